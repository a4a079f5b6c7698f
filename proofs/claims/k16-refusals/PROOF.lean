import PyProof.Rows.All
import Wide.All
import OpenK.AllK
import Wide.FinOn
import HandS.HotCalls
import HandS.Zip
import HandS.TupSets
import PyProof.Rows.CountFlat
import HandS.ForMost
import HandS.ForExc
import HandS.IsInst
import HandS.Deep
import HandS.Conv
import HandS.Wide
import HandS.Evl
import HandS.ExcIs
import HandS.Walk
import PyProof.StrBlock2
import PyProof.ListStr
import KE.KIsAll
import KE.GoesMore
import KE.GoesEnum
import HandS.Style
import PySem.Challenge.RW_shoreways_k16_refusals_apart
set_option Elab.async false
set_option linter.all false
set_option maxRecDepth 100000
set_option maxHeartbeats 4000000
/-! Never both: a north road and a west road of a board can't stand together (parity of crossings). Plain Lean. -/
namespace Sw
abbrev Cell := Int × Int
def near6 (p : Cell) : List Cell := [(p.1 - 1, p.2), (p.1 - 1, p.2 + 1), (p.1, p.2 + 1), (p.1 + 1, p.2), (p.1 + 1, p.2 - 1), (p.1, p.2 - 1)]
theorem near6_iff {p q : Cell} : q ∈ near6 p ↔ (q.1 = p.1 - 1 ∧ q.2 = p.2) ∨ (q.1 = p.1 - 1 ∧ q.2 = p.2 + 1) ∨ (q.1 = p.1 ∧ q.2 = p.2 + 1) ∨ (q.1 = p.1 + 1 ∧ q.2 = p.2) ∨ (q.1 = p.1 + 1 ∧ q.2 = p.2 - 1) ∨ (q.1 = p.1 ∧ q.2 = p.2 - 1) := by
  simp only [near6, List.mem_cons, List.not_mem_nil, or_false, Prod.ext_iff]
theorem near6_symm {p q : Cell} (h : q ∈ near6 p) : p ∈ near6 q := by
  rw [near6_iff] at h ⊢
  omega
/-- a hand's sign (false: the north hand's n; true: the west hand's w), its own coordinate, its extent -/
def lt (s : Bool) : Nat := if s then 119 else 110
def sd (s : Bool) (p : Cell) : Int := if s then p.2 else p.1
def ext (s : Bool) (h w : Nat) : Int := if s then (w : Int) else (h : Int)
inductive Reach (g : Cell → Nat) (s : Bool) : Cell → Prop
  | first {p : Cell} : g p = lt s → sd s p = 0 → Reach g s p
  | next {p q : Cell} : Reach g s p → q ∈ near6 p → g q = lt s → Reach g s q
theorem Reach.sign {g : Cell → Nat} {s : Bool} {p : Cell} (h : Reach g s p) : g p = lt s := by
  cases h with
  | first a _ => exact a
  | next _ _ a => exact a
def Joined (g : Cell → Nat) (h w : Nat) (s : Bool) : Prop := ∃ p, Reach g s p ∧ sd s p = ext s h w - 1
def Sup (g : Cell → Nat) (h w : Nat) : Prop := ∀ p, g p ≠ 0 → 0 ≤ p.1 ∧ p.1 < (h : Int) ∧ 0 ≤ p.2 ∧ p.2 < (w : Int)

/-! ### parity -/
def Chn : Cell → List Cell → Prop
  | _, [] => True
  | a, b :: l => a ∈ near6 b ∧ Chn b l
def lst : Cell → List Cell → Cell
  | a, [] => a
  | _, b :: l => lst b l
def cnt (e : Cell → Cell → Bool) : Cell → List Cell → Bool
  | _, [] => false
  | a, b :: l => xor (e a b) (cnt e b l)
def lf (x p : Cell) : Bool := decide (p.1 = x.1 ∧ p.2 < x.2)
/-- an edge between row x.1 and row x.1 + d whose end in row x.1 lies left of x -/
def ed (d : Int) (x a b : Cell) : Bool := (lf x a && decide (b.1 = x.1 + d)) || (lf x b && decide (a.1 = x.1 + d))
theorem ne_cell {a x : Cell} (h : a ≠ x) : ¬ (a.1 = x.1 ∧ a.2 = x.2) := fun e => h (Prod.ext e.1 e.2)
theorem xor_dec {p q : Prop} [Decidable p] [Decidable q] {b : Bool} (h : b = true ↔ ((p ∧ ¬ q) ∨ (¬ p ∧ q))) : b = xor (decide p) (decide q) := by
  by_cases hp : p <;> by_cases hq : q <;> cases b <;> simp_all
theorem ed_iff {d : Int} {x a b : Cell} : ed d x a b = true ↔ ((a.1 = x.1 ∧ a.2 < x.2) ∧ b.1 = x.1 + d) ∨ ((b.1 = x.1 ∧ b.2 < x.2) ∧ a.1 = x.1 + d) := by
  simp only [ed, lf, Bool.or_eq_true, Bool.and_eq_true, decide_eq_true_eq]
theorem ed_tog {x a b : Cell} (h : a ∈ near6 b) (ha : a ≠ x) (hb : b ≠ x) : xor (ed (-1) x a b) (ed 1 x a b) = xor (lf x a) (lf x b) := by
  rw [near6_iff] at h
  have ha' := ne_cell ha
  have hb' := ne_cell hb
  unfold lf
  refine xor_dec ?_
  have : (xor (ed (-1) x a b) (ed 1 x a b) = true) ↔ ((ed (-1) x a b = true ∧ ¬ ed 1 x a b = true) ∨ (¬ ed (-1) x a b = true ∧ ed 1 x a b = true)) := by
    cases ed (-1) x a b <;> cases ed 1 x a b <;> decide
  rw [this, ed_iff, ed_iff]
  rcases h with h | h | h | h | h | h <;> rw [h.1] <;> omega
theorem cnt_tog {x : Cell} : ∀ (l : List Cell) (a : Cell), Chn a l → (∀ q, q ∈ a :: l → q ≠ x) → xor (cnt (ed (-1) x) a l) (cnt (ed 1 x) a l) = xor (lf x a) (lf x (lst a l))
  | [], a, _, _ => by
    show xor false false = xor (lf x a) (lf x a)
    cases lf x a <;> rfl
  | b :: l, a, h, hx => by
    have ih := cnt_tog l b h.2 (fun q hq => hx q (List.mem_cons_of_mem _ hq))
    have e := ed_tog h.1 (hx a (List.mem_cons_self)) (hx b (List.mem_cons_of_mem _ List.mem_cons_self))
    show xor (xor (ed (-1) x a b) (cnt (ed (-1) x) b l)) (xor (ed 1 x a b) (cnt (ed 1 x) b l)) = xor (lf x a) (lf x (lst b l))
    revert e ih
    generalize ed (-1) x a b = p1
    generalize ed 1 x a b = p2
    generalize cnt (ed (-1) x) b l = p3
    generalize cnt (ed 1 x) b l = p4
    generalize lf x a = p5
    generalize lf x b = p6
    generalize lf x (lst b l) = p7
    cases p1 <;> cases p2 <;> cases p3 <;> cases p4 <;> cases p5 <;> cases p6 <;> cases p7 <;> decide
theorem cnt_congr {e e' : Cell → Cell → Bool} {P : Cell → Prop} (h : ∀ a b, a ∈ near6 b → P a → P b → e a b = e' a b) : ∀ (l : List Cell) (a : Cell), Chn a l → (∀ q, q ∈ a :: l → P q) → cnt e a l = cnt e' a l
  | [], _, _, _ => rfl
  | b :: l, a, c, hp => by
    show xor (e a b) (cnt e b l) = xor (e' a b) (cnt e' b l)
    rw [h a b c.1 (hp a List.mem_cons_self) (hp b (List.mem_cons_of_mem _ List.mem_cons_self)), cnt_congr h l b c.2 (fun q hq => hp q (List.mem_cons_of_mem _ hq))]
/-- crossing from rows ≤ r to rows > r -/
theorem cnt_rows {e : Cell → Cell → Bool} {r : Int} {P : Cell → Prop} (h : ∀ a b, a ∈ near6 b → P a → P b → e a b = xor (decide (a.1 ≤ r)) (decide (b.1 ≤ r))) : ∀ (l : List Cell) (a : Cell), Chn a l → (∀ q, q ∈ a :: l → P q) → cnt e a l = xor (decide (a.1 ≤ r)) (decide ((lst a l).1 ≤ r))
  | [], a, _, _ => by
    show false = xor (decide (a.1 ≤ r)) (decide (a.1 ≤ r))
    cases decide (a.1 ≤ r) <;> rfl
  | b :: l, a, c, hp => by
    have ih := cnt_rows h l b c.2 (fun q hq => hp q (List.mem_cons_of_mem _ hq))
    show xor (e a b) (cnt e b l) = xor (decide (a.1 ≤ r)) (decide ((lst b l).1 ≤ r))
    rw [ih, h a b c.1 (hp a List.mem_cons_self) (hp b (List.mem_cons_of_mem _ List.mem_cons_self))]
    cases decide (a.1 ≤ r) <;> cases decide (b.1 ≤ r) <;> cases decide ((lst b l).1 ≤ r) <;> rfl

theorem ed_side {x y : Cell} (h : (y.1 = x.1 ∧ y.2 = x.2 + 1) ∨ (y.1 = x.1 ∧ y.2 = x.2 - 1)) (a b : Cell) (_ : a ∈ near6 b) (ha : a ≠ x ∧ a ≠ y) (hb : b ≠ x ∧ b ≠ y) : ed 1 x a b = ed 1 y a b := by
  have a1 := ne_cell ha.1
  have a2 := ne_cell ha.2
  have b1 := ne_cell hb.1
  have b2 := ne_cell hb.2
  have e1 : lf x a = lf y a := decide_eq_decide.mpr (by omega)
  have e2 : lf x b = lf y b := decide_eq_decide.mpr (by omega)
  have e3 : y.1 = x.1 := by omega
  unfold ed
  rw [e1, e2, e3]
theorem ed_down {x y : Cell} (h : (y.1 = x.1 + 1 ∧ y.2 = x.2) ∨ (y.1 = x.1 + 1 ∧ y.2 = x.2 - 1)) (a b : Cell) (hab : a ∈ near6 b) (ha : a ≠ x ∧ a ≠ y) (hb : b ≠ x ∧ b ≠ y) : ed 1 x a b = ed (-1) y a b := by
  have a1 := ne_cell ha.1
  have a2 := ne_cell ha.2
  have b1 := ne_cell hb.1
  have b2 := ne_cell hb.2
  rw [near6_iff] at hab
  rw [Bool.eq_iff_iff, ed_iff, ed_iff]
  rcases hab with q | q | q | q | q | q <;> rcases h with k | k <;> rw [q.1, k.1] <;> omega
theorem ed_up {x y : Cell} (h : (y.1 = x.1 - 1 ∧ y.2 = x.2) ∨ (y.1 = x.1 - 1 ∧ y.2 = x.2 + 1)) (a b : Cell) (hab : a ∈ near6 b) (ha : a ≠ x ∧ a ≠ y) (hb : b ≠ x ∧ b ≠ y) : ed (-1) x a b = ed 1 y a b :=
  (ed_down (x := y) (y := x) (by omega) a b hab ⟨ha.2, ha.1⟩ ⟨hb.2, hb.1⟩).symm

theorem reach_chain {g : Cell → Nat} {p : Cell} (h : Reach g false p) : ∃ l, Chn p l ∧ (∀ q, q ∈ p :: l → g q = 110 ∨ q.1 = -1) ∧ (lst p l).1 = -1 := by
  induction h with
  | @first p a b =>
    refine ⟨[(-1, p.2)], ⟨?_, trivial⟩, ?_, rfl⟩
    · have : p.1 = 0 := b
      exact near6_iff.mpr (.inr (.inr (.inr (.inl ⟨by show p.1 = -1 + 1; omega, rfl⟩))))
    · intro q hq
      rcases List.mem_cons.mp hq with rfl | hq
      · exact .inl a
      · rcases List.mem_cons.mp hq with rfl | hq
        · exact .inr rfl
        · cases hq
  | @next p q _ hn hq ih =>
    obtain ⟨l, c, m, e⟩ := ih
    refine ⟨p :: l, ⟨hn, c⟩, ?_, e⟩
    intro z hz
    rcases List.mem_cons.mp hz with rfl | hz
    · exact .inl hq
    · exact m z hz

theorem never_both {g : Cell → Nat} {h w : Nat} (S : Sup g h w) (hn : Joined g h w false) (hw : Joined g h w true) : False := by
  obtain ⟨p, hp, pe⟩ := hn
  obtain ⟨l0, c0, m0, e0⟩ := reach_chain hp
  have pe' : p.1 = (h : Int) - 1 := pe
  -- the road, and a place below
  let top : Cell := ((h : Int), p.2)
  have cc : Chn top (p :: l0) := ⟨near6_iff.mpr (.inr (.inr (.inr (.inl ⟨by show (h : Int) = p.1 + 1; omega, rfl⟩)))), c0⟩
  have mm : ∀ q, q ∈ top :: p :: l0 → (g q = 110 ∧ 0 ≤ q.1 ∧ q.1 < (h : Int) ∧ 0 ≤ q.2 ∧ q.2 < (w : Int)) ∨ q.1 = -1 ∨ q.1 = (h : Int) := by
    intro q hq
    rcases List.mem_cons.mp hq with rfl | hq
    · exact .inr (.inr rfl)
    · rcases m0 q hq with e | e
      · exact .inl ⟨e, S q (by rw [e]; decide)⟩
      · exact .inr (.inl e)
  have el : (lst top (p :: l0)).1 = -1 := e0
  -- a west stone is on no north road
  have off : ∀ x : Cell, g x = 119 → ∀ q, q ∈ top :: p :: l0 → q ≠ x := by
    intro x hx q hq e
    have sx := S x (by rw [hx]; decide)
    subst e
    rcases mm q hq with z | z | z
    · rw [hx] at z
      exact absurd z.1 (by decide)
    · omega
    · omega
  have tog : ∀ x : Cell, g x = 119 → cnt (ed (-1) x) top (p :: l0) = cnt (ed 1 x) top (p :: l0) := by
    intro x hx
    have sx := S x (by rw [hx]; decide)
    have t := cnt_tog (p :: l0) top cc (off x hx)
    have f1 : lf x top = false := decide_eq_false (by simp only [top]; omega)
    have f2 : lf x (lst top (p :: l0)) = false := decide_eq_false (by rw [el]; omega)
    rw [f1, f2] at t
    revert t
    cases cnt (ed (-1) x) top (p :: l0) <;> cases cnt (ed 1 x) top (p :: l0) <;> decide
  -- nothing crosses left of a west stone that is reached
  have key : ∀ x, Reach g true x → cnt (ed 1 x) top (p :: l0) = false := by
    intro x hx
    induction hx with
    | @first x a b =>
      have b' : x.2 = 0 := b
      have sx := S x (by rw [a]; decide)
      have := cnt_rows (e := ed 1 x) (r := (h : Int) + 1) (P := fun q => q.1 ≤ (h : Int) ∧ ((0 ≤ q.2) ∨ q.1 = -1 ∨ q.1 = (h : Int))) (fun u v huv pu pv => by
        rw [near6_iff] at huv
        have q1 : lf x u = false := decide_eq_false (by omega)
        have q2 : lf x v = false := decide_eq_false (by omega)
        unfold ed
        rw [q1, q2]
        rw [decide_eq_true (show u.1 ≤ (h : Int) + 1 by omega), decide_eq_true (show v.1 ≤ (h : Int) + 1 by omega)]
        rfl) (p :: l0) top cc (fun q hq => by
        rcases mm q hq with z | z
        · exact ⟨by omega, .inl z.2.2.2.1⟩
        · exact ⟨by omega, .inr z⟩)
      rw [this, el]
      have k1 : top.1 ≤ (h : Int) + 1 := by simp only [top]; omega
      have k2 : (-1 : Int) ≤ (h : Int) + 1 := by omega
      rw [decide_eq_true k1, decide_eq_true k2]
      rfl
    | @next x y hx hn hy ih =>
      have gx := hx.sign
      have gx' : g x = 119 := gx
      have gy' : g y = 119 := hy
      have ox := off x gx'
      have oy := off y gy'
      have cg : ∀ (d d' : Int) (u v : Cell), (∀ a b : Cell, a ∈ near6 b → (a ≠ x ∧ a ≠ y) → (b ≠ x ∧ b ≠ y) → ed d u a b = ed d' v a b) → cnt (ed d u) top (p :: l0) = cnt (ed d' v) top (p :: l0) := fun d d' u v hh =>
        cnt_congr (P := fun q => q ≠ x ∧ q ≠ y) hh (p :: l0) top cc (fun q hq => ⟨ox q hq, oy q hq⟩)
      have hn' := hn
      rw [near6_iff] at hn'
      rcases hn' with e | e | e | e | e | e
      · rw [← cg (-1) 1 x y (ed_up (.inl e)), tog x gx', ih]
      · rw [← cg (-1) 1 x y (ed_up (.inr e)), tog x gx', ih]
      · rw [← cg 1 1 x y (ed_side (.inl e)), ih]
      · rw [← tog y gy', ← cg 1 (-1) x y (ed_down (.inl e)), ih]
      · rw [← tog y gy', ← cg 1 (-1) x y (ed_down (.inr e)), ih]
      · rw [← cg 1 1 x y (ed_side (.inr e)), ih]
  obtain ⟨x, hx, xe⟩ := hw
  have xe' : x.2 = (w : Int) - 1 := xe
  have gx' : g x = 119 := hx.sign
  have sx := S x (by rw [gx']; decide)
  have k0 := key x hx
  have := cnt_rows (e := ed 1 x) (r := x.1) (P := fun q => q ≠ x ∧ ((q.2 < (w : Int)) ∨ q.1 = -1 ∨ q.1 = (h : Int))) (fun u v huv pu pv => by
    rw [near6_iff] at huv
    have hu' := ne_cell pu.1
    have hv' := ne_cell pv.1
    have pu2 := pu.2
    have pv2 := pv.2
    refine xor_dec ?_
    rw [ed_iff]
    rcases huv with q | q | q | q | q | q <;> omega) (p :: l0) top cc (fun q hq => by
    refine ⟨off x gx' q hq, ?_⟩
    rcases mm q hq with z | z
    · exact .inl z.2.2.2.2
    · exact .inr z)
  rw [this, el] at k0
  have k1 : ¬ top.1 ≤ x.1 := by simp only [top]; omega
  have k2 : (-1 : Int) ≤ x.1 := by omega
  rw [decide_eq_false k1, decide_eq_true k2] at k0
  cases k0
end Sw
/-! Helpers over the hand layer. -/
namespace Sw
open PySem PySem.Spec PyProof.Rows L2

/-! ### heaps -/
theorem same_new {H : Hp} {p : Addr} (h : H p = none) (o : HO) : Same H (upd H p o) := fun b u q => by rw [upd_ne (ne_of_none q h)]; exact q
theorem same_mut {H H' : Hp} {p : Addr} {o : HO} (e : Same H H') (h : H p = none) : Same H (upd H' p o) := fun a u ha => by
  rw [upd_ne (ne_of_none ha h)]
  exact e a u ha
theorem same_seqT {K : PySem.W.Frag} {H H' : Hp} {a : Addr} {xs : List V} (e : Same H H') (h : SqT K H a xs) : SqT K H' a xs := by
  rcases h with (h | ⟨o, h⟩) | h
  · exact .inl (.inl (e _ _ h))
  · exact .inl (.inr ⟨o, e _ _ h⟩)
  · exact .inr h
/-- tuples stay -/
def Tps (H H' : Hp) : Prop := ∀ a xs, H a = some (.tup xs) → H' a = some (.tup xs)
theorem Tps.refl (H : Hp) : Tps H H := fun _ _ h => h
theorem Tps.trans {H H1 H2 : Hp} (a : Tps H H1) (b : Tps H1 H2) : Tps H H2 := fun x o h => b x o (a x o h)
theorem Tps.of {H H' : Hp} (s : Same H H') : Tps H H' := fun a xs h => s a _ h
theorem Tps.lst {H : Hp} {l : Addr} {ys : List V} {o : HO} (h : H l = some (.lst ys)) : Tps H (upd H l o) := fun a xs e => by
  rw [upd_ne (ne_of e h (by intro z; cases z))]
  exact e
theorem Tps.dT {H : Hp} {l : Addr} {ys : List (List Key × V)} {o : HO} (h : H l = some (.dT ys)) : Tps H (upd H l o) := fun a xs e => by
  rw [upd_ne (ne_of e h (by intro z; cases z))]
  exact e
mutual
theorem dp_same {K : PySem.W.Frag} {H H' : Hp} (s : Same H H') : ∀ {d : PyData} {v : V}, Dp K H v d → Dp K H' v d
  | _, _, .non => .non
  | _, _, .bl b => .bl b
  | _, _, .int i => .int i
  | _, _, .str x => .str x
  | _, _, .lst h a => .lst (s.seq h) (dpa_same s a)
  | _, _, .tup h a => .tup (same_seqT s h) (dpa_same s a)
theorem dpa_same {K : PySem.W.Frag} {H H' : Hp} (s : Same H H') : ∀ {ds : List PyData} {vs : List V}, DpAll K H vs ds → DpAll K H' vs ds
  | _, _, .nil => .nil
  | _, _, .cons h t => .cons (dp_same s h) (dpa_same s t)
end
theorem dpa_app {K : PySem.W.Frag} {H : Hp} : ∀ {vs ws : List V} {ds es : List PyData}, DpAll K H vs ds → DpAll K H ws es → DpAll K H (vs ++ ws) (ds ++ es)
  | _, _, _, _, .nil, h => h
  | _, _, _, _, .cons a b, h => .cons a (dpa_app b h)
theorem dpa_len {K : PySem.W.Frag} {H : Hp} : ∀ {vs : List V} {ds : List PyData}, DpAll K H vs ds → vs.length = ds.length
  | _, _, .nil => rfl
  | _, _, .cons _ b => by rw [List.length_cons, List.length_cons, dpa_len b]
theorem hu65 {k : Nat} {A : Around} (r : Room k A) : A.units + 65 < cLine := by have := r.un; omega

/-! ### cells: tuples of two ints -/
def cellV (c : Cell) : List V := [.int c.1, .int c.2]
def cellD (c : Cell) : PyData := .tuple [.int c.1, .int c.2]
inductive Cells (H : Hp) : List V → List Cell → Prop
  | nil : Cells H [] []
  | cons {a : Addr} {c : Cell} {vs : List V} {cs : List Cell} : H a = some (.tup (cellV c)) → Cells H vs cs → Cells H (.ref a :: vs) (c :: cs)
theorem Cells.tps {H H' : Hp} (s : Tps H H') : ∀ {vs : List V} {cs : List Cell}, Cells H vs cs → Cells H' vs cs
  | _, _, .nil => .nil
  | _, _, .cons h t => .cons (s _ _ h) (Cells.tps s t)
theorem Cells.same {H H' : Hp} (s : Same H H') {vs : List V} {cs : List Cell} (h : Cells H vs cs) : Cells H' vs cs := h.tps (.of s)
theorem Cells.len {H : Hp} : ∀ {vs : List V} {cs : List Cell}, Cells H vs cs → vs.length = cs.length
  | _, _, .nil => rfl
  | _, _, .cons _ t => by rw [List.length_cons, List.length_cons, Cells.len t]
theorem Cells.get {H : Hp} : ∀ {vs : List V} {cs : List Cell} {i : Nat} {x : V}, Cells H vs cs → vs[i]? = some x → ∃ a c, x = .ref a ∧ cs[i]? = some c ∧ H a = some (.tup (cellV c))
  | _, _, _, _, .nil, e => by simp at e
  | _, _, 0, _, .cons h _, e => by
    simp at e
    subst e
    exact ⟨_, _, rfl, rfl, h⟩
  | _, _, i + 1, _, .cons _ t, e => Cells.get (i := i) t (by simpa using e)
theorem Cells.at {H : Hp} : ∀ {vs : List V} {cs : List Cell} {i : Nat} {c : Cell}, Cells H vs cs → cs[i]? = some c → ∃ a, vs[i]? = some (.ref a) ∧ H a = some (.tup (cellV c))
  | _, _, _, _, .nil, e => by simp at e
  | _, _, 0, _, .cons h _, e => by
    simp at e
    subst e
    exact ⟨_, rfl, h⟩
  | _, _, i + 1, _, .cons _ t, e => Cells.at (i := i) t (by simpa using e)
theorem Cells.app {H : Hp} : ∀ {vs ws : List V} {cs ds : List Cell}, Cells H vs cs → Cells H ws ds → Cells H (vs ++ ws) (cs ++ ds)
  | _, _, _, _, .nil, h => h
  | _, _, _, _, .cons a b, h => .cons a (Cells.app b h)
theorem Cells.one {H : Hp} {a : Addr} {c : Cell} (h : H a = some (.tup (cellV c))) : Cells H [.ref a] [c] := .cons h .nil
theorem cell_dp {K : PySem.W.Frag} {H : Hp} {a : Addr} {c : Cell} (h : H a = some (.tup (cellV c))) : Dp K H (.ref a) (cellD c) := .tup (.inl (.inl h)) (.cons (.int _) (.cons (.int _) .nil))
theorem Cells.dp {K : PySem.W.Frag} {H : Hp} : ∀ {vs : List V} {cs : List Cell}, Cells H vs cs → DpAll K H vs (cs.map cellD)
  | _, _, .nil => .nil
  | _, _, .cons h t => .cons (cell_dp h) (Cells.dp t)
theorem can_cells : ∀ cs : List Cell, PyData.canLayAll0 (cs.map cellD) = true
  | [] => rfl
  | c :: cs => by
    rw [List.map_cons, PyData.canLayAll0, can_cells cs]
    rfl
theorem dep_cells : ∀ cs : List Cell, PyData.depthAll (cs.map cellD) ≤ 1
  | [] => by decide
  | c :: cs => by
    have h := dep_cells cs
    rw [List.map_cons, PyData.depthAll]
    have e : (cellD c).depth = 1 := rfl
    rw [e]
    omega
theorem shaped_cells (cs : List Cell) : SeqAt.shaped (.list (cs.map cellD)) = true := by
  unfold SeqAt.shaped
  have h := dep_cells cs
  rw [show (PyData.list (cs.map cellD)).canLay0 = PyData.canLayAll0 (cs.map cellD) from rfl, can_cells]
  have : (PyData.list (cs.map cellD)).depth ≤ 64 := by
    rw [PyData.depth]
    omega
  rw [decide_eq_true this]
  rfl
theorem shaped_cell (c : Cell) : SeqAt.shaped (cellD c) = true := rfl
theorem eqv_cells (cs : List Cell) : PyData.eqv (.list (cs.map cellD)) (.list (cs.map cellD)) = true := SeqAt.eqv_refl _ (can_cells cs)
theorem eqv_cell (c d : Cell) : PyData.eqv (cellD c) (cellD d) = decide (c = d) := by
  show (c.1 == d.1 && (c.2 == d.2 && true)) = decide (c = d)
  rw [Bool.eq_iff_iff]
  simp [Prod.ext_iff]
theorem any_cells (c : Cell) (cs : List Cell) : ((cs.map cellD).any fun z => PyData.eqv z (cellD c)) = decide (c ∈ cs) := by
  rw [Bool.eq_iff_iff, List.any_eq_true, decide_eq_true_eq]
  constructor
  · rintro ⟨x, hx, e⟩
    obtain ⟨d, hd, rfl⟩ := List.mem_map.mp hx
    rw [eqv_cell, decide_eq_true_eq] at e
    exact e ▸ hd
  · intro h
    exact ⟨cellD c, List.mem_map.mpr ⟨c, h, rfl⟩, by rw [eqv_cell, decide_eq_true rfl]⟩
/-- items of a mapped list -/
theorem map_get {α β : Type} {f : α → β} {l : List α} {i : Nat} {y : β} (h : (l.map f)[i]? = some y) : ∃ x, l[i]? = some x ∧ f x = y := by
  rw [List.getElem?_map] at h
  cases e : l[i]? with
  | none => rw [e] at h; cases h
  | some z => rw [e] at h; exact ⟨z, rfl, Option.some.inj h⟩
theorem get_lt {α : Type} {l : List α} {i : Nat} {y : α} (h : l[i]? = some y) : i < l.length := (List.getElem?_eq_some_iff.mp h).1
theorem atI_cps {α : Type} {l : List α} {k : Int} {v : α} (h0 : 0 ≤ k) (h : l[k.toNat]? = some v) : atI l k = some v := by
  have e : k = ((k.toNat : Nat) : Int) := by omega
  rw [e]
  exact atI_nat h
theorem at_int {l : List V} {k : Int} {v : V} (h0 : 0 ≤ k) (h : l[k.toNat]? = some v) : atI l k = some v := at_of (j := k.toNat) (by omega) h
theorem near6_get (r c : Int) (i : Nat) (p : Cell) (h : (near6 (r, c))[i]? = some p) : (r, c) ∈ near6 p := near6_symm (List.mem_of_getElem? h)
theorem sz0 : ([] : List V).length ≤ sizeLine := by show 0 ≤ sizeLine; decide
theorem sz1 {a : V} : [a].length ≤ sizeLine := by show 1 ≤ sizeLine; decide
theorem sz2 {a b : V} : [a, b].length ≤ sizeLine := by show 2 ≤ sizeLine; decide
theorem sz3 {a b c : V} : [a, b, c].length ≤ sizeLine := by show 3 ≤ sizeLine; decide
theorem sz4 {a b c d : V} : [a, b, c, d].length ≤ sizeLine := by show 4 ≤ sizeLine; decide
theorem sz5 {a b c d e : V} : [a, b, c, d, e].length ≤ sizeLine := by show 5 ≤ sizeLine; decide
theorem sz6 {a b c d e f : V} : [a, b, c, d, e, f].length ≤ sizeLine := by show 6 ≤ sizeLine; decide
theorem sz_le {n : Nat} (h : n ≤ 1000000) : n ≤ sizeLine := Nat.le_trans h (by decide)
theorem sz_lt {n : Nat} (h : n < 1000000) : n < sizeLine := Nat.lt_of_lt_of_le h (by decide)
theorem iteB {b : Bool} {A B : Prop} (h1 : b = true → A) (h2 : b = false → B) : if b = true then A else B := by
  cases b with
  | true => exact iteT (h1 rfl)
  | false => exact iteF (h2 rfl)
theorem iteD {p : Prop} [Decidable p] {A B : Prop} (h1 : p → A) (h2 : ¬ p → B) : if decide p = true then A else B :=
  iteB (fun h => h1 (of_decide_eq_true h)) (fun h => h2 (of_decide_eq_false h))
theorem iteN {p : Prop} [Decidable p] {A B : Prop} (h1 : ¬ p → A) (h2 : p → B) : if (!decide p) = true then A else B := by
  by_cases h : p
  · rw [decide_eq_true h]
    exact iteF (h2 h)
  · rw [decide_eq_false h]
    exact iteT (h1 h)
theorem iteNB {b : Bool} {A B : Prop} (h1 : b = false → A) (h2 : b = true → B) : if (!b) = true then A else B := by
  cases b with
  | true => exact iteF (h2 rfl)
  | false => exact iteT (h1 rfl)
theorem tn {f : L2.St → Hp → Prop} {r : VK} {b c : L2.St → Hp → Prop} {σ : L2.St} {H : Hp} (h : f σ H) : tNext ⟨f, r, b, c⟩ σ H := h
theorem gn {i : Nat} {v : V} {f : L2.St → Hp → Prop} {r : VK} {b c : L2.St → Hp → Prop} {σ : L2.St} {H : Hp} (h : f (σ.set i (some v)) H) : gName i v σ H (Ends.nx ⟨f, r, b, c⟩) := h
/-! ### cuts: what an expression is worth, said once -/
theorem qa {i : Nat} {te : TE} {tz : TS} {D : Ends} {σ : L2.St} {H : Hp} (Pr : V → Hp → Prop) (h : ∀ Q : VK, (∀ v H1, Pr v H1 → Q v H1) → te σ H Q) (k : ∀ v H1, Pr v H1 → tz D (σ.set i (some v)) H1) : tSeq (tAsg te (gName i)) tz D σ H := h _ k
theorem qe {te : TE} {σ : L2.St} {H : Hp} {Q : VK} (Pr : V → Hp → Prop) (h : ∀ Q : VK, (∀ v H1, Pr v H1 → Q v H1) → te σ H Q) (k : ∀ v H1, Pr v H1 → Q v H1) : te σ H Q := h _ k
/-- a new list of the cells cs stands at v -/
def NewCells (H : Hp) (cs : List Cell) (v : V) (H' : Hp) : Prop := ∃ (p : Addr) (ws : List V), v = .ref p ∧ H p = none ∧ Same H H' ∧ H' p = some (.lst ws) ∧ Cells H' ws cs
theorem new_six {H : Hp} {r c : Int} {t1 t2 t3 t4 t5 t6 p : Addr} {H1 H2 H3 H4 H5 H6 : Hp} (e1 : H1 = upd H t1 (.tup (cellV (r - 1, c)))) (e2 : H2 = upd H1 t2 (.tup (cellV (r - 1, c + 1)))) (e3 : H3 = upd H2 t3 (.tup (cellV (r, c + 1)))) (e4 : H4 = upd H3 t4 (.tup (cellV (r + 1, c))))
    (e5 : H5 = upd H4 t5 (.tup (cellV (r + 1, c - 1)))) (e6 : H6 = upd H5 t6 (.tup (cellV (r, c - 1)))) (h1 : H t1 = none) (h2 : H1 t2 = none) (h3 : H2 t3 = none) (h4 : H3 t4 = none) (h5 : H4 t5 = none) (h6 : H5 t6 = none) (hp : H6 p = none) :
    NewCells H (near6 (r, c)) (.ref p) (upd H6 p (.lst [.ref t1, .ref t2, .ref t3, .ref t4, .ref t5, .ref t6])) := by
  subst e1 e2 e3 e4 e5 e6
  have s1 := same_new h1 (.tup (cellV (r - 1, c)))
  have s2 := same_new h2 (.tup (cellV (r - 1, c + 1)))
  have s3 := same_new h3 (.tup (cellV (r, c + 1)))
  have s4 := same_new h4 (.tup (cellV (r + 1, c)))
  have s5 := same_new h5 (.tup (cellV (r + 1, c - 1)))
  have s6 := same_new h6 (.tup (cellV (r, c - 1)))
  have s7 := same_new hp (.lst [.ref t1, .ref t2, .ref t3, .ref t4, .ref t5, .ref t6])
  refine ⟨p, _, rfl, (s1.trans (s2.trans (s3.trans (s4.trans (s5.trans s6))))).free hp, s1.trans (s2.trans (s3.trans (s4.trans (s5.trans (s6.trans s7))))), upd_same, ?_⟩
  exact .cons (s7 _ _ (s6 _ _ (s5 _ _ (s4 _ _ (s3 _ _ (s2 _ _ upd_same)))))) (.cons (s7 _ _ (s6 _ _ (s5 _ _ (s4 _ _ (s3 _ _ upd_same))))) (.cons (s7 _ _ (s6 _ _ (s5 _ _ (s4 _ _ upd_same)))) (.cons (s7 _ _ (s6 _ _ (s5 _ _ upd_same))) (.cons (s7 _ _ (s6 _ _ upd_same)) (.cons (s7 _ _ upd_same) .nil)))))
end Sw
/-! Further rules over the hand layer: a text times a number, an own object made within a try, isinstance of what a suite holds, .. -/
namespace Sw
open PySem PySem.Spec PyProof.Rows L2
section
variable {X : Cx}
/-- text * number, both small -/
def rMulS : R2 := fun x y Hh Q => ∃ (z : Str) (k : Int), x = .str z ∧ y = .int k ∧ z.length ≤ 1000 ∧ -1000 ≤ k ∧ k ≤ 1000 ∧ Q (.str (Txt.mul z k)) Hh
theorem op_mul_str : OpR X (binaryOp .Mult) rMulS := by
  intro pins s σ Hh x y v u Q I rx ry hh
  obtain ⟨z, k, rfl, rfl, hz, h1, h2, q⟩ := hh
  obtain ⟨t, rfl⟩ := rx
  obtain ⟨t', rfl⟩ := ry
  refine SB.mul ⟨?_, fun a _ => ?_, fun a _ => ?_⟩ (fun t2 tk => ⟨.str (Txt.mul z k), Hh, I.tok _, ⟨_, rfl⟩, q⟩)
  · rw [decide_eq_false (show ¬ k < -(2 ^ 63 : Int) by omega), decide_eq_false (show ¬ k ≥ 2 ^ 63 by omega)]
    rfl
  · have : (1000 : Int) ≤ (2 ^ 63 - 1) / k := by
      rw [Int.le_ediv_iff_mul_le (by omega)]
      omega
    omega
  · have e : z.length * k.toNat ≤ 1000 * 1000 := Nat.mul_le_mul hz (by omega)
    show decide (z.length * k.toNat > sizeLine) = false
    refine decide_eq_false ?_
    have : (1000 * 1000 : Nat) ≤ sizeLine := by decide
    omega
/-- list(text) -/
def rListStr : List V → Hp → VK → Prop := fun xs Hh Q => ∃ z : Str, xs = [.str z] ∧ z.length ≤ 1000 ∧ ∀ l, Hh l = none → Q (.ref l) (upd Hh l (.lst (z.cps.toList.map fun c => V.str ⟨#[c]⟩)))
end

/-! ### C(e, ..) of an own class within a try: what __init__ raises is wished for at the slots as they stand -/
section
variable {X : Cx} {CX : CXT} {k : Nat} {f C : Addr} {fd : FuncData} {ps : List Str} {sp : Sp} {E : L2.St → XK} {x : Str} {p pos : Pos} {e : Expr} {es : List Expr} {t : TA}
theorem run_makeS {pins : List (Addr × Obj)} {σ : L2.St} {H : Hp} {s : Shared} {Q : VK} {us : List Value} {vs : List V}
    (M : Mk X.K C f) (F : FnOk X.prog X.w X.K X.mg X.base CX k f fd ps sp) (hr : Room (k + 1) X.A)
    (hb : Binds X.K fd ps []) (hx : PassesAt CX X σ (E σ)) (I : Inv X pins σ H s) (r : Vals vs us)
    (h : ∀ o d, H o = none → H d = none → d ≠ o → sp (.ref o :: vs) (upd (upd H d (.own o)) o (.ins C d [])) (fun v H2 => v = .non ∧ Q (.ref o) H2) (E σ)) :
    wpAny (model X.prog X.w) X.A (call (.ref C) us) (EP X pins σ Q) X.xe s := by
  have hq := h (s.heap.objs.size + 1) s.heap.objs.size (I.hok.fresh (Nat.le_succ _)) (I.hok.fresh (Nat.le_refl _)) (Nat.ne_of_lt (Nat.lt_succ_self _))
  have J := Inv.made (C := C) I
  have rr : Vals (V.ref (s.heap.objs.size + 1) :: vs) (Value.ref (s.heap.objs.size + 1) :: us) := .cons rfl r
  have hl : (Value.ref (s.heap.objs.size + 1) :: us).length = ps.length := by
    have e := rr.length
    rw [F.len _ _ _ _ hq] at e
    exact e.symm
  have bb := hb _ (Value.ref (s.heap.objs.size + 1) :: us) J.kIn (by rw [List.append_nil]; exact hl)
  rw [List.append_nil] at bb
  refine wpAny_call (make_map (f := f) I.kIn M.makes M.init (beq_iff_eq.mp M.fn) (codeAny_mono (F.run _ X.stack _ _ ⟨Value.ref (s.heap.objs.size + 1) :: us, []⟩ (Value.ref (s.heap.objs.size + 1) :: us) _ _ (E σ)
    (hr.make C us []) (J.env0.make C us []) bb rr hq) fun res s' g => ?_))
  cases res with
  | error e => exact hx pins _ _ e s' J g
  | ok fl =>
    cases fl with
    | ret u =>
      obtain ⟨v, H', J3, rv, ev, q3⟩ := J.after g
      subst ev
      exact ⟨rv, ⟨V.ref (s.heap.objs.size + 1), H', J3, rfl, q3⟩⟩
    | next => exact g.elim
    | brk => exact g.elim
    | cont => exact g.elim
def tMakeS (C : Addr) (sp : Sp) (E : L2.St → XK) (t : TA) : TE := fun σ H Q => t σ H fun vs H1 => ∀ o d, H1 o = none → H1 d = none → d ≠ o →
  sp (.ref o :: vs) (upd (upd H1 d (.own o)) o (.ins C d [])) (fun v H2 => v = .non ∧ Q (.ref o) H2) (E σ)
theorem pe_makeS (M : Mk X.K C f) (F : FnOk X.prog X.w X.K X.mg X.base CX k f fd ps sp) (hr : Room (k + 1) X.A) (hg : Gl X x) (hm : X.mg x = some (.ref C)) (hb : Binds X.K fd ps []) (hx : ∀ σ, PassesAt CX X σ (E σ))
    (ha : PA X (e :: es) t) (hdb : (x == ("__debug__" : Str)) = false := by decide) (hst : starEach (e :: es) X.env = (false, eval e X.env) :: starEach es X.env := by rfl) (hpl : (backTo pos (starEach es X.env)).any (·.1) = false := by rfl) :
    PE X (.Call (.Name x p) (e :: es) [] pos) (tMakeS C sp E t) := by
  refine ⟨fun pins s σ H Q I h => wpAny_Call_Name_kw (ld_glob I hg hm ?_ hdb)⟩
  refine PySem.W.callWith_K (h₀ := X.base) I.ok.mod.kin M.kp (thn (ha.run pos pins s σ H _ I h) fun us s1 ⟨vs, H1, I1, r, q⟩ => ⟨I1.kIn, run_makeS M F hr hb (hx σ) I1 r q⟩) hst hpl
end

/-! ### does an except clause of the class C take an error of the class cls -/
theorem exm_of {K : PySem.W.Frag} {C : Addr} {cls : Value} {b : Bool} (h1 : PySem.W.subIn K (.ref C) (.type "BaseException") = some true) (h2 : PySem.W.isClsIn K C = true)
    (h3 : PySem.W.typeIn K (.ref C) = some (.type "type")) (h4 : PySem.W.subIn K cls (.ref C) = some b) : PySem.W.exmOne K cls (.ref C) = some b := by
  have e2 : (PySem.W.clsIn K C).isSome = true := h2
  unfold PySem.W.exmOne PySem.W.kitCls
  simp only [h1, e2, h3, h4]
  rfl
/-! ### isinstance of an own error, by the classes' facts -/
theorem kit_ownT {K : PySem.W.Frag} {t : Value} {C : Addr} (h2 : PySem.W.isClsIn K C = true) (h3 : PySem.W.typeIn K (.ref C) = some (.type "type")) (h4 : PySem.W.subIn K t (.ref C) = some true) : PySem.W.kitOne K t (.ref C) = some true := by
  have e2 : (PySem.W.clsIn K C).isSome = true := h2
  unfold PySem.W.kitOne PySem.W.kitCls
  simp [e2, h3, h4]
theorem kit_ownF {K : PySem.W.Frag} {a C : Addr} (h2 : PySem.W.isClsIn K C = true) (h3 : PySem.W.typeIn K (.ref C) = some (.type "type")) (h4 : PySem.W.subIn K (.ref a) (.ref C) = some false) (h5 : PySem.W.subIn K (.ref C) (.ref C) = some true) :
    PySem.W.kitOne K (.ref a) (.ref C) = some false := by
  have e2 : (PySem.W.clsIn K C).isSome = true := h2
  have ne : a ≠ C := by
    intro z
    rw [z, h5] at h4
    cases h4
  have ne' : (Value.ref a == Value.ref C) = false := by
    rw [beq_eq_false_iff_ne]
    intro z
    exact ne (Value.ref.inj z)
  unfold PySem.W.kitOne PySem.W.kitCls
  simp [e2, h3, h4, ne']
theorem kit_self {K : PySem.W.Frag} {v : Value} : PySem.W.kitOne K v v = some true := by
  unfold PySem.W.kitOne
  rw [if_pos (beq_self_eq_true v)]
theorem kit_typ {K : PySem.W.Frag} {a : Addr} {T : String} {b : Bool} (h1 : PySem.W.kitMeta T = true) (h4 : PySem.W.subIn K (.ref a) (.type T) = some b) : PySem.W.kitOne K (.ref a) (.type T) = some b := by
  unfold PySem.W.kitOne PySem.W.kitCls
  have ne' : (Value.ref a == Value.type T) = false := by
    rw [beq_eq_false_iff_ne]
    intro z
    cases z
  simp [h1, h4, ne']
/-! ### isinstance of what an except suite holds -/
section
variable {X : Cx}
def rIsX (K : PySem.W.Frag) (a : Addr) (cls : Value) (d : Option Addr) : List V → Hp → VK → Prop := fun xs H Q => ∃ D : Addr, cls = .ref D ∧ d = none ∧ ExcC K D ∧ rIsE K D a xs H Q
theorem call_isX {a : Addr} {oe : Obj} {cls : Value} {d : Option Addr} {pn : List (Addr × Obj)} (hz : Zc cls d oe) (hf : ∃ vs, oe.data = .fields vs) :
    CallR (X.suite a ((a, oe) :: pn)) (.builtin "isinstance") (rIsX X.K a cls d) := by
  intro pins s σ H xs us Q I r h
  obtain ⟨D, rfl, rfl, C, h⟩ := h
  exact call_isE C hz hf pins s σ H xs us Q I r h
theorem call_isXK {K : PySem.W.Frag} {a : Addr} {oe : Obj} {cls : Value} {d : Option Addr} {pn : List (Addr × Obj)} (hK : X.K = K) (hz : Zc cls d oe) (hf : ∃ vs, oe.data = .fields vs) :
    CallR (X.suite a ((a, oe) :: pn)) (.builtin "isinstance") (rIsX K a cls d) := by
  subst hK
  exact call_isX hz hf
theorem pe_fldK {K : PySem.W.Frag} {e : Expr} {ta : TE} {f : Str} {pos : Pos} (hK : X.K = K) (he : PE X e ta) (hb : attributeBase e f X.env (eval e X.env) = eval e X.env) : PE X (.Attribute e f pos) (tFld K ta f) := by
  subst hK
  exact pe_fld he hb
theorem ix_listK {K : PySem.W.Frag} (hK : X.K = K) : IxR X (rIxL K) := by
  subst hK
  exact ix_list
theorem ix_tupK {K : PySem.W.Frag} (hK : X.K = K) : IxR X (rIxT K) := by
  subst hK
  exact ix_tup
theorem op_neDK {K : PySem.W.Frag} (hK : X.K = K) (hu : X.A.units + 64 < cLine) : OpR X (compareOp .NotEq) (rNeD K) := by
  subst hK
  exact op_neD hu
theorem op_inDK {K : PySem.W.Frag} (hK : X.K = K) (hu : X.A.units + 65 < cLine) : OpR X (compareOp .In) (rInD K) := by
  subst hK
  exact op_inD hu
theorem op_notInDK {K : PySem.W.Frag} (hK : X.K = K) (hu : X.A.units + 65 < cLine) : OpR X (compareOp .NotIn) (rNotInD K) := by
  subst hK
  exact op_notInD hu
theorem op_eqDK {K : PySem.W.Frag} (hK : X.K = K) (hu : X.A.units + 64 < cLine) : OpR X (compareOp .Eq) (rEqD K) := by
  subst hK
  exact op_eqD hu
end
end Sw
/-! Boards as lists of lists of signs' codes, and how they stand in the heap. -/
namespace Sw
open PySem PySem.Spec PyProof.Rows L2
/-! ### texts -/
def txt (l : List Nat) : Str := ⟨l.toArray⟩
theorem txt_cps (l : List Nat) : (txt l).cps.toList = l := rfl
theorem txt_len (l : List Nat) : (txt l).length = l.length := by
  show l.toArray.size = l.length
  rw [List.size_toArray]
theorem txt_app (a b : List Nat) : txt a ++ txt b = txt (a ++ b) := ext_toList (by
  show (a.toArray ++ b.toArray).toList = (a ++ b)
  rw [Array.toList_append])
theorem txt_inj {a b : List Nat} (h : txt a = txt b) : a = b := by
  have := congrArg (fun z : Str => z.cps.toList) h
  exact this
theorem s_n : (Str.ofString "n") = txt [110] := by decide +kernel
theorem s_w : (Str.ofString "w") = txt [119] := by decide +kernel
theorem s_dot : (Str.ofString ".") = txt [46] := by decide +kernel
theorem s_nw : (Str.ofString "nw") = txt [110, 119] := by decide +kernel
theorem s_wn : (Str.ofString "wn") = txt [119, 110] := by decide +kernel
theorem s_nwd : (Str.ofString "nw.") = txt [110, 119, 46] := by decide +kernel
theorem s_nil : (Str.ofString "") = txt [] := by decide +kernel
theorem mul_txt (c : Nat) (k : Int) : Txt.mul (txt [c]) k = txt (List.replicate k.toNat c) := by
  unfold Txt.mul
  by_cases h1 : k < 1
  · rw [if_pos h1]
    have : k.toNat = 0 := by omega
    rw [this]
    rfl
  · rw [if_neg h1]
    by_cases h2 : k = 1
    · subst h2
      rfl
    · have e : (k == 1 || (txt [c]).length == 0) = false := by
        rw [txt_len]
        simp [h2]
      rw [e, if_neg Bool.false_ne_true]
      refine ext_toList ?_
      show (List.foldl (fun a b => a ++ b) #[] (List.replicate k.toNat #[c])).toList = List.replicate k.toNat c
      have gen : ∀ (m : Nat) (acc : Array Nat), (List.foldl (fun a b => a ++ b) acc (List.replicate m #[c])).toList = acc.toList ++ List.replicate m c := by
        intro m
        induction m with
        | zero => intro acc; simp
        | succ m ih =>
          intro acc
          rw [List.replicate_succ, List.foldl_cons, ih, Array.toList_append, List.replicate_succ, List.append_assoc]
          rfl
      rw [gen]
      rfl
theorem cutS_to {l : List Nat} {k : Int} (h0 : 0 ≤ k) (h : k ≤ l.length) : cutS (txt l) none (some k) = txt (l.take k.toNat) := by
  refine ext_toList ?_
  show ((l.drop 0).take ((if k < 0 then (k + ((txt l).length : Int)).toNat else min k.toNat (txt l).length) - 0)) = l.take k.toNat
  rw [if_neg (by omega), txt_len, List.drop_zero, Nat.sub_zero, Nat.min_eq_left (by omega)]
theorem cutS_from {l : List Nat} {k : Int} (h0 : 0 ≤ k) (h : k ≤ l.length) : cutS (txt l) (some k) none = txt (l.drop k.toNat) := by
  refine ext_toList ?_
  show ((l.drop (if k < 0 then (k + ((txt l).length : Int)).toNat else min k.toNat (txt l).length)).take ((txt l).length - (if k < 0 then (k + ((txt l).length : Int)).toNat else min k.toNat (txt l).length))) = l.drop k.toNat
  rw [if_neg (by omega), txt_len, Nat.min_eq_left (by omega)]
  rw [List.take_of_length_le (by rw [List.length_drop]; omega)]
theorem cutV_to {l : List V} {k : Int} (h0 : 0 ≤ k) (h : k ≤ l.length) : cutV l none (some k) = l.take k.toNat := by
  show ((l.drop 0).take ((if k < 0 then (k + (l.length : Int)).toNat else min k.toNat l.length) - 0)) = l.take k.toNat
  rw [if_neg (by omega), List.drop_zero, Nat.sub_zero, Nat.min_eq_left (by omega)]
theorem cutV_from {l : List V} {k : Int} (h0 : 0 ≤ k) (h : k ≤ l.length) : cutV l (some k) none = l.drop k.toNat := by
  show ((l.drop (if k < 0 then (k + (l.length : Int)).toNat else min k.toNat l.length)).take (l.length - (if k < 0 then (k + (l.length : Int)).toNat else min k.toNat l.length))) = l.drop k.toNat
  rw [if_neg (by omega), Nat.min_eq_left (by omega), List.take_of_length_le (by rw [List.length_drop]; omega)]

/-! ### boards -/
abbrev Bd := List (List Nat)
def rowV (l : List Nat) : V := .str (txt l)
def rowsV (B : Bd) : List V := B.map rowV
theorem rowsV_len (B : Bd) : (rowsV B).length = B.length := List.length_map _
theorem rowsV_get {B : Bd} {i : Nat} {r : List Nat} (h : B[i]? = some r) : (rowsV B)[i]? = some (rowV r) := by
  unfold rowsV
  rw [List.getElem?_map, h]
  rfl
theorem rowsV_inv {B : Bd} {i : Nat} {x : V} (h : (rowsV B)[i]? = some x) : ∃ r, B[i]? = some r ∧ x = rowV r := by
  obtain ⟨r, h1, h2⟩ := map_get h
  exact ⟨r, h1, h2.symm⟩
def okc (c : Nat) : Bool := decide (c ∈ [110, 119, 46])
/-- how wide: the first row's length -/
def wid (B : Bd) : Nat := (B.headD []).length
def rowOk (w : Nat) (r : List Nat) : Bool := decide (r.length = w) && r.all okc
def Good (B : Bd) : Bool := decide (1 ≤ B.length ∧ B.length ≤ 9) && (decide (1 ≤ wid B ∧ wid B ≤ 9) && B.all (rowOk (wid B)))
structure IsB (B : Bd) (h w : Nat) : Prop where
  hh : B.length = h
  ww : ∀ r ∈ B, r.length = w
  ok : ∀ r ∈ B, ∀ c ∈ r, c = 110 ∨ c = 119 ∨ c = 46
  h1 : 1 ≤ h
  h9 : h ≤ 9
  w1 : 1 ≤ w
  w9 : w ≤ 9
theorem okc_iff (c : Nat) : okc c = true ↔ c = 110 ∨ c = 119 ∨ c = 46 := by
  unfold okc
  rw [decide_eq_true_eq]
  simp
theorem IsB.wid {B : Bd} {h w : Nat} (I : IsB B h w) : wid B = w := by
  cases B with
  | nil =>
    have := I.hh
    have := I.h1
    simp only [List.length_nil] at *
    omega
  | cons r B => exact I.ww r List.mem_cons_self
theorem IsB.good {B : Bd} {h w : Nat} (I : IsB B h w) : Good B = true := by
  unfold Good
  rw [I.wid, I.hh, decide_eq_true ⟨I.h1, I.h9⟩, decide_eq_true ⟨I.w1, I.w9⟩, Bool.true_and, Bool.true_and, List.all_eq_true]
  intro r hr
  unfold rowOk
  rw [decide_eq_true (I.ww r hr), Bool.true_and, List.all_eq_true]
  intro c hc
  exact (okc_iff c).mpr (I.ok r hr c hc)
theorem good_is {B : Bd} (h : Good B = true) : IsB B B.length (wid B) := by
  unfold Good at h
  rw [Bool.and_eq_true, Bool.and_eq_true, decide_eq_true_eq, decide_eq_true_eq, List.all_eq_true] at h
  obtain ⟨⟨a1, a2⟩, ⟨b1, b2⟩, c⟩ := h
  have c1 : ∀ r ∈ B, r.length = wid B ∧ ∀ x ∈ r, okc x = true := by
    intro r hr
    have := c r hr
    unfold rowOk at this
    rw [Bool.and_eq_true, decide_eq_true_eq, List.all_eq_true] at this
    exact this
  exact ⟨rfl, fun r hr => (c1 r hr).1, fun r hr x hx => (okc_iff x).mp ((c1 r hr).2 x hx), a1, a2, b1, b2⟩
/-- small enough for the heap's line -/
structure Small (B : Bd) : Prop where
  len : B.length ≤ 1000
  row : ∀ r ∈ B, r.length ≤ 1000
  cod : ∀ r ∈ B, ∀ c ∈ r, c < 1000
theorem IsB.small {B : Bd} {h w : Nat} (I : IsB B h w) : Small B := ⟨by have := I.hh; have := I.h9; omega, fun r hr => by have := I.ww r hr; have := I.w9; omega, fun r hr c hc => by have := I.ok r hr c hc; omega⟩
/-- a row of the board at place i -/
theorem IsB.row {B : Bd} {h w : Nat} (I : IsB B h w) {i : Nat} (hi : i < h) : ∃ r, B[i]? = some r ∧ r.length = w := by
  have : i < B.length := by rw [I.hh]; exact hi
  exact ⟨B[i], List.getElem?_eq_getElem this, I.ww _ (List.getElem_mem this)⟩

/-! ### data -/
def rowsD (B : Bd) : PyData := .list (B.map fun r => PyData.str (txt r))
theorem rows_dpa {K : PySem.W.Frag} {H : Hp} : ∀ B : Bd, DpAll K H (rowsV B) (B.map fun r => PyData.str (txt r))
  | [] => .nil
  | r :: B => .cons (.str _) (rows_dpa B)
theorem rows_dp {K : PySem.W.Frag} {H : Hp} {a : Addr} {B : Bd} (h : H a = some (.lst (rowsV B))) : Dp K H (.ref a) (rowsD B) := .lst (SqL.of h) (rows_dpa B)
theorem can_txt {r : List Nat} (h : ∀ c ∈ r, c < 1000) : (PyData.str (txt r)).canLay0 = true := by
  show (r.toArray.all fun c => decide (c < 0x110000)) = true
  rw [List.all_toArray, List.all_eq_true]
  intro c hc
  exact decide_eq_true (by have := h c hc; omega)
theorem can_rows : ∀ B : Bd, (∀ r ∈ B, ∀ c ∈ r, c < 1000) → PyData.canLayAll0 (B.map fun r => PyData.str (txt r)) = true
  | [], _ => rfl
  | r :: B, h => by
    rw [List.map_cons, PyData.canLayAll0, can_rows B (fun x hx => h x (List.mem_cons_of_mem _ hx)), can_txt (h r List.mem_cons_self)]
    rfl
theorem dep_rows : ∀ B : Bd, PyData.depthAll (B.map fun r => PyData.str (txt r)) ≤ 1
  | [] => by decide
  | r :: B => by
    have h := dep_rows B
    rw [List.map_cons, PyData.depthAll]
    have e : (PyData.str (txt r)).depth = 0 := rfl
    rw [e]
    omega
theorem shaped_rows {B : Bd} (hB : Small B) : SeqAt.shaped (rowsD B) = true := by
  unfold SeqAt.shaped rowsD
  have h := dep_rows B
  rw [show (PyData.list (B.map fun r => PyData.str (txt r))).canLay0 = PyData.canLayAll0 (B.map fun r => PyData.str (txt r)) from rfl, can_rows B hB.cod]
  have : (PyData.list (B.map fun r => PyData.str (txt r))).depth ≤ 64 := by
    rw [PyData.depth]
    omega
  rw [decide_eq_true this]
  rfl
theorem eqv_rows {B : Bd} (hB : Small B) : PyData.eqv (rowsD B) (rowsD B) = true := SeqAt.eqv_refl _ (can_rows B hB.cod)

/-! ### a Board in the heap -/
def bfl (l : Addr) (h w : Int) : List (Str × V) := [("rows", .ref l), ("height", .int h), ("width", .int w)]
theorem lk_h {k : Str} {v : V} {r : List (Str × V)} : List.lookup k ((k, v) :: r) = some v := by
  simp only [List.lookup, beq_self_eq_true k]
theorem lk_p {k g : Str} {v : V} {r : List (Str × V)} (h : (k == g) = false) : List.lookup k ((g, v) :: r) = List.lookup k r := by
  simp only [List.lookup, h]
theorem pt_p {f g : Str} {v x : V} {r : List (Str × V)} (h : ¬ g = f) : putF f v ((g, x) :: r) = (g, x) :: putF f v r := if_neg h
theorem bfl_rows (l : Addr) (h w : Int) : (bfl l h w).lookup ("rows" : Str) = some (.ref l) := lk_h
theorem bfl_height (l : Addr) (h w : Int) : (bfl l h w).lookup ("height" : Str) = some (.int h) := (lk_p (by decide +kernel)).trans lk_h
theorem bfl_width (l : Addr) (h w : Int) : (bfl l h w).lookup ("width" : Str) = some (.int w) := (lk_p (by decide +kernel)).trans ((lk_p (by decide +kernel)).trans lk_h)
theorem bfl_has (l : Addr) (h w : Int) : (bfl l h w).lookup ("has" : Str) = none := (lk_p (by decide +kernel)).trans ((lk_p (by decide +kernel)).trans ((lk_p (by decide +kernel)).trans rfl))
theorem bfl_new (l : Addr) (h w : Int) : putF "width" (.int w) (putF "height" (.int h) (putF "rows" (.ref l) [])) = bfl l h w := by
  show putF "width" (.int w) (putF "height" (.int h) [("rows", .ref l)]) = _
  rw [pt_p (by decide +kernel)]
  show putF "width" (.int w) [("rows", .ref l), ("height", .int h)] = _
  rw [pt_p (by decide +kernel), pt_p (by decide +kernel)]
  rfl
/-- a Board of the rows B stands at p, its list at l -/
structure BoardAt (C : Addr) (H : Hp) (p l : Addr) (B : Bd) : Prop where
  ob : ∃ dx, H p = some (.ins C dx (bfl l B.length (wid B)))
  ls : H l = some (.lst (rowsV B))
theorem BoardAt.same {C : Addr} {H H' : Hp} {p l : Addr} {B : Bd} (b : BoardAt C H p l B) (s : Same H H') : BoardAt C H' p l B := by
  obtain ⟨⟨dx, h1⟩, h2⟩ := b
  exact ⟨⟨dx, s _ _ h1⟩, s _ _ h2⟩
end Sw
/-! for i, c in enumerate(text): the turns, the rule. -/
namespace Sw
open PySem PySem.Spec PyProof.Rows L2
/-- the signs of x with their places, in new pairs -/
def ItEs (x : Str) : It := ⟨fun i _ => i < x.cps.size, fun i H v H' => ∃ (T : Addr) (c : Nat), v = .ref T ∧ H T = none ∧ H' = upd H T (.tup [.int (i : Nat), .str ⟨#[c]⟩]) ∧ x.cps[i]? = some c, fun i _ => i = x.cps.size⟩
theorem turn_enumS {P : Program} {w : World} {K : PySem.W.Frag} {elts : List Expr} {kk : Nat} {tpos : Pos} (x : Str) (t : Tok) (e it : Addr) :
    Turn P w K (.Tuple elts kk tpos) (ItEs x) [e, it] e (fun i h => (∃ old, IsEnum h e it ((i : Nat) : Int) old) ∧ h.IsStrIter it (strIterType x) x t i ∧ e ≠ it) where
  mem := List.mem_cons_self
  obj := fun i h st b hb => by
    obtain ⟨⟨old, he⟩, ⟨o, ho, hc, hd⟩, _⟩ := st
    rcases List.mem_cons.mp hb with z | z
    · rw [z]
      exact ⟨_, he, fun v q => nomatch q⟩
    · rw [List.mem_singleton.mp z]
      exact ⟨o, ho, fun v q => by rw [hd] at q; cases q⟩
  keep := fun i h h' st k => by
    obtain ⟨⟨old, he⟩, ⟨o, ho, r⟩, hne⟩ := st
    exact ⟨⟨old, k e List.mem_cons_self _ he⟩, ⟨o, k it (List.mem_cons_of_mem _ List.mem_cons_self) o ho, r⟩, hne⟩
  item := by
    intro X hP hw hK hc i pins s σ H E I hf st hg
    subst hP hw hK
    obtain ⟨⟨old, he⟩, hit, hne⟩ := st
    have hel : e < s.heap.objs.size := Heap.lt_size he
    have hil : it < s.heap.objs.size := by obtain ⟨_, q, _⟩ := hit; exact Heap.lt_size q
    have hef : e ∉ [it] := fun z => hne (List.mem_singleton.mp z)
    refine wpAny_pyNext_enum_itemD (fp := [it]) (Draws.text (A := X.A.in1) (prog := X.prog) (w := X.w) (I.ok.hd hc) it x t) he hit hg hne hef fun v h' tk hv ho hit' hT hsz hk => ?_
    obtain ⟨c, u, hcx, rfl⟩ := hv
    refine ⟨_, rfl, wpAny_letOwnedTupleGo_enum (s := { s with heap := h', toks := tk + 1 }) ho fun h'' he' sb => ?_⟩
    have hT2 : h''.get? s.heap.objs.size = some { cls := .type "tuple", data := .seq #[.int i tk, .str ⟨#[c]⟩ u] } := (sb.2 _ (Nat.ne_of_gt hel)).trans hT
    have new : ObjOk X.prog X.w (upd H s.heap.objs.size (.tup [.int (i : Nat), .str ⟨#[c]⟩])) h'' s.heap.objs.size (.tup [.int (i : Nat), .str ⟨#[c]⟩]) := by
      refine ⟨by show 2 ≤ sizeLine; decide, [.int i tk, .str ⟨#[c]⟩ u], .cons ⟨_, rfl⟩ (.cons ⟨_, rfl⟩ .nil), ?_⟩
      exact ⟨_, hT2, rfl, _, rfl⟩
    have same : ∀ b ob, b ∉ [e, it] → s.heap.get? b = some ob → h''.get? b = some ob := by
      intro b ob hb q
      have n1 : b ≠ e := fun z => hb (by rw [z]; exact List.mem_cons_self)
      have n2 : b ≠ it := fun z => hb (by rw [z]; exact List.mem_cons_of_mem _ List.mem_cons_self)
      exact (sb.2 b n1).trans (hk b ob n1 n2 q)
    have I1 : Inv X pins σ (upd H s.heap.objs.size (.tup [.int (i : Nat), .str ⟨#[c]⟩])) { s with heap := h'', toks := tk + 1 } := I.turnedNew (ch := [e, it]) same hf (Nat.le_refl _) new
    refine ⟨.ref s.heap.objs.size, _, I1, rfl, ⟨_, c, rfl, I.hok.fresh (Nat.le_refl _), rfl, hcx⟩, ⟨⟨.str ⟨#[c]⟩ u, ?_⟩, ?_, hne⟩, fun b hb => ?_⟩
    · have e1 : ((i + 1 : Nat) : Int) = (i : Int) + 1 := by omega
      rw [e1]
      exact he'
    · obtain ⟨o, q, r⟩ := hit'
      exact ⟨o, (sb.2 it (Ne.symm hne)).trans q, r⟩
    · have hb' : b < s.heap.objs.size := by
        rcases List.mem_cons.mp hb with z | z
        · rw [z]; exact hel
        · rw [List.mem_singleton.mp z]; exact hil
      rw [upd_ne (Nat.ne_of_lt hb')]
      exact (hf b hb).1
  done := by
    intro X hP hw hK hc i pins s σ H E I hf st hg
    subst hP hw hK
    obtain ⟨⟨old, he⟩, hit, hne⟩ := st
    obtain ⟨f0, f1, f2, f3, f4, f5⟩ := hf it (List.mem_cons_of_mem _ List.mem_cons_self)
    have hi : i = x.cps.size := hg
    subst hi
    exact wpAny_pyNext_enum_endD (fp := [it]) (Draws.text (A := X.A.in1) (prog := X.prog) (w := X.w) (I.ok.hd hc) it x t) he hit fun h' eb => ⟨rfl, I.turned (t' := s.toks) (fun b o hb q => eb b o hb q) f0 f1 f3 f4 f5⟩
  self := fun A i s Q E st h => by
    obtain ⟨⟨_, he⟩, _⟩ := st
    exact wpAny_pyIter_enum he h
def iEnumS (ta : TA) : TI := fun σ H R => ta σ H fun vs H1 => ∃ x, vs = [.str x] ∧ R (ItEs x) H1
theorem pi_enumS {X : Cx} {e : Expr} {ta : TA} {p pos tpos : Pos} {elts : List Expr} {kk : Nat} (hg : Gl X "enumerate") (hm : X.mg "enumerate" = none) (ha : PA X [e] ta)
    (hst : starEach [e] X.env = [(false, eval e X.env)] := by rfl) : PI X (.Tuple elts kk tpos) (.Call (.Name "enumerate" p) [e] [] pos) (iEnumS ta) := by
  refine ⟨fun pins s σ H R I h => ?_⟩
  refine Call_ (ld_blt I hg hm boot_enumerate (PyProof.Rows.callWith_type1 (thn (ha.run pos pins s σ H _ I h) fun us s1 ⟨vs, H1, I1, r1, q1⟩ => ?_) hst rfl))
  obtain ⟨x, ex, q⟩ := q1
  subst ex
  cases r1 with
  | cons r rr =>
    cases rr
    obtain ⟨t, rfl⟩ := r
    refine call_enumerate_str fun h' he hit hsz hk => wpAny_pyIter_enum he ?_
    have J : Inv X pins σ H1 { s1 with heap := h' } := I1.kept (t' := s1.toks) hk
    refine ⟨s1.heap.objs.size + 1, [s1.heap.objs.size + 1, s1.heap.objs.size], _, _, H1, rfl, J, turn_enumS x t (s1.heap.objs.size + 1) s1.heap.objs.size, ⟨⟨.none, he⟩, hit, Nat.succ_ne_self _⟩, fun b hb => ?_, q⟩
    have hle : s1.heap.objs.size ≤ b := by
      rcases List.mem_cons.mp hb with z | z
      · rw [z]; exact Nat.le_succ _
      · rw [List.mem_singleton.mp z]; exact Nat.le_refl _
    exact I1.fpOk hle (I1.hok.fresh hle)
theorem walk_enumS {x : Str} : Walk (ItEs x) x.cps.size (fun _ => True) (fun i H v H' => ∃ (T : Addr) (c : Nat), v = .ref T ∧ H T = none ∧ H' = upd H T (.tup [.int (i : Nat), .str ⟨#[c]⟩]) ∧ x.cps[i]? = some c) :=
  ⟨fun _ _ hi _ => hi, fun _ _ => rfl, fun _ _ _ _ _ _ y => y⟩
end Sw
/-! What lies on a cell; a stone laid; a board turned over; the empty cells. Plain lists. -/
namespace Sw
def cel (B : Bd) (p : Cell) : Nat := if 0 ≤ p.1 ∧ 0 ≤ p.2 then (((B[p.1.toNat]?).getD [])[p.2.toNat]?).getD 0 else 0
def Ins (h w : Nat) (p : Cell) : Prop := 0 ≤ p.1 ∧ p.1 < (h : Int) ∧ 0 ≤ p.2 ∧ p.2 < (w : Int)
instance (h w : Nat) (p : Cell) : Decidable (Ins h w p) := inferInstanceAs (Decidable (_ ∧ _))
theorem cel_row {B : Bd} {p : Cell} {r : List Nat} (h0 : 0 ≤ p.1) (h1 : 0 ≤ p.2) (hr : B[p.1.toNat]? = some r) : cel B p = (r[p.2.toNat]?).getD 0 := by
  unfold cel
  rw [if_pos ⟨h0, h1⟩, hr]
  rfl
/-- on the board -/
theorem IsB.at {B : Bd} {h w : Nat} (I : IsB B h w) {p : Cell} (hp : Ins h w p) : ∃ r, B[p.1.toNat]? = some r ∧ r ∈ B ∧ r.length = w ∧ r[p.2.toNat]? = some (cel B p) ∧ (cel B p = 110 ∨ cel B p = 119 ∨ cel B p = 46) := by
  obtain ⟨a, b, c, d⟩ := hp
  obtain ⟨r, er, lr⟩ := I.row (i := p.1.toNat) (by omega)
  have hl : p.2.toNat < r.length := by omega
  have mr : r ∈ B := List.mem_of_getElem? er
  have e : cel B p = r[p.2.toNat] := by
    rw [cel_row a c er, List.getElem?_eq_getElem hl]
    rfl
  refine ⟨r, er, mr, lr, ?_, ?_⟩
  · rw [e, List.getElem?_eq_getElem hl]
  · rw [e]
    exact I.ok r mr _ (List.getElem_mem hl)
/-- off the board nothing lies -/
theorem IsB.off {B : Bd} {h w : Nat} (I : IsB B h w) {p : Cell} (hp : ¬ Ins h w p) : cel B p = 0 := by
  unfold cel
  by_cases h0 : 0 ≤ p.1 ∧ 0 ≤ p.2
  · rw [if_pos h0]
    cases e : B[p.1.toNat]? with
    | none => rfl
    | some r =>
      have lr := I.ww r (List.mem_of_getElem? e)
      have h1 : p.1.toNat < B.length := (List.getElem?_eq_some_iff.mp e).1
      rw [I.hh] at h1
      show (r[p.2.toNat]?).getD 0 = 0
      rw [List.getElem?_eq_none (by
        rw [lr]
        unfold Ins at hp
        omega)]
      rfl
  · rw [if_neg h0]
theorem IsB.sup {B : Bd} {h w : Nat} (I : IsB B h w) : Sup (cel B) h w := fun p hp => by
  by_cases e : Ins h w p
  · exact ⟨e.1, e.2.1, e.2.2.1, e.2.2.2⟩
  · exact absurd (I.off e) hp
theorem IsB.ins {B : Bd} {h w : Nat} (I : IsB B h w) {p : Cell} (hp : cel B p ≠ 0) : Ins h w p := by
  by_cases e : Ins h w p
  · exact e
  · exact absurd (I.off e) hp

/-! ### a stone laid -/
def putB (B : Bd) (p : Cell) (x : Nat) : Bd := B.set p.1.toNat (((B[p.1.toNat]?).getD []).set p.2.toNat x)
theorem set_take_drop {α : Type} (l : List α) (i : Nat) (x : α) (h : i < l.length) : l.take i ++ [x] ++ l.drop (i + 1) = l.set i x := by
  rw [List.set_eq_take_append_cons_drop, if_pos h, List.append_assoc]
  rfl
theorem putB_eq {B : Bd} {p : Cell} {r : List Nat} {x : Nat} (hr : B[p.1.toNat]? = some r) : putB B p x = B.set p.1.toNat (r.set p.2.toNat x) := by
  unfold putB
  rw [hr]
  rfl
theorem putB_is {B : Bd} {h w : Nat} (I : IsB B h w) (p : Cell) {x : Nat} (hx : x = 110 ∨ x = 119 ∨ x = 46) : IsB (putB B p x) h w := by
  refine ⟨?_, fun r hr => ?_, fun r hr c hc => ?_, I.h1, I.h9, I.w1, I.w9⟩
  · unfold putB
    rw [List.length_set, I.hh]
  · rcases List.mem_or_eq_of_mem_set hr with hr | rfl
    · exact I.ww r hr
    · rw [List.length_set]
      cases e : B[p.1.toNat]? with
      | none =>
        have hl : B.length ≤ p.1.toNat := List.getElem?_eq_none_iff.mp e
        unfold putB at hr
        rw [List.set_eq_of_length_le hl, e] at hr
        have := I.ww _ hr
        rw [List.length_set] at this
        exact this
      | some r => exact I.ww r (List.mem_of_getElem? e)
  · rcases List.mem_or_eq_of_mem_set hr with hr | rfl
    · exact I.ok r hr c hc
    · rcases List.mem_or_eq_of_mem_set hc with hc | rfl
      · cases e : B[p.1.toNat]? with
        | none => rw [e] at hc; cases hc
        | some r => rw [e] at hc; exact I.ok r (List.mem_of_getElem? e) c hc
      · exact hx
theorem cel_put {B : Bd} {h w : Nat} (I : IsB B h w) {p : Cell} (hp : Ins h w p) (x : Nat) (q : Cell) : cel (putB B p x) q = if q = p then x else cel B q := by
  obtain ⟨r, er, mr, lr, el, _⟩ := I.at hp
  obtain ⟨a, b, c, d⟩ := hp
  have hl : p.1.toNat < B.length := by rw [I.hh]; omega
  rw [putB_eq er]
  unfold cel
  by_cases e0 : 0 ≤ q.1 ∧ 0 ≤ q.2
  · rw [if_pos e0, if_pos e0, List.getElem?_set]
    by_cases e1 : p.1.toNat = q.1.toNat
    · rw [if_pos e1, if_pos hl]
      show ((r.set p.2.toNat x)[q.2.toNat]?).getD 0 = _
      rw [List.getElem?_set]
      by_cases e2 : p.2.toNat = q.2.toNat
      · rw [if_pos e2, if_pos (by omega), if_pos (Prod.ext (by omega) (by omega))]
        rfl
      · rw [if_neg e2, if_neg (fun z => e2 (by rw [z])), ← e1, er]
        rfl
    · rw [if_neg e1, if_neg (fun z => e1 (by rw [z]))]
  · rw [if_neg e0, if_neg e0, if_neg (fun z => e0 (by rw [z]; exact ⟨a, c⟩))]

/-! ### turned over -/
def oth (c : Nat) : Nat := if c = 110 then 119 else if c = 119 then 110 else c
theorem oth_ok {c : Nat} (h : c = 110 ∨ c = 119 ∨ c = 46) : oth c = 110 ∨ oth c = 119 ∨ oth c = 46 := by
  rcases h with rfl | rfl | rfl <;> decide
theorem oth_oth {c : Nat} (h : c = 110 ∨ c = 119 ∨ c = 46) : oth (oth c) = c := by
  rcases h with rfl | rfl | rfl <;> decide
def tcol (B : Bd) (c : Nat) : List Nat := B.map fun r => oth (r.getD c 0)
def tov (B : Bd) (w : Nat) : Bd := (List.range w).map (tcol B)
theorem tcol_ok {B : Bd} {h w : Nat} (I : IsB B h w) {c : Nat} (hc : c < w) : ∀ x ∈ tcol B c, x = 110 ∨ x = 119 ∨ x = 46 := by
  intro x hx
  obtain ⟨r, hr, rfl⟩ := List.mem_map.mp hx
  have hl : c < r.length := by rw [I.ww r hr]; exact hc
  rw [List.getD_eq_getElem?_getD, List.getElem?_eq_getElem hl]
  exact oth_ok (I.ok r hr _ (List.getElem_mem hl))
theorem tov_is {B : Bd} {h w : Nat} (I : IsB B h w) : IsB (tov B w) w h := by
  refine ⟨by unfold tov; rw [List.length_map, List.length_range], fun r hr => ?_, fun r hr c hc => ?_, I.w1, I.w9, I.h1, I.h9⟩
  · obtain ⟨c, _, rfl⟩ := List.mem_map.mp hr
    unfold tcol
    rw [List.length_map, I.hh]
  · obtain ⟨k, hk, rfl⟩ := List.mem_map.mp hr
    exact tcol_ok I (List.mem_range.mp hk) c hc
theorem tov_get {B : Bd} {w c : Nat} (hc : c < w) : (tov B w)[c]? = some (tcol B c) := by
  unfold tov
  rw [List.getElem?_map, List.getElem?_range hc]
  rfl
theorem cel_tov {B : Bd} {h w : Nat} (I : IsB B h w) {p : Cell} (hp : Ins h w p) : cel (tov B w) (p.2, p.1) = oth (cel B p) := by
  obtain ⟨r, er, mr, lr, el, _⟩ := I.at hp
  obtain ⟨a, b, c, d⟩ := hp
  rw [cel_row (r := tcol B p.2.toNat) (p := (p.2, p.1)) c a (tov_get (by omega))]
  show ((tcol B p.2.toNat)[p.1.toNat]?).getD 0 = _
  unfold tcol
  rw [List.getElem?_map, er]
  show oth (r.getD p.2.toNat 0) = _
  rw [List.getD_eq_getElem?_getD, el]
  rfl

/-! ### the empty cells, by rows -/
def rowE (y : Nat) (r : List Nat) : List Cell := ((List.range r.length).filter fun c => decide (r.getD c 0 = 46)).map fun c : Nat => ((y : Int), (c : Int))
def rowEt (y : Nat) (r : List Nat) (j : Nat) : List Cell := ((List.range j).filter fun c => decide (r.getD c 0 = 46)).map fun c : Nat => ((y : Int), (c : Int))
theorem rowEt_yes {y : Nat} {r : List Nat} {j : Nat} (h : r.getD j 0 = 46) : rowEt y r (j + 1) = rowEt y r j ++ [((y : Int), (j : Int))] := by
  unfold rowEt
  rw [List.range_succ, List.filter_append, List.filter_cons, if_pos (decide_eq_true h), List.map_append]
  rfl
theorem rowEt_no {y : Nat} {r : List Nat} {j : Nat} (h : ¬ r.getD j 0 = 46) : rowEt y r (j + 1) = rowEt y r j := by
  unfold rowEt
  rw [List.range_succ, List.filter_append, List.filter_cons, if_neg (fun z => h (of_decide_eq_true z))]
  show ((_ ++ []).map _) = _
  rw [List.append_nil]
theorem rowEt_len (y : Nat) (r : List Nat) (j : Nat) : (rowEt y r j).length ≤ j := by
  unfold rowEt
  rw [List.length_map]
  have := List.length_filter_le (fun c => decide (r.getD c 0 = 46)) (List.range j)
  rw [List.length_range] at this
  exact this
def emptyTo (B : Bd) (n : Nat) : List Cell := (List.range n).flatMap fun y => rowE y (B.getD y [])
def emptyL (B : Bd) : List Cell := emptyTo B B.length
theorem emptyTo_succ (B : Bd) (n : Nat) : emptyTo B (n + 1) = emptyTo B n ++ rowE n (B.getD n []) := by
  unfold emptyTo
  rw [List.range_succ, List.flatMap_append]
  show _ ++ (rowE n (B.getD n []) ++ []) = _
  rw [List.append_nil]
theorem rowE_len (y : Nat) (r : List Nat) : (rowE y r).length ≤ r.length := by
  unfold rowE
  rw [List.length_map]
  have := List.length_filter_le (fun c => decide (r.getD c 0 = 46)) (List.range r.length)
  rw [List.length_range] at this
  exact this
theorem emptyTo_len {B : Bd} {h w : Nat} (I : IsB B h w) : ∀ n, n ≤ h → (emptyTo B n).length ≤ n * w
  | 0, _ => by
    show 0 ≤ _
    omega
  | n + 1, hn => by
    have ih := emptyTo_len I n (by omega)
    rw [emptyTo_succ, List.length_append]
    obtain ⟨r, er, lr⟩ := I.row (i := n) (by omega)
    have e : B.getD n [] = r := by rw [List.getD_eq_getElem?_getD, er]; rfl
    have := rowE_len n r
    rw [e, Nat.add_mul]
    omega
theorem mem_rowE {y : Nat} {r : List Nat} {p : Cell} : p ∈ rowE y r ↔ p.1 = (y : Int) ∧ 0 ≤ p.2 ∧ r[p.2.toNat]? = some 46 := by
  unfold rowE
  rw [List.mem_map]
  constructor
  · rintro ⟨c, hc, rfl⟩
    rw [List.mem_filter, List.mem_range, decide_eq_true_eq] at hc
    refine ⟨rfl, by show (0 : Int) ≤ (c : Int); omega, ?_⟩
    show r[((c : Nat) : Int).toNat]? = some 46
    rw [Int.toNat_natCast]
    have h2 := hc.2
    rw [List.getD_eq_getElem?_getD, List.getElem?_eq_getElem hc.1] at h2
    rw [List.getElem?_eq_getElem hc.1]
    exact congrArg some h2
  · rintro ⟨a, b, c⟩
    have hl : p.2.toNat < r.length := (List.getElem?_eq_some_iff.mp c).1
    refine ⟨p.2.toNat, ?_, Prod.ext (by show (y : Int) = p.1; omega) (by show ((p.2.toNat : Nat) : Int) = p.2; omega)⟩
    rw [List.mem_filter, List.mem_range, decide_eq_true_eq]
    refine ⟨hl, ?_⟩
    rw [List.getD_eq_getElem?_getD, c]
    rfl
theorem mem_emptyL {B : Bd} {p : Cell} : p ∈ emptyL B ↔ cel B p = 46 := by
  unfold emptyL emptyTo
  rw [List.mem_flatMap]
  constructor
  · rintro ⟨y, hy, hp⟩
    obtain ⟨a, b, c⟩ := mem_rowE.mp hp
    rw [List.mem_range] at hy
    have e : B[p.1.toNat]? = some (B.getD y []) := by
      rw [a, Int.toNat_natCast, List.getD_eq_getElem?_getD, List.getElem?_eq_getElem hy]
      rfl
    rw [cel_row (by omega) b e, c]
    rfl
  · intro h
    unfold cel at h
    by_cases e0 : 0 ≤ p.1 ∧ 0 ≤ p.2
    · rw [if_pos e0] at h
      cases e : B[p.1.toNat]? with
      | none => rw [e] at h; cases h
      | some r =>
        rw [e] at h
        have hl : p.1.toNat < B.length := (List.getElem?_eq_some_iff.mp e).1
        refine ⟨p.1.toNat, List.mem_range.mpr hl, mem_rowE.mpr ⟨by omega, e0.2, ?_⟩⟩
        rw [List.getD_eq_getElem?_getD, e]
        have h' : (r[p.2.toNat]?).getD 0 = 46 := h
        show r[p.2.toNat]? = some 46
        cases e2 : r[p.2.toNat]? with
        | none => rw [e2] at h'; cases h'
        | some c => rw [e2] at h'; exact congrArg some h'
    · rw [if_neg e0] at h
      cases h
end Sw
/-! Roads: what a search keeps true, when it has found one, when there is none. Plain lists. -/
namespace Sw
/-! ### counting -/
theorem nodup_lt : ∀ (n : Nat) (l : List Nat), l.Nodup → (∀ x ∈ l, x < n) → l.length ≤ n
  | 0, l, _, h => by
    cases l with
    | nil => exact Nat.le_refl _
    | cons a l => exact absurd (h a List.mem_cons_self) (Nat.not_lt_zero _)
  | n + 1, l, hn, h => by
    by_cases e : n ∈ l
    · have h1 := List.length_erase_of_mem e
      have ih := nodup_lt n (l.erase n) (hn.erase n) (fun x hx => by
        have hx' := (hn.mem_erase_iff).mp hx
        have := h x hx'.2
        have := hx'.1
        omega)
      have : 0 < l.length := List.length_pos_of_mem e
      omega
    · have := nodup_lt n l hn (fun x hx => by
        have := h x hx
        have : x ≠ n := fun z => e (z ▸ hx)
        omega)
      omega
theorem nodup_map {α β : Type} {f : α → β} : ∀ {l : List α}, l.Nodup → (∀ x ∈ l, ∀ y ∈ l, f x = f y → x = y) → (l.map f).Nodup
  | [], _, _ => List.nodup_nil
  | a :: l, h, k => by
    rw [List.map_cons, List.nodup_cons]
    rw [List.nodup_cons] at h
    refine ⟨fun hm => ?_, nodup_map h.2 (fun x hx y hy => k x (List.mem_cons_of_mem _ hx) y (List.mem_cons_of_mem _ hy))⟩
    obtain ⟨b, hb, e⟩ := List.mem_map.mp hm
    have := k b (List.mem_cons_of_mem _ hb) a List.mem_cons_self e
    exact h.1 (this ▸ hb)
theorem nodup_rect {h w : Nat} {l : List Cell} (hn : l.Nodup) (hi : ∀ c ∈ l, Ins h w c) : l.length ≤ h * w := by
  have key : ∀ c : Cell, Ins h w c → c.1.toNat * w + c.2.toNat < h * w := by
    intro c hc
    obtain ⟨a, b, d, e⟩ := hc
    have h1 : c.1.toNat + 1 ≤ h := by omega
    have h2 : (c.1.toNat + 1) * w ≤ h * w := Nat.mul_le_mul_right w h1
    rw [Nat.add_mul, Nat.one_mul] at h2
    omega
  have := nodup_lt (h * w) (l.map fun c => c.1.toNat * w + c.2.toNat) (nodup_map hn fun x hx y hy e => by
    obtain ⟨x1, x2, x3, x4⟩ := hi x hx
    obtain ⟨y1, y2, y3, y4⟩ := hi y hy
    have w0 : 0 < w := by omega
    have e1 : (x.1.toNat * w + x.2.toNat) / w = (y.1.toNat * w + y.2.toNat) / w := by rw [e]
    rw [Nat.mul_comm x.1.toNat w, Nat.mul_comm y.1.toNat w, Nat.mul_add_div w0, Nat.mul_add_div w0, Nat.div_eq_of_lt (by omega), Nat.div_eq_of_lt (by omega)] at e1
    have e2 : x.1.toNat = y.1.toNat := by omega
    rw [e2] at e
    exact Prod.ext (by omega) (by omega)) (fun x hx => by
    obtain ⟨c, hc, rfl⟩ := List.mem_map.mp hx
    exact key c (hi c hc))
  rw [List.length_map] at this
  exact this

/-! ### a way from the first shore to a cell -/
inductive Rd (g : Cell → Nat) (s : Bool) : List Cell → Cell → Prop
  | one {c : Cell} : g c = lt s → sd s c = 0 → Rd g s [c] c
  | snoc {l : List Cell} {c d : Cell} : Rd g s l c → d ∈ near6 c → g d = lt s → d ∉ l → Rd g s (l ++ [d]) d
section
variable {g : Cell → Nat} {s : Bool} {h w : Nat}
theorem Rd.reach {l : List Cell} {c : Cell} (r : Rd g s l c) : Reach g s c := by
  induction r with
  | one a b => exact .first a b
  | snoc _ n a _ ih => exact .next ih n a
theorem Rd.last {l : List Cell} {c : Cell} (r : Rd g s l c) : ∃ l', l = l' ++ [c] := by
  cases r with
  | one _ _ => exact ⟨[], rfl⟩
  | @snoc l' _ _ _ _ _ _ => exact ⟨l', rfl⟩
theorem Rd.pos {l : List Cell} {c : Cell} (r : Rd g s l c) : 0 < l.length := by
  obtain ⟨l', rfl⟩ := r.last
  rw [List.length_append]
  exact Nat.succ_pos _
theorem Rd.get_last {l : List Cell} {c : Cell} (r : Rd g s l c) : l[l.length - 1]? = some c := by
  obtain ⟨l', rfl⟩ := r.last
  rw [List.length_append, List.getElem?_append_right (by simp)]
  simp
theorem Rd.nodup {l : List Cell} {c : Cell} (r : Rd g s l c) : l.Nodup := by
  induction r with
  | one _ _ => exact List.nodup_cons.mpr ⟨by simp, List.nodup_nil⟩
  | snoc _ _ _ n ih =>
    rw [List.nodup_append]
    refine ⟨ih, List.nodup_cons.mpr ⟨by simp, List.nodup_nil⟩, ?_⟩
    intro a ha b hb
    rw [List.mem_singleton] at hb
    rw [hb]
    intro e
    exact n (e ▸ ha)
theorem Rd.signs {l : List Cell} {c : Cell} (r : Rd g s l c) : ∀ x ∈ l, g x = lt s := by
  induction r with
  | one a _ =>
    intro x hx
    rw [List.mem_singleton.mp hx]
    exact a
  | snoc _ _ a _ ih =>
    intro x hx
    rcases List.mem_append.mp hx with hx | hx
    · exact ih x hx
    · rw [List.mem_singleton.mp hx]
      exact a
theorem Rd.head {l : List Cell} {c : Cell} (r : Rd g s l c) : ∃ a, l[0]? = some a ∧ sd s a = 0 := by
  induction r with
  | one _ b => exact ⟨_, rfl, b⟩
  | snoc r _ _ _ ih =>
    obtain ⟨a, e, k⟩ := ih
    exact ⟨a, by rw [List.getElem?_append_left r.pos]; exact e, k⟩
theorem Rd.near {l : List Cell} {c : Cell} (r : Rd g s l c) : ∀ (k : Nat) (a b : Cell), l[k]? = some a → l[k + 1]? = some b → b ∈ near6 a := by
  induction r with
  | one _ _ =>
    intro k a b _ h2
    simp at h2
  | @snoc l c d r n _ _ ih =>
    intro k a b h1 h2
    by_cases hk : k + 1 < l.length
    · rw [List.getElem?_append_left hk] at h2
      rw [List.getElem?_append_left (by omega)] at h1
      exact ih k a b h1 h2
    · have hl : k + 1 = l.length := by
        have := (List.getElem?_eq_some_iff.mp h2).1
        rw [List.length_append] at this
        simp at this
        omega
      rw [List.getElem?_append_right (by omega)] at h2
      have e2 : b = d := by
        rw [hl, Nat.sub_self] at h2
        exact (Option.some.inj h2).symm
      rw [List.getElem?_append_left (by omega)] at h1
      have := r.get_last
      rw [← hl, Nat.add_sub_cancel, h1] at this
      rw [e2, Option.some.inj this]
      exact n
/-- no cell of it is near one further on than the next -/
def Thin (l : List Cell) : Prop := ∀ a b c, [a, b, c].Sublist l → c ∉ near6 a
/-- a road, without loops -/
def Road (g : Cell → Nat) (h w : Nat) (s : Bool) (l : List Cell) : Prop := ∃ c, Rd g s l c ∧ sd s c = ext s h w - 1 ∧ Thin l
theorem Road.joined {l : List Cell} (r : Road g h w s l) : Joined g h w s := by
  obtain ⟨c, a, b, _⟩ := r
  exact ⟨c, a.reach, b⟩

/-! ### the search that keeps its ways -/
structure Bfs (g : Cell → Nat) (s : Bool) (ways : List (List Cell)) (seen : List Cell) : Prop where
  len : ways.length = seen.length
  way : ∀ (i : Nat) (l : List Cell), ways[i]? = some l → ∃ c, seen[i]? = some c ∧ Rd g s l c ∧ ∀ x ∈ l, x ∈ seen
  nd : seen.Nodup
  sg : ∀ c ∈ seen, g c = lt s
  first : ∀ c, g c = lt s → sd s c = 0 → c ∈ seen
  pos : ∀ (i : Nat) (l : List Cell) (c : Cell), ways[i]? = some l → seen[i]? = some c → ∀ x ∈ l, x ≠ c → ∃ j, j < i ∧ seen[j]? = some x
  thin : ∀ (i : Nat) (l : List Cell), ways[i]? = some l → Thin l
/-- the cells seen ahead of place n are done: not at the end, all round them seen -/
def DoneTo (g : Cell → Nat) (h w : Nat) (s : Bool) (seen : List Cell) (n : Nat) : Prop :=
  ∀ (i : Nat) (c : Cell), i < n → seen[i]? = some c → sd s c ≠ ext s h w - 1 ∧ ∀ d ∈ near6 c, g d = lt s → d ∈ seen
theorem sub_snoc {α : Type} {s l : List α} {d : α} (h : s.Sublist (l ++ [d])) : s.Sublist l ∨ ∃ s', s = s' ++ [d] ∧ s'.Sublist l := by
  obtain ⟨s1, s2, e, h1, h2⟩ := List.sublist_append_iff.mp h
  rcases List.sublist_cons_iff.mp h2 with h3 | ⟨r, e2, h3⟩
  · rw [List.sublist_nil.mp h3, List.append_nil] at e
    rw [e]
    exact .inl h1
  · rw [List.sublist_nil.mp h3] at e2
    rw [e2] at e
    exact .inr ⟨s1, e, h1⟩
theorem thin_add {l : List Cell} {c d : Cell} (hn : l.Nodup) (hl : ∃ l', l = l' ++ [c]) (ht : Thin l) (k : ∀ x ∈ l, x ≠ c → d ∉ near6 x) : Thin (l ++ [d]) := by
  intro x y z h
  rcases sub_snoc h with h1 | ⟨s', e, h1⟩
  · exact ht x y z h1
  · have h3 : ([x, y] : List Cell) ++ [z] = s' ++ [d] := e
    have h4 := List.append_inj' h3 rfl
    have h5 : z = d := (List.cons.inj h4.2).1
    rw [← h4.1] at h1
    rw [h5]
    refine k x (h1.subset List.mem_cons_self) fun ex => ?_
    obtain ⟨l', el⟩ := hl
    rw [el, ← ex] at hn h1
    have hx : x ∉ l' := fun hm => (List.nodup_append.mp hn).2.2 x hm x List.mem_cons_self rfl
    rcases sub_snoc h1 with h6 | ⟨s2, e2, h6⟩
    · exact hx (h6.subset List.mem_cons_self)
    · have h7 : ([x] : List Cell) ++ [y] = s2 ++ [x] := e2
      have h8 := List.append_inj' h7 rfl
      rw [← h8.1] at h6
      exact hx (h6.subset List.mem_cons_self)
theorem Bfs.add {ways : List (List Cell)} {seen l : List Cell} {c d : Cell} {h w : Nat} (b : Bfs g s ways seen) {i : Nat} (dn : DoneTo g h w s seen i) (hl : ways[i]? = some l) (hc : seen[i]? = some c) (hd : d ∈ near6 c) (hg : g d = lt s) (hn : d ∉ seen) :
    Bfs g s (ways ++ [l ++ [d]]) (seen ++ [d]) := by
  obtain ⟨c', ec, r, sub⟩ := b.way i l hl
  have e : c' = c := by
    rw [hc] at ec
    exact (Option.some.inj ec).symm
  subst e
  have il : i < ways.length := (List.getElem?_eq_some_iff.mp hl).1
  refine ⟨by rw [List.length_append, List.length_append, b.len]; rfl, ?_, ?_, ?_, fun x a k => List.mem_append_left _ (b.first x a k), ?_, ?_⟩
  · intro j k hk
    by_cases hj : j < ways.length
    · rw [List.getElem?_append_left hj] at hk
      obtain ⟨x, e1, e2, e3⟩ := b.way j k hk
      refine ⟨x, ?_, e2, fun y hy => List.mem_append_left _ (e3 y hy)⟩
      rw [List.getElem?_append_left (by rw [← b.len]; exact hj)]
      exact e1
    · have hj2 : j = ways.length := by
        have := (List.getElem?_eq_some_iff.mp hk).1
        rw [List.length_append] at this
        simp at this
        omega
      subst hj2
      rw [List.getElem?_append_right (Nat.le_refl _), Nat.sub_self] at hk
      have ek : k = l ++ [d] := (Option.some.inj hk).symm
      subst ek
      refine ⟨d, ?_, .snoc r hd hg (fun z => hn (sub d z)), fun y hy => ?_⟩
      · rw [b.len, List.getElem?_append_right (Nat.le_refl _), Nat.sub_self]
        rfl
      · rcases List.mem_append.mp hy with hy | hy
        · exact List.mem_append_left _ (sub y hy)
        · exact List.mem_append_right _ hy
  · rw [List.nodup_append]
    refine ⟨b.nd, List.nodup_cons.mpr ⟨by simp, List.nodup_nil⟩, ?_⟩
    intro a ha y hy
    rw [List.mem_singleton] at hy
    rw [hy]
    intro e
    exact hn (e ▸ ha)
  · intro x hx
    rcases List.mem_append.mp hx with hx | hx
    · exact b.sg x hx
    · rw [List.mem_singleton.mp hx]
      exact hg
  · intro j k e hk he x hx hne
    by_cases hj : j < ways.length
    · rw [List.getElem?_append_left hj] at hk
      rw [List.getElem?_append_left (by rw [← b.len]; exact hj)] at he
      obtain ⟨m, m1, m2⟩ := b.pos j k e hk he x hx hne
      exact ⟨m, m1, by rw [List.getElem?_append_left (by rw [← b.len]; omega)]; exact m2⟩
    · have hj2 : j = ways.length := by
        have := (List.getElem?_eq_some_iff.mp hk).1
        rw [List.length_append] at this
        simp at this
        omega
      subst hj2
      rw [List.getElem?_append_right (Nat.le_refl _), Nat.sub_self] at hk
      have ek : k = l ++ [d] := (Option.some.inj hk).symm
      subst ek
      rw [b.len, List.getElem?_append_right (Nat.le_refl _), Nat.sub_self] at he
      have ee : e = d := (Option.some.inj he).symm
      subst ee
      rcases List.mem_append.mp hx with hx | hx
      · by_cases ex : x = c'
        · exact ⟨i, il, by rw [List.getElem?_append_left (by rw [← b.len]; exact il), ex]; exact hc⟩
        · obtain ⟨m, m1, m2⟩ := b.pos i l c' hl hc x hx ex
          exact ⟨m, by omega, by rw [List.getElem?_append_left (by rw [← b.len]; omega)]; exact m2⟩
      · exact absurd (List.mem_singleton.mp hx) hne
  · intro j k hk
    by_cases hj : j < ways.length
    · rw [List.getElem?_append_left hj] at hk
      exact b.thin j k hk
    · have hj2 : j = ways.length := by
        have := (List.getElem?_eq_some_iff.mp hk).1
        rw [List.length_append] at this
        simp at this
        omega
      subst hj2
      rw [List.getElem?_append_right (Nat.le_refl _), Nat.sub_self] at hk
      have ek : k = l ++ [d] := (Option.some.inj hk).symm
      subst ek
      refine thin_add r.nodup r.last (b.thin i l hl) fun x hx hne hm => ?_
      obtain ⟨m, m1, m2⟩ := b.pos i l c' hl hc x hx hne
      exact hn ((dn m x m1 m2).2 d hm hg)
theorem DoneTo.mono {seen : List Cell} {n : Nat} {d : Cell} (k : DoneTo g h w s seen n) (hn : n ≤ seen.length) : DoneTo g h w s (seen ++ [d]) n := by
  intro i c hi hc
  rw [List.getElem?_append_left (by omega)] at hc
  obtain ⟨a, b⟩ := k i c hi hc
  exact ⟨a, fun x hx hg => List.mem_append_left _ (b x hx hg)⟩
theorem DoneTo.none {seen : List Cell} (k : DoneTo g h w s seen seen.length) (first : ∀ c, g c = lt s → sd s c = 0 → c ∈ seen) : ¬ Joined g h w s := by
  have all : ∀ c, Reach g s c → c ∈ seen := by
    intro c r
    induction r with
    | first a b => exact first _ a b
    | next _ n a ih =>
      obtain ⟨i, hi, e⟩ := List.mem_iff_getElem.mp ih
      exact (k i _ hi (by rw [List.getElem?_eq_getElem hi, e])).2 _ n a
  rintro ⟨c, r, e⟩
  obtain ⟨i, hi, e1⟩ := List.mem_iff_getElem.mp (all c r)
  exact (k i _ hi (by rw [List.getElem?_eq_getElem hi, e1])).1 e

/-! ### the flood -/
structure Fld (g : Cell → Nat) (s : Bool) (seen left : List Cell) : Prop where
  nd : seen.Nodup
  sub : ∀ c ∈ left, c ∈ seen
  re : ∀ c ∈ seen, Reach g s c
  first : ∀ c, g c = lt s → sd s c = 0 → c ∈ seen
/-- whatever is seen and not left is done -/
def FDone (g : Cell → Nat) (s : Bool) (seen left : List Cell) : Prop := ∀ c ∈ seen, c ∉ left → ∀ d ∈ near6 c, g d = lt s → d ∈ seen
theorem flood_end {seen : List Cell} (f : Fld g s seen []) (k : FDone g s seen []) : Joined g h w s ↔ ∃ c ∈ seen, sd s c = ext s h w - 1 := by
  have all : ∀ c, Reach g s c → c ∈ seen := by
    intro c r
    induction r with
    | first a b => exact f.first _ a b
    | next _ n a ih => exact k _ ih (by simp) _ n a
  constructor
  · rintro ⟨c, r, e⟩
    exact ⟨c, all c r, e⟩
  · rintro ⟨c, hc, e⟩
    exact ⟨c, f.re c hc, e⟩
end

/-! ### with a rectangle under it -/
theorem Bfs.bound {B : Bd} {h w : Nat} {s : Bool} {ways : List (List Cell)} {seen : List Cell} (I : IsB B h w) (b : Bfs (cel B) s ways seen) : seen.length ≤ h * w :=
  nodup_rect b.nd fun c hc => I.ins (by rw [b.sg c hc]; cases s <;> decide)
theorem lt_ne (s : Bool) : lt s ≠ 0 := by cases s <;> decide
theorem Rd.bound {B : Bd} {h w : Nat} {s : Bool} {l : List Cell} {c : Cell} (I : IsB B h w) (r : Rd (cel B) s l c) : l.length ≤ h * w :=
  nodup_rect r.nodup fun x hx => I.ins (by rw [r.signs x hx]; exact lt_ne s)
theorem Fld.bound {B : Bd} {h w : Nat} {s : Bool} {seen left : List Cell} (I : IsB B h w) (f : Fld (cel B) s seen left) : seen.length ≤ h * w :=
  nodup_rect f.nd fun c hc => I.ins (by rw [(f.re c hc).sign]; exact lt_ne s)
theorem area {B : Bd} {h w : Nat} (I : IsB B h w) : h * w ≤ 81 := Nat.mul_le_mul I.h9 I.w9
/-! ### how long a road can be: fewer than 64 cells -/
def grp (r c : Nat) : Nat := if r < 8 then 2 * (3 * (r / 2) + c / 3) + (if r % 2 + c % 3 ≤ 1 then 0 else 1) else 24 + c
def nearN (r c r' c' : Nat) : Bool := (r' + 1 == r && (c' == c || c' == c + 1)) || (r' == r && (c' == c + 1 || c' + 1 == c)) || (r' == r + 1 && (c' == c || c' + 1 == c))
def grpAll : Bool := (List.range 9).all fun r => (List.range 9).all fun c => decide (grp r c < 33) && (List.range 9).all fun r' => (List.range 9).all fun c' => grp r c != grp r' c' || ((r == r' && c == c') || nearN r c r' c')
theorem grpAll_yes : grpAll = true := by decide +kernel
theorem grp_near (r : Nat) (hr : r < 9) (c : Nat) (hc : c < 9) (r' : Nat) (hr' : r' < 9) (c' : Nat) (hc' : c' < 9) (e : grp r c = grp r' c') : (r = r' ∧ c = c') ∨ nearN r c r' c' = true := by
  have h1 := List.all_eq_true.mp (List.all_eq_true.mp grpAll_yes r (List.mem_range.mpr hr)) c (List.mem_range.mpr hc)
  have h2 := List.all_eq_true.mp (List.all_eq_true.mp (Bool.and_eq_true _ _ ▸ h1).2 r' (List.mem_range.mpr hr')) c' (List.mem_range.mpr hc')
  simp only [Bool.or_eq_true, Bool.and_eq_true, bne_iff_ne, beq_iff_eq, ne_eq] at h2
  rcases h2 with h2 | h2
  · exact absurd e h2
  · exact h2
theorem grp_lt (r : Nat) (hr : r < 9) (c : Nat) (hc : c < 9) : grp r c < 33 := by
  have h1 := List.all_eq_true.mp (List.all_eq_true.mp grpAll_yes r (List.mem_range.mpr hr)) c (List.mem_range.mpr hc)
  exact of_decide_eq_true (Bool.and_eq_true _ _ ▸ h1).1
theorem filter_two {α : Type} (p : α → Bool) : ∀ l : List α, l.length = (l.filter p).length + (l.filter fun x => !p x).length
  | [] => rfl
  | a :: l => by
    have ih := filter_two p l
    cases e : p a <;> simp [List.filter_cons, e] <;> omega
theorem fiber_bound {α : Type} (f : α → Nat) (m : Nat) : ∀ (N : Nat) (l : List α), (∀ x ∈ l, f x < N) → (∀ n, (l.filter fun x => decide (f x = n)).length ≤ m) → l.length ≤ N * m
  | 0, l, h, _ => by
    cases l with
    | nil => exact Nat.zero_le _
    | cons a l => exact absurd (h a List.mem_cons_self) (Nat.not_lt_zero _)
  | N + 1, l, h, k => by
    have h1 := filter_two (fun x => decide (f x = N)) l
    have h2 := k N
    have h3 := fiber_bound f m N (l.filter fun x => !decide (f x = N)) (fun x hx => by
      obtain ⟨a, b⟩ := List.mem_filter.mp hx
      have c := h x a
      have d : f x ≠ N := fun z => by simp [z] at b
      omega) (fun n => by
      rw [List.filter_filter]
      refine Nat.le_trans ?_ (k n)
      have e : (l.filter fun x => decide (f x = n) && !decide (f x = N)).Sublist (l.filter fun x => decide (f x = n)) := by
        have e2 : (l.filter fun x => decide (f x = n) && !decide (f x = N)) = (l.filter fun x => decide (f x = n)).filter fun x => !decide (f x = N) := by
          rw [List.filter_filter]
          congr 1
          funext x
          exact Bool.and_comm _ _
        rw [e2]
        exact List.filter_sublist
      exact e.length_le)
    rw [Nat.add_mul, Nat.one_mul]
    omega
theorem thin_group {l : List Cell} (hn : l.Nodup) (hi : ∀ c ∈ l, Ins 9 9 c) (ht : Thin l) (n : Nat) : (l.filter fun x => decide (grp x.1.toNat x.2.toNat = n)).length ≤ 2 := by
  rcases e : l.filter (fun x => decide (grp x.1.toNat x.2.toNat = n)) with _ | ⟨a, _ | ⟨b, _ | ⟨c, rest⟩⟩⟩
  · rw [e]
    exact Nat.zero_le _
  · rw [e]
    exact Nat.le_succ _
  · rw [e]
    exact Nat.le_refl _
  · exfalso
    have sl : ([a, b, c] : List Cell).Sublist l := by
      have h1 : (a :: b :: c :: rest).Sublist l := by
        rw [← e]
        exact List.filter_sublist
      have h2 : ([a, b, c] : List Cell).Sublist (a :: b :: c :: rest) := .cons₂ _ (.cons₂ _ (.cons₂ _ (List.nil_sublist _)))
      exact h2.trans h1
    have nf : (l.filter fun x => decide (grp x.1.toNat x.2.toNat = n)).Nodup := List.Sublist.nodup List.filter_sublist hn
    rw [e] at nf
    have ne : a ≠ c := fun z => by
      rw [List.nodup_cons] at nf
      exact nf.1 (by rw [z]; simp)
    have ma : a ∈ l.filter fun x => decide (grp x.1.toNat x.2.toNat = n) := by rw [e]; simp
    have mc : c ∈ l.filter fun x => decide (grp x.1.toNat x.2.toNat = n) := by rw [e]; simp
    obtain ⟨a1, a2⟩ := List.mem_filter.mp ma
    obtain ⟨c1, c2⟩ := List.mem_filter.mp mc
    have ga := of_decide_eq_true a2
    have gc := of_decide_eq_true c2
    obtain ⟨p1, p2, p3, p4⟩ := hi a a1
    obtain ⟨q1, q2, q3, q4⟩ := hi c c1
    rcases grp_near a.1.toNat (by omega) a.2.toNat (by omega) c.1.toNat (by omega) c.2.toNat (by omega) (ga.trans gc.symm) with z | z
    · exact ne (Prod.ext (by omega) (by omega))
    · refine ht a b c sl (near6_iff.mpr ?_)
      unfold nearN at z
      simp only [Bool.or_eq_true, Bool.and_eq_true, beq_iff_eq] at z
      omega
theorem thin_group1 {l : List Cell} (hn : l.Nodup) (hi : ∀ c ∈ l, Ins 9 9 c) (n : Nat) (h24 : 24 ≤ n) : (l.filter fun x => decide (grp x.1.toNat x.2.toNat = n)).length ≤ 1 := by
  rcases e : l.filter (fun x => decide (grp x.1.toNat x.2.toNat = n)) with _ | ⟨a, _ | ⟨b, rest⟩⟩
  · rw [e]
    exact Nat.zero_le _
  · rw [e]
    exact Nat.le_refl _
  · exfalso
    have nf : (l.filter fun x => decide (grp x.1.toNat x.2.toNat = n)).Nodup := List.Sublist.nodup List.filter_sublist hn
    rw [e] at nf
    have ne : a ≠ b := fun z => by
      rw [List.nodup_cons] at nf
      exact nf.1 (by rw [z]; simp)
    have ma : a ∈ l.filter fun x => decide (grp x.1.toNat x.2.toNat = n) := by rw [e]; simp
    have mc : b ∈ l.filter fun x => decide (grp x.1.toNat x.2.toNat = n) := by rw [e]; simp
    obtain ⟨a1, a2⟩ := List.mem_filter.mp ma
    obtain ⟨c1, c2⟩ := List.mem_filter.mp mc
    have ga := of_decide_eq_true a2
    have gc := of_decide_eq_true c2
    obtain ⟨p1, p2, p3, p4⟩ := hi a a1
    obtain ⟨q1, q2, q3, q4⟩ := hi b c1
    unfold grp at ga gc
    have f1 : ¬ a.1.toNat < 8 := fun z => by rw [if_pos z] at ga; split at ga <;> omega
    have f2 : ¬ b.1.toNat < 8 := fun z => by rw [if_pos z] at gc; split at gc <;> omega
    rw [if_neg f1] at ga
    rw [if_neg f2] at gc
    exact ne (Prod.ext (by omega) (by omega))
theorem thin_bound {l : List Cell} (hn : l.Nodup) (hi : ∀ c ∈ l, Ins 9 9 c) (ht : Thin l) : l.length < 64 := by
  have h1 := filter_two (fun x : Cell => decide (grp x.1.toNat x.2.toNat < 24)) l
  have h2 := fiber_bound (fun x : Cell => grp x.1.toNat x.2.toNat) 2 24 (l.filter fun x => decide (grp x.1.toNat x.2.toNat < 24)) (fun x hx => of_decide_eq_true (List.mem_filter.mp hx).2) (fun n => by
    refine Nat.le_trans (List.Sublist.length_le (List.Sublist.filter _ List.filter_sublist)) (thin_group hn hi ht n))
  have h3 := fiber_bound (fun x : Cell => grp x.1.toNat x.2.toNat - 24) 1 9 (l.filter fun x => !decide (grp x.1.toNat x.2.toNat < 24)) (fun x hx => by
    obtain ⟨a, b⟩ := List.mem_filter.mp hx
    obtain ⟨p1, p2, p3, p4⟩ := hi x a
    have := grp_lt x.1.toNat (by omega) x.2.toNat (by omega)
    show grp x.1.toNat x.2.toNat - 24 < 9
    omega) (fun n => by
    refine Nat.le_trans ?_ (thin_group1 hn hi (n + 24) (by omega))
    rw [List.filter_filter]
    refine Nat.le_of_eq (congrArg List.length (List.filter_congr fun x _ => ?_))
    rw [Bool.eq_iff_iff]
    simp
    omega)
  omega
theorem Road.bound {B : Bd} {h w : Nat} {s : Bool} {l : List Cell} (I : IsB B h w) (r : Road (cel B) h w s l) : l.length < 64 := by
  obtain ⟨c, a, _, t⟩ := r
  refine thin_bound a.nodup (fun x hx => ?_) t
  have ix := I.ins (p := x) (by rw [a.signs x hx]; exact lt_ne s)
  have h9 := I.h9
  have w9 := I.w9
  obtain ⟨p1, p2, p3, p4⟩ := ix
  exact ⟨p1, by omega, p3, by omega⟩
/-- is a hand joined, as a Bool -/
noncomputable def jB (B : Bd) (s : Bool) : Bool := @decide (Joined (cel B) B.length (wid B) s) (Classical.propDecidable _)
theorem jB_iff {B : Bd} {h w : Nat} (I : IsB B h w) (s : Bool) : jB B s = true ↔ Joined (cel B) h w s := by
  unfold jB
  rw [I.hh, I.wid]
  exact @decide_eq_true_iff (Joined (cel B) h w s) (Classical.propDecidable _)
theorem jB_not {B : Bd} {h w : Nat} (I : IsB B h w) (s : Bool) : jB B s = false ↔ ¬ Joined (cel B) h w s := by
  rw [← jB_iff I, Bool.not_eq_true]
end Sw
/-! How a search's queue and its dict of cells stand in the heap. -/
namespace Sw
open PySem PySem.Spec PyProof.Rows L2
def keyOf (c : Cell) : List Key := [Sum.inl c.1, Sum.inl c.2]
theorem keyOf_inj {a b : Cell} (h : keyOf a = keyOf b) : a = b := by
  have h1 := (List.cons.inj h).1
  have h2 := (List.cons.inj (List.cons.inj h).2).1
  exact Prod.ext (Sum.inl.inj h1) (Sum.inl.inj h2)
/-- a dict with the cells cs for keys, in this order -/
def Seen (H : Hp) (d : Addr) (cs : List Cell) : Prop := ∃ kvs : List (List Key × V), H d = some (.dT kvs) ∧ kvs.map (·.1) = cs.map keyOf
theorem Seen.same {H H' : Hp} {d : Addr} {cs : List Cell} (s : Seen H d cs) (k : Same H H') : Seen H' d cs := by
  obtain ⟨kvs, e, m⟩ := s
  exact ⟨kvs, k _ _ e, m⟩
theorem Seen.updL {H : Hp} {d l : Addr} {cs : List Cell} {ys : List V} {o : HO} (s : Seen H d cs) (h : H l = some (.lst ys)) : Seen (upd H l o) d cs := by
  obtain ⟨kvs, e, m⟩ := s
  exact ⟨kvs, by rw [upd_ne (ne_of e h (by intro z; cases z))]; exact e, m⟩
theorem key_in {kvs : List (List Key × V)} {cs : List Cell} (m : kvs.map (·.1) = cs.map keyOf) (c : Cell) : keyOf c ∈ (kvs.map fun p : List Key × V => p.1) ↔ c ∈ cs := by
  rw [m, List.mem_map]
  constructor
  · rintro ⟨x, hx, e⟩
    rw [← keyOf_inj e]
    exact hx
  · intro h
    exact ⟨c, h, rfl⟩
theorem val_some {kvs : List (List Key × V)} {k : List Key} : (valV kvs k).isSome = true ↔ k ∈ kvs.map fun p : List Key × V => p.1 := by
  rw [← valV_any, List.any_eq_true, List.mem_map]
  constructor
  · rintro ⟨x, hx, e⟩
    exact ⟨x, hx, of_decide_eq_true e⟩
  · rintro ⟨x, hx, e⟩
    exact ⟨x, hx, decide_eq_true e⟩
theorem Seen.get {H : Hp} {d b : Addr} {cs : List Cell} {c : Cell} (s : Seen H d cs) (hb : H b = some (.tup (cellV c))) : ∃ o, DGet H d (.ref b) o ∧ o.isSome = decide (c ∈ cs) := by
  obtain ⟨kvs, e, m⟩ := s
  refine ⟨valV kvs (keyOf c), DGet.t (k := keyOf c) e hb, ?_⟩
  rw [Bool.eq_iff_iff, decide_eq_true_eq, val_some]
  exact key_in m c
theorem Seen.put {H : Hp} {d b : Addr} {cs : List Cell} {c : Cell} {v : V} (s : Seen H d cs) (hb : H b = some (.tup (cellV c))) (hn : c ∉ cs) (hl : cs.length ≤ 1000) :
    ∃ ys, DPut H d (.ref b) v (upd H d (.dT ys)) ∧ Seen (upd H d (.dT ys)) d (cs ++ [c]) ∧ Tps H (upd H d (.dT ys)) ∧ ∃ xs, H d = some (.dT xs) := by
  obtain ⟨kvs, e, m⟩ := s
  have el : kvs.length = cs.length := by
    have := congrArg List.length m
    rw [List.length_map, List.length_map] at this
    exact this
  have hv : valV kvs (keyOf c) = none := by
    cases h : valV kvs (keyOf c) with
    | none => rfl
    | some x => exact absurd ((key_in m c).mp (val_some.mp (by rw [h]; rfl))) hn
  refine ⟨putK kvs (keyOf c) v, DPut.t (k := keyOf c) e hb (sz_lt (by omega)), ⟨_, upd_same, ?_⟩, .dT e, kvs, e⟩
  rw [putK_new _ hv, List.map_append, List.map_append, m]
  rfl
theorem Seen.nil {H : Hp} {d : Addr} : Seen (upd H d (.dT [])) d [] := ⟨[], upd_same, rfl⟩

/-! ### a list of ways: each a list of cells of its own, unknown to H0, none of them the queue itself -/
inductive Ways (H0 : Hp) (q : Addr) (H : Hp) : List V → List (List Cell) → Prop
  | nil : Ways H0 q H [] []
  | cons {a : Addr} {vs ws : List V} {cs : List Cell} {css : List (List Cell)} : H0 a = none → a ≠ q → H a = some (.lst vs) → Cells H vs cs → Ways H0 q H ws css → Ways H0 q H (.ref a :: ws) (cs :: css)
section
variable {H0 H H' : Hp} {q d : Addr}
theorem Ways.keep (k : ∀ a vs, a ≠ q → H a = some (.lst vs) → H' a = some (.lst vs)) (t : Tps H H') : ∀ {ws : List V} {css : List (List Cell)}, Ways H0 q H ws css → Ways H0 q H' ws css
  | _, _, .nil => .nil
  | _, _, .cons a b c e r => .cons a b (k _ _ b c) (e.tps t) (Ways.keep k t r)
theorem Ways.same (s : Same H H') {ws : List V} {css : List (List Cell)} (w : Ways H0 q H ws css) : Ways H0 q H' ws css := w.keep (fun a vs _ e => s _ _ e) (.of s)
theorem Ways.updq {ys : List V} {o : HO} (h : H q = some (.lst ys)) {ws : List V} {css : List (List Cell)} (w : Ways H0 q H ws css) : Ways H0 q (upd H q o) ws css :=
  w.keep (fun a vs n e => by rw [upd_ne n]; exact e) (.lst h)
theorem Ways.updd {ys : List (List Key × V)} {o : HO} (h : H d = some (.dT ys)) {ws : List V} {css : List (List Cell)} (w : Ways H0 q H ws css) : Ways H0 q (upd H d o) ws css :=
  w.keep (fun a vs _ e => by rw [upd_ne (ne_of e h (by intro z; cases z))]; exact e) (.dT h)
theorem Ways.len : ∀ {ws : List V} {css : List (List Cell)}, Ways H0 q H ws css → ws.length = css.length
  | _, _, .nil => rfl
  | _, _, .cons _ _ _ _ r => by rw [List.length_cons, List.length_cons, Ways.len r]
theorem Ways.app : ∀ {ws ws' : List V} {css css' : List (List Cell)}, Ways H0 q H ws css → Ways H0 q H ws' css' → Ways H0 q H (ws ++ ws') (css ++ css')
  | _, _, _, _, .nil, h => h
  | _, _, _, _, .cons a b c e r, h => .cons a b c e (Ways.app r h)
theorem Ways.one {a : Addr} {vs : List V} {cs : List Cell} (h0 : H0 a = none) (n : a ≠ q) (h : H a = some (.lst vs)) (c : Cells H vs cs) : Ways H0 q H [.ref a] [cs] := .cons h0 n h c .nil
theorem Ways.get : ∀ {ws : List V} {css : List (List Cell)} {i : Nat} {x : V}, Ways H0 q H ws css → ws[i]? = some x → ∃ a vs cs, x = .ref a ∧ css[i]? = some cs ∧ H0 a = none ∧ a ≠ q ∧ H a = some (.lst vs) ∧ Cells H vs cs
  | _, _, _, _, .nil, e => by simp at e
  | _, _, 0, _, .cons a b c d r, e => by
    simp at e
    subst e
    exact ⟨_, _, _, rfl, rfl, a, b, c, d⟩
  | _, _, i + 1, _, .cons _ _ _ _ r, e => Ways.get (i := i) r (by simpa using e)
end
theorem atI_last1 {l : List V} {v : V} (h : l[l.length - 1]? = some v) : atI l (-1) = some v := by
  have hp : 0 < l.length := by
    have := (List.getElem?_eq_some_iff.mp h).1
    omega
  have e : l = l.dropLast ++ [v] := by
    have hne : l ≠ [] := by
      intro z
      rw [z] at hp
      exact absurd hp (Nat.lt_irrefl _)
    have h2 := List.dropLast_concat_getLast hne
    have h3 : l.getLast hne = v := by
      rw [List.getLast_eq_getElem]
      have := (List.getElem?_eq_some_iff.mp h).2
      exact this
    rw [h3] at h2
    exact h2.symm
  rw [e]
  exact atI_last _ _
theorem sgn_eq {x y : Nat} : V.str (txt [x]) = V.str (txt [y]) ↔ x = y := by
  constructor
  · intro h
    exact (List.cons.inj (txt_inj (V.str.inj h))).1
  · intro h
    rw [h]
theorem nodup_take {α : Type} {l : List α} (hn : l.Nodup) {i : Nat} {c : α} (h : l[i]? = some c) : c ∉ l.take i := by
  intro hm
  obtain ⟨j, hj, e⟩ := List.mem_take_iff_getElem.mp hm
  have hi := (List.getElem?_eq_some_iff.mp h)
  obtain ⟨hi, ei⟩ := hi
  have := (List.getElem_inj (h₀ := by omega) (h₁ := hi) hn).mp (e.trans ei.symm)
  omega
theorem take_snoc {α : Type} {l : List α} {i : Nat} {c : α} (h : l[i]? = some c) : l.take (i + 1) = l.take i ++ [c] := by
  rw [List.take_add_one, h]
  rfl
/-- a hand's text -/
theorem hand_n {s : Bool} : V.str (txt [lt s]) = V.str (Str.ofString "n") ↔ s = false := by
  rw [s_n]
  constructor
  · intro h
    have := (List.cons.inj (txt_inj (V.str.inj h))).1
    cases s
    · rfl
    · exact absurd this (by decide)
  · intro h
    rw [h]
    rfl
theorem hand_w {s : Bool} : V.str (txt [lt s]) = V.str (Str.ofString "w") ↔ s = true := by
  rw [s_w]
  constructor
  · intro h
    have := (List.cons.inj (txt_inj (V.str.inj h))).1
    cases s
    · exact absurd this (by decide)
    · rfl
  · intro h
    rw [h]
    rfl
theorem lt_ok (s : Bool) : lt s = 110 ∨ lt s = 119 := by cases s <;> decide
/-! ### the cells of a hand's first shore -/
def shoreL (h w : Nat) (s : Bool) : List Cell := if s then (List.range h).map fun r : Nat => ((r : Int), (0 : Int)) else (List.range w).map fun c : Nat => ((0 : Int), (c : Int))
def begs (B : Bd) (h w : Nat) (s : Bool) : List Cell := (shoreL h w s).filter fun p => decide (cel B p = lt s)
theorem begs_nodup (B : Bd) (h w : Nat) (s : Bool) : (begs B h w s).Nodup := by
  refine List.Sublist.nodup List.filter_sublist ?_
  unfold shoreL
  cases s
  · exact nodup_map List.nodup_range fun x _ y _ e => by
      have := (Prod.ext_iff.mp e).2
      exact Int.ofNat.inj this
  · exact nodup_map List.nodup_range fun x _ y _ e => by
      have := (Prod.ext_iff.mp e).1
      exact Int.ofNat.inj this
theorem mem_shore {h w : Nat} {s : Bool} {p : Cell} (hp : Ins h w p) (e : sd s p = 0) : p ∈ shoreL h w s := by
  obtain ⟨a, b, c, d⟩ := hp
  unfold shoreL
  cases s
  · have e' : p.1 = 0 := e
    exact List.mem_map.mpr ⟨p.2.toNat, List.mem_range.mpr (by omega), Prod.ext (by show (0 : Int) = p.1; omega) (by show ((p.2.toNat : Nat) : Int) = p.2; omega)⟩
  · have e' : p.2 = 0 := e
    exact List.mem_map.mpr ⟨p.1.toNat, List.mem_range.mpr (by omega), Prod.ext (by show ((p.1.toNat : Nat) : Int) = p.1; omega) (by show (0 : Int) = p.2; omega)⟩
theorem shore_sd {h w : Nat} {s : Bool} {p : Cell} (hp : p ∈ shoreL h w s) : sd s p = 0 := by
  unfold shoreL at hp
  cases s
  · obtain ⟨c, _, rfl⟩ := List.mem_map.mp hp
    rfl
  · obtain ⟨c, _, rfl⟩ := List.mem_map.mp hp
    rfl
theorem shore_ins {B : Bd} {h w : Nat} (I : IsB B h w) {s : Bool} {p : Cell} (hp : p ∈ shoreL h w s) : Ins h w p := by
  have h1 := I.h1
  have w1 := I.w1
  unfold shoreL at hp
  cases s
  · obtain ⟨c, hc, rfl⟩ := List.mem_map.mp hp
    have := List.mem_range.mp hc
    refine ⟨by show (0 : Int) ≤ 0; omega, by show (0 : Int) < h; omega, by show (0 : Int) ≤ (c : Int); omega, by show ((c : Nat) : Int) < w; omega⟩
  · obtain ⟨c, hc, rfl⟩ := List.mem_map.mp hp
    have := List.mem_range.mp hc
    refine ⟨by show (0 : Int) ≤ (c : Int); omega, by show ((c : Nat) : Int) < h; omega, by show (0 : Int) ≤ 0; omega, by show (0 : Int) < w; omega⟩
theorem mem_begs {B : Bd} {h w : Nat} (I : IsB B h w) {s : Bool} {p : Cell} : p ∈ begs B h w s ↔ cel B p = lt s ∧ sd s p = 0 := by
  unfold begs
  rw [List.mem_filter, decide_eq_true_eq]
  constructor
  · rintro ⟨a, b⟩
    exact ⟨b, shore_sd a⟩
  · rintro ⟨a, b⟩
    exact ⟨mem_shore (I.ins (by rw [a]; exact lt_ne s)) b, a⟩
theorem shoreL_len {h w : Nat} {s : Bool} : (shoreL h w s).length ≤ h + w := by
  unfold shoreL
  cases s
  · show ((List.range w).map _).length ≤ _
    rw [List.length_map, List.length_range]
    omega
  · show ((List.range h).map _).length ≤ _
    rw [List.length_map, List.length_range]
    omega
/-- the search as it begins -/
theorem bfs_start {B : Bd} {h w : Nat} (I : IsB B h w) (s : Bool) : Bfs (cel B) s ((begs B h w s).map fun c => [c]) (begs B h w s) := by
  refine ⟨by rw [List.length_map], ?_, begs_nodup B h w s, fun c hc => ((mem_begs I).mp hc).1, fun c a b => (mem_begs I).mpr ⟨a, b⟩, fun i l c hl hc x hx hne => ?_, fun i l hl => ?_⟩
  · intro i l hl
    obtain ⟨c, ec, rfl⟩ := map_get hl
    have hm := List.mem_of_getElem? ec
    have hc := (mem_begs I).mp hm
    refine ⟨c, ec, .one hc.1 hc.2, fun x hx => ?_⟩
    rw [List.mem_singleton.mp hx]
    exact hm
  · obtain ⟨c', ec, rfl⟩ := map_get hl
    rw [hc] at ec
    cases ec
    exact absurd (List.mem_singleton.mp hx) hne
  · obtain ⟨c', ec, rfl⟩ := map_get hl
    intro a b c hs
    have := hs.length_le
    exact absurd this (show ¬ (3 ≤ 1) by decide)
end Sw
/-! A text as a list of signs; boards as lists of lists of signs. -/
namespace Sw
open PySem PySem.Spec PyProof.Rows L2
def sgV (c : Nat) : V := .str (txt [c])
theorem vals_signs : ∀ (l : List Nat) (its : List Value), its.length = l.length → (∀ (j : Nat) (v : Value), its[j]? = some v → ∃ c u, l[j]? = some c ∧ v = .str ⟨#[c]⟩ u) → Vals (l.map sgV) its
  | [], [], _, _ => .nil
  | [], _ :: _, h, _ => by cases h
  | _ :: _, [], h, _ => by cases h
  | c :: l, v :: its, h, k => by
    obtain ⟨c', u, e1, e2⟩ := k 0 v rfl
    cases e1
    subst e2
    exact .cons ⟨u, rfl⟩ (vals_signs l its (Nat.succ.inj h) fun j x hx => k (j + 1) x hx)
/-- list(text): its signs, a new list -/
def rListSigns : List V → Hp → VK → Prop := fun xs Hh Q => ∃ z : List Nat, xs = [.str (txt z)] ∧ z.length ≤ 1000 ∧ ∀ l, Hh l = none → Q (.ref l) (upd Hh l (.lst (z.map sgV)))
theorem call_list_signs {X : Cx} (hc : X.calm = true) : CallR X (.type "list") rListSigns := by
  intro pins s σ H xs us Q I r h
  obtain ⟨z, rfl, hz, q⟩ := h
  obtain ⟨u, rfl, rx⟩ := vals1 r
  obtain ⟨t, rfl⟩ := rx
  have hn : (txt z).cps.size ≤ sizeLine := by
    have e : (txt z).cps.size = z.length := txt_len z
    rw [e]
    exact sz_le (by omega)
  refine PySem.call_list_str (hn := hn) (I.ok.hd hc) (txt z) t fun h' tk acc' c' k e it => ?_
  have hv : Vals (z.map sgV) acc'.toList := by
    refine vals_signs z acc'.toList ?_ fun j v hj => ?_
    · have e1 : acc'.size = (txt z).cps.size := it.1
      have e2 : (txt z).cps.size = z.length := txt_len z
      rw [Array.length_toList, e1, e2]
    · rw [Array.getElem?_toList] at hj
      obtain ⟨c, u, e1, e2⟩ := it.2 j v hj
      have e3 : (txt z).cps.toList[j]? = some c := by
        rw [Array.getElem?_toList]
        exact e1
      exact ⟨c, u, e3, e2⟩
  refine ⟨.ref s.heap.objs.size, _, I.laid (t' := tk) k (Nat.le_refl _) (show ObjOk X.prog X.w _ h' _ (.lst (z.map sgV)) from ⟨?_, acc'.toList, c', hv, ?_⟩), rfl, q _ (I.hok.fresh (Nat.le_refl _))⟩
  · rw [List.length_map]
    exact sz_le (by omega)
  · exact e

theorem pe_joinK {X : Cx} {K : PySem.W.Frag} {o e : Expr} {to te : TE} {apos pos : Pos} (hK : X.K = K) (ho : PE X o to) (he : PE X e te) (hs : starEach [e] X.env = [(false, eval e X.env)] := by rfl) (hbase : attributeBase o "join" X.env (eval o X.env) = eval o X.env := by rfl) (hline : (apos.endLine == pos.line) = true := by rfl) :
    PE X (.Call (.Attribute o "join" apos) [e] [] pos) (tM1 (fun x xs H Q => ∃ a p, ∃ ys : List Str, x = .str a ∧ xs = [.ref p] ∧ (SqL K H p (ys.map V.str) ∨ SqT K H p (ys.map V.str)) ∧
      (ys.map (·.length)).sum + ys.length * a.length ≤ 16777216 ∧ Q (.str (Txt.join a ys)) H) to te) := by
  subst hK
  exact pe_join ho he hs hbase hline

/-! ### a board as a list of lists of signs: each of its own, unknown to H0 -/
structure Rows2 (H0 H : Hp) (q : Addr) (as : List Addr) (B : Bd) : Prop where
  nd : as.Nodup
  len : as.length = B.length
  row : ∀ (i : Nat) (a : Addr) (r : List Nat), as[i]? = some a → B[i]? = some r → H0 a = none ∧ a ≠ q ∧ H a = some (.lst (r.map sgV))
theorem Rows2.same {H0 H H' : Hp} {q : Addr} {as : List Addr} {B : Bd} (R : Rows2 H0 H q as B) (s : Same H H') : Rows2 H0 H' q as B :=
  ⟨R.nd, R.len, fun i a r h1 h2 => by
    obtain ⟨x, y, z⟩ := R.row i a r h1 h2
    exact ⟨x, y, s _ _ z⟩⟩
theorem Rows2.updq {H0 H : Hp} {q : Addr} {as : List Addr} {B : Bd} (R : Rows2 H0 H q as B) (o : HO) : Rows2 H0 (upd H q o) q as B :=
  ⟨R.nd, R.len, fun i a r h1 h2 => by
    obtain ⟨x, y, z⟩ := R.row i a r h1 h2
    exact ⟨x, y, by rw [upd_ne y]; exact z⟩⟩
theorem Rows2.app {H0 H : Hp} {q : Addr} {as : List Addr} {B : Bd} (R : Rows2 H0 H q as B) {a : Addr} {r : List Nat} (hn : a ∉ as) (h0 : H0 a = none) (hq : a ≠ q) (ha : H a = some (.lst (r.map sgV))) : Rows2 H0 H q (as ++ [a]) (B ++ [r]) := by
  refine ⟨?_, by rw [List.length_append, List.length_append, R.len]; rfl, fun i b t h1 h2 => ?_⟩
  · rw [List.nodup_append]
    refine ⟨R.nd, List.nodup_cons.mpr ⟨by simp, List.nodup_nil⟩, fun x hx y hy => ?_⟩
    rw [List.mem_singleton.mp hy]
    exact fun z => hn (z ▸ hx)
  · by_cases hi : i < as.length
    · rw [List.getElem?_append_left hi] at h1
      rw [List.getElem?_append_left (by rw [← R.len]; exact hi)] at h2
      exact R.row i b t h1 h2
    · have hl := (List.getElem?_eq_some_iff.mp h1).1
      rw [List.length_append] at hl
      simp at hl
      have e : i = as.length := by omega
      subst e
      rw [List.getElem?_append_right (Nat.le_refl _), Nat.sub_self] at h1
      rw [R.len, List.getElem?_append_right (Nat.le_refl _), Nat.sub_self] at h2
      cases h1
      cases h2
      exact ⟨h0, hq, ha⟩
theorem Rows2.put {H0 H : Hp} {q : Addr} {as : List Addr} {B : Bd} (R : Rows2 H0 H q as B) {a : Addr} {p : Cell} {r : List Nat} {x : Nat} (ha : as[p.1.toNat]? = some a) (hr : B[p.1.toNat]? = some r) :
    Rows2 H0 (upd H a (.lst ((r.set p.2.toNat x).map sgV))) q as (putB B p x) := by
  have ia := (List.getElem?_eq_some_iff.mp ha)
  obtain ⟨il, ie⟩ := ia
  refine ⟨R.nd, by unfold putB; rw [List.length_set]; exact R.len, fun i b t h1 h2 => ?_⟩
  rw [putB_eq hr] at h2
  obtain ⟨jl, je⟩ := List.getElem?_eq_some_iff.mp h1
  by_cases e : i = p.1.toNat
  · subst e
    have eb : b = a := by
      rw [ha] at h1
      exact (Option.some.inj h1).symm
    subst eb
    rw [List.getElem?_set_self (by rw [← R.len]; exact il)] at h2
    cases h2
    obtain ⟨x1, x2, _⟩ := R.row _ _ _ ha hr
    exact ⟨x1, x2, upd_same⟩
  · rw [List.getElem?_set_ne (fun z => e z.symm)] at h2
    obtain ⟨x1, x2, x3⟩ := R.row _ _ _ h1 h2
    have ne : b ≠ a := fun z => by
      subst z
      exact e ((List.getElem_inj (h₀ := jl) (h₁ := il) R.nd).mp (je.trans ie.symm))
    exact ⟨x1, x2, by rw [upd_ne ne]; exact x3⟩
end Sw
/-! Lists of truths: counted, compared. -/
namespace Sw
open PySem PySem.Spec PyProof.Rows L2
theorem countIn_bools (k : Bool) : ∀ bs : List Bool, countIn (.bool k) (bs.map PyData.bool) = ((bs.count k : Nat) : Int)
  | [] => rfl
  | b :: bs => by
    rw [List.map_cons, countIn, countIn_bools k bs, List.count_cons]
    simp only [same]
    rcases Bool.eq_false_or_eq_true (b == k) with hb | hb <;> simp only [hb, Bool.false_eq_true, if_true, if_false] <;> push_cast <;> omega
theorem bools_dpa {K : PySem.W.Frag} {H : Hp} : ∀ bs : List Bool, DpAll K H (bs.map V.bl) (bs.map PyData.bool)
  | [] => .nil
  | b :: bs => .cons (.bl b) (bools_dpa bs)
theorem bools_dp {K : PySem.W.Frag} {H : Hp} {a : Addr} {bs : List Bool} (h : H a = some (.lst (bs.map V.bl))) : Dp K H (.ref a) (.list (bs.map PyData.bool)) := .lst (SqL.of h) (bools_dpa bs)
theorem can_bools : ∀ bs : List Bool, PyData.canLayAll0 (bs.map PyData.bool) = true
  | [] => rfl
  | b :: bs => by
    rw [List.map_cons, PyData.canLayAll0, can_bools bs]
    rfl
theorem dep_bools : ∀ bs : List Bool, PyData.depthAll (bs.map PyData.bool) ≤ 1
  | [] => by decide
  | b :: bs => by
    have h := dep_bools bs
    rw [List.map_cons, PyData.depthAll]
    have e : (PyData.bool b).depth = 0 := rfl
    rw [e]
    omega
theorem shaped_bools (bs : List Bool) : SeqAt.shaped (.list (bs.map PyData.bool)) = true := by
  unfold SeqAt.shaped
  have h := dep_bools bs
  rw [show (PyData.list (bs.map PyData.bool)).canLay0 = PyData.canLayAll0 (bs.map PyData.bool) from rfl, can_bools]
  have : (PyData.list (bs.map PyData.bool)).depth ≤ 64 := by
    rw [PyData.depth]
    omega
  rw [decide_eq_true this]
  rfl
theorem eqv_bools (bs : List Bool) : PyData.eqv (.list (bs.map PyData.bool)) (.list (bs.map PyData.bool)) = true := SeqAt.eqv_refl _ (can_bools bs)
/-- l.count(truth) -/
def rCountB (K : PySem.W.Frag) : V → List V → Hp → VK → Prop := fun x xs H Q => ∃ (a : Addr) (bs : List Bool) (k : Bool), x = .ref a ∧ xs = [.bl k] ∧ SqL K H a (bs.map V.bl) ∧ Q (.int ((bs.count k : Nat) : Int)) H
theorem mt_countB {X : Cx} : MtR X "list.count" (rCountB X.K) := by
  intro pins s σ H x xs v us Q I rx rxs h
  obtain ⟨a, bs, k, rfl, rfl, hl, q⟩ := h
  cases rx
  cases rxs with
  | cons ry rt =>
    rename_i uy ut
    cases rt
    cases ry
    obtain ⟨its, rv, pl, hlen⟩ := I.list hl
    obtain ⟨as, h4⟩ := Dp.readsAll I (bs.map PyData.bool) _ its (bools_dpa bs) rv
    refine PyProof.Rows.count_list_bools (xs := bs.map PyData.bool) pl.isList h4 ?_ ?_
    · rw [List.all_eq_true]
      intro d hd
      obtain ⟨b, _, rfl⟩ := List.mem_map.mp hd
      rfl
    · rw [countIn_bools]
      exact ⟨.int ((bs.count k : Nat) : Int), H, I.tok _, ⟨_, rfl⟩, q⟩
theorem mt_countBK {X : Cx} {K : PySem.W.Frag} (hK : X.K = K) : MtR X "list.count" (rCountB K) := by
  subst hK
  exact mt_countB
theorem mt_indexDK {X : Cx} {K : PySem.W.Frag} (hK : X.K = K) (hu : X.A.units + 65 < cLine) : MtR X "list.index" (rIndexD K) := by
  subst hK
  exact mt_indexD hu
theorem pe_bmK {X : Cx} {K : PySem.W.Frag} {T id : String} {name : Str} {r : V → List V → Hp → VK → Prop} {o e : Expr} {es : List Expr} {to : TE} {t : TA} {apos cpos : Pos} (hK : X.K = K) (pa : PlainAttrs T) (slot : Slot T name id) (hty : typeOf (.builtin id) = pure (.type "method_descriptor")) (hm : MtR X id r) (ho : PE X o to) (ha : PA X (e :: es) t)
    (hbase : attributeBase o name X.env (eval o X.env) = eval o X.env := by rfl)
    (hfew : ((backTo cpos (starEach (e :: es) X.env)).all (fun x => !x.1) && (backToKw cpos (keywordEach [] X.env)).all (fun x => x.1.isSome)
      && decide ((e :: es).length + ([] : List Keyword).length + (if ([] : List Keyword).isEmpty then 0 else 1) < 30)) = true := by rfl)
    (hline : (apos.endLine == cpos.line) = true := by rfl) (hs : starEach (e :: es) X.env = (false, eval e X.env) :: starEach es X.env := by rfl) (hplain : (backTo cpos (starEach es X.env)).any (·.1) = false := by rfl) :
    PE X (.Call (.Attribute o name apos) (e :: es) [] cpos) (tBM K T r to t) := by
  subst hK
  exact pe_bm pa slot hty hm ho ha hbase hfew hline hs hplain
theorem count_two (a b : Bool) : ([a, b].count true : Nat) + ([a, b].count false : Nat) = 2 := by cases a <;> cases b <;> rfl
theorem count_not_both {a b : Bool} (h : ¬ (a = true ∧ b = true)) : [a, b].count true ≤ 1 := by cases a <;> cases b <;> simp_all
end Sw
/-! A board turned over; a stone more; boards with the same cells. Plain lists. -/
namespace Sw
def swp (p : Cell) : Cell := (p.2, p.1)
theorem near_swp {p q : Cell} (h : q ∈ near6 p) : swp q ∈ near6 (swp p) := by
  rw [near6_iff] at h ⊢
  show (q.2 = p.2 - 1 ∧ q.1 = p.1) ∨ (q.2 = p.2 - 1 ∧ q.1 = p.1 + 1) ∨ (q.2 = p.2 ∧ q.1 = p.1 + 1) ∨ (q.2 = p.2 + 1 ∧ q.1 = p.1) ∨ (q.2 = p.2 + 1 ∧ q.1 = p.1 - 1) ∨ (q.2 = p.2 ∧ q.1 = p.1 - 1)
  omega
theorem Reach.map {g g' : Cell → Nat} {s s' : Bool} (f : Cell → Cell) (hg : ∀ p, g p = lt s → g' (f p) = lt s') (hn : ∀ p q, q ∈ near6 p → f q ∈ near6 (f p)) (h0 : ∀ p, sd s p = 0 → sd s' (f p) = 0) {p : Cell} (r : Reach g s p) : Reach g' s' (f p) := by
  induction r with
  | first a b => exact .first (hg _ a) (h0 _ b)
  | next _ n a ih => exact .next ih (hn _ _ n) (hg _ a)
theorem lt_oth (s : Bool) : oth (lt s) = lt (!s) := by cases s <;> rfl
theorem lt_inj {s s' : Bool} (h : lt s = lt s') : s = s' := by
  cases s <;> cases s' <;> first | rfl | (exact absurd h (by decide))
theorem turn_one {B : Bd} {h w : Nat} (I : IsB B h w) {s : Bool} (j : Joined (cel B) h w s) : Joined (cel (tov B w)) w h (!s) := by
  obtain ⟨c, r, e⟩ := j
  refine ⟨swp c, r.map swp (fun p hp => ?_) (fun p q => near_swp) (fun p hp => ?_), ?_⟩
  · have := cel_tov I (I.ins (p := p) (by rw [hp]; exact lt_ne s))
    show cel (tov B w) (p.2, p.1) = _
    rw [this, hp, lt_oth]
  · cases s
    · exact hp
    · exact hp
  · cases s
    · exact e
    · exact e
/-- boards of one size with the same cells are one -/
theorem bd_ext {B B' : Bd} {h w : Nat} (I : IsB B h w) (I' : IsB B' h w) (k : ∀ p, Ins h w p → cel B p = cel B' p) : B = B' := by
  refine List.ext_getElem (by rw [I.hh, I'.hh]) fun i h1 h2 => ?_
  have hi : i < h := by rw [← I.hh]; exact h1
  refine List.ext_getElem (by rw [I.ww _ (List.getElem_mem h1), I'.ww _ (List.getElem_mem h2)]) fun j g1 g2 => ?_
  have hj : j < w := by rw [← I.ww _ (List.getElem_mem h1)]; exact g1
  have := k ((i : Int), (j : Int)) ⟨by show (0 : Int) ≤ (i : Int); omega, by show (i : Int) < h; omega, by show (0 : Int) ≤ (j : Int); omega, by show (j : Int) < w; omega⟩
  rw [cel_row (r := B[i]) (p := ((i : Int), (j : Int))) (by show (0 : Int) ≤ (i : Int); omega) (by show (0 : Int) ≤ (j : Int); omega) (by show B[((i : Nat) : Int).toNat]? = _; rw [Int.toNat_natCast]; exact List.getElem?_eq_getElem h1),
    cel_row (r := B'[i]) (p := ((i : Int), (j : Int))) (by show (0 : Int) ≤ (i : Int); omega) (by show (0 : Int) ≤ (j : Int); omega) (by show B'[((i : Nat) : Int).toNat]? = _; rw [Int.toNat_natCast]; exact List.getElem?_eq_getElem h2)] at this
  have e1 : (B[i][((i : Int), (j : Int)).2.toNat]?).getD 0 = B[i][j] := by
    show (B[i][((j : Nat) : Int).toNat]?).getD 0 = _
    rw [Int.toNat_natCast, List.getElem?_eq_getElem g1]
    rfl
  have e2 : (B'[i][((i : Int), (j : Int)).2.toNat]?).getD 0 = B'[i][j] := by
    show (B'[i][((j : Nat) : Int).toNat]?).getD 0 = _
    rw [Int.toNat_natCast, List.getElem?_eq_getElem g2]
    rfl
  rw [e1, e2] at this
  exact this
theorem tov_tov {B : Bd} {h w : Nat} (I : IsB B h w) : tov (tov B w) h = B := by
  have I1 := tov_is I
  have I2 := tov_is I1
  refine bd_ext I2 I fun p hp => ?_
  have hp' : Ins w h (p.2, p.1) := ⟨hp.2.2.1, hp.2.2.2, hp.1, hp.2.1⟩
  have e1 := cel_tov I1 hp'
  have e2 := cel_tov I hp
  have e3 : cel (tov (tov B w) h) p = oth (cel (tov B w) (p.2, p.1)) := e1
  rw [e3, e2, oth_oth]
  obtain ⟨_, _, _, _, _, ok⟩ := I.at hp
  exact ok
theorem jB_turn {B : Bd} {h w : Nat} (I : IsB B h w) (s : Bool) : jB (tov B w) (!s) = jB B s := by
  rw [Bool.eq_iff_iff, jB_iff (tov_is I), jB_iff I]
  constructor
  · intro j
    have := turn_one (tov_is I) j
    rw [tov_tov I, Bool.not_not] at this
    exact this
  · exact turn_one I
/-- more stones of a hand: what was joined stays so -/
theorem joined_more {g g' : Cell → Nat} {h w : Nat} {s : Bool} (k : ∀ p, g p = lt s → g' p = lt s) (j : Joined g h w s) : Joined g' h w s := by
  obtain ⟨c, r, e⟩ := j
  exact ⟨c, r.map id (fun p hp => k p hp) (fun p q hq => hq) (fun p hp => hp), e⟩
theorem jB_put {B : Bd} {h w : Nat} (I : IsB B h w) {p : Cell} (hp : Ins h w p) {s : Bool} (j : jB B s = true) : jB (putB B p (lt s)) s = true := by
  rw [jB_iff (putB_is I p (by cases s <;> simp [lt]))]
  rw [jB_iff I] at j
  refine joined_more (fun q hq => ?_) j
  rw [cel_put I hp]
  by_cases e : q = p
  · rw [if_pos e]
  · rw [if_neg e]
    exact hq
theorem jB_put_oth {B : Bd} {h w : Nat} (I : IsB B h w) {p : Cell} (hp : Ins h w p) {s : Bool} (j : jB (putB B p (lt s)) (!s) = true) : jB B (!s) = true := by
  rw [jB_iff (putB_is I p (by cases s <;> simp [lt]))] at j
  rw [jB_iff I]
  refine joined_more (fun q hq => ?_) j
  rw [cel_put I hp] at hq
  by_cases e : q = p
  · rw [if_pos e] at hq
    have := lt_inj hq
    cases s <;> cases this
  · rw [if_neg e] at hq
    exact hq
theorem jB_both {B : Bd} {h w : Nat} (I : IsB B h w) {s : Bool} (a : jB B s = true) (b : jB B (!s) = true) : False := by
  cases s
  · exact never_both I.sup ((jB_iff I _).mp a) ((jB_iff I _).mp b)
  · exact never_both I.sup ((jB_iff I _).mp b) ((jB_iff I _).mp a)
end Sw
/-! The walk along the border of the colours: it never comes back, it ends at one of two places, and what it has gone along joins a hand. Plain lists. -/
namespace Sw
/-- whose a place is: none, some false (the north hand's), some true -/
def own (g : Cell → Nat) (h w : Nat) (p : Cell) : Option Bool :=
  if Ins h w p then (if g p = 110 then some false else some true)
  else if (p.1 = -1 ∧ 0 ≤ p.2 ∧ p.2 ≤ (w : Int)) ∨ (p.1 = (h : Int) ∧ -1 ≤ p.2 ∧ p.2 < (w : Int)) then some false
  else if 0 ≤ p.1 ∧ p.1 < (h : Int) ∧ (p.2 = -1 ∨ p.2 = (w : Int)) then some true else none
def ahd (a b : Cell) : Cell := (a.1 + a.2 - b.2, b.1 + b.2 - a.1)
abbrev Pr := Cell × Cell
def st0 : Pr := ((-1, 0), (0, -1))
def stp (g : Cell → Nat) (h w : Nat) (x : Pr) : Option Pr := match own g h w (ahd x.1 x.2) with
  | none => none
  | some false => some (ahd x.1 x.2, x.2)
  | some true => some (x.1, ahd x.1 x.2)
section
variable {g : Cell → Nat} {h w : Nat}
/-- where a place of the north hand stands -/
def NAt (h w : Nat) (p : Cell) : Prop := Ins h w p ∨ (p.1 = -1 ∧ 0 ≤ p.2 ∧ p.2 ≤ (w : Int)) ∨ (p.1 = (h : Int) ∧ -1 ≤ p.2 ∧ p.2 < (w : Int))
def WAt (h w : Nat) (p : Cell) : Prop := Ins h w p ∨ (0 ≤ p.1 ∧ p.1 < (h : Int) ∧ (p.2 = -1 ∨ p.2 = (w : Int)))
theorem own_n {p : Cell} (e : own g h w p = some false) : (Ins h w p ∧ g p = 110) ∨ (p.1 = -1 ∧ 0 ≤ p.2 ∧ p.2 ≤ (w : Int)) ∨ (p.1 = (h : Int) ∧ -1 ≤ p.2 ∧ p.2 < (w : Int)) := by
  unfold own at e
  split at e
  · rename_i hi
    split at e
    · rename_i hg
      exact .inl ⟨hi, hg⟩
    · cases e
  · split at e
    · rename_i _ hs
      exact .inr hs
    · split at e <;> cases e
theorem own_w {p : Cell} (e : own g h w p = some true) : (Ins h w p ∧ g p ≠ 110) ∨ (0 ≤ p.1 ∧ p.1 < (h : Int) ∧ (p.2 = -1 ∨ p.2 = (w : Int))) := by
  unfold own at e
  split at e
  · rename_i hi
    split at e
    · cases e
    · rename_i hg
      exact .inl ⟨hi, hg⟩
  · split at e
    · cases e
    · split at e
      · rename_i hs
        exact .inr hs
      · cases e
theorem own_none {p : Cell} (e : own g h w p = none) : ¬ Ins h w p ∧ ¬ (p.1 = -1 ∧ 0 ≤ p.2 ∧ p.2 ≤ (w : Int)) ∧ ¬ (p.1 = (h : Int) ∧ -1 ≤ p.2 ∧ p.2 < (w : Int)) ∧ ¬ (0 ≤ p.1 ∧ p.1 < (h : Int) ∧ (p.2 = -1 ∨ p.2 = (w : Int))) := by
  unfold own at e
  split at e
  · split at e <;> cases e
  · rename_i hi
    split at e
    · cases e
    · rename_i hs
      split at e
      · cases e
      · rename_i ht
        exact ⟨hi, fun z => hs (.inl z), fun z => hs (.inr z), ht⟩
theorem ahd_near {a b : Cell} (k : b ∈ near6 a) : ahd a b ∈ near6 a ∧ ahd a b ∈ near6 b := by
  have e1 : (ahd a b).1 = a.1 + a.2 - b.2 := rfl
  have e2 : (ahd a b).2 = b.1 + b.2 - a.1 := rfl
  rcases near6_iff.mp k with ⟨x, y⟩ | ⟨x, y⟩ | ⟨x, y⟩ | ⟨x, y⟩ | ⟨x, y⟩ | ⟨x, y⟩
  · exact ⟨near6_iff.mpr (.inr (.inr (.inr (.inr (.inr ⟨by omega, by omega⟩))))), near6_iff.mpr (.inr (.inr (.inr (.inr (.inl ⟨by omega, by omega⟩)))))⟩
  · exact ⟨near6_iff.mpr (.inl ⟨by omega, by omega⟩), near6_iff.mpr (.inr (.inr (.inr (.inr (.inr ⟨by omega, by omega⟩)))))⟩
  · exact ⟨near6_iff.mpr (.inr (.inl ⟨by omega, by omega⟩)), near6_iff.mpr (.inl ⟨by omega, by omega⟩)⟩
  · exact ⟨near6_iff.mpr (.inr (.inr (.inl ⟨by omega, by omega⟩))), near6_iff.mpr (.inr (.inl ⟨by omega, by omega⟩))⟩
  · exact ⟨near6_iff.mpr (.inr (.inr (.inr (.inl ⟨by omega, by omega⟩)))), near6_iff.mpr (.inr (.inr (.inl ⟨by omega, by omega⟩)))⟩
  · exact ⟨near6_iff.mpr (.inr (.inr (.inr (.inr (.inl ⟨by omega, by omega⟩))))), near6_iff.mpr (.inr (.inr (.inr (.inl ⟨by omega, by omega⟩))))⟩
/-- round a cell of the board every place has an owner -/
theorem own_round {p q : Cell} (hp : Ins h w p) (k : q ∈ near6 p) (e : own g h w q = none) : False := by
  obtain ⟨a1, a2, a3, a4⟩ := own_none e
  obtain ⟨b1, b2, b3, b4⟩ := hp
  have c := near6_iff.mp k
  have d1 : -1 ≤ q.1 ∧ q.1 ≤ h ∧ -1 ≤ q.2 ∧ q.2 ≤ w := by omega
  by_cases r1 : 0 ≤ q.1
  · by_cases r2 : q.1 < h
    · by_cases r3 : 0 ≤ q.2
      · by_cases r4 : q.2 < w
        · exact a1 ⟨r1, r2, r3, r4⟩
        · exact a4 ⟨r1, r2, .inr (by omega)⟩
      · exact a4 ⟨r1, r2, .inl (by omega)⟩
    · exact a3 ⟨by omega, by omega, by omega⟩
  · exact a2 ⟨by omega, by omega, by omega⟩
structure Vld (g : Cell → Nat) (h w : Nat) (x : Pr) : Prop where
  n : own g h w x.1 = some false
  w : own g h w x.2 = some true
  nr : x.2 ∈ near6 x.1
theorem stp_n {x y : Pr} (e : stp g h w x = some y) : (own g h w (ahd x.1 x.2) = some false ∧ y = (ahd x.1 x.2, x.2)) ∨ (own g h w (ahd x.1 x.2) = some true ∧ y = (x.1, ahd x.1 x.2)) := by
  unfold stp at e
  split at e
  · cases e
  · rename_i k
    exact .inl ⟨k, (Option.some.inj e).symm⟩
  · rename_i k
    exact .inr ⟨k, (Option.some.inj e).symm⟩
theorem stp_none {x : Pr} (e : stp g h w x = none) : own g h w (ahd x.1 x.2) = none := by
  unfold stp at e
  split at e
  · assumption
  · cases e
  · cases e
theorem vld_stp {x y : Pr} (v : Vld g h w x) (e : stp g h w x = some y) : Vld g h w y := by
  obtain ⟨a1, a2⟩ := ahd_near v.nr
  rcases stp_n e with ⟨k, rfl⟩ | ⟨k, rfl⟩
  · exact ⟨k, v.w, near6_symm a2⟩
  · exact ⟨v.n, k, a1⟩
theorem vld_st0 (h1 : 1 ≤ h) : Vld g h w st0 := by
  refine ⟨?_, ?_, by decide⟩
  · show own g h w (-1, 0) = some false
    unfold own
    rw [if_neg (fun z : Ins h w (-1, 0) => absurd z.1 (by decide)), if_pos (.inl ⟨rfl, Int.le_refl _, by show (0 : Int) ≤ w; omega⟩)]
  · show own g h w (0, -1) = some true
    unfold own
    rw [if_neg (fun z : Ins h w (0, -1) => absurd z.2.2.1 (by decide)), if_neg (by
      show ¬ (((0 : Int) = -1 ∧ (0 : Int) ≤ -1 ∧ (-1 : Int) ≤ w) ∨ ((0 : Int) = h ∧ (-1 : Int) ≤ -1 ∧ (-1 : Int) < w))
      omega), if_pos ⟨Int.le_refl _, by show (0 : Int) < h; omega, .inl rfl⟩]
theorem stp_inj {x x' y : Pr} (v : Vld g h w x) (v' : Vld g h w x') (e : stp g h w x = some y) (e' : stp g h w x' = some y) : x = x' := by
  rcases stp_n e with ⟨k, ey⟩ | ⟨k, ey⟩ <;> rcases stp_n e' with ⟨k', ey'⟩ | ⟨k', ey'⟩
  · have e1 := (Prod.ext_iff.mp (ey.symm.trans ey'))
    obtain ⟨p, q⟩ := e1
    have p1 : x.1.1 + x.1.2 - x.2.2 = x'.1.1 + x'.1.2 - x'.2.2 := congrArg Prod.fst p
    have p2 : x.2.1 + x.2.2 - x.1.1 = x'.2.1 + x'.2.2 - x'.1.1 := congrArg Prod.snd p
    have q1 : x.2.1 = x'.2.1 := congrArg Prod.fst q
    have q2 : x.2.2 = x'.2.2 := congrArg Prod.snd q
    exact Prod.ext (Prod.ext (by omega) (by omega)) (Prod.ext q1 q2)
  · exfalso
    have e1 := (Prod.ext_iff.mp (ey.symm.trans ey'))
    obtain ⟨p, q⟩ := e1
    have p1 : x.1.1 + x.1.2 - x.2.2 = x'.1.1 := congrArg Prod.fst p
    have p2 : x.2.1 + x.2.2 - x.1.1 = x'.1.2 := congrArg Prod.snd p
    have q1 : x.2.1 = x'.1.1 + x'.1.2 - x'.2.2 := congrArg Prod.fst q
    have q2 : x.2.2 = x'.2.1 + x'.2.2 - x'.1.1 := congrArg Prod.snd q
    have : x.1 = x'.2 := Prod.ext (by omega) (by omega)
    have h1 := v.n
    rw [this, v'.w] at h1
    cases h1
  · exfalso
    have e1 := (Prod.ext_iff.mp (ey.symm.trans ey'))
    obtain ⟨p, q⟩ := e1
    have p1 : x.1.1 = x'.1.1 + x'.1.2 - x'.2.2 := congrArg Prod.fst p
    have p2 : x.1.2 = x'.2.1 + x'.2.2 - x'.1.1 := congrArg Prod.snd p
    have q1 : x.1.1 + x.1.2 - x.2.2 = x'.2.1 := congrArg Prod.fst q
    have q2 : x.2.1 + x.2.2 - x.1.1 = x'.2.2 := congrArg Prod.snd q
    have : x'.1 = x.2 := Prod.ext (by omega) (by omega)
    have h1 := v'.n
    rw [this, v.w] at h1
    cases h1
  · have e1 := (Prod.ext_iff.mp (ey.symm.trans ey'))
    obtain ⟨p, q⟩ := e1
    have p1 : x.1.1 = x'.1.1 := congrArg Prod.fst p
    have p2 : x.1.2 = x'.1.2 := congrArg Prod.snd p
    have q1 : x.1.1 + x.1.2 - x.2.2 = x'.1.1 + x'.1.2 - x'.2.2 := congrArg Prod.fst q
    have q2 : x.2.1 + x.2.2 - x.1.1 = x'.2.1 + x'.2.2 - x'.1.1 := congrArg Prod.snd q
    exact Prod.ext (Prod.ext p1 p2) (Prod.ext (by omega) (by omega))
theorem stp_st0 {x : Pr} (v : Vld g h w x) : stp g h w x ≠ some st0 := by
  intro e
  have v1 := own_n v.n
  have v2 := own_w v.w
  rcases stp_n e with ⟨k, ey⟩ | ⟨k, ey⟩
  · have e1 := Prod.ext_iff.mp ey
    have p1 : (-1 : Int) = x.1.1 + x.1.2 - x.2.2 := congrArg Prod.fst e1.1
    have p2 : (0 : Int) = x.2.1 + x.2.2 - x.1.1 := congrArg Prod.snd e1.1
    have q1 : (0 : Int) = x.2.1 := congrArg Prod.fst e1.2
    have q2 : (-1 : Int) = x.2.2 := congrArg Prod.snd e1.2
    unfold Ins at v1
    omega
  · have e1 := Prod.ext_iff.mp ey
    have p1 : (-1 : Int) = x.1.1 := congrArg Prod.fst e1.1
    have p2 : (0 : Int) = x.1.2 := congrArg Prod.snd e1.1
    have q1 : (0 : Int) = x.1.1 + x.1.2 - x.2.2 := congrArg Prod.fst e1.2
    have q2 : (-1 : Int) = x.2.1 + x.2.2 - x.1.1 := congrArg Prod.snd e1.2
    unfold Ins at v2
    omega
theorem stp_end {x : Pr} (h1 : 1 ≤ h) (w1 : 1 ≤ w) (v : Vld g h w x) (e : stp g h w x = none) : x = ((-1, (w : Int)), (0, (w : Int))) ∨ x = (((h : Int), -1), ((h : Int) - 1, -1)) := by
  have v4 := stp_none e
  obtain ⟨n1, n2⟩ := ahd_near v.nr
  have v3 := near6_iff.mp v.nr
  have inn : ¬ Ins h w (ahd x.1 x.2) := (own_none v4).1
  have e1 : (ahd x.1 x.2).1 = x.1.1 + x.1.2 - x.2.2 := rfl
  have e2 : (ahd x.1 x.2).2 = x.2.1 + x.2.2 - x.1.1 := rfl
  have key : (x.1.1 = -1 ∧ x.1.2 = w ∧ x.2.1 = 0 ∧ x.2.2 = w) ∨ (x.1.1 = h ∧ x.1.2 = -1 ∧ x.2.1 = (h : Int) - 1 ∧ x.2.2 = -1) := by
    rcases own_n v.n with ⟨i1, _⟩ | v1 | v1
    · exact (own_round i1 n1 v4).elim
    · rcases own_w v.w with ⟨i2, _⟩ | ⟨u1, u2, v2 | v2⟩
      · exact (own_round i2 n2 v4).elim
      · exfalso
        exact inn ⟨by omega, by omega, by omega, by omega⟩
      · left
        omega
    · rcases own_w v.w with ⟨i2, _⟩ | ⟨u1, u2, v2 | v2⟩
      · exact (own_round i2 n2 v4).elim
      · right
        omega
      · exfalso
        exact inn ⟨by omega, by omega, by omega, by omega⟩
  rcases key with ⟨a, b, c, d⟩ | ⟨a, b, c, d⟩
  · exact .inl (Prod.ext (Prod.ext a b) (Prod.ext c d))
  · exact .inr (Prod.ext (Prod.ext a b) (Prod.ext c d))

/-! ### the walk -/
inductive Wk (g : Cell → Nat) (h w : Nat) : List Pr → Pr → Prop
  | one : Wk g h w [st0] st0
  | snoc {ps : List Pr} {x y : Pr} : Wk g h w ps x → stp g h w x = some y → Wk g h w (ps ++ [y]) y
theorem Wk.vld (h1 : 1 ≤ h) {ps : List Pr} {x : Pr} (k : Wk g h w ps x) : Vld g h w x := by
  induction k with
  | one => exact vld_st0 h1
  | snoc _ e ih => exact vld_stp ih e
theorem Wk.all (h1 : 1 ≤ h) {ps : List Pr} {x : Pr} (k : Wk g h w ps x) : ∀ z ∈ ps, Vld g h w z := by
  induction k with
  | one =>
    intro z hz
    rw [List.mem_singleton.mp hz]
    exact vld_st0 h1
  | snoc k' e ih =>
    intro z hz
    rcases List.mem_append.mp hz with hz | hz
    · exact ih z hz
    · rw [List.mem_singleton.mp hz]
      exact vld_stp (k'.vld h1) e
theorem Wk.init {ps : List Pr} {x : Pr} (k : Wk g h w ps x) : ∃ l, ps = l ++ [x] ∧ ∀ z ∈ ps, z = st0 ∨ ∃ u ∈ l, stp g h w u = some z := by
  induction k with
  | one =>
    refine ⟨[], rfl, fun z hz => .inl (List.mem_singleton.mp hz)⟩
  | @snoc ps x y k' e ih =>
    obtain ⟨l, rfl, hl⟩ := ih
    refine ⟨l ++ [x], rfl, fun z hz => ?_⟩
    rcases List.mem_append.mp hz with hz | hz
    · rcases hl z hz with z0 | ⟨u, hu, eu⟩
      · exact .inl z0
      · exact .inr ⟨u, List.mem_append_left _ hu, eu⟩
    · rw [List.mem_singleton.mp hz]
      exact .inr ⟨x, List.mem_append_right _ List.mem_cons_self, e⟩
theorem Wk.nodup (h1 : 1 ≤ h) {ps : List Pr} {x : Pr} (k : Wk g h w ps x) : ps.Nodup := by
  induction k with
  | one => exact List.nodup_cons.mpr ⟨by simp, List.nodup_nil⟩
  | @snoc ps x y k' e ih =>
    have vx := k'.vld h1
    have va := k'.all h1
    obtain ⟨l, rfl, hl⟩ := k'.init
    rw [List.nodup_append]
    refine ⟨ih, List.nodup_cons.mpr ⟨by simp, List.nodup_nil⟩, fun a ha b hb => ?_⟩
    rw [List.mem_singleton.mp hb]
    rintro rfl
    rcases hl a ha with z0 | ⟨u, hu, eu⟩
    · rw [z0] at e
      exact stp_st0 vx e
    · have ex := stp_inj (va u (List.mem_append_left _ hu)) vx eu e
      rw [ex] at hu
      exact (List.nodup_append.mp ih).2.2 x hu x List.mem_cons_self rfl
/-- a pair's number -/
def dirN (d : Cell) : Nat := if 3 * d.1 + d.2 + 4 ≤ 3 then (3 * d.1 + d.2 + 3).toNat else (3 * d.1 + d.2 + 2).toNat
def codeP (w : Nat) (x : Pr) : Nat := ((x.1.1 + 1).toNat * (w + 2) + (x.1.2 + 1).toNat) * 6 + dirN (x.2.1 - x.1.1, x.2.2 - x.1.2)
theorem dir_is {a b : Cell} (n : b ∈ near6 a) : (1 ≤ 3 * (b.1 - a.1) + (b.2 - a.2) + 4 ∧ 3 * (b.1 - a.1) + (b.2 - a.2) + 4 ≤ 7 ∧ 3 * (b.1 - a.1) + (b.2 - a.2) + 4 ≠ 4) ∧ -1 ≤ b.2 - a.2 ∧ b.2 - a.2 ≤ 1 := by
  have n1 := near6_iff.mp n
  omega
theorem dirN_lt {a b : Cell} (n : b ∈ near6 a) : dirN (b.1 - a.1, b.2 - a.2) < 6 := by
  have := dir_is n
  unfold dirN
  dsimp only
  split <;> omega
theorem dirN_eq {a b c d : Cell} (n : b ∈ near6 a) (n' : d ∈ near6 c) (e : dirN (b.1 - a.1, b.2 - a.2) = dirN (d.1 - c.1, d.2 - c.2)) : b.1 - a.1 = d.1 - c.1 ∧ b.2 - a.2 = d.2 - c.2 := by
  have h1 := dir_is n
  have h2 := dir_is n'
  unfold dirN at e
  dsimp only at e
  split at e <;> split at e <;> omega
theorem nat_code {m a b a' b' : Nat} (h : a * m + b = a' * m + b') (hb : b < m) (hb' : b' < m) : a = a' ∧ b = b' := by
  have e1 : (a * m + b) / m = (a' * m + b') / m := by rw [h]
  have m0 : 0 < m := by omega
  rw [Nat.mul_comm a m, Nat.mul_comm a' m, Nat.mul_add_div m0, Nat.mul_add_div m0, Nat.div_eq_of_lt hb, Nat.div_eq_of_lt hb'] at e1
  have e2 : a = a' := by omega
  subst e2
  exact ⟨rfl, by omega⟩
theorem vld_in {x : Pr} (v : Vld g h w x) : -1 ≤ x.1.1 ∧ x.1.1 ≤ h ∧ -1 ≤ x.1.2 ∧ x.1.2 ≤ w := by
  have v1 := own_n v.n
  unfold Ins at v1
  omega
theorem codeP_inj {x y : Pr} (v : Vld g h w x) (v' : Vld g h w y) (e : codeP w x = codeP w y) : x = y := by
  unfold codeP at e
  obtain ⟨e1, e2⟩ := nat_code e (dirN_lt v.nr) (dirN_lt v'.nr)
  obtain ⟨a1, a2, a3, a4⟩ := vld_in v
  obtain ⟨b1, b2, b3, b4⟩ := vld_in v'
  obtain ⟨e3, e4⟩ := nat_code e1 (by omega) (by omega)
  have f1 : x.1.1 = y.1.1 := by omega
  have f2 : x.1.2 = y.1.2 := by omega
  obtain ⟨e5, e6⟩ := dirN_eq v.nr v'.nr e2
  have f3 : x.2.1 = y.2.1 ∧ x.2.2 = y.2.2 := by omega
  exact Prod.ext (Prod.ext f1 f2) (Prod.ext f3.1 f3.2)
theorem Wk.bound (h1 : 1 ≤ h) {ps : List Pr} {x : Pr} (k : Wk g h w ps x) : ps.length ≤ 6 * ((h + 2) * (w + 2)) := by
  have va := k.all h1
  have := nodup_lt (6 * ((h + 2) * (w + 2))) (ps.map (codeP w)) (nodup_map (k.nodup h1) fun a ha b hb e => codeP_inj (va a ha) (va b hb) e) (fun n hn => by
    obtain ⟨z, hz, rfl⟩ := List.mem_map.mp hn
    obtain ⟨a1, a2, a3, a4⟩ := vld_in (va z hz)
    have d := dirN_lt (va z hz).nr
    unfold codeP
    have m1 : (z.1.1 + 1).toNat + 1 ≤ h + 2 := by omega
    have m2 : ((z.1.1 + 1).toNat + 1) * (w + 2) ≤ (h + 2) * (w + 2) := Nat.mul_le_mul_right _ m1
    rw [Nat.add_mul, Nat.one_mul] at m2
    omega)
  rw [List.length_map] at this
  exact this
theorem walk_ends (h1 : 1 ≤ h) : ∃ ps x, Wk g h w ps x ∧ stp g h w x = none := by
  have gen : ∀ (n : Nat) (ps : List Pr) (x : Pr), Wk g h w ps x → 6 * ((h + 2) * (w + 2)) - ps.length ≤ n → ∃ ps x, Wk g h w ps x ∧ stp g h w x = none := by
    intro n
    induction n with
    | zero =>
      intro ps x k hn
      cases e : stp g h w x with
      | none => exact ⟨ps, x, k, e⟩
      | some y =>
        have := (Wk.snoc k e).bound h1
        rw [List.length_append] at this
        simp at this
        omega
    | succ n ih =>
      intro ps x k hn
      cases e : stp g h w x with
      | none => exact ⟨ps, x, k, e⟩
      | some y =>
        refine ih _ _ (Wk.snoc k e) ?_
        rw [List.length_append]
        simp
        omega
  exact gen _ _ _ .one (Nat.le_refl _)

/-! ### what it has gone along -/
def met (ps : List Pr) (c : Cell) : Prop := ∃ p ∈ ps, p.1 = c ∨ p.2 = c
/-- the cells that the hand's side of the walk has met -/
structure Vis (g g' : Cell → Nat) (s : Bool) (ps : List Pr) : Prop where
  yes : ∀ p ∈ ps, g' (if s then p.2 else p.1) = g (if s then p.2 else p.1)
def Gd (g' : Cell → Nat) (h w : Nat) (s : Bool) (x : Cell) : Prop := sd s x = -1 ∨ Reach g' s x ∨ Joined g' h w s
theorem gd_n {g' : Cell → Nat} {x c : Cell} (h1 : 1 ≤ h) (sup : Sup g' h w) (gx : Gd g' h w false x) (nr : c ∈ near6 x) (oc : own g h w c = some false) (ec : Ins h w c → g' c = g c) : Gd g' h w false c := by
  have v := near6_iff.mp nr
  rcases gx with gx | gx | gx
  · have gx' : x.1 = -1 := gx
    rcases own_n oc with ⟨hi, hg⟩ | k | k
    · refine .inr (.inl (.first (by rw [ec hi, hg]; rfl) ?_))
      show c.1 = 0
      have := hi.1
      omega
    · exact .inl k.1
    · exfalso
      have := k.1
      omega
  · rcases own_n oc with ⟨hi, hg⟩ | k | k
    · exact .inr (.inl (.next gx nr (by rw [ec hi, hg]; rfl)))
    · exact .inl k.1
    · refine .inr (.inr ⟨x, gx, ?_⟩)
      have ix := sup x (by rw [gx.sign]; exact lt_ne false)
      show x.1 = (h : Int) - 1
      have := k.1
      omega
  · exact .inr (.inr gx)
theorem gd_w {g' : Cell → Nat} {x c : Cell} (w1 : 1 ≤ w) (fl : ∀ p, Ins h w p → g p = 110 ∨ g p = 119) (sup : Sup g' h w) (gx : Gd g' h w true x) (nr : c ∈ near6 x) (oc : own g h w c = some true) (ec : Ins h w c → g' c = g c) : Gd g' h w true c := by
  have v := near6_iff.mp nr
  have g119 : Ins h w c → g c ≠ 110 → g' c = lt true := fun hi hg => by
    rw [ec hi]
    rcases fl c hi with z | z
    · exact absurd z hg
    · exact z
  rcases gx with gx | gx | gx
  · have gx' : x.2 = -1 := gx
    rcases own_w oc with ⟨hi, hg⟩ | ⟨k1, k2, k⟩
    · refine .inr (.inl (.first (g119 hi hg) ?_))
      show c.2 = 0
      have := hi.2.2.1
      omega
    · rcases k with k | k
      · exact .inl k
      · exfalso
        omega
  · rcases own_w oc with ⟨hi, hg⟩ | ⟨k1, k2, k⟩
    · exact .inr (.inl (.next gx nr (g119 hi hg)))
    · rcases k with k | k
      · exact .inl k
      · refine .inr (.inr ⟨x, gx, ?_⟩)
        have ix := sup x (by rw [gx.sign]; exact lt_ne true)
        show x.2 = (w : Int) - 1
        omega
  · exact .inr (.inr gx)
theorem Wk.good {gn gw : Cell → Nat} (h1 : 1 ≤ h) (w1 : 1 ≤ w) (fl : ∀ p, Ins h w p → g p = 110 ∨ g p = 119) (sn : Sup gn h w) (sw : Sup gw h w) {ps : List Pr} {x : Pr} (k : Wk g h w ps x)
    (vn : ∀ p ∈ ps, Ins h w p.1 → gn p.1 = g p.1) (vw : ∀ p ∈ ps, Ins h w p.2 → gw p.2 = g p.2) : Gd gn h w false x.1 ∧ Gd gw h w true x.2 := by
  induction k with
  | one => exact ⟨.inl rfl, .inl rfl⟩
  | @snoc ps x y k' e ih =>
    obtain ⟨i1, i2⟩ := ih (fun p hp => vn p (List.mem_append_left _ hp)) (fun p hp => vw p (List.mem_append_left _ hp))
    have v1 := vn y (List.mem_append_right _ List.mem_cons_self)
    have v2 := vw y (List.mem_append_right _ List.mem_cons_self)
    obtain ⟨a1, a2⟩ := ahd_near (k'.vld h1).nr
    rcases stp_n e with ⟨o, rfl⟩ | ⟨o, rfl⟩
    · exact ⟨gd_n h1 sn i1 a1 o v1, i2⟩
    · exact ⟨i1, gd_w w1 fl sw i2 a2 o v2⟩
/-- at the walk's end a hand is joined, through cells that the walk has met -/
theorem Wk.tells {gn gw : Cell → Nat} (h1 : 1 ≤ h) (w1 : 1 ≤ w) (fl : ∀ p, Ins h w p → g p = 110 ∨ g p = 119) (sn : Sup gn h w) (sw : Sup gw h w) {ps : List Pr} {x : Pr} (k : Wk g h w ps x) (e : stp g h w x = none)
    (vn : ∀ p ∈ ps, Ins h w p.1 → gn p.1 = g p.1) (vw : ∀ p ∈ ps, Ins h w p.2 → gw p.2 = g p.2) :
    (x = ((-1, (w : Int)), (0, (w : Int))) ∧ Joined gw h w true) ∨ (x = (((h : Int), -1), ((h : Int) - 1, -1)) ∧ Joined gn h w false) := by
  obtain ⟨i1, i2⟩ := k.good h1 w1 fl sn sw vn vw
  rcases stp_end h1 w1 (k.vld h1) e with rfl | rfl
  · refine .inl ⟨rfl, ?_⟩
    rcases i2 with z | z | z
    · exfalso
      have z' : (w : Int) = -1 := z
      omega
    · exfalso
      have ix := sw _ (by rw [z.sign]; exact lt_ne true)
      have : (w : Int) < w := ix.2.2.2
      omega
    · exact z
  · refine .inr ⟨rfl, ?_⟩
    rcases i1 with z | z | z
    · exfalso
      have z' : (h : Int) = -1 := z
      omega
    · exfalso
      have ix := sn _ (by rw [z.sign]; exact lt_ne false)
      have : (h : Int) < h := ix.2.1
      omega
    · exact z
end
/-- on a full board one of the hands is joined -/
theorem one_joined {B : Bd} {h w : Nat} (I : IsB B h w) (fl : ∀ p, cel B p ≠ 46) : Joined (cel B) h w false ∨ Joined (cel B) h w true := by
  obtain ⟨ps, x, k, e⟩ := walk_ends (g := cel B) (h := h) (w := w) I.h1
  have fl' : ∀ p, Ins h w p → cel B p = 110 ∨ cel B p = 119 := fun p hp => by
    obtain ⟨_, _, _, _, _, ok⟩ := I.at hp
    rcases ok with z | z | z
    · exact .inl z
    · exact .inr z
    · exact absurd z (fl p)
  rcases k.tells I.h1 I.w1 fl' I.sup I.sup e (fun _ _ _ => rfl) (fun _ _ _ => rfl) with z | z
  · exact .inr z.2
  · exact .inl z.2
theorem jB_full {B : Bd} {h w : Nat} (I : IsB B h w) (fl : ∀ p, cel B p ≠ 46) (s : Bool) : jB B (!s) = !jB B s := by
  have nb : ¬ (jB B s = true ∧ jB B (!s) = true) := fun ⟨a, b⟩ => jB_both I a b
  have ob : jB B s = true ∨ jB B (!s) = true := by
    rcases one_joined I fl with z | z
    · cases s
      · exact .inl ((jB_iff I _).mpr z)
      · exact .inr ((jB_iff I _).mpr z)
    · cases s
      · exact .inr ((jB_iff I _).mpr z)
      · exact .inl ((jB_iff I _).mpr z)
  cases e1 : jB B s <;> cases e2 : jB B (!s) <;> simp_all
end Sw
/-! Pairs of cells in the heap; the walk goes one way only. -/
namespace Sw
open PySem PySem.Spec PyProof.Rows L2
inductive Pairs (H : Hp) : List V → List Pr → Prop
  | nil : Pairs H [] []
  | cons {t a b : Addr} {p : Pr} {vs : List V} {ps : List Pr} : H t = some (.tup [.ref a, .ref b]) → H a = some (.tup (cellV p.1)) → H b = some (.tup (cellV p.2)) → Pairs H vs ps → Pairs H (.ref t :: vs) (p :: ps)
theorem Pairs.tps {H H' : Hp} (s : Tps H H') : ∀ {vs : List V} {ps : List Pr}, Pairs H vs ps → Pairs H' vs ps
  | _, _, .nil => .nil
  | _, _, .cons x y z t => .cons (s _ _ x) (s _ _ y) (s _ _ z) (Pairs.tps s t)
theorem Pairs.same {H H' : Hp} (s : Same H H') {vs : List V} {ps : List Pr} (h : Pairs H vs ps) : Pairs H' vs ps := h.tps (.of s)
theorem Pairs.len {H : Hp} : ∀ {vs : List V} {ps : List Pr}, Pairs H vs ps → vs.length = ps.length
  | _, _, .nil => rfl
  | _, _, .cons _ _ _ t => by rw [List.length_cons, List.length_cons, Pairs.len t]
theorem Pairs.app {H : Hp} : ∀ {vs ws : List V} {ps qs : List Pr}, Pairs H vs ps → Pairs H ws qs → Pairs H (vs ++ ws) (ps ++ qs)
  | _, _, _, _, .nil, h => h
  | _, _, _, _, .cons x y z t, h => .cons x y z (Pairs.app t h)
theorem Pairs.get {H : Hp} : ∀ {vs : List V} {ps : List Pr} {i : Nat} {x : V}, Pairs H vs ps → vs[i]? = some x → ∃ t a b p, x = .ref t ∧ ps[i]? = some p ∧ H t = some (.tup [.ref a, .ref b]) ∧ H a = some (.tup (cellV p.1)) ∧ H b = some (.tup (cellV p.2))
  | _, _, _, _, .nil, e => by simp at e
  | _, _, 0, _, .cons x y z _, e => by
    simp at e
    subst e
    exact ⟨_, _, _, _, rfl, rfl, x, y, z⟩
  | _, _, i + 1, _, .cons _ _ _ t, e => Pairs.get (i := i) t (by simpa using e)
def pairD (p : Pr) : PyData := .tuple [cellD p.1, cellD p.2]
theorem pair_dp {K : PySem.W.Frag} {H : Hp} {t a b : Addr} {p : Pr} (x : H t = some (.tup [.ref a, .ref b])) (y : H a = some (.tup (cellV p.1))) (z : H b = some (.tup (cellV p.2))) : Dp K H (.ref t) (pairD p) :=
  .tup (.inl (.inl x)) (.cons (cell_dp y) (.cons (cell_dp z) .nil))
theorem Pairs.dp {K : PySem.W.Frag} {H : Hp} : ∀ {vs : List V} {ps : List Pr}, Pairs H vs ps → DpAll K H vs (ps.map pairD)
  | _, _, .nil => .nil
  | _, _, .cons x y z t => .cons (pair_dp x y z) (Pairs.dp t)
theorem can_pairs : ∀ ps : List Pr, PyData.canLayAll0 (ps.map pairD) = true
  | [] => rfl
  | p :: ps => by
    rw [List.map_cons, PyData.canLayAll0, can_pairs ps]
    rfl
theorem dep_pairs : ∀ ps : List Pr, PyData.depthAll (ps.map pairD) ≤ 2
  | [] => by decide
  | p :: ps => by
    have h := dep_pairs ps
    rw [List.map_cons, PyData.depthAll]
    have e : (pairD p).depth = 2 := rfl
    rw [e]
    omega
theorem shaped_pairs (ps : List Pr) : SeqAt.shaped (.list (ps.map pairD)) = true := by
  unfold SeqAt.shaped
  have h := dep_pairs ps
  rw [show (PyData.list (ps.map pairD)).canLay0 = PyData.canLayAll0 (ps.map pairD) from rfl, can_pairs]
  have : (PyData.list (ps.map pairD)).depth ≤ 64 := by
    rw [PyData.depth]
    omega
  rw [decide_eq_true this]
  rfl
theorem eqv_pairs (ps : List Pr) : PyData.eqv (.list (ps.map pairD)) (.list (ps.map pairD)) = true := SeqAt.eqv_refl _ (can_pairs ps)
/-- the place next to one, round two -/
theorem near_next {a b : Cell} (k : b ∈ near6 a) : ∃ j : Nat, j < 6 ∧ (near6 b)[j]? = some a ∧ (near6 b)[(j + 1) % 6]? = some (ahd a b) ∧ ∀ (m : Nat) (z : Cell), m < j → (near6 b)[m]? = some z → z ≠ a := by
  have nd : (near6 b).Nodup := by
    have e : near6 b = [(b.1 - 1, b.2), (b.1 - 1, b.2 + 1), (b.1, b.2 + 1), (b.1 + 1, b.2), (b.1 + 1, b.2 - 1), (b.1, b.2 - 1)] := rfl
    rw [e]
    simp only [List.nodup_cons, List.mem_cons, Prod.mk.injEq, List.not_mem_nil, or_false, not_or, not_false_eq_true, List.nodup_nil, and_true]
    omega
  have fin : ∀ j : Nat, j < 6 → (near6 b)[j]? = some a → (near6 b)[(j + 1) % 6]? = some (ahd a b) → ∃ j : Nat, j < 6 ∧ (near6 b)[j]? = some a ∧ (near6 b)[(j + 1) % 6]? = some (ahd a b) ∧ ∀ (m : Nat) (z : Cell), m < j → (near6 b)[m]? = some z → z ≠ a := by
    intro j hj e1 e2
    refine ⟨j, hj, e1, e2, fun m z hm ez ea => ?_⟩
    subst ea
    obtain ⟨h1, g1⟩ := List.getElem?_eq_some_iff.mp e1
    obtain ⟨h2, g2⟩ := List.getElem?_eq_some_iff.mp ez
    have := (List.getElem_inj (h₀ := h2) (h₁ := h1) nd).mp (g2.trans g1.symm)
    omega
  have pr : ∀ {x y u v : Int}, x = u → y = v → some ((x, y) : Cell) = some (u, v) := fun p q => by rw [p, q]
  rcases near6_iff.mp k with ⟨x, y⟩ | ⟨x, y⟩ | ⟨x, y⟩ | ⟨x, y⟩ | ⟨x, y⟩ | ⟨x, y⟩
  · exact fin 3 (by decide) (pr (by omega) (by omega)) (pr (by omega) (by omega))
  · exact fin 4 (by decide) (pr (by omega) (by omega)) (pr (by omega) (by omega))
  · exact fin 5 (by decide) (pr (by omega) (by omega)) (pr (by omega) (by omega))
  · exact fin 0 (by decide) (pr (by omega) (by omega)) (pr (by omega) (by omega))
  · exact fin 1 (by decide) (pr (by omega) (by omega)) (pr (by omega) (by omega))
  · exact fin 2 (by decide) (pr (by omega) (by omega)) (pr (by omega) (by omega))
/-! ### the walk, place by place -/
section
variable {g : Cell → Nat} {h w : Nat}
def itW (g : Cell → Nat) (h w : Nat) : Nat → Option Pr
  | 0 => some st0
  | n + 1 => (itW g h w n).bind (stp g h w)
theorem Wk.it {ps : List Pr} {x : Pr} (k : Wk g h w ps x) : 0 < ps.length ∧ itW g h w (ps.length - 1) = some x ∧ ∀ i, i < ps.length → ps[i]? = itW g h w i := by
  induction k with
  | one =>
    refine ⟨Nat.succ_pos _, rfl, fun i hi => ?_⟩
    have : i = 0 := Nat.lt_one_iff.mp hi
    subst this
    rfl
  | @snoc ps x y k' e ih =>
    obtain ⟨p0, e1, al⟩ := ih
    have ll : (ps ++ [y]).length = ps.length + 1 := by rw [List.length_append]; rfl
    have ey : itW g h w ps.length = some y := by
      obtain ⟨m, em⟩ : ∃ m, ps.length = m + 1 := ⟨ps.length - 1, by omega⟩
      rw [em, Nat.add_sub_cancel] at e1
      rw [em]
      show (itW g h w m).bind (stp g h w) = some y
      rw [e1]
      exact e
    refine ⟨by omega, by rw [ll, Nat.add_sub_cancel]; exact ey, fun i hi => ?_⟩
    by_cases hp : i < ps.length
    · rw [List.getElem?_append_left hp]
      exact al i hp
    · have : i = ps.length := by omega
      subst this
      rw [List.getElem?_append_right (Nat.le_refl _), Nat.sub_self, ey]
      rfl
theorem Wk.stop {ps : List Pr} {x : Pr} (k : Wk g h w ps x) (e : stp g h w x = none) : itW g h w ps.length = none := by
  obtain ⟨p0, e1, _⟩ := k.it
  obtain ⟨m, em⟩ : ∃ m, ps.length = m + 1 := ⟨ps.length - 1, by omega⟩
  rw [em, Nat.add_sub_cancel] at e1
  rw [em]
  show (itW g h w m).bind (stp g h w) = none
  rw [e1]
  exact e
theorem Wk.det {ps qs : List Pr} {x y : Pr} (k : Wk g h w ps x) (e : stp g h w x = none) (k' : Wk g h w qs y) (e' : stp g h w y = none) : ps = qs := by
  have s1 := k.stop e
  have s2 := k'.stop e'
  obtain ⟨_, _, a1⟩ := k.it
  obtain ⟨_, _, a2⟩ := k'.it
  have le : ∀ {l m : List Pr}, itW g h w l.length = none → (∀ i, i < m.length → m[i]? = itW g h w i) → m.length ≤ l.length := fun {l m} s a => by
    refine Nat.le_of_not_lt fun hlt => ?_
    have := a l.length hlt
    rw [s, List.getElem?_eq_getElem hlt] at this
    cases this
  have el : ps.length = qs.length := Nat.le_antisymm (le s2 a1) (le s1 a2)
  refine List.ext_getElem? fun i => ?_
  by_cases hi : i < ps.length
  · rw [a1 i hi, a2 i (by omega)]
  · rw [List.getElem?_eq_none (by omega), List.getElem?_eq_none (by omega)]
end
end Sw
/-! Games: the board that the stones in their order show; how a game stands in the heap. -/
namespace Sw
open PySem PySem.Spec PyProof.Rows L2
/-- the k-th stone's sign -/
def ltk (k : Nat) : Nat := lt (decide (k % 2 = 1))
def sgA : Nat → List Cell → Cell → Nat
  | _, [], _ => 46
  | k, c :: cs, p => if c = p then ltk k else sgA (k + 1) cs p
def kvA : Nat → List Cell → List (List Key × V)
  | _, [] => []
  | k, c :: cs => (keyOf c, V.str (txt [ltk k])) :: kvA (k + 1) cs
theorem kvA_snoc : ∀ (k : Nat) (cs : List Cell) (c : Cell), kvA k (cs ++ [c]) = kvA k cs ++ [(keyOf c, V.str (txt [ltk (k + cs.length)]))]
  | _, [], _ => rfl
  | k, d :: cs, c => by
    have ih := kvA_snoc (k + 1) cs c
    show (keyOf d, V.str (txt [ltk k])) :: kvA (k + 1) (cs ++ [c]) = _
    rw [ih, List.length_cons, show k + 1 + cs.length = k + (cs.length + 1) by omega]
    rfl
theorem kvA_keys : ∀ (k : Nat) (cs : List Cell), (kvA k cs).map (fun p : List Key × V => p.1) = cs.map keyOf
  | _, [] => rfl
  | k, c :: cs => by
    show keyOf c :: _ = _
    rw [kvA_keys (k + 1) cs]
    rfl
theorem kvA_len : ∀ (k : Nat) (cs : List Cell), (kvA k cs).length = cs.length
  | _, [] => rfl
  | k, c :: cs => by
    show (kvA (k + 1) cs).length + 1 = _
    rw [kvA_len (k + 1) cs]
    rfl
theorem kvA_get (p : Cell) : ∀ (k : Nat) (cs : List Cell), (valV (kvA k cs) (keyOf p)).getD (.str (txt [46])) = .str (txt [sgA k cs p])
  | _, [] => rfl
  | k, c :: cs => by
    have ih := kvA_get p (k + 1) cs
    unfold valV at ih ⊢
    have e0 : kvA k (c :: cs) = (keyOf c, V.str (txt [ltk k])) :: kvA (k + 1) cs := rfl
    have e1 : sgA k (c :: cs) p = if c = p then ltk k else sgA (k + 1) cs p := rfl
    rw [e0, e1, List.find?_cons]
    by_cases e : c = p
    · rw [show decide ((keyOf c, V.str (txt [ltk k])).1 = keyOf p) = true from decide_eq_true (by rw [e]), if_pos e]
      rfl
    · rw [show decide ((keyOf c, V.str (txt [ltk k])).1 = keyOf p) = false from decide_eq_false (fun z => e (keyOf_inj z)), if_neg e]
      exact ih
theorem sgA_snoc : ∀ (k : Nat) (cs : List Cell) (c p : Cell), c ∉ cs → sgA k (cs ++ [c]) p = if p = c then ltk (k + cs.length) else sgA k cs p
  | _, [], c, p, _ => by
    show (if c = p then _ else 46) = _
    by_cases e : c = p
    · rw [if_pos e, if_pos e.symm]
      rfl
    · rw [if_neg e, if_neg (fun z => e z.symm)]
      rfl
  | k, d :: cs, c, p, hn => by
    have ih := sgA_snoc (k + 1) cs c p (fun z => hn (List.mem_cons_of_mem _ z))
    show (if d = p then ltk k else sgA (k + 1) (cs ++ [c]) p) = if p = c then ltk (k + (cs.length + 1)) else if d = p then ltk k else sgA (k + 1) cs p
    rw [ih]
    by_cases e : d = p
    · have ne : p ≠ c := fun z => hn (by rw [← z, ← e]; exact List.mem_cons_self)
      rw [if_pos e, if_neg ne, if_pos e]
    · rw [if_neg e, if_neg e, show k + 1 + cs.length = k + (cs.length + 1) by omega]
theorem sgA_free {p : Cell} : ∀ {k : Nat} {cs : List Cell}, p ∉ cs ↔ sgA k cs p = 46
  | _, [] => ⟨fun _ => rfl, fun _ => by simp⟩
  | k, c :: cs => by
    rw [List.mem_cons, not_or]
    show _ ↔ (if c = p then ltk k else sgA (k + 1) cs p) = 46
    by_cases e : c = p
    · rw [if_pos e]
      refine ⟨fun z => absurd e.symm z.1, fun z => ?_⟩
      exfalso
      unfold ltk lt at z
      split at z <;> cases z
    · rw [if_neg e]
      exact ⟨fun z => (sgA_free (k := k + 1)).mp z.2, fun z => ⟨fun y => e y.symm, (sgA_free (k := k + 1)).mpr z⟩⟩
theorem sgA_ok (p : Cell) : ∀ (k : Nat) (cs : List Cell), sgA k cs p = 110 ∨ sgA k cs p = 119 ∨ sgA k cs p = 46
  | _, [] => .inr (.inr rfl)
  | k, c :: cs => by
    show (if c = p then ltk k else sgA (k + 1) cs p) = 110 ∨ _
    by_cases e : c = p
    · rw [if_pos e]
      have : (if c = p then ltk k else sgA (k + 1) cs p) = ltk k := if_pos e
      show _ ∨ sgA k (c :: cs) p = 119 ∨ sgA k (c :: cs) p = 46
      have e2 : sgA k (c :: cs) p = ltk k := if_pos e
      rw [e2]
      unfold ltk
      cases decide (k % 2 = 1) <;> simp [lt]
    · have e2 : sgA k (c :: cs) p = sgA (k + 1) cs p := if_neg e
      have e3 : (if c = p then ltk k else sgA (k + 1) cs p) = sgA (k + 1) cs p := if_neg e
      rw [e3]
      show _ ∨ sgA k (c :: cs) p = 119 ∨ sgA k (c :: cs) p = 46
      rw [e2]
      exact sgA_ok p (k + 1) cs
def shR (w : Nat) (cs : List Cell) (r : Nat) : List Nat := (List.range w).map fun c : Nat => sgA 0 cs ((r : Int), (c : Int))
/-- the board that the stones show -/
def shB (h w : Nat) (cs : List Cell) : Bd := (List.range h).map (shR w cs)
theorem shB_is {h w : Nat} (h1 : 1 ≤ h) (h9 : h ≤ 9) (w1 : 1 ≤ w) (w9 : w ≤ 9) (cs : List Cell) : IsB (shB h w cs) h w := by
  refine ⟨by unfold shB; rw [List.length_map, List.length_range], fun r hr => ?_, fun r hr c hc => ?_, h1, h9, w1, w9⟩
  · obtain ⟨y, _, rfl⟩ := List.mem_map.mp hr
    unfold shR
    rw [List.length_map, List.length_range]
  · obtain ⟨y, _, rfl⟩ := List.mem_map.mp hr
    obtain ⟨x, _, rfl⟩ := List.mem_map.mp hc
    exact sgA_ok _ 0 cs
theorem cel_shB {h w : Nat} {cs : List Cell} {p : Cell} (hp : Ins h w p) : cel (shB h w cs) p = sgA 0 cs p := by
  obtain ⟨a, b, c, d⟩ := hp
  have e : (shB h w cs)[p.1.toNat]? = some (shR w cs p.1.toNat) := by
    unfold shB
    rw [List.getElem?_map, List.getElem?_range (by omega)]
    rfl
  rw [cel_row a c e]
  unfold shR
  rw [List.getElem?_map, List.getElem?_range (by omega)]
  show sgA 0 cs (((p.1.toNat : Nat) : Int), ((p.2.toNat : Nat) : Int)) = _
  rw [show (((p.1.toNat : Nat) : Int), ((p.2.toNat : Nat) : Int)) = p from Prod.ext (by show ((p.1.toNat : Nat) : Int) = p.1; omega) (by show ((p.2.toNat : Nat) : Int) = p.2; omega)]
theorem ltk_is (k : Nat) : ltk k = 110 ∨ ltk k = 119 ∨ ltk k = 46 := by
  unfold ltk
  cases decide (k % 2 = 1) <;> simp [lt]
theorem shB_snoc {h w : Nat} (h1 : 1 ≤ h) (h9 : h ≤ 9) (w1 : 1 ≤ w) (w9 : w ≤ 9) {cs : List Cell} {c : Cell} (hn : c ∉ cs) (hc : Ins h w c) : shB h w (cs ++ [c]) = putB (shB h w cs) c (ltk cs.length) := by
  have I := shB_is h1 h9 w1 w9 cs
  refine bd_ext (shB_is h1 h9 w1 w9 _) (putB_is I c (ltk_is _)) fun p hp => ?_
  rw [cel_shB hp, cel_put I hc, sgA_snoc 0 cs c p hn, Nat.zero_add, cel_shB hp]
/-- who has won on a board -/
noncomputable def wonO (B : Bd) : Option Bool := if jB B false = true then some false else if jB B true = true then some true else none
def wonV : Option Bool → V
  | none => .non
  | some s => .str (txt [lt s])
theorem wonO_none {B : Bd} : wonO B = none ↔ jB B false = false ∧ jB B true = false := by
  unfold wonO
  cases jB B false <;> cases jB B true <;> simp
theorem wonO_some {B : Bd} {h w : Nat} (I : IsB B h w) {s : Bool} : wonO B = some s ↔ jB B s = true := by
  unfold wonO
  have nb : ¬ (jB B false = true ∧ jB B true = true) := fun ⟨a, b⟩ => jB_both I (s := false) a b
  cases s <;> cases e1 : jB B false <;> cases e2 : jB B true <;> simp_all
/-! ### in the heap -/
def gfl (l : Addr) (h w : Int) : List (Str × V) := [("height", .int h), ("width", .int w), ("played", .ref l)]
theorem gfl_height (l : Addr) (h w : Int) : (gfl l h w).lookup ("height" : Str) = some (.int h) := lk_h
theorem gfl_width (l : Addr) (h w : Int) : (gfl l h w).lookup ("width" : Str) = some (.int w) := (lk_p (by decide +kernel)).trans lk_h
theorem gfl_played (l : Addr) (h w : Int) : (gfl l h w).lookup ("played" : Str) = some (.ref l) := (lk_p (by decide +kernel)).trans ((lk_p (by decide +kernel)).trans lk_h)
theorem gfl_no {m : Str} (a : (m == "height") = false) (b : (m == "width") = false) (c : (m == "played") = false) (l : Addr) (h w : Int) : (gfl l h w).lookup m = none := (lk_p a).trans ((lk_p b).trans ((lk_p c).trans rfl))
theorem gfl_new (l : Addr) (h w : Int) : putF "played" (.ref l) (putF "width" (.int w) (putF "height" (.int h) [])) = gfl l h w := by
  show putF "played" (.ref l) (putF "width" (.int w) [("height", .int h)]) = _
  rw [pt_p (by decide +kernel)]
  show putF "played" (.ref l) [("height", .int h), ("width", .int w)] = _
  rw [pt_p (by decide +kernel), pt_p (by decide +kernel)]
  rfl
/-- a Game of h rows of w cells stands at p, its list of stones cs at l -/
structure GameAt (C : Addr) (H : Hp) (p l : Addr) (h w : Nat) (cs : List Cell) : Prop where
  ob : ∃ dx, H p = some (.ins C dx (gfl l h w))
  ls : ∃ ws, H l = some (.lst ws) ∧ Cells H ws cs
  nd : cs.Nodup
  ins : ∀ c ∈ cs, Ins h w c
  h1 : 1 ≤ h
  h9 : h ≤ 9
  w1 : 1 ≤ w
  w9 : w ≤ 9
theorem GameAt.same {C : Addr} {H H' : Hp} {p l : Addr} {h w : Nat} {cs : List Cell} (g : GameAt C H p l h w cs) (s : Same H H') : GameAt C H' p l h w cs := by
  obtain ⟨⟨dx, h1⟩, ⟨ws, h2, hc⟩, a, b, c, d, e, f⟩ := g
  exact ⟨⟨dx, s _ _ h1⟩, ⟨ws, s _ _ h2, hc.same s⟩, a, b, c, d, e, f⟩
theorem GameAt.isB {C : Addr} {H : Hp} {p l : Addr} {h w : Nat} {cs : List Cell} (g : GameAt C H p l h w cs) : IsB (shB h w cs) h w := shB_is g.h1 g.h9 g.w1 g.w9 cs
theorem GameAt.many {C : Addr} {H : Hp} {p l : Addr} {h w : Nat} {cs : List Cell} (g : GameAt C H p l h w cs) : cs.length ≤ 81 :=
  Nat.le_trans (nodup_rect g.nd g.ins) (Nat.mul_le_mul g.h9 g.w9)
/-- all but the thing at l stays -/
def Keep (l : Addr) (H H' : Hp) : Prop := ∀ b o, H b = some o → b ≠ l → H' b = some o
theorem Keep.of {l : Addr} {H H' : Hp} (s : Same H H') : Keep l H H' := fun b o e _ => s b o e
theorem Keep.trans {l : Addr} {H H1 H2 : Hp} (a : Keep l H H1) (b : Keep l H1 H2) : Keep l H H2 := fun x o e n => b x o (a x o e n) n
theorem Keep.upd {l : Addr} {H H' : Hp} (k : Keep l H H') (o : HO) : Keep l H (upd H' l o) := fun b u e n => by
  rw [upd_ne n]
  exact k b u e n
theorem Keep.seq {K : PySem.W.Frag} {l a : Addr} {H H' : Hp} {xs : List V} (k : Keep l H H') (n : a ≠ l) (h : SqL K H a xs) : SqL K H' a xs := by
  rcases h with (h | ⟨o, h⟩) | h
  · exact .inl (.inl (k _ _ h n))
  · exact .inl (.inr ⟨o, k _ _ h n⟩)
  · exact .inr h
theorem same_keep {H0 H H' : Hp} {l : Addr} (s : Same H0 H) (k : Keep l H H') (n : H0 l = none) : Same H0 H' := fun b o e => k b o (s b o e) (ne_of_none e n)
theorem ltk_lt (k : Nat) : ∃ s, ltk k = lt s := ⟨_, rfl⟩
/-- nobody is joined where no stone lies -/
theorem won_nil {h w : Nat} (h1 : 1 ≤ h) (h9 : h ≤ 9) (w1 : 1 ≤ w) (w9 : w ≤ 9) : wonO (shB h w []) = none := by
  have I := shB_is h1 h9 w1 w9 []
  rw [wonO_none, jB_not I, jB_not I]
  have no : ∀ s, ¬ Joined (cel (shB h w [])) h w s := by
    rintro s ⟨c, r, _⟩
    have e := r.sign
    have ix := I.ins (p := c) (by rw [e]; exact lt_ne s)
    rw [cel_shB ix] at e
    cases s <;> cases e
  exact ⟨no false, no true⟩
/-- the hand that has won laid the last stone -/
theorem won_last {h w : Nat} (h1 : 1 ≤ h) (h9 : h ≤ 9) (w1 : 1 ≤ w) (w9 : w ≤ 9) {c0 : List Cell} {c : Cell} (hn : c ∉ c0) (hc : Ins h w c) {s : Bool} (e0 : wonO (shB h w c0) = none) (e : wonO (shB h w (c0 ++ [c])) = some s) : ltk c0.length = lt s := by
  have I0 := shB_is h1 h9 w1 w9 c0
  have I1 := shB_is h1 h9 w1 w9 (c0 ++ [c])
  rw [wonO_some I1, shB_snoc h1 h9 w1 w9 hn hc] at e
  obtain ⟨s', es⟩ := ltk_lt c0.length
  rw [es] at e ⊢
  by_cases k : s' = s
  · rw [k]
  · have ek : s = !s' := by cases s <;> cases s' <;> simp_all
    rw [ek] at e
    have := jB_put_oth I0 hc e
    obtain ⟨n1, n2⟩ := wonO_none.mp e0
    cases s'
    · exact absurd (this.symm.trans n2) (by decide)
    · exact absurd (this.symm.trans n1) (by decide)
/-- with every cell played somebody has won -/
theorem won_full {h w : Nat} (h1 : 1 ≤ h) (h9 : h ≤ 9) (w1 : 1 ≤ w) (w9 : w ≤ 9) {cs : List Cell} (al : ∀ p, Ins h w p → p ∈ cs) : ∃ s, wonO (shB h w cs) = some s := by
  have I := shB_is h1 h9 w1 w9 cs
  have fl : ∀ p, cel (shB h w cs) p ≠ 46 := fun p e => by
    have ix := I.ins (p := p) (by rw [e]; decide)
    rw [cel_shB ix] at e
    exact sgA_free.mpr e (al p ix)
  rcases one_joined I fl with z | z
  · exact ⟨false, (wonO_some I).mpr ((jB_iff I _).mpr z)⟩
  · exact ⟨true, (wonO_some I).mpr ((jB_iff I _).mpr z)⟩
end Sw
/-! A def that is handed the exception which an except suite holds, called there: what it promises depends on the object handed over. -/
namespace Sw
open PySem PySem.Spec PyProof.Rows L2 L2H
/-- what such a def promises; pp is the exception's address and object -/
structure FnE (P : Program) (w : World) (K : PySem.W.Frag) (mg : Str → Option Value) (base : Heap) (k : Nat) (f : Addr) (fd : FuncData) (ps : List Str) (sp : Addr × Obj → Sp) : Prop where
  len : ∀ pp vs H Q E, sp pp vs H Q E → vs.length = ps.length
  run : ∀ (A1 : Around) (out1 : List Env) (s1 : Shared) (H1 : Hp) (ar : Args) (us : List Value) (vs : List V) (Q1 : VK) (E1 : XK) (pp : Addr × Obj), RoomH k A1 → PinOk out1 H1 s1 pp → Env0 P w K mg base A1 out1 s1 H1 → BindsTo s1 fd ar (ps.zip us) → Vals vs us → sp pp vs H1 Q1 E1 →
    codeAny (model P w) A1 (.call (.ref f) ar) (CR CX0 out1 P w H1 s1 Q1 E1) s1
theorem Fun_okE {P : Program} {w : World} {K : PySem.W.Frag} {mg : Str → Option Value} {base : Heap} {x qual : Str} {st : Stmt} {f : Addr} {fd : FuncData} {N ps : List Str} {k : Nat} {sp : Addr × Obj → Sp} (F : Fun K x qual st f fd) (S : FnScope N ps (defScope st)) (len : ∀ pp vs H Q E, sp pp vs H Q E → vs.length = ps.length)
    (hb2 : ∀ (cdv : Value) (A1 : Around) (out1 : List Env) (s1 : Shared) (H1 : Hp) (vs : List V) (Q1 : VK) (E1 : XK) (pp : Addr × Obj), RoomH k (A1.deeper (envOfC qual (defScope st) s1.heap.objs.size f cdv)) → sp pp vs H1 Q1 E1 →
      ∃ tt, PSs (cxH CX0 P w K mg base N qual (defScope st) f cdv A1 out1 s1 H1 E1 pp) (defBody st) tt ∧ tt { nx := fun _ Hz => Q1 .non Hz, rt := Q1 } (L2.start N vs) H1) :
    FnE P w K mg base (k + 1) f fd ps sp := by
  obtain ⟨oc, od, kV, doc, pm, an, cdv, ct, osl, rfl, lk, hcd⟩ := F.ex
  refine ⟨len, fun A1 out1 s1 H1 ar us vs Q1 E1 pp hroom hpin env0 hbind rv hsp => ?_⟩
  have hlen := len _ _ _ _ _ hsp
  have KX1 : K.In s1.heap := env0.mod.kin.keeps fun b o e => (env0.bs b o e).1
  have lim1 : s1.heap.NoLimit := env0.mod.nolimit.keeps fun b o e => (env0.bs b o e).1
  have kinds : ∀ y ∈ ps.zip us, (defScope st).names.lookup y.1 = some .local ∨ ((defScope st).names.lookup y.1 = some .cell ∧ ((cellsFrom (s1.heap.objs.size + 1) (defScope st).names []).lookup y.1).isSome = true) := fun ⟨n, v⟩ hy => by
    rcases S.par n (List.of_mem_zip hy).1 with q | q
    · exact .inl q
    · exact .inr ⟨q, PySem.W.cellsFrom_some _ _ _ (.inl q)⟩
  refine codeAny_call_function hroom.depth (KX1 _ _ lk) rfl S.co S.gen rfl (PySem.W.codeRec_of KX1 hcd) (hbind _ _ _ _ ?_)
  refine wpAny_newFunctionEnv_cells S.kind kinds fun env he s2 inc => ?_
  subst he
  refine ⟨lim1.keeps inc.toInCall.keep, codeAny_func ?_⟩
  obtain ⟨tt, htt, hq⟩ := hb2 cdv A1 out1 s1 H1 vs Q1 E1 pp (hroom.deeper _) hsp
  have I1 : Inv (cxH CX0 P w K mg base N qual (defScope st) f cdv A1 out1 s1 H1 E1 pp) [] (L2.start N vs) H1 s2 := inv_startH S hpin env0 hlen rv inc
  refine wpAny_mono (htt.run [] s2 (L2.start N vs) H1 _ I1 hq) (fun fl s3 hs => ?_) fun e s3 hs => hs
  have fin : ∀ {σ2 : L2.St} {H2 : Hp} {v : V} {u : Value}, Inv (cxH CX0 P w K mg base N qual (defScope st) f cdv A1 out1 s1 H1 E1 pp) [] σ2 H2 s3 → RelV v u → Q1 v H2 → CE out1 P w H1 s1 Q1 u s3 :=
    fun {σ2 H2 v u} J2 rv2 q2 => ⟨v, H2, J2.os, J2.bare, J2.base, J2.hok, rv2, q2⟩
  cases fl with
  | ret u =>
    obtain ⟨v, σ2, H2, J2, rv2, q2⟩ := hs
    exact fin J2 rv2 q2
  | next =>
    obtain ⟨σ2, H2, J2, q2⟩ := hs
    exact fin (v := V.non) (u := Value.none) J2 rfl q2
  | brk =>
    obtain ⟨_, _, _, z⟩ := hs
    exact z.elim
  | cont =>
    obtain ⟨_, _, _, z⟩ := hs
    exact z.elim
section
variable {X : Cx} {k : Nat} {f : Addr} {fd : FuncData} {ps : List Str} {sp : Addr × Obj → Sp} {x : Str} {p pos : Pos} {e : Expr} {es : List Expr} {t : TA}
theorem run_fnE {pins : List (Addr × Obj)} {σ : L2.St} {H : Hp} {s : Shared} {Q : VK} {us : List Value} {vs : List V} {pp : Addr × Obj} (F : FnE X.prog X.w X.K X.mg X.base k f fd ps sp) (hroom : RoomH k X.A) (hm : pp ∈ X.pn) (hbind : Binds X.K fd ps [])
    (I : Inv X pins σ H s) (rv : Vals vs us) (hsp : sp pp vs H Q E0) : wpAny (model X.prog X.w) X.A (call (.ref f) us) (EP X pins σ Q) X.xe s := by
  have hlen : us.length = ps.length := by rw [← rv.length]; exact F.len _ _ _ _ _ hsp
  have bd := hbind s us I.kIn (by rw [List.append_nil]; exact hlen)
  rw [List.append_nil] at bd
  have P1 := I.pin pp (List.mem_append_left _ hm)
  have hpin : PinOk X.stack H s pp := ⟨P1.1, P1.2.1, fun z => (List.mem_cons.mp (I.stkSub pp.1 z)).elim P1.2.2.1 P1.2.2.2.1, P1.2.2.2.2⟩
  refine wpAny_call (codeAny_mono (F.run X.A X.stack s H ⟨us, []⟩ us vs Q E0 pp hroom hpin I.env0 bd rv hsp) fun res s2 hq => ?_)
  cases res with
  | error er => exact pass0 (X := X) pins σ H s er s2 I hq
  | ok fl =>
    cases fl with
    | ret u => exact I.after hq
    | next => exact hq.elim
    | brk => exact hq.elim
    | cont => exact hq.elim
def tCallE (sp : Sp) (t : TA) : TE := fun σ H Q => t σ H fun vs H1 => sp vs H1 Q E0
theorem pe_callE {pp : Addr × Obj} (F : FnE X.prog X.w X.K X.mg X.base k f fd ps sp) (hroom : RoomH k X.A) (hpn : pp ∈ X.pn) (hg : Gl X x) (hm : X.mg x = some (.ref f)) (hk : PySem.W.keepIn X.K (.ref f) = true) (hbind : Binds X.K fd ps [])
    {sq : Sp} (hsq : ∀ vs H Q, sq vs H Q E0 → sp pp vs H Q E0)
    (ha : PA X (e :: es) t) (hdb : (x == ("__debug__" : Str)) = false := by decide) (hst : starEach (e :: es) X.env = (false, eval e X.env) :: starEach es X.env := by rfl) (hpl : (backTo pos (starEach es X.env)).any (·.1) = false := by rfl) :
    PE X (.Call (.Name x p) (e :: es) [] pos) (tCallE sq t) := by
  refine ⟨fun pins s σ H Q I hq => ?_⟩
  refine wpAny_Call_Name_kw (ld_glob I hg hm ?_ hdb)
  refine PySem.W.callWith_K (h₀ := X.base) I.ok.mod.kin hk (thn (ha.run pos pins s σ H _ I hq) fun us s1 ⟨vs, H1, I1, rv, q1⟩ => ⟨I1.kIn, ?_⟩) hst hpl
  exact run_fnE F hroom hpn hbind I1 rv (hsq _ _ _ q1)
/-- isinstance of the exception handed over -/
theorem call_isP {K : PySem.W.Frag} {a D : Addr} {oe : Obj} (hK : X.K = K) (C : ExcC K D) (hz : Zc (.ref D) none oe) (hf : ∃ vs, oe.data = .fields vs) (hp : (a, oe) ∈ X.pn) : CallR X (.builtin "isinstance") (rIsE K D a) := by
  subst hK
  intro pins s σ H xs us Q I rr hh
  obtain ⟨c, cv, b, rfl, hcv, ek, q⟩ := hh
  cases rr with
  | cons rx r2 =>
    cases r2 with
    | cons rt r3 =>
      cases r3
      cases rx
      have ec := hcv _ rt
      subst ec
      obtain ⟨hget, _⟩ := I.pin (a, oe) (List.mem_append.mpr (.inl hp))
      obtain ⟨fs, hv⟩ := hf
      have J : PySem.W.InstAt s.heap a oe D none := by
        obtain ⟨oc, od, oda, osl⟩ := oe
        obtain ⟨z1, z2⟩ := hz
        dsimp only at z1 z2 hv
        subst z1 z2 hv
        exact ⟨hget, rfl, rfl, trivial⟩
      exact PySem.W.kia_one (PySem.W.handS_kitx_exc C.hg C.hk C.hs C.hd C.ha C.hn C.ht C.hm) I.kIn J ek (fun z => nomatch z) fun tk => ⟨.bl b, H, I.kept (t' := tk) fun _ _ z => z, rfl, q⟩
end
theorem hu65E {k : Nat} {A : Around} (r : RoomH k A) : A.units + 65 < cLine := by have := r.un; omega
theorem roomE_of {k : Nat} {A : Around} (r : Room k A) : RoomH k A := ⟨r.dp, r.un⟩
end Sw
namespace Sw
open PySem PySem.Spec PyProof.Rows L2
/-! ### the text by places -/
def top (i : Nat) : Stmt := PySem.Challenge.pw_shoreways_k16_refusals_apart.main.body.getD i (.Pass ⟨0, 0, 0, 0⟩)
abbrev s_board_right : Stmt := top 12
abbrev N_board_right : List Str := ["rows", "row", "letter"]
theorem sc_board_right : FnScope N_board_right ["rows"] (defScope s_board_right) := ⟨rfl, rfl, rfl, by decide +kernel, rfl, by decide +kernel, by decide +kernel⟩
abbrev s_Board___init__ : Stmt := inClass (top 13) 0
abbrev N_Board___init__ : List Str := ["self", "rows"]
theorem sc_Board___init__ : FnScope N_Board___init__ ["self", "rows"] (defScope s_Board___init__) := ⟨rfl, rfl, rfl, by decide +kernel, rfl, by decide +kernel, by decide +kernel⟩
abbrev s_Board_has : Stmt := inClass (top 13) 1
abbrev N_Board_has : List Str := ["self", "r", "c"]
theorem sc_Board_has : FnScope N_Board_has ["self", "r", "c"] (defScope s_Board_has) := ⟨rfl, rfl, rfl, by decide +kernel, rfl, by decide +kernel, by decide +kernel⟩
abbrev s_near : Stmt := top 14
abbrev N_near : List Str := ["r", "c"]
theorem sc_near : FnScope N_near ["r", "c"] (defScope s_near) := ⟨rfl, rfl, rfl, by decide +kernel, rfl, by decide +kernel, by decide +kernel⟩
abbrev s_sign : Stmt := top 15
abbrev N_sign : List Str := ["board", "r", "c"]
theorem sc_sign : FnScope N_sign ["board", "r", "c"] (defScope s_sign) := ⟨rfl, rfl, rfl, by decide +kernel, rfl, by decide +kernel, by decide +kernel⟩
abbrev s_laid : Stmt := top 16
abbrev N_laid : List Str := ["board", "r", "c", "hand", "rows"]
theorem sc_laid : FnScope N_laid ["board", "r", "c", "hand"] (defScope s_laid) := ⟨rfl, rfl, rfl, by decide +kernel, rfl, by decide +kernel, by decide +kernel⟩
abbrev s_other : Stmt := top 17
abbrev N_other : List Str := ["letter"]
theorem sc_other : FnScope N_other ["letter"] (defScope s_other) := ⟨rfl, rfl, rfl, by decide +kernel, rfl, by decide +kernel, by decide +kernel⟩
abbrev s_empty : Stmt := top 18
abbrev N_empty : List Str := ["board", "found", "r", "row", "c", "letter"]
theorem sc_empty : FnScope N_empty ["board"] (defScope s_empty) := ⟨rfl, rfl, rfl, by decide +kernel, rfl, by decide +kernel, by decide +kernel⟩
abbrev s_beginnings : Stmt := top 20
abbrev N_beginnings : List Str := ["board", "hand", "cells", "cell", "c", "r"]
theorem sc_beginnings : FnScope N_beginnings ["board", "hand"] (defScope s_beginnings) := ⟨rfl, rfl, rfl, by decide +kernel, rfl, by decide +kernel, by decide +kernel⟩
abbrev s_at_end : Stmt := top 21
abbrev N_at_end : List Str := ["board", "hand", "cell"]
theorem sc_at_end : FnScope N_at_end ["board", "hand", "cell"] (defScope s_at_end) := ⟨rfl, rfl, rfl, by decide +kernel, rfl, by decide +kernel, by decide +kernel⟩
abbrev s_road : Stmt := top 22
abbrev N_road : List Str := ["board", "hand", "queue", "seen", "way", "at", "here", "cell"]
theorem sc_road : FnScope N_road ["board", "hand"] (defScope s_road) := ⟨rfl, rfl, rfl, by decide +kernel, rfl, by decide +kernel, by decide +kernel⟩
abbrev s_joined : Stmt := top 23
abbrev N_joined : List Str := ["board", "hand"]
theorem sc_joined : FnScope N_joined ["board", "hand"] (defScope s_joined) := ⟨rfl, rfl, rfl, by decide +kernel, rfl, by decide +kernel, by decide +kernel⟩
abbrev s_winner : Stmt := top 24
abbrev N_winner : List Str := ["board"]
theorem sc_winner : FnScope N_winner ["board"] (defScope s_winner) := ⟨rfl, rfl, rfl, by decide +kernel, rfl, by decide +kernel, by decide +kernel⟩
abbrev s_check_end : Stmt := top 27
abbrev N_check_end : List Str := ["board"]
theorem sc_check_end : FnScope N_check_end ["board"] (defScope s_check_end) := ⟨rfl, rfl, rfl, by decide +kernel, rfl, by decide +kernel, by decide +kernel⟩
abbrev s_winning : Stmt := top 28
abbrev N_winning : List Str := ["board", "hand", "known", "key", "cell"]
theorem sc_winning : FnScope N_winning ["board", "hand", "known"] (defScope s_winning) := ⟨rfl, rfl, rfl, by decide +kernel, rfl, by decide +kernel, by decide +kernel⟩
abbrev s_wins_by : Stmt := top 29
abbrev N_wins_by : List Str := ["board", "hand", "cell", "known", "behind"]
theorem sc_wins_by : FnScope N_wins_by ["board", "hand", "cell", "known"] (defScope s_wins_by) := ⟨rfl, rfl, rfl, by decide +kernel, rfl, by decide +kernel, by decide +kernel⟩
abbrev s_can_win : Stmt := top 30
abbrev N_can_win : List Str := ["board", "hand"]
theorem sc_can_win : FnScope N_can_win ["board", "hand"] (defScope s_can_win) := ⟨rfl, rfl, rfl, by decide +kernel, rfl, by decide +kernel, by decide +kernel⟩
abbrev s_replies : Stmt := top 31
abbrev N_replies : List Str := ["board", "hand", "known", "cell"]
theorem sc_replies : FnScope N_replies ["board", "hand"] (defScope s_replies) := ⟨rfl, rfl, rfl, by decide +kernel, rfl, by decide +kernel, by decide +kernel⟩
abbrev s_Game___init__ : Stmt := inClass (top 33) 0
abbrev N_Game___init__ : List Str := ["self", "height", "width"]
theorem sc_Game___init__ : FnScope N_Game___init__ ["self", "height", "width"] (defScope s_Game___init__) := ⟨rfl, rfl, rfl, by decide +kernel, rfl, by decide +kernel, by decide +kernel⟩
abbrev s_Game_board : Stmt := inClass (top 33) 1
abbrev N_Game_board : List Str := ["self", "signs", "rows", "r", "k", "cell", "c"]
theorem sc_Game_board : FnScope N_Game_board ["self"] (defScope s_Game_board) := ⟨rfl, rfl, rfl, by decide +kernel, rfl, by decide +kernel, by decide +kernel⟩
abbrev s_Game_won : Stmt := inClass (top 33) 2
abbrev N_Game_won : List Str := ["self", "board", "hand"]
theorem sc_Game_won : FnScope N_Game_won ["self"] (defScope s_Game_won) := ⟨rfl, rfl, rfl, by decide +kernel, rfl, by decide +kernel, by decide +kernel⟩
abbrev s_Game_play : Stmt := inClass (top 33) 4
abbrev N_Game_play : List Str := ["self", "r", "c"]
theorem sc_Game_play : FnScope N_Game_play ["self", "r", "c"] (defScope s_Game_play) := ⟨rfl, rfl, rfl, by decide +kernel, rfl, by decide +kernel, by decide +kernel⟩
abbrev s_Game_back : Stmt := inClass (top 33) 5
abbrev N_Game_back : List Str := ["self"]
theorem sc_Game_back : FnScope N_Game_back ["self"] (defScope s_Game_back) := ⟨rfl, rfl, rfl, by decide +kernel, rfl, by decide +kernel, by decide +kernel⟩
abbrev s_owner : Stmt := top 35
abbrev N_owner : List Str := ["board", "place", "r", "c"]
theorem sc_owner : FnScope N_owner ["board", "place"] (defScope s_owner) := ⟨rfl, rfl, rfl, by decide +kernel, rfl, by decide +kernel, by decide +kernel⟩
abbrev s_walk : Stmt := top 36
abbrev N_walk : List Str := ["board", "found", "one", "two", "around", "ahead", "hand"]
theorem sc_walk : FnScope N_walk ["board"] (defScope s_walk) := ⟨rfl, rfl, rfl, by decide +kernel, rfl, by decide +kernel, by decide +kernel⟩
abbrev s__law_cell_at : Stmt := top 38
abbrev N__law_cell_at : List Str := ["script", "k"]
theorem sc__law_cell_at : FnScope N__law_cell_at ["script", "k"] (defScope s__law_cell_at) := ⟨rfl, rfl, rfl, by decide +kernel, rfl, by decide +kernel, by decide +kernel⟩
abbrev s__law_which : Stmt := top 39
abbrev N__law_which : List Str := ["e", "told"]
theorem sc__law_which : FnScope N__law_which ["e"] (defScope s__law_which) := ⟨rfl, rfl, rfl, by decide +kernel, rfl, by decide +kernel, by decide +kernel⟩
abbrev s__law_first : Stmt := top 40
abbrev N__law_first : List Str := ["way", "width", "hand", "board", "game"]
theorem sc__law_first : FnScope N__law_first ["way", "width", "hand"] (defScope s__law_first) := ⟨rfl, rfl, rfl, by decide +kernel, rfl, by decide +kernel, by decide +kernel⟩
abbrev s__law_second : Stmt := top 41
abbrev N__law_second : List Str := ["way", "width", "hand", "game"]
theorem sc__law_second : FnScope N__law_second ["way", "width", "hand"] (defScope s__law_second) := ⟨rfl, rfl, rfl, by decide +kernel, rfl, by decide +kernel, by decide +kernel⟩
abbrev s__law_met : Stmt := top 42
abbrev N__law_met : List Str := ["way", "width", "hand", "e"]
theorem sc__law_met : FnScope N__law_met ["way", "width", "hand"] (defScope s__law_met) := ⟨rfl, rfl, rfl, by decide +kernel, rfl, by decide +kernel, by decide +kernel⟩
abbrev s_law : Stmt := top 43
abbrev N_law : List Str := ["script", "width", "hand", "first", "k", "way"]
theorem sc_law : FnScope N_law ["script"] (defScope s_law) := ⟨rfl, rfl, rfl, by decide +kernel, rfl, by decide +kernel, by decide +kernel⟩
/-- what the top has laid -/
structure Top (K : PySem.W.Frag) (mg : Str → Option Value) where
  a_board_right : Addr
  d_board_right : FuncData
  F_board_right : Fun K "board_right" "board_right" s_board_right a_board_right d_board_right
  B_board_right : Binds K d_board_right ["rows"] []
  m_board_right : mg "board_right" = some (.ref a_board_right)
  a_Board___init__ : Addr
  d_Board___init__ : FuncData
  F_Board___init__ : Fun K "__init__" "Board.__init__" s_Board___init__ a_Board___init__ d_Board___init__
  B_Board___init__ : Binds K d_Board___init__ ["self", "rows"] []
  a_Board_has : Addr
  d_Board_has : FuncData
  F_Board_has : Fun K "has" "Board.has" s_Board_has a_Board_has d_Board_has
  B_Board_has : Binds K d_Board_has ["self", "r", "c"] []
  a_near : Addr
  d_near : FuncData
  F_near : Fun K "near" "near" s_near a_near d_near
  B_near : Binds K d_near ["r", "c"] []
  m_near : mg "near" = some (.ref a_near)
  a_sign : Addr
  d_sign : FuncData
  F_sign : Fun K "sign" "sign" s_sign a_sign d_sign
  B_sign : Binds K d_sign ["board", "r", "c"] []
  m_sign : mg "sign" = some (.ref a_sign)
  a_laid : Addr
  d_laid : FuncData
  F_laid : Fun K "laid" "laid" s_laid a_laid d_laid
  B_laid : Binds K d_laid ["board", "r", "c", "hand"] []
  m_laid : mg "laid" = some (.ref a_laid)
  a_other : Addr
  d_other : FuncData
  F_other : Fun K "other" "other" s_other a_other d_other
  B_other : Binds K d_other ["letter"] []
  m_other : mg "other" = some (.ref a_other)
  a_empty : Addr
  d_empty : FuncData
  F_empty : Fun K "empty" "empty" s_empty a_empty d_empty
  B_empty : Binds K d_empty ["board"] []
  m_empty : mg "empty" = some (.ref a_empty)
  a_beginnings : Addr
  d_beginnings : FuncData
  F_beginnings : Fun K "beginnings" "beginnings" s_beginnings a_beginnings d_beginnings
  B_beginnings : Binds K d_beginnings ["board", "hand"] []
  m_beginnings : mg "beginnings" = some (.ref a_beginnings)
  a_at_end : Addr
  d_at_end : FuncData
  F_at_end : Fun K "at_end" "at_end" s_at_end a_at_end d_at_end
  B_at_end : Binds K d_at_end ["board", "hand", "cell"] []
  m_at_end : mg "at_end" = some (.ref a_at_end)
  a_road : Addr
  d_road : FuncData
  F_road : Fun K "road" "road" s_road a_road d_road
  B_road : Binds K d_road ["board", "hand"] []
  m_road : mg "road" = some (.ref a_road)
  a_joined : Addr
  d_joined : FuncData
  F_joined : Fun K "joined" "joined" s_joined a_joined d_joined
  B_joined : Binds K d_joined ["board", "hand"] []
  m_joined : mg "joined" = some (.ref a_joined)
  a_winner : Addr
  d_winner : FuncData
  F_winner : Fun K "winner" "winner" s_winner a_winner d_winner
  B_winner : Binds K d_winner ["board"] []
  m_winner : mg "winner" = some (.ref a_winner)
  a_check_end : Addr
  d_check_end : FuncData
  F_check_end : Fun K "check_end" "check_end" s_check_end a_check_end d_check_end
  B_check_end : Binds K d_check_end ["board"] []
  m_check_end : mg "check_end" = some (.ref a_check_end)
  a_winning : Addr
  d_winning : FuncData
  F_winning : Fun K "winning" "winning" s_winning a_winning d_winning
  B_winning : Binds K d_winning ["board", "hand", "known"] []
  m_winning : mg "winning" = some (.ref a_winning)
  a_wins_by : Addr
  d_wins_by : FuncData
  F_wins_by : Fun K "wins_by" "wins_by" s_wins_by a_wins_by d_wins_by
  B_wins_by : Binds K d_wins_by ["board", "hand", "cell", "known"] []
  m_wins_by : mg "wins_by" = some (.ref a_wins_by)
  a_can_win : Addr
  d_can_win : FuncData
  F_can_win : Fun K "can_win" "can_win" s_can_win a_can_win d_can_win
  B_can_win : Binds K d_can_win ["board", "hand"] []
  m_can_win : mg "can_win" = some (.ref a_can_win)
  a_replies : Addr
  d_replies : FuncData
  F_replies : Fun K "replies" "replies" s_replies a_replies d_replies
  B_replies : Binds K d_replies ["board", "hand"] []
  m_replies : mg "replies" = some (.ref a_replies)
  a_Game___init__ : Addr
  d_Game___init__ : FuncData
  F_Game___init__ : Fun K "__init__" "Game.__init__" s_Game___init__ a_Game___init__ d_Game___init__
  B_Game___init__ : Binds K d_Game___init__ ["self", "height", "width"] []
  a_Game_board : Addr
  d_Game_board : FuncData
  F_Game_board : Fun K "board" "Game.board" s_Game_board a_Game_board d_Game_board
  B_Game_board : Binds K d_Game_board ["self"] []
  a_Game_won : Addr
  d_Game_won : FuncData
  F_Game_won : Fun K "won" "Game.won" s_Game_won a_Game_won d_Game_won
  B_Game_won : Binds K d_Game_won ["self"] []
  a_Game_play : Addr
  d_Game_play : FuncData
  F_Game_play : Fun K "play" "Game.play" s_Game_play a_Game_play d_Game_play
  B_Game_play : Binds K d_Game_play ["self", "r", "c"] []
  a_Game_back : Addr
  d_Game_back : FuncData
  F_Game_back : Fun K "back" "Game.back" s_Game_back a_Game_back d_Game_back
  B_Game_back : Binds K d_Game_back ["self"] []
  a_owner : Addr
  d_owner : FuncData
  F_owner : Fun K "owner" "owner" s_owner a_owner d_owner
  B_owner : Binds K d_owner ["board", "place"] []
  m_owner : mg "owner" = some (.ref a_owner)
  a_walk : Addr
  d_walk : FuncData
  F_walk : Fun K "walk" "walk" s_walk a_walk d_walk
  B_walk : Binds K d_walk ["board"] []
  m_walk : mg "walk" = some (.ref a_walk)
  a__law_cell_at : Addr
  d__law_cell_at : FuncData
  F__law_cell_at : Fun K "_law_cell_at" "_law_cell_at" s__law_cell_at a__law_cell_at d__law_cell_at
  B__law_cell_at : Binds K d__law_cell_at ["script", "k"] []
  m__law_cell_at : mg "_law_cell_at" = some (.ref a__law_cell_at)
  a__law_which : Addr
  d__law_which : FuncData
  F__law_which : Fun K "_law_which" "_law_which" s__law_which a__law_which d__law_which
  B__law_which : Binds K d__law_which ["e"] []
  m__law_which : mg "_law_which" = some (.ref a__law_which)
  a__law_first : Addr
  d__law_first : FuncData
  F__law_first : Fun K "_law_first" "_law_first" s__law_first a__law_first d__law_first
  B__law_first : Binds K d__law_first ["way", "width", "hand"] []
  m__law_first : mg "_law_first" = some (.ref a__law_first)
  a__law_second : Addr
  d__law_second : FuncData
  F__law_second : Fun K "_law_second" "_law_second" s__law_second a__law_second d__law_second
  B__law_second : Binds K d__law_second ["way", "width", "hand"] []
  m__law_second : mg "_law_second" = some (.ref a__law_second)
  a__law_met : Addr
  d__law_met : FuncData
  F__law_met : Fun K "_law_met" "_law_met" s__law_met a__law_met d__law_met
  B__law_met : Binds K d__law_met ["way", "width", "hand"] []
  m__law_met : mg "_law_met" = some (.ref a__law_met)
  a_law : Addr
  d_law : FuncData
  F_law : Fun K "law" "law" s_law a_law d_law
  B_law : Binds K d_law ["script"] []
  m_law : mg "law" = some (.ref a_law)
  C_Board : Addr
  cl_Board : Cls K C_Board
  mC_Board : mg "Board" = some (.ref C_Board)
  Mk_Board : Mk K C_Board a_Board___init__
  n_Board_rows : NoAttr K C_Board "rows"
  n_Board_height : NoAttr K C_Board "height"
  n_Board_width : NoAttr K C_Board "width"
  M_Board_has : Meth K C_Board "has" a_Board_has
  C_Game : Addr
  cl_Game : Cls K C_Game
  mC_Game : mg "Game" = some (.ref C_Game)
  Mk_Game : Mk K C_Game a_Game___init__
  n_Game_height : NoAttr K C_Game "height"
  n_Game_width : NoAttr K C_Game "width"
  n_Game_played : NoAttr K C_Game "played"
  M_Game_board : Meth K C_Game "board" a_Game_board
  M_Game_won : Meth K C_Game "won" a_Game_won
  M_Game_play : Meth K C_Game "play" a_Game_play
  M_Game_back : Meth K C_Game "back" a_Game_back
  C_ShoreError : Addr
  mC_ShoreError : mg "ShoreError" = some (.ref C_ShoreError)
  x_ShoreError : PySem.W.excIn K C_ShoreError [.type "ValueError", .type "Exception", .type "BaseException", .type "object"] "ValueError.__new__" = true
  k_ShoreError : PySem.W.keepIn K (.ref C_ShoreError) = true
  b_ShoreError : PySem.W.subIn K (.ref C_ShoreError) (.type "BaseException") = some true
  t_ShoreError : PySem.W.typeIn K (.ref C_ShoreError) = some (.type "type")
  i_ShoreError : PySem.W.isClsIn K C_ShoreError = true
  C_BadBoard : Addr
  mC_BadBoard : mg "BadBoard" = some (.ref C_BadBoard)
  x_BadBoard : PySem.W.excIn K C_BadBoard [.type "ValueError", .type "Exception", .type "BaseException", .type "object"] "ValueError.__new__" = true
  k_BadBoard : PySem.W.keepIn K (.ref C_BadBoard) = true
  b_BadBoard : PySem.W.subIn K (.ref C_BadBoard) (.type "BaseException") = some true
  t_BadBoard : PySem.W.typeIn K (.ref C_BadBoard) = some (.type "type")
  i_BadBoard : PySem.W.isClsIn K C_BadBoard = true
  C_NoCell : Addr
  mC_NoCell : mg "NoCell" = some (.ref C_NoCell)
  x_NoCell : PySem.W.excIn K C_NoCell [.type "ValueError", .type "Exception", .type "BaseException", .type "object"] "ValueError.__new__" = true
  k_NoCell : PySem.W.keepIn K (.ref C_NoCell) = true
  b_NoCell : PySem.W.subIn K (.ref C_NoCell) (.type "BaseException") = some true
  t_NoCell : PySem.W.typeIn K (.ref C_NoCell) = some (.type "type")
  i_NoCell : PySem.W.isClsIn K C_NoCell = true
  C_NotFull : Addr
  mC_NotFull : mg "NotFull" = some (.ref C_NotFull)
  x_NotFull : PySem.W.excIn K C_NotFull [.type "ValueError", .type "Exception", .type "BaseException", .type "object"] "ValueError.__new__" = true
  k_NotFull : PySem.W.keepIn K (.ref C_NotFull) = true
  b_NotFull : PySem.W.subIn K (.ref C_NotFull) (.type "BaseException") = some true
  t_NotFull : PySem.W.typeIn K (.ref C_NotFull) = some (.type "type")
  i_NotFull : PySem.W.isClsIn K C_NotFull = true
  C_Taken : Addr
  mC_Taken : mg "Taken" = some (.ref C_Taken)
  x_Taken : PySem.W.excIn K C_Taken [.type "ValueError", .type "Exception", .type "BaseException", .type "object"] "ValueError.__new__" = true
  k_Taken : PySem.W.keepIn K (.ref C_Taken) = true
  b_Taken : PySem.W.subIn K (.ref C_Taken) (.type "BaseException") = some true
  t_Taken : PySem.W.typeIn K (.ref C_Taken) = some (.type "type")
  i_Taken : PySem.W.isClsIn K C_Taken = true
  C_Over : Addr
  mC_Over : mg "Over" = some (.ref C_Over)
  x_Over : PySem.W.excIn K C_Over [.type "ValueError", .type "Exception", .type "BaseException", .type "object"] "ValueError.__new__" = true
  k_Over : PySem.W.keepIn K (.ref C_Over) = true
  b_Over : PySem.W.subIn K (.ref C_Over) (.type "BaseException") = some true
  t_Over : PySem.W.typeIn K (.ref C_Over) = some (.type "type")
  i_Over : PySem.W.isClsIn K C_Over = true
  C_NoStone : Addr
  mC_NoStone : mg "NoStone" = some (.ref C_NoStone)
  x_NoStone : PySem.W.excIn K C_NoStone [.type "ValueError", .type "Exception", .type "BaseException", .type "object"] "ValueError.__new__" = true
  k_NoStone : PySem.W.keepIn K (.ref C_NoStone) = true
  b_NoStone : PySem.W.subIn K (.ref C_NoStone) (.type "BaseException") = some true
  t_NoStone : PySem.W.typeIn K (.ref C_NoStone) = some (.type "type")
  i_NoStone : PySem.W.isClsIn K C_NoStone = true
  C_TooMany : Addr
  mC_TooMany : mg "TooMany" = some (.ref C_TooMany)
  x_TooMany : PySem.W.excIn K C_TooMany [.type "ValueError", .type "Exception", .type "BaseException", .type "object"] "ValueError.__new__" = true
  k_TooMany : PySem.W.keepIn K (.ref C_TooMany) = true
  b_TooMany : PySem.W.subIn K (.ref C_TooMany) (.type "BaseException") = some true
  t_TooMany : PySem.W.typeIn K (.ref C_TooMany) = some (.type "type")
  i_TooMany : PySem.W.isClsIn K C_TooMany = true
  s_BadBoard_ShoreError : PySem.W.subIn K (.ref C_BadBoard) (.ref C_ShoreError) = some true
  s_BadBoard_BadBoard : PySem.W.subIn K (.ref C_BadBoard) (.ref C_BadBoard) = some true
  s_BadBoard_NoCell : PySem.W.subIn K (.ref C_BadBoard) (.ref C_NoCell) = some false
  s_BadBoard_NotFull : PySem.W.subIn K (.ref C_BadBoard) (.ref C_NotFull) = some false
  s_BadBoard_Taken : PySem.W.subIn K (.ref C_BadBoard) (.ref C_Taken) = some false
  s_BadBoard_Over : PySem.W.subIn K (.ref C_BadBoard) (.ref C_Over) = some false
  s_BadBoard_NoStone : PySem.W.subIn K (.ref C_BadBoard) (.ref C_NoStone) = some false
  s_BadBoard_TooMany : PySem.W.subIn K (.ref C_BadBoard) (.ref C_TooMany) = some false
  s_NoCell_ShoreError : PySem.W.subIn K (.ref C_NoCell) (.ref C_ShoreError) = some true
  s_NoCell_BadBoard : PySem.W.subIn K (.ref C_NoCell) (.ref C_BadBoard) = some false
  s_NoCell_NoCell : PySem.W.subIn K (.ref C_NoCell) (.ref C_NoCell) = some true
  s_NoCell_NotFull : PySem.W.subIn K (.ref C_NoCell) (.ref C_NotFull) = some false
  s_NoCell_Taken : PySem.W.subIn K (.ref C_NoCell) (.ref C_Taken) = some false
  s_NoCell_Over : PySem.W.subIn K (.ref C_NoCell) (.ref C_Over) = some false
  s_NoCell_NoStone : PySem.W.subIn K (.ref C_NoCell) (.ref C_NoStone) = some false
  s_NoCell_TooMany : PySem.W.subIn K (.ref C_NoCell) (.ref C_TooMany) = some false
  s_NotFull_ShoreError : PySem.W.subIn K (.ref C_NotFull) (.ref C_ShoreError) = some true
  s_NotFull_BadBoard : PySem.W.subIn K (.ref C_NotFull) (.ref C_BadBoard) = some false
  s_NotFull_NoCell : PySem.W.subIn K (.ref C_NotFull) (.ref C_NoCell) = some false
  s_NotFull_NotFull : PySem.W.subIn K (.ref C_NotFull) (.ref C_NotFull) = some true
  s_NotFull_Taken : PySem.W.subIn K (.ref C_NotFull) (.ref C_Taken) = some false
  s_NotFull_Over : PySem.W.subIn K (.ref C_NotFull) (.ref C_Over) = some false
  s_NotFull_NoStone : PySem.W.subIn K (.ref C_NotFull) (.ref C_NoStone) = some false
  s_NotFull_TooMany : PySem.W.subIn K (.ref C_NotFull) (.ref C_TooMany) = some false
  s_Taken_ShoreError : PySem.W.subIn K (.ref C_Taken) (.ref C_ShoreError) = some true
  s_Taken_BadBoard : PySem.W.subIn K (.ref C_Taken) (.ref C_BadBoard) = some false
  s_Taken_NoCell : PySem.W.subIn K (.ref C_Taken) (.ref C_NoCell) = some false
  s_Taken_NotFull : PySem.W.subIn K (.ref C_Taken) (.ref C_NotFull) = some false
  s_Taken_Taken : PySem.W.subIn K (.ref C_Taken) (.ref C_Taken) = some true
  s_Taken_Over : PySem.W.subIn K (.ref C_Taken) (.ref C_Over) = some false
  s_Taken_NoStone : PySem.W.subIn K (.ref C_Taken) (.ref C_NoStone) = some false
  s_Taken_TooMany : PySem.W.subIn K (.ref C_Taken) (.ref C_TooMany) = some false
  s_Over_ShoreError : PySem.W.subIn K (.ref C_Over) (.ref C_ShoreError) = some true
  s_Over_BadBoard : PySem.W.subIn K (.ref C_Over) (.ref C_BadBoard) = some false
  s_Over_NoCell : PySem.W.subIn K (.ref C_Over) (.ref C_NoCell) = some false
  s_Over_NotFull : PySem.W.subIn K (.ref C_Over) (.ref C_NotFull) = some false
  s_Over_Taken : PySem.W.subIn K (.ref C_Over) (.ref C_Taken) = some false
  s_Over_Over : PySem.W.subIn K (.ref C_Over) (.ref C_Over) = some true
  s_Over_NoStone : PySem.W.subIn K (.ref C_Over) (.ref C_NoStone) = some false
  s_Over_TooMany : PySem.W.subIn K (.ref C_Over) (.ref C_TooMany) = some false
  s_NoStone_ShoreError : PySem.W.subIn K (.ref C_NoStone) (.ref C_ShoreError) = some true
  s_NoStone_BadBoard : PySem.W.subIn K (.ref C_NoStone) (.ref C_BadBoard) = some false
  s_NoStone_NoCell : PySem.W.subIn K (.ref C_NoStone) (.ref C_NoCell) = some false
  s_NoStone_NotFull : PySem.W.subIn K (.ref C_NoStone) (.ref C_NotFull) = some false
  s_NoStone_Taken : PySem.W.subIn K (.ref C_NoStone) (.ref C_Taken) = some false
  s_NoStone_Over : PySem.W.subIn K (.ref C_NoStone) (.ref C_Over) = some false
  s_NoStone_NoStone : PySem.W.subIn K (.ref C_NoStone) (.ref C_NoStone) = some true
  s_NoStone_TooMany : PySem.W.subIn K (.ref C_NoStone) (.ref C_TooMany) = some false
  s_TooMany_ShoreError : PySem.W.subIn K (.ref C_TooMany) (.ref C_ShoreError) = some true
  s_TooMany_BadBoard : PySem.W.subIn K (.ref C_TooMany) (.ref C_BadBoard) = some false
  s_TooMany_NoCell : PySem.W.subIn K (.ref C_TooMany) (.ref C_NoCell) = some false
  s_TooMany_NotFull : PySem.W.subIn K (.ref C_TooMany) (.ref C_NotFull) = some false
  s_TooMany_Taken : PySem.W.subIn K (.ref C_TooMany) (.ref C_Taken) = some false
  s_TooMany_Over : PySem.W.subIn K (.ref C_TooMany) (.ref C_Over) = some false
  s_TooMany_NoStone : PySem.W.subIn K (.ref C_TooMany) (.ref C_NoStone) = some false
  s_TooMany_TooMany : PySem.W.subIn K (.ref C_TooMany) (.ref C_TooMany) = some true
  E_BadBoard : ExcC K C_BadBoard
  E_NoCell : ExcC K C_NoCell
  E_NotFull : ExcC K C_NotFull
  E_Taken : ExcC K C_Taken
  E_Over : ExcC K C_Over
  E_NoStone : ExcC K C_NoStone
  E_TooMany : ExcC K C_TooMany
  kit_BadBoard_BadBoard : PySem.W.kitOne K (.ref C_BadBoard) (.ref C_BadBoard) = some true
  kit_BadBoard_NoCell : PySem.W.kitOne K (.ref C_BadBoard) (.ref C_NoCell) = some false
  kit_BadBoard_NotFull : PySem.W.kitOne K (.ref C_BadBoard) (.ref C_NotFull) = some false
  kit_BadBoard_Taken : PySem.W.kitOne K (.ref C_BadBoard) (.ref C_Taken) = some false
  kit_BadBoard_Over : PySem.W.kitOne K (.ref C_BadBoard) (.ref C_Over) = some false
  kit_BadBoard_NoStone : PySem.W.kitOne K (.ref C_BadBoard) (.ref C_NoStone) = some false
  kit_BadBoard_TooMany : PySem.W.kitOne K (.ref C_BadBoard) (.ref C_TooMany) = some false
  kit_BadBoard_ShoreError : PySem.W.kitOne K (.ref C_BadBoard) (.ref C_ShoreError) = some true
  kit_BadBoard_ValueError : PySem.W.kitOne K (.ref C_BadBoard) (.type "ValueError") = some true
  kit_NoCell_BadBoard : PySem.W.kitOne K (.ref C_NoCell) (.ref C_BadBoard) = some false
  kit_NoCell_NoCell : PySem.W.kitOne K (.ref C_NoCell) (.ref C_NoCell) = some true
  kit_NoCell_NotFull : PySem.W.kitOne K (.ref C_NoCell) (.ref C_NotFull) = some false
  kit_NoCell_Taken : PySem.W.kitOne K (.ref C_NoCell) (.ref C_Taken) = some false
  kit_NoCell_Over : PySem.W.kitOne K (.ref C_NoCell) (.ref C_Over) = some false
  kit_NoCell_NoStone : PySem.W.kitOne K (.ref C_NoCell) (.ref C_NoStone) = some false
  kit_NoCell_TooMany : PySem.W.kitOne K (.ref C_NoCell) (.ref C_TooMany) = some false
  kit_NoCell_ShoreError : PySem.W.kitOne K (.ref C_NoCell) (.ref C_ShoreError) = some true
  kit_NoCell_ValueError : PySem.W.kitOne K (.ref C_NoCell) (.type "ValueError") = some true
  kit_NotFull_BadBoard : PySem.W.kitOne K (.ref C_NotFull) (.ref C_BadBoard) = some false
  kit_NotFull_NoCell : PySem.W.kitOne K (.ref C_NotFull) (.ref C_NoCell) = some false
  kit_NotFull_NotFull : PySem.W.kitOne K (.ref C_NotFull) (.ref C_NotFull) = some true
  kit_NotFull_Taken : PySem.W.kitOne K (.ref C_NotFull) (.ref C_Taken) = some false
  kit_NotFull_Over : PySem.W.kitOne K (.ref C_NotFull) (.ref C_Over) = some false
  kit_NotFull_NoStone : PySem.W.kitOne K (.ref C_NotFull) (.ref C_NoStone) = some false
  kit_NotFull_TooMany : PySem.W.kitOne K (.ref C_NotFull) (.ref C_TooMany) = some false
  kit_NotFull_ShoreError : PySem.W.kitOne K (.ref C_NotFull) (.ref C_ShoreError) = some true
  kit_NotFull_ValueError : PySem.W.kitOne K (.ref C_NotFull) (.type "ValueError") = some true
  kit_Taken_BadBoard : PySem.W.kitOne K (.ref C_Taken) (.ref C_BadBoard) = some false
  kit_Taken_NoCell : PySem.W.kitOne K (.ref C_Taken) (.ref C_NoCell) = some false
  kit_Taken_NotFull : PySem.W.kitOne K (.ref C_Taken) (.ref C_NotFull) = some false
  kit_Taken_Taken : PySem.W.kitOne K (.ref C_Taken) (.ref C_Taken) = some true
  kit_Taken_Over : PySem.W.kitOne K (.ref C_Taken) (.ref C_Over) = some false
  kit_Taken_NoStone : PySem.W.kitOne K (.ref C_Taken) (.ref C_NoStone) = some false
  kit_Taken_TooMany : PySem.W.kitOne K (.ref C_Taken) (.ref C_TooMany) = some false
  kit_Taken_ShoreError : PySem.W.kitOne K (.ref C_Taken) (.ref C_ShoreError) = some true
  kit_Taken_ValueError : PySem.W.kitOne K (.ref C_Taken) (.type "ValueError") = some true
  kit_Over_BadBoard : PySem.W.kitOne K (.ref C_Over) (.ref C_BadBoard) = some false
  kit_Over_NoCell : PySem.W.kitOne K (.ref C_Over) (.ref C_NoCell) = some false
  kit_Over_NotFull : PySem.W.kitOne K (.ref C_Over) (.ref C_NotFull) = some false
  kit_Over_Taken : PySem.W.kitOne K (.ref C_Over) (.ref C_Taken) = some false
  kit_Over_Over : PySem.W.kitOne K (.ref C_Over) (.ref C_Over) = some true
  kit_Over_NoStone : PySem.W.kitOne K (.ref C_Over) (.ref C_NoStone) = some false
  kit_Over_TooMany : PySem.W.kitOne K (.ref C_Over) (.ref C_TooMany) = some false
  kit_Over_ShoreError : PySem.W.kitOne K (.ref C_Over) (.ref C_ShoreError) = some true
  kit_Over_ValueError : PySem.W.kitOne K (.ref C_Over) (.type "ValueError") = some true
  kit_NoStone_BadBoard : PySem.W.kitOne K (.ref C_NoStone) (.ref C_BadBoard) = some false
  kit_NoStone_NoCell : PySem.W.kitOne K (.ref C_NoStone) (.ref C_NoCell) = some false
  kit_NoStone_NotFull : PySem.W.kitOne K (.ref C_NoStone) (.ref C_NotFull) = some false
  kit_NoStone_Taken : PySem.W.kitOne K (.ref C_NoStone) (.ref C_Taken) = some false
  kit_NoStone_Over : PySem.W.kitOne K (.ref C_NoStone) (.ref C_Over) = some false
  kit_NoStone_NoStone : PySem.W.kitOne K (.ref C_NoStone) (.ref C_NoStone) = some true
  kit_NoStone_TooMany : PySem.W.kitOne K (.ref C_NoStone) (.ref C_TooMany) = some false
  kit_NoStone_ShoreError : PySem.W.kitOne K (.ref C_NoStone) (.ref C_ShoreError) = some true
  kit_NoStone_ValueError : PySem.W.kitOne K (.ref C_NoStone) (.type "ValueError") = some true
  kit_TooMany_BadBoard : PySem.W.kitOne K (.ref C_TooMany) (.ref C_BadBoard) = some false
  kit_TooMany_NoCell : PySem.W.kitOne K (.ref C_TooMany) (.ref C_NoCell) = some false
  kit_TooMany_NotFull : PySem.W.kitOne K (.ref C_TooMany) (.ref C_NotFull) = some false
  kit_TooMany_Taken : PySem.W.kitOne K (.ref C_TooMany) (.ref C_Taken) = some false
  kit_TooMany_Over : PySem.W.kitOne K (.ref C_TooMany) (.ref C_Over) = some false
  kit_TooMany_NoStone : PySem.W.kitOne K (.ref C_TooMany) (.ref C_NoStone) = some false
  kit_TooMany_TooMany : PySem.W.kitOne K (.ref C_TooMany) (.ref C_TooMany) = some true
  kit_TooMany_ShoreError : PySem.W.kitOne K (.ref C_TooMany) (.ref C_ShoreError) = some true
  kit_TooMany_ValueError : PySem.W.kitOne K (.ref C_TooMany) (.type "ValueError") = some true
  tk_MOST : Tok
  g_MOST : mg "MOST" = some (.int 9 tk_MOST)
  tk_MOST_EMPTY : Tok
  g_MOST_EMPTY : mg "MOST_EMPTY" = some (.int 6 tk_MOST_EMPTY)
  z_len : mg "len" = none
  z_all : mg "all" = none
  z_list : mg "list" = none
  z_enumerate : mg "enumerate" = none
  z_range : mg "range" = none
  z_tuple : mg "tuple" = none
  z_any : mg "any" = none
  z_isinstance : mg "isinstance" = none
  z_ValueError : mg "ValueError" = none
end Sw
namespace Sw
open PySem PySem.Spec PyProof.Rows L2
section
variable {P : Program} {w : World} {K : PySem.W.Frag} {mg : Str → Option Value} {base : Heap}
/-! near -/
def sp_near : Sp := fun vs H Q _ => ∃ r c : Int, vs = [.int r, .int c] ∧ ∀ (p : Addr) (H' : Hp) (ws : List V), Same H H' → H p = none → H' p = some (.lst ws) → Cells H' ws (near6 (r, c)) → Q (.ref p) H'
theorem ok_near (T : Top K mg) : FnOk P w K mg base CX0 1 T.a_near T.d_near ["r", "c"] sp_near := by
  refine T.F_near.ok sc_near (fun vs H Q E h => ?_) (fun cdv A outer s H vs Q E hr h => ?_)
  · obtain ⟨_, _, rfl, _⟩ := h
    rfl
  obtain ⟨r, c, rfl, k⟩ := h
  refine ⟨_, (pss_one (ps_ret (pe_lst (pa_cons (pe_tup (pa_cons (pe_op op_sub (pv 0) pe_int) (pa_cons (pv 1) pa_nil))) (pa_cons (pe_tup (pa_cons (pe_op op_sub (pv 0) pe_int) (pa_cons (pe_op op_add (pv 1) pe_int) pa_nil))) (pa_cons (pe_tup (pa_cons (pv 0) (pa_cons (pe_op op_add (pv 1) pe_int) pa_nil))) (pa_cons (pe_tup (pa_cons (pe_op op_add (pv 0) pe_int) (pa_cons (pv 1) pa_nil))) (pa_cons (pe_tup (pa_cons (pe_op op_add (pv 0) pe_int) (pa_cons (pe_op op_sub (pv 1) pe_int) pa_nil))) (pa_cons (pe_tup (pa_cons (pv 0) (pa_cons (pe_op op_sub (pv 1) pe_int) pa_nil))) pa_nil))))))))), ?_⟩
  refine ⟨_, rfl, _, _, rfl, rfl, _, rfl, sz2, fun t1 h1 => ?_⟩
  refine ⟨_, rfl, _, _, rfl, rfl, _, rfl, _, _, rfl, rfl, sz2, fun t2 h2 => ?_⟩
  refine ⟨_, rfl, _, rfl, _, _, rfl, rfl, sz2, fun t3 h3 => ?_⟩
  refine ⟨_, rfl, _, _, rfl, rfl, _, rfl, sz2, fun t4 h4 => ?_⟩
  refine ⟨_, rfl, _, _, rfl, rfl, _, rfl, _, _, rfl, rfl, sz2, fun t5 h5 => ?_⟩
  refine ⟨_, rfl, _, rfl, _, _, rfl, rfl, sz2, fun t6 h6 => ?_⟩
  refine ⟨sz6, fun p hp => ?_⟩
  obtain ⟨_, ws, e, n, s, hl, hc⟩ := new_six (H := H) (r := r) (c := c) rfl rfl rfl rfl rfl rfl h1 h2 h3 h4 h5 h6 hp
  cases e
  exact k p _ ws s n hl hc
end
end Sw
namespace Sw
open PySem PySem.Spec PyProof.Rows L2
section
variable {P : Program} {w : World} {K : PySem.W.Frag} {mg : Str → Option Value} {base : Heap}
/-! board_right, Board -/
def sp_board_right : Sp := fun vs H Q _ => ∃ (a : Addr) (B : Bd), vs = [.ref a] ∧ H a = some (.lst (rowsV B)) ∧ Small B ∧ ∀ H', Same H H' → Q (.bl (Good B)) H'
theorem head_at {B : Bd} (h : B ≠ []) : ∃ r, B[0]? = some r ∧ r.length = wid B ∧ r ∈ B := by
  cases B with
  | nil => exact absurd rfl h
  | cons r B => exact ⟨r, rfl, rfl, List.mem_cons_self⟩
theorem all_take {α : Type} {p : α → Bool} {l : List α} {i : Nat} {x : α} (h : (l.take i).all p = true) (hx : l[i]? = some x) (hp : p x = true) : (l.take (i + 1)).all p = true := by
  rw [List.take_add_one, hx, List.all_append, h]
  simp [hp]
theorem get_txt {l : List Nat} {i : Nat} {c : Nat} (h : (txt l).cps[i]? = some c) : l[i]? = some c := by
  have : l.toArray[i]? = some c := h
  rw [List.getElem?_toArray] at this
  exact this
theorem txt_size (l : List Nat) : (txt l).cps.size = l.length := by show l.toArray.size = l.length; exact List.size_toArray
theorem take_map_snoc {α β : Type} {f : α → β} {l : List α} {i : Nat} {x : α} (h : l[i]? = some x) : (l.take (i + 1)).map f = (l.take i).map f ++ [f x] := by
  rw [List.take_add_one, h, List.map_append]
  rfl
theorem len_take_lt {α β : Type} {f : α → β} {l : List α} {i n : Nat} (h : l.length ≤ n) : ((l.take i).map f).length ≤ n := by
  rw [List.length_map, List.length_take]
  omega
theorem ok_board_right (T : Top K mg) : FnOk P w K mg base CX0 1 T.a_board_right T.d_board_right ["rows"] sp_board_right := by
  refine T.F_board_right.ok sc_board_right (fun vs H Q E h => ?_) (fun cdv A outer s H vs Q E hr h => ?_)
  · obtain ⟨_, _, rfl, _⟩ := h
    rfl
  obtain ⟨a, B, rfl, ha, hB, q⟩ := h
  refine ⟨_, (pss_cons (ps_if (PW.pt (pw_or (pt_not (pt_chain op_le op_le pe_int (pe_callB call_len_seq (by rfl) T.z_len PySem.boot_len (pa_cons (pv 0) pa_nil)) (pe_glob (v := .int 9) rfl T.g_MOST ⟨_, rfl⟩))) (pw_or1 (pt_not (pt_chain op_le op_le pe_int (pe_callB call_len_str (by rfl) T.z_len PySem.boot_len (pa_cons (pe_ix ix_list (pv 0) pe_int (fun _ _ => rfl)) pa_nil)) (pe_glob (v := .int 9) rfl T.g_MOST ⟨_, rfl⟩))))))
      (pss_one (ps_ret pe_bl)) pss_nil)
      (pss_cons (ps_for PassesOwn.never rfl (pi_list (pv 0)) (pg_name (i := 1) sc_board_right.nd rfl (Or.inl rfl))
      (pss_one (ps_if (PW.pt (pw_or (pt_cmpR op_ne (pe_callB call_len_str (by rfl) T.z_len PySem.boot_len (pa_cons (pv 1) pa_nil)) (pe_callB call_len_str (by rfl) T.z_len PySem.boot_len (pa_cons (pe_ix ix_list (pv 0) pe_int (fun _ _ => rfl)) pa_nil)) (nomark _)) (pw_or1 (pt_not (pt_val (pe_callB (cr_all rfl) (by rfl) T.z_all (by decide +kernel) (pa_cons (pe_lc (own := [("letter", 2)]) (g := gName 2) (tt := tYes) rfl sc_board_right.nd (pi_str (pv 1)) (blkOk_by (own := [("letter", 2)]) (N := N_board_right) (sc := defScope s_board_right) (by decide +kernel)) (fun _ _ _ _ _ => (pg_name (i := 2) sc_board_right.nd rfl (Or.inl rfl))) (fun _ _ _ _ _ => pts_nil) (fun _ _ _ _ _ => (pe_cmpR op_in_sign (pv 2) pe_str rfl))) pa_nil)))))))
      (pss_one (ps_ret pe_bl)) pss_nil)))
      (pss_one (ps_ret pe_bl)))), ?_⟩
  have hl := rowsV_len B
  have no : ¬ (1 ≤ B.length ∧ B.length ≤ 9) → Good B = false := fun z => by
    unfold Good
    rw [decide_eq_false z]
    rfl
  -- 1 <= len(rows) <= 9
  refine ⟨_, rfl, a, _, rfl, .inl (SqL.of ha), _, _, rfl, rfl, _, rfl, ?_⟩
  refine iteD (fun c1 => ?_) (fun c1 => ?_)
  rotate_left
  · refine ⟨_, rfl, iteT ?_⟩
    have q' := q _ (.refl _)
    rw [no (by omega)] at q'
    exact q'
  refine ⟨_, _, rfl, rfl, _, rfl, ?_⟩
  refine iteN (fun c2 => ?_) (fun c2 => ?_)
  · have q' := q _ (.refl _)
    rw [no (by omega)] at q'
    exact q'
  -- 1 <= len(rows[0]) <= 9
  obtain ⟨r0, e0, l0, m0⟩ := head_at (B := B) (by intro z; have : B.length = 0 := (by rw [z]; rfl); omega)
  have s0 := hB.row _ m0
  have no2 : ¬ (1 ≤ wid B ∧ wid B ≤ 9) → Good B = false := fun z => by
    unfold Good
    rw [decide_eq_false z, Bool.false_and, Bool.and_false]
  have tl : (txt r0).length = wid B := by rw [txt_len, l0]
  refine ⟨_, rfl, a, _, _, _, rfl, rfl, SqL.of ha, atI_nat (j := 0) (rowsV_get e0), _, rfl, sz_le (by rw [txt_len]; omega), _, _, rfl, rfl, _, rfl, ?_⟩
  refine iteD (fun c3 => ?_) (fun c3 => ?_)
  rotate_left
  · refine ⟨_, rfl, iteT ?_⟩
    have q' := q _ (.refl _)
    rw [no2 (by omega)] at q'
    exact q'
  refine ⟨_, _, rfl, rfl, _, rfl, ?_⟩
  refine iteN (fun c4 => ?_) (fun c4 => ?_)
  · have q' := q _ (.refl _)
    rw [no2 (by omega)] at q'
    exact q'
  have yes : Good B = B.all (rowOk (wid B)) := by
    unfold Good
    rw [decide_eq_true (show 1 ≤ B.length ∧ B.length ≤ 9 by omega), decide_eq_true (show 1 ≤ wid B ∧ wid B ≤ 9 by omega), Bool.true_and, Bool.true_and]
  -- the rows
  refine ⟨_, rfl, a, rfl, ⟨_, SqL.of ha⟩, for_list (K := K) (a := a) (xs := rowsV B) (fun i σ H' => Same H H' ∧ (B.take i).all (rowOk (wid B)) = true ∧ ∃ v w, σ = [some (.ref a), v, w])
    ⟨.refl _, rfl, none, none, rfl⟩ (fun i σ H' _ ⟨e, _⟩ => SqL.of (e _ _ ha)) ?_ ?_⟩
  · rintro i x σ H1 hi ⟨s1, al, v, w, rfl⟩
    obtain ⟨r, er, rfl⟩ := rowsV_inv hi
    have mr : r ∈ B := List.mem_of_getElem? er
    have sr := hB.row _ mr
    have bad : rowOk (wid B) r = false → Good B = false := fun z => by
      rw [yes]
      rw [Bool.eq_false_iff]
      intro t
      rw [List.all_eq_true] at t
      rw [t r mr] at z
      cases z
    refine ⟨_, rfl, _, rfl, sz_le (by rw [txt_len]; omega), _, rfl, a, _, _, _, rfl, rfl, SqL.of (s1 _ _ ha), atI_nat (j := 0) (rowsV_get e0), _, rfl, sz_le (by rw [txt_len]; omega), rfl, _, rfl, ?_⟩
    refine iteN (fun c5 => ?_) (fun c5 => ?_)
    · refine iteT ?_
      have q' := q _ s1
      rw [bad (by
        unfold rowOk
        rw [decide_eq_false (fun z => c5 (by rw [txt_len, txt_len, z, l0])), Bool.false_and])] at q'
      exact q'
    have c5' : r.length = wid B := by
      have e : (((txt r).length : Nat) : Int) = (((txt r0).length : Nat) : Int) := V.int.inj c5
      rw [txt_len, txt_len] at e
      omega
    -- all([letter in 'nw.' for letter in row])
    refine ⟨_, rfl, _, rfl, fun D hD => lc_it walk_str (fun j H' => Same H1 H' ∧ H' D = some (.lst (((r.take j).map okc).map V.bl))) ⟨same_new hD _, upd_same⟩ (fun _ _ _ _ => trivial) (fun j x H2 H3 hj ⟨s2, h2⟩ ⟨e3, c, ec, ex⟩ => ?_) (fun H2 ⟨s2, h2⟩ => ?_)⟩
    · subst e3 ex
      have ec' := get_txt ec
      refine ⟨rfl, _, rfl, c, _, rfl, rfl, _, h2, sz_lt (by rw [List.length_map, List.length_map, List.length_take]; omega), same_mut s2 hD, ?_⟩
      have ek : decide (c ∈ (Str.ofString "nw.").cps.toList) = okc c := by
        rw [s_nwd]
        rfl
      rw [ek, upd_same, take_map_snoc ec', List.map_append]
      rfl
    · rw [txt_size, List.take_length] at h2
      refine ⟨_, _, rfl, SqL.of h2, _, rfl, ?_⟩
      have ea : (r.map okc).all id = r.all okc := by rw [List.all_map]; rfl
      rw [ea]
      refine iteNB (fun c6 => ?_) (fun c6 => ?_)
      · have q' := q _ (s1.trans s2)
        rw [bad (by
          unfold rowOk
          rw [c6, Bool.and_false])] at q'
        exact q'
      · refine ⟨s1.trans s2, all_take al er ?_, _, _, rfl⟩
        unfold rowOk
        rw [decide_eq_true c5', c6]
        rfl
  · rintro σ H1 ⟨s1, al, v, w, rfl⟩
    have q' := q _ s1
    rw [rowsV_len, List.take_length] at al
    rw [yes, al] at q'
    exact q'
/-- Board(rows): the rows are looked at, then kept in a new list -/
def sp_Board_init (C CB : Addr) : Sp := fun vs H Q E => ∃ (p dx a : Addr) (B : Bd), vs = [.ref p, .ref a] ∧ H p = some (.ins C dx []) ∧ H a = some (.lst (rowsV B)) ∧ Small B ∧
  (Good B = false → ∀ H', Same H H' → E (.ref CB) none H') ∧
  (Good B = true → ∀ (H' : Hp) (l : Addr), (∀ b o, H b = some o → b ≠ p → H' b = some o) → H l = none → BoardAt C H' p l B → Q .non H')
theorem ok_Board_init (T : Top K mg) : FnOk P w K mg base (L2.CX P w) 2 T.a_Board___init__ T.d_Board___init__ ["self", "rows"] (sp_Board_init T.C_Board T.C_BadBoard) := by
  refine T.F_Board___init__.okX sc_Board___init__ (fun vs H Q E h => ?_) (fun cdv A outer s H vs Q E hr h => ?_)
  · obtain ⟨_, _, _, _, rfl, _⟩ := h
    rfl
  obtain ⟨p, dx, a, B, rfl, hp, ha, hB, qb, qg⟩ := h
  refine ⟨_, (pss_cons (ps_if (pt_not (pt_val (pe_call (ok_board_right T) (hr.mono (by decide)) rfl T.m_board_right T.F_board_right.kp T.B_board_right .nil pass0 (pa_cons (pv 1) pa_nil))))
      (pss_one (ps_raise rfl (takes_of rfl rfl rfl rfl) (pmk_own PySem.F.excBase_ValueError T.x_BadBoard T.mC_BadBoard T.k_BadBoard (raises_own T.b_BadBoard T.t_BadBoard) rfl))) pss_nil)
      (pss_cons (ps_fld (pv 0) (pe_callTy call_list_of (by rfl) T.z_list (by decide +kernel) (pa_cons (pv 1) pa_nil)) rfl)
      (pss_cons (ps_fld (pv 0) (pe_callB call_len_seq (by rfl) T.z_len PySem.boot_len (pa_cons (pv 1) pa_nil)) rfl)
      (pss_one (ps_fld (pv 0) (pe_callB call_len_str (by rfl) T.z_len PySem.boot_len (pa_cons (pe_ix ix_list (pv 1) pe_int (fun _ _ => rfl)) pa_nil)) rfl))))), ?_⟩
  refine ⟨_, rfl, a, B, rfl, ha, hB, fun H1 s1 => ?_⟩
  refine ⟨_, rfl, iteNB (fun c => ?_) (fun c => ?_)⟩
  · exact qb c _ s1
  -- self.rows = list(rows)
  obtain ⟨r0, e0, l0, m0⟩ := head_at (B := B) (by
    have := (good_is c).h1
    intro z
    rw [z] at this
    exact absurd this (by decide))
  have hp1 := s1 _ _ hp
  have ha1 := s1 _ _ ha
  refine ⟨_, rfl, a, _, rfl, .inl (SqL.of ha1), fun l hl => ?_⟩
  have npl : p ≠ l := ne_of_none hp1 hl
  have nal : a ≠ l := ne_of_none ha1 hl
  have npa : a ≠ p := ne_of ha1 hp1 (by intro z; cases z)
  refine ⟨_, rfl, p, T.C_Board, dx, [], rfl, (by rw [upd_ne npl]; exact hp1), T.cl_Board, T.n_Board_rows, (by show 0 < 1000; decide), ?_⟩
  have ha2 : ∀ o, upd (upd H1 l (.lst (rowsV B))) p o a = some (.lst (rowsV B)) := fun o => by rw [upd_ne npa, upd_ne nal]; exact ha1
  have ha3 : ∀ o u, upd (upd (upd H1 l (.lst (rowsV B))) p o) p u a = some (.lst (rowsV B)) := fun o u => by rw [upd_ne npa]; exact ha2 o
  -- self.height = len(rows); self.width = len(rows[0])
  refine ⟨_, rfl, a, _, rfl, .inl (SqL.of (ha2 _)), _, rfl, p, T.C_Board, dx, _, rfl, upd_same, T.cl_Board, T.n_Board_height, (by show 1 < 1000; decide), ?_⟩
  refine ⟨_, rfl, a, _, _, _, rfl, rfl, SqL.of (ha3 _ _), atI_nat (j := 0) (rowsV_get e0), _, rfl, sz_le (by rw [txt_len]; have := hB.row _ m0; omega), _, rfl, p, T.C_Board, dx, _, rfl, upd_same, T.cl_Board, T.n_Board_width, ?_, ?_⟩
  · show List.length (putF "height" (.int ((rowsV B).length : Int)) [("rows", .ref l)]) < 1000
    rw [pt_p (by decide +kernel)]
    show 2 < 1000
    decide
  refine qg c _ l (fun b o hb nb => ?_) (s1.free hl) ⟨⟨dx, ?_⟩, ?_⟩
  · rw [upd_ne nb, upd_ne nb, upd_ne nb, upd_ne (ne_of_none (s1 _ _ hb) hl)]
    exact s1 _ _ hb
  · rw [upd_same]
    refine congrArg (fun z => some (HO.ins T.C_Board dx z)) ?_
    rw [rowsV_len, txt_len, l0]
    exact bfl_new l B.length (wid B)
  · rw [upd_ne npl.symm, upd_ne npl.symm, upd_ne npl.symm, upd_same]
/-- what follows of Board(..): the new board, all else as it was -/
theorem made_board {C p dx : Addr} {H H' : Hp} (hp : H p = none) (hd : H dx = none) (k : ∀ b o, upd (upd H dx (.own p)) p (.ins C dx []) b = some o → b ≠ p → H' b = some o) : Same H H' := fun b o e =>
  k b o (by rw [upd_ne (ne_of_none e hp), upd_ne (ne_of_none e hd)]; exact e) (ne_of_none e hp)
/-- Board(e) where e is worth a list of good rows -/
theorem make_board {C CB : Addr} {t : TA} {σ : L2.St} {H : Hp} {Q : VK} {B : Bd} {h w : Nat} (I : IsB B h w)
    (ht : ∀ R : List V → Hp → Prop, (∀ (n : Addr) (H1 : Hp), Same H H1 → H1 n = some (.lst (rowsV B)) → R [.ref n] H1) → t σ H R)
    (k : ∀ (o l : Addr) (H' : Hp), Same H H' → H o = none → H l = none → BoardAt C H' o l B → Q (.ref o) H') : tMake C (sp_Board_init C CB) [] E0 t σ H Q := by
  refine ht _ fun n H1 s1 hn o d no nd ndo => ?_
  have so := ((same_new nd (.own o)).trans (same_new (by rw [upd_ne (Ne.symm ndo)]; exact no) (.ins C d [])))
  refine ⟨o, d, n, _, rfl, upd_same, so _ _ hn, I.small, fun hb => ?_, fun _ H5 l5 k5 n5 b5 => ⟨rfl, ?_⟩⟩
  · rw [I.good] at hb
    cases hb
  · exact k o l5 H5 (s1.trans (made_board no nd k5)) (s1.free no) ((s1.trans so).free n5) b5
theorem q_make {C CB : Addr} {i : Nat} {t : TA} {tz : TS} {D : Ends} {σ : L2.St} {H : Hp} {B : Bd} {h w : Nat} (I : IsB B h w)
    (ht : ∀ R : List V → Hp → Prop, (∀ (n : Addr) (H1 : Hp), Same H H1 → H1 n = some (.lst (rowsV B)) → R [.ref n] H1) → t σ H R)
    (k : ∀ (o l : Addr) (H' : Hp), Same H H' → H o = none → H l = none → BoardAt C H' o l B → tz D (σ.set i (some (.ref o))) H') : tSeq (tAsg (tMake C (sp_Board_init C CB) [] E0 t) (gName i)) tz D σ H :=
  make_board (Q := fun v H1 => tz D (σ.set i (some v)) H1) I ht k
end
end Sw
namespace Sw
open PySem PySem.Spec PyProof.Rows L2
section
variable {P : Program} {w : World} {K : PySem.W.Frag} {mg : Str → Option Value} {base : Heap}
/-! has, sign, laid, other, turned_over, empty -/
theorem join_txt : ∀ l : List Nat, Txt.join (txt []) (l.map fun c => txt [c]) = txt l := by
  intro l
  show Builtin.Str.glued _ _ = _
  rw [PySem.StrLaws.glued_eq_join]
  induction l with
  | nil => rfl
  | cons a l ih =>
    cases l with
    | nil => rfl
    | cons b l =>
      rw [List.map_cons, List.map_cons]
      show txt [a] ++ txt [] ++ Str.join (txt []) (txt [b] :: l.map fun c => txt [c]) = _
      rw [← List.map_cons (f := fun c => txt [c]), ih, txt_app, txt_app]
      rfl
def sp_has (C : Addr) : Sp := fun vs H Q _ => ∃ (p l : Addr) (B : Bd) (h w : Nat) (r c : Int), vs = [.ref p, .int r, .int c] ∧ BoardAt C H p l B ∧ IsB B h w ∧ Q (.bl (decide (Ins h w (r, c)))) H
theorem ok_Board_has (T : Top K mg) : FnOk P w K mg base CX0 1 T.a_Board_has T.d_Board_has ["self", "r", "c"] (sp_has T.C_Board) := by
  refine T.F_Board_has.ok sc_Board_has (fun vs H Q E h => ?_) (fun cdv A outer s H vs Q E hr h => ?_)
  · obtain ⟨_, _, _, _, _, _, _, rfl, _⟩ := h
    rfl
  obtain ⟨p, l, B, h, w, r, c, rfl, ⟨⟨dx, hp⟩, hl⟩, I, q⟩ := h
  rw [I.hh, I.wid] at hp
  refine ⟨_, (pss_one (ps_ret (pe_and (pe_chain op_le op_lt pe_int (pv 1) (pe_fld (pv 0) rfl)) (pe_one (pe_chain op_le op_lt pe_int (pv 2) (pe_fld (pv 0) rfl)))))), ?_⟩
  have no : ¬ Ins h w (r, c) → Q (.bl false) H := fun z => by
    rw [decide_eq_false z] at q
    exact q
  refine ⟨_, rfl, _, _, rfl, rfl, _, rfl, ?_⟩
  refine iteD (fun c1 => ?_) (fun c1 => ⟨_, rfl, iteF (no fun z => c1 z.1)⟩)
  refine ⟨_, rfl, p, _, dx, _, _, rfl, hp, T.cl_Board, T.n_Board_height, bfl_height _ _ _, _, _, rfl, rfl, _, rfl, ?_⟩
  refine iteD (fun c2 => ?_) (fun c2 => no fun z => c2 z.2.1)
  refine ⟨_, rfl, _, _, rfl, rfl, _, rfl, ?_⟩
  refine iteD (fun c3 => ?_) (fun c3 => no fun z => c3 z.2.2.1)
  refine ⟨_, rfl, p, _, dx, _, _, rfl, hp, T.cl_Board, T.n_Board_width, bfl_width _ _ _, _, _, rfl, rfl, ?_⟩
  by_cases c4 : c < (w : Int)
  · rw [decide_eq_true (show Ins h w (r, c) from ⟨c1, c2, c3, c4⟩)] at q
    show Q (.bl (decide (c < (w : Int)))) H
    rw [decide_eq_true c4]
    exact q
  · show Q (.bl (decide (c < (w : Int)))) H
    rw [decide_eq_false c4]
    exact no fun z => c4 z.2.2.2
def sp_sign (C CN : Addr) : Sp := fun vs H Q E => ∃ (p l : Addr) (B : Bd) (h w : Nat) (r c : Int), vs = [.ref p, .int r, .int c] ∧ BoardAt C H p l B ∧ IsB B h w ∧
  (¬ Ins h w (r, c) → E (.ref CN) none H) ∧ (Ins h w (r, c) → Q (.str (txt [cel B (r, c)])) H)
theorem ok_sign (T : Top K mg) : FnOk P w K mg base (L2.CX P w) 2 T.a_sign T.d_sign ["board", "r", "c"] (sp_sign T.C_Board T.C_NoCell) := by
  refine T.F_sign.okX sc_sign (fun vs H Q E h => ?_) (fun cdv A outer s H vs Q E hr h => ?_)
  · obtain ⟨_, _, _, _, _, _, _, rfl, _⟩ := h
    rfl
  obtain ⟨p, l, B, h, w, r, c, rfl, bt, I, qe, qs⟩ := h
  refine ⟨_, (pss_cons (ps_if (pt_not (pt_val (pe_meth (pv 0) T.cl_Board T.M_Board_has (ok_Board_has T) (hr.mono (by decide)) T.B_Board_has .nil pass0 (pa_cons (pv 1) (pa_cons (pv 2) pa_nil)))))
      (pss_one (ps_raise rfl (takes_of rfl rfl rfl rfl) (pmk_own PySem.F.excBase_ValueError T.x_NoCell T.mC_NoCell T.k_NoCell (raises_own T.b_NoCell T.t_NoCell) rfl))) pss_nil)
      (pss_one (ps_ret (pe_ix ix_str (pe_ix ix_list (pe_fld (pv 0) rfl) (pv 1) (fun _ _ => rfl)) (pv 2) (fun _ _ => rfl))))), ?_⟩
  obtain ⟨⟨dx, hp⟩, hl⟩ := id bt
  refine ⟨_, rfl, p, dx, _, rfl, hp, bfl_has _ _ _, _, rfl, _, rfl, p, l, B, h, w, r, c, rfl, bt, I, _, rfl, ?_⟩
  refine iteN (fun z => qe z) (fun z => ?_)
  obtain ⟨row, er, _, _, ec, _⟩ := I.at z
  refine ⟨_, rfl, p, _, dx, _, _, rfl, hp, T.cl_Board, T.n_Board_rows, bfl_rows _ _ _, _, rfl, l, _, _, _, rfl, rfl, SqL.of hl, at_int z.1 (rowsV_get er), _, rfl, _, _, _, rfl, rfl, ?_, ?_, qs z⟩
  · rw [txt_len]
    have := I.small.row _ (List.mem_of_getElem? er)
    exact sz_le (by omega)
  · exact atI_cps z.2.2.1 ec
end
end Sw
namespace Sw
open PySem PySem.Spec PyProof.Rows L2
section
variable {P : Program} {w : World} {K : PySem.W.Frag} {mg : Str → Option Value} {base : Heap}
theorem sg_eq {x y : Nat} : V.str (txt [x]) = V.str (txt [y]) ↔ x = y := by
  constructor
  · intro h
    have := txt_inj (V.str.inj h)
    exact (List.cons.inj this).1
  · intro h
    rw [h]
def sp_laid (C CN : Addr) : Sp := fun vs H Q E => ∃ (p l : Addr) (B : Bd) (h w : Nat) (r c : Int) (x : Nat), vs = [.ref p, .int r, .int c, .str (txt [x])] ∧ BoardAt C H p l B ∧ IsB B h w ∧ (x = 110 ∨ x = 119 ∨ x = 46) ∧
  (¬ Ins h w (r, c) → E (.ref CN) none H) ∧ (Ins h w (r, c) → ∀ (p' l' : Addr) (H' : Hp), Same H H' → H p' = none → BoardAt C H' p' l' (putB B (r, c) x) → Q (.ref p') H')
theorem ok_laid (T : Top K mg) : FnOk P w K mg base (L2.CX P w) 5 T.a_laid T.d_laid ["board", "r", "c", "hand"] (sp_laid T.C_Board T.C_NoCell) := by
  refine T.F_laid.okX sc_laid (fun vs H Q E h => ?_) (fun cdv A outer s H vs Q E hr h => ?_)
  · obtain ⟨_, _, _, _, _, _, _, _, rfl, _⟩ := h
    rfl
  obtain ⟨p, l, B, h, w, r, c, x, rfl, bt, I, hx, qe, qs⟩ := h
  refine ⟨_, (pss_cons (ps_if (pt_not (pt_val (pe_meth (pv 0) T.cl_Board T.M_Board_has (ok_Board_has T) (hr.mono (by decide)) T.B_Board_has .nil pass0 (pa_cons (pv 1) (pa_cons (pv 2) pa_nil)))))
      (pss_one (ps_raise rfl (takes_of rfl rfl rfl rfl) (pmk_own PySem.F.excBase_ValueError T.x_NoCell T.mC_NoCell T.k_NoCell (raises_own T.b_NoCell T.t_NoCell) rfl))) pss_nil)
      (pss_cons (ps_set (i := 4) sc_laid.nd rfl (Or.inl rfl) (pe_callTy call_list_of (by rfl) T.z_list (by decide +kernel) (pa_cons (pe_fld (pv 0) rfl) pa_nil)))
      (pss_cons (ps_asg (pe_op op_add_str (pe_op op_add_str (pe_slice sl_str (pe_ix ix_list (pv 4) (pv 1) (fun _ _ => rfl)) po_none (po_some (pv 2))) (pv 3)) (pe_slice sl_str (pe_ix ix_list (pv 4) (pv 1) (fun _ _ => rfl)) (po_some (pe_op op_add (pv 2) pe_int)) po_none)) (pg_sub (pv 4) (pv 1) set_list))
      (pss_one (ps_ret (pe_make T.Mk_Board (ok_Board_init T) (hr.mono (by decide)) (by rfl) T.mC_Board T.B_Board___init__ .nil passL (pa_cons (pv 4) pa_nil))))))), ?_⟩
  obtain ⟨⟨dx, hp⟩, hl⟩ := id bt
  refine ⟨_, rfl, p, dx, _, rfl, hp, bfl_has _ _ _, _, rfl, _, rfl, p, l, B, h, w, r, c, rfl, bt, I, _, rfl, ?_⟩
  refine iteN (fun z => qe z) (fun z => ?_)
  obtain ⟨row, er, mr, lr, ec, _⟩ := I.at z
  have z1 := z.1
  have z2 := z.2.1
  have z3 := z.2.2.1
  have z4 := z.2.2.2
  have ltr : (txt row).length = w := by rw [txt_len, lr]
  have w9 := I.w9
  -- rows = list(board.rows)
  refine ⟨_, rfl, p, _, dx, _, _, rfl, hp, T.cl_Board, T.n_Board_rows, bfl_rows _ _ _, l, _, rfl, .inl (SqL.of hl), fun n hn => ?_⟩
  have s1 := same_new hn (.lst (rowsV B))
  have hn1 : upd H n (.lst (rowsV B)) n = some (.lst (rowsV B)) := upd_same
  have atr : atI (rowsV B) r = some (rowV row) := at_int z1 (rowsV_get er)
  -- rows[r] = rows[r][:c] + hand + rows[r][c + 1:]
  refine ⟨_, rfl, _, rfl, n, _, _, _, rfl, rfl, SqL.of hn1, atr, _, rfl, _, rfl, _, rfl, sz_le (by omega), ?_⟩
  rw [cutS_to z3 (by rw [lr]; omega)]
  refine ⟨_, rfl, _, _, rfl, rfl, ?_, _, rfl, _, rfl, n, _, _, _, rfl, rfl, SqL.of hn1, atr, _, rfl, _, _, rfl, rfl, _, rfl, _, rfl, sz_le (by omega), ?_⟩
  · rw [txt_len, txt_len, List.length_take]
    exact sz_le (by show _ + 1 ≤ 1000000; omega)
  rw [cutS_from (by omega) (by rw [lr]; omega), txt_app]
  refine ⟨_, _, rfl, rfl, ?_, ?_⟩
  · rw [txt_len, txt_len, List.length_append, List.length_take, List.length_drop]
    exact sz_le (by show _ + 1 + _ ≤ 1000000; omega)
  have etx : row.take c.toNat ++ [x] ++ row.drop (c + 1).toNat = row.set c.toNat x := by
    rw [show (c + 1).toNat = c.toNat + 1 by omega]
    exact set_take_drop row c.toNat x (by omega)
  rw [txt_app, etx]
  refine ⟨_, rfl, _, rfl, n, _, _, r.toNat, rfl, rfl, hn1, ?_, ?_⟩
  · show ixN (rowsV B).length r = some r.toNat
    unfold ixN
    rw [if_pos z1, if_pos (by rw [rowsV_len, I.hh]; exact z2)]
  have eset : (rowsV B).set r.toNat (.str (txt (row.set c.toNat x))) = rowsV (putB B (r, c) x) := by
    rw [putB_eq (p := (r, c)) er]
    unfold rowsV
    rw [List.map_set]
    rfl
  have nlp : p ≠ n := ne_of_none hp hn
  have s2 : Same H (upd (upd H n (.lst (rowsV B))) n (.lst ((rowsV B).set r.toNat (.str (txt (row.set c.toNat x)))))) := same_mut s1 hn
  rw [eset] at s2 ⊢
  have hn2 : upd (upd H n (.lst (rowsV B))) n (.lst (rowsV (putB B (r, c) x))) n = some (.lst (rowsV (putB B (r, c) x))) := upd_same
  revert s2 hn2
  generalize upd (upd H n (.lst (rowsV B))) n (.lst (rowsV (putB B (r, c) x))) = H2
  intro s2 hn2
  have I2 := putB_is I (r, c) hx
  -- return Board(rows)
  refine ⟨_, rfl, fun o d no nd ndo => ?_⟩
  have so := ((same_new nd (.own o)).trans (same_new (by rw [upd_ne (Ne.symm ndo)]; exact no) (.ins T.C_Board d [])))
  refine ⟨o, d, n, _, rfl, upd_same, so _ _ hn2, I2.small, fun hb => ?_, fun _ H5 l5 k5 n5 b5 => ⟨rfl, ?_⟩⟩
  · rw [I2.good] at hb
    cases hb
  · exact qs z o l5 H5 (s2.trans (made_board no nd k5)) (s2.free no) b5
def sp_other : Sp := fun vs H Q _ => ∃ x : Nat, vs = [.str (txt [x])] ∧ Q (.str (txt [oth x])) H
theorem ok_other (T : Top K mg) : FnOk P w K mg base CX0 1 T.a_other T.d_other ["letter"] sp_other := by
  refine T.F_other.ok sc_other (fun vs H Q E h => ?_) (fun cdv A outer s H vs Q E hr h => ?_)
  · obtain ⟨_, rfl, _⟩ := h
    rfl
  obtain ⟨x, rfl, q⟩ := h
  refine ⟨_, (pss_cons (ps_if (pt_cmpR op_eq (pv 0) pe_str (nomark _))
      (pss_one (ps_ret pe_str)) pss_nil)
      (pss_cons (ps_if (pt_cmpR op_eq (pv 0) pe_str (nomark _))
      (pss_one (ps_ret pe_str)) pss_nil)
      (pss_one (ps_ret (pv 0))))), ?_⟩
  unfold oth at q
  rw [s_n, s_w]
  refine ⟨_, rfl, rfl, _, rfl, iteD (fun e => ?_) (fun e => ?_)⟩
  · rw [if_pos (sg_eq.mp e)] at q
    exact q
  · rw [if_neg (fun z => e (sg_eq.mpr z))] at q
    refine ⟨_, rfl, rfl, _, rfl, iteD (fun e2 => ?_) (fun e2 => ?_)⟩
    · rw [if_pos (sg_eq.mp e2)] at q
      exact q
    · rw [if_neg (fun z => e2 (sg_eq.mpr z))] at q
      exact ⟨_, rfl, q⟩
def sp_empty (C : Addr) : Sp := fun vs H Q _ => ∃ (p l : Addr) (B : Bd) (h w : Nat), vs = [.ref p] ∧ BoardAt C H p l B ∧ IsB B h w ∧ ∀ v H', NewCells H (emptyL B) v H' → Q v H'
theorem ok_empty (T : Top K mg) : FnOk P w K mg base CX0 1 T.a_empty T.d_empty ["board"] (sp_empty T.C_Board) := by
  refine T.F_empty.ok sc_empty (fun vs H Q E h => ?_) (fun cdv A outer s H vs Q E hr h => ?_)
  · obtain ⟨_, _, _, _, _, rfl, _⟩ := h
    rfl
  obtain ⟨p, l, B, h, w, rfl, ⟨⟨dx, hp⟩, hl⟩, I, q⟩ := h
  rw [I.hh, I.wid] at hp
  refine ⟨_, (pss_cons (ps_set (i := 1) sc_empty.nd rfl (Or.inl rfl) (pe_lst pa_nil))
      (pss_cons (ps_for PassesOwn.never rfl (pi_enum (by rfl) T.z_enumerate (pa_cons (pe_fld (pv 0) rfl) pa_nil)) (pg_tup rfl (pgs_cons (pg_name (i := 2) sc_empty.nd rfl (Or.inr rfl)) (pgs_cons (pg_name (i := 3) sc_empty.nd rfl (Or.inl rfl)) pgs_nil)))
      (pss_one (ps_expr (pe_bm PySem.F.plainAttrs_list PySem.F.slot_list_extend PySem.F.type_list_extend mt_extend (pv 1) (pa_cons (pe_lc (own := [("c", 4), ("letter", 5)]) (g := gTup K 2 (gCons (gName 4) (gCons (gName 5) gNil))) rfl sc_empty.nd (pi_enumS (by rfl) T.z_enumerate (pa_cons (pv 3) pa_nil)) (blkOk_by (own := [("c", 4), ("letter", 5)]) (N := N_empty) (sc := defScope s_empty) (by decide +kernel)) (fun _ _ _ _ _ => (pg_tup rfl (pgs_cons (pg_name (i := 4) sc_empty.nd rfl (Or.inl rfl)) (pgs_cons (pg_name (i := 5) sc_empty.nd rfl (Or.inl rfl)) pgs_nil)))) (fun _ _ _ _ _ => pts_one (pt_cmpR op_eq (pv 5) pe_str (nomark _))) (fun _ _ _ _ _ => (pe_tup (pa_cons (pv 2) (pa_cons (pv 4) pa_nil))))) pa_nil)))))
      (pss_one (ps_ret (pv 1))))), ?_⟩
  have h9 := I.h9
  have w9 := I.w9
  refine ⟨sz0, fun n hn => ?_⟩
  have s1 := same_new hn (.lst [])
  refine ⟨_, rfl, p, _, dx, _, _, rfl, s1 _ _ hp, T.cl_Board, T.n_Board_rows, bfl_rows _ _ _, l, _, rfl, SqL.of (s1 _ _ hl),
    for_it walk_enum (fun i σ H' => Same H H' ∧ ∃ ws, H' n = some (.lst ws) ∧ Cells H' ws (emptyTo B i) ∧ ∃ v1 v2 v3 v4, σ = [some (.ref p), some (.ref n), v1, v2, v3, v4]) ⟨s1, [], upd_same, .nil, _, _, _, _, rfl⟩ (fun i σ H' _ ⟨s, _⟩ => SqL.of (s _ _ hl)) ?_ ?_⟩
  · rintro i x σ H1 H2 hi ⟨s1, ws, hn1, hc, v1, v2, v3, v4, rfl⟩ ⟨t, x1, x2, rfl, ht, rfl, ex1, ex2⟩
    cases ex1
    obtain ⟨row, ey, rfl⟩ := rowsV_inv ex2
    have s2 := same_new ht (.tup [.int (i : Int), rowV row])
    have ht2 : upd H1 t (.tup [.int (i : Int), rowV row]) t = some (.tup [.int (i : Int), rowV row]) := upd_same
    revert s2 ht2
    generalize upd H1 t (.tup [.int (i : Int), rowV row]) = H2
    intro s2 ht2
    have lrow := I.ww _ (List.mem_of_getElem? ey)
    have hi' : i < h := by
      rw [rowsV_len, I.hh] at hi
      exact hi
    have lc := hc.len
    have le := emptyTo_len I i (by omega)
    have lm : i * w ≤ 9 * 9 := Nat.mul_le_mul (by omega) w9
    refine ⟨t, _, rfl, SqT.of ht2, rfl, _, _, rfl, _, _, rfl, rfl, ?_⟩
    refine ⟨_, rfl, .inl ⟨rfl, _, SqL.of (s2 _ _ hn1)⟩, _, rfl, txt row, rfl, fun D hD =>
      lc_it walk_enumS (fun j H' => Same H2 H' ∧ ∃ ws2, H' D = some (.lst ws2) ∧ Cells H' ws2 (rowEt i row j)) ⟨same_new hD _, [], upd_same, .nil⟩ (fun _ _ _ _ => trivial)
        (fun j x H3 H4 hj ⟨s3, ws2, hD2, hc2⟩ ⟨T, c, e1, hT, e2, ec⟩ => ?_) (fun H3 ⟨s3, ws2, hD2, hc2⟩ => ?_)⟩
    · subst e1 e2
      rw [txt_size] at hj
      have ec' := get_txt ec
      have eg : row.getD j 0 = c := by
        rw [List.getD_eq_getElem?_getD, ec']
        rfl
      have s4 := same_new hT (.tup [.int (j : Int), .str ⟨#[c]⟩])
      refine ⟨T, _, rfl, SqT.of upd_same, rfl, _, _, rfl, _, _, rfl, rfl, rfl, _, rfl, rfl, _, rfl, ?_⟩
      refine iteD (fun z => ?_) (fun z => ?_)
      · rw [s_dot] at z
        have ez : row.getD j 0 = 46 := by
          rw [eg]
          exact sg_eq.mp z
        refine ⟨_, rfl, _, rfl, sz2, fun t2 ht2' => ?_⟩
        have s5 := s4.trans (same_new ht2' (.tup (cellV ((i : Int), (j : Int)))))
        have lw := hc2.len
        have lw2 := rowEt_len i row j
        have hD5 := s5 _ _ hD2
        refine ⟨ws2, hD5, sz_lt (by omega), same_mut (s3.trans s5) hD, ws2 ++ [.ref t2], upd_same, ?_⟩
        rw [rowEt_yes ez]
        refine ((hc2.same s5).app (.one ?_)).tps (.lst hD5)
        exact upd_same
      · rw [s_dot] at z
        refine ⟨s3.trans s4, ws2, s4 _ _ hD2, ?_⟩
        rw [rowEt_no (fun e => z (by rw [eg] at e; rw [e]; rfl))]
        exact hc2.same s4
    · rw [txt_size] at hc2
      have s6 := s2.trans s3
      have lw := hc2.len
      have lw2 := rowEt_len i row row.length
      have hn3 := s6 _ _ hn1
      refine ⟨n, D, ws, ws2, rfl, rfl, hn3, hD2, sz_le (by omega), ?_⟩
      refine ⟨same_mut (s1.trans s6) hn, ws ++ ws2, upd_same, ?_, _, _, _, _, rfl⟩
      have eg : B.getD i [] = row := by
        rw [List.getD_eq_getElem?_getD, ey]
        rfl
      rw [emptyTo_succ, eg]
      exact ((hc.same s6).app hc2).tps (.lst hn3)
  · rintro σ H1 ⟨s1, ws, hn1, hc, v1, v2, v3, v4, rfl⟩
    rw [rowsV_len] at hc
    exact ⟨_, rfl, q _ _ ⟨n, ws, rfl, hn, s1, hn1, hc⟩⟩
end
end Sw
namespace Sw
open PySem PySem.Spec PyProof.Rows L2
section
variable {P : Program} {w : World} {K : PySem.W.Frag} {mg : Str → Option Value} {base : Heap}
/-! beginnings, at_end, road, joined -/
def sp_beginnings (C : Addr) : Sp := fun vs H Q _ => ∃ (p l : Addr) (B : Bd) (h w : Nat) (s : Bool), vs = [.ref p, .str (txt [lt s])] ∧ BoardAt C H p l B ∧ IsB B h w ∧ ∀ v H', NewCells H (begs B h w s) v H' → Q v H'
theorem ok_beginnings (T : Top K mg) : FnOk P w K mg base CX0 1 T.a_beginnings T.d_beginnings ["board", "hand"] (sp_beginnings T.C_Board) := by
  refine T.F_beginnings.ok sc_beginnings (fun vs H Q E h => ?_) (fun cdv A outer s H vs Q E hr h => ?_)
  · obtain ⟨_, _, _, _, _, _, rfl, _⟩ := h
    rfl
  obtain ⟨p, l, B, h, w, s, rfl, ⟨⟨dx, hp⟩, hl⟩, I, q⟩ := h
  rw [I.hh, I.wid] at hp
  refine ⟨_, (Evl.pss_cut (ps_if (pt_cmpR op_eq (pv 1) pe_str (nomark _))
      (pss_one (ps_setLc (i := 2) (own := [("c", 4)]) (g := gName 4) (tt := tYes) rfl sc_beginnings.nd rfl rfl (sw_true rfl rfl rfl (by decide +kernel)) (pi_range1 rfl T.z_range (pa_cons (pe_fld (pv 0) rfl) pa_nil)) (blkOk_by (own := [("c", 4)]) (N := N_beginnings) (sc := defScope s_beginnings) (by decide +kernel)) (fun _ _ _ _ _ => (pg_name (i := 4) sc_beginnings.nd rfl (Or.inl rfl))) (fun _ _ _ _ _ => pts_nil) (fun _ _ _ _ _ => (pe_tup (pa_cons pe_int (pa_cons (pv 4) pa_nil)))))) (pss_one (ps_setLc (i := 2) (own := [("r", 5)]) (g := gName 5) (tt := tYes) rfl sc_beginnings.nd rfl rfl (sw_true rfl rfl rfl (by decide +kernel)) (pi_range1 rfl T.z_range (pa_cons (pe_fld (pv 0) rfl) pa_nil)) (blkOk_by (own := [("r", 5)]) (N := N_beginnings) (sc := defScope s_beginnings) (by decide +kernel)) (fun _ _ _ _ _ => (pg_name (i := 5) sc_beginnings.nd rfl (Or.inl rfl))) (fun _ _ _ _ _ => pts_nil) (fun _ _ _ _ _ => (pe_tup (pa_cons (pv 5) (pa_cons pe_int pa_nil)))))))
      (pss_one (ps_ret (pe_lc (own := [("cell", 3)]) (g := gName 3) rfl sc_beginnings.nd (pi_list (pv 2)) (blkOk_by (own := [("cell", 3)]) (N := N_beginnings) (sc := defScope s_beginnings) (by decide +kernel)) (fun _ _ _ _ _ => (pg_name (i := 3) sc_beginnings.nd rfl (Or.inl rfl))) (fun _ _ _ _ _ => pts_one (pt_cmpR op_eq (pe_ix ix_str (pe_ix (ix_listK (K := K) rfl) (pe_fldK (K := K) rfl (pv 0) rfl) (pe_ix (ix_tupK (K := K) rfl) (pv 3) pe_int (fun _ _ => rfl)) (fun _ _ => rfl)) (pe_ix (ix_tupK (K := K) rfl) (pv 3) pe_int (fun _ _ => rfl)) (fun _ _ => rfl)) (pv 1) (nomark _))) (fun _ _ _ _ _ => (pv 3)))))), ?_⟩
  have h9 := I.h9
  have w9 := I.w9
  refine ⟨fun σ H' => ∃ v, NewCells H (shoreL h w s) v H' ∧ σ = [some (.ref p), some (.str (txt [lt s])), some v, none, none, none], ?_, ?_⟩
  · refine ⟨_, rfl, rfl, _, rfl, iteD (fun e => ?_) (fun e => ?_)⟩
    · have es := hand_n.mp e
      subst es
      refine ⟨_, rfl, p, _, dx, _, _, rfl, hp, T.cl_Board, T.n_Board_width, bfl_width _ _ _, (w : Int), rfl, by omega, by omega, fun D hD =>
        lc_it walk_range (fun j H' => Same H H' ∧ ∃ ws, H' D = some (.lst ws) ∧ Cells H' ws ((List.range j).map fun c : Nat => ((0 : Int), (c : Int)))) ⟨same_new hD _, [], upd_same, .nil⟩ (fun _ _ _ _ => trivial)
          (fun j x H2 H3 hj ⟨s2, ws, h2, hc⟩ ⟨e3, ex⟩ => ?_) (fun H2 ⟨s2, ws, h2, hc⟩ => ?_)⟩
      · subst e3 ex
        have lc := hc.len
        rw [List.length_map, List.length_range] at lc
        refine ⟨rfl, _, rfl, sz2, fun t ht => ?_⟩
        have st := same_new ht (.tup (cellV ((0 : Int), ((0 : Int) + (j : Int)))))
        refine ⟨ws, st _ _ h2, sz_lt (by omega), same_mut (s2.trans st) hD, ws ++ [.ref t], upd_same, ?_⟩
        rw [List.range_succ, List.map_append]
        refine ((hc.same st).app (.one ?_)).tps (.lst (st _ _ h2))
        rw [Int.zero_add]
        exact upd_same
      · exact ⟨_, ⟨D, ws, rfl, hD, s2, h2, by rw [Int.toNat_natCast] at hc; exact hc⟩, rfl⟩
    · have es : s = true := by
        cases s
        · exact absurd (hand_n.mpr rfl) e
        · rfl
      subst es
      refine ⟨_, rfl, p, _, dx, _, _, rfl, hp, T.cl_Board, T.n_Board_height, bfl_height _ _ _, (h : Int), rfl, by omega, by omega, fun D hD =>
        lc_it walk_range (fun j H' => Same H H' ∧ ∃ ws, H' D = some (.lst ws) ∧ Cells H' ws ((List.range j).map fun c : Nat => ((c : Int), (0 : Int)))) ⟨same_new hD _, [], upd_same, .nil⟩ (fun _ _ _ _ => trivial)
          (fun j x H2 H3 hj ⟨s2, ws, h2, hc⟩ ⟨e3, ex⟩ => ?_) (fun H2 ⟨s2, ws, h2, hc⟩ => ?_)⟩
      · subst e3 ex
        have lc := hc.len
        rw [List.length_map, List.length_range] at lc
        refine ⟨rfl, _, rfl, sz2, fun t ht => ?_⟩
        have st := same_new ht (.tup (cellV (((0 : Int) + (j : Int)), (0 : Int))))
        refine ⟨ws, st _ _ h2, sz_lt (by omega), same_mut (s2.trans st) hD, ws ++ [.ref t], upd_same, ?_⟩
        rw [List.range_succ, List.map_append]
        refine ((hc.same st).app (.one ?_)).tps (.lst (st _ _ h2))
        rw [Int.zero_add]
        exact upd_same
      · exact ⟨_, ⟨D, ws, rfl, hD, s2, h2, by rw [Int.toNat_natCast] at hc; exact hc⟩, rfl⟩
  rintro σ H1 ⟨v, ⟨D, ws, rfl, nD, s1, hD, hc⟩, rfl⟩
  have lw := hc.len
  have lsh := shoreL_len (h := h) (w := w) (s := s)
  refine ⟨_, rfl, D, rfl, ⟨_, SqL.of hD⟩, fun F hF =>
    lc_it walk_list (fun j H' => Same H1 H' ∧ ∃ us, H' F = some (.lst us) ∧ Cells H' us (((shoreL h w s).take j).filter fun p => decide (cel B p = lt s))) ⟨same_new hF _, [], upd_same, .nil⟩ (fun _ H' _ ⟨s2, _⟩ => SqL.of (s2 _ _ hD))
      (fun j x H2 H3 hj ⟨s2, us, h2, hu⟩ ⟨e3, ex⟩ => ?_) (fun H2 ⟨s2, us, h2, hu⟩ => ?_)⟩
  · subst e3
    obtain ⟨a, c, rfl, ec, ha⟩ := (hc.same s2).get ex
    have ic := shore_ins I (List.mem_of_getElem? ec)
    obtain ⟨row, er, mr, lr, ecel, _⟩ := I.at ic
    have s3 := s1.trans s2
    have lu := hu.len
    have lf := List.length_filter_le (fun p => decide (cel B p = lt s)) ((shoreL h w s).take j)
    have lt2 := List.length_take_le j (shoreL h w s)
    refine ⟨rfl, _, rfl, p, _, dx, _, _, rfl, s3 _ _ hp, T.cl_Board, T.n_Board_rows, bfl_rows _ _ _, _, rfl, a, _, _, _, rfl, rfl, SqT.of ha, atI_nat (j := 0) rfl, l, _, _, _, rfl, rfl, SqL.of (s3 _ _ hl), at_int ic.1 (rowsV_get er), _, rfl, a, _, _, _, rfl, rfl, SqT.of ha, atI_nat (j := 1) rfl, _, _, _, rfl, rfl, sz_le (by rw [txt_len, lr]; omega), atI_cps ic.2.2.1 ecel, _, rfl, rfl, _, rfl, ?_⟩
    rw [take_snoc ec, List.filter_append]
    refine iteD (fun z => ?_) (fun z => ?_)
    · have z' := sgn_eq.mp z
      refine ⟨_, rfl, us, h2, sz_lt (by omega), same_mut s2 hF, us ++ [.ref a], upd_same, ?_⟩
      have e1 : List.filter (fun p => decide (cel B p = lt s)) [c] = [c] := by
        rw [List.filter_cons, if_pos (decide_eq_true z')]
        rfl
      rw [e1]
      exact (hu.app (.one ha)).tps (.lst h2)
    · have e1 : List.filter (fun p => decide (cel B p = lt s)) [c] = [] := by
        rw [List.filter_cons, if_neg (by rw [decide_eq_true_eq]; exact fun y => z (sgn_eq.mpr y))]
        rfl
      refine ⟨s2, us, h2, ?_⟩
      rw [e1, List.append_nil]
      exact hu
  · rw [lw, List.take_length] at hu
    exact q _ _ ⟨F, us, rfl, s1.free hF, s1.trans s2, h2, hu⟩
def sp_at_end (C : Addr) : Sp := fun vs H Q _ => ∃ (p l : Addr) (B : Bd) (h w : Nat) (s : Bool) (a : Addr) (c : Cell), vs = [.ref p, .str (txt [lt s]), .ref a] ∧ BoardAt C H p l B ∧ IsB B h w ∧ H a = some (.tup (cellV c)) ∧
  Q (.bl (decide (sd s c = ext s h w - 1))) H
theorem ok_at_end (T : Top K mg) : FnOk P w K mg base CX0 1 T.a_at_end T.d_at_end ["board", "hand", "cell"] (sp_at_end T.C_Board) := by
  refine T.F_at_end.ok sc_at_end (fun vs H Q E h => ?_) (fun cdv A outer s H vs Q E hr h => ?_)
  · obtain ⟨_, _, _, _, _, _, _, _, rfl, _⟩ := h
    rfl
  obtain ⟨p, l, B, h, w, s, a, c, rfl, ⟨⟨dx, hp⟩, hl⟩, I, ha, q⟩ := h
  rw [I.hh, I.wid] at hp
  refine ⟨_, (pss_cons (ps_if (pt_cmpR op_eq (pv 1) pe_str (nomark _))
      (pss_one (ps_ret (pe_cmpR op_eq (pe_ix ix_tup (pv 2) pe_int (fun _ _ => rfl)) (pe_op op_sub (pe_fld (pv 0) rfl) pe_int) (nomark _)))) pss_nil)
      (pss_one (ps_ret (pe_cmpR op_eq (pe_ix ix_tup (pv 2) pe_int (fun _ _ => rfl)) (pe_op op_sub (pe_fld (pv 0) rfl) pe_int) (nomark _))))), ?_⟩
  refine ⟨_, rfl, rfl, _, rfl, iteD (fun e => ?_) (fun e => ?_)⟩
  · have es := hand_n.mp e
    subst es
    refine ⟨_, rfl, a, _, _, _, rfl, rfl, SqT.of ha, atI_nat (j := 0) rfl, _, rfl, p, _, dx, _, _, rfl, hp, T.cl_Board, T.n_Board_height, bfl_height _ _ _, _, _, rfl, rfl, ?_⟩
    have eq : V.bl (decide (V.int c.1 = V.int ((h : Int) - 1))) = V.bl (decide (sd false c = ext false h w - 1)) := by
      have : (V.int c.1 = V.int ((h : Int) - 1)) ↔ (sd false c = ext false h w - 1) := ⟨fun z => V.int.inj z, fun z => congrArg V.int z⟩
      rw [decide_eq_decide.mpr this]
    rw [← eq] at q
    exact ⟨rfl, q⟩
  · have es : s = true := by
      cases s
      · exact absurd (hand_n.mpr rfl) e
      · rfl
    subst es
    refine ⟨_, rfl, a, _, _, _, rfl, rfl, SqT.of ha, atI_nat (j := 1) rfl, _, rfl, p, _, dx, _, _, rfl, hp, T.cl_Board, T.n_Board_width, bfl_width _ _ _, _, _, rfl, rfl, ?_⟩
    have eq : V.bl (decide (V.int c.2 = V.int ((w : Int) - 1))) = V.bl (decide (sd true c = ext true h w - 1)) := by
      have : (V.int c.2 = V.int ((w : Int) - 1)) ↔ (sd true c = ext true h w - 1) := ⟨fun z => V.int.inj z, fun z => congrArg V.int z⟩
      rw [decide_eq_decide.mpr this]
    rw [← eq] at q
    exact ⟨rfl, q⟩
/-- what road tells: nothing, or a new list of a road's cells -/
def RoadIs (H : Hp) (B : Bd) (h w : Nat) (s : Bool) (v : V) (H' : Hp) : Prop := Same H H' ∧ ((v = .non ∧ ¬ Joined (cel B) h w s) ∨ ∃ (p : Addr) (ws : List V) (cs : List Cell), v = .ref p ∧ H p = none ∧ H' p = some (.lst ws) ∧ Cells H' ws cs ∧ Road (cel B) h w s cs)
def sp_road (C : Addr) : Sp := fun vs H Q _ => ∃ (p l : Addr) (B : Bd) (h w : Nat) (s : Bool), vs = [.ref p, .str (txt [lt s])] ∧ BoardAt C H p l B ∧ IsB B h w ∧ ∀ v H', RoadIs H B h w s v H' → Q v H'
theorem ok_road (T : Top K mg) : FnOk P w K mg base CX0 2 T.a_road T.d_road ["board", "hand"] (sp_road T.C_Board) := by
  refine T.F_road.ok sc_road (fun vs H Q E h => ?_) (fun cdv A outer s H vs Q E hr h => ?_)
  · obtain ⟨_, _, _, _, _, _, rfl, _⟩ := h
    rfl
  obtain ⟨p, l, B, h, w, s, rfl, bt, I, q⟩ := h
  have hu := hu_of hr
  refine ⟨_, (pss_cons (ps_setLc (i := 2) (own := [("cell", 7)]) (g := gName 7) (tt := tYes) rfl sc_road.nd rfl rfl (sw_true rfl rfl rfl (by decide +kernel)) (pi_list (pe_call (ok_beginnings T) (hr.mono (by decide)) rfl T.m_beginnings T.F_beginnings.kp T.B_beginnings .nil pass0 (pa_cons (pv 0) (pa_cons (pv 1) pa_nil)))) (blkOk_by (own := [("cell", 7)]) (N := N_road) (sc := defScope s_road) (by decide +kernel)) (fun _ _ _ _ _ => (pg_name (i := 7) sc_road.nd rfl (Or.inl rfl))) (fun _ _ _ _ _ => pts_nil) (fun _ _ _ _ _ => (pe_lst (pa_cons (pv 7) pa_nil))))
      (pss_cons (ps_set (i := 3) sc_road.nd rfl (Or.inl rfl) pe_dnewT)
      (pss_cons (ps_for PassesOwn.never rfl (pi_list (pv 2)) (pg_name (i := 4) sc_road.nd rfl (Or.inl rfl))
      (pss_one (ps_dput hu (pv 3) (pe_ix ix_list (pv 4) pe_int (fun _ _ => rfl)) pe_bl rfl)))
      (pss_cons (ps_set (i := 5) sc_road.nd rfl (Or.inl rfl) pe_int)
      (pss_cons (ps_while PassesOwn.never (pt_cmpR op_lt (pv 5) (pe_callB call_len_seq (by rfl) T.z_len PySem.boot_len (pa_cons (pv 2) pa_nil)) (nomark _))
      (pss_cons (ps_set (i := 6) sc_road.nd rfl (Or.inl rfl) (pe_ix ix_list (pe_ix ix_list (pv 2) (pv 5) (fun _ _ => rfl)) (pe_un un_neg pe_int) (fun _ _ => rfl)))
      (pss_cons (ps_if (pt_val (pe_call (ok_at_end T) (hr.mono (by decide)) rfl T.m_at_end T.F_at_end.kp T.B_at_end .nil pass0 (pa_cons (pv 0) (pa_cons (pv 1) (pa_cons (pv 6) pa_nil)))))
      (pss_one (ps_ret (pe_ix ix_list (pv 2) (pv 5) (fun _ _ => rfl)))) pss_nil)
      (pss_cons (ps_for PassesOwn.never rfl (pi_list (pe_call (ok_near T) (hr.mono (by decide)) rfl T.m_near T.F_near.kp T.B_near .nil pass0 (pa_cons (pe_ix ix_tup (pv 6) pe_int (fun _ _ => rfl)) (pa_cons (pe_ix ix_tup (pv 6) pe_int (fun _ _ => rfl)) pa_nil)))) (pg_name (i := 7) sc_road.nd rfl (Or.inl rfl))
      (pss_one (ps_if (PW.pt (pw_and (pt_cmp (pc_dnotin hu (pv 7) (pv 3))) (pw_and (pt_val (pe_meth (pv 0) T.cl_Board T.M_Board_has (ok_Board_has T) (hr.mono (by decide)) T.B_Board_has .nil pass0 (pa_cons (pe_ix ix_tup (pv 7) pe_int (fun _ _ => rfl)) (pa_cons (pe_ix ix_tup (pv 7) pe_int (fun _ _ => rfl)) pa_nil)))) (pw_and1 (pt_cmpR op_eq (pe_ix ix_str (pe_ix ix_list (pe_fld (pv 0) rfl) (pe_ix ix_tup (pv 7) pe_int (fun _ _ => rfl)) (fun _ _ => rfl)) (pe_ix ix_tup (pv 7) pe_int (fun _ _ => rfl)) (fun _ _ => rfl)) (pv 1) (nomark _))))))
      (pss_cons (ps_dput hu (pv 3) (pv 7) pe_bl rfl)
      (pss_one (ps_expr (pe_bm PySem.F.plainAttrs_list PySem.F.slot_list_append PySem.F.type_list_append mt_append (pv 2) (pa_cons (pe_op op_cat (pe_ix ix_list (pv 2) (pv 5) (fun _ _ => rfl)) (pe_lst (pa_cons (pv 7) pa_nil))) pa_nil))))) pss_nil)))
      (pss_one (ps_set (i := 5) sc_road.nd rfl (Or.inl rfl) (pe_op op_add (pv 5) pe_int)))))))
      (pss_one (ps_ret pe_non))))))), ?_⟩
  have h9 := I.h9
  have w9 := I.w9
  have ar := area I
  obtain ⟨⟨dx, hp⟩, hl⟩ := id bt
  rw [I.hh, I.wid] at hp
  -- the queue
  refine ⟨_, rfl, _, rfl, p, l, B, h, w, s, rfl, bt, I, fun v H1 ⟨b, bs, ev, nb, s1, hb, cb⟩ => ?_⟩
  subst ev
  have lb := cb.len
  have bfl0 := bfs_start I s
  have lbs := bfl0.bound I
  refine ⟨b, rfl, ⟨_, SqL.of hb⟩, fun D hD =>
    lc_it walk_list (fun j H' => Same H1 H' ∧ ∃ ws, H' D = some (.lst ws) ∧ Ways H D H' ws (((begs B h w s).take j).map fun c => [c])) ⟨same_new hD _, [], upd_same, .nil⟩ (fun _ H' _ ⟨s2, _⟩ => SqL.of (s2 _ _ hb))
      (fun j x H2 H3 hj ⟨s2, ws, h2, hw⟩ ⟨e3, ex⟩ => ?_) (fun H2 ⟨s2, ws, h2, hw⟩ => ?_)⟩
  · subst e3
    obtain ⟨a, c, rfl, ec, ha⟩ := (cb.same s2).get ex
    have lw := hw.len
    rw [List.length_map] at lw
    have lt2 := List.length_take_le' j (begs B h w s)
    refine ⟨rfl, _, rfl, sz1, fun t ht => ?_⟩
    have st := same_new ht (.lst [V.ref a])
    have nt : t ≠ D := fun z => by rw [z, h2] at ht; cases ht
    refine ⟨ws, st _ _ h2, sz_lt (by omega), same_mut (s2.trans st) hD, ws ++ [.ref t], upd_same, ?_⟩
    rw [take_snoc ec, List.map_append]
    refine (hw.same st).updq (st _ _ h2) |>.app (.one (vs := [.ref a]) ?_ nt ?_ ?_)
    · exact (s1.trans s2).free ht
    · rw [upd_ne nt]
      exact upd_same
    · exact (Cells.one (st _ _ ha)).tps (.lst (st _ _ h2))
  rw [lb, List.take_length] at hw
  -- the dict
  refine fun d hd => ?_
  have sd := same_new hd (.dT [])
  have s3 := (s1.trans s2).trans sd
  have nd : H d = none := (s1.trans s2).free hd
  have nD : H D = none := s1.free hD
  have hD3 := sd _ _ h2
  have hw3 := hw.same sd
  have see : Seen (upd H2 d (.dT [])) d [] := Seen.nil
  revert sd s3 hD3 hw3 see
  generalize upd H2 d (.dT []) = H3
  intro sd s3 hD3 hw3 see
  have lws := hw3.len
  rw [List.length_map] at lws
  refine ⟨_, rfl, D, rfl, ⟨_, SqL.of hD3⟩, for_list (K := K) (a := D) (xs := ws) (fun i σ H' => Same H H' ∧ H' D = some (.lst ws) ∧ Ways H D H' ws ((begs B h w s).map fun c => [c]) ∧ Seen H' d ((begs B h w s).take i) ∧
    ∃ v, σ = [some (.ref p), some (.str (txt [lt s])), some (.ref D), some (.ref d), v, none, none, none]) ⟨s3, hD3, hw3, see, _, rfl⟩ (fun i σ H' _ ⟨_, e, _⟩ => SqL.of e) ?_ ?_⟩
  · rintro i x σ H4 hi ⟨s4, hD4, hw4, see4, v, rfl⟩
    obtain ⟨a, us, cs, rfl, ecs, na, naD, ha, hc⟩ := hw4.get hi
    obtain ⟨c, ec, rfl⟩ := map_get ecs
    cases hc with
    | @cons b1 _ us' _ hb1 hc' =>
    refine ⟨_, rfl, _, rfl, a, _, _, _, rfl, rfl, SqL.of ha, atI_nat (j := 0) rfl, ?_⟩
    have lt2 := List.length_take_le' i (begs B h w s)
    obtain ⟨ys, put, see5, tp, xs0, hd4⟩ := see4.put (v := .bl true) hb1 (nodup_take (begs_nodup B h w s) ec) (by omega)
    refine ⟨d, _, rfl, put, ?_⟩
    refine ⟨same_mut s4 nd, ?_, hw4.updd hd4, ?_, _, rfl⟩
    · rw [upd_ne (ne_of hD4 hd4 (by intro z; cases z))]
      exact hD4
    · rw [take_snoc ec]
      exact see5
  rintro σ H4 ⟨s4, hD4, hw4, see4, v, rfl⟩
  rw [lws, List.take_length] at see4
  -- the search
  refine ⟨fun m σ H' => ∃ (n : Nat) (ws : List V) (css : List (List Cell)) (seen : List Cell) (v1 v2 v3 : Option V), m = 81 - n ∧ n ≤ ws.length ∧ Same H H' ∧ H' D = some (.lst ws) ∧ Ways H D H' ws css ∧ Seen H' d seen ∧
    Bfs (cel B) s css seen ∧ DoneTo (cel B) h w s seen n ∧ σ = [some (.ref p), some (.str (txt [lt s])), some (.ref D), some (.ref d), v1, some (.int (n : Int)), v2, v3],
    ⟨81, 0, ws, _, _, v, none, none, rfl, Nat.zero_le _, s4, hD4, hw4, see4, bfl0, (fun i c hi => absurd hi (Nat.not_lt_zero _)), rfl⟩, ?_⟩
  rintro m σ H5 ⟨n, ws, css, seen, v1, v2, v3, rfl, hn, s5, hD5, hw5, see5, bf, dn, rfl⟩
  have lw := hw5.len
  have ls := bf.len
  have bs := bf.bound I
  refine ⟨_, rfl, _, rfl, D, _, rfl, .inl (SqL.of hD5), _, _, rfl, rfl, _, rfl, iteD (fun hlt => ?_) (fun hge => ?_)⟩
  · refine ⟨fun σ' H' => ∃ (n' : Nat) (ws : List V) (css : List (List Cell)) (seen : List Cell) (v1 v2 v3 : Option V), n' = n + 1 ∧ n' ≤ ws.length ∧ Same H H' ∧ H' D = some (.lst ws) ∧ Ways H D H' ws css ∧ Seen H' d seen ∧
      Bfs (cel B) s css seen ∧ DoneTo (cel B) h w s seen n' ∧ σ' = [some (.ref p), some (.str (txt [lt s])), some (.ref D), some (.ref d), v1, some (.int (n' : Int)), v2, v3], ?_, ?_⟩
    · rintro σ' H' ⟨n', ws', css', seen', u1, u2, u3, rfl, a1, a2⟩
      exact ⟨81 - (n + 1), by omega, n + 1, ws', css', seen', u1, u2, u3, rfl, a1, a2⟩
    have hn' : n < ws.length := by omega
    obtain ⟨x, ex⟩ : ∃ x, ws[n]? = some x := ⟨_, List.getElem?_eq_getElem hn'⟩
    obtain ⟨a, us, cs, rfl, ecs, na, naD, ha, hc⟩ := hw5.get ex
    obtain ⟨c, esc, rd, sub⟩ := bf.way n cs ecs
    have lus := hc.len
    obtain ⟨bc, ebc, hbc⟩ := hc.at rd.get_last
    -- here
    refine ⟨_, rfl, _, rfl, D, _, _, _, rfl, rfl, SqL.of hD5, atI_nat ex, _, rfl, a, us, _, _, rfl, rfl, SqL.of ha, atI_last1 (by rw [lus]; exact ebc), ?_⟩
    -- at the end?
    refine ⟨_, rfl, _, rfl, _, rfl, p, l, B, h, w, s, bc, c, rfl, bt.same s5, I, hbc, _, rfl, iteD (fun ce => ?_) (fun ce => ?_)⟩
    · refine ⟨_, rfl, _, rfl, D, _, _, _, rfl, rfl, SqL.of hD5, atI_nat ex, ?_⟩
      exact q _ _ ⟨s5, .inr ⟨a, us, cs, rfl, na, ha, hc, c, rd, ce, bf.thin n cs ecs⟩⟩
    -- around
    refine ⟨_, rfl, bc, _, _, _, rfl, rfl, SqT.of hbc, atI_nat (j := 0) rfl, _, rfl, bc, _, _, _, rfl, rfl, SqT.of hbc, atI_nat (j := 1) rfl, c.1, c.2, rfl, fun f H6 fs s6 nf hf cf => ?_⟩
    have nfD : f ≠ D := fun z => by rw [z, hD5] at nf; cases nf
    refine ⟨f, rfl, ⟨_, SqL.of hf⟩, for_list (K := K) (a := f) (xs := fs) (fun j σ H' => ∃ (ws : List V) (css : List (List Cell)) (seen : List Cell) (v3 : Option V), Same H H' ∧ H' f = some (.lst fs) ∧ Cells H' fs (near6 c) ∧ H' D = some (.lst ws) ∧ Ways H D H' ws css ∧ Seen H' d seen ∧
      Bfs (cel B) s css seen ∧ DoneTo (cel B) h w s seen n ∧ ws[n]? = some (.ref a) ∧ css[n]? = some cs ∧ seen[n]? = some c ∧ (∀ x ∈ (near6 c).take j, cel B x = lt s → x ∈ seen) ∧
      σ = [some (.ref p), some (.str (txt [lt s])), some (.ref D), some (.ref d), v1, some (.int (n : Int)), some (.ref bc), v3])
      ⟨ws, css, seen, v3, s5.trans s6, hf, cf, s6 _ _ hD5, hw5.same s6, see5.same s6, bf, dn, ex, ecs, esc, (fun x hx => nomatch hx), rfl⟩ (fun i σ H' _ ⟨_, _, _, _, _, e, _⟩ => SqL.of e) ?_ ?_⟩
    · rintro j x σ H7 hj ⟨ws, css, seen, v3, s7, hf7, cf7, hD7, hw7, see7, bf7, dn7, ex7, ecs7, esc7, al7, rfl⟩
      obtain ⟨g, y, rfl, ey, hg⟩ := cf7.get hj
      have yn : y ∈ near6 c := List.mem_of_getElem? ey
      have lw7 := hw7.len
      have ls7 := bf7.len
      have bs7 := bf7.bound I
      have nl7 : n < ws.length := (List.getElem?_eq_some_iff.mp ex7).1
      have keep : (cel B y = lt s → y ∈ seen) → ∀ x ∈ (near6 c).take (j + 1), cel B x = lt s → x ∈ seen := fun k x hx hs => by
        rw [take_snoc ey] at hx
        rcases List.mem_append.mp hx with hx | hx
        · exact al7 x hx hs
        · rw [List.mem_singleton.mp hx] at hs ⊢
          exact k hs
      have stay : (cel B y = lt s → y ∈ seen) → ∃ (ws : List V) (css : List (List Cell)) (seen : List Cell) (v3 : Option V), Same H H7 ∧ H7 f = some (.lst fs) ∧ Cells H7 fs (near6 c) ∧ H7 D = some (.lst ws) ∧ Ways H D H7 ws css ∧ Seen H7 d seen ∧
        Bfs (cel B) s css seen ∧ DoneTo (cel B) h w s seen n ∧ ws[n]? = some (.ref a) ∧ css[n]? = some cs ∧ seen[n]? = some c ∧ (∀ x ∈ (near6 c).take (j + 1), cel B x = lt s → x ∈ seen) ∧
        [some (.ref p), some (.str (txt [lt s])), some (.ref D), some (.ref d), v1, some (.int (n : Int)), some (.ref bc), some (.ref g)] = [some (.ref p), some (.str (txt [lt s])), some (.ref D), some (.ref d), v1, some (.int (n : Int)), some (.ref bc), v3] :=
        fun k => ⟨ws, css, seen, _, s7, hf7, cf7, hD7, hw7, see7, bf7, dn7, ex7, ecs7, esc7, keep k, rfl⟩
      obtain ⟨o, og, eo⟩ := see7.get hg
      refine ⟨_, rfl, _, rfl, d, o, rfl, og, ?_⟩
      rw [eo]
      refine ⟨_, rfl, iteN (fun c1 => ?_) (fun c1 => stay fun _ => c1)⟩
      have bt7 := bt.same s7
      refine ⟨_, rfl, p, dx, _, rfl, s7 _ _ hp, bfl_has _ _ _, _, rfl, g, _, _, _, rfl, rfl, SqT.of hg, atI_nat (j := 0) rfl, _, rfl, g, _, _, _, rfl, rfl, SqT.of hg, atI_nat (j := 1) rfl, p, l, B, h, w, y.1, y.2, rfl, bt7, I, _, rfl, ?_⟩
      refine iteD (fun c2 => ?_) (fun c2 => stay fun z => absurd (I.ins (p := y) (by rw [z]; exact lt_ne s)) c2)
      obtain ⟨row, er, mr, lr, ecel, _⟩ := I.at (p := y) c2
      refine ⟨_, rfl, p, _, dx, _, _, rfl, s7 _ _ hp, T.cl_Board, T.n_Board_rows, bfl_rows _ _ _, _, rfl, g, _, _, _, rfl, rfl, SqT.of hg, atI_nat (j := 0) rfl, l, _, _, _, rfl, rfl, SqL.of (s7 _ _ hl), at_int c2.1 (rowsV_get er),
        _, rfl, g, _, _, _, rfl, rfl, SqT.of hg, atI_nat (j := 1) rfl, _, _, _, rfl, rfl, sz_le (by rw [txt_len, lr]; omega), atI_cps c2.2.2.1 ecel, _, rfl, rfl, _, rfl, ?_⟩
      refine iteD (fun c3 => ?_) (fun c3 => stay fun z => absurd (sgn_eq.mpr z) c3)
      have c3' := sgn_eq.mp c3
      -- seen[cell] = True; queue.append(..)
      obtain ⟨ys, put, see8, tp8, xs0, hd7⟩ := see7.put (v := .bl true) hg c1 (by omega)
      refine ⟨_, rfl, _, rfl, d, _, rfl, put, ?_⟩
      have s8 := same_mut (o := .dT ys) s7 nd
      have hf8 : upd H7 d (.dT ys) f = some (.lst fs) := by
        rw [upd_ne (ne_of hf7 hd7 (by intro z; cases z))]
        exact hf7
      have hD8 : upd H7 d (.dT ys) D = some (.lst ws) := by
        rw [upd_ne (ne_of hD7 hd7 (by intro z; cases z))]
        exact hD7
      have cf8 := cf7.tps tp8
      have hw8 := hw7.updd (o := .dT ys) hd7
      have hg8 := tp8 _ _ hg
      revert s8 hf8 hD8 cf8 hw8 see8 tp8 hg8
      generalize upd H7 d (.dT ys) = H8
      intro see8 tp8 s8 hf8 hD8 cf8 hw8 hg8
      obtain ⟨a', us8, cs', ea, ecs8, _, _, ha8, hc8⟩ := hw8.get ex7
      cases ea
      rw [ecs7] at ecs8
      cases ecs8
      have lus8 := hc8.len
      have lcs := rd.bound I
      refine ⟨_, rfl, .inl ⟨rfl, _, SqL.of hD8⟩, _, rfl, _, rfl, D, _, _, _, rfl, rfl, SqL.of hD8, atI_nat ex7, _, rfl, sz1, fun t ht => ?_⟩
      have st := same_new ht (.lst [V.ref g])
      refine ⟨a, t, us8, [V.ref g], rfl, rfl, st _ _ ha8, upd_same, sz_le (by rw [List.length_singleton]; omega), fun r hr => ?_⟩
      have sr := st.trans (same_new hr (.lst (us8 ++ [V.ref g])))
      have hr9 : upd (upd H8 t (.lst [V.ref g])) r (.lst (us8 ++ [V.ref g])) r = some (.lst (us8 ++ [V.ref g])) := upd_same
      have nr : H8 r = none := st.free hr
      revert sr hr9
      generalize upd (upd H8 t (.lst [V.ref g])) r (.lst (us8 ++ [V.ref g])) = H9
      intro sr hr9
      have hD9 := sr _ _ hD8
      have nrD : r ≠ D := fun z => by rw [z, hD8] at nr; cases nr
      refine ⟨D, ws, _, rfl, rfl, hD9, sz_lt (by omega), ?_⟩
      have bf9 := bf7.add dn7 ecs7 esc7 yn c3' c1
      have ls7' : n < seen.length := by omega
      have tp9 : Tps H9 (upd H9 D (.lst (ws ++ [V.ref r]))) := .lst hD9
      refine ⟨ws ++ [.ref r], css ++ [cs ++ [y]], seen ++ [y], _, same_mut (s8.trans sr) nD, ?_, (cf8.same sr).tps tp9, upd_same, ((hw8.same sr).updq hD9).app (.one (vs := us8 ++ [V.ref g]) (s8.free nr) nrD ?_ ?_), ?_, bf9, dn7.mono (by omega), ?_, ?_, ?_, ?_, rfl⟩
      · rw [upd_ne nfD]
        exact sr _ _ hf8
      · rw [upd_ne nrD]
        exact hr9
      · exact (((hc8.same sr).app (.one (sr _ _ hg8)))).tps tp9
      · exact (see8.same sr).updL hD9
      · rw [List.getElem?_append_left nl7]
        exact ex7
      · rw [List.getElem?_append_left (by omega)]
        exact ecs7
      · rw [List.getElem?_append_left ls7']
        exact esc7
      · intro x hx hs
        rw [take_snoc ey] at hx
        rcases List.mem_append.mp hx with hx | hx
        · exact List.mem_append_left _ (al7 x hx hs)
        · exact List.mem_append_right _ hx
    · rintro σ H7 ⟨ws, css, seen, v3, s7, hf7, cf7, hD7, hw7, see7, bf7, dn7, ex7, ecs7, esc7, al7, rfl⟩
      have nl7 : n < ws.length := (List.getElem?_eq_some_iff.mp ex7).1
      refine ⟨_, rfl, _, _, rfl, rfl, n + 1, ws, css, seen, _, _, _, rfl, nl7, s7, hD7, hw7, see7, bf7, ?_, rfl⟩
      have lf := cf.len
      rw [lf, List.take_length] at al7
      intro i x hi hx
      by_cases e : i < n
      · exact dn7 i x e hx
      · have : i = n := by omega
        subst this
        rw [esc7] at hx
        cases hx
        exact ⟨ce, al7⟩
  · have e : n = seen.length := by omega
    subst e
    exact q _ _ ⟨s5, .inl ⟨rfl, dn.none bf.first⟩⟩
def sp_joined (C : Addr) : Sp := fun vs H Q _ => ∃ (p l : Addr) (B : Bd) (h w : Nat) (s : Bool), vs = [.ref p, .str (txt [lt s])] ∧ BoardAt C H p l B ∧ IsB B h w ∧ ∀ H', Same H H' → Q (.bl (jB B s)) H'
theorem ok_joined (T : Top K mg) : FnOk P w K mg base CX0 3 T.a_joined T.d_joined ["board", "hand"] (sp_joined T.C_Board) := by
  refine T.F_joined.ok sc_joined (fun vs H Q E h => ?_) (fun cdv A outer s H vs Q E hr h => ?_)
  · obtain ⟨_, _, _, _, _, _, rfl, _⟩ := h
    rfl
  obtain ⟨p, l, B, h, w, s, rfl, bt, I, q⟩ := h
  refine ⟨_, (pss_one (ps_ret (pe_cmpR op_notN (pe_call (ok_road T) (hr.mono (by decide)) rfl T.m_road T.F_road.kp T.B_road .nil pass0 (pa_cons (pv 0) (pa_cons (pv 1) pa_nil))) pe_non (nomark _)))), ?_⟩
  refine ⟨_, rfl, _, rfl, p, l, B, h, w, s, rfl, bt, I, fun v H1 ⟨s1, hv⟩ => ?_⟩
  have qq := q H1 s1
  rcases hv with ⟨rfl, nj⟩ | ⟨a, ws, cs, rfl, _, _, _, ro⟩
  · rw [(jB_not I s).mpr nj] at qq
    refine ⟨rfl, ?_⟩
    show Q (V.bl (!decide (V.non = V.non))) H1
    rw [decide_eq_true rfl]
    exact qq
  · rw [(jB_iff I s).mpr ro.joined] at qq
    refine ⟨rfl, ?_⟩
    show Q (V.bl (!decide (V.ref a = V.non))) H1
    rw [decide_eq_false (fun z => by cases z)]
    exact qq
end
end Sw
namespace Sw
open PySem PySem.Spec PyProof.Rows L2
section
variable {P : Program} {w : World} {K : PySem.W.Frag} {mg : Str → Option Value} {base : Heap}
/-! winner -/
def sp_winner (C CN : Addr) : Sp := fun vs H Q E => ∃ (p l : Addr) (B : Bd) (h w : Nat), vs = [.ref p] ∧ BoardAt C H p l B ∧ IsB B h w ∧ (emptyL B ≠ [] → ∀ H', Same H H' → E (.ref CN) none H') ∧
  (emptyL B = [] → ∀ H', Same H H' → Q (.str (txt [lt (!jB B false)])) H')
theorem ok_winner (T : Top K mg) : FnOk P w K mg base (L2.CX P w) 4 T.a_winner T.d_winner ["board"] (sp_winner T.C_Board T.C_NotFull) := by
  refine T.F_winner.okX sc_winner (fun vs H Q E h => ?_) (fun cdv A outer s H vs Q E hr h => ?_)
  · obtain ⟨_, _, _, _, _, rfl, _⟩ := h
    rfl
  obtain ⟨p, l, B, h, w, rfl, bt, I, qe, qs⟩ := h
  refine ⟨_, (pss_cons (ps_if (pt_cmpR op_gt (pe_callB call_len_seq (by rfl) T.z_len PySem.boot_len (pa_cons (pe_call (ok_empty T) (hr.mono (by decide)) rfl T.m_empty T.F_empty.kp T.B_empty .nil pass0 (pa_cons (pv 0) pa_nil)) pa_nil)) pe_int (nomark _))
      (pss_one (ps_raise rfl (takes_of rfl rfl rfl rfl) (pmk_own PySem.F.excBase_ValueError T.x_NotFull T.mC_NotFull T.k_NotFull (raises_own T.b_NotFull T.t_NotFull) rfl))) pss_nil)
      (pss_cons (ps_if (pt_val (pe_call (ok_joined T) (hr.mono (by decide)) rfl T.m_joined T.F_joined.kp T.B_joined .nil pass0 (pa_cons (pv 0) (pa_cons pe_str pa_nil))))
      (pss_one (ps_ret pe_str)) pss_nil)
      (pss_one (ps_ret pe_str)))), ?_⟩
  refine ⟨_, rfl, p, l, B, h, w, rfl, bt, I, fun v H1 ⟨n, ws, ev, nn, s1, hn, hc⟩ => ?_⟩
  subst ev
  have lw := hc.len
  refine ⟨n, _, rfl, .inl (SqL.of hn), _, _, rfl, rfl, _, rfl, iteD (fun c => ?_) (fun c => ?_)⟩
  · refine qe (fun z => ?_) _ s1
    rw [z] at lw
    have : ws.length = 0 := lw
    omega
  have z : emptyL B = [] := by
    cases e : emptyL B with
    | nil => rfl
    | cons a as =>
      exfalso
      rw [e, List.length_cons] at lw
      omega
  refine ⟨_, rfl, p, l, B, h, w, false, congrArg (fun z => [V.ref p, V.str z]) s_n, bt.same s1, I, fun H2 s2 => ?_⟩
  have qq := qs z H2 (s1.trans s2)
  refine ⟨_, rfl, iteB (fun e => ?_) (fun e => ?_)⟩
  · rw [e] at qq
    rw [s_n]
    exact qq
  · rw [e] at qq
    rw [s_w]
    exact qq
end
end Sw
namespace Sw
open PySem PySem.Spec PyProof.Rows L2
section
variable {P : Program} {w : World} {K : PySem.W.Frag} {mg : Str → Option Value} {base : Heap}
/-! owner, walk -/
def ownV : Option Bool → V
  | none => .non
  | some s => .str (txt [lt s])
theorem own_in {B : Bd} {h w : Nat} {q : Cell} (I : IsB B h w) (fc : ∀ x, cel B x ≠ 46) (z : Ins h w q) : ∃ s, own (cel B) h w q = some s ∧ cel B q = lt s := by
  obtain ⟨_, _, _, _, _, ok⟩ := I.at z
  unfold own
  rw [if_pos z]
  rcases ok with e | e | e
  · exact ⟨false, by rw [if_pos e], e⟩
  · exact ⟨true, by rw [if_neg (by rw [e]; decide)], e⟩
  · exact absurd e (fc q)
def sp_owner (C : Addr) : Sp := fun vs H Q _ => ∃ (p l : Addr) (B : Bd) (h w : Nat) (t : Addr) (x : Cell), vs = [.ref p, .ref t] ∧ BoardAt C H p l B ∧ IsB B h w ∧ (∀ y, cel B y ≠ 46) ∧ H t = some (.tup (cellV x)) ∧ Q (ownV (own (cel B) h w x)) H
theorem ok_owner (T : Top K mg) : FnOk P w K mg base CX0 2 T.a_owner T.d_owner ["board", "place"] (sp_owner T.C_Board) := by
  refine T.F_owner.ok sc_owner (fun vs H Q E h => ?_) (fun cdv A outer s H vs Q E hr h => ?_)
  · obtain ⟨_, _, _, _, _, _, _, rfl, _⟩ := h
    rfl
  obtain ⟨p, l, B, h, w, t, x, rfl, bt, I, fc, ht, q⟩ := h
  obtain ⟨⟨dx, hp⟩, hl⟩ := id bt
  rw [I.hh, I.wid] at hp
  have w9 := I.w9
  refine ⟨_, (pss_cons (ps_asg (pv 1) (pg_tup rfl (pgs_cons (pg_name (i := 2) sc_owner.nd rfl (Or.inl rfl)) (pgs_cons (pg_name (i := 3) sc_owner.nd rfl (Or.inl rfl)) pgs_nil))))
      (pss_cons (ps_if (pt_val (pe_meth (pv 0) T.cl_Board T.M_Board_has (ok_Board_has T) (hr.mono (by decide)) T.B_Board_has .nil pass0 (pa_cons (pv 2) (pa_cons (pv 3) pa_nil))))
      (pss_one (ps_ret (pe_ix ix_str (pe_ix ix_list (pe_fld (pv 0) rfl) (pv 2) (fun _ _ => rfl)) (pv 3) (fun _ _ => rfl)))) pss_nil)
      (Evl.pss_cut (ps_if (PW.pt (pw_or (PW.pt (pw_and (pt_cmpR op_eq (pv 2) (pe_un un_neg pe_int) (nomark _)) (pw_and1 (pt_chain op_le op_le pe_int (pv 3) (pe_fld (pv 0) rfl))))) (pw_or1 (PW.pt (pw_and (pt_cmpR op_eq (pv 2) (pe_fld (pv 0) rfl) (nomark _)) (pw_and1 (pt_chain op_le op_lt (pe_un un_neg pe_int) (pv 3) (pe_fld (pv 0) rfl))))))))
      (pss_one (ps_ret pe_str)) pss_nil)
      (pss_cons (ps_if (PW.pt (pw_and (pt_chain op_le op_lt pe_int (pv 2) (pe_fld (pv 0) rfl)) (pw_and1 (PW.pt (pw_or (pt_cmpR op_eq (pv 3) (pe_un un_neg pe_int) (nomark _)) (pw_or1 (pt_cmpR op_eq (pv 3) (pe_fld (pv 0) rfl) (nomark _))))))))
      (pss_one (ps_ret pe_str)) pss_nil)
      (pss_one (ps_ret pe_non)))))), ?_⟩
  refine ⟨_, rfl, t, _, rfl, SqT.of ht, rfl, _, _, rfl, _, _, rfl, rfl, ?_⟩
  refine ⟨_, rfl, p, dx, _, rfl, hp, bfl_has _ _ _, _, rfl, _, rfl, p, l, B, h, w, x.1, x.2, rfl, bt, I, _, rfl, iteD (fun z => ?_) (fun z => ?_)⟩
  · obtain ⟨s, eo, ec⟩ := own_in I fc (q := x) z
    obtain ⟨row, er, mr, lr, ecel, _⟩ := I.at (p := x) z
    rw [ec] at ecel
    rw [eo] at q
    exact ⟨_, rfl, p, _, dx, _, _, rfl, hp, T.cl_Board, T.n_Board_rows, bfl_rows _ _ _, _, rfl, l, _, _, _, rfl, rfl, SqL.of hl, at_int z.1 (rowsV_get er), _, rfl, _, _, _, rfl, rfl, sz_le (by rw [txt_len, lr]; omega), atI_cps z.2.2.1 ecel, q⟩
  have z' : ¬ Ins h w x := z
  have yn : (x.1 = -1 ∧ 0 ≤ x.2 ∧ x.2 ≤ (w : Int)) ∨ (x.1 = (h : Int) ∧ -1 ≤ x.2 ∧ x.2 < (w : Int)) → Q (.str (Str.ofString "n")) H := fun k => by
    have eo : own (cel B) h w x = some false := by
      unfold own
      rw [if_neg z', if_pos k]
    rw [eo] at q
    rw [s_n]
    exact q
  have yw : ¬ ((x.1 = -1 ∧ 0 ≤ x.2 ∧ x.2 ≤ (w : Int)) ∨ (x.1 = (h : Int) ∧ -1 ≤ x.2 ∧ x.2 < (w : Int))) → (0 ≤ x.1 ∧ x.1 < (h : Int) ∧ (x.2 = -1 ∨ x.2 = (w : Int))) → Q (.str (Str.ofString "w")) H := fun k m => by
    have eo : own (cel B) h w x = some true := by
      unfold own
      rw [if_neg z', if_neg k, if_pos m]
    rw [eo] at q
    rw [s_w]
    exact q
  have yo : ¬ ((x.1 = -1 ∧ 0 ≤ x.2 ∧ x.2 ≤ (w : Int)) ∨ (x.1 = (h : Int) ∧ -1 ≤ x.2 ∧ x.2 < (w : Int))) → ¬ (0 ≤ x.1 ∧ x.1 < (h : Int) ∧ (x.2 = -1 ∨ x.2 = (w : Int))) → Q .non H := fun k m => by
    have eo : own (cel B) h w x = none := by
      unfold own
      rw [if_neg z', if_neg k, if_neg m]
    rw [eo] at q
    exact q
  refine ⟨fun σ H' => H = H' ∧ ¬ ((x.1 = -1 ∧ 0 ≤ x.2 ∧ x.2 ≤ (w : Int)) ∨ (x.1 = (h : Int) ∧ -1 ≤ x.2 ∧ x.2 < (w : Int))) ∧ σ = [some (.ref p), some (.ref t), some (.int x.1), some (.int x.2)], ?_, ?_⟩
  · by_cases c1 : x.1 = -1
    · refine ⟨_, rfl, _, rfl, rfl, _, rfl, iteD (fun _ => ?_) (fun y => absurd (congrArg V.int c1) y)⟩
      by_cases c2 : 0 ≤ x.2
      · refine ⟨_, rfl, _, _, rfl, rfl, _, rfl, iteD (fun _ => ?_) (fun y => absurd c2 y)⟩
        refine ⟨_, rfl, p, _, dx, _, _, rfl, hp, T.cl_Board, T.n_Board_width, bfl_width _ _ _, _, _, rfl, rfl, _, rfl, iteD (fun c3 => yn (.inl ⟨c1, c2, c3⟩)) (fun c3 => ?_)⟩
        refine ⟨_, rfl, _, rfl, p, _, dx, _, _, rfl, hp, T.cl_Board, T.n_Board_height, bfl_height _ _ _, rfl, _, rfl, iteD (fun d1 => ?_) (fun d1 => iteF ⟨rfl, by omega, rfl⟩)⟩
        exfalso
        have := V.int.inj d1
        omega
      · refine ⟨_, rfl, _, _, rfl, rfl, _, rfl, iteD (fun y => absurd y c2) (fun _ => ⟨_, rfl, iteF ?_⟩)⟩
        refine ⟨_, rfl, _, rfl, p, _, dx, _, _, rfl, hp, T.cl_Board, T.n_Board_height, bfl_height _ _ _, rfl, _, rfl, iteD (fun d1 => ?_) (fun d1 => iteF ⟨rfl, by omega, rfl⟩)⟩
        exfalso
        have := V.int.inj d1
        omega
    · refine ⟨_, rfl, _, rfl, rfl, _, rfl, iteD (fun y => absurd (V.int.inj y) c1) (fun _ => iteF ?_)⟩
      by_cases d1 : x.1 = (h : Int)
      · refine ⟨_, rfl, _, rfl, p, _, dx, _, _, rfl, hp, T.cl_Board, T.n_Board_height, bfl_height _ _ _, rfl, _, rfl, iteD (fun _ => ?_) (fun y => absurd (congrArg V.int d1) y)⟩
        by_cases d2 : -1 ≤ x.2
        · refine ⟨_, rfl, _, rfl, _, _, rfl, rfl, _, rfl, iteD (fun _ => ?_) (fun y => absurd d2 y)⟩
          exact ⟨_, rfl, p, _, dx, _, _, rfl, hp, T.cl_Board, T.n_Board_width, bfl_width _ _ _, _, _, rfl, rfl, _, rfl, iteD (fun d3 => yn (.inr ⟨d1, d2, d3⟩)) (fun d3 => ⟨rfl, (fun k => k.elim (fun k => c1 k.1) (fun k => d3 k.2.2)), rfl⟩)⟩
        · exact ⟨_, rfl, _, rfl, _, _, rfl, rfl, _, rfl, iteD (fun y => absurd y d2) (fun _ => ⟨_, rfl, iteF ⟨rfl, (fun k => k.elim (fun k => c1 k.1) (fun k => d2 k.2.1)), rfl⟩⟩)⟩
      · exact ⟨_, rfl, _, rfl, p, _, dx, _, _, rfl, hp, T.cl_Board, T.n_Board_height, bfl_height _ _ _, rfl, _, rfl, iteD (fun y => absurd (V.int.inj y) d1) (fun _ => iteF ⟨rfl, (fun k => k.elim (fun k => c1 k.1) (fun k => d1 k.1)), rfl⟩)⟩
  rintro σ H' ⟨rfl, nn, rfl⟩
  by_cases c1 : 0 ≤ x.1
  · refine ⟨_, rfl, _, _, rfl, rfl, _, rfl, iteD (fun _ => ?_) (fun y => absurd c1 y)⟩
    refine ⟨_, rfl, p, _, dx, _, _, rfl, hp, T.cl_Board, T.n_Board_height, bfl_height _ _ _, _, _, rfl, rfl, _, rfl, iteD (fun c2 => ?_) (fun c2 => yo nn fun k => c2 k.2.1)⟩
    refine ⟨_, rfl, _, rfl, rfl, _, rfl, iteD (fun c3 => yw nn ⟨c1, c2, .inl (V.int.inj c3)⟩) (fun c3 => ?_)⟩
    refine ⟨_, rfl, _, rfl, p, _, dx, _, _, rfl, hp, T.cl_Board, T.n_Board_width, bfl_width _ _ _, rfl, _, rfl, iteD (fun c4 => yw nn ⟨c1, c2, .inr (V.int.inj c4)⟩) (fun c4 => yo nn fun k => ?_)⟩
    rcases k.2.2 with k | k
    · exact c3 (congrArg V.int k)
    · exact c4 (congrArg V.int k)
  · exact ⟨_, rfl, _, _, rfl, rfl, _, rfl, iteD (fun y => absurd y c1) (fun _ => ⟨_, rfl, iteF (yo nn fun k => c1 k.1)⟩)⟩
theorem area2 {B : Bd} {h w : Nat} (I : IsB B h w) : 6 * ((h + 2) * (w + 2)) ≤ 726 := by
  have h9 := I.h9
  have w9 := I.w9
  have : (h + 2) * (w + 2) ≤ 11 * 11 := Nat.mul_le_mul (by omega) (by omega)
  omega
/-- what walk tells -/
def WalkIs (H : Hp) (B : Bd) (h w : Nat) (v : V) (H' : Hp) : Prop := ∃ (f : Addr) (ws : List V) (ps : List Pr) (x : Pr), v = .ref f ∧ H f = none ∧ Same H H' ∧ H' f = some (.lst ws) ∧ Pairs H' ws ps ∧ Wk (cel B) h w ps x ∧ stp (cel B) h w x = none
def sp_walk (C CN : Addr) : Sp := fun vs H Q E => ∃ (p l : Addr) (B : Bd) (h w : Nat), vs = [.ref p] ∧ BoardAt C H p l B ∧ IsB B h w ∧ (emptyL B ≠ [] → ∀ H', Same H H' → E (.ref CN) none H') ∧
  (emptyL B = [] → ∀ v H', WalkIs H B h w v H' → Q v H')
theorem ok_walk (T : Top K mg) : FnOk P w K mg base (L2.CX P w) 4 T.a_walk T.d_walk ["board"] (sp_walk T.C_Board T.C_NotFull) := by
  refine T.F_walk.okX sc_walk (fun vs H Q E h => ?_) (fun cdv A outer s H vs Q E hr h => ?_)
  · obtain ⟨_, _, _, _, _, rfl, _⟩ := h
    rfl
  obtain ⟨p, l, B, h, w, rfl, bt, I, qe, qs⟩ := h
  refine ⟨_, (pss_cons (ps_if (pt_cmpR op_gt (pe_callB call_len_seq (by rfl) T.z_len PySem.boot_len (pa_cons (pe_call (ok_empty T) (hr.mono (by decide)) rfl T.m_empty T.F_empty.kp T.B_empty .nil pass0 (pa_cons (pv 0) pa_nil)) pa_nil)) pe_int (nomark _))
      (pss_one (ps_raise rfl (takes_of rfl rfl rfl rfl) (pmk_own PySem.F.excBase_ValueError T.x_NotFull T.mC_NotFull T.k_NotFull (raises_own T.b_NotFull T.t_NotFull) rfl))) pss_nil)
      (pss_cons (ps_asg (pe_tup (pa_cons (pe_tup (pa_cons (pe_un un_neg pe_int) (pa_cons pe_int pa_nil))) (pa_cons (pe_tup (pa_cons pe_int (pa_cons (pe_un un_neg pe_int) pa_nil))) pa_nil))) (pg_tup rfl (pgs_cons (pg_name (i := 2) sc_walk.nd rfl (Or.inl rfl)) (pgs_cons (pg_name (i := 3) sc_walk.nd rfl (Or.inl rfl)) pgs_nil))))
      (pss_cons (ps_set (i := 1) sc_walk.nd rfl (Or.inl rfl) (pe_lst pa_nil))
      (pss_one (ps_while (passes_of rfl) (pt_val pe_bl)
      (pss_cons (ps_expr (pe_bm PySem.F.plainAttrs_list PySem.F.slot_list_append PySem.F.type_list_append mt_append (pv 1) (pa_cons (pe_tup (pa_cons (pv 2) (pa_cons (pv 3) pa_nil))) pa_nil)))
      (pss_cons (ps_set (i := 4) sc_walk.nd rfl (Or.inl rfl) (pe_call (ok_near T) (hr.mono (by decide)) rfl T.m_near T.F_near.kp T.B_near .nil pass0 (pa_cons (pe_ix ix_tup (pv 3) pe_int (fun _ _ => rfl)) (pa_cons (pe_ix ix_tup (pv 3) pe_int (fun _ _ => rfl)) pa_nil))))
      (pss_cons (ps_set (i := 5) sc_walk.nd rfl (Or.inl rfl) (pe_ix ix_list (pv 4) (pe_op op_mod (pe_op op_add (pe_bm PySem.F.plainAttrs_list PySem.F.slot_list_index PySem.F.type_list_index (mt_indexD (hu65 hr)) (pv 4) (pa_cons (pv 2) pa_nil)) pe_int) pe_int) (fun _ _ => rfl)))
      (pss_cons (ps_set (i := 6) sc_walk.nd rfl (Or.inl rfl) (pe_call (ok_owner T) (hr.mono (by decide)) rfl T.m_owner T.F_owner.kp T.B_owner .nil pass0 (pa_cons (pv 0) (pa_cons (pv 5) pa_nil))))
      (pss_cons (ps_if (pt_cmpR op_isN (pv 6) pe_non (nomark _))
      (pss_one (ps_ret (pv 1))) pss_nil)
      (pss_one (ps_if (pt_cmpR op_eq (pv 6) pe_str (nomark _))
      (pss_one (ps_set (i := 2) sc_walk.nd rfl (Or.inl rfl) (pv 5))) (pss_one (ps_set (i := 3) sc_walk.nd rfl (Or.inl rfl) (pv 5))))))))))))))), ?_⟩
  refine ⟨_, rfl, p, l, B, h, w, rfl, bt, I, fun v H1 ⟨n, ws, ev, nn, s1, hn, hc⟩ => ?_⟩
  subst ev
  have lw := hc.len
  refine ⟨n, _, rfl, .inl (SqL.of hn), _, _, rfl, rfl, _, rfl, iteD (fun c => ?_) (fun c => ?_)⟩
  · refine qe (fun z => ?_) _ s1
    rw [z] at lw
    have : ws.length = 0 := lw
    omega
  have z : emptyL B = [] := by
    cases e : emptyL B with
    | nil => rfl
    | cons a as =>
      exfalso
      rw [e, List.length_cons] at lw
      omega
  have fc : ∀ y, cel B y ≠ 46 := fun y e => by
    have := mem_emptyL.mpr e
    rw [z] at this
    cases this
  have hq := qs z
  have a2 := area2 I
  -- one, two; found
  refine ⟨_, rfl, sz2, fun a ha => ?_⟩
  have sa := same_new ha (.tup (cellV st0.1))
  have ha1 : upd H1 a (.tup (cellV st0.1)) a = some (.tup (cellV st0.1)) := upd_same
  refine ⟨_, rfl, sz2, fun b hb => ?_⟩
  have sb := same_new hb (.tup (cellV st0.2))
  have ha2 := sb _ _ ha1
  have hb2 : upd (upd H1 a (.tup (cellV st0.1))) b (.tup (cellV st0.2)) b = some (.tup (cellV st0.2)) := upd_same
  refine ⟨sz2, fun tt htt => ?_⟩
  have stt := same_new htt (.tup [V.ref a, V.ref b])
  refine ⟨tt, _, rfl, SqT.of upd_same, rfl, _, _, rfl, _, _, rfl, rfl, ?_⟩
  refine ⟨sz0, fun f hf => ?_⟩
  have s2 := s1.trans (sa.trans (sb.trans stt))
  replace ha2 := stt _ _ ha2
  replace hb2 := stt _ _ hb2
  have nf : H f = none := s2.free hf
  have sf := same_new hf (.lst [])
  -- the loop
  refine ⟨fun m σ H' => ∃ (ps : List Pr) (x : Pr) (ws : List V) (a b : Addr) (v1 v2 v3 : Option V), m = 800 - ps.length ∧ Same H H' ∧ H' f = some (.lst ws) ∧ Pairs H' ws ps ∧ Wk (cel B) h w (ps ++ [x]) x ∧ H' a = some (.tup (cellV x.1)) ∧ H' b = some (.tup (cellV x.2)) ∧
    σ = [some (.ref p), some (.ref f), some (.ref a), some (.ref b), v1, v2, v3], ⟨800, [], st0, [], a, b, _, _, _, rfl, s2.trans sf, upd_same, .nil, .one, sf _ _ ha2, sf _ _ hb2, rfl⟩, ?_⟩
  rintro m σ H4 ⟨ps, x, ws, a, b, v1, v2, v3, rfl, s4, hf4, hp4, wk, ha4, hb4, rfl⟩
  have bd := wk.bound I.h1
  have vl := wk.vld I.h1
  rw [List.length_append] at bd
  have bd' : ps.length + 1 ≤ 726 := Nat.le_trans bd a2
  have lp := hp4.len
  refine ⟨_, rfl, iteT ⟨fun σ' H' => ∃ (ps' : List Pr) (x : Pr) (ws : List V) (a b : Addr) (v1 v2 v3 : Option V), ps'.length = ps.length + 1 ∧ Same H H' ∧ H' f = some (.lst ws) ∧ Pairs H' ws ps' ∧ Wk (cel B) h w (ps' ++ [x]) x ∧ H' a = some (.tup (cellV x.1)) ∧ H' b = some (.tup (cellV x.2)) ∧
    σ' = [some (.ref p), some (.ref f), some (.ref a), some (.ref b), v1, v2, v3], ?_, ?_⟩⟩
  · rintro σ' H' ⟨ps', x', ws', a', b', u1, u2, u3, l', r'⟩
    exact ⟨800 - ps'.length, by omega, ps', x', ws', a', b', u1, u2, u3, rfl, r'⟩
  -- found.append
  refine ⟨_, rfl, .inl ⟨rfl, _, SqL.of hf4⟩, _, rfl, _, rfl, sz2, fun t ht => ?_⟩
  have st := same_new ht (.tup [V.ref a, V.ref b])
  have hf5 := st _ _ hf4
  refine ⟨f, ws, _, rfl, rfl, hf5, sz_lt (by omega), ?_⟩
  have hp6 : Pairs (upd (upd H4 t (.tup [V.ref a, V.ref b])) f (.lst (ws ++ [V.ref t]))) (ws ++ [V.ref t]) (ps ++ [x]) := ((hp4.same st).app (.cons upd_same (st _ _ ha4) (st _ _ hb4) .nil)).tps (.lst hf5)
  have ha6 := (Tps.lst (o := .lst (ws ++ [V.ref t])) hf5) _ _ (st _ _ ha4)
  have hb6 := (Tps.lst (o := .lst (ws ++ [V.ref t])) hf5) _ _ (st _ _ hb4)
  have s6 := same_mut (o := .lst (ws ++ [V.ref t])) (s4.trans st) nf
  have hf6 : upd (upd H4 t (.tup [V.ref a, V.ref b])) f (.lst (ws ++ [V.ref t])) f = some (.lst (ws ++ [V.ref t])) := upd_same
  revert hp6 ha6 hb6 s6 hf6
  generalize upd (upd H4 t (.tup [V.ref a, V.ref b])) f (.lst (ws ++ [V.ref t])) = H6
  intro hp6 ha6 hb6 s6 hf6
  -- around, ahead
  refine ⟨_, rfl, b, _, _, _, rfl, rfl, SqT.of hb6, atI_nat (j := 0) rfl, _, rfl, b, _, _, _, rfl, rfl, SqT.of hb6, atI_nat (j := 1) rfl, x.2.1, x.2.2, rfl, fun r H7 rs s7 nr hr7 cr => ?_⟩
  refine gn ?_
  obtain ⟨j, j6, ej, en, no⟩ := near_next vl.nr
  obtain ⟨ac, eac, hac⟩ := cr.at en
  have ha7 := s7 _ _ ha6
  have hb7 := s7 _ _ hb6
  refine ⟨_, rfl, _, rfl, .inl ⟨rfl, _, SqL.of hr7⟩, _, rfl, r, .ref a, cellD x.1, (near6 x.2).map cellD, j, cellD x.1, rfl, rfl, .lst (SqL.of hr7) cr.dp, cell_dp ha7, shaped_cells _, shaped_cell _, ?_, by rw [eqv_cell, decide_eq_true rfl], fun k z' hk ez => ?_, _, _, rfl, rfl, _, _, rfl, rfl, (show (0 : Int) < 6 by decide), r, _, _, V.ref ac, rfl, rfl, SqL.of hr7, ?_, ?_⟩
  · rw [List.getElem?_map, ej]
    rfl
  · obtain ⟨c, ec, rfl⟩ := map_get ez
    rw [eqv_cell, decide_eq_false (no k c hk ec)]
  · have e1 : ((j : Int) + 1) % 6 = (((j + 1) % 6 : Nat) : Int) := by omega
    show atI rs (((j : Int) + 1) % 6) = some (.ref ac)
    rw [e1]
    exact atI_nat eac
  refine gn ?_
  refine ⟨_, rfl, _, rfl, p, l, B, h, w, ac, ahd x.1 x.2, rfl, bt.same (s6.trans s7), I, fc, hac, ?_⟩
  cases eo : own (cel B) h w (ahd x.1 x.2) with
  | none =>
    have es : stp (cel B) h w x = none := by
      unfold stp
      rw [eo]
    refine ⟨_, rfl, rfl, _, rfl, iteD (fun _ => ?_) (fun y => absurd rfl y)⟩
    exact ⟨_, rfl, hq _ _ ⟨f, _, _, x, rfl, nf, s6.trans s7, s7 _ _ hf6, hp6.same s7, wk, es⟩⟩
  | some s =>
    refine ⟨_, rfl, rfl, _, rfl, iteD (fun y => by cases y) (fun _ => ?_)⟩
    have ll : (ps ++ [x]).length = ps.length + 1 := by rw [List.length_append]; rfl
    cases s with
    | false =>
      have es : stp (cel B) h w x = some (ahd x.1 x.2, x.2) := by
        unfold stp
        rw [eo]
      refine ⟨_, rfl, rfl, _, rfl, iteD (fun _ => ?_) (fun y => absurd (by rw [s_n]; rfl) y)⟩
      exact ⟨_, rfl, ps ++ [x], _, _, _, _, _, _, _, ll, s6.trans s7, s7 _ _ hf6, hp6.same s7, .snoc wk es, hac, hb7, rfl⟩
    | true =>
      have es : stp (cel B) h w x = some (x.1, ahd x.1 x.2) := by
        unfold stp
        rw [eo]
      refine ⟨_, rfl, rfl, _, rfl, iteD (fun y => absurd (hand_n.mp y) (by decide)) (fun _ => ?_)⟩
      exact ⟨_, rfl, ps ++ [x], _, _, _, _, _, _, _, ll, s6.trans s7, s7 _ _ hf6, hp6.same s7, .snoc wk es, ha7, hac, rfl⟩
end
end Sw
namespace Sw
open PySem PySem.Spec PyProof.Rows L2
section
variable {P : Program} {w : World} {K : PySem.W.Frag} {mg : Str → Option Value} {base : Heap}
/-! games -/
theorem nw_k (k : Nat) : atI (Str.ofString "nw").cps.toList ((k : Int) % 2) = some (ltk k) := by
  rw [s_nw]
  unfold ltk
  have : k % 2 = 0 ∨ k % 2 = 1 := by omega
  rcases this with e | e
  · rw [show (k : Int) % 2 = 0 by omega, decide_eq_false (by omega)]
    rfl
  · rw [show (k : Int) % 2 = 1 by omega, decide_eq_true e]
    rfl
/-- Game(height, width) -/
def sp_Game_init (C CB : Addr) : Sp := fun vs H Q E => ∃ (p dx : Addr) (h w : Int), vs = [.ref p, .int h, .int w] ∧ H p = some (.ins C dx []) ∧
  (¬ (1 ≤ h ∧ h ≤ 9 ∧ 1 ≤ w ∧ w ≤ 9) → E (.ref CB) none H) ∧
  ((1 ≤ h ∧ h ≤ 9 ∧ 1 ≤ w ∧ w ≤ 9) → ∀ (H' : Hp) (l : Addr), (∀ b o, H b = some o → b ≠ p → H' b = some o) → H l = none → l ≠ p → H' p = some (.ins C dx (gfl l h w)) → H' l = some (.lst []) → Q .non H')
theorem ok_Game_init (T : Top K mg) : FnOk P w K mg base (L2.CX P w) 1 T.a_Game___init__ T.d_Game___init__ ["self", "height", "width"] (sp_Game_init T.C_Game T.C_BadBoard) := by
  refine T.F_Game___init__.okX sc_Game___init__ (fun vs H Q E h => ?_) (fun cdv A outer s H vs Q E hr h => ?_)
  · obtain ⟨_, _, _, _, rfl, _⟩ := h
    rfl
  obtain ⟨p, dx, h, w, rfl, hp, qb, qg⟩ := h
  refine ⟨_, (pss_cons (ps_if (PW.pt (pw_or (pt_not (pt_chain op_le op_le pe_int (pv 1) (pe_glob (v := .int 9) rfl T.g_MOST ⟨_, rfl⟩))) (pw_or1 (pt_not (pt_chain op_le op_le pe_int (pv 2) (pe_glob (v := .int 9) rfl T.g_MOST ⟨_, rfl⟩))))))
      (pss_one (ps_raise rfl (takes_of rfl rfl rfl rfl) (pmk_own PySem.F.excBase_ValueError T.x_BadBoard T.mC_BadBoard T.k_BadBoard (raises_own T.b_BadBoard T.t_BadBoard) rfl))) pss_nil)
      (pss_cons (ps_fld (pv 0) (pv 1) rfl)
      (pss_cons (ps_fld (pv 0) (pv 2) rfl)
      (pss_one (ps_fld (pv 0) (pe_lst pa_nil) rfl))))), ?_⟩
  refine ⟨_, rfl, _, _, rfl, rfl, _, rfl, ?_⟩
  refine iteD (fun c1 => ?_) (fun c1 => ⟨_, rfl, iteT (qb fun z => c1 z.1)⟩)
  refine ⟨_, _, rfl, rfl, _, rfl, ?_⟩
  refine iteN (fun c2 => qb fun z => c2 z.2.1) (fun c2 => ?_)
  refine ⟨_, rfl, _, _, rfl, rfl, _, rfl, ?_⟩
  refine iteD (fun c3 => ?_) (fun c3 => ⟨_, rfl, iteT (qb fun z => c3 z.2.2.1)⟩)
  refine ⟨_, _, rfl, rfl, _, rfl, ?_⟩
  refine iteN (fun c4 => qb fun z => c4 z.2.2.2) (fun c4 => ?_)
  refine ⟨_, rfl, _, rfl, p, T.C_Game, dx, [], rfl, hp, T.cl_Game, T.n_Game_height, (by show 0 < 1000; decide), ?_⟩
  refine ⟨_, rfl, _, rfl, p, T.C_Game, dx, _, rfl, upd_same, T.cl_Game, T.n_Game_width, (by show 1 < 1000; decide), ?_⟩
  refine ⟨sz0, fun l hl => ?_⟩
  have npl : p ≠ l := fun z => by rw [← z, upd_same] at hl; cases hl
  refine ⟨_, rfl, p, T.C_Game, dx, _, rfl, (by rw [upd_ne npl]; exact upd_same), T.cl_Game, T.n_Game_played, ?_, ?_⟩
  · show List.length (putF "width" (.int w) [("height", .int h)]) < 1000
    rw [pt_p (by decide +kernel)]
    show 2 < 1000
    decide
  have nl : H l = none := by
    rw [upd_ne (Ne.symm npl), upd_ne (Ne.symm npl)] at hl
    exact hl
  refine qg ⟨c1, c2, c3, c4⟩ _ l (fun b o hb nb => ?_) nl (Ne.symm npl) ?_ ?_
  · rw [upd_ne nb, upd_ne (ne_of_none hb nl), upd_ne nb, upd_ne nb]
    exact hb
  · rw [upd_same]
    exact congrArg (fun z => some (HO.ins T.C_Game dx z)) (gfl_new l h w)
  · rw [upd_ne (Ne.symm npl)]
    exact upd_same
def sp_Game_board (CG CB : Addr) : Sp := fun vs H Q _ => ∃ (p l : Addr) (h w : Nat) (cs : List Cell), vs = [.ref p] ∧ GameAt CG H p l h w cs ∧ ∀ (o lb : Addr) (H' : Hp), Same H H' → H o = none → H lb = none → BoardAt CB H' o lb (shB h w cs) → Q (.ref o) H'
theorem ok_Game_board (T : Top K mg) : FnOk P w K mg base CX0 5 T.a_Game_board T.d_Game_board ["self"] (sp_Game_board T.C_Game T.C_Board) := by
  refine T.F_Game_board.ok sc_Game_board (fun vs H Q E h => ?_) (fun cdv A outer s H vs Q E hr h => ?_)
  · obtain ⟨_, _, _, _, _, rfl, _⟩ := h
    rfl
  obtain ⟨p, l, h, w, cs, rfl, g, q⟩ := h
  have hu := hu_of hr
  refine ⟨_, (pss_cons (ps_set (i := 1) sc_Game_board.nd rfl (Or.inr rfl) pe_dnewT)
      (pss_cons (ps_for PassesOwn.never rfl (pi_enum (by rfl) T.z_enumerate (pa_cons (pe_fld (pv 0) rfl) pa_nil)) (pg_tup rfl (pgs_cons (pg_name (i := 4) sc_Game_board.nd rfl (Or.inl rfl)) (pgs_cons (pg_name (i := 5) sc_Game_board.nd rfl (Or.inl rfl)) pgs_nil)))
      (pss_one (ps_dput hu (pv 1) (pv 5) (pe_ix ix_str pe_str (pe_op op_mod (pv 4) pe_int) (fun _ _ => rfl)) rfl)))
      (pss_cons (ps_set (i := 2) sc_Game_board.nd rfl (Or.inl rfl) (pe_lst pa_nil))
      (pss_cons (ps_for PassesOwn.never rfl (pi_range1 rfl T.z_range (pa_cons (pe_fld (pv 0) rfl) pa_nil)) (pg_name (i := 3) sc_Game_board.nd rfl (Or.inr rfl))
      (pss_one (ps_expr (pe_bm PySem.F.plainAttrs_list PySem.F.slot_list_append PySem.F.type_list_append mt_append (pv 2) (pa_cons (pe_join pe_str (pe_lc (own := [("c", 6)]) (g := gName 6) (tt := tYes) rfl sc_Game_board.nd (pi_range1 rfl T.z_range (pa_cons (pe_fld (pv 0) rfl) pa_nil)) (blkOk_by (own := [("c", 6)]) (N := N_Game_board) (sc := defScope s_Game_board) (by decide +kernel)) (fun _ _ _ _ _ => (pg_name (i := 6) sc_Game_board.nd rfl (Or.inl rfl))) (fun _ _ _ _ _ => pts_nil) (fun _ _ _ _ _ => (pe_dget2 hu (pv 1) (pe_tup (pa_cons (pv 3) (pa_cons (pv 6) pa_nil))) pe_str ⟨by rfl, by rfl, by rfl, by rfl⟩)))) pa_nil)))))
      (pss_one (ps_ret (pe_make T.Mk_Board (ok_Board_init T) (hr.mono (by decide)) (by rfl) T.mC_Board T.B_Board___init__ .nil passL (pa_cons (pv 2) pa_nil)))))))), ?_⟩
  have I := g.isB
  have h9 := g.h9
  have w9 := g.w9
  have many := g.many
  obtain ⟨dx, hp⟩ := g.ob
  obtain ⟨ws, hl, hc⟩ := g.ls
  have lw := hc.len
  -- signs
  refine fun d hd => ?_
  have s1 := same_new hd (.dT [])
  refine ⟨_, rfl, p, _, dx, _, _, rfl, s1 _ _ hp, T.cl_Game, T.n_Game_played, gfl_played _ _ _, l, _, rfl, SqL.of (s1 _ _ hl),
    for_it walk_enum (fun i σ H' => Same H H' ∧ H' d = some (.dT (kvA 0 (cs.take i))) ∧ ∃ v1 v2, σ = [some (.ref p), some (.ref d), none, none, v1, v2, none]) ⟨s1, upd_same, _, _, rfl⟩ (fun i σ H' _ ⟨s, _⟩ => SqL.of (s _ _ hl)) ?_ ?_⟩
  · rintro i x σ H1 H2 hi ⟨s2, hd2, v1, v2, rfl⟩ ⟨t, x1, x2, rfl, ht, rfl, ex1, ex2⟩
    cases ex1
    obtain ⟨a, c, rfl, ec, ha⟩ := hc.get ex2
    have st := same_new ht (.tup [.int (i : Int), .ref a])
    refine ⟨t, _, rfl, SqT.of upd_same, rfl, _, _, rfl, _, _, rfl, rfl, ?_⟩
    refine ⟨_, rfl, _, _, rfl, rfl, (show (0 : Int) < 2 by decide), _, _, _, rfl, rfl, (show (2 : Nat) ≤ sizeLine by decide), nw_k i, ?_⟩
    have hd3 := st _ _ hd2
    have lt2 := List.length_take_le' i cs
    have hv : valV (kvA 0 (cs.take i)) (keyOf c) = none := by
      cases e : valV (kvA 0 (cs.take i)) (keyOf c) with
      | none => rfl
      | some x =>
        have m := val_some.mp (show (valV (kvA 0 (cs.take i)) (keyOf c)).isSome = true by rw [e]; rfl)
        rw [kvA_keys] at m
        obtain ⟨y, hy, ey⟩ := List.mem_map.mp m
        exact absurd (keyOf_inj ey ▸ hy) (nodup_take g.nd ec)
    refine ⟨_, rfl, _, rfl, d, _, rfl, DPut.t (k := keyOf c) hd3 ((s2.trans st) _ _ ha) (sz_lt (by rw [kvA_len]; omega)), ?_⟩
    refine ⟨same_mut (s2.trans st) hd, ?_, _, _, rfl⟩
    rw [upd_same, putK_new _ hv, take_snoc ec, kvA_snoc, List.length_take, Nat.zero_add, Nat.min_eq_left (by omega)]
    rfl
  rintro σ H2 ⟨s2, hd2, v1, v2, rfl⟩
  rw [lw, List.take_length] at hd2
  -- rows
  refine ⟨sz0, fun n hn => ?_⟩
  have s3 := s2.trans (same_new hn (.lst []))
  have hd3 := (same_new hn (.lst [])) _ _ hd2
  have nd : n ≠ d := fun z => by rw [z, hd2] at hn; cases hn
  refine ⟨_, rfl, p, _, dx, _, _, rfl, s3 _ _ hp, T.cl_Game, T.n_Game_height, gfl_height _ _ _, (h : Int), rfl, by omega, by omega,
    for_range (lo := 0) (n := h) (fun i σ H' => Same H H' ∧ H' d = some (.dT (kvA 0 cs)) ∧ H' n = some (.lst (rowsV ((List.range i).map (shR w cs)))) ∧ ∃ v3, σ = [some (.ref p), some (.ref d), some (.ref n), v3, v1, v2, none]) ⟨s3, hd3, upd_same, _, rfl⟩ ?_ ?_⟩
  · rintro i σ H4 hi ⟨s4, hd4, hn4, v3, rfl⟩
    refine ⟨_, rfl, .inl ⟨rfl, _, SqL.of hn4⟩, ⟨_, rfl⟩, _, rfl, p, _, dx, _, _, rfl, s4 _ _ hp, T.cl_Game, T.n_Game_width, gfl_width _ _ _, (w : Int), rfl, by omega, by omega, fun D hD =>
      lc_it walk_range (fun j H' => Same H4 H' ∧ H' D = some (.lst (((List.range j).map fun c : Nat => sgA 0 cs (((0 : Int) + (i : Int)), ((0 : Int) + (c : Int)))).map fun c => V.str (txt [c])))) ⟨same_new hD _, upd_same⟩ (fun _ _ _ _ => trivial)
        (fun j x H5 H6 hj ⟨s5, h5⟩ ⟨e6, ex⟩ => ?_) (fun H5 ⟨s5, h5⟩ => ?_)⟩
    · subst e6 ex
      refine ⟨rfl, _, rfl, d, rfl, .inr ⟨_, .inl (s5 _ _ hd4)⟩, _, rfl, _, rfl, sz2, fun t ht => ?_⟩
      have st := same_new ht (.tup (cellV (((0 : Int) + (i : Int)), ((0 : Int) + (j : Int)))))
      refine ⟨_, DGet.t (k := keyOf (((0 : Int) + (i : Int)), ((0 : Int) + (j : Int)))) (st _ _ (s5 _ _ hd4)) upd_same, ?_⟩
      rw [s_dot, kvA_get]
      refine ⟨_, st _ _ h5, sz_lt (by rw [List.length_map, List.length_map, List.length_range]; omega), same_mut (s5.trans st) hD, ?_⟩
      rw [upd_same, List.range_succ, List.map_append, List.map_append]
      rfl
    · have e1 : (w : Int).toNat = w := Int.toNat_natCast w
      rw [e1] at h5
      have er : ((List.range w).map fun c : Nat => sgA 0 cs (((0 : Int) + (i : Int)), ((0 : Int) + (c : Int)))) = shR w cs i := by
        unfold shR
        refine List.map_congr_left fun c _ => ?_
        rw [Int.zero_add, Int.zero_add]
      rw [er] at h5
      have h3 : H5 D = some (.lst (((shR w cs i).map fun c => txt [c]).map V.str)) := by
        rw [h5, List.map_map]
        rfl
      have len1 : ∀ l : List Nat, ((l.map fun c => txt [c]).map fun x : Str => x.length).sum = l.length := by
        intro l
        induction l with
        | nil => rfl
        | cons a l ih =>
          rw [List.map_cons, List.map_cons, List.sum_cons, ih, List.length_cons]
          show 1 + l.length = l.length + 1
          omega
      have ltc : (shR w cs i).length = w := by
        unfold shR
        rw [List.length_map, List.length_range]
      refine ⟨_, D, (shR w cs i).map fun c => txt [c], rfl, rfl, .inl (SqL.of h3), ?_, ?_⟩
      · rw [s_nil, len1, List.length_map, ltc]
        show w + w * 0 ≤ 16777216
        omega
      rw [s_nil, join_txt]
      refine ⟨n, _, _, rfl, rfl, s5 _ _ hn4, ?_, ?_⟩
      · rw [rowsV_len, List.length_map, List.length_range]
        exact sz_lt (by omega)
      refine ⟨same_mut (s4.trans s5) (s2.free hn), ?_, ?_, _, rfl⟩
      · rw [upd_ne (Ne.symm nd)]
        exact s5 _ _ hd4
      · rw [upd_same, List.range_succ]
        unfold rowsV
        rw [List.map_append, List.map_append]
        rfl
  · rintro σ H4 ⟨s4, hd4, hn4, v3, rfl⟩
    refine ⟨_, rfl, fun o d' no nd' ndo => ?_⟩
    have so := ((same_new nd' (.own o)).trans (same_new (by rw [upd_ne (Ne.symm ndo)]; exact no) (.ins T.C_Board d' [])))
    refine ⟨o, d', n, _, rfl, upd_same, so _ _ hn4, I.small, fun hb => ?_, fun _ H5 l5 k5 n5 b5 => ⟨rfl, ?_⟩⟩
    · have gg := I.good
      unfold shB at gg
      rw [gg] at hb
      cases hb
    · exact q o l5 H5 (s4.trans (made_board no nd' k5)) (s4.free no) ((s4.trans so).free n5) b5
def sp_Game_won (C : Addr) : Sp := fun vs H Q _ => ∃ (p l : Addr) (h w : Nat) (cs : List Cell), vs = [.ref p] ∧ GameAt C H p l h w cs ∧ ∀ H' : Hp, Same H H' → Q (wonV (wonO (shB h w cs))) H'
theorem ok_Game_won (T : Top K mg) : FnOk P w K mg base CX0 6 T.a_Game_won T.d_Game_won ["self"] (sp_Game_won T.C_Game) := by
  refine T.F_Game_won.ok sc_Game_won (fun vs H Q E h => ?_) (fun cdv A outer s H vs Q E hr h => ?_)
  · obtain ⟨_, _, _, _, _, rfl, _⟩ := h
    rfl
  obtain ⟨p, l, h, w, cs, rfl, g, q⟩ := h
  refine ⟨_, (pss_cons (ps_set (i := 1) sc_Game_won.nd rfl (Or.inl rfl) (pe_meth0 (pv 0) T.cl_Game T.M_Game_board (ok_Game_board T) (hr.mono (by decide)) T.B_Game_board .nil pass0))
      (pss_cons (ps_for PassesOwn.never rfl (pi_list (pe_lst (pa_cons pe_str (pa_cons pe_str pa_nil)))) (pg_name (i := 2) sc_Game_won.nd rfl (Or.inl rfl))
      (pss_one (ps_if (pt_val (pe_call (ok_joined T) (hr.mono (by decide)) rfl T.m_joined T.F_joined.kp T.B_joined .nil pass0 (pa_cons (pv 1) (pa_cons (pv 2) pa_nil))))
      (pss_one (ps_ret (pv 2))) pss_nil)))
      (pss_one (ps_ret pe_non)))), ?_⟩
  have I := g.isB
  obtain ⟨dx, hp⟩ := g.ob
  refine ⟨_, rfl, p, dx, _, rfl, hp, gfl_no (by decide +kernel) (by decide +kernel) (by decide +kernel) _ _ _, p, l, h, w, cs, rfl, g, fun o lb H1 s1 no _ bt => ?_⟩
  refine gn ?_
  refine ⟨sz2, fun f hf => ?_⟩
  have sf := same_new hf (.lst [V.str (Str.ofString "n"), V.str (Str.ofString "w")])
  have hf2 : upd H1 f (.lst [V.str (Str.ofString "n"), V.str (Str.ofString "w")]) f = some (.lst ([false, true].map fun s => V.str (txt [lt s]))) := by rw [s_n, s_w]; exact upd_same
  refine ⟨f, rfl, ⟨_, SqL.of upd_same⟩, for_list (K := K) (a := f) (xs := [false, true].map fun s => V.str (txt [lt s])) (fun i σ H' => Same (upd H1 f (.lst [V.str (Str.ofString "n"), V.str (Str.ofString "w")])) H' ∧ (0 < i → jB (shB h w cs) false = false) ∧ (1 < i → jB (shB h w cs) true = false) ∧
    ∃ v, σ = [some (.ref p), some (.ref o), v]) ⟨.refl _, (fun z => absurd z (Nat.lt_irrefl _)), (fun z => absurd z (by decide)), _, rfl⟩ (fun i σ H' _ ⟨e, _⟩ => SqL.of (e _ _ hf2)) ?_ ?_⟩
  · rintro i x σ H2 hi ⟨s2, w1, w2, v, rfl⟩
    have i2 : i = 0 ∨ i = 1 := by
      have : i < 2 := (List.getElem?_eq_some_iff.mp hi).1
      omega
    rcases i2 with rfl | rfl
    · cases hi
      refine ⟨_, rfl, _, rfl, o, lb, _, h, w, false, rfl, (bt.same sf).same s2, I, fun H3 s3 => ⟨_, rfl, iteB (fun e => ?_) (fun e => ⟨s2.trans s3, fun _ => e, fun z => absurd z (by decide), _, rfl⟩)⟩⟩
      have qq := q H3 (s1.trans (sf.trans (s2.trans s3)))
      rw [(wonO_some I).mpr e] at qq
      exact ⟨_, rfl, qq⟩
    · cases hi
      refine ⟨_, rfl, _, rfl, o, lb, _, h, w, true, rfl, (bt.same sf).same s2, I, fun H3 s3 => ⟨_, rfl, iteB (fun e => ?_) (fun e => ⟨s2.trans s3, fun _ => w1 (by decide), fun _ => e, _, rfl⟩)⟩⟩
      have qq := q H3 (s1.trans (sf.trans (s2.trans s3)))
      rw [(wonO_some I).mpr e] at qq
      exact ⟨_, rfl, qq⟩
  · rintro σ H2 ⟨s2, w1, w2, v, rfl⟩
    have qq := q H2 (s1.trans (sf.trans s2))
    rw [wonO_none.mpr ⟨w1 (show 0 < 2 by decide), w2 (show 1 < 2 by decide)⟩] at qq
    exact qq
def sp_Game_play (C CO CN CT : Addr) : Sp := fun vs H Q E => ∃ (p l : Addr) (h w : Nat) (cs : List Cell) (r c : Int), vs = [.ref p, .int r, .int c] ∧ GameAt C H p l h w cs ∧
  (wonO (shB h w cs) ≠ none → ∀ H', Same H H' → E (.ref CO) none H') ∧ (wonO (shB h w cs) = none → ¬ Ins h w (r, c) → ∀ H', Same H H' → E (.ref CN) none H') ∧
  (wonO (shB h w cs) = none → Ins h w (r, c) → (r, c) ∈ cs → ∀ H', Same H H' → E (.ref CT) none H') ∧
  (wonO (shB h w cs) = none → Ins h w (r, c) → (r, c) ∉ cs → ∀ H', Keep l H H' → GameAt C H' p l h w (cs ++ [(r, c)]) → Q .non H')
theorem ok_Game_play (T : Top K mg) : FnOk P w K mg base (L2.CX P w) 7 T.a_Game_play T.d_Game_play ["self", "r", "c"] (sp_Game_play T.C_Game T.C_Over T.C_NoCell T.C_Taken) := by
  refine T.F_Game_play.okX sc_Game_play (fun vs H Q E h => ?_) (fun cdv A outer s H vs Q E hr h => ?_)
  · obtain ⟨_, _, _, _, _, _, _, rfl, _⟩ := h
    rfl
  obtain ⟨p, l, h, w, cs, r, c, rfl, g, qo, qn, qt, q⟩ := h
  refine ⟨_, (pss_cons (ps_if (pt_cmpR op_notN (pe_meth0 (pv 0) T.cl_Game T.M_Game_won (ok_Game_won T) (hr.mono (by decide)) T.B_Game_won .nil pass0) pe_non (nomark _))
      (pss_one (ps_raise rfl (takes_of rfl rfl rfl rfl) (pmk_own PySem.F.excBase_ValueError T.x_Over T.mC_Over T.k_Over (raises_own T.b_Over T.t_Over) rfl))) pss_nil)
      (pss_cons (ps_if (PW.pt (pw_or (pt_not (pt_chain op_le op_lt pe_int (pv 1) (pe_fld (pv 0) rfl))) (pw_or1 (pt_not (pt_chain op_le op_lt pe_int (pv 2) (pe_fld (pv 0) rfl))))))
      (pss_one (ps_raise rfl (takes_of rfl rfl rfl rfl) (pmk_own PySem.F.excBase_ValueError T.x_NoCell T.mC_NoCell T.k_NoCell (raises_own T.b_NoCell T.t_NoCell) rfl))) pss_nil)
      (pss_cons (ps_if (pt_cmpR (op_inD (hu65 hr)) (pe_tup (pa_cons (pv 1) (pa_cons (pv 2) pa_nil))) (pe_fld (pv 0) rfl) (by rfl))
      (pss_one (ps_raise rfl (takes_of rfl rfl rfl rfl) (pmk_own PySem.F.excBase_ValueError T.x_Taken T.mC_Taken T.k_Taken (raises_own T.b_Taken T.t_Taken) rfl))) pss_nil)
      (pss_one (ps_expr (pe_bm PySem.F.plainAttrs_list PySem.F.slot_list_append PySem.F.type_list_append mt_append (pe_fld (pv 0) rfl) (pa_cons (pe_tup (pa_cons (pv 1) (pa_cons (pv 2) pa_nil))) pa_nil))))))), ?_⟩
  have many := g.many
  obtain ⟨dx, hp⟩ := g.ob
  obtain ⟨ws, hl, hc⟩ := g.ls
  have lw := hc.len
  refine ⟨_, rfl, p, dx, _, rfl, hp, gfl_no (by decide +kernel) (by decide +kernel) (by decide +kernel) _ _ _, p, l, h, w, cs, rfl, g, fun H1 s1 => ?_⟩
  cases e : wonO (shB h w cs) with
  | some s =>
    exact ⟨rfl, _, rfl, iteN (fun _ => qo (by rw [e]; intro z; cases z) _ s1) (fun z => by cases z)⟩
  | none =>
    refine ⟨rfl, _, rfl, iteN (fun z => absurd rfl z) (fun _ => ?_)⟩
    have hp1 := s1 _ _ hp
    refine ⟨_, rfl, _, _, rfl, rfl, _, rfl, ?_⟩
    refine iteD (fun c1 => ?_) (fun c1 => ⟨_, rfl, iteT (qn e (fun z => c1 z.1) _ s1)⟩)
    refine ⟨_, rfl, p, _, dx, _, _, rfl, hp1, T.cl_Game, T.n_Game_height, gfl_height _ _ _, _, _, rfl, rfl, _, rfl, iteN (fun c2 => qn e (fun z => c2 z.2.1) _ s1) (fun c2 => ?_)⟩
    refine ⟨_, rfl, _, _, rfl, rfl, _, rfl, ?_⟩
    refine iteD (fun c3 => ?_) (fun c3 => ⟨_, rfl, iteT (qn e (fun z => c3 z.2.2.1) _ s1)⟩)
    refine ⟨_, rfl, p, _, dx, _, _, rfl, hp1, T.cl_Game, T.n_Game_width, gfl_width _ _ _, _, _, rfl, rfl, _, rfl, iteN (fun c4 => qn e (fun z => c4 z.2.2.2) _ s1) (fun c4 => ?_)⟩
    have ins : Ins h w (r, c) := ⟨c1, c2, c3, c4⟩
    refine ⟨_, rfl, _, rfl, sz2, fun t ht => ?_⟩
    have st := same_new ht (.tup (cellV (r, c)))
    have s2 := s1.trans st
    have ht2 : upd H1 t (.tup (cellV (r, c))) t = some (.tup (cellV (r, c))) := upd_same
    refine ⟨_, rfl, p, _, dx, _, _, rfl, s2 _ _ hp, T.cl_Game, T.n_Game_played, gfl_played _ _ _, _, _, cell_dp (c := (r, c)) ht2, .lst (SqL.of (s2 _ _ hl)) (hc.same s2).dp, shaped_cell _, shaped_cells _, _, rfl, ?_⟩
    rw [any_cells]
    refine iteD (fun k => qt e ins k _ s2) (fun k => ?_)
    refine ⟨_, rfl, p, _, dx, _, _, rfl, s2 _ _ hp, T.cl_Game, T.n_Game_played, gfl_played _ _ _, .inl ⟨rfl, _, SqL.of (s2 _ _ hl)⟩, _, rfl, _, rfl, sz2, fun u hu => ?_⟩
    have su := same_new hu (.tup (cellV (r, c)))
    have hu3 := upd_same (H := upd H1 t (.tup (cellV (r, c)))) (a := u) (o := HO.tup (cellV (r, c)))
    have s3 := s2.trans su
    have hl3 := s3 _ _ hl
    refine ⟨l, ws, _, rfl, rfl, hl3, sz_lt (by omega), ?_⟩
    have tp := Tps.lst (o := .lst (ws ++ [V.ref u])) hl3
    have npl : p ≠ l := ne_of hp hl (by intro z; cases z)
    refine q e ins k _ ((Keep.of s3).upd _) ⟨⟨dx, ?_⟩, ⟨_, upd_same, ((hc.same s3).app (.one hu3)).tps tp⟩, ?_, fun y hy => ?_, g.h1, g.h9, g.w1, g.w9⟩
    · rw [upd_ne npl]
      exact s3 _ _ hp
    · rw [List.nodup_append]
      refine ⟨g.nd, List.nodup_cons.mpr ⟨by simp, List.nodup_nil⟩, fun a ha b hb => ?_⟩
      rw [List.mem_singleton.mp hb]
      exact fun z => k (z ▸ ha)
    · rcases List.mem_append.mp hy with hy | hy
      · exact g.ins y hy
      · rw [List.mem_singleton.mp hy]
        exact ins
def sp_Game_back (C CS : Addr) : Sp := fun vs H Q E => ∃ (p l : Addr) (h w : Nat) (cs : List Cell), vs = [.ref p] ∧ GameAt C H p l h w cs ∧ (cs = [] → E (.ref CS) none H) ∧
  (∀ (c0 : List Cell) (c : Cell), cs = c0 ++ [c] → ∀ (a : Addr) (H' : Hp), Keep l H H' → GameAt C H' p l h w c0 → H' a = some (.tup (cellV c)) → Q (.ref a) H')
theorem ok_Game_back (T : Top K mg) : FnOk P w K mg base (L2.CX P w) 1 T.a_Game_back T.d_Game_back ["self"] (sp_Game_back T.C_Game T.C_NoStone) := by
  refine T.F_Game_back.okX sc_Game_back (fun vs H Q E h => ?_) (fun cdv A outer s H vs Q E hr h => ?_)
  · obtain ⟨_, _, _, _, _, rfl, _⟩ := h
    rfl
  obtain ⟨p, l, h, w, cs, rfl, g, qe, q⟩ := h
  refine ⟨_, (pss_cons (ps_if (pt_cmpR op_eq (pe_callB call_len_seq (by rfl) T.z_len PySem.boot_len (pa_cons (pe_fld (pv 0) rfl) pa_nil)) pe_int (nomark _))
      (pss_one (ps_raise rfl (takes_of rfl rfl rfl rfl) (pmk_own PySem.F.excBase_ValueError T.x_NoStone T.mC_NoStone T.k_NoStone (raises_own T.b_NoStone T.t_NoStone) rfl))) pss_nil)
      (pss_one (ps_ret (pe_bm0 PySem.F.plainAttrs_list PySem.F.slot_list_pop PySem.F.type_list_pop mt_pop (pe_fld (pv 0) rfl))))), ?_⟩
  obtain ⟨dx, hp⟩ := g.ob
  obtain ⟨ws, hl, hc⟩ := g.ls
  have lw := hc.len
  refine ⟨_, rfl, p, _, dx, _, _, rfl, hp, T.cl_Game, T.n_Game_played, gfl_played _ _ _, l, _, rfl, .inl (SqL.of hl), rfl, _, rfl, iteD (fun z => ?_) (fun z => ?_)⟩
  · have z' := V.int.inj z
    refine qe ?_
    cases cs with
    | nil => rfl
    | cons a as =>
      exfalso
      rw [List.length_cons] at lw
      omega
  · have hne : cs ≠ [] := fun e => z (congrArg V.int (by rw [lw, e]; rfl))
    obtain ⟨c0, c, rfl⟩ : ∃ l0 c, cs = l0 ++ [c] := ⟨cs.dropLast, cs.getLast hne, (List.dropLast_concat_getLast hne).symm⟩
    have lw' : ws.length = c0.length + 1 := by rw [lw, List.length_append]; rfl
    obtain ⟨y, ey⟩ : ∃ y, ws[ws.length - 1]? = some y := ⟨_, List.getElem?_eq_getElem (by omega)⟩
    obtain ⟨b, c', rfl, ec, hb⟩ := hc.get ey
    have ecc : c' = c := by
      rw [lw', Nat.add_sub_cancel, List.getElem?_append_right (Nat.le_refl _), Nat.sub_self] at ec
      exact (Option.some.inj ec).symm
    subst ecc
    have hdrop : Cells H ws.dropLast c0 := by
      have gen : ∀ (lf : List Cell) (ws : List V), Cells H ws (lf ++ [c']) → Cells H ws.dropLast lf := by
        intro lf
        induction lf with
        | nil =>
          intro ws hws
          cases hws with
          | cons _ t =>
            cases t
            exact .nil
        | cons x lf ih =>
          intro ws hws
          cases hws with
          | @cons a1 _ vs1 _ e t =>
            have := ih vs1 t
            cases vs1 with
            | nil =>
              have := t.len
              have e2 : (lf ++ [c']).length = lf.length + 1 := by rw [List.length_append]; rfl
              have e3 : ([] : List V).length = (lf ++ [c']).length := this
              rw [e2] at e3
              cases e3
            | cons v vs2 =>
              rw [List.dropLast_cons₂]
              exact .cons e this
      exact gen c0 ws hc
    refine ⟨_, rfl, p, _, dx, _, _, rfl, hp, T.cl_Game, T.n_Game_played, gfl_played _ _ _, .inl ⟨rfl, _, SqL.of hl⟩, l, ws, _, rfl, rfl, hl, ey, ?_⟩
    have tp := Tps.lst (o := .lst ws.dropLast) hl
    have npl : p ≠ l := ne_of hp hl (by intro z; cases z)
    have nd := List.nodup_append.mp g.nd
    refine q c0 c' rfl b _ ((Keep.of (.refl H)).upd _) ⟨⟨dx, ?_⟩, ⟨_, upd_same, hdrop.tps tp⟩, nd.1, fun x hx => g.ins x (List.mem_append_left _ hx), g.h1, g.h9, g.w1, g.w9⟩ (tp _ _ hb)
    rw [upd_ne npl]
    exact hp
end
end Sw
namespace Sw
open PySem PySem.Spec PyProof.Rows L2
section
variable {P : Program} {w : World} {K : PySem.W.Frag} {mg : Str → Option Value} {base : Heap}
/-! boards that are nearly full, as far as they are refused -/
def sp_check_end (C CO CT : Addr) : Sp := fun vs H Q E => ∃ (p l : Addr) (B : Bd) (h w : Nat), vs = [.ref p] ∧ BoardAt C H p l B ∧ IsB B h w ∧
  ((jB B false = true ∨ jB B true = true) → ∀ H', Same H H' → E (.ref CO) none H') ∧ (jB B false = false → jB B true = false → 6 < (emptyL B).length → ∀ H', Same H H' → E (.ref CT) none H') ∧
  (jB B false = false → jB B true = false → (emptyL B).length ≤ 6 → ∀ H', Same H H' → Q .non H')
theorem ok_check_end (T : Top K mg) : FnOk P w K mg base (L2.CX P w) 4 T.a_check_end T.d_check_end ["board"] (sp_check_end T.C_Board T.C_Over T.C_TooMany) := by
  refine T.F_check_end.okX sc_check_end (fun vs H Q E h => ?_) (fun cdv A outer s H vs Q E hr h => ?_)
  · obtain ⟨_, _, _, _, _, rfl, _⟩ := h
    rfl
  obtain ⟨p, l, B, h, w, rfl, bt, I, qo, qm, q⟩ := h
  refine ⟨_, (pss_cons (ps_if (PW.pt (pw_or (pt_val (pe_call (ok_joined T) (hr.mono (by decide)) rfl T.m_joined T.F_joined.kp T.B_joined .nil pass0 (pa_cons (pv 0) (pa_cons pe_str pa_nil)))) (pw_or1 (pt_val (pe_call (ok_joined T) (hr.mono (by decide)) rfl T.m_joined T.F_joined.kp T.B_joined .nil pass0 (pa_cons (pv 0) (pa_cons pe_str pa_nil)))))))
      (pss_one (ps_raise rfl (takes_of rfl rfl rfl rfl) (pmk_own PySem.F.excBase_ValueError T.x_Over T.mC_Over T.k_Over (raises_own T.b_Over T.t_Over) rfl))) pss_nil)
      (pss_one (ps_if (pt_cmpR op_gt (pe_callB call_len_seq (by rfl) T.z_len PySem.boot_len (pa_cons (pe_call (ok_empty T) (hr.mono (by decide)) rfl T.m_empty T.F_empty.kp T.B_empty .nil pass0 (pa_cons (pv 0) pa_nil)) pa_nil)) (pe_glob (v := .int 6) rfl T.g_MOST_EMPTY ⟨_, rfl⟩) (nomark _))
      (pss_one (ps_raise rfl (takes_of rfl rfl rfl rfl) (pmk_own PySem.F.excBase_ValueError T.x_TooMany T.mC_TooMany T.k_TooMany (raises_own T.b_TooMany T.t_TooMany) rfl))) pss_nil))), ?_⟩
  refine ⟨_, rfl, p, l, B, h, w, false, congrArg (fun z => [V.ref p, V.str z]) s_n, bt, I, fun H1 s1 => ?_⟩
  refine ⟨_, rfl, iteB (fun e1 => iteT (qo (.inl e1) _ s1)) (fun e1 => ?_)⟩
  refine ⟨_, rfl, p, l, B, h, w, true, congrArg (fun z => [V.ref p, V.str z]) s_w, bt.same s1, I, fun H2 s2 => ?_⟩
  refine ⟨_, rfl, iteB (fun e2 => qo (.inr e2) _ (s1.trans s2)) (fun e2 => ?_)⟩
  refine ⟨_, rfl, p, l, B, h, w, rfl, (bt.same s1).same s2, I, fun v H3 ⟨n, ws, ev, nn, s3, hn, hc⟩ => ?_⟩
  subst ev
  have lw := hc.len
  have s13 := s1.trans (s2.trans s3)
  refine ⟨n, _, rfl, .inl (SqL.of hn), _, _, rfl, rfl, _, rfl, iteD (fun c => ?_) (fun c => ?_)⟩
  · exact qm e1 e2 (by omega) _ s13
  · exact q e1 e2 (by omega) _ s13
def sp_never : Sp := fun _ _ _ _ => False
theorem ok_winning (T : Top K mg) : FnOk P w K mg base CX0 1 T.a_winning T.d_winning ["board", "hand", "known"] sp_never := by
  refine T.F_winning.ok sc_winning (fun vs H Q E h => h.elim) (fun cdv A outer s H vs Q E hr h => h.elim)
theorem ok_wins_by (T : Top K mg) : FnOk P w K mg base CX0 1 T.a_wins_by T.d_wins_by ["board", "hand", "cell", "known"] sp_never := by
  refine T.F_wins_by.ok sc_wins_by (fun vs H Q E h => h.elim) (fun cdv A outer s H vs Q E hr h => h.elim)
/-- can_win and replies where they refuse -/
def sp_refuses (C CO CT : Addr) : Sp := fun vs H _ E => ∃ (p l : Addr) (B : Bd) (h w : Nat) (s : Bool), vs = [.ref p, .str (txt [lt s])] ∧ BoardAt C H p l B ∧ IsB B h w ∧
  (jB B false = true ∨ jB B true = true ∨ 6 < (emptyL B).length) ∧ ((jB B false = true ∨ jB B true = true) → ∀ H', Same H H' → E (.ref CO) none H') ∧ (jB B false = false → jB B true = false → ∀ H', Same H H' → E (.ref CT) none H')
theorem ok_can_win (T : Top K mg) : FnOk P w K mg base (L2.CX P w) 6 T.a_can_win T.d_can_win ["board", "hand"] (sp_refuses T.C_Board T.C_Over T.C_TooMany) := by
  refine T.F_can_win.okX sc_can_win (fun vs H Q E h => ?_) (fun cdv A outer s H vs Q E hr h => ?_)
  · obtain ⟨_, _, _, _, _, _, rfl, _⟩ := h
    rfl
  obtain ⟨p, l, B, h, w, s, rfl, bt, I, k, qo, qm⟩ := h
  refine ⟨_, (pss_cons (ps_expr (pe_call (ok_check_end T) (hr.mono (by decide)) rfl T.m_check_end T.F_check_end.kp T.B_check_end .nil (passes_call (takes_of rfl rfl rfl rfl) (fun _ _ _ _ z => z)) (pa_cons (pv 0) pa_nil)))
      (pss_one (ps_ret (pe_call (ok_winning T) (hr.mono (by decide)) rfl T.m_winning T.F_winning.kp T.B_winning .nil pass0 (pa_cons (pv 0) (pa_cons (pv 1) (pa_cons pe_dnewT pa_nil))))))), ?_⟩
  refine ⟨_, rfl, p, l, B, h, w, rfl, bt, I, qo, (fun a b _ => qm a b), fun a b c => ?_⟩
  rcases k with k | k | k
  · rw [a] at k
    cases k
  · rw [b] at k
    cases k
  · omega
theorem ok_replies (T : Top K mg) : FnOk P w K mg base (L2.CX P w) 6 T.a_replies T.d_replies ["board", "hand"] (sp_refuses T.C_Board T.C_Over T.C_TooMany) := by
  refine T.F_replies.okX sc_replies (fun vs H Q E h => ?_) (fun cdv A outer s H vs Q E hr h => ?_)
  · obtain ⟨_, _, _, _, _, _, rfl, _⟩ := h
    rfl
  obtain ⟨p, l, B, h, w, s, rfl, bt, I, k, qo, qm⟩ := h
  refine ⟨_, (pss_cons (ps_expr (pe_call (ok_check_end T) (hr.mono (by decide)) rfl T.m_check_end T.F_check_end.kp T.B_check_end .nil (passes_call (takes_of rfl rfl rfl rfl) (fun _ _ _ _ z => z)) (pa_cons (pv 0) pa_nil)))
      (pss_cons (ps_set (i := 2) sc_replies.nd rfl (Or.inr rfl) pe_dnewT)
      (pss_one (ps_ret (pe_lc (own := [("cell", 3)]) (g := gName 3) rfl sc_replies.nd (pi_list (pe_call (ok_empty T) (hr.mono (by decide)) rfl T.m_empty T.F_empty.kp T.B_empty .nil pass0 (pa_cons (pv 0) pa_nil))) (blkOk_by (own := [("cell", 3)]) (N := N_replies) (sc := defScope s_replies) (by decide +kernel)) (fun _ _ _ _ _ => (pg_name (i := 3) sc_replies.nd rfl (Or.inl rfl))) (fun _ _ _ _ _ => pts_one (pt_val (pe_call (ok_wins_by T) (hr.mono (by decide)) rfl T.m_wins_by T.F_wins_by.kp T.B_wins_by .nil pass0 (pa_cons (pv 0) (pa_cons (pv 1) (pa_cons (pv 3) (pa_cons (pv 2) pa_nil))))))) (fun _ _ _ _ _ => (pv 3))))))), ?_⟩
  refine ⟨_, rfl, p, l, B, h, w, rfl, bt, I, qo, (fun a b _ => qm a b), fun a b c => ?_⟩
  rcases k with k | k | k
  · rw [a] at k
    cases k
  · rw [b] at k
    cases k
  · omega
end
end Sw
namespace Sw
open PySem PySem.Spec PyProof.Rows L2
section
variable {P : Program} {w : World} {K : PySem.W.Frag} {mg : Str → Option Value} {base : Heap}
/-! the law's reader of the script -/
def sAt (ns : List Int) (k : Int) : Int := ns.getD k.toNat 0
def sp__law_cell_at (K : PySem.W.Frag) : Sp := fun vs H Q _ => ∃ (a : Addr) (ns : List Int) (k : Int), vs = [.ref a, .int k] ∧ SqL K H a (ns.map V.int) ∧ 0 ≤ k ∧ Q (.int (sAt ns k)) H
theorem ok__law_cell_at (T : Top K mg) : FnOk P w K mg base CX0 1 T.a__law_cell_at T.d__law_cell_at ["script", "k"] (sp__law_cell_at K) := by
  refine T.F__law_cell_at.ok sc__law_cell_at (fun vs H Q E h => ?_) (fun cdv A outer s H vs Q E hr h => ?_)
  · obtain ⟨_, _, _, rfl, _⟩ := h
    rfl
  obtain ⟨a, ns, k, rfl, hS, hk, q⟩ := h
  refine ⟨_, (pss_cons (ps_if (pt_cmpR op_lt (pv 1) (pe_callB call_len_seq (by rfl) T.z_len PySem.boot_len (pa_cons (pv 0) pa_nil)) (nomark _))
      (pss_one (ps_ret (pe_ix ix_list (pv 0) (pv 1) (fun _ _ => rfl)))) pss_nil)
      (pss_one (ps_ret pe_int))), ?_⟩
  refine ⟨_, rfl, _, rfl, a, _, rfl, .inl hS, _, _, rfl, rfl, _, rfl, ?_⟩
  refine ite2 (fun c => ?_) (fun c => ?_)
  · have c' : k < ((ns.map V.int).length : Int) := of_decide_eq_true c
    rw [List.length_map] at c'
    have hl : k.toNat < ns.length := by omega
    have e : (ns.map V.int)[k.toNat]? = some (.int ns[k.toNat]) := by rw [List.getElem?_map, List.getElem?_eq_getElem hl] <;> rfl
    refine ⟨_, rfl, _, rfl, a, _, _, _, rfl, rfl, hS, at_int hk e, ?_⟩
    have : sAt ns k = ns[k.toNat] := by
      unfold sAt
      rw [List.getD_eq_getElem?_getD, List.getElem?_eq_getElem hl] <;> rfl
    rw [← this]
    exact q
  · have c' : ¬ k < ((ns.map V.int).length : Int) := of_decide_eq_false (Bool.eq_false_iff.mpr c)
    rw [List.length_map] at c'
    have : sAt ns k = 0 := by
      unfold sAt
      rw [List.getD_eq_getElem?_getD, List.getElem?_eq_none (by omega)] <;> rfl
    have q' : Q (.int 0) H := by
      rw [← this]
      exact q
    exact q'
end
end Sw
namespace Sw
open PySem PySem.Spec PyProof.Rows L2
section
variable {P : Program} {w : World} {K : PySem.W.Frag} {mg : Str → Option Value} {base : Heap}
/-! hands -/
/-- a list of the hands in some order -/
theorem hand_at {hs : List Bool} {i : Nat} {x : V} (h : (hs.map fun s => V.str (txt [lt s]))[i]? = some x) : ∃ s : Bool, x = .str (txt [lt s]) := by
  obtain ⟨s, _, e⟩ := map_get h
  exact ⟨s, e.symm⟩
theorem nw_hand {k : Int} (h0 : 0 ≤ k) (h1 : k < 2) : ∃ s : Bool, atI (Str.ofString "nw").cps.toList k = some (lt s) := by
  rw [s_nw]
  have : k = 0 ∨ k = 1 := by omega
  rcases this with rfl | rfl
  · exact ⟨false, rfl⟩
  · exact ⟨true, rfl⟩
end
end Sw
namespace Sw
open PySem PySem.Spec PyProof.Rows L2
section
variable {P : Program} {w : World} {K : PySem.W.Frag} {mg : Str → Option Value} {base : Heap}
/-! which refusal it is -/
/-- the class at D is the n-th of the seven -/
structure Cd (T : Top K mg) (D : Addr) (n : Nat) : Prop where
  lt : n < 7
  ex : ExcC K D
  k0 : PySem.W.kitOne K (.ref D) (.ref T.C_BadBoard) = some (decide (n = 0))
  k1 : PySem.W.kitOne K (.ref D) (.ref T.C_NoCell) = some (decide (n = 1))
  k2 : PySem.W.kitOne K (.ref D) (.ref T.C_NotFull) = some (decide (n = 2))
  k3 : PySem.W.kitOne K (.ref D) (.ref T.C_Taken) = some (decide (n = 3))
  k4 : PySem.W.kitOne K (.ref D) (.ref T.C_Over) = some (decide (n = 4))
  k5 : PySem.W.kitOne K (.ref D) (.ref T.C_NoStone) = some (decide (n = 5))
  k6 : PySem.W.kitOne K (.ref D) (.ref T.C_TooMany) = some (decide (n = 6))
  ks : PySem.W.kitOne K (.ref D) (.ref T.C_ShoreError) = some true
  kv : PySem.W.kitOne K (.ref D) (.type "ValueError") = some true
  sb : PySem.W.subIn K (.ref D) (.ref T.C_ShoreError) = some true
theorem cd_BadBoard (T : Top K mg) : Cd T T.C_BadBoard 0 := ⟨by decide, T.E_BadBoard, T.kit_BadBoard_BadBoard, T.kit_BadBoard_NoCell, T.kit_BadBoard_NotFull, T.kit_BadBoard_Taken, T.kit_BadBoard_Over, T.kit_BadBoard_NoStone, T.kit_BadBoard_TooMany, T.kit_BadBoard_ShoreError, T.kit_BadBoard_ValueError, T.s_BadBoard_ShoreError⟩
theorem cd_NoCell (T : Top K mg) : Cd T T.C_NoCell 1 := ⟨by decide, T.E_NoCell, T.kit_NoCell_BadBoard, T.kit_NoCell_NoCell, T.kit_NoCell_NotFull, T.kit_NoCell_Taken, T.kit_NoCell_Over, T.kit_NoCell_NoStone, T.kit_NoCell_TooMany, T.kit_NoCell_ShoreError, T.kit_NoCell_ValueError, T.s_NoCell_ShoreError⟩
theorem cd_NotFull (T : Top K mg) : Cd T T.C_NotFull 2 := ⟨by decide, T.E_NotFull, T.kit_NotFull_BadBoard, T.kit_NotFull_NoCell, T.kit_NotFull_NotFull, T.kit_NotFull_Taken, T.kit_NotFull_Over, T.kit_NotFull_NoStone, T.kit_NotFull_TooMany, T.kit_NotFull_ShoreError, T.kit_NotFull_ValueError, T.s_NotFull_ShoreError⟩
theorem cd_Taken (T : Top K mg) : Cd T T.C_Taken 3 := ⟨by decide, T.E_Taken, T.kit_Taken_BadBoard, T.kit_Taken_NoCell, T.kit_Taken_NotFull, T.kit_Taken_Taken, T.kit_Taken_Over, T.kit_Taken_NoStone, T.kit_Taken_TooMany, T.kit_Taken_ShoreError, T.kit_Taken_ValueError, T.s_Taken_ShoreError⟩
theorem cd_Over (T : Top K mg) : Cd T T.C_Over 4 := ⟨by decide, T.E_Over, T.kit_Over_BadBoard, T.kit_Over_NoCell, T.kit_Over_NotFull, T.kit_Over_Taken, T.kit_Over_Over, T.kit_Over_NoStone, T.kit_Over_TooMany, T.kit_Over_ShoreError, T.kit_Over_ValueError, T.s_Over_ShoreError⟩
theorem cd_NoStone (T : Top K mg) : Cd T T.C_NoStone 5 := ⟨by decide, T.E_NoStone, T.kit_NoStone_BadBoard, T.kit_NoStone_NoCell, T.kit_NoStone_NotFull, T.kit_NoStone_Taken, T.kit_NoStone_Over, T.kit_NoStone_NoStone, T.kit_NoStone_TooMany, T.kit_NoStone_ShoreError, T.kit_NoStone_ValueError, T.s_NoStone_ShoreError⟩
theorem cd_TooMany (T : Top K mg) : Cd T T.C_TooMany 6 := ⟨by decide, T.E_TooMany, T.kit_TooMany_BadBoard, T.kit_TooMany_NoCell, T.kit_TooMany_NotFull, T.kit_TooMany_Taken, T.kit_TooMany_Over, T.kit_TooMany_NoStone, T.kit_TooMany_TooMany, T.kit_TooMany_ShoreError, T.kit_TooMany_ValueError, T.s_TooMany_ShoreError⟩
def sq__law_which (T : Top K mg) (a : Addr) (cls : Value) (d : Option Addr) : Sp := fun vs H Q _ => ∃ (D : Addr) (n : Nat), cls = .ref D ∧ d = none ∧ Cd T D n ∧ vs = [.ref a] ∧ ∀ H', Same H H' → Q (.int (n : Int)) H'
def sp__law_which (T : Top K mg) : Addr × Obj → Sp := fun pp vs H Q _ => ∃ (D : Addr) (n : Nat), Zc (.ref D) none pp.2 ∧ (∃ fs, pp.2.data = .fields fs) ∧ Cd T D n ∧ vs = [.ref pp.1] ∧ ∀ H', Same H H' → Q (.int (n : Int)) H'
theorem sq__law_which_to {T : Top K mg} {a : Addr} {oe : Obj} {cls : Value} {d : Option Addr} (hz : Zc cls d oe) (hf : ∃ fs, oe.data = .fields fs) {vs : List V} {H : Hp} {Q : VK} {E : XK} (z : sq__law_which T a cls d vs H Q E) : sp__law_which T (a, oe) vs H Q E := by
  obtain ⟨D, n, rfl, rfl, c, e, q⟩ := z
  exact ⟨D, n, hz, hf, c, e, q⟩
def bs7 (n : Nat) : List Bool := [decide (n = 0), decide (n = 1), decide (n = 2), decide (n = 3), decide (n = 4), decide (n = 5), decide (n = 6)]
theorem bs7_count {n : Nat} (h : n < 7) : (bs7 n).count true = 1 := by
  have : n = 0 ∨ n = 1 ∨ n = 2 ∨ n = 3 ∨ n = 4 ∨ n = 5 ∨ n = 6 := by omega
  rcases this with rfl | rfl | rfl | rfl | rfl | rfl | rfl <;> decide
theorem bs7_at {n : Nat} (h : n < 7) : ((bs7 n).map PyData.bool)[n]? = some (.bool true) := by
  have : n = 0 ∨ n = 1 ∨ n = 2 ∨ n = 3 ∨ n = 4 ∨ n = 5 ∨ n = 6 := by omega
  rcases this with rfl | rfl | rfl | rfl | rfl | rfl | rfl <;> rfl
theorem bs7_no {n : Nat} (h : n < 7) {m : Nat} {z : PyData} (hm : m < n) (e : ((bs7 n).map PyData.bool)[m]? = some z) : PyData.eqv z (.bool true) = false := by
  have n7 : n = 0 ∨ n = 1 ∨ n = 2 ∨ n = 3 ∨ n = 4 ∨ n = 5 ∨ n = 6 := by omega
  have m7 : m = 0 ∨ m = 1 ∨ m = 2 ∨ m = 3 ∨ m = 4 ∨ m = 5 := by omega
  rcases n7 with rfl | rfl | rfl | rfl | rfl | rfl | rfl <;> rcases m7 with rfl | rfl | rfl | rfl | rfl | rfl <;> first | (exfalso; omega) | (cases e; rfl)
theorem ok__law_which (T : Top K mg) : FnE P w K mg base 1 T.a__law_which T.d__law_which ["e"] (sp__law_which T) := by
  refine Fun_okE T.F__law_which sc__law_which (fun pp vs H Q E h => ?_) (fun cdv A outer s H vs Q E pp hr h => ?_)
  · obtain ⟨_, _, _, _, _, rfl, _⟩ := h
    rfl
  obtain ⟨a, oe⟩ := pp
  obtain ⟨D, n, hz, hf, c, rfl, q⟩ := h
  have hC := c.ex
  refine ⟨_, (pss_cons (ps_set (i := 1) sc__law_which.nd rfl (Or.inl rfl) (pe_lst (pa_cons (pe_callB (call_isP (K := K) rfl hC hz hf List.mem_cons_self) (by rfl) T.z_isinstance (by decide +kernel) (pa_cons (pv 0) (pa_cons (pe_glob (v := .ref T.C_BadBoard) rfl T.mC_BadBoard rfl) pa_nil))) (pa_cons (pe_callB (call_isP (K := K) rfl hC hz hf List.mem_cons_self) (by rfl) T.z_isinstance (by decide +kernel) (pa_cons (pv 0) (pa_cons (pe_glob (v := .ref T.C_NoCell) rfl T.mC_NoCell rfl) pa_nil))) (pa_cons (pe_callB (call_isP (K := K) rfl hC hz hf List.mem_cons_self) (by rfl) T.z_isinstance (by decide +kernel) (pa_cons (pv 0) (pa_cons (pe_glob (v := .ref T.C_NotFull) rfl T.mC_NotFull rfl) pa_nil))) (pa_cons (pe_callB (call_isP (K := K) rfl hC hz hf List.mem_cons_self) (by rfl) T.z_isinstance (by decide +kernel) (pa_cons (pv 0) (pa_cons (pe_glob (v := .ref T.C_Taken) rfl T.mC_Taken rfl) pa_nil))) pa_nil))))))
      (pss_cons (ps_set (i := 1) sc__law_which.nd rfl (Or.inl rfl) (pe_op op_cat (pv 1) (pe_lst (pa_cons (pe_callB (call_isP (K := K) rfl hC hz hf List.mem_cons_self) (by rfl) T.z_isinstance (by decide +kernel) (pa_cons (pv 0) (pa_cons (pe_glob (v := .ref T.C_Over) rfl T.mC_Over rfl) pa_nil))) (pa_cons (pe_callB (call_isP (K := K) rfl hC hz hf List.mem_cons_self) (by rfl) T.z_isinstance (by decide +kernel) (pa_cons (pv 0) (pa_cons (pe_glob (v := .ref T.C_NoStone) rfl T.mC_NoStone rfl) pa_nil))) (pa_cons (pe_callB (call_isP (K := K) rfl hC hz hf List.mem_cons_self) (by rfl) T.z_isinstance (by decide +kernel) (pa_cons (pv 0) (pa_cons (pe_glob (v := .ref T.C_TooMany) rfl T.mC_TooMany rfl) pa_nil))) pa_nil))))))
      (pss_cons (ps_if (PW.pt (pw_or (pt_not (pt_val (pe_callB (call_isP (K := K) rfl hC hz hf List.mem_cons_self) (by rfl) T.z_isinstance (by decide +kernel) (pa_cons (pv 0) (pa_cons (pe_glob (v := .ref T.C_ShoreError) rfl T.mC_ShoreError rfl) pa_nil))))) (pw_or (pt_not (pt_val (pe_callB (call_isP (K := K) rfl hC hz hf List.mem_cons_self) (by rfl) T.z_isinstance (by decide +kernel) (pa_cons (pv 0) (pa_cons (pe_bltn (v := .ty "ValueError") (u := .type "ValueError") (by rfl) T.z_ValueError (by decide +kernel) rfl) pa_nil))))) (pw_or1 (pt_cmpR op_ne (pe_bmK (K := K) rfl PySem.F.plainAttrs_list PySem.F.slot_list_count PySem.F.type_list_count (mt_countBK (K := K) rfl) (pv 1) (pa_cons pe_bl pa_nil)) pe_int (nomark _))))))
      (pss_one (ps_ret (pe_un un_neg pe_int))) pss_nil)
      (pss_one (ps_ret (pe_bmK (K := K) rfl PySem.F.plainAttrs_list PySem.F.slot_list_index PySem.F.type_list_index (mt_indexDK (K := K) rfl (by have z := hu65E hr; exact z)) (pv 1) (pa_cons pe_bl pa_nil))))))), ?_⟩
  refine ⟨_, rfl, _, _, _, rfl, (fun u r => r), c.k0, _, rfl, _, _, _, rfl, (fun u r => r), c.k1, _, rfl, _, _, _, rfl, (fun u r => r), c.k2, _, rfl, _, _, _, rfl, (fun u r => r), c.k3, sz4, fun t1 g1 => ?_⟩
  have s1 := same_new g1 (.lst [V.bl (decide (n = 0)), V.bl (decide (n = 1)), V.bl (decide (n = 2)), V.bl (decide (n = 3))])
  refine gn ?_
  refine ⟨_, rfl, _, rfl, _, _, _, rfl, (fun u r => r), c.k4, _, rfl, _, _, _, rfl, (fun u r => r), c.k5, _, rfl, _, _, _, rfl, (fun u r => r), c.k6, sz3, fun t2 g2 => ?_⟩
  have s2 := same_new g2 (.lst [V.bl (decide (n = 4)), V.bl (decide (n = 5)), V.bl (decide (n = 6))])
  refine ⟨t1, t2, _, _, rfl, rfl, s2 _ _ upd_same, upd_same, sz_le (by show 7 ≤ 1000000; decide), fun t3 g3 => ?_⟩
  have s3 := same_new g3 (.lst ((bs7 n).map V.bl))
  have h3 : upd (upd (upd H t1 (.lst [V.bl (decide (n = 0)), V.bl (decide (n = 1)), V.bl (decide (n = 2)), V.bl (decide (n = 3))])) t2 (.lst [V.bl (decide (n = 4)), V.bl (decide (n = 5)), V.bl (decide (n = 6))])) t3 (.lst ((bs7 n).map V.bl)) t3 = some (.lst ((bs7 n).map V.bl)) := upd_same
  refine gn ?_
  refine ⟨_, rfl, _, _, _, rfl, (fun u r => r), c.ks, _, rfl, iteF ?_⟩
  refine ⟨_, rfl, _, _, _, rfl, (fun u r => r), c.kv, _, rfl, iteF ?_⟩
  refine ⟨_, rfl, .inl ⟨rfl, _, SqL.of h3⟩, t3, bs7 n, true, rfl, rfl, SqL.of h3, rfl, _, rfl, iteN (fun z => absurd (by rw [bs7_count c.lt]; rfl) z) (fun _ => ?_)⟩
  refine ⟨_, rfl, .inl ⟨rfl, _, SqL.of h3⟩, t3, .bl true, .bool true, (bs7 n).map PyData.bool, n, .bool true, rfl, rfl, .lst (SqL.of h3) (bools_dpa _), .bl true, shaped_bools _, rfl, bs7_at c.lt, rfl, (fun m z hm e => bs7_no c.lt hm e), ?_⟩
  exact q _ (s1.trans (s2.trans s3))
end
end Sw
namespace Sw
open PySem PySem.Spec PyProof.Rows L2
section
variable {P : Program} {w : World} {K : PySem.W.Frag} {mg : Str → Option Value} {base : Heap}
/-! the seven refusals met -/
def wn (k : Nat) : Nat := [0, 1, 1, 2, 2, 3, 4, 5, 4, 4, 6, 6].getD k 0
theorem mul_row {c : Nat} {z : Str} (e : z = txt [c]) (n : Nat) : V.str (Txt.mul z (n : Int)) = rowV (List.replicate n c) := by
  rw [e, mul_txt, Int.toNat_natCast]
  rfl
theorem cell_all {B : Bd} {h w : Nat} (P : Nat → Nat → Nat → Bool) (hP : ((List.range h).all fun r => (List.range w).all fun c => P r c (cel B ((r : Int), (c : Int)))) = true) {p : Cell} (hp : Ins h w p) : P p.1.toNat p.2.toNat (cel B p) = true := by
  obtain ⟨a, b, c, d⟩ := hp
  have h1 := List.all_eq_true.mp (List.all_eq_true.mp hP p.1.toNat (List.mem_range.mpr (by omega))) p.2.toNat (List.mem_range.mpr (by omega))
  rw [show (((p.1.toNat : Nat) : Int), ((p.2.toNat : Nat) : Int)) = p from Prod.ext (by show ((p.1.toNat : Nat) : Int) = p.1; omega) (by show ((p.2.toNat : Nat) : Int) = p.2; omega)] at h1
  exact h1
theorem no_first {g : Cell → Nat} {h w : Nat} {s : Bool} (k : ∀ c, g c = lt s → sd s c ≠ 0) : ¬ Joined g h w s := by
  rintro ⟨c, r, _⟩
  have : ∀ c, Reach g s c → False := fun c r => by
    induction r with
    | first a b => exact k _ a b
    | next _ _ _ ih => exact ih
  exact this c r
theorem no_last {g : Cell → Nat} {h w : Nat} {s : Bool} (k : ∀ c, g c = lt s → sd s c ≠ ext s h w - 1) : ¬ Joined g h w s := by
  rintro ⟨c, r, e⟩
  exact k c r.sign e
theorem rows_is {B : Bd} {h w : Nat} (e : B.length = h) (a : B.all (rowOk w) = true) (h1 : 1 ≤ h) (h9 : h ≤ 9) (w1 : 1 ≤ w) (w9 : w ≤ 9) : IsB B h w := by
  refine ⟨e, fun r hr => ?_, fun r hr c hc => ?_, h1, h9, w1, w9⟩
  · have := List.all_eq_true.mp a r hr
    unfold rowOk at this
    rw [Bool.and_eq_true, decide_eq_true_eq] at this
    exact this.1
  · have := List.all_eq_true.mp a r hr
    unfold rowOk at this
    rw [Bool.and_eq_true, decide_eq_true_eq, List.all_eq_true] at this
    exact (okc_iff c).mp (this.2 c hc)
theorem rowOk_rep {w n c : Nat} (e : n = w) (k : okc c = true) : rowOk w (List.replicate n c) = true := by
  unfold rowOk
  rw [decide_eq_true (by rw [List.length_replicate]; exact e), Bool.true_and, List.all_eq_true]
  intro x hx
  rw [(List.mem_replicate.mp hx).2]
  exact k
def B0 (w : Nat) : Bd := [List.replicate w 110, List.replicate w 46, List.replicate w 46]
theorem B0_is {w : Nat} (w1 : 1 ≤ w) (w9 : w ≤ 9) : IsB (B0 w) 3 w := by
  refine rows_is rfl ?_ (by decide) (by decide) w1 w9
  unfold B0
  rw [List.all_cons, List.all_cons, List.all_cons, rowOk_rep rfl rfl, rowOk_rep rfl rfl]
  rfl
theorem B0_empty {w : Nat} (w1 : 1 ≤ w) : emptyL (B0 w) ≠ [] := fun z => by
  have : ((1, 0) : Cell) ∈ emptyL (B0 w) := mem_emptyL.mpr (by
    rw [cel_row (r := List.replicate w 46) (by decide) (by decide) rfl, List.getElem?_replicate, if_pos (by show 0 < w; omega)]
    rfl)
  rw [z] at this
  cases this
def B8 (w : Nat) : Bd := List.replicate 9 ([110] ++ List.replicate (w - 1) 46)
theorem B8_is {w : Nat} (w1 : 1 ≤ w) (w9 : w ≤ 9) : IsB (B8 w) 9 w := by
  refine rows_is (by unfold B8; rw [List.length_replicate]) ?_ (by decide) (by decide) w1 w9
  unfold B8
  rw [List.all_eq_true]
  intro r hr
  rw [(List.mem_replicate.mp hr).2]
  unfold rowOk
  rw [decide_eq_true (by rw [List.length_append, List.length_replicate]; show 1 + (w - 1) = w; omega), Bool.true_and, List.all_eq_true]
  intro x hx
  rcases List.mem_append.mp hx with hx | hx
  · rw [List.mem_singleton.mp hx]
    rfl
  · rw [(List.mem_replicate.mp hx).2]
    rfl
theorem B8_joined {w : Nat} (w1 : 1 ≤ w) (w9 : w ≤ 9) : jB (B8 w) false = true := by
  rw [jB_iff (B8_is w1 w9)]
  have cl : ∀ i : Nat, i < 9 → cel (B8 w) ((i : Int), 0) = lt false := fun i hi => by
    rw [cel_row (r := [110] ++ List.replicate (w - 1) 46) (by show (0 : Int) ≤ (i : Int); omega) (by show (0 : Int) ≤ 0; omega) (by
      show (B8 w)[((i : Nat) : Int).toNat]? = _
      unfold B8
      rw [Int.toNat_natCast, List.getElem?_replicate, if_pos hi])]
    rfl
  have rc : ∀ i : Nat, i < 9 → Reach (cel (B8 w)) false ((i : Int), 0) := fun i => by
    induction i with
    | zero => exact fun hi => .first (cl 0 hi) rfl
    | succ i ih =>
      intro hi
      refine .next (ih (by omega)) (near6_iff.mpr ?_) (cl (i + 1) hi)
      show (((i + 1 : Nat) : Int) = (i : Int) - 1 ∧ _) ∨ (((i + 1 : Nat) : Int) = (i : Int) - 1 ∧ _) ∨ (((i + 1 : Nat) : Int) = (i : Int) ∧ _) ∨ (((i + 1 : Nat) : Int) = (i : Int) + 1 ∧ (0 : Int) = 0) ∨ _
      exact .inr (.inr (.inr (.inl ⟨by omega, rfl⟩)))
  exact ⟨_, rc 8 (by decide), rfl⟩
def B9 (w : Nat) : Bd := [List.replicate w 119, List.replicate w 46, List.replicate w 110, List.replicate w 110, List.replicate w 110]
theorem B9_is {w : Nat} (w1 : 1 ≤ w) (w9 : w ≤ 9) : IsB (B9 w) 5 w := by
  refine rows_is rfl ?_ (by decide) (by decide) w1 w9
  unfold B9
  rw [List.all_cons, List.all_cons, List.all_cons, List.all_cons, List.all_cons, rowOk_rep rfl rfl, rowOk_rep rfl rfl, rowOk_rep rfl rfl]
  rfl
theorem B9_joined {w : Nat} (w1 : 1 ≤ w) (w9 : w ≤ 9) : jB (B9 w) true = true := by
  rw [jB_iff (B9_is w1 w9)]
  have cl : ∀ i : Nat, i < w → cel (B9 w) (0, (i : Int)) = lt true := fun i hi => by
    rw [cel_row (r := List.replicate w 119) (by show (0 : Int) ≤ 0; decide) (by show (0 : Int) ≤ (i : Int); omega) rfl]
    show ((List.replicate w 119)[((i : Nat) : Int).toNat]?).getD 0 = _
    rw [Int.toNat_natCast, List.getElem?_replicate, if_pos hi]
    rfl
  have rc : ∀ i : Nat, i < w → Reach (cel (B9 w)) true (0, (i : Int)) := fun i => by
    induction i with
    | zero => exact fun hi => .first (cl 0 hi) rfl
    | succ i ih =>
      intro hi
      refine .next (ih (by omega)) (near6_iff.mpr ?_) (cl (i + 1) hi)
      exact .inr (.inr (.inl ⟨rfl, by show ((i + 1 : Nat) : Int) = (i : Int) + 1; omega⟩))
  refine ⟨_, rc (w - 1) (by omega), ?_⟩
  show ((w - 1 : Nat) : Int) = (w : Int) - 1
  omega
def B10 : Bd := [List.replicate 7 46, List.replicate 6 119 ++ [110], List.replicate 6 119 ++ [110]]
theorem B10_is : IsB B10 3 7 := rows_is rfl (by decide) (by decide) (by decide) (by decide) (by decide)
theorem B10_none : jB B10 false = false ∧ jB B10 true = false ∧ 6 < (emptyL B10).length := by
  refine ⟨(jB_not B10_is _).mpr (no_first fun c e z => ?_), (jB_not B10_is _).mpr (no_last fun c e z => ?_), by decide +kernel⟩
  · have ix := B10_is.ins (p := c) (by rw [e]; decide)
    have := cell_all (B := B10) (h := 3) (w := 7) (fun r _ x => !(x == 110 && r == 0)) (by decide +kernel) ix
    rw [e, show c.1.toNat = 0 by have z' : c.1 = 0 := z; omega] at this
    cases this
  · have ix := B10_is.ins (p := c) (by rw [e]; decide)
    have := cell_all (B := B10) (h := 3) (w := 7) (fun _ q x => !(x == 119 && q == 6)) (by decide +kernel) ix
    rw [e, show c.2.toNat = 6 by have z' : c.2 = 7 - 1 := z; omega] at this
    cases this
def B11 : Bd := [[46, 46], [46, 46], [46, 46], [110, 119], [110, 119], [46, 119]]
theorem B11_is : IsB B11 6 2 := rows_is rfl (by decide) (by decide) (by decide) (by decide) (by decide)
theorem B11_none : jB B11 false = false ∧ jB B11 true = false ∧ 6 < (emptyL B11).length := by
  refine ⟨(jB_not B11_is _).mpr (no_first fun c e z => ?_), (jB_not B11_is _).mpr (no_first fun c e z => ?_), by decide +kernel⟩
  · have ix := B11_is.ins (p := c) (by rw [e]; decide)
    have := cell_all (B := B11) (h := 6) (w := 2) (fun r _ x => !(x == 110 && r == 0)) (by decide +kernel) ix
    rw [e, show c.1.toNat = 0 by have z' : c.1 = 0 := z; omega] at this
    cases this
  · have ix := B11_is.ins (p := c) (by rw [e]; decide)
    have := cell_all (B := B11) (h := 6) (w := 2) (fun _ q x => !(x == 119 && q == 0)) (by decide +kernel) ix
    rw [e, show c.2.toNat = 0 by have z' : c.2 = 0 := z; omega] at this
    cases this
/-- one stone, at the first cell -/
theorem one_cel {h w : Nat} (h1 : 1 ≤ h) (h9 : h ≤ 9) (w1 : 1 ≤ w) (w9 : w ≤ 9) {c : Cell} {s : Bool} (e : cel (shB h w [(0, 0)]) c = lt s) : c = (0, 0) ∧ s = false := by
  have I := shB_is h1 h9 w1 w9 [((0, 0) : Cell)]
  have ix := I.ins (p := c) (by rw [e]; exact lt_ne s)
  rw [cel_shB ix] at e
  have e2 : (if ((0, 0) : Cell) = c then ltk 0 else 46) = lt s := e
  by_cases k : ((0, 0) : Cell) = c
  · rw [if_pos k] at e2
    refine ⟨k.symm, ?_⟩
    cases s
    · rfl
    · exact absurd e2 (by decide)
  · rw [if_neg k] at e2
    cases s <;> exact absurd e2 (by decide)
theorem one_none {h w : Nat} (h2 : 2 ≤ h) (h9 : h ≤ 9) (w1 : 1 ≤ w) (w9 : w ≤ 9) : wonO (shB h w [(0, 0)]) = none := by
  have I := shB_is (by omega) h9 w1 w9 [((0, 0) : Cell)]
  rw [wonO_none, jB_not I, jB_not I]
  refine ⟨no_last fun c e z => ?_, no_last fun c e z => ?_⟩
  · obtain ⟨rfl, _⟩ := one_cel (by omega) h9 w1 w9 e
    have z' : (0 : Int) = (h : Int) - 1 := z
    omega
  · obtain ⟨_, e2⟩ := one_cel (by omega) h9 w1 w9 e
    cases e2
theorem one_won {w : Nat} (w1 : 1 ≤ w) (w9 : w ≤ 9) : wonO (shB 1 w [(0, 0)]) ≠ none := by
  have I := shB_is (by decide) (by decide) w1 w9 [((0, 0) : Cell)] (h := 1)
  have j : jB (shB 1 w [(0, 0)]) false = true := by
    rw [jB_iff I]
    refine ⟨(0, 0), .first ?_ rfl, rfl⟩
    rw [cel_shB (p := (0, 0)) ⟨by decide, by decide, by decide, by show (0 : Int) < w; omega⟩]
    rfl
  intro z
  rw [(wonO_some I).mpr j] at z
  cases z
def sp_way (T : Top K mg) (lo hi : Nat) : Sp := fun vs H Q E => ∃ (k w : Nat) (s : Bool), vs = [.int (k : Int), .int (w : Int), .str (txt [lt s])] ∧ k < 12 ∧ 2 ≤ w ∧ w ≤ 8 ∧
  (lo ≤ k → k ≤ hi → ∀ (D : Addr) (H' : Hp), Same H H' → Cd T D (wn k) → E (.ref D) none H') ∧ (k < lo ∨ hi < k → ∀ H', Same H H' → Q .non H')
theorem ok__law_first (T : Top K mg) : FnOk P w K mg base (L2.CX P w) 9 T.a__law_first T.d__law_first ["way", "width", "hand"] (sp_way T 0 5) := by
  refine T.F__law_first.okX sc__law_first (fun vs H Q E h => ?_) (fun cdv A outer s H vs Q E hr h => ?_)
  · obtain ⟨_, _, _, rfl, _⟩ := h
    rfl
  obtain ⟨k, w, s, rfl, k12, w2, w8, qe, q⟩ := h
  refine ⟨_, (pss_cons (ps_set (i := 3) sc__law_first.nd rfl (Or.inl rfl) (pe_make T.Mk_Board (ok_Board_init T) (hr.mono (by decide)) (by rfl) T.mC_Board T.B_Board___init__ .nil (passes_call (takes_of rfl rfl rfl rfl) (fun _ _ _ _ z => z)) (pa_cons (pe_lst (pa_cons (pe_op op_mul_str pe_str (pv 1)) (pa_cons (pe_op op_mul_str pe_str (pv 1)) (pa_cons (pe_op op_mul_str pe_str (pv 1)) pa_nil)))) pa_nil)))
      (pss_cons (ps_if (pt_cmpR op_eq (pv 0) pe_int (nomark _))
      (pss_one (ps_expr (pe_make T.Mk_Board (ok_Board_init T) (hr.mono (by decide)) (by rfl) T.mC_Board T.B_Board___init__ .nil (passes_call (takes_of rfl rfl rfl rfl) (fun _ _ _ _ z => z)) (pa_cons (pe_lst (pa_cons pe_str (pa_cons pe_str pa_nil))) pa_nil)))) pss_nil)
      (pss_cons (ps_if (pt_cmpR op_eq (pv 0) pe_int (nomark _))
      (pss_one (ps_expr (pe_call (ok_sign T) (hr.mono (by decide)) rfl T.m_sign T.F_sign.kp T.B_sign .nil (passes_call (takes_of rfl rfl rfl rfl) (fun _ _ _ _ z => z)) (pa_cons (pv 3) (pa_cons pe_int (pa_cons pe_int pa_nil)))))) pss_nil)
      (pss_cons (ps_if (pt_cmpR op_eq (pv 0) pe_int (nomark _))
      (pss_one (ps_expr (pe_call (ok_laid T) (hr.mono (by decide)) rfl T.m_laid T.F_laid.kp T.B_laid .nil (passes_call (takes_of rfl rfl rfl rfl) (fun _ _ _ _ z => z)) (pa_cons (pv 3) (pa_cons pe_int (pa_cons (pe_un un_neg pe_int) (pa_cons (pv 2) pa_nil))))))) pss_nil)
      (pss_cons (ps_if (pt_cmpR op_eq (pv 0) pe_int (nomark _))
      (pss_one (ps_expr (pe_call (ok_winner T) (hr.mono (by decide)) rfl T.m_winner T.F_winner.kp T.B_winner .nil (passes_call (takes_of rfl rfl rfl rfl) (fun _ _ _ _ z => z)) (pa_cons (pv 3) pa_nil)))) pss_nil)
      (pss_cons (ps_if (pt_cmpR op_eq (pv 0) pe_int (nomark _))
      (pss_one (ps_expr (pe_call (ok_walk T) (hr.mono (by decide)) rfl T.m_walk T.F_walk.kp T.B_walk .nil (passes_call (takes_of rfl rfl rfl rfl) (fun _ _ _ _ z => z)) (pa_cons (pv 3) pa_nil)))) pss_nil)
      (pss_one (ps_if (pt_cmpR op_eq (pv 0) pe_int (nomark _))
      (pss_cons (ps_set (i := 4) sc__law_first.nd rfl (Or.inl rfl) (pe_make T.Mk_Game (ok_Game_init T) (hr.mono (by decide)) (by rfl) T.mC_Game T.B_Game___init__ .nil (passes_call (takes_of rfl rfl rfl rfl) (fun _ _ _ _ z => z)) (pa_cons (pv 1) (pa_cons pe_int pa_nil))))
      (pss_cons (ps_expr (pe_meth (pv 4) T.cl_Game T.M_Game_play (ok_Game_play T) (hr.mono (by decide)) T.B_Game_play .nil (passes_call (takes_of rfl rfl rfl rfl) (fun _ _ _ _ z => z)) (pa_cons pe_int (pa_cons pe_int pa_nil))))
      (pss_one (ps_expr (pe_meth (pv 4) T.cl_Game T.M_Game_play (ok_Game_play T) (hr.mono (by decide)) T.B_Game_play .nil (passes_call (takes_of rfl rfl rfl rfl) (fun _ _ _ _ z => z)) (pa_cons pe_int (pa_cons pe_int pa_nil))))))) pss_nil)))))))), ?_⟩
  have I := B0_is (w := w) (by omega) (by omega)
  have ok : lt s = 110 ∨ lt s = 119 ∨ lt s = 46 := by cases s <;> simp [lt]
  refine ⟨_, rfl, _, _, rfl, rfl, (show 1 ≤ 1000 by decide), by omega, by omega, _, rfl, _, _, rfl, rfl, (show 1 ≤ 1000 by decide), by omega, by omega, _, rfl, _, _, rfl, rfl, (show 1 ≤ 1000 by decide), by omega, by omega, sz3, fun t ht => ?_⟩
  rw [mul_row s_n, mul_row s_dot]
  have st := same_new ht (.lst (rowsV (B0 w)))
  have ht1 : upd H t (.lst (rowsV (B0 w))) t = some (.lst (rowsV (B0 w))) := upd_same
  intro o d no nd ndo
  have so := ((same_new nd (.own o)).trans (same_new (by rw [upd_ne (Ne.symm ndo)]; exact no) (.ins T.C_Board d [])))
  refine ⟨o, d, t, B0 w, rfl, upd_same, so _ _ ht1, I.small, fun hb => ?_, fun _ H1 lb k1 n1 bt => ⟨rfl, ?_⟩⟩
  · rw [I.good] at hb
    cases hb
  have s1 : Same H H1 := st.trans (made_board no nd k1)
  refine gn ?_
  have intk : ∀ j : Nat, V.int (k : Int) = V.int (j : Int) → k = j := fun j z => by
    have := V.int.inj z
    omega
  have B2 : Good [[110], [110, 119]] = false := by decide
  have lt46 : 46 < 1000 := by decide
  have sm : Small [[110], [110, 119]] := ⟨by decide, by decide, by decide⟩
  -- 0
  refine ⟨_, rfl, rfl, _, rfl, iteD (fun c => ?_) (fun c0 => ?_)⟩
  · have e := intk 0 c
    subst e
    refine ⟨sz2, fun t2 ht2 => ?_⟩
    have st2 := same_new ht2 (.lst [V.str (Str.ofString "n"), V.str (Str.ofString "nw")])
    have h2 : upd H1 t2 (.lst [V.str (Str.ofString "n"), V.str (Str.ofString "nw")]) t2 = some (.lst (rowsV [[110], [110, 119]])) := by rw [s_n, s_nw]; exact upd_same
    intro o2 d2 no2 nd2 ndo2
    have so2 := ((same_new nd2 (.own o2)).trans (same_new (by rw [upd_ne (Ne.symm ndo2)]; exact no2) (.ins T.C_Board d2 [])))
    exact ⟨o2, d2, t2, [[110], [110, 119]], rfl, upd_same, so2 _ _ h2, sm, (fun _ H' s' => qe (by decide) (by decide) _ H' (s1.trans (st2.trans (so2.trans s'))) (cd_BadBoard T)), fun hg => by rw [B2] at hg; cases hg⟩
  refine tn ?_
  -- 1
  refine ⟨_, rfl, rfl, _, rfl, iteD (fun c => ?_) (fun c1 => ?_)⟩
  · have e := intk 1 c
    subst e
    exact ⟨_, rfl, o, lb, B0 w, 3, w, 3, 0, rfl, bt, I, (fun _ => qe (by decide) (by decide) _ H1 s1 (cd_NoCell T)), fun z => absurd z.2.1 (by decide)⟩
  refine tn ?_
  -- 2
  refine ⟨_, rfl, rfl, _, rfl, iteD (fun c => ?_) (fun c2 => ?_)⟩
  · have e := intk 2 c
    subst e
    exact ⟨_, rfl, _, rfl, _, rfl, o, lb, B0 w, 3, w, 0, -1, lt s, rfl, bt, I, ok, (fun _ => qe (by decide) (by decide) _ H1 s1 (cd_NoCell T)), fun z => absurd z.2.2.1 (by decide)⟩
  refine tn ?_
  -- 3
  refine ⟨_, rfl, rfl, _, rfl, iteD (fun c => ?_) (fun c3 => ?_)⟩
  · have e := intk 3 c
    subst e
    exact ⟨_, rfl, o, lb, B0 w, 3, w, rfl, bt, I, (fun _ H' s' => qe (by decide) (by decide) _ H' (s1.trans s') (cd_NotFull T)), fun z => absurd z (B0_empty (by omega))⟩
  refine tn ?_
  -- 4
  refine ⟨_, rfl, rfl, _, rfl, iteD (fun c => ?_) (fun c4 => ?_)⟩
  · have e := intk 4 c
    subst e
    exact ⟨_, rfl, o, lb, B0 w, 3, w, rfl, bt, I, (fun _ H' s' => qe (by decide) (by decide) _ H' (s1.trans s') (cd_NotFull T)), fun z => absurd z (B0_empty (by omega))⟩
  refine tn ?_
  -- 5
  refine ⟨_, rfl, rfl, _, rfl, iteD (fun c => ?_) (fun c5 => ?_)⟩
  · have e := intk 5 c
    subst e
    refine ⟨_, rfl, fun p d3 np nd3 ndp => ?_⟩
    have so3 := ((same_new nd3 (.own p)).trans (same_new (by rw [upd_ne (Ne.symm ndp)]; exact np) (.ins T.C_Game d3 [])))
    refine ⟨p, d3, (w : Int), 3, rfl, upd_same, (fun z => absurd ⟨by omega, by omega, by decide, by decide⟩ z), fun _ H2 lg kp nlg nlp hp2 hlg2 => ⟨rfl, ?_⟩⟩
    have s2 : Same H1 H2 := made_board np nd3 kp
    have g2 : GameAt T.C_Game H2 p lg w 3 [] := ⟨⟨d3, hp2⟩, ⟨[], hlg2, .nil⟩, List.nodup_nil, (fun c hc => nomatch hc), by omega, by omega, by decide, by decide⟩
    have nlg1 : H1 lg = none := so3.free nlg
    have in0 : Ins w 3 (0, 0) := ⟨by decide, by show (0 : Int) < w; omega, by decide, by decide⟩
    have w0 : wonO (shB w 3 []) = none := won_nil (by omega) (by omega) (by decide) (by decide)
    refine gn ?_
    refine ⟨_, rfl, p, d3, _, rfl, hp2, gfl_no (by decide +kernel) (by decide +kernel) (by decide +kernel) _ _ _, p, lg, w, 3, [], 0, 0, rfl, g2, (fun z => absurd w0 z), (fun _ z => absurd in0 z), (fun _ _ z => by cases z), fun _ _ _ H3 k3 g3 => ?_⟩
    obtain ⟨d4, hp3⟩ := g3.ob
    have s3 : Same H H3 := same_keep (s1.trans s2) k3 (s1.free nlg1)
    have w1' : wonO (shB w 3 ([] ++ [((0, 0) : Cell)])) = none := one_none w2 (by omega) (by decide) (by decide)
    refine tn ?_
    exact ⟨_, rfl, p, d4, _, rfl, hp3, gfl_no (by decide +kernel) (by decide +kernel) (by decide +kernel) _ _ _, p, lg, w, 3, _, 0, 0, rfl, g3, (fun z => absurd w1' z), (fun _ z => absurd in0 z), (fun _ _ _ H' s' => qe (by decide) (by decide) _ H' (s3.trans s') (cd_Taken T)), (fun _ _ z => absurd List.mem_cons_self z)⟩
  have z0 : k ≠ 0 := fun z => c0 (by rw [z]; rfl)
  have z1 : k ≠ 1 := fun z => c1 (by rw [z]; rfl)
  have z2 : k ≠ 2 := fun z => c2 (by rw [z]; rfl)
  have z3 : k ≠ 3 := fun z => c3 (by rw [z]; rfl)
  have z4 : k ≠ 4 := fun z => c4 (by rw [z]; rfl)
  have z5 : k ≠ 5 := fun z => c5 (by rw [z]; rfl)
  exact q (.inr (by omega)) H1 s1
theorem ok__law_second (T : Top K mg) : FnOk P w K mg base (L2.CX P w) 9 T.a__law_second T.d__law_second ["way", "width", "hand"] (sp_way T 6 11) := by
  refine T.F__law_second.okX sc__law_second (fun vs H Q E h => ?_) (fun cdv A outer s H vs Q E hr h => ?_)
  · obtain ⟨_, _, _, rfl, _⟩ := h
    rfl
  obtain ⟨k, w, s, rfl, k12, w2, w8, qe, q⟩ := h
  refine ⟨_, (pss_cons (ps_if (pt_cmpR op_eq (pv 0) pe_int (nomark _))
      (pss_cons (ps_set (i := 3) sc__law_second.nd rfl (Or.inl rfl) (pe_make T.Mk_Game (ok_Game_init T) (hr.mono (by decide)) (by rfl) T.mC_Game T.B_Game___init__ .nil passL (pa_cons pe_int (pa_cons (pv 1) pa_nil))))
      (pss_cons (ps_expr (pe_meth (pv 3) T.cl_Game T.M_Game_play (ok_Game_play T) (hr.mono (by decide)) T.B_Game_play .nil (passes_call (takes_of rfl rfl rfl rfl) (fun _ _ _ _ z => z)) (pa_cons pe_int (pa_cons pe_int pa_nil))))
      (pss_one (ps_expr (pe_meth (pv 3) T.cl_Game T.M_Game_play (ok_Game_play T) (hr.mono (by decide)) T.B_Game_play .nil (passes_call (takes_of rfl rfl rfl rfl) (fun _ _ _ _ z => z)) (pa_cons pe_int (pa_cons pe_int pa_nil))))))) pss_nil)
      (pss_cons (ps_if (pt_cmpR op_eq (pv 0) pe_int (nomark _))
      (pss_one (ps_expr (pe_meth0 (pe_make T.Mk_Game (ok_Game_init T) (hr.mono (by decide)) (by rfl) T.mC_Game T.B_Game___init__ .nil passL (pa_cons pe_int (pa_cons pe_int pa_nil))) T.cl_Game T.M_Game_back (ok_Game_back T) (hr.mono (by decide)) T.B_Game_back .nil (passes_call (takes_of rfl rfl rfl rfl) (fun _ _ _ _ z => z))))) pss_nil)
      (pss_cons (ps_if (pt_cmpR op_eq (pv 0) pe_int (nomark _))
      (pss_one (ps_expr (pe_call (ok_can_win T) (hr.mono (by decide)) rfl T.m_can_win T.F_can_win.kp T.B_can_win .nil (passes_call (takes_of rfl rfl rfl rfl) (fun _ _ _ _ z => z)) (pa_cons (pe_make T.Mk_Board (ok_Board_init T) (hr.mono (by decide)) (by rfl) T.mC_Board T.B_Board___init__ .nil passL (pa_cons (pe_op op_rep (pe_lst (pa_cons (pe_op op_add_str pe_str (pe_op op_mul_str pe_str (pe_op op_sub (pv 1) pe_int))) pa_nil)) pe_int) pa_nil)) (pa_cons (pv 2) pa_nil))))) pss_nil)
      (pss_cons (ps_if (pt_cmpR op_eq (pv 0) pe_int (nomark _))
      (pss_one (ps_expr (pe_call (ok_replies T) (hr.mono (by decide)) rfl T.m_replies T.F_replies.kp T.B_replies .nil (passes_call (takes_of rfl rfl rfl rfl) (fun _ _ _ _ z => z)) (pa_cons (pe_make T.Mk_Board (ok_Board_init T) (hr.mono (by decide)) (by rfl) T.mC_Board T.B_Board___init__ .nil passL (pa_cons (pe_op op_cat (pe_lst (pa_cons (pe_op op_mul_str pe_str (pv 1)) (pa_cons (pe_op op_mul_str pe_str (pv 1)) pa_nil))) (pe_op op_rep (pe_lst (pa_cons (pe_op op_mul_str pe_str (pv 1)) pa_nil)) pe_int)) pa_nil)) (pa_cons (pv 2) pa_nil))))) pss_nil)
      (pss_cons (ps_if (pt_cmpR op_eq (pv 0) pe_int (nomark _))
      (pss_one (ps_expr (pe_call (ok_can_win T) (hr.mono (by decide)) rfl T.m_can_win T.F_can_win.kp T.B_can_win .nil (passes_call (takes_of rfl rfl rfl rfl) (fun _ _ _ _ z => z)) (pa_cons (pe_make T.Mk_Board (ok_Board_init T) (hr.mono (by decide)) (by rfl) T.mC_Board T.B_Board___init__ .nil passL (pa_cons (pe_lst (pa_cons (pe_op op_mul_str pe_str pe_int) (pa_cons (pe_op op_add_str (pe_op op_mul_str pe_str pe_int) pe_str) (pa_cons (pe_op op_add_str (pe_op op_mul_str pe_str pe_int) pe_str) pa_nil)))) pa_nil)) (pa_cons (pv 2) pa_nil))))) pss_nil)
      (pss_one (ps_if (pt_cmpR op_eq (pv 0) pe_int (nomark _))
      (pss_one (ps_expr (pe_call (ok_replies T) (hr.mono (by decide)) rfl T.m_replies T.F_replies.kp T.B_replies .nil (passes_call (takes_of rfl rfl rfl rfl) (fun _ _ _ _ z => z)) (pa_cons (pe_make T.Mk_Board (ok_Board_init T) (hr.mono (by decide)) (by rfl) T.mC_Board T.B_Board___init__ .nil passL (pa_cons (pe_lst (pa_cons pe_str (pa_cons pe_str (pa_cons pe_str (pa_cons pe_str (pa_cons pe_str (pa_cons pe_str pa_nil))))))) pa_nil)) (pa_cons (pv 2) pa_nil))))) pss_nil))))))), ?_⟩
  have intk : ∀ j : Nat, V.int (k : Int) = V.int (j : Int) → k = j := fun j z => by
    have := V.int.inj z
    omega
  have own_made : ∀ {H' : Hp} {o d : Addr}, H' o = none → H' d = none → d ≠ o → Same H' (upd (upd H' d (.own o)) o (.ins T.C_Board d [])) := fun no nd ndo => (same_new nd (.own _)).trans (same_new (by rw [upd_ne (Ne.symm ndo)]; exact no) (.ins T.C_Board _ []))
  -- 6
  refine ⟨_, rfl, rfl, _, rfl, iteD (fun c => ?_) (fun c6 => ?_)⟩
  · have e := intk 6 c
    subst e
    refine ⟨_, rfl, fun p d3 np nd3 ndp => ?_⟩
    have so3 := ((same_new nd3 (.own p)).trans (same_new (by rw [upd_ne (Ne.symm ndp)]; exact np) (.ins T.C_Game d3 [])))
    refine ⟨p, d3, 1, (w : Int), rfl, upd_same, (fun z => absurd ⟨by decide, by decide, by omega, by omega⟩ z), fun _ H2 lg kp nlg nlp hp2 hlg2 => ⟨rfl, ?_⟩⟩
    have s2 : Same H H2 := made_board np nd3 kp
    have g2 : GameAt T.C_Game H2 p lg 1 w [] := ⟨⟨d3, hp2⟩, ⟨[], hlg2, .nil⟩, List.nodup_nil, (fun c hc => nomatch hc), by decide, by decide, by omega, by omega⟩
    have nlg1 : H lg = none := so3.free nlg
    have in0 : Ins 1 w (0, 0) := ⟨by decide, by decide, by decide, by show (0 : Int) < w; omega⟩
    have w0 : wonO (shB 1 w []) = none := won_nil (by decide) (by decide) (by omega) (by omega)
    refine gn ?_
    refine ⟨_, rfl, p, d3, _, rfl, hp2, gfl_no (by decide +kernel) (by decide +kernel) (by decide +kernel) _ _ _, p, lg, 1, w, [], 0, 0, rfl, g2, (fun z => absurd w0 z), (fun _ z => absurd in0 z), (fun _ _ z => by cases z), fun _ _ _ H3 k3 g3 => ?_⟩
    obtain ⟨d4, hp3⟩ := g3.ob
    have s3 : Same H H3 := same_keep s2 k3 nlg1
    have w1' : wonO (shB 1 w ([] ++ [((0, 0) : Cell)])) ≠ none := one_won (by omega) (by omega)
    refine tn ?_
    exact ⟨_, rfl, p, d4, _, rfl, hp3, gfl_no (by decide +kernel) (by decide +kernel) (by decide +kernel) _ _ _, p, lg, 1, w, _, 0, 0, rfl, g3, (fun _ H' s' => qe (by decide) (by decide) _ H' (s3.trans s') (cd_Over T)), (fun z => absurd z w1'), (fun z => absurd z w1'), (fun z => absurd z w1')⟩
  refine tn ?_
  -- 7
  refine ⟨_, rfl, rfl, _, rfl, iteD (fun c => ?_) (fun c7 => ?_)⟩
  · have e := intk 7 c
    subst e
    intro p d3 np nd3 ndp
    refine ⟨p, d3, 2, 2, rfl, upd_same, (fun z => absurd ⟨by decide, by decide, by decide, by decide⟩ z), fun _ H2 lg kp nlg nlp hp2 hlg2 => ⟨rfl, ?_⟩⟩
    have s2 : Same H H2 := made_board np nd3 kp
    have g2 : GameAt T.C_Game H2 p lg 2 2 [] := ⟨⟨d3, hp2⟩, ⟨[], hlg2, .nil⟩, List.nodup_nil, (fun c hc => nomatch hc), by decide, by decide, by decide, by decide⟩
    exact ⟨p, d3, _, rfl, hp2, gfl_no (by decide +kernel) (by decide +kernel) (by decide +kernel) _ _ _, p, lg, 2, 2, [], rfl, g2, (fun _ => qe (by decide) (by decide) _ H2 s2 (cd_NoStone T)), fun c0 c e => by simp at e⟩
  refine tn ?_
  -- 8
  refine ⟨_, rfl, rfl, _, rfl, iteD (fun c => ?_) (fun c8 => ?_)⟩
  · have e := intk 8 c
    subst e
    have I := B8_is (w := w) (by omega) (by omega)
    have ew : ((w : Nat) : Int) - 1 = ((w - 1 : Nat) : Int) := by omega
    refine ⟨_, rfl, _, _, rfl, rfl, _, _, rfl, rfl, (show 1 ≤ 1000 by decide), by omega, by omega, _, _, rfl, rfl, ?_, sz1, fun t ht => ?_⟩
    · rw [s_n, s_dot, ew, mul_txt, Int.toNat_natCast, txt_len, txt_len, List.length_replicate]
      exact sz_le (by show 1 + _ ≤ 1000000; omega)
    have er : V.str (Str.ofString "n" ++ Txt.mul (Str.ofString ".") (((w : Nat) : Int) - 1)) = rowV ([110] ++ List.replicate (w - 1) 46) := by
      rw [s_n, s_dot, ew, mul_txt, Int.toNat_natCast, txt_app]
      rfl
    have st := same_new ht (.lst [V.str (Str.ofString "n" ++ Txt.mul (Str.ofString ".") (((w : Nat) : Int) - 1))])
    refine ⟨t, 9, _, rfl, rfl, upd_same, by decide, by decide, (show 1 * 9 ≤ sizeLine by decide), fun r hr' => ?_⟩
    have efl : (List.replicate (9 : Int).toNat [V.str (Str.ofString "n" ++ Txt.mul (Str.ofString ".") (((w : Nat) : Int) - 1))]).flatten = rowsV (B8 w) := by
      rw [er]
      rfl
    rw [efl]
    have sr := same_new hr' (.lst (rowsV (B8 w)))
    intro o d no nd ndo
    refine ⟨o, d, r, B8 w, rfl, upd_same, own_made no nd ndo _ _ upd_same, I.small, fun hb => ?_, fun _ H1 lb k1 n1 bt => ⟨rfl, ?_⟩⟩
    · rw [I.good] at hb
      cases hb
    have s1 : Same H H1 := st.trans (sr.trans (made_board no nd k1))
    exact ⟨_, rfl, o, lb, B8 w, 9, w, s, rfl, bt, I, .inl (B8_joined (by omega) (by omega)), (fun _ H' s' => qe (by decide) (by decide) _ H' (s1.trans s') (cd_Over T)), fun z => by rw [B8_joined (by omega) (by omega)] at z; cases z⟩
  refine tn ?_
  -- 9
  refine ⟨_, rfl, rfl, _, rfl, iteD (fun c => ?_) (fun c9 => ?_)⟩
  · have e := intk 9 c
    subst e
    have I := B9_is (w := w) (by omega) (by omega)
    refine ⟨_, rfl, _, _, rfl, rfl, (show 1 ≤ 1000 by decide), by omega, by omega, _, rfl, _, _, rfl, rfl, (show 1 ≤ 1000 by decide), by omega, by omega, sz2, fun t ht => ?_⟩
    have st := same_new ht (.lst [V.str (Txt.mul (Str.ofString "w") (w : Int)), V.str (Txt.mul (Str.ofString ".") (w : Int))])
    refine ⟨_, rfl, _, _, rfl, rfl, (show 1 ≤ 1000 by decide), by omega, by omega, sz1, fun t2 ht2 => ?_⟩
    have st2 := same_new ht2 (.lst [V.str (Txt.mul (Str.ofString "n") (w : Int))])
    refine ⟨t2, 3, _, rfl, rfl, upd_same, by decide, by decide, (show 1 * 3 ≤ sizeLine by decide), fun t3 ht3 => ?_⟩
    have st3 := same_new ht3 (.lst ((List.replicate (3 : Int).toNat [V.str (Txt.mul (Str.ofString "n") (w : Int))]).flatten))
    refine ⟨t, t3, _, _, rfl, rfl, st3 _ _ (st2 _ _ upd_same), upd_same, (show 2 + 3 ≤ sizeLine by decide), fun r hr' => ?_⟩
    have efl : [V.str (Txt.mul (Str.ofString "w") (w : Int)), V.str (Txt.mul (Str.ofString ".") (w : Int))] ++ (List.replicate (3 : Int).toNat [V.str (Txt.mul (Str.ofString "n") (w : Int))]).flatten = rowsV (B9 w) := by
      rw [mul_row s_n, mul_row s_w, mul_row s_dot]
      rfl
    rw [efl]
    have sr := same_new hr' (.lst (rowsV (B9 w)))
    intro o d no nd ndo
    refine ⟨o, d, r, B9 w, rfl, upd_same, own_made no nd ndo _ _ upd_same, I.small, fun hb => ?_, fun _ H1 lb k1 n1 bt => ⟨rfl, ?_⟩⟩
    · rw [I.good] at hb
      cases hb
    have s1 : Same H H1 := st.trans (st2.trans (st3.trans (sr.trans (made_board no nd k1))))
    exact ⟨_, rfl, o, lb, B9 w, 5, w, s, rfl, bt, I, .inr (.inl (B9_joined (by omega) (by omega))), (fun _ H' s' => qe (by decide) (by decide) _ H' (s1.trans s') (cd_Over T)), fun _ z => by rw [B9_joined (by omega) (by omega)] at z; cases z⟩
  refine tn ?_
  -- 10
  refine ⟨_, rfl, rfl, _, rfl, iteD (fun c => ?_) (fun c10 => ?_)⟩
  · have e := intk 10 c
    subst e
    obtain ⟨b1, b2, b3⟩ := B10_none
    refine ⟨_, _, rfl, rfl, (show 1 ≤ 1000 by decide), by decide, by decide, _, _, rfl, rfl, (show 1 ≤ 1000 by decide), by decide, by decide, _, _, rfl, rfl, ?_, _, _, rfl, rfl, (show 1 ≤ 1000 by decide), by decide, by decide, _, _, rfl, rfl, ?_, sz3, fun t ht => ?_⟩
    · rw [s_n, s_w, mul_txt, txt_len, txt_len]
      decide
    · rw [s_n, s_w, mul_txt, txt_len, txt_len]
      decide
    have efl : [V.str (Txt.mul (Str.ofString ".") 7), V.str (Txt.mul (Str.ofString "w") 6 ++ Str.ofString "n"), V.str (Txt.mul (Str.ofString "w") 6 ++ Str.ofString "n")] = rowsV B10 := by
      rw [s_n, s_w, s_dot, mul_txt, mul_txt, txt_app]
      rfl
    rw [efl]
    have st := same_new ht (.lst (rowsV B10))
    intro o d no nd ndo
    refine ⟨o, d, t, B10, rfl, upd_same, own_made no nd ndo _ _ upd_same, B10_is.small, fun hb => ?_, fun _ H1 lb k1 n1 bt => ⟨rfl, ?_⟩⟩
    · rw [B10_is.good] at hb
      cases hb
    have s1 : Same H H1 := st.trans (made_board no nd k1)
    exact ⟨_, rfl, o, lb, B10, 3, 7, s, rfl, bt, B10_is, .inr (.inr b3), (fun z => by rw [b1, b2] at z; simp at z), fun _ _ H' s' => qe (by decide) (by decide) _ H' (s1.trans s') (cd_TooMany T)⟩
  refine tn ?_
  -- 11
  refine ⟨_, rfl, rfl, _, rfl, iteD (fun c => ?_) (fun c11 => ?_)⟩
  · have e := intk 11 c
    subst e
    obtain ⟨b1, b2, b3⟩ := B11_none
    refine ⟨sz6, fun t ht => ?_⟩
    have efl : [V.str (Str.ofString ".."), V.str (Str.ofString ".."), V.str (Str.ofString ".."), V.str (Str.ofString "nw"), V.str (Str.ofString "nw"), V.str (Str.ofString ".w")] = rowsV B11 := by
      rw [show Str.ofString ".." = txt [46, 46] by decide +kernel, show Str.ofString ".w" = txt [46, 119] by decide +kernel, s_nw]
      rfl
    rw [efl]
    have st := same_new ht (.lst (rowsV B11))
    intro o d no nd ndo
    refine ⟨o, d, t, B11, rfl, upd_same, own_made no nd ndo _ _ upd_same, B11_is.small, fun hb => ?_, fun _ H1 lb k1 n1 bt => ⟨rfl, ?_⟩⟩
    · rw [B11_is.good] at hb
      cases hb
    have s1 : Same H H1 := st.trans (made_board no nd k1)
    exact ⟨_, rfl, o, lb, B11, 6, 2, s, rfl, bt, B11_is, .inr (.inr b3), (fun z => by rw [b1, b2] at z; simp at z), fun _ _ H' s' => qe (by decide) (by decide) _ H' (s1.trans s') (cd_TooMany T)⟩
  have z6 : k ≠ 6 := fun z => c6 (by rw [z]; rfl)
  have z7 : k ≠ 7 := fun z => c7 (by rw [z]; rfl)
  have z8 : k ≠ 8 := fun z => c8 (by rw [z]; rfl)
  have z9 : k ≠ 9 := fun z => c9 (by rw [z]; rfl)
  have z10 : k ≠ 10 := fun z => c10 (by rw [z]; rfl)
  have z11 : k ≠ 11 := fun z => c11 (by rw [z]; rfl)
  exact q (.inl (by omega)) H (.refl H)
def sp__law_met : Sp := fun vs H Q _ => ∃ (k w : Nat) (s : Bool), vs = [.int (k : Int), .int (w : Int), .str (txt [lt s])] ∧ k < 12 ∧ 2 ≤ w ∧ w ≤ 8 ∧ ∀ H', Same H H' → Q (.int (wn k : Int)) H'
theorem ok__law_met (T : Top K mg) : FnOk P w K mg base CX0 11 T.a__law_met T.d__law_met ["way", "width", "hand"] sp__law_met := by
  refine T.F__law_met.ok sc__law_met (fun vs H Q E h => ?_) (fun cdv A outer s H vs Q E hr h => ?_)
  · obtain ⟨_, _, _, rfl, _⟩ := h
    rfl
  obtain ⟨k, w, s, rfl, k12, w2, w8, q⟩ := h
  refine ⟨_, (pss_cons (ps_try_as (i := 3) (Wout := fun _ _ _ _ => False) rfl rfl sc__law_met.nd rfl rfl ⟨rfl, by decide, .inl T.mC_ShoreError⟩ takes0 (fun W pn xe tk po => (pss_cons (ps_expr (pe_callS (ok__law_first T) (hr.mono (by decide)) rfl T.m__law_first T.F__law_first.kp T.B__law_first (fun σ => passAt tk σ) (pa_cons (pv 0) (pa_cons (pv 1) (pa_cons (pv 2) pa_nil)))))
      (pss_one (ps_expr (pe_callS (ok__law_second T) (hr.mono (by decide)) rfl T.m__law_second T.F__law_second.kp T.B__law_second (fun σ => passAt tk σ) (pa_cons (pv 0) (pa_cons (pv 1) (pa_cons (pv 2) pa_nil))))))))
      (fun a oe cls d pn hz hf => (pss_one (ps_ret (pe_callE (pp := (a, oe)) (ok__law_which T) (by have z := roomE_of (hr.mono (j := 1) (by decide)); exact ⟨z.dp, z.un⟩) List.mem_cons_self (by rfl) T.m__law_which T.F__law_which.kp T.B__law_which (sq := sq__law_which T a cls d) (fun _ _ _ z => sq__law_which_to hz hf z) (pa_cons (pv 3) pa_nil))))))
      (pss_one (ps_ret pe_int))), ?_⟩
  have exm : ∀ {D : Addr} {n : Nat}, Cd T D n → PySem.W.exmOne K (.ref D) (.ref T.C_ShoreError) = some true := fun {D n} c => by
    exact exm_of T.b_ShoreError T.i_ShoreError T.t_ShoreError c.sb
  refine ⟨_, rfl, _, rfl, _, rfl, k, w, s, rfl, k12, w2, w8, (fun _ k5 D H' s' c => ?_), fun z H1 s1 => ?_⟩
  · refine ⟨true, exm c, (fun _ ax nax => ?_), fun z => nomatch z⟩
    exact ⟨_, rfl, D, _, rfl, rfl, c, rfl, fun H2 s2 => q H2 (s'.trans s2)⟩
  refine tn ?_
  refine ⟨_, rfl, _, rfl, _, rfl, k, w, s, rfl, k12, w2, w8, (fun _ k5 D H' s' c => ?_), fun z2 H2 s2 => ?_⟩
  · refine ⟨true, exm c, (fun _ ax nax => ?_), fun z => nomatch z⟩
    exact ⟨_, rfl, D, _, rfl, rfl, c, rfl, fun H2 s2 => q H2 (s1.trans (s'.trans s2))⟩
  · exfalso
    omega
def sp_law (K : PySem.W.Frag) : Sp := fun vs H Q _ => ∃ (a : Addr) (ns : List Int), vs = [.ref a] ∧ SqL K H a (ns.map V.int) ∧ ns.length ≤ 63 ∧ ∀ H', Q (.bl true) H'
theorem ok_law (T : Top K mg) : FnOk P w K mg base CX0 13 T.a_law T.d_law ["script"] (sp_law K) := by
  refine T.F_law.ok sc_law (fun vs H Q E h => ?_) (fun cdv A outer s H vs Q E hr h => ?_)
  · obtain ⟨_, _, rfl, _⟩ := h
    rfl
  obtain ⟨a, ns, rfl, hS, hlen, q⟩ := h
  refine ⟨_, (pss_cons (ps_set (i := 1) sc_law.nd rfl (Or.inl rfl) (pe_op op_add pe_int (pe_op op_mod (pe_call (ok__law_cell_at T) (hr.mono (by decide)) rfl T.m__law_cell_at T.F__law_cell_at.kp T.B__law_cell_at .nil pass0 (pa_cons (pv 0) (pa_cons pe_int pa_nil))) pe_int)))
      (pss_cons (ps_set (i := 2) sc_law.nd rfl (Or.inl rfl) (pe_ix ix_str pe_str (pe_op op_mod (pe_call (ok__law_cell_at T) (hr.mono (by decide)) rfl T.m__law_cell_at T.F__law_cell_at.kp T.B__law_cell_at .nil pass0 (pa_cons (pv 0) (pa_cons pe_int pa_nil))) pe_int) (fun _ _ => rfl)))
      (pss_cons (ps_set (i := 3) sc_law.nd rfl (Or.inl rfl) (pe_op op_mod (pe_call (ok__law_cell_at T) (hr.mono (by decide)) rfl T.m__law_cell_at T.F__law_cell_at.kp T.B__law_cell_at .nil pass0 (pa_cons (pv 0) (pa_cons pe_int pa_nil))) pe_int))
      (pss_cons (ps_for PassesOwn.never rfl (pi_range1 rfl T.z_range (pa_cons pe_int pa_nil)) (pg_name (i := 4) sc_law.nd rfl (Or.inl rfl))
      (pss_cons (ps_set (i := 5) sc_law.nd rfl (Or.inl rfl) (pe_op op_mod (pe_op op_add (pv 3) (pv 4)) pe_int))
      (pss_one (ps_if (pt_cmpR op_ne (pe_call (ok__law_met T) (hr.mono (by decide)) rfl T.m__law_met T.F__law_met.kp T.B__law_met .nil pass0 (pa_cons (pv 5) (pa_cons (pv 1) (pa_cons (pv 2) pa_nil)))) (pe_ix ix_list (pe_lst (pa_cons pe_int (pa_cons pe_int (pa_cons pe_int (pa_cons pe_int (pa_cons pe_int (pa_cons pe_int (pa_cons pe_int (pa_cons pe_int (pa_cons pe_int (pa_cons pe_int (pa_cons pe_int (pa_cons pe_int pa_nil))))))))))))) (pv 5) (fun _ _ => rfl)) (nomark _))
      (pss_one (ps_ret pe_bl)) pss_nil))))
      (pss_one (ps_ret pe_bl)))))), ?_⟩
  have p0 := Int.emod_nonneg (sAt ns 0) (show (7 : Int) ≠ 0 by decide)
  have p1 := Int.emod_lt_of_pos (sAt ns 0) (show (0 : Int) < 7 by decide)
  obtain ⟨w, ew⟩ : ∃ n : Nat, 2 + sAt ns 0 % 7 = (n : Int) := ⟨(2 + sAt ns 0 % 7).toNat, by omega⟩
  obtain ⟨s, es⟩ := nw_hand (Int.emod_nonneg (sAt ns 1) (show (2 : Int) ≠ 0 by decide)) (Int.emod_lt_of_pos (sAt ns 1) (show (0 : Int) < 2 by decide))
  have f0 := Int.emod_nonneg (sAt ns 2) (show (12 : Int) ≠ 0 by decide)
  refine ⟨_, rfl, a, ns, 0, rfl, hS, by decide, _, _, rfl, rfl, (show (0 : Int) < 7 by decide), _, _, rfl, rfl, ?_⟩
  refine gn ?_
  refine ⟨_, rfl, a, ns, 1, rfl, hS, by decide, _, _, rfl, rfl, (show (0 : Int) < 2 by decide), _, _, _, rfl, rfl, (show (2 : Nat) ≤ sizeLine by decide), es, ?_⟩
  refine gn ?_
  refine ⟨_, rfl, a, ns, 2, rfl, hS, by decide, _, _, rfl, rfl, (show (0 : Int) < 12 by decide), ?_⟩
  refine gn ?_
  refine ⟨(12 : Int), rfl, by decide, by decide, for_range (lo := 0) (n := 12) (fun i σ H' => ∃ v4 v5 : Option V, σ = [some (.ref a), some (.int (2 + sAt ns 0 % 7)), some (.str (txt [lt s])), some (.int (sAt ns 2 % 12)), v4, v5]) ⟨_, _, rfl⟩ ?_ ?_⟩
  · rintro i σ H1 hi ⟨v4, v5, rfl⟩
    have w0 := Int.emod_nonneg (sAt ns 2 % 12 + ((0 : Int) + (i : Int))) (show (12 : Int) ≠ 0 by decide)
    have w1 := Int.emod_lt_of_pos (sAt ns 2 % 12 + ((0 : Int) + (i : Int))) (show (0 : Int) < 12 by decide)
    obtain ⟨k, ek⟩ : ∃ n : Nat, (sAt ns 2 % 12 + ((0 : Int) + (i : Int))) % 12 = (n : Int) := ⟨((sAt ns 2 % 12 + ((0 : Int) + (i : Int))) % 12).toNat, by omega⟩
    refine ⟨_, rfl, _, rfl, _, _, rfl, rfl, _, _, rfl, rfl, (show (0 : Int) < 12 by decide), ?_⟩
    refine gn ?_
    refine ⟨_, rfl, _, rfl, _, rfl, k, w, s, by rw [← ek, ← ew]; rfl, by omega, by omega, by omega, fun H2 s2 => ?_⟩
    refine ⟨(show 12 ≤ sizeLine by decide), fun t ht => ?_⟩
    have pick : atI [V.int 0, V.int 1, V.int 1, V.int 2, V.int 2, V.int 3, V.int 4, V.int 5, V.int 4, V.int 4, V.int 6, V.int 6] ((k : Nat) : Int) = some (.int (wn k : Int)) := by
      refine atI_nat ?_
      have k12 : k < 12 := by omega
      have all : ∀ n, n < 12 → [V.int 0, V.int 1, V.int 1, V.int 2, V.int 2, V.int 3, V.int 4, V.int 5, V.int 4, V.int 4, V.int 6, V.int 6][n]? = some (V.int (wn n : Int)) := by
        intro n hn
        have : n = 0 ∨ n = 1 ∨ n = 2 ∨ n = 3 ∨ n = 4 ∨ n = 5 ∨ n = 6 ∨ n = 7 ∨ n = 8 ∨ n = 9 ∨ n = 10 ∨ n = 11 := by omega
        rcases this with rfl | rfl | rfl | rfl | rfl | rfl | rfl | rfl | rfl | rfl | rfl | rfl <;> rfl
      exact all k k12
    refine ⟨_, rfl, t, _, _, _, rfl, rfl, SqL.of upd_same, (by rw [← ek] at pick; exact pick), rfl, _, rfl, iteN (fun z => absurd rfl z) (fun _ => ⟨_, _, rfl⟩)⟩
  · rintro σ H1 _
    exact q _
end
end Sw
namespace Sw
open PySem PySem.Spec PyProof.Rows L2
/-! ### what the top has written, and the end -/
theorem all_mk {l : PySem.W.OpenLaw} {w : World} {K : PySem.W.Frag} {h : Heap} {mg : Str → Option Value} {fa : Addr} (X : K.In h) (G : h.Ns mainGlobals mg) (hfa : mg "law" = some (.ref fa))
    {C_Board C_Game C_ShoreError C_BadBoard C_NoCell C_NotFull C_Taken C_Over C_NoStone C_TooMany : Addr}
    {od1 an1 : Option Addr} {sl1 : Array (Option Value)} {oc1 kV1 dc1 pm1 cd1 ct1 : Value} {f1 : Addr}
    {od2 an2 : Option Addr} {sl2 : Array (Option Value)} {oc2 kV2 dc2 pm2 cd2 ct2 : Value} {f2 : Addr}
    {od3 an3 : Option Addr} {sl3 : Array (Option Value)} {oc3 kV3 dc3 pm3 cd3 ct3 : Value} {f3 : Addr}
    {od4 an4 : Option Addr} {sl4 : Array (Option Value)} {oc4 kV4 dc4 pm4 cd4 ct4 : Value} {f4 : Addr}
    {od5 an5 : Option Addr} {sl5 : Array (Option Value)} {oc5 kV5 dc5 pm5 cd5 ct5 : Value} {f5 : Addr}
    {od6 an6 : Option Addr} {sl6 : Array (Option Value)} {oc6 kV6 dc6 pm6 cd6 ct6 : Value} {f6 : Addr}
    {od7 an7 : Option Addr} {sl7 : Array (Option Value)} {oc7 kV7 dc7 pm7 cd7 ct7 : Value} {f7 : Addr}
    {od8 an8 : Option Addr} {sl8 : Array (Option Value)} {oc8 kV8 dc8 pm8 cd8 ct8 : Value} {f8 : Addr}
    {od9 an9 : Option Addr} {sl9 : Array (Option Value)} {oc9 kV9 dc9 pm9 cd9 ct9 : Value} {f9 : Addr}
    {od10 an10 : Option Addr} {sl10 : Array (Option Value)} {oc10 kV10 dc10 pm10 cd10 ct10 : Value} {f10 : Addr}
    {od11 an11 : Option Addr} {sl11 : Array (Option Value)} {oc11 kV11 dc11 pm11 cd11 ct11 : Value} {f11 : Addr}
    {od12 an12 : Option Addr} {sl12 : Array (Option Value)} {oc12 kV12 dc12 pm12 cd12 ct12 : Value} {f12 : Addr}
    {od13 an13 : Option Addr} {sl13 : Array (Option Value)} {oc13 kV13 dc13 pm13 cd13 ct13 : Value} {f13 : Addr}
    {od14 an14 : Option Addr} {sl14 : Array (Option Value)} {oc14 kV14 dc14 pm14 cd14 ct14 : Value} {f14 : Addr}
    {od15 an15 : Option Addr} {sl15 : Array (Option Value)} {oc15 kV15 dc15 pm15 cd15 ct15 : Value} {f15 : Addr}
    {od16 an16 : Option Addr} {sl16 : Array (Option Value)} {oc16 kV16 dc16 pm16 cd16 ct16 : Value} {f16 : Addr}
    {od17 an17 : Option Addr} {sl17 : Array (Option Value)} {oc17 kV17 dc17 pm17 cd17 ct17 : Value} {f17 : Addr}
    {od18 an18 : Option Addr} {sl18 : Array (Option Value)} {oc18 kV18 dc18 pm18 cd18 ct18 : Value} {f18 : Addr}
    {od19 an19 : Option Addr} {sl19 : Array (Option Value)} {oc19 kV19 dc19 pm19 cd19 ct19 : Value} {f19 : Addr}
    {od20 an20 : Option Addr} {sl20 : Array (Option Value)} {oc20 kV20 dc20 pm20 cd20 ct20 : Value} {f20 : Addr}
    {od21 an21 : Option Addr} {sl21 : Array (Option Value)} {oc21 kV21 dc21 pm21 cd21 ct21 : Value} {f21 : Addr}
    {od22 an22 : Option Addr} {sl22 : Array (Option Value)} {oc22 kV22 dc22 pm22 cd22 ct22 : Value} {f22 : Addr}
    {od23 an23 : Option Addr} {sl23 : Array (Option Value)} {oc23 kV23 dc23 pm23 cd23 ct23 : Value} {f23 : Addr}
    {od24 an24 : Option Addr} {sl24 : Array (Option Value)} {oc24 kV24 dc24 pm24 cd24 ct24 : Value} {f24 : Addr}
    {od25 an25 : Option Addr} {sl25 : Array (Option Value)} {oc25 kV25 dc25 pm25 cd25 ct25 : Value} {f25 : Addr}
    {od26 an26 : Option Addr} {sl26 : Array (Option Value)} {oc26 kV26 dc26 pm26 cd26 ct26 : Value} {f26 : Addr}
    {od27 an27 : Option Addr} {sl27 : Array (Option Value)} {oc27 kV27 dc27 pm27 cd27 ct27 : Value} {f27 : Addr}
    {od28 an28 : Option Addr} {sl28 : Array (Option Value)} {oc28 kV28 dc28 pm28 cd28 ct28 : Value} {f28 : Addr}
    {od29 an29 : Option Addr} {sl29 : Array (Option Value)} {oc29 kV29 dc29 pm29 cd29 ct29 : Value} {f29 : Addr}
    {od30 an30 : Option Addr} {sl30 : Array (Option Value)} {oc30 kV30 dc30 pm30 cd30 ct30 : Value} {f30 : Addr}
    {od31 an31 : Option Addr} {sl31 : Array (Option Value)} {oc31 kV31 dc31 pm31 cd31 ct31 : Value} {f31 : Addr}
    (aC_Board : PySem.W.nsIn K mainGlobals "Board" = some (some (.ref C_Board)))
    (aC_Game : PySem.W.nsIn K mainGlobals "Game" = some (some (.ref C_Game)))
    (aC_ShoreError : PySem.W.nsIn K mainGlobals "ShoreError" = some (some (.ref C_ShoreError)))
    (aC_BadBoard : PySem.W.nsIn K mainGlobals "BadBoard" = some (some (.ref C_BadBoard)))
    (aC_NoCell : PySem.W.nsIn K mainGlobals "NoCell" = some (some (.ref C_NoCell)))
    (aC_NotFull : PySem.W.nsIn K mainGlobals "NotFull" = some (some (.ref C_NotFull)))
    (aC_Taken : PySem.W.nsIn K mainGlobals "Taken" = some (some (.ref C_Taken)))
    (aC_Over : PySem.W.nsIn K mainGlobals "Over" = some (some (.ref C_Over)))
    (aC_NoStone : PySem.W.nsIn K mainGlobals "NoStone" = some (some (.ref C_NoStone)))
    (aC_TooMany : PySem.W.nsIn K mainGlobals "TooMany" = some (some (.ref C_TooMany)))
    (a1 : PySem.W.nsIn K mainGlobals "board_right" = some (some (.ref f1)))
    (l1 : K.lookup f1 = some ⟨oc1, od1, .func (PySem.W.fnOf "board_right" "board_right" (defArgs s_board_right) (defBody s_board_right) (defScope s_board_right) .none kV1 dc1 pm1 an1 cd1 ct1), sl1⟩)
    (c1 : PySem.W.codeIn K cd1 "board_right" = true)
    (k1 : PySem.W.keepIn K (.ref f1) = true)
    (a2 : PySem.W.findIn K (.ref C_Board) "__init__" = some (some (.ref f2)))
    (i2 : PySem.W.isFn K (.ref f2) = true)
    (l2 : K.lookup f2 = some ⟨oc2, od2, .func (PySem.W.fnOf "__init__" "Board.__init__" (defArgs s_Board___init__) (defBody s_Board___init__) (defScope s_Board___init__) .none kV2 dc2 pm2 an2 cd2 ct2), sl2⟩)
    (c2 : PySem.W.codeIn K cd2 "Board.__init__" = true)
    (k2 : PySem.W.keepIn K (.ref f2) = true)
    (a3 : PySem.W.findIn K (.ref C_Board) "has" = some (some (.ref f3)))
    (i3 : PySem.W.isFn K (.ref f3) = true)
    (l3 : K.lookup f3 = some ⟨oc3, od3, .func (PySem.W.fnOf "has" "Board.has" (defArgs s_Board_has) (defBody s_Board_has) (defScope s_Board_has) .none kV3 dc3 pm3 an3 cd3 ct3), sl3⟩)
    (c3 : PySem.W.codeIn K cd3 "Board.has" = true)
    (k3 : PySem.W.keepIn K (.ref f3) = true)
    (a4 : PySem.W.nsIn K mainGlobals "near" = some (some (.ref f4)))
    (l4 : K.lookup f4 = some ⟨oc4, od4, .func (PySem.W.fnOf "near" "near" (defArgs s_near) (defBody s_near) (defScope s_near) .none kV4 dc4 pm4 an4 cd4 ct4), sl4⟩)
    (c4 : PySem.W.codeIn K cd4 "near" = true)
    (k4 : PySem.W.keepIn K (.ref f4) = true)
    (a5 : PySem.W.nsIn K mainGlobals "sign" = some (some (.ref f5)))
    (l5 : K.lookup f5 = some ⟨oc5, od5, .func (PySem.W.fnOf "sign" "sign" (defArgs s_sign) (defBody s_sign) (defScope s_sign) .none kV5 dc5 pm5 an5 cd5 ct5), sl5⟩)
    (c5 : PySem.W.codeIn K cd5 "sign" = true)
    (k5 : PySem.W.keepIn K (.ref f5) = true)
    (a6 : PySem.W.nsIn K mainGlobals "laid" = some (some (.ref f6)))
    (l6 : K.lookup f6 = some ⟨oc6, od6, .func (PySem.W.fnOf "laid" "laid" (defArgs s_laid) (defBody s_laid) (defScope s_laid) .none kV6 dc6 pm6 an6 cd6 ct6), sl6⟩)
    (c6 : PySem.W.codeIn K cd6 "laid" = true)
    (k6 : PySem.W.keepIn K (.ref f6) = true)
    (a7 : PySem.W.nsIn K mainGlobals "other" = some (some (.ref f7)))
    (l7 : K.lookup f7 = some ⟨oc7, od7, .func (PySem.W.fnOf "other" "other" (defArgs s_other) (defBody s_other) (defScope s_other) .none kV7 dc7 pm7 an7 cd7 ct7), sl7⟩)
    (c7 : PySem.W.codeIn K cd7 "other" = true)
    (k7 : PySem.W.keepIn K (.ref f7) = true)
    (a8 : PySem.W.nsIn K mainGlobals "empty" = some (some (.ref f8)))
    (l8 : K.lookup f8 = some ⟨oc8, od8, .func (PySem.W.fnOf "empty" "empty" (defArgs s_empty) (defBody s_empty) (defScope s_empty) .none kV8 dc8 pm8 an8 cd8 ct8), sl8⟩)
    (c8 : PySem.W.codeIn K cd8 "empty" = true)
    (k8 : PySem.W.keepIn K (.ref f8) = true)
    (a9 : PySem.W.nsIn K mainGlobals "beginnings" = some (some (.ref f9)))
    (l9 : K.lookup f9 = some ⟨oc9, od9, .func (PySem.W.fnOf "beginnings" "beginnings" (defArgs s_beginnings) (defBody s_beginnings) (defScope s_beginnings) .none kV9 dc9 pm9 an9 cd9 ct9), sl9⟩)
    (c9 : PySem.W.codeIn K cd9 "beginnings" = true)
    (k9 : PySem.W.keepIn K (.ref f9) = true)
    (a10 : PySem.W.nsIn K mainGlobals "at_end" = some (some (.ref f10)))
    (l10 : K.lookup f10 = some ⟨oc10, od10, .func (PySem.W.fnOf "at_end" "at_end" (defArgs s_at_end) (defBody s_at_end) (defScope s_at_end) .none kV10 dc10 pm10 an10 cd10 ct10), sl10⟩)
    (c10 : PySem.W.codeIn K cd10 "at_end" = true)
    (k10 : PySem.W.keepIn K (.ref f10) = true)
    (a11 : PySem.W.nsIn K mainGlobals "road" = some (some (.ref f11)))
    (l11 : K.lookup f11 = some ⟨oc11, od11, .func (PySem.W.fnOf "road" "road" (defArgs s_road) (defBody s_road) (defScope s_road) .none kV11 dc11 pm11 an11 cd11 ct11), sl11⟩)
    (c11 : PySem.W.codeIn K cd11 "road" = true)
    (k11 : PySem.W.keepIn K (.ref f11) = true)
    (a12 : PySem.W.nsIn K mainGlobals "joined" = some (some (.ref f12)))
    (l12 : K.lookup f12 = some ⟨oc12, od12, .func (PySem.W.fnOf "joined" "joined" (defArgs s_joined) (defBody s_joined) (defScope s_joined) .none kV12 dc12 pm12 an12 cd12 ct12), sl12⟩)
    (c12 : PySem.W.codeIn K cd12 "joined" = true)
    (k12 : PySem.W.keepIn K (.ref f12) = true)
    (a13 : PySem.W.nsIn K mainGlobals "winner" = some (some (.ref f13)))
    (l13 : K.lookup f13 = some ⟨oc13, od13, .func (PySem.W.fnOf "winner" "winner" (defArgs s_winner) (defBody s_winner) (defScope s_winner) .none kV13 dc13 pm13 an13 cd13 ct13), sl13⟩)
    (c13 : PySem.W.codeIn K cd13 "winner" = true)
    (k13 : PySem.W.keepIn K (.ref f13) = true)
    (a14 : PySem.W.nsIn K mainGlobals "check_end" = some (some (.ref f14)))
    (l14 : K.lookup f14 = some ⟨oc14, od14, .func (PySem.W.fnOf "check_end" "check_end" (defArgs s_check_end) (defBody s_check_end) (defScope s_check_end) .none kV14 dc14 pm14 an14 cd14 ct14), sl14⟩)
    (c14 : PySem.W.codeIn K cd14 "check_end" = true)
    (k14 : PySem.W.keepIn K (.ref f14) = true)
    (a15 : PySem.W.nsIn K mainGlobals "winning" = some (some (.ref f15)))
    (l15 : K.lookup f15 = some ⟨oc15, od15, .func (PySem.W.fnOf "winning" "winning" (defArgs s_winning) (defBody s_winning) (defScope s_winning) .none kV15 dc15 pm15 an15 cd15 ct15), sl15⟩)
    (c15 : PySem.W.codeIn K cd15 "winning" = true)
    (k15 : PySem.W.keepIn K (.ref f15) = true)
    (a16 : PySem.W.nsIn K mainGlobals "wins_by" = some (some (.ref f16)))
    (l16 : K.lookup f16 = some ⟨oc16, od16, .func (PySem.W.fnOf "wins_by" "wins_by" (defArgs s_wins_by) (defBody s_wins_by) (defScope s_wins_by) .none kV16 dc16 pm16 an16 cd16 ct16), sl16⟩)
    (c16 : PySem.W.codeIn K cd16 "wins_by" = true)
    (k16 : PySem.W.keepIn K (.ref f16) = true)
    (a17 : PySem.W.nsIn K mainGlobals "can_win" = some (some (.ref f17)))
    (l17 : K.lookup f17 = some ⟨oc17, od17, .func (PySem.W.fnOf "can_win" "can_win" (defArgs s_can_win) (defBody s_can_win) (defScope s_can_win) .none kV17 dc17 pm17 an17 cd17 ct17), sl17⟩)
    (c17 : PySem.W.codeIn K cd17 "can_win" = true)
    (k17 : PySem.W.keepIn K (.ref f17) = true)
    (a18 : PySem.W.nsIn K mainGlobals "replies" = some (some (.ref f18)))
    (l18 : K.lookup f18 = some ⟨oc18, od18, .func (PySem.W.fnOf "replies" "replies" (defArgs s_replies) (defBody s_replies) (defScope s_replies) .none kV18 dc18 pm18 an18 cd18 ct18), sl18⟩)
    (c18 : PySem.W.codeIn K cd18 "replies" = true)
    (k18 : PySem.W.keepIn K (.ref f18) = true)
    (a19 : PySem.W.findIn K (.ref C_Game) "__init__" = some (some (.ref f19)))
    (i19 : PySem.W.isFn K (.ref f19) = true)
    (l19 : K.lookup f19 = some ⟨oc19, od19, .func (PySem.W.fnOf "__init__" "Game.__init__" (defArgs s_Game___init__) (defBody s_Game___init__) (defScope s_Game___init__) .none kV19 dc19 pm19 an19 cd19 ct19), sl19⟩)
    (c19 : PySem.W.codeIn K cd19 "Game.__init__" = true)
    (k19 : PySem.W.keepIn K (.ref f19) = true)
    (a20 : PySem.W.findIn K (.ref C_Game) "board" = some (some (.ref f20)))
    (i20 : PySem.W.isFn K (.ref f20) = true)
    (l20 : K.lookup f20 = some ⟨oc20, od20, .func (PySem.W.fnOf "board" "Game.board" (defArgs s_Game_board) (defBody s_Game_board) (defScope s_Game_board) .none kV20 dc20 pm20 an20 cd20 ct20), sl20⟩)
    (c20 : PySem.W.codeIn K cd20 "Game.board" = true)
    (k20 : PySem.W.keepIn K (.ref f20) = true)
    (a21 : PySem.W.findIn K (.ref C_Game) "won" = some (some (.ref f21)))
    (i21 : PySem.W.isFn K (.ref f21) = true)
    (l21 : K.lookup f21 = some ⟨oc21, od21, .func (PySem.W.fnOf "won" "Game.won" (defArgs s_Game_won) (defBody s_Game_won) (defScope s_Game_won) .none kV21 dc21 pm21 an21 cd21 ct21), sl21⟩)
    (c21 : PySem.W.codeIn K cd21 "Game.won" = true)
    (k21 : PySem.W.keepIn K (.ref f21) = true)
    (a22 : PySem.W.findIn K (.ref C_Game) "play" = some (some (.ref f22)))
    (i22 : PySem.W.isFn K (.ref f22) = true)
    (l22 : K.lookup f22 = some ⟨oc22, od22, .func (PySem.W.fnOf "play" "Game.play" (defArgs s_Game_play) (defBody s_Game_play) (defScope s_Game_play) .none kV22 dc22 pm22 an22 cd22 ct22), sl22⟩)
    (c22 : PySem.W.codeIn K cd22 "Game.play" = true)
    (k22 : PySem.W.keepIn K (.ref f22) = true)
    (a23 : PySem.W.findIn K (.ref C_Game) "back" = some (some (.ref f23)))
    (i23 : PySem.W.isFn K (.ref f23) = true)
    (l23 : K.lookup f23 = some ⟨oc23, od23, .func (PySem.W.fnOf "back" "Game.back" (defArgs s_Game_back) (defBody s_Game_back) (defScope s_Game_back) .none kV23 dc23 pm23 an23 cd23 ct23), sl23⟩)
    (c23 : PySem.W.codeIn K cd23 "Game.back" = true)
    (k23 : PySem.W.keepIn K (.ref f23) = true)
    (a24 : PySem.W.nsIn K mainGlobals "owner" = some (some (.ref f24)))
    (l24 : K.lookup f24 = some ⟨oc24, od24, .func (PySem.W.fnOf "owner" "owner" (defArgs s_owner) (defBody s_owner) (defScope s_owner) .none kV24 dc24 pm24 an24 cd24 ct24), sl24⟩)
    (c24 : PySem.W.codeIn K cd24 "owner" = true)
    (k24 : PySem.W.keepIn K (.ref f24) = true)
    (a25 : PySem.W.nsIn K mainGlobals "walk" = some (some (.ref f25)))
    (l25 : K.lookup f25 = some ⟨oc25, od25, .func (PySem.W.fnOf "walk" "walk" (defArgs s_walk) (defBody s_walk) (defScope s_walk) .none kV25 dc25 pm25 an25 cd25 ct25), sl25⟩)
    (c25 : PySem.W.codeIn K cd25 "walk" = true)
    (k25 : PySem.W.keepIn K (.ref f25) = true)
    (a26 : PySem.W.nsIn K mainGlobals "_law_cell_at" = some (some (.ref f26)))
    (l26 : K.lookup f26 = some ⟨oc26, od26, .func (PySem.W.fnOf "_law_cell_at" "_law_cell_at" (defArgs s__law_cell_at) (defBody s__law_cell_at) (defScope s__law_cell_at) .none kV26 dc26 pm26 an26 cd26 ct26), sl26⟩)
    (c26 : PySem.W.codeIn K cd26 "_law_cell_at" = true)
    (k26 : PySem.W.keepIn K (.ref f26) = true)
    (a27 : PySem.W.nsIn K mainGlobals "_law_which" = some (some (.ref f27)))
    (l27 : K.lookup f27 = some ⟨oc27, od27, .func (PySem.W.fnOf "_law_which" "_law_which" (defArgs s__law_which) (defBody s__law_which) (defScope s__law_which) .none kV27 dc27 pm27 an27 cd27 ct27), sl27⟩)
    (c27 : PySem.W.codeIn K cd27 "_law_which" = true)
    (k27 : PySem.W.keepIn K (.ref f27) = true)
    (a28 : PySem.W.nsIn K mainGlobals "_law_first" = some (some (.ref f28)))
    (l28 : K.lookup f28 = some ⟨oc28, od28, .func (PySem.W.fnOf "_law_first" "_law_first" (defArgs s__law_first) (defBody s__law_first) (defScope s__law_first) .none kV28 dc28 pm28 an28 cd28 ct28), sl28⟩)
    (c28 : PySem.W.codeIn K cd28 "_law_first" = true)
    (k28 : PySem.W.keepIn K (.ref f28) = true)
    (a29 : PySem.W.nsIn K mainGlobals "_law_second" = some (some (.ref f29)))
    (l29 : K.lookup f29 = some ⟨oc29, od29, .func (PySem.W.fnOf "_law_second" "_law_second" (defArgs s__law_second) (defBody s__law_second) (defScope s__law_second) .none kV29 dc29 pm29 an29 cd29 ct29), sl29⟩)
    (c29 : PySem.W.codeIn K cd29 "_law_second" = true)
    (k29 : PySem.W.keepIn K (.ref f29) = true)
    (a30 : PySem.W.nsIn K mainGlobals "_law_met" = some (some (.ref f30)))
    (l30 : K.lookup f30 = some ⟨oc30, od30, .func (PySem.W.fnOf "_law_met" "_law_met" (defArgs s__law_met) (defBody s__law_met) (defScope s__law_met) .none kV30 dc30 pm30 an30 cd30 ct30), sl30⟩)
    (c30 : PySem.W.codeIn K cd30 "_law_met" = true)
    (k30 : PySem.W.keepIn K (.ref f30) = true)
    (a31 : PySem.W.nsIn K mainGlobals "law" = some (some (.ref f31)))
    (l31 : K.lookup f31 = some ⟨oc31, od31, .func (PySem.W.fnOf "law" "law" (defArgs s_law) (defBody s_law) (defScope s_law) .none kV31 dc31 pm31 an31 cd31 ct31), sl31⟩)
    (c31 : PySem.W.codeIn K cd31 "law" = true)
    (k31 : PySem.W.keepIn K (.ref f31) = true)
    (pg_Board : PySem.W.plainGet K C_Board Str.empty = true)
    (hd_Board : PySem.W.hasDictIn K C_Board = true)
    (po_Board : PySem.W.plainOver K C_Board = true)
    (sa_Board : PySem.W.findIn K (.ref C_Board) "__setattr__" = some (some (.builtin "object.__setattr__")))
    (mk_Board : PySem.W.makesIn K C_Board = true)
    (kc_Board : PySem.W.keepIn K (.ref C_Board) = true)
    (n_Board_rows : PySem.W.findIn K (.ref C_Board) "rows" = some none)
    (n_Board_height : PySem.W.findIn K (.ref C_Board) "height" = some none)
    (n_Board_width : PySem.W.findIn K (.ref C_Board) "width" = some none)
    (pg_Game : PySem.W.plainGet K C_Game Str.empty = true)
    (hd_Game : PySem.W.hasDictIn K C_Game = true)
    (po_Game : PySem.W.plainOver K C_Game = true)
    (sa_Game : PySem.W.findIn K (.ref C_Game) "__setattr__" = some (some (.builtin "object.__setattr__")))
    (mk_Game : PySem.W.makesIn K C_Game = true)
    (kc_Game : PySem.W.keepIn K (.ref C_Game) = true)
    (n_Game_height : PySem.W.findIn K (.ref C_Game) "height" = some none)
    (n_Game_width : PySem.W.findIn K (.ref C_Game) "width" = some none)
    (n_Game_played : PySem.W.findIn K (.ref C_Game) "played" = some none)
    (x_ShoreError : PySem.W.excIn K C_ShoreError [.type "ValueError", .type "Exception", .type "BaseException", .type "object"] "ValueError.__new__" = true)
    (k_ShoreError : PySem.W.keepIn K (.ref C_ShoreError) = true)
    (b_ShoreError : PySem.W.subIn K (.ref C_ShoreError) (.type "BaseException") = some true)
    (t_ShoreError : PySem.W.typeIn K (.ref C_ShoreError) = some (.type "type"))
    (i_ShoreError : PySem.W.isClsIn K C_ShoreError = true)
    (x_BadBoard : PySem.W.excIn K C_BadBoard [.type "ValueError", .type "Exception", .type "BaseException", .type "object"] "ValueError.__new__" = true)
    (k_BadBoard : PySem.W.keepIn K (.ref C_BadBoard) = true)
    (b_BadBoard : PySem.W.subIn K (.ref C_BadBoard) (.type "BaseException") = some true)
    (t_BadBoard : PySem.W.typeIn K (.ref C_BadBoard) = some (.type "type"))
    (i_BadBoard : PySem.W.isClsIn K C_BadBoard = true)
    (x_NoCell : PySem.W.excIn K C_NoCell [.type "ValueError", .type "Exception", .type "BaseException", .type "object"] "ValueError.__new__" = true)
    (k_NoCell : PySem.W.keepIn K (.ref C_NoCell) = true)
    (b_NoCell : PySem.W.subIn K (.ref C_NoCell) (.type "BaseException") = some true)
    (t_NoCell : PySem.W.typeIn K (.ref C_NoCell) = some (.type "type"))
    (i_NoCell : PySem.W.isClsIn K C_NoCell = true)
    (x_NotFull : PySem.W.excIn K C_NotFull [.type "ValueError", .type "Exception", .type "BaseException", .type "object"] "ValueError.__new__" = true)
    (k_NotFull : PySem.W.keepIn K (.ref C_NotFull) = true)
    (b_NotFull : PySem.W.subIn K (.ref C_NotFull) (.type "BaseException") = some true)
    (t_NotFull : PySem.W.typeIn K (.ref C_NotFull) = some (.type "type"))
    (i_NotFull : PySem.W.isClsIn K C_NotFull = true)
    (x_Taken : PySem.W.excIn K C_Taken [.type "ValueError", .type "Exception", .type "BaseException", .type "object"] "ValueError.__new__" = true)
    (k_Taken : PySem.W.keepIn K (.ref C_Taken) = true)
    (b_Taken : PySem.W.subIn K (.ref C_Taken) (.type "BaseException") = some true)
    (t_Taken : PySem.W.typeIn K (.ref C_Taken) = some (.type "type"))
    (i_Taken : PySem.W.isClsIn K C_Taken = true)
    (x_Over : PySem.W.excIn K C_Over [.type "ValueError", .type "Exception", .type "BaseException", .type "object"] "ValueError.__new__" = true)
    (k_Over : PySem.W.keepIn K (.ref C_Over) = true)
    (b_Over : PySem.W.subIn K (.ref C_Over) (.type "BaseException") = some true)
    (t_Over : PySem.W.typeIn K (.ref C_Over) = some (.type "type"))
    (i_Over : PySem.W.isClsIn K C_Over = true)
    (x_NoStone : PySem.W.excIn K C_NoStone [.type "ValueError", .type "Exception", .type "BaseException", .type "object"] "ValueError.__new__" = true)
    (k_NoStone : PySem.W.keepIn K (.ref C_NoStone) = true)
    (b_NoStone : PySem.W.subIn K (.ref C_NoStone) (.type "BaseException") = some true)
    (t_NoStone : PySem.W.typeIn K (.ref C_NoStone) = some (.type "type"))
    (i_NoStone : PySem.W.isClsIn K C_NoStone = true)
    (x_TooMany : PySem.W.excIn K C_TooMany [.type "ValueError", .type "Exception", .type "BaseException", .type "object"] "ValueError.__new__" = true)
    (k_TooMany : PySem.W.keepIn K (.ref C_TooMany) = true)
    (b_TooMany : PySem.W.subIn K (.ref C_TooMany) (.type "BaseException") = some true)
    (t_TooMany : PySem.W.typeIn K (.ref C_TooMany) = some (.type "type"))
    (i_TooMany : PySem.W.isClsIn K C_TooMany = true)
    (s_BadBoard_ShoreError : PySem.W.subIn K (.ref C_BadBoard) (.ref C_ShoreError) = some true)
    (s_BadBoard_BadBoard : PySem.W.subIn K (.ref C_BadBoard) (.ref C_BadBoard) = some true)
    (s_BadBoard_NoCell : PySem.W.subIn K (.ref C_BadBoard) (.ref C_NoCell) = some false)
    (s_BadBoard_NotFull : PySem.W.subIn K (.ref C_BadBoard) (.ref C_NotFull) = some false)
    (s_BadBoard_Taken : PySem.W.subIn K (.ref C_BadBoard) (.ref C_Taken) = some false)
    (s_BadBoard_Over : PySem.W.subIn K (.ref C_BadBoard) (.ref C_Over) = some false)
    (s_BadBoard_NoStone : PySem.W.subIn K (.ref C_BadBoard) (.ref C_NoStone) = some false)
    (s_BadBoard_TooMany : PySem.W.subIn K (.ref C_BadBoard) (.ref C_TooMany) = some false)
    (s_NoCell_ShoreError : PySem.W.subIn K (.ref C_NoCell) (.ref C_ShoreError) = some true)
    (s_NoCell_BadBoard : PySem.W.subIn K (.ref C_NoCell) (.ref C_BadBoard) = some false)
    (s_NoCell_NoCell : PySem.W.subIn K (.ref C_NoCell) (.ref C_NoCell) = some true)
    (s_NoCell_NotFull : PySem.W.subIn K (.ref C_NoCell) (.ref C_NotFull) = some false)
    (s_NoCell_Taken : PySem.W.subIn K (.ref C_NoCell) (.ref C_Taken) = some false)
    (s_NoCell_Over : PySem.W.subIn K (.ref C_NoCell) (.ref C_Over) = some false)
    (s_NoCell_NoStone : PySem.W.subIn K (.ref C_NoCell) (.ref C_NoStone) = some false)
    (s_NoCell_TooMany : PySem.W.subIn K (.ref C_NoCell) (.ref C_TooMany) = some false)
    (s_NotFull_ShoreError : PySem.W.subIn K (.ref C_NotFull) (.ref C_ShoreError) = some true)
    (s_NotFull_BadBoard : PySem.W.subIn K (.ref C_NotFull) (.ref C_BadBoard) = some false)
    (s_NotFull_NoCell : PySem.W.subIn K (.ref C_NotFull) (.ref C_NoCell) = some false)
    (s_NotFull_NotFull : PySem.W.subIn K (.ref C_NotFull) (.ref C_NotFull) = some true)
    (s_NotFull_Taken : PySem.W.subIn K (.ref C_NotFull) (.ref C_Taken) = some false)
    (s_NotFull_Over : PySem.W.subIn K (.ref C_NotFull) (.ref C_Over) = some false)
    (s_NotFull_NoStone : PySem.W.subIn K (.ref C_NotFull) (.ref C_NoStone) = some false)
    (s_NotFull_TooMany : PySem.W.subIn K (.ref C_NotFull) (.ref C_TooMany) = some false)
    (s_Taken_ShoreError : PySem.W.subIn K (.ref C_Taken) (.ref C_ShoreError) = some true)
    (s_Taken_BadBoard : PySem.W.subIn K (.ref C_Taken) (.ref C_BadBoard) = some false)
    (s_Taken_NoCell : PySem.W.subIn K (.ref C_Taken) (.ref C_NoCell) = some false)
    (s_Taken_NotFull : PySem.W.subIn K (.ref C_Taken) (.ref C_NotFull) = some false)
    (s_Taken_Taken : PySem.W.subIn K (.ref C_Taken) (.ref C_Taken) = some true)
    (s_Taken_Over : PySem.W.subIn K (.ref C_Taken) (.ref C_Over) = some false)
    (s_Taken_NoStone : PySem.W.subIn K (.ref C_Taken) (.ref C_NoStone) = some false)
    (s_Taken_TooMany : PySem.W.subIn K (.ref C_Taken) (.ref C_TooMany) = some false)
    (s_Over_ShoreError : PySem.W.subIn K (.ref C_Over) (.ref C_ShoreError) = some true)
    (s_Over_BadBoard : PySem.W.subIn K (.ref C_Over) (.ref C_BadBoard) = some false)
    (s_Over_NoCell : PySem.W.subIn K (.ref C_Over) (.ref C_NoCell) = some false)
    (s_Over_NotFull : PySem.W.subIn K (.ref C_Over) (.ref C_NotFull) = some false)
    (s_Over_Taken : PySem.W.subIn K (.ref C_Over) (.ref C_Taken) = some false)
    (s_Over_Over : PySem.W.subIn K (.ref C_Over) (.ref C_Over) = some true)
    (s_Over_NoStone : PySem.W.subIn K (.ref C_Over) (.ref C_NoStone) = some false)
    (s_Over_TooMany : PySem.W.subIn K (.ref C_Over) (.ref C_TooMany) = some false)
    (s_NoStone_ShoreError : PySem.W.subIn K (.ref C_NoStone) (.ref C_ShoreError) = some true)
    (s_NoStone_BadBoard : PySem.W.subIn K (.ref C_NoStone) (.ref C_BadBoard) = some false)
    (s_NoStone_NoCell : PySem.W.subIn K (.ref C_NoStone) (.ref C_NoCell) = some false)
    (s_NoStone_NotFull : PySem.W.subIn K (.ref C_NoStone) (.ref C_NotFull) = some false)
    (s_NoStone_Taken : PySem.W.subIn K (.ref C_NoStone) (.ref C_Taken) = some false)
    (s_NoStone_Over : PySem.W.subIn K (.ref C_NoStone) (.ref C_Over) = some false)
    (s_NoStone_NoStone : PySem.W.subIn K (.ref C_NoStone) (.ref C_NoStone) = some true)
    (s_NoStone_TooMany : PySem.W.subIn K (.ref C_NoStone) (.ref C_TooMany) = some false)
    (s_TooMany_ShoreError : PySem.W.subIn K (.ref C_TooMany) (.ref C_ShoreError) = some true)
    (s_TooMany_BadBoard : PySem.W.subIn K (.ref C_TooMany) (.ref C_BadBoard) = some false)
    (s_TooMany_NoCell : PySem.W.subIn K (.ref C_TooMany) (.ref C_NoCell) = some false)
    (s_TooMany_NotFull : PySem.W.subIn K (.ref C_TooMany) (.ref C_NotFull) = some false)
    (s_TooMany_Taken : PySem.W.subIn K (.ref C_TooMany) (.ref C_Taken) = some false)
    (s_TooMany_Over : PySem.W.subIn K (.ref C_TooMany) (.ref C_Over) = some false)
    (s_TooMany_NoStone : PySem.W.subIn K (.ref C_TooMany) (.ref C_NoStone) = some false)
    (s_TooMany_TooMany : PySem.W.subIn K (.ref C_TooMany) (.ref C_TooMany) = some true)
    (exn : PySem.W.specialIn K (.builtin "object.__class__") "__get__" = some (some (.builtin "getset_descriptor.__get__")))
    (ext : PySem.W.takesIn K (.builtin "object.__class__") = some true)
    (eg_BadBoard : PySem.W.findIn K (.ref C_BadBoard) "__getattribute__" = some (some (.builtin "BaseException.__getattribute__")))
    (ek_BadBoard : PySem.W.findIn K (.ref C_BadBoard) "__getattr__" = some none)
    (ed_BadBoard : PySem.W.hasDictIn K C_BadBoard = true)
    (ea_BadBoard : PySem.W.findIn K (.ref C_BadBoard) "__class__" = some (some (.builtin "object.__class__")))
    (em_BadBoard : PySem.W.mroIn K C_BadBoard (.type "object") = some true)
    (eg_NoCell : PySem.W.findIn K (.ref C_NoCell) "__getattribute__" = some (some (.builtin "BaseException.__getattribute__")))
    (ek_NoCell : PySem.W.findIn K (.ref C_NoCell) "__getattr__" = some none)
    (ed_NoCell : PySem.W.hasDictIn K C_NoCell = true)
    (ea_NoCell : PySem.W.findIn K (.ref C_NoCell) "__class__" = some (some (.builtin "object.__class__")))
    (em_NoCell : PySem.W.mroIn K C_NoCell (.type "object") = some true)
    (eg_NotFull : PySem.W.findIn K (.ref C_NotFull) "__getattribute__" = some (some (.builtin "BaseException.__getattribute__")))
    (ek_NotFull : PySem.W.findIn K (.ref C_NotFull) "__getattr__" = some none)
    (ed_NotFull : PySem.W.hasDictIn K C_NotFull = true)
    (ea_NotFull : PySem.W.findIn K (.ref C_NotFull) "__class__" = some (some (.builtin "object.__class__")))
    (em_NotFull : PySem.W.mroIn K C_NotFull (.type "object") = some true)
    (eg_Taken : PySem.W.findIn K (.ref C_Taken) "__getattribute__" = some (some (.builtin "BaseException.__getattribute__")))
    (ek_Taken : PySem.W.findIn K (.ref C_Taken) "__getattr__" = some none)
    (ed_Taken : PySem.W.hasDictIn K C_Taken = true)
    (ea_Taken : PySem.W.findIn K (.ref C_Taken) "__class__" = some (some (.builtin "object.__class__")))
    (em_Taken : PySem.W.mroIn K C_Taken (.type "object") = some true)
    (eg_Over : PySem.W.findIn K (.ref C_Over) "__getattribute__" = some (some (.builtin "BaseException.__getattribute__")))
    (ek_Over : PySem.W.findIn K (.ref C_Over) "__getattr__" = some none)
    (ed_Over : PySem.W.hasDictIn K C_Over = true)
    (ea_Over : PySem.W.findIn K (.ref C_Over) "__class__" = some (some (.builtin "object.__class__")))
    (em_Over : PySem.W.mroIn K C_Over (.type "object") = some true)
    (eg_NoStone : PySem.W.findIn K (.ref C_NoStone) "__getattribute__" = some (some (.builtin "BaseException.__getattribute__")))
    (ek_NoStone : PySem.W.findIn K (.ref C_NoStone) "__getattr__" = some none)
    (ed_NoStone : PySem.W.hasDictIn K C_NoStone = true)
    (ea_NoStone : PySem.W.findIn K (.ref C_NoStone) "__class__" = some (some (.builtin "object.__class__")))
    (em_NoStone : PySem.W.mroIn K C_NoStone (.type "object") = some true)
    (eg_TooMany : PySem.W.findIn K (.ref C_TooMany) "__getattribute__" = some (some (.builtin "BaseException.__getattribute__")))
    (ek_TooMany : PySem.W.findIn K (.ref C_TooMany) "__getattr__" = some none)
    (ed_TooMany : PySem.W.hasDictIn K C_TooMany = true)
    (ea_TooMany : PySem.W.findIn K (.ref C_TooMany) "__class__" = some (some (.builtin "object.__class__")))
    (em_TooMany : PySem.W.mroIn K C_TooMany (.type "object") = some true)
    (sv_BadBoard_ValueError : PySem.W.subIn K (.ref C_BadBoard) (.type "ValueError") = some true)
    (sv_NoCell_ValueError : PySem.W.subIn K (.ref C_NoCell) (.type "ValueError") = some true)
    (sv_NotFull_ValueError : PySem.W.subIn K (.ref C_NotFull) (.type "ValueError") = some true)
    (sv_Taken_ValueError : PySem.W.subIn K (.ref C_Taken) (.type "ValueError") = some true)
    (sv_Over_ValueError : PySem.W.subIn K (.ref C_Over) (.type "ValueError") = some true)
    (sv_NoStone_ValueError : PySem.W.subIn K (.ref C_NoStone) (.type "ValueError") = some true)
    (sv_TooMany_ValueError : PySem.W.subIn K (.ref C_TooMany) (.type "ValueError") = some true)
    {tk_MOST : Tok} (g_MOST : PySem.W.nsIn K mainGlobals "MOST" = some (some (.int 9 tk_MOST)))
    {tk_MOST_EMPTY : Tok} (g_MOST_EMPTY : PySem.W.nsIn K mainGlobals "MOST_EMPTY" = some (some (.int 6 tk_MOST_EMPTY)))
    (z_len : PySem.W.nsIn K mainGlobals "len" = some none)
    (z_all : PySem.W.nsIn K mainGlobals "all" = some none)
    (z_list : PySem.W.nsIn K mainGlobals "list" = some none)
    (z_enumerate : PySem.W.nsIn K mainGlobals "enumerate" = some none)
    (z_range : PySem.W.nsIn K mainGlobals "range" = some none)
    (z_tuple : PySem.W.nsIn K mainGlobals "tuple" = some none)
    (z_any : PySem.W.nsIn K mainGlobals "any" = some none)
    (z_isinstance : PySem.W.nsIn K mainGlobals "isinstance" = some none)
    (z_ValueError : PySem.W.nsIn K mainGlobals "ValueError" = some none) :
    ∃ fd : FuncData, (∀ (s : Shared) (v : Value), BindsTo s fd ⟨[v], []⟩ [("script", v)]) ∧ ∀ base : Heap, K.In base → base.Ns mainGlobals mg → FnOk l.prog w K mg base CX0 13 fa fd ["script"] (sp_law K) := by
  have e := hfa.symm.trans (PySem.W.mg_of X G a31)
  cases e
  let T : Top K mg := {
    a_board_right := f1,
    d_board_right := _,
    F_board_right := fun_mk (st := s_board_right) l1 c1 k1,
    B_board_right := (fun_mk (st := s_board_right) l1 c1 k1).binds (ps := ["rows"]) fun _ _ _ _ _ _ us hl => match us, hl with | [_], _ => rfl,
    m_board_right := PySem.W.mg_of X G a1,
    a_Board___init__ := f2,
    d_Board___init__ := _,
    F_Board___init__ := fun_mk (st := s_Board___init__) l2 c2 k2,
    B_Board___init__ := (fun_mk (st := s_Board___init__) l2 c2 k2).binds (ps := ["self", "rows"]) fun _ _ _ _ _ _ us hl => match us, hl with | [_, _], _ => rfl,
    a_Board_has := f3,
    d_Board_has := _,
    F_Board_has := fun_mk (st := s_Board_has) l3 c3 k3,
    B_Board_has := (fun_mk (st := s_Board_has) l3 c3 k3).binds (ps := ["self", "r", "c"]) fun _ _ _ _ _ _ us hl => match us, hl with | [_, _, _], _ => rfl,
    a_near := f4,
    d_near := _,
    F_near := fun_mk (st := s_near) l4 c4 k4,
    B_near := (fun_mk (st := s_near) l4 c4 k4).binds (ps := ["r", "c"]) fun _ _ _ _ _ _ us hl => match us, hl with | [_, _], _ => rfl,
    m_near := PySem.W.mg_of X G a4,
    a_sign := f5,
    d_sign := _,
    F_sign := fun_mk (st := s_sign) l5 c5 k5,
    B_sign := (fun_mk (st := s_sign) l5 c5 k5).binds (ps := ["board", "r", "c"]) fun _ _ _ _ _ _ us hl => match us, hl with | [_, _, _], _ => rfl,
    m_sign := PySem.W.mg_of X G a5,
    a_laid := f6,
    d_laid := _,
    F_laid := fun_mk (st := s_laid) l6 c6 k6,
    B_laid := (fun_mk (st := s_laid) l6 c6 k6).binds (ps := ["board", "r", "c", "hand"]) fun _ _ _ _ _ _ us hl => match us, hl with | [_, _, _, _], _ => rfl,
    m_laid := PySem.W.mg_of X G a6,
    a_other := f7,
    d_other := _,
    F_other := fun_mk (st := s_other) l7 c7 k7,
    B_other := (fun_mk (st := s_other) l7 c7 k7).binds (ps := ["letter"]) fun _ _ _ _ _ _ us hl => match us, hl with | [_], _ => rfl,
    m_other := PySem.W.mg_of X G a7,
    a_empty := f8,
    d_empty := _,
    F_empty := fun_mk (st := s_empty) l8 c8 k8,
    B_empty := (fun_mk (st := s_empty) l8 c8 k8).binds (ps := ["board"]) fun _ _ _ _ _ _ us hl => match us, hl with | [_], _ => rfl,
    m_empty := PySem.W.mg_of X G a8,
    a_beginnings := f9,
    d_beginnings := _,
    F_beginnings := fun_mk (st := s_beginnings) l9 c9 k9,
    B_beginnings := (fun_mk (st := s_beginnings) l9 c9 k9).binds (ps := ["board", "hand"]) fun _ _ _ _ _ _ us hl => match us, hl with | [_, _], _ => rfl,
    m_beginnings := PySem.W.mg_of X G a9,
    a_at_end := f10,
    d_at_end := _,
    F_at_end := fun_mk (st := s_at_end) l10 c10 k10,
    B_at_end := (fun_mk (st := s_at_end) l10 c10 k10).binds (ps := ["board", "hand", "cell"]) fun _ _ _ _ _ _ us hl => match us, hl with | [_, _, _], _ => rfl,
    m_at_end := PySem.W.mg_of X G a10,
    a_road := f11,
    d_road := _,
    F_road := fun_mk (st := s_road) l11 c11 k11,
    B_road := (fun_mk (st := s_road) l11 c11 k11).binds (ps := ["board", "hand"]) fun _ _ _ _ _ _ us hl => match us, hl with | [_, _], _ => rfl,
    m_road := PySem.W.mg_of X G a11,
    a_joined := f12,
    d_joined := _,
    F_joined := fun_mk (st := s_joined) l12 c12 k12,
    B_joined := (fun_mk (st := s_joined) l12 c12 k12).binds (ps := ["board", "hand"]) fun _ _ _ _ _ _ us hl => match us, hl with | [_, _], _ => rfl,
    m_joined := PySem.W.mg_of X G a12,
    a_winner := f13,
    d_winner := _,
    F_winner := fun_mk (st := s_winner) l13 c13 k13,
    B_winner := (fun_mk (st := s_winner) l13 c13 k13).binds (ps := ["board"]) fun _ _ _ _ _ _ us hl => match us, hl with | [_], _ => rfl,
    m_winner := PySem.W.mg_of X G a13,
    a_check_end := f14,
    d_check_end := _,
    F_check_end := fun_mk (st := s_check_end) l14 c14 k14,
    B_check_end := (fun_mk (st := s_check_end) l14 c14 k14).binds (ps := ["board"]) fun _ _ _ _ _ _ us hl => match us, hl with | [_], _ => rfl,
    m_check_end := PySem.W.mg_of X G a14,
    a_winning := f15,
    d_winning := _,
    F_winning := fun_mk (st := s_winning) l15 c15 k15,
    B_winning := (fun_mk (st := s_winning) l15 c15 k15).binds (ps := ["board", "hand", "known"]) fun _ _ _ _ _ _ us hl => match us, hl with | [_, _, _], _ => rfl,
    m_winning := PySem.W.mg_of X G a15,
    a_wins_by := f16,
    d_wins_by := _,
    F_wins_by := fun_mk (st := s_wins_by) l16 c16 k16,
    B_wins_by := (fun_mk (st := s_wins_by) l16 c16 k16).binds (ps := ["board", "hand", "cell", "known"]) fun _ _ _ _ _ _ us hl => match us, hl with | [_, _, _, _], _ => rfl,
    m_wins_by := PySem.W.mg_of X G a16,
    a_can_win := f17,
    d_can_win := _,
    F_can_win := fun_mk (st := s_can_win) l17 c17 k17,
    B_can_win := (fun_mk (st := s_can_win) l17 c17 k17).binds (ps := ["board", "hand"]) fun _ _ _ _ _ _ us hl => match us, hl with | [_, _], _ => rfl,
    m_can_win := PySem.W.mg_of X G a17,
    a_replies := f18,
    d_replies := _,
    F_replies := fun_mk (st := s_replies) l18 c18 k18,
    B_replies := (fun_mk (st := s_replies) l18 c18 k18).binds (ps := ["board", "hand"]) fun _ _ _ _ _ _ us hl => match us, hl with | [_, _], _ => rfl,
    m_replies := PySem.W.mg_of X G a18,
    a_Game___init__ := f19,
    d_Game___init__ := _,
    F_Game___init__ := fun_mk (st := s_Game___init__) l19 c19 k19,
    B_Game___init__ := (fun_mk (st := s_Game___init__) l19 c19 k19).binds (ps := ["self", "height", "width"]) fun _ _ _ _ _ _ us hl => match us, hl with | [_, _, _], _ => rfl,
    a_Game_board := f20,
    d_Game_board := _,
    F_Game_board := fun_mk (st := s_Game_board) l20 c20 k20,
    B_Game_board := (fun_mk (st := s_Game_board) l20 c20 k20).binds (ps := ["self"]) fun _ _ _ _ _ _ us hl => match us, hl with | [_], _ => rfl,
    a_Game_won := f21,
    d_Game_won := _,
    F_Game_won := fun_mk (st := s_Game_won) l21 c21 k21,
    B_Game_won := (fun_mk (st := s_Game_won) l21 c21 k21).binds (ps := ["self"]) fun _ _ _ _ _ _ us hl => match us, hl with | [_], _ => rfl,
    a_Game_play := f22,
    d_Game_play := _,
    F_Game_play := fun_mk (st := s_Game_play) l22 c22 k22,
    B_Game_play := (fun_mk (st := s_Game_play) l22 c22 k22).binds (ps := ["self", "r", "c"]) fun _ _ _ _ _ _ us hl => match us, hl with | [_, _, _], _ => rfl,
    a_Game_back := f23,
    d_Game_back := _,
    F_Game_back := fun_mk (st := s_Game_back) l23 c23 k23,
    B_Game_back := (fun_mk (st := s_Game_back) l23 c23 k23).binds (ps := ["self"]) fun _ _ _ _ _ _ us hl => match us, hl with | [_], _ => rfl,
    a_owner := f24,
    d_owner := _,
    F_owner := fun_mk (st := s_owner) l24 c24 k24,
    B_owner := (fun_mk (st := s_owner) l24 c24 k24).binds (ps := ["board", "place"]) fun _ _ _ _ _ _ us hl => match us, hl with | [_, _], _ => rfl,
    m_owner := PySem.W.mg_of X G a24,
    a_walk := f25,
    d_walk := _,
    F_walk := fun_mk (st := s_walk) l25 c25 k25,
    B_walk := (fun_mk (st := s_walk) l25 c25 k25).binds (ps := ["board"]) fun _ _ _ _ _ _ us hl => match us, hl with | [_], _ => rfl,
    m_walk := PySem.W.mg_of X G a25,
    a__law_cell_at := f26,
    d__law_cell_at := _,
    F__law_cell_at := fun_mk (st := s__law_cell_at) l26 c26 k26,
    B__law_cell_at := (fun_mk (st := s__law_cell_at) l26 c26 k26).binds (ps := ["script", "k"]) fun _ _ _ _ _ _ us hl => match us, hl with | [_, _], _ => rfl,
    m__law_cell_at := PySem.W.mg_of X G a26,
    a__law_which := f27,
    d__law_which := _,
    F__law_which := fun_mk (st := s__law_which) l27 c27 k27,
    B__law_which := (fun_mk (st := s__law_which) l27 c27 k27).binds (ps := ["e"]) fun _ _ _ _ _ _ us hl => match us, hl with | [_], _ => rfl,
    m__law_which := PySem.W.mg_of X G a27,
    a__law_first := f28,
    d__law_first := _,
    F__law_first := fun_mk (st := s__law_first) l28 c28 k28,
    B__law_first := (fun_mk (st := s__law_first) l28 c28 k28).binds (ps := ["way", "width", "hand"]) fun _ _ _ _ _ _ us hl => match us, hl with | [_, _, _], _ => rfl,
    m__law_first := PySem.W.mg_of X G a28,
    a__law_second := f29,
    d__law_second := _,
    F__law_second := fun_mk (st := s__law_second) l29 c29 k29,
    B__law_second := (fun_mk (st := s__law_second) l29 c29 k29).binds (ps := ["way", "width", "hand"]) fun _ _ _ _ _ _ us hl => match us, hl with | [_, _, _], _ => rfl,
    m__law_second := PySem.W.mg_of X G a29,
    a__law_met := f30,
    d__law_met := _,
    F__law_met := fun_mk (st := s__law_met) l30 c30 k30,
    B__law_met := (fun_mk (st := s__law_met) l30 c30 k30).binds (ps := ["way", "width", "hand"]) fun _ _ _ _ _ _ us hl => match us, hl with | [_, _, _], _ => rfl,
    m__law_met := PySem.W.mg_of X G a30,
    a_law := fa,
    d_law := _,
    F_law := fun_mk (st := s_law) l31 c31 k31,
    B_law := (fun_mk (st := s_law) l31 c31 k31).binds (ps := ["script"]) fun _ _ _ _ _ _ us hl => match us, hl with | [_], _ => rfl,
    m_law := PySem.W.mg_of X G a31,
    C_Board := C_Board,
    cl_Board := ⟨pg_Board, hd_Board, po_Board, sa_Board⟩,
    mC_Board := PySem.W.mg_of X G aC_Board,
    Mk_Board := ⟨mk_Board, a2, i2, kc_Board⟩,
    n_Board_rows := n_Board_rows,
    n_Board_height := n_Board_height,
    n_Board_width := n_Board_width,
    M_Board_has := ⟨a3, i3, k3⟩,
    C_Game := C_Game,
    cl_Game := ⟨pg_Game, hd_Game, po_Game, sa_Game⟩,
    mC_Game := PySem.W.mg_of X G aC_Game,
    Mk_Game := ⟨mk_Game, a19, i19, kc_Game⟩,
    n_Game_height := n_Game_height,
    n_Game_width := n_Game_width,
    n_Game_played := n_Game_played,
    M_Game_board := ⟨a20, i20, k20⟩,
    M_Game_won := ⟨a21, i21, k21⟩,
    M_Game_play := ⟨a22, i22, k22⟩,
    M_Game_back := ⟨a23, i23, k23⟩,
    C_ShoreError := C_ShoreError,
    mC_ShoreError := PySem.W.mg_of X G aC_ShoreError,
    x_ShoreError := x_ShoreError,
    k_ShoreError := k_ShoreError,
    b_ShoreError := b_ShoreError,
    t_ShoreError := t_ShoreError,
    i_ShoreError := i_ShoreError,
    C_BadBoard := C_BadBoard,
    mC_BadBoard := PySem.W.mg_of X G aC_BadBoard,
    x_BadBoard := x_BadBoard,
    k_BadBoard := k_BadBoard,
    b_BadBoard := b_BadBoard,
    t_BadBoard := t_BadBoard,
    i_BadBoard := i_BadBoard,
    C_NoCell := C_NoCell,
    mC_NoCell := PySem.W.mg_of X G aC_NoCell,
    x_NoCell := x_NoCell,
    k_NoCell := k_NoCell,
    b_NoCell := b_NoCell,
    t_NoCell := t_NoCell,
    i_NoCell := i_NoCell,
    C_NotFull := C_NotFull,
    mC_NotFull := PySem.W.mg_of X G aC_NotFull,
    x_NotFull := x_NotFull,
    k_NotFull := k_NotFull,
    b_NotFull := b_NotFull,
    t_NotFull := t_NotFull,
    i_NotFull := i_NotFull,
    C_Taken := C_Taken,
    mC_Taken := PySem.W.mg_of X G aC_Taken,
    x_Taken := x_Taken,
    k_Taken := k_Taken,
    b_Taken := b_Taken,
    t_Taken := t_Taken,
    i_Taken := i_Taken,
    C_Over := C_Over,
    mC_Over := PySem.W.mg_of X G aC_Over,
    x_Over := x_Over,
    k_Over := k_Over,
    b_Over := b_Over,
    t_Over := t_Over,
    i_Over := i_Over,
    C_NoStone := C_NoStone,
    mC_NoStone := PySem.W.mg_of X G aC_NoStone,
    x_NoStone := x_NoStone,
    k_NoStone := k_NoStone,
    b_NoStone := b_NoStone,
    t_NoStone := t_NoStone,
    i_NoStone := i_NoStone,
    C_TooMany := C_TooMany,
    mC_TooMany := PySem.W.mg_of X G aC_TooMany,
    x_TooMany := x_TooMany,
    k_TooMany := k_TooMany,
    b_TooMany := b_TooMany,
    t_TooMany := t_TooMany,
    i_TooMany := i_TooMany,
    s_BadBoard_ShoreError := s_BadBoard_ShoreError,
    s_BadBoard_BadBoard := s_BadBoard_BadBoard,
    s_BadBoard_NoCell := s_BadBoard_NoCell,
    s_BadBoard_NotFull := s_BadBoard_NotFull,
    s_BadBoard_Taken := s_BadBoard_Taken,
    s_BadBoard_Over := s_BadBoard_Over,
    s_BadBoard_NoStone := s_BadBoard_NoStone,
    s_BadBoard_TooMany := s_BadBoard_TooMany,
    s_NoCell_ShoreError := s_NoCell_ShoreError,
    s_NoCell_BadBoard := s_NoCell_BadBoard,
    s_NoCell_NoCell := s_NoCell_NoCell,
    s_NoCell_NotFull := s_NoCell_NotFull,
    s_NoCell_Taken := s_NoCell_Taken,
    s_NoCell_Over := s_NoCell_Over,
    s_NoCell_NoStone := s_NoCell_NoStone,
    s_NoCell_TooMany := s_NoCell_TooMany,
    s_NotFull_ShoreError := s_NotFull_ShoreError,
    s_NotFull_BadBoard := s_NotFull_BadBoard,
    s_NotFull_NoCell := s_NotFull_NoCell,
    s_NotFull_NotFull := s_NotFull_NotFull,
    s_NotFull_Taken := s_NotFull_Taken,
    s_NotFull_Over := s_NotFull_Over,
    s_NotFull_NoStone := s_NotFull_NoStone,
    s_NotFull_TooMany := s_NotFull_TooMany,
    s_Taken_ShoreError := s_Taken_ShoreError,
    s_Taken_BadBoard := s_Taken_BadBoard,
    s_Taken_NoCell := s_Taken_NoCell,
    s_Taken_NotFull := s_Taken_NotFull,
    s_Taken_Taken := s_Taken_Taken,
    s_Taken_Over := s_Taken_Over,
    s_Taken_NoStone := s_Taken_NoStone,
    s_Taken_TooMany := s_Taken_TooMany,
    s_Over_ShoreError := s_Over_ShoreError,
    s_Over_BadBoard := s_Over_BadBoard,
    s_Over_NoCell := s_Over_NoCell,
    s_Over_NotFull := s_Over_NotFull,
    s_Over_Taken := s_Over_Taken,
    s_Over_Over := s_Over_Over,
    s_Over_NoStone := s_Over_NoStone,
    s_Over_TooMany := s_Over_TooMany,
    s_NoStone_ShoreError := s_NoStone_ShoreError,
    s_NoStone_BadBoard := s_NoStone_BadBoard,
    s_NoStone_NoCell := s_NoStone_NoCell,
    s_NoStone_NotFull := s_NoStone_NotFull,
    s_NoStone_Taken := s_NoStone_Taken,
    s_NoStone_Over := s_NoStone_Over,
    s_NoStone_NoStone := s_NoStone_NoStone,
    s_NoStone_TooMany := s_NoStone_TooMany,
    s_TooMany_ShoreError := s_TooMany_ShoreError,
    s_TooMany_BadBoard := s_TooMany_BadBoard,
    s_TooMany_NoCell := s_TooMany_NoCell,
    s_TooMany_NotFull := s_TooMany_NotFull,
    s_TooMany_Taken := s_TooMany_Taken,
    s_TooMany_Over := s_TooMany_Over,
    s_TooMany_NoStone := s_TooMany_NoStone,
    s_TooMany_TooMany := s_TooMany_TooMany,
    E_BadBoard := ⟨eg_BadBoard, ek_BadBoard, b_BadBoard, ed_BadBoard, ea_BadBoard, exn, ext, em_BadBoard⟩,
    E_NoCell := ⟨eg_NoCell, ek_NoCell, b_NoCell, ed_NoCell, ea_NoCell, exn, ext, em_NoCell⟩,
    E_NotFull := ⟨eg_NotFull, ek_NotFull, b_NotFull, ed_NotFull, ea_NotFull, exn, ext, em_NotFull⟩,
    E_Taken := ⟨eg_Taken, ek_Taken, b_Taken, ed_Taken, ea_Taken, exn, ext, em_Taken⟩,
    E_Over := ⟨eg_Over, ek_Over, b_Over, ed_Over, ea_Over, exn, ext, em_Over⟩,
    E_NoStone := ⟨eg_NoStone, ek_NoStone, b_NoStone, ed_NoStone, ea_NoStone, exn, ext, em_NoStone⟩,
    E_TooMany := ⟨eg_TooMany, ek_TooMany, b_TooMany, ed_TooMany, ea_TooMany, exn, ext, em_TooMany⟩,
    kit_BadBoard_BadBoard := kit_ownT i_BadBoard t_BadBoard s_BadBoard_BadBoard,
    kit_BadBoard_NoCell := kit_ownF i_NoCell t_NoCell s_BadBoard_NoCell s_NoCell_NoCell,
    kit_BadBoard_NotFull := kit_ownF i_NotFull t_NotFull s_BadBoard_NotFull s_NotFull_NotFull,
    kit_BadBoard_Taken := kit_ownF i_Taken t_Taken s_BadBoard_Taken s_Taken_Taken,
    kit_BadBoard_Over := kit_ownF i_Over t_Over s_BadBoard_Over s_Over_Over,
    kit_BadBoard_NoStone := kit_ownF i_NoStone t_NoStone s_BadBoard_NoStone s_NoStone_NoStone,
    kit_BadBoard_TooMany := kit_ownF i_TooMany t_TooMany s_BadBoard_TooMany s_TooMany_TooMany,
    kit_BadBoard_ShoreError := kit_ownT i_ShoreError t_ShoreError s_BadBoard_ShoreError,
    kit_BadBoard_ValueError := kit_typ (by decide +kernel) sv_BadBoard_ValueError,
    kit_NoCell_BadBoard := kit_ownF i_BadBoard t_BadBoard s_NoCell_BadBoard s_BadBoard_BadBoard,
    kit_NoCell_NoCell := kit_ownT i_NoCell t_NoCell s_NoCell_NoCell,
    kit_NoCell_NotFull := kit_ownF i_NotFull t_NotFull s_NoCell_NotFull s_NotFull_NotFull,
    kit_NoCell_Taken := kit_ownF i_Taken t_Taken s_NoCell_Taken s_Taken_Taken,
    kit_NoCell_Over := kit_ownF i_Over t_Over s_NoCell_Over s_Over_Over,
    kit_NoCell_NoStone := kit_ownF i_NoStone t_NoStone s_NoCell_NoStone s_NoStone_NoStone,
    kit_NoCell_TooMany := kit_ownF i_TooMany t_TooMany s_NoCell_TooMany s_TooMany_TooMany,
    kit_NoCell_ShoreError := kit_ownT i_ShoreError t_ShoreError s_NoCell_ShoreError,
    kit_NoCell_ValueError := kit_typ (by decide +kernel) sv_NoCell_ValueError,
    kit_NotFull_BadBoard := kit_ownF i_BadBoard t_BadBoard s_NotFull_BadBoard s_BadBoard_BadBoard,
    kit_NotFull_NoCell := kit_ownF i_NoCell t_NoCell s_NotFull_NoCell s_NoCell_NoCell,
    kit_NotFull_NotFull := kit_ownT i_NotFull t_NotFull s_NotFull_NotFull,
    kit_NotFull_Taken := kit_ownF i_Taken t_Taken s_NotFull_Taken s_Taken_Taken,
    kit_NotFull_Over := kit_ownF i_Over t_Over s_NotFull_Over s_Over_Over,
    kit_NotFull_NoStone := kit_ownF i_NoStone t_NoStone s_NotFull_NoStone s_NoStone_NoStone,
    kit_NotFull_TooMany := kit_ownF i_TooMany t_TooMany s_NotFull_TooMany s_TooMany_TooMany,
    kit_NotFull_ShoreError := kit_ownT i_ShoreError t_ShoreError s_NotFull_ShoreError,
    kit_NotFull_ValueError := kit_typ (by decide +kernel) sv_NotFull_ValueError,
    kit_Taken_BadBoard := kit_ownF i_BadBoard t_BadBoard s_Taken_BadBoard s_BadBoard_BadBoard,
    kit_Taken_NoCell := kit_ownF i_NoCell t_NoCell s_Taken_NoCell s_NoCell_NoCell,
    kit_Taken_NotFull := kit_ownF i_NotFull t_NotFull s_Taken_NotFull s_NotFull_NotFull,
    kit_Taken_Taken := kit_ownT i_Taken t_Taken s_Taken_Taken,
    kit_Taken_Over := kit_ownF i_Over t_Over s_Taken_Over s_Over_Over,
    kit_Taken_NoStone := kit_ownF i_NoStone t_NoStone s_Taken_NoStone s_NoStone_NoStone,
    kit_Taken_TooMany := kit_ownF i_TooMany t_TooMany s_Taken_TooMany s_TooMany_TooMany,
    kit_Taken_ShoreError := kit_ownT i_ShoreError t_ShoreError s_Taken_ShoreError,
    kit_Taken_ValueError := kit_typ (by decide +kernel) sv_Taken_ValueError,
    kit_Over_BadBoard := kit_ownF i_BadBoard t_BadBoard s_Over_BadBoard s_BadBoard_BadBoard,
    kit_Over_NoCell := kit_ownF i_NoCell t_NoCell s_Over_NoCell s_NoCell_NoCell,
    kit_Over_NotFull := kit_ownF i_NotFull t_NotFull s_Over_NotFull s_NotFull_NotFull,
    kit_Over_Taken := kit_ownF i_Taken t_Taken s_Over_Taken s_Taken_Taken,
    kit_Over_Over := kit_ownT i_Over t_Over s_Over_Over,
    kit_Over_NoStone := kit_ownF i_NoStone t_NoStone s_Over_NoStone s_NoStone_NoStone,
    kit_Over_TooMany := kit_ownF i_TooMany t_TooMany s_Over_TooMany s_TooMany_TooMany,
    kit_Over_ShoreError := kit_ownT i_ShoreError t_ShoreError s_Over_ShoreError,
    kit_Over_ValueError := kit_typ (by decide +kernel) sv_Over_ValueError,
    kit_NoStone_BadBoard := kit_ownF i_BadBoard t_BadBoard s_NoStone_BadBoard s_BadBoard_BadBoard,
    kit_NoStone_NoCell := kit_ownF i_NoCell t_NoCell s_NoStone_NoCell s_NoCell_NoCell,
    kit_NoStone_NotFull := kit_ownF i_NotFull t_NotFull s_NoStone_NotFull s_NotFull_NotFull,
    kit_NoStone_Taken := kit_ownF i_Taken t_Taken s_NoStone_Taken s_Taken_Taken,
    kit_NoStone_Over := kit_ownF i_Over t_Over s_NoStone_Over s_Over_Over,
    kit_NoStone_NoStone := kit_ownT i_NoStone t_NoStone s_NoStone_NoStone,
    kit_NoStone_TooMany := kit_ownF i_TooMany t_TooMany s_NoStone_TooMany s_TooMany_TooMany,
    kit_NoStone_ShoreError := kit_ownT i_ShoreError t_ShoreError s_NoStone_ShoreError,
    kit_NoStone_ValueError := kit_typ (by decide +kernel) sv_NoStone_ValueError,
    kit_TooMany_BadBoard := kit_ownF i_BadBoard t_BadBoard s_TooMany_BadBoard s_BadBoard_BadBoard,
    kit_TooMany_NoCell := kit_ownF i_NoCell t_NoCell s_TooMany_NoCell s_NoCell_NoCell,
    kit_TooMany_NotFull := kit_ownF i_NotFull t_NotFull s_TooMany_NotFull s_NotFull_NotFull,
    kit_TooMany_Taken := kit_ownF i_Taken t_Taken s_TooMany_Taken s_Taken_Taken,
    kit_TooMany_Over := kit_ownF i_Over t_Over s_TooMany_Over s_Over_Over,
    kit_TooMany_NoStone := kit_ownF i_NoStone t_NoStone s_TooMany_NoStone s_NoStone_NoStone,
    kit_TooMany_TooMany := kit_ownT i_TooMany t_TooMany s_TooMany_TooMany,
    kit_TooMany_ShoreError := kit_ownT i_ShoreError t_ShoreError s_TooMany_ShoreError,
    kit_TooMany_ValueError := kit_typ (by decide +kernel) sv_TooMany_ValueError,
    tk_MOST := tk_MOST,
    g_MOST := PySem.W.mg_of X G g_MOST,
    tk_MOST_EMPTY := tk_MOST_EMPTY,
    g_MOST_EMPTY := PySem.W.mg_of X G g_MOST_EMPTY,
    z_len := PySem.W.mg_none_of X G z_len,
    z_all := PySem.W.mg_none_of X G z_all,
    z_list := PySem.W.mg_none_of X G z_list,
    z_enumerate := PySem.W.mg_none_of X G z_enumerate,
    z_range := PySem.W.mg_none_of X G z_range,
    z_tuple := PySem.W.mg_none_of X G z_tuple,
    z_any := PySem.W.mg_none_of X G z_any,
    z_isinstance := PySem.W.mg_none_of X G z_isinstance,
    z_ValueError := PySem.W.mg_none_of X G z_ValueError }
  exact ⟨PySem.W.fnOf "law" "law" (defArgs s_law) (defBody s_law) (defScope s_law) .none kV31 dc31 pm31 an31 cd31 ct31, fun s v => .of_eq rfl, fun base _ _ => ok_law T⟩
theorem walk {l : PySem.W.OpenLaw} {q : Program} {loose : List Str} {XP : (Str → Option Value) → Heap → Prop} {YP : World → Heap → Prop} {d : DefRec} {K : Params → PySem.W.Frag} (hn : l.most = some 63) (hdf : d.params.defaults = [])
    (hY : ∀ (w : World) (h : Heap), YP w h → (K w.params).In h)
    (F : ∀ (w : World) (mg : Str → Option Value) (fa : Addr) (h : Heap), (K w.params).In h → h.Ns mainGlobals mg → mg d.name = some (.ref fa) →
      ∃ fd : FuncData, (∀ (s : Shared) (u : Value), BindsTo s fd ⟨[u], []⟩ [("script", u)]) ∧ ∀ base : Heap, (K w.params).In base → base.Ns mainGlobals mg → FnOk l.prog w (K w.params) mg base CX0 13 fa fd ["script"] (sp_law (K w.params))) :
    PySem.W.WalkO q loose XP YP l.row.toRowW d [] (fun f vs => PySem.call f vs) :=
  L2.walk_of (n := 63) (k := 13) (x := "script") (CX := fun _ => CX0) (sp := fun w => sp_law (K w.params)) hn (by decide) hdf ⟨rfl, by decide, by decide⟩ hY F (fun _ _ a ns hl _ hS => ⟨a, ns, rfl, hS, hl, fun _ => rfl⟩) fun _ _ _ _ _ z => z
end Sw
open PySem PySem.W PyProof.Rows in
set_option maxRecDepth 100000 in
set_option maxHeartbeats 0 in
theorem PySem.Challenge.cw_shoreways_k16_refusals_apart_holds : PySem.Challenge.rw_shoreways_k16_refusals_apart.Holds := by
  w_on; o_law; k_head; (case hw => w_witness2)
  k_fill
  refine Sw.walk (l := PySem.Challenge.rw_shoreways_k16_refusals_apart) rfl rfl (fun w h Y => PySem.W.kIn_of Y) ?F
  case F =>
    intro w mg fa h KX G hmg
    refine' Sw.all_mk KX G hmg ?aC_Board ?aC_Game ?aC_ShoreError ?aC_BadBoard ?aC_NoCell ?aC_NotFull ?aC_Taken ?aC_Over ?aC_NoStone ?aC_TooMany ?a1 ?l1 ?c1 ?k1 ?a2 ?i2 ?l2 ?c2 ?k2 ?a3 ?i3 ?l3 ?c3 ?k3 ?a4 ?l4 ?c4 ?k4 ?a5 ?l5 ?c5 ?k5 ?a6 ?l6 ?c6 ?k6 ?a7 ?l7 ?c7 ?k7 ?a8 ?l8 ?c8 ?k8 ?a9 ?l9 ?c9 ?k9 ?a10 ?l10 ?c10 ?k10 ?a11 ?l11 ?c11 ?k11 ?a12 ?l12 ?c12 ?k12 ?a13 ?l13 ?c13 ?k13 ?a14 ?l14 ?c14 ?k14 ?a15 ?l15 ?c15 ?k15 ?a16 ?l16 ?c16 ?k16 ?a17 ?l17 ?c17 ?k17 ?a18 ?l18 ?c18 ?k18 ?a19 ?i19 ?l19 ?c19 ?k19 ?a20 ?i20 ?l20 ?c20 ?k20 ?a21 ?i21 ?l21 ?c21 ?k21 ?a22 ?i22 ?l22 ?c22 ?k22 ?a23 ?i23 ?l23 ?c23 ?k23 ?a24 ?l24 ?c24 ?k24 ?a25 ?l25 ?c25 ?k25 ?a26 ?l26 ?c26 ?k26 ?a27 ?l27 ?c27 ?k27 ?a28 ?l28 ?c28 ?k28 ?a29 ?l29 ?c29 ?k29 ?a30 ?l30 ?c30 ?k30 ?a31 ?l31 ?c31 ?k31 ?pg_Board ?hd_Board ?po_Board ?sa_Board ?mk_Board ?kc_Board ?n_Board_rows ?n_Board_height ?n_Board_width ?pg_Game ?hd_Game ?po_Game ?sa_Game ?mk_Game ?kc_Game ?n_Game_height ?n_Game_width ?n_Game_played ?x_ShoreError ?k_ShoreError ?b_ShoreError ?t_ShoreError ?i_ShoreError ?x_BadBoard ?k_BadBoard ?b_BadBoard ?t_BadBoard ?i_BadBoard ?x_NoCell ?k_NoCell ?b_NoCell ?t_NoCell ?i_NoCell ?x_NotFull ?k_NotFull ?b_NotFull ?t_NotFull ?i_NotFull ?x_Taken ?k_Taken ?b_Taken ?t_Taken ?i_Taken ?x_Over ?k_Over ?b_Over ?t_Over ?i_Over ?x_NoStone ?k_NoStone ?b_NoStone ?t_NoStone ?i_NoStone ?x_TooMany ?k_TooMany ?b_TooMany ?t_TooMany ?i_TooMany ?s_BadBoard_ShoreError ?s_BadBoard_BadBoard ?s_BadBoard_NoCell ?s_BadBoard_NotFull ?s_BadBoard_Taken ?s_BadBoard_Over ?s_BadBoard_NoStone ?s_BadBoard_TooMany ?s_NoCell_ShoreError ?s_NoCell_BadBoard ?s_NoCell_NoCell ?s_NoCell_NotFull ?s_NoCell_Taken ?s_NoCell_Over ?s_NoCell_NoStone ?s_NoCell_TooMany ?s_NotFull_ShoreError ?s_NotFull_BadBoard ?s_NotFull_NoCell ?s_NotFull_NotFull ?s_NotFull_Taken ?s_NotFull_Over ?s_NotFull_NoStone ?s_NotFull_TooMany ?s_Taken_ShoreError ?s_Taken_BadBoard ?s_Taken_NoCell ?s_Taken_NotFull ?s_Taken_Taken ?s_Taken_Over ?s_Taken_NoStone ?s_Taken_TooMany ?s_Over_ShoreError ?s_Over_BadBoard ?s_Over_NoCell ?s_Over_NotFull ?s_Over_Taken ?s_Over_Over ?s_Over_NoStone ?s_Over_TooMany ?s_NoStone_ShoreError ?s_NoStone_BadBoard ?s_NoStone_NoCell ?s_NoStone_NotFull ?s_NoStone_Taken ?s_NoStone_Over ?s_NoStone_NoStone ?s_NoStone_TooMany ?s_TooMany_ShoreError ?s_TooMany_BadBoard ?s_TooMany_NoCell ?s_TooMany_NotFull ?s_TooMany_Taken ?s_TooMany_Over ?s_TooMany_NoStone ?s_TooMany_TooMany ?exn ?ext ?eg_BadBoard ?ek_BadBoard ?ed_BadBoard ?ea_BadBoard ?em_BadBoard ?eg_NoCell ?ek_NoCell ?ed_NoCell ?ea_NoCell ?em_NoCell ?eg_NotFull ?ek_NotFull ?ed_NotFull ?ea_NotFull ?em_NotFull ?eg_Taken ?ek_Taken ?ed_Taken ?ea_Taken ?em_Taken ?eg_Over ?ek_Over ?ed_Over ?ea_Over ?em_Over ?eg_NoStone ?ek_NoStone ?ed_NoStone ?ea_NoStone ?em_NoStone ?eg_TooMany ?ek_TooMany ?ed_TooMany ?ea_TooMany ?em_TooMany ?sv_BadBoard_ValueError ?sv_NoCell_ValueError ?sv_NotFull_ValueError ?sv_Taken_ValueError ?sv_Over_ValueError ?sv_NoStone_ValueError ?sv_TooMany_ValueError ?g_MOST ?g_MOST_EMPTY ?z_len ?z_all ?z_list ?z_enumerate ?z_range ?z_tuple ?z_any ?z_isinstance ?z_ValueError
    (case aC_Board => k_is)
    (case aC_Game => k_is)
    (case aC_ShoreError => k_is)
    (case aC_BadBoard => k_is)
    (case aC_NoCell => k_is)
    (case aC_NotFull => k_is)
    (case aC_Taken => k_is)
    (case aC_Over => k_is)
    (case aC_NoStone => k_is)
    (case aC_TooMany => k_is)
    (case a1 => k_is)
    (case l1 => k_is)
    (case c1 => k_is)
    (case k1 => k_is)
    (case a2 => k_is)
    (case i2 => k_is)
    (case l2 => k_is)
    (case c2 => k_is)
    (case k2 => k_is)
    (case a3 => k_is)
    (case i3 => k_is)
    (case l3 => k_is)
    (case c3 => k_is)
    (case k3 => k_is)
    (case a4 => k_is)
    (case l4 => k_is)
    (case c4 => k_is)
    (case k4 => k_is)
    (case a5 => k_is)
    (case l5 => k_is)
    (case c5 => k_is)
    (case k5 => k_is)
    (case a6 => k_is)
    (case l6 => k_is)
    (case c6 => k_is)
    (case k6 => k_is)
    (case a7 => k_is)
    (case l7 => k_is)
    (case c7 => k_is)
    (case k7 => k_is)
    (case a8 => k_is)
    (case l8 => k_is)
    (case c8 => k_is)
    (case k8 => k_is)
    (case a9 => k_is)
    (case l9 => k_is)
    (case c9 => k_is)
    (case k9 => k_is)
    (case a10 => k_is)
    (case l10 => k_is)
    (case c10 => k_is)
    (case k10 => k_is)
    (case a11 => k_is)
    (case l11 => k_is)
    (case c11 => k_is)
    (case k11 => k_is)
    (case a12 => k_is)
    (case l12 => k_is)
    (case c12 => k_is)
    (case k12 => k_is)
    (case a13 => k_is)
    (case l13 => k_is)
    (case c13 => k_is)
    (case k13 => k_is)
    (case a14 => k_is)
    (case l14 => k_is)
    (case c14 => k_is)
    (case k14 => k_is)
    (case a15 => k_is)
    (case l15 => k_is)
    (case c15 => k_is)
    (case k15 => k_is)
    (case a16 => k_is)
    (case l16 => k_is)
    (case c16 => k_is)
    (case k16 => k_is)
    (case a17 => k_is)
    (case l17 => k_is)
    (case c17 => k_is)
    (case k17 => k_is)
    (case a18 => k_is)
    (case l18 => k_is)
    (case c18 => k_is)
    (case k18 => k_is)
    (case a19 => k_is)
    (case i19 => k_is)
    (case l19 => k_is)
    (case c19 => k_is)
    (case k19 => k_is)
    (case a20 => k_is)
    (case i20 => k_is)
    (case l20 => k_is)
    (case c20 => k_is)
    (case k20 => k_is)
    (case a21 => k_is)
    (case i21 => k_is)
    (case l21 => k_is)
    (case c21 => k_is)
    (case k21 => k_is)
    (case a22 => k_is)
    (case i22 => k_is)
    (case l22 => k_is)
    (case c22 => k_is)
    (case k22 => k_is)
    (case a23 => k_is)
    (case i23 => k_is)
    (case l23 => k_is)
    (case c23 => k_is)
    (case k23 => k_is)
    (case a24 => k_is)
    (case l24 => k_is)
    (case c24 => k_is)
    (case k24 => k_is)
    (case a25 => k_is)
    (case l25 => k_is)
    (case c25 => k_is)
    (case k25 => k_is)
    (case a26 => k_is)
    (case l26 => k_is)
    (case c26 => k_is)
    (case k26 => k_is)
    (case a27 => k_is)
    (case l27 => k_is)
    (case c27 => k_is)
    (case k27 => k_is)
    (case a28 => k_is)
    (case l28 => k_is)
    (case c28 => k_is)
    (case k28 => k_is)
    (case a29 => k_is)
    (case l29 => k_is)
    (case c29 => k_is)
    (case k29 => k_is)
    (case a30 => k_is)
    (case l30 => k_is)
    (case c30 => k_is)
    (case k30 => k_is)
    (case a31 => k_is)
    (case l31 => k_is)
    (case c31 => k_is)
    (case k31 => k_is)
    (case pg_Board => k_is)
    (case hd_Board => k_is)
    (case po_Board => k_is)
    (case sa_Board => k_is)
    (case mk_Board => k_is)
    (case kc_Board => k_is)
    (case n_Board_rows => k_is)
    (case n_Board_height => k_is)
    (case n_Board_width => k_is)
    (case pg_Game => k_is)
    (case hd_Game => k_is)
    (case po_Game => k_is)
    (case sa_Game => k_is)
    (case mk_Game => k_is)
    (case kc_Game => k_is)
    (case n_Game_height => k_is)
    (case n_Game_width => k_is)
    (case n_Game_played => k_is)
    (case x_ShoreError => k_exc)
    (case k_ShoreError => k_is)
    (case b_ShoreError => k_is)
    (case t_ShoreError => k_is)
    (case i_ShoreError => k_is)
    (case x_BadBoard => k_exc)
    (case k_BadBoard => k_is)
    (case b_BadBoard => k_is)
    (case t_BadBoard => k_is)
    (case i_BadBoard => k_is)
    (case x_NoCell => k_exc)
    (case k_NoCell => k_is)
    (case b_NoCell => k_is)
    (case t_NoCell => k_is)
    (case i_NoCell => k_is)
    (case x_NotFull => k_exc)
    (case k_NotFull => k_is)
    (case b_NotFull => k_is)
    (case t_NotFull => k_is)
    (case i_NotFull => k_is)
    (case x_Taken => k_exc)
    (case k_Taken => k_is)
    (case b_Taken => k_is)
    (case t_Taken => k_is)
    (case i_Taken => k_is)
    (case x_Over => k_exc)
    (case k_Over => k_is)
    (case b_Over => k_is)
    (case t_Over => k_is)
    (case i_Over => k_is)
    (case x_NoStone => k_exc)
    (case k_NoStone => k_is)
    (case b_NoStone => k_is)
    (case t_NoStone => k_is)
    (case i_NoStone => k_is)
    (case x_TooMany => k_exc)
    (case k_TooMany => k_is)
    (case b_TooMany => k_is)
    (case t_TooMany => k_is)
    (case i_TooMany => k_is)
    (case s_BadBoard_ShoreError => first | rfl | k_is)
    (case s_BadBoard_BadBoard => first | rfl | k_is)
    (case s_BadBoard_NoCell => first | rfl | k_is)
    (case s_BadBoard_NotFull => first | rfl | k_is)
    (case s_BadBoard_Taken => first | rfl | k_is)
    (case s_BadBoard_Over => first | rfl | k_is)
    (case s_BadBoard_NoStone => first | rfl | k_is)
    (case s_BadBoard_TooMany => first | rfl | k_is)
    (case s_NoCell_ShoreError => first | rfl | k_is)
    (case s_NoCell_BadBoard => first | rfl | k_is)
    (case s_NoCell_NoCell => first | rfl | k_is)
    (case s_NoCell_NotFull => first | rfl | k_is)
    (case s_NoCell_Taken => first | rfl | k_is)
    (case s_NoCell_Over => first | rfl | k_is)
    (case s_NoCell_NoStone => first | rfl | k_is)
    (case s_NoCell_TooMany => first | rfl | k_is)
    (case s_NotFull_ShoreError => first | rfl | k_is)
    (case s_NotFull_BadBoard => first | rfl | k_is)
    (case s_NotFull_NoCell => first | rfl | k_is)
    (case s_NotFull_NotFull => first | rfl | k_is)
    (case s_NotFull_Taken => first | rfl | k_is)
    (case s_NotFull_Over => first | rfl | k_is)
    (case s_NotFull_NoStone => first | rfl | k_is)
    (case s_NotFull_TooMany => first | rfl | k_is)
    (case s_Taken_ShoreError => first | rfl | k_is)
    (case s_Taken_BadBoard => first | rfl | k_is)
    (case s_Taken_NoCell => first | rfl | k_is)
    (case s_Taken_NotFull => first | rfl | k_is)
    (case s_Taken_Taken => first | rfl | k_is)
    (case s_Taken_Over => first | rfl | k_is)
    (case s_Taken_NoStone => first | rfl | k_is)
    (case s_Taken_TooMany => first | rfl | k_is)
    (case s_Over_ShoreError => first | rfl | k_is)
    (case s_Over_BadBoard => first | rfl | k_is)
    (case s_Over_NoCell => first | rfl | k_is)
    (case s_Over_NotFull => first | rfl | k_is)
    (case s_Over_Taken => first | rfl | k_is)
    (case s_Over_Over => first | rfl | k_is)
    (case s_Over_NoStone => first | rfl | k_is)
    (case s_Over_TooMany => first | rfl | k_is)
    (case s_NoStone_ShoreError => first | rfl | k_is)
    (case s_NoStone_BadBoard => first | rfl | k_is)
    (case s_NoStone_NoCell => first | rfl | k_is)
    (case s_NoStone_NotFull => first | rfl | k_is)
    (case s_NoStone_Taken => first | rfl | k_is)
    (case s_NoStone_Over => first | rfl | k_is)
    (case s_NoStone_NoStone => first | rfl | k_is)
    (case s_NoStone_TooMany => first | rfl | k_is)
    (case s_TooMany_ShoreError => first | rfl | k_is)
    (case s_TooMany_BadBoard => first | rfl | k_is)
    (case s_TooMany_NoCell => first | rfl | k_is)
    (case s_TooMany_NotFull => first | rfl | k_is)
    (case s_TooMany_Taken => first | rfl | k_is)
    (case s_TooMany_Over => first | rfl | k_is)
    (case s_TooMany_NoStone => first | rfl | k_is)
    (case s_TooMany_TooMany => first | rfl | k_is)
    (case exn => k_is)
    (case ext => k_is)
    (case eg_BadBoard => k_is)
    (case ek_BadBoard => k_is)
    (case ed_BadBoard => k_is)
    (case ea_BadBoard => k_is)
    (case em_BadBoard => k_is)
    (case eg_NoCell => k_is)
    (case ek_NoCell => k_is)
    (case ed_NoCell => k_is)
    (case ea_NoCell => k_is)
    (case em_NoCell => k_is)
    (case eg_NotFull => k_is)
    (case ek_NotFull => k_is)
    (case ed_NotFull => k_is)
    (case ea_NotFull => k_is)
    (case em_NotFull => k_is)
    (case eg_Taken => k_is)
    (case ek_Taken => k_is)
    (case ed_Taken => k_is)
    (case ea_Taken => k_is)
    (case em_Taken => k_is)
    (case eg_Over => k_is)
    (case ek_Over => k_is)
    (case ed_Over => k_is)
    (case ea_Over => k_is)
    (case em_Over => k_is)
    (case eg_NoStone => k_is)
    (case ek_NoStone => k_is)
    (case ed_NoStone => k_is)
    (case ea_NoStone => k_is)
    (case em_NoStone => k_is)
    (case eg_TooMany => k_is)
    (case ek_TooMany => k_is)
    (case ed_TooMany => k_is)
    (case ea_TooMany => k_is)
    (case em_TooMany => k_is)
    (case sv_BadBoard_ValueError => k_is)
    (case sv_NoCell_ValueError => k_is)
    (case sv_NotFull_ValueError => k_is)
    (case sv_Taken_ValueError => k_is)
    (case sv_Over_ValueError => k_is)
    (case sv_NoStone_ValueError => k_is)
    (case sv_TooMany_ValueError => k_is)
    (case g_MOST => k_is)
    (case g_MOST_EMPTY => k_is)
    (case z_len => k_is)
    (case z_all => k_is)
    (case z_list => k_is)
    (case z_enumerate => k_is)
    (case z_range => k_is)
    (case z_tuple => k_is)
    (case z_any => k_is)
    (case z_isinstance => k_is)
    (case z_ValueError => k_is)
#print axioms PySem.Challenge.cw_shoreways_k16_refusals_apart_holds
