import PyProof.Rows.All
import Wide.All
import OpenK.AllK
import Wide.FinOn
import HandS.Zip
import HandS.TupSets
import PyProof.Rows.CountFlat
import HandS.ForMost
import HandS.ForExc
import HandS.IsInst
import HandS.Deep
import HandS.Conv
import HandS.Wide
import HandS.Evl
import HandS.ExcIs
import HandS.Walk
import PyProof.StrBlock2
import PyProof.ListStr
import KE.KIsAll
import KE.GoesMore
import KE.GoesEnum
import HandS.Style
import PySem.Challenge.RW_shoreways_k08_walks
set_option Elab.async false
set_option linter.all false
set_option maxRecDepth 100000
set_option maxHeartbeats 4000000
/-! Never both: a north road and a west road of a board can't stand together (parity of crossings). Plain Lean. -/
namespace Sw
abbrev Cell := Int × Int
def near6 (p : Cell) : List Cell := [(p.1 - 1, p.2), (p.1 - 1, p.2 + 1), (p.1, p.2 + 1), (p.1 + 1, p.2), (p.1 + 1, p.2 - 1), (p.1, p.2 - 1)]
theorem near6_iff {p q : Cell} : q ∈ near6 p ↔ (q.1 = p.1 - 1 ∧ q.2 = p.2) ∨ (q.1 = p.1 - 1 ∧ q.2 = p.2 + 1) ∨ (q.1 = p.1 ∧ q.2 = p.2 + 1) ∨ (q.1 = p.1 + 1 ∧ q.2 = p.2) ∨ (q.1 = p.1 + 1 ∧ q.2 = p.2 - 1) ∨ (q.1 = p.1 ∧ q.2 = p.2 - 1) := by
  simp only [near6, List.mem_cons, List.not_mem_nil, or_false, Prod.ext_iff]
theorem near6_symm {p q : Cell} (h : q ∈ near6 p) : p ∈ near6 q := by
  rw [near6_iff] at h ⊢
  omega
/-- a hand's sign (false: the north hand's n; true: the west hand's w), its own coordinate, its extent -/
def lt (s : Bool) : Nat := if s then 119 else 110
def sd (s : Bool) (p : Cell) : Int := if s then p.2 else p.1
def ext (s : Bool) (h w : Nat) : Int := if s then (w : Int) else (h : Int)
inductive Reach (g : Cell → Nat) (s : Bool) : Cell → Prop
  | first {p : Cell} : g p = lt s → sd s p = 0 → Reach g s p
  | next {p q : Cell} : Reach g s p → q ∈ near6 p → g q = lt s → Reach g s q
theorem Reach.sign {g : Cell → Nat} {s : Bool} {p : Cell} (h : Reach g s p) : g p = lt s := by
  cases h with
  | first a _ => exact a
  | next _ _ a => exact a
def Joined (g : Cell → Nat) (h w : Nat) (s : Bool) : Prop := ∃ p, Reach g s p ∧ sd s p = ext s h w - 1
def Sup (g : Cell → Nat) (h w : Nat) : Prop := ∀ p, g p ≠ 0 → 0 ≤ p.1 ∧ p.1 < (h : Int) ∧ 0 ≤ p.2 ∧ p.2 < (w : Int)

/-! ### parity -/
def Chn : Cell → List Cell → Prop
  | _, [] => True
  | a, b :: l => a ∈ near6 b ∧ Chn b l
def lst : Cell → List Cell → Cell
  | a, [] => a
  | _, b :: l => lst b l
def cnt (e : Cell → Cell → Bool) : Cell → List Cell → Bool
  | _, [] => false
  | a, b :: l => xor (e a b) (cnt e b l)
def lf (x p : Cell) : Bool := decide (p.1 = x.1 ∧ p.2 < x.2)
/-- an edge between row x.1 and row x.1 + d whose end in row x.1 lies left of x -/
def ed (d : Int) (x a b : Cell) : Bool := (lf x a && decide (b.1 = x.1 + d)) || (lf x b && decide (a.1 = x.1 + d))
theorem ne_cell {a x : Cell} (h : a ≠ x) : ¬ (a.1 = x.1 ∧ a.2 = x.2) := fun e => h (Prod.ext e.1 e.2)
theorem xor_dec {p q : Prop} [Decidable p] [Decidable q] {b : Bool} (h : b = true ↔ ((p ∧ ¬ q) ∨ (¬ p ∧ q))) : b = xor (decide p) (decide q) := by
  by_cases hp : p <;> by_cases hq : q <;> cases b <;> simp_all
theorem ed_iff {d : Int} {x a b : Cell} : ed d x a b = true ↔ ((a.1 = x.1 ∧ a.2 < x.2) ∧ b.1 = x.1 + d) ∨ ((b.1 = x.1 ∧ b.2 < x.2) ∧ a.1 = x.1 + d) := by
  simp only [ed, lf, Bool.or_eq_true, Bool.and_eq_true, decide_eq_true_eq]
theorem ed_tog {x a b : Cell} (h : a ∈ near6 b) (ha : a ≠ x) (hb : b ≠ x) : xor (ed (-1) x a b) (ed 1 x a b) = xor (lf x a) (lf x b) := by
  rw [near6_iff] at h
  have ha' := ne_cell ha
  have hb' := ne_cell hb
  unfold lf
  refine xor_dec ?_
  have : (xor (ed (-1) x a b) (ed 1 x a b) = true) ↔ ((ed (-1) x a b = true ∧ ¬ ed 1 x a b = true) ∨ (¬ ed (-1) x a b = true ∧ ed 1 x a b = true)) := by
    cases ed (-1) x a b <;> cases ed 1 x a b <;> decide
  rw [this, ed_iff, ed_iff]
  rcases h with h | h | h | h | h | h <;> rw [h.1] <;> omega
theorem cnt_tog {x : Cell} : ∀ (l : List Cell) (a : Cell), Chn a l → (∀ q, q ∈ a :: l → q ≠ x) → xor (cnt (ed (-1) x) a l) (cnt (ed 1 x) a l) = xor (lf x a) (lf x (lst a l))
  | [], a, _, _ => by
    show xor false false = xor (lf x a) (lf x a)
    cases lf x a <;> rfl
  | b :: l, a, h, hx => by
    have ih := cnt_tog l b h.2 (fun q hq => hx q (List.mem_cons_of_mem _ hq))
    have e := ed_tog h.1 (hx a (List.mem_cons_self)) (hx b (List.mem_cons_of_mem _ List.mem_cons_self))
    show xor (xor (ed (-1) x a b) (cnt (ed (-1) x) b l)) (xor (ed 1 x a b) (cnt (ed 1 x) b l)) = xor (lf x a) (lf x (lst b l))
    revert e ih
    generalize ed (-1) x a b = p1
    generalize ed 1 x a b = p2
    generalize cnt (ed (-1) x) b l = p3
    generalize cnt (ed 1 x) b l = p4
    generalize lf x a = p5
    generalize lf x b = p6
    generalize lf x (lst b l) = p7
    cases p1 <;> cases p2 <;> cases p3 <;> cases p4 <;> cases p5 <;> cases p6 <;> cases p7 <;> decide
theorem cnt_congr {e e' : Cell → Cell → Bool} {P : Cell → Prop} (h : ∀ a b, a ∈ near6 b → P a → P b → e a b = e' a b) : ∀ (l : List Cell) (a : Cell), Chn a l → (∀ q, q ∈ a :: l → P q) → cnt e a l = cnt e' a l
  | [], _, _, _ => rfl
  | b :: l, a, c, hp => by
    show xor (e a b) (cnt e b l) = xor (e' a b) (cnt e' b l)
    rw [h a b c.1 (hp a List.mem_cons_self) (hp b (List.mem_cons_of_mem _ List.mem_cons_self)), cnt_congr h l b c.2 (fun q hq => hp q (List.mem_cons_of_mem _ hq))]
/-- crossing from rows ≤ r to rows > r -/
theorem cnt_rows {e : Cell → Cell → Bool} {r : Int} {P : Cell → Prop} (h : ∀ a b, a ∈ near6 b → P a → P b → e a b = xor (decide (a.1 ≤ r)) (decide (b.1 ≤ r))) : ∀ (l : List Cell) (a : Cell), Chn a l → (∀ q, q ∈ a :: l → P q) → cnt e a l = xor (decide (a.1 ≤ r)) (decide ((lst a l).1 ≤ r))
  | [], a, _, _ => by
    show false = xor (decide (a.1 ≤ r)) (decide (a.1 ≤ r))
    cases decide (a.1 ≤ r) <;> rfl
  | b :: l, a, c, hp => by
    have ih := cnt_rows h l b c.2 (fun q hq => hp q (List.mem_cons_of_mem _ hq))
    show xor (e a b) (cnt e b l) = xor (decide (a.1 ≤ r)) (decide ((lst b l).1 ≤ r))
    rw [ih, h a b c.1 (hp a List.mem_cons_self) (hp b (List.mem_cons_of_mem _ List.mem_cons_self))]
    cases decide (a.1 ≤ r) <;> cases decide (b.1 ≤ r) <;> cases decide ((lst b l).1 ≤ r) <;> rfl

theorem ed_side {x y : Cell} (h : (y.1 = x.1 ∧ y.2 = x.2 + 1) ∨ (y.1 = x.1 ∧ y.2 = x.2 - 1)) (a b : Cell) (_ : a ∈ near6 b) (ha : a ≠ x ∧ a ≠ y) (hb : b ≠ x ∧ b ≠ y) : ed 1 x a b = ed 1 y a b := by
  have a1 := ne_cell ha.1
  have a2 := ne_cell ha.2
  have b1 := ne_cell hb.1
  have b2 := ne_cell hb.2
  have e1 : lf x a = lf y a := decide_eq_decide.mpr (by omega)
  have e2 : lf x b = lf y b := decide_eq_decide.mpr (by omega)
  have e3 : y.1 = x.1 := by omega
  unfold ed
  rw [e1, e2, e3]
theorem ed_down {x y : Cell} (h : (y.1 = x.1 + 1 ∧ y.2 = x.2) ∨ (y.1 = x.1 + 1 ∧ y.2 = x.2 - 1)) (a b : Cell) (hab : a ∈ near6 b) (ha : a ≠ x ∧ a ≠ y) (hb : b ≠ x ∧ b ≠ y) : ed 1 x a b = ed (-1) y a b := by
  have a1 := ne_cell ha.1
  have a2 := ne_cell ha.2
  have b1 := ne_cell hb.1
  have b2 := ne_cell hb.2
  rw [near6_iff] at hab
  rw [Bool.eq_iff_iff, ed_iff, ed_iff]
  rcases hab with q | q | q | q | q | q <;> rcases h with k | k <;> rw [q.1, k.1] <;> omega
theorem ed_up {x y : Cell} (h : (y.1 = x.1 - 1 ∧ y.2 = x.2) ∨ (y.1 = x.1 - 1 ∧ y.2 = x.2 + 1)) (a b : Cell) (hab : a ∈ near6 b) (ha : a ≠ x ∧ a ≠ y) (hb : b ≠ x ∧ b ≠ y) : ed (-1) x a b = ed 1 y a b :=
  (ed_down (x := y) (y := x) (by omega) a b hab ⟨ha.2, ha.1⟩ ⟨hb.2, hb.1⟩).symm

theorem reach_chain {g : Cell → Nat} {p : Cell} (h : Reach g false p) : ∃ l, Chn p l ∧ (∀ q, q ∈ p :: l → g q = 110 ∨ q.1 = -1) ∧ (lst p l).1 = -1 := by
  induction h with
  | @first p a b =>
    refine ⟨[(-1, p.2)], ⟨?_, trivial⟩, ?_, rfl⟩
    · have : p.1 = 0 := b
      exact near6_iff.mpr (.inr (.inr (.inr (.inl ⟨by show p.1 = -1 + 1; omega, rfl⟩))))
    · intro q hq
      rcases List.mem_cons.mp hq with rfl | hq
      · exact .inl a
      · rcases List.mem_cons.mp hq with rfl | hq
        · exact .inr rfl
        · cases hq
  | @next p q _ hn hq ih =>
    obtain ⟨l, c, m, e⟩ := ih
    refine ⟨p :: l, ⟨hn, c⟩, ?_, e⟩
    intro z hz
    rcases List.mem_cons.mp hz with rfl | hz
    · exact .inl hq
    · exact m z hz

theorem never_both {g : Cell → Nat} {h w : Nat} (S : Sup g h w) (hn : Joined g h w false) (hw : Joined g h w true) : False := by
  obtain ⟨p, hp, pe⟩ := hn
  obtain ⟨l0, c0, m0, e0⟩ := reach_chain hp
  have pe' : p.1 = (h : Int) - 1 := pe
  -- the road, and a place below
  let top : Cell := ((h : Int), p.2)
  have cc : Chn top (p :: l0) := ⟨near6_iff.mpr (.inr (.inr (.inr (.inl ⟨by show (h : Int) = p.1 + 1; omega, rfl⟩)))), c0⟩
  have mm : ∀ q, q ∈ top :: p :: l0 → (g q = 110 ∧ 0 ≤ q.1 ∧ q.1 < (h : Int) ∧ 0 ≤ q.2 ∧ q.2 < (w : Int)) ∨ q.1 = -1 ∨ q.1 = (h : Int) := by
    intro q hq
    rcases List.mem_cons.mp hq with rfl | hq
    · exact .inr (.inr rfl)
    · rcases m0 q hq with e | e
      · exact .inl ⟨e, S q (by rw [e]; decide)⟩
      · exact .inr (.inl e)
  have el : (lst top (p :: l0)).1 = -1 := e0
  -- a west stone is on no north road
  have off : ∀ x : Cell, g x = 119 → ∀ q, q ∈ top :: p :: l0 → q ≠ x := by
    intro x hx q hq e
    have sx := S x (by rw [hx]; decide)
    subst e
    rcases mm q hq with z | z | z
    · rw [hx] at z
      exact absurd z.1 (by decide)
    · omega
    · omega
  have tog : ∀ x : Cell, g x = 119 → cnt (ed (-1) x) top (p :: l0) = cnt (ed 1 x) top (p :: l0) := by
    intro x hx
    have sx := S x (by rw [hx]; decide)
    have t := cnt_tog (p :: l0) top cc (off x hx)
    have f1 : lf x top = false := decide_eq_false (by simp only [top]; omega)
    have f2 : lf x (lst top (p :: l0)) = false := decide_eq_false (by rw [el]; omega)
    rw [f1, f2] at t
    revert t
    cases cnt (ed (-1) x) top (p :: l0) <;> cases cnt (ed 1 x) top (p :: l0) <;> decide
  -- nothing crosses left of a west stone that is reached
  have key : ∀ x, Reach g true x → cnt (ed 1 x) top (p :: l0) = false := by
    intro x hx
    induction hx with
    | @first x a b =>
      have b' : x.2 = 0 := b
      have sx := S x (by rw [a]; decide)
      have := cnt_rows (e := ed 1 x) (r := (h : Int) + 1) (P := fun q => q.1 ≤ (h : Int) ∧ ((0 ≤ q.2) ∨ q.1 = -1 ∨ q.1 = (h : Int))) (fun u v huv pu pv => by
        rw [near6_iff] at huv
        have q1 : lf x u = false := decide_eq_false (by omega)
        have q2 : lf x v = false := decide_eq_false (by omega)
        unfold ed
        rw [q1, q2]
        rw [decide_eq_true (show u.1 ≤ (h : Int) + 1 by omega), decide_eq_true (show v.1 ≤ (h : Int) + 1 by omega)]
        rfl) (p :: l0) top cc (fun q hq => by
        rcases mm q hq with z | z
        · exact ⟨by omega, .inl z.2.2.2.1⟩
        · exact ⟨by omega, .inr z⟩)
      rw [this, el]
      have k1 : top.1 ≤ (h : Int) + 1 := by simp only [top]; omega
      have k2 : (-1 : Int) ≤ (h : Int) + 1 := by omega
      rw [decide_eq_true k1, decide_eq_true k2]
      rfl
    | @next x y hx hn hy ih =>
      have gx := hx.sign
      have gx' : g x = 119 := gx
      have gy' : g y = 119 := hy
      have ox := off x gx'
      have oy := off y gy'
      have cg : ∀ (d d' : Int) (u v : Cell), (∀ a b : Cell, a ∈ near6 b → (a ≠ x ∧ a ≠ y) → (b ≠ x ∧ b ≠ y) → ed d u a b = ed d' v a b) → cnt (ed d u) top (p :: l0) = cnt (ed d' v) top (p :: l0) := fun d d' u v hh =>
        cnt_congr (P := fun q => q ≠ x ∧ q ≠ y) hh (p :: l0) top cc (fun q hq => ⟨ox q hq, oy q hq⟩)
      have hn' := hn
      rw [near6_iff] at hn'
      rcases hn' with e | e | e | e | e | e
      · rw [← cg (-1) 1 x y (ed_up (.inl e)), tog x gx', ih]
      · rw [← cg (-1) 1 x y (ed_up (.inr e)), tog x gx', ih]
      · rw [← cg 1 1 x y (ed_side (.inl e)), ih]
      · rw [← tog y gy', ← cg 1 (-1) x y (ed_down (.inl e)), ih]
      · rw [← tog y gy', ← cg 1 (-1) x y (ed_down (.inr e)), ih]
      · rw [← cg 1 1 x y (ed_side (.inr e)), ih]
  obtain ⟨x, hx, xe⟩ := hw
  have xe' : x.2 = (w : Int) - 1 := xe
  have gx' : g x = 119 := hx.sign
  have sx := S x (by rw [gx']; decide)
  have k0 := key x hx
  have := cnt_rows (e := ed 1 x) (r := x.1) (P := fun q => q ≠ x ∧ ((q.2 < (w : Int)) ∨ q.1 = -1 ∨ q.1 = (h : Int))) (fun u v huv pu pv => by
    rw [near6_iff] at huv
    have hu' := ne_cell pu.1
    have hv' := ne_cell pv.1
    have pu2 := pu.2
    have pv2 := pv.2
    refine xor_dec ?_
    rw [ed_iff]
    rcases huv with q | q | q | q | q | q <;> omega) (p :: l0) top cc (fun q hq => by
    refine ⟨off x gx' q hq, ?_⟩
    rcases mm q hq with z | z
    · exact .inl z.2.2.2.2
    · exact .inr z)
  rw [this, el] at k0
  have k1 : ¬ top.1 ≤ x.1 := by simp only [top]; omega
  have k2 : (-1 : Int) ≤ x.1 := by omega
  rw [decide_eq_false k1, decide_eq_true k2] at k0
  cases k0
end Sw
/-! Helpers over the hand layer. -/
namespace Sw
open PySem PySem.Spec PyProof.Rows L2

/-! ### heaps -/
theorem same_new {H : Hp} {p : Addr} (h : H p = none) (o : HO) : Same H (upd H p o) := fun b u q => by rw [upd_ne (ne_of_none q h)]; exact q
theorem same_mut {H H' : Hp} {p : Addr} {o : HO} (e : Same H H') (h : H p = none) : Same H (upd H' p o) := fun a u ha => by
  rw [upd_ne (ne_of_none ha h)]
  exact e a u ha
theorem same_seqT {K : PySem.W.Frag} {H H' : Hp} {a : Addr} {xs : List V} (e : Same H H') (h : SqT K H a xs) : SqT K H' a xs := by
  rcases h with (h | ⟨o, h⟩) | h
  · exact .inl (.inl (e _ _ h))
  · exact .inl (.inr ⟨o, e _ _ h⟩)
  · exact .inr h
/-- tuples stay -/
def Tps (H H' : Hp) : Prop := ∀ a xs, H a = some (.tup xs) → H' a = some (.tup xs)
theorem Tps.refl (H : Hp) : Tps H H := fun _ _ h => h
theorem Tps.trans {H H1 H2 : Hp} (a : Tps H H1) (b : Tps H1 H2) : Tps H H2 := fun x o h => b x o (a x o h)
theorem Tps.of {H H' : Hp} (s : Same H H') : Tps H H' := fun a xs h => s a _ h
theorem Tps.lst {H : Hp} {l : Addr} {ys : List V} {o : HO} (h : H l = some (.lst ys)) : Tps H (upd H l o) := fun a xs e => by
  rw [upd_ne (ne_of e h (by intro z; cases z))]
  exact e
theorem Tps.dT {H : Hp} {l : Addr} {ys : List (List Key × V)} {o : HO} (h : H l = some (.dT ys)) : Tps H (upd H l o) := fun a xs e => by
  rw [upd_ne (ne_of e h (by intro z; cases z))]
  exact e
mutual
theorem dp_same {K : PySem.W.Frag} {H H' : Hp} (s : Same H H') : ∀ {d : PyData} {v : V}, Dp K H v d → Dp K H' v d
  | _, _, .non => .non
  | _, _, .bl b => .bl b
  | _, _, .int i => .int i
  | _, _, .str x => .str x
  | _, _, .lst h a => .lst (s.seq h) (dpa_same s a)
  | _, _, .tup h a => .tup (same_seqT s h) (dpa_same s a)
theorem dpa_same {K : PySem.W.Frag} {H H' : Hp} (s : Same H H') : ∀ {ds : List PyData} {vs : List V}, DpAll K H vs ds → DpAll K H' vs ds
  | _, _, .nil => .nil
  | _, _, .cons h t => .cons (dp_same s h) (dpa_same s t)
end
theorem dpa_app {K : PySem.W.Frag} {H : Hp} : ∀ {vs ws : List V} {ds es : List PyData}, DpAll K H vs ds → DpAll K H ws es → DpAll K H (vs ++ ws) (ds ++ es)
  | _, _, _, _, .nil, h => h
  | _, _, _, _, .cons a b, h => .cons a (dpa_app b h)
theorem dpa_len {K : PySem.W.Frag} {H : Hp} : ∀ {vs : List V} {ds : List PyData}, DpAll K H vs ds → vs.length = ds.length
  | _, _, .nil => rfl
  | _, _, .cons _ b => by rw [List.length_cons, List.length_cons, dpa_len b]
theorem hu65 {k : Nat} {A : Around} (r : Room k A) : A.units + 65 < cLine := by have := r.un; omega

/-! ### cells: tuples of two ints -/
def cellV (c : Cell) : List V := [.int c.1, .int c.2]
def cellD (c : Cell) : PyData := .tuple [.int c.1, .int c.2]
inductive Cells (H : Hp) : List V → List Cell → Prop
  | nil : Cells H [] []
  | cons {a : Addr} {c : Cell} {vs : List V} {cs : List Cell} : H a = some (.tup (cellV c)) → Cells H vs cs → Cells H (.ref a :: vs) (c :: cs)
theorem Cells.tps {H H' : Hp} (s : Tps H H') : ∀ {vs : List V} {cs : List Cell}, Cells H vs cs → Cells H' vs cs
  | _, _, .nil => .nil
  | _, _, .cons h t => .cons (s _ _ h) (Cells.tps s t)
theorem Cells.same {H H' : Hp} (s : Same H H') {vs : List V} {cs : List Cell} (h : Cells H vs cs) : Cells H' vs cs := h.tps (.of s)
theorem Cells.len {H : Hp} : ∀ {vs : List V} {cs : List Cell}, Cells H vs cs → vs.length = cs.length
  | _, _, .nil => rfl
  | _, _, .cons _ t => by rw [List.length_cons, List.length_cons, Cells.len t]
theorem Cells.get {H : Hp} : ∀ {vs : List V} {cs : List Cell} {i : Nat} {x : V}, Cells H vs cs → vs[i]? = some x → ∃ a c, x = .ref a ∧ cs[i]? = some c ∧ H a = some (.tup (cellV c))
  | _, _, _, _, .nil, e => by simp at e
  | _, _, 0, _, .cons h _, e => by
    simp at e
    subst e
    exact ⟨_, _, rfl, rfl, h⟩
  | _, _, i + 1, _, .cons _ t, e => Cells.get (i := i) t (by simpa using e)
theorem Cells.at {H : Hp} : ∀ {vs : List V} {cs : List Cell} {i : Nat} {c : Cell}, Cells H vs cs → cs[i]? = some c → ∃ a, vs[i]? = some (.ref a) ∧ H a = some (.tup (cellV c))
  | _, _, _, _, .nil, e => by simp at e
  | _, _, 0, _, .cons h _, e => by
    simp at e
    subst e
    exact ⟨_, rfl, h⟩
  | _, _, i + 1, _, .cons _ t, e => Cells.at (i := i) t (by simpa using e)
theorem Cells.app {H : Hp} : ∀ {vs ws : List V} {cs ds : List Cell}, Cells H vs cs → Cells H ws ds → Cells H (vs ++ ws) (cs ++ ds)
  | _, _, _, _, .nil, h => h
  | _, _, _, _, .cons a b, h => .cons a (Cells.app b h)
theorem Cells.one {H : Hp} {a : Addr} {c : Cell} (h : H a = some (.tup (cellV c))) : Cells H [.ref a] [c] := .cons h .nil
theorem cell_dp {K : PySem.W.Frag} {H : Hp} {a : Addr} {c : Cell} (h : H a = some (.tup (cellV c))) : Dp K H (.ref a) (cellD c) := .tup (.inl (.inl h)) (.cons (.int _) (.cons (.int _) .nil))
theorem Cells.dp {K : PySem.W.Frag} {H : Hp} : ∀ {vs : List V} {cs : List Cell}, Cells H vs cs → DpAll K H vs (cs.map cellD)
  | _, _, .nil => .nil
  | _, _, .cons h t => .cons (cell_dp h) (Cells.dp t)
theorem can_cells : ∀ cs : List Cell, PyData.canLayAll0 (cs.map cellD) = true
  | [] => rfl
  | c :: cs => by
    rw [List.map_cons, PyData.canLayAll0, can_cells cs]
    rfl
theorem dep_cells : ∀ cs : List Cell, PyData.depthAll (cs.map cellD) ≤ 1
  | [] => by decide
  | c :: cs => by
    have h := dep_cells cs
    rw [List.map_cons, PyData.depthAll]
    have e : (cellD c).depth = 1 := rfl
    rw [e]
    omega
theorem shaped_cells (cs : List Cell) : SeqAt.shaped (.list (cs.map cellD)) = true := by
  unfold SeqAt.shaped
  have h := dep_cells cs
  rw [show (PyData.list (cs.map cellD)).canLay0 = PyData.canLayAll0 (cs.map cellD) from rfl, can_cells]
  have : (PyData.list (cs.map cellD)).depth ≤ 64 := by
    rw [PyData.depth]
    omega
  rw [decide_eq_true this]
  rfl
theorem shaped_cell (c : Cell) : SeqAt.shaped (cellD c) = true := rfl
theorem eqv_cells (cs : List Cell) : PyData.eqv (.list (cs.map cellD)) (.list (cs.map cellD)) = true := SeqAt.eqv_refl _ (can_cells cs)
theorem eqv_cell (c d : Cell) : PyData.eqv (cellD c) (cellD d) = decide (c = d) := by
  show (c.1 == d.1 && (c.2 == d.2 && true)) = decide (c = d)
  rw [Bool.eq_iff_iff]
  simp [Prod.ext_iff]
theorem any_cells (c : Cell) (cs : List Cell) : ((cs.map cellD).any fun z => PyData.eqv z (cellD c)) = decide (c ∈ cs) := by
  rw [Bool.eq_iff_iff, List.any_eq_true, decide_eq_true_eq]
  constructor
  · rintro ⟨x, hx, e⟩
    obtain ⟨d, hd, rfl⟩ := List.mem_map.mp hx
    rw [eqv_cell, decide_eq_true_eq] at e
    exact e ▸ hd
  · intro h
    exact ⟨cellD c, List.mem_map.mpr ⟨c, h, rfl⟩, by rw [eqv_cell, decide_eq_true rfl]⟩
/-- items of a mapped list -/
theorem map_get {α β : Type} {f : α → β} {l : List α} {i : Nat} {y : β} (h : (l.map f)[i]? = some y) : ∃ x, l[i]? = some x ∧ f x = y := by
  rw [List.getElem?_map] at h
  cases e : l[i]? with
  | none => rw [e] at h; cases h
  | some z => rw [e] at h; exact ⟨z, rfl, Option.some.inj h⟩
theorem get_lt {α : Type} {l : List α} {i : Nat} {y : α} (h : l[i]? = some y) : i < l.length := (List.getElem?_eq_some_iff.mp h).1
theorem atI_cps {α : Type} {l : List α} {k : Int} {v : α} (h0 : 0 ≤ k) (h : l[k.toNat]? = some v) : atI l k = some v := by
  have e : k = ((k.toNat : Nat) : Int) := by omega
  rw [e]
  exact atI_nat h
theorem at_int {l : List V} {k : Int} {v : V} (h0 : 0 ≤ k) (h : l[k.toNat]? = some v) : atI l k = some v := at_of (j := k.toNat) (by omega) h
theorem near6_get (r c : Int) (i : Nat) (p : Cell) (h : (near6 (r, c))[i]? = some p) : (r, c) ∈ near6 p := near6_symm (List.mem_of_getElem? h)
theorem sz0 : ([] : List V).length ≤ sizeLine := by show 0 ≤ sizeLine; decide
theorem sz1 {a : V} : [a].length ≤ sizeLine := by show 1 ≤ sizeLine; decide
theorem sz2 {a b : V} : [a, b].length ≤ sizeLine := by show 2 ≤ sizeLine; decide
theorem sz3 {a b c : V} : [a, b, c].length ≤ sizeLine := by show 3 ≤ sizeLine; decide
theorem sz4 {a b c d : V} : [a, b, c, d].length ≤ sizeLine := by show 4 ≤ sizeLine; decide
theorem sz5 {a b c d e : V} : [a, b, c, d, e].length ≤ sizeLine := by show 5 ≤ sizeLine; decide
theorem sz6 {a b c d e f : V} : [a, b, c, d, e, f].length ≤ sizeLine := by show 6 ≤ sizeLine; decide
theorem sz_le {n : Nat} (h : n ≤ 1000000) : n ≤ sizeLine := Nat.le_trans h (by decide)
theorem sz_lt {n : Nat} (h : n < 1000000) : n < sizeLine := Nat.lt_of_lt_of_le h (by decide)
theorem iteB {b : Bool} {A B : Prop} (h1 : b = true → A) (h2 : b = false → B) : if b = true then A else B := by
  cases b with
  | true => exact iteT (h1 rfl)
  | false => exact iteF (h2 rfl)
theorem iteD {p : Prop} [Decidable p] {A B : Prop} (h1 : p → A) (h2 : ¬ p → B) : if decide p = true then A else B :=
  iteB (fun h => h1 (of_decide_eq_true h)) (fun h => h2 (of_decide_eq_false h))
theorem iteN {p : Prop} [Decidable p] {A B : Prop} (h1 : ¬ p → A) (h2 : p → B) : if (!decide p) = true then A else B := by
  by_cases h : p
  · rw [decide_eq_true h]
    exact iteF (h2 h)
  · rw [decide_eq_false h]
    exact iteT (h1 h)
theorem iteNB {b : Bool} {A B : Prop} (h1 : b = false → A) (h2 : b = true → B) : if (!b) = true then A else B := by
  cases b with
  | true => exact iteF (h2 rfl)
  | false => exact iteT (h1 rfl)
theorem tn {f : L2.St → Hp → Prop} {r : VK} {b c : L2.St → Hp → Prop} {σ : L2.St} {H : Hp} (h : f σ H) : tNext ⟨f, r, b, c⟩ σ H := h
theorem gn {i : Nat} {v : V} {f : L2.St → Hp → Prop} {r : VK} {b c : L2.St → Hp → Prop} {σ : L2.St} {H : Hp} (h : f (σ.set i (some v)) H) : gName i v σ H (Ends.nx ⟨f, r, b, c⟩) := h
/-! ### cuts: what an expression is worth, said once -/
theorem qa {i : Nat} {te : TE} {tz : TS} {D : Ends} {σ : L2.St} {H : Hp} (Pr : V → Hp → Prop) (h : ∀ Q : VK, (∀ v H1, Pr v H1 → Q v H1) → te σ H Q) (k : ∀ v H1, Pr v H1 → tz D (σ.set i (some v)) H1) : tSeq (tAsg te (gName i)) tz D σ H := h _ k
theorem qe {te : TE} {σ : L2.St} {H : Hp} {Q : VK} (Pr : V → Hp → Prop) (h : ∀ Q : VK, (∀ v H1, Pr v H1 → Q v H1) → te σ H Q) (k : ∀ v H1, Pr v H1 → Q v H1) : te σ H Q := h _ k
/-- a new list of the cells cs stands at v -/
def NewCells (H : Hp) (cs : List Cell) (v : V) (H' : Hp) : Prop := ∃ (p : Addr) (ws : List V), v = .ref p ∧ H p = none ∧ Same H H' ∧ H' p = some (.lst ws) ∧ Cells H' ws cs
theorem new_six {H : Hp} {r c : Int} {t1 t2 t3 t4 t5 t6 p : Addr} {H1 H2 H3 H4 H5 H6 : Hp} (e1 : H1 = upd H t1 (.tup (cellV (r - 1, c)))) (e2 : H2 = upd H1 t2 (.tup (cellV (r - 1, c + 1)))) (e3 : H3 = upd H2 t3 (.tup (cellV (r, c + 1)))) (e4 : H4 = upd H3 t4 (.tup (cellV (r + 1, c))))
    (e5 : H5 = upd H4 t5 (.tup (cellV (r + 1, c - 1)))) (e6 : H6 = upd H5 t6 (.tup (cellV (r, c - 1)))) (h1 : H t1 = none) (h2 : H1 t2 = none) (h3 : H2 t3 = none) (h4 : H3 t4 = none) (h5 : H4 t5 = none) (h6 : H5 t6 = none) (hp : H6 p = none) :
    NewCells H (near6 (r, c)) (.ref p) (upd H6 p (.lst [.ref t1, .ref t2, .ref t3, .ref t4, .ref t5, .ref t6])) := by
  subst e1 e2 e3 e4 e5 e6
  have s1 := same_new h1 (.tup (cellV (r - 1, c)))
  have s2 := same_new h2 (.tup (cellV (r - 1, c + 1)))
  have s3 := same_new h3 (.tup (cellV (r, c + 1)))
  have s4 := same_new h4 (.tup (cellV (r + 1, c)))
  have s5 := same_new h5 (.tup (cellV (r + 1, c - 1)))
  have s6 := same_new h6 (.tup (cellV (r, c - 1)))
  have s7 := same_new hp (.lst [.ref t1, .ref t2, .ref t3, .ref t4, .ref t5, .ref t6])
  refine ⟨p, _, rfl, (s1.trans (s2.trans (s3.trans (s4.trans (s5.trans s6))))).free hp, s1.trans (s2.trans (s3.trans (s4.trans (s5.trans (s6.trans s7))))), upd_same, ?_⟩
  exact .cons (s7 _ _ (s6 _ _ (s5 _ _ (s4 _ _ (s3 _ _ (s2 _ _ upd_same)))))) (.cons (s7 _ _ (s6 _ _ (s5 _ _ (s4 _ _ (s3 _ _ upd_same))))) (.cons (s7 _ _ (s6 _ _ (s5 _ _ (s4 _ _ upd_same)))) (.cons (s7 _ _ (s6 _ _ (s5 _ _ upd_same))) (.cons (s7 _ _ (s6 _ _ upd_same)) (.cons (s7 _ _ upd_same) .nil)))))
end Sw
/-! Further rules over the hand layer: a text times a number, an own object made within a try, isinstance of what a suite holds, .. -/
namespace Sw
open PySem PySem.Spec PyProof.Rows L2
section
variable {X : Cx}
/-- text * number, both small -/
def rMulS : R2 := fun x y Hh Q => ∃ (z : Str) (k : Int), x = .str z ∧ y = .int k ∧ z.length ≤ 1000 ∧ -1000 ≤ k ∧ k ≤ 1000 ∧ Q (.str (Txt.mul z k)) Hh
theorem op_mul_str : OpR X (binaryOp .Mult) rMulS := by
  intro pins s σ Hh x y v u Q I rx ry hh
  obtain ⟨z, k, rfl, rfl, hz, h1, h2, q⟩ := hh
  obtain ⟨t, rfl⟩ := rx
  obtain ⟨t', rfl⟩ := ry
  refine SB.mul ⟨?_, fun a _ => ?_, fun a _ => ?_⟩ (fun t2 tk => ⟨.str (Txt.mul z k), Hh, I.tok _, ⟨_, rfl⟩, q⟩)
  · rw [decide_eq_false (show ¬ k < -(2 ^ 63 : Int) by omega), decide_eq_false (show ¬ k ≥ 2 ^ 63 by omega)]
    rfl
  · have : (1000 : Int) ≤ (2 ^ 63 - 1) / k := by
      rw [Int.le_ediv_iff_mul_le (by omega)]
      omega
    omega
  · have e : z.length * k.toNat ≤ 1000 * 1000 := Nat.mul_le_mul hz (by omega)
    show decide (z.length * k.toNat > sizeLine) = false
    refine decide_eq_false ?_
    have : (1000 * 1000 : Nat) ≤ sizeLine := by decide
    omega
/-- list(text) -/
def rListStr : List V → Hp → VK → Prop := fun xs Hh Q => ∃ z : Str, xs = [.str z] ∧ z.length ≤ 1000 ∧ ∀ l, Hh l = none → Q (.ref l) (upd Hh l (.lst (z.cps.toList.map fun c => V.str ⟨#[c]⟩)))
end

/-! ### C(e, ..) of an own class within a try: what __init__ raises is wished for at the slots as they stand -/
section
variable {X : Cx} {CX : CXT} {k : Nat} {f C : Addr} {fd : FuncData} {ps : List Str} {sp : Sp} {E : L2.St → XK} {x : Str} {p pos : Pos} {e : Expr} {es : List Expr} {t : TA}
theorem run_makeS {pins : List (Addr × Obj)} {σ : L2.St} {H : Hp} {s : Shared} {Q : VK} {us : List Value} {vs : List V}
    (M : Mk X.K C f) (F : FnOk X.prog X.w X.K X.mg X.base CX k f fd ps sp) (hr : Room (k + 1) X.A)
    (hb : Binds X.K fd ps []) (hx : PassesAt CX X σ (E σ)) (I : Inv X pins σ H s) (r : Vals vs us)
    (h : ∀ o d, H o = none → H d = none → d ≠ o → sp (.ref o :: vs) (upd (upd H d (.own o)) o (.ins C d [])) (fun v H2 => v = .non ∧ Q (.ref o) H2) (E σ)) :
    wpAny (model X.prog X.w) X.A (call (.ref C) us) (EP X pins σ Q) X.xe s := by
  have hq := h (s.heap.objs.size + 1) s.heap.objs.size (I.hok.fresh (Nat.le_succ _)) (I.hok.fresh (Nat.le_refl _)) (Nat.ne_of_lt (Nat.lt_succ_self _))
  have J := Inv.made (C := C) I
  have rr : Vals (V.ref (s.heap.objs.size + 1) :: vs) (Value.ref (s.heap.objs.size + 1) :: us) := .cons rfl r
  have hl : (Value.ref (s.heap.objs.size + 1) :: us).length = ps.length := by
    have e := rr.length
    rw [F.len _ _ _ _ hq] at e
    exact e.symm
  have bb := hb _ (Value.ref (s.heap.objs.size + 1) :: us) J.kIn (by rw [List.append_nil]; exact hl)
  rw [List.append_nil] at bb
  refine wpAny_call (make_map (f := f) I.kIn M.makes M.init (beq_iff_eq.mp M.fn) (codeAny_mono (F.run _ X.stack _ _ ⟨Value.ref (s.heap.objs.size + 1) :: us, []⟩ (Value.ref (s.heap.objs.size + 1) :: us) _ _ (E σ)
    (hr.make C us []) (J.env0.make C us []) bb rr hq) fun res s' g => ?_))
  cases res with
  | error e => exact hx pins _ _ e s' J g
  | ok fl =>
    cases fl with
    | ret u =>
      obtain ⟨v, H', J3, rv, ev, q3⟩ := J.after g
      subst ev
      exact ⟨rv, ⟨V.ref (s.heap.objs.size + 1), H', J3, rfl, q3⟩⟩
    | next => exact g.elim
    | brk => exact g.elim
    | cont => exact g.elim
def tMakeS (C : Addr) (sp : Sp) (E : L2.St → XK) (t : TA) : TE := fun σ H Q => t σ H fun vs H1 => ∀ o d, H1 o = none → H1 d = none → d ≠ o →
  sp (.ref o :: vs) (upd (upd H1 d (.own o)) o (.ins C d [])) (fun v H2 => v = .non ∧ Q (.ref o) H2) (E σ)
theorem pe_makeS (M : Mk X.K C f) (F : FnOk X.prog X.w X.K X.mg X.base CX k f fd ps sp) (hr : Room (k + 1) X.A) (hg : Gl X x) (hm : X.mg x = some (.ref C)) (hb : Binds X.K fd ps []) (hx : ∀ σ, PassesAt CX X σ (E σ))
    (ha : PA X (e :: es) t) (hdb : (x == ("__debug__" : Str)) = false := by decide) (hst : starEach (e :: es) X.env = (false, eval e X.env) :: starEach es X.env := by rfl) (hpl : (backTo pos (starEach es X.env)).any (·.1) = false := by rfl) :
    PE X (.Call (.Name x p) (e :: es) [] pos) (tMakeS C sp E t) := by
  refine ⟨fun pins s σ H Q I h => wpAny_Call_Name_kw (ld_glob I hg hm ?_ hdb)⟩
  refine PySem.W.callWith_K (h₀ := X.base) I.ok.mod.kin M.kp (thn (ha.run pos pins s σ H _ I h) fun us s1 ⟨vs, H1, I1, r, q⟩ => ⟨I1.kIn, run_makeS M F hr hb (hx σ) I1 r q⟩) hst hpl
end

/-! ### does an except clause of the class C take an error of the class cls -/
theorem exm_of {K : PySem.W.Frag} {C : Addr} {cls : Value} {b : Bool} (h1 : PySem.W.subIn K (.ref C) (.type "BaseException") = some true) (h2 : PySem.W.isClsIn K C = true)
    (h3 : PySem.W.typeIn K (.ref C) = some (.type "type")) (h4 : PySem.W.subIn K cls (.ref C) = some b) : PySem.W.exmOne K cls (.ref C) = some b := by
  have e2 : (PySem.W.clsIn K C).isSome = true := h2
  unfold PySem.W.exmOne PySem.W.kitCls
  simp only [h1, e2, h3, h4]
  rfl
/-! ### isinstance of an own error, by the classes' facts -/
theorem kit_ownT {K : PySem.W.Frag} {t : Value} {C : Addr} (h2 : PySem.W.isClsIn K C = true) (h3 : PySem.W.typeIn K (.ref C) = some (.type "type")) (h4 : PySem.W.subIn K t (.ref C) = some true) : PySem.W.kitOne K t (.ref C) = some true := by
  have e2 : (PySem.W.clsIn K C).isSome = true := h2
  unfold PySem.W.kitOne PySem.W.kitCls
  simp [e2, h3, h4]
theorem kit_ownF {K : PySem.W.Frag} {a C : Addr} (h2 : PySem.W.isClsIn K C = true) (h3 : PySem.W.typeIn K (.ref C) = some (.type "type")) (h4 : PySem.W.subIn K (.ref a) (.ref C) = some false) (h5 : PySem.W.subIn K (.ref C) (.ref C) = some true) :
    PySem.W.kitOne K (.ref a) (.ref C) = some false := by
  have e2 : (PySem.W.clsIn K C).isSome = true := h2
  have ne : a ≠ C := by
    intro z
    rw [z, h5] at h4
    cases h4
  have ne' : (Value.ref a == Value.ref C) = false := by
    rw [beq_eq_false_iff_ne]
    intro z
    exact ne (Value.ref.inj z)
  unfold PySem.W.kitOne PySem.W.kitCls
  simp [e2, h3, h4, ne']
theorem kit_self {K : PySem.W.Frag} {v : Value} : PySem.W.kitOne K v v = some true := by
  unfold PySem.W.kitOne
  rw [if_pos (beq_self_eq_true v)]
theorem kit_typ {K : PySem.W.Frag} {a : Addr} {T : String} {b : Bool} (h1 : PySem.W.kitMeta T = true) (h4 : PySem.W.subIn K (.ref a) (.type T) = some b) : PySem.W.kitOne K (.ref a) (.type T) = some b := by
  unfold PySem.W.kitOne PySem.W.kitCls
  have ne' : (Value.ref a == Value.type T) = false := by
    rw [beq_eq_false_iff_ne]
    intro z
    cases z
  simp [h1, h4, ne']
/-! ### isinstance of what an except suite holds -/
section
variable {X : Cx}
def rIsX (K : PySem.W.Frag) (a : Addr) (cls : Value) (d : Option Addr) : List V → Hp → VK → Prop := fun xs H Q => ∃ D : Addr, cls = .ref D ∧ d = none ∧ ExcC K D ∧ rIsE K D a xs H Q
theorem call_isX {a : Addr} {oe : Obj} {cls : Value} {d : Option Addr} {pn : List (Addr × Obj)} (hz : Zc cls d oe) (hf : ∃ vs, oe.data = .fields vs) :
    CallR (X.suite a ((a, oe) :: pn)) (.builtin "isinstance") (rIsX X.K a cls d) := by
  intro pins s σ H xs us Q I r h
  obtain ⟨D, rfl, rfl, C, h⟩ := h
  exact call_isE C hz hf pins s σ H xs us Q I r h
theorem call_isXK {K : PySem.W.Frag} {a : Addr} {oe : Obj} {cls : Value} {d : Option Addr} {pn : List (Addr × Obj)} (hK : X.K = K) (hz : Zc cls d oe) (hf : ∃ vs, oe.data = .fields vs) :
    CallR (X.suite a ((a, oe) :: pn)) (.builtin "isinstance") (rIsX K a cls d) := by
  subst hK
  exact call_isX hz hf
theorem pe_fldK {K : PySem.W.Frag} {e : Expr} {ta : TE} {f : Str} {pos : Pos} (hK : X.K = K) (he : PE X e ta) (hb : attributeBase e f X.env (eval e X.env) = eval e X.env) : PE X (.Attribute e f pos) (tFld K ta f) := by
  subst hK
  exact pe_fld he hb
theorem ix_listK {K : PySem.W.Frag} (hK : X.K = K) : IxR X (rIxL K) := by
  subst hK
  exact ix_list
theorem ix_tupK {K : PySem.W.Frag} (hK : X.K = K) : IxR X (rIxT K) := by
  subst hK
  exact ix_tup
theorem op_neDK {K : PySem.W.Frag} (hK : X.K = K) (hu : X.A.units + 64 < cLine) : OpR X (compareOp .NotEq) (rNeD K) := by
  subst hK
  exact op_neD hu
theorem op_inDK {K : PySem.W.Frag} (hK : X.K = K) (hu : X.A.units + 65 < cLine) : OpR X (compareOp .In) (rInD K) := by
  subst hK
  exact op_inD hu
theorem op_notInDK {K : PySem.W.Frag} (hK : X.K = K) (hu : X.A.units + 65 < cLine) : OpR X (compareOp .NotIn) (rNotInD K) := by
  subst hK
  exact op_notInD hu
theorem op_eqDK {K : PySem.W.Frag} (hK : X.K = K) (hu : X.A.units + 64 < cLine) : OpR X (compareOp .Eq) (rEqD K) := by
  subst hK
  exact op_eqD hu
end
end Sw
/-! Boards as lists of lists of signs' codes, and how they stand in the heap. -/
namespace Sw
open PySem PySem.Spec PyProof.Rows L2
/-! ### texts -/
def txt (l : List Nat) : Str := ⟨l.toArray⟩
theorem txt_cps (l : List Nat) : (txt l).cps.toList = l := rfl
theorem txt_len (l : List Nat) : (txt l).length = l.length := by
  show l.toArray.size = l.length
  rw [List.size_toArray]
theorem txt_app (a b : List Nat) : txt a ++ txt b = txt (a ++ b) := ext_toList (by
  show (a.toArray ++ b.toArray).toList = (a ++ b)
  rw [Array.toList_append])
theorem txt_inj {a b : List Nat} (h : txt a = txt b) : a = b := by
  have := congrArg (fun z : Str => z.cps.toList) h
  exact this
theorem s_n : (Str.ofString "n") = txt [110] := by decide +kernel
theorem s_w : (Str.ofString "w") = txt [119] := by decide +kernel
theorem s_dot : (Str.ofString ".") = txt [46] := by decide +kernel
theorem s_nw : (Str.ofString "nw") = txt [110, 119] := by decide +kernel
theorem s_wn : (Str.ofString "wn") = txt [119, 110] := by decide +kernel
theorem s_nwd : (Str.ofString "nw.") = txt [110, 119, 46] := by decide +kernel
theorem s_nil : (Str.ofString "") = txt [] := by decide +kernel
theorem mul_txt (c : Nat) (k : Int) : Txt.mul (txt [c]) k = txt (List.replicate k.toNat c) := by
  unfold Txt.mul
  by_cases h1 : k < 1
  · rw [if_pos h1]
    have : k.toNat = 0 := by omega
    rw [this]
    rfl
  · rw [if_neg h1]
    by_cases h2 : k = 1
    · subst h2
      rfl
    · have e : (k == 1 || (txt [c]).length == 0) = false := by
        rw [txt_len]
        simp [h2]
      rw [e, if_neg Bool.false_ne_true]
      refine ext_toList ?_
      show (List.foldl (fun a b => a ++ b) #[] (List.replicate k.toNat #[c])).toList = List.replicate k.toNat c
      have gen : ∀ (m : Nat) (acc : Array Nat), (List.foldl (fun a b => a ++ b) acc (List.replicate m #[c])).toList = acc.toList ++ List.replicate m c := by
        intro m
        induction m with
        | zero => intro acc; simp
        | succ m ih =>
          intro acc
          rw [List.replicate_succ, List.foldl_cons, ih, Array.toList_append, List.replicate_succ, List.append_assoc]
          rfl
      rw [gen]
      rfl
theorem cutS_to {l : List Nat} {k : Int} (h0 : 0 ≤ k) (h : k ≤ l.length) : cutS (txt l) none (some k) = txt (l.take k.toNat) := by
  refine ext_toList ?_
  show ((l.drop 0).take ((if k < 0 then (k + ((txt l).length : Int)).toNat else min k.toNat (txt l).length) - 0)) = l.take k.toNat
  rw [if_neg (by omega), txt_len, List.drop_zero, Nat.sub_zero, Nat.min_eq_left (by omega)]
theorem cutS_from {l : List Nat} {k : Int} (h0 : 0 ≤ k) (h : k ≤ l.length) : cutS (txt l) (some k) none = txt (l.drop k.toNat) := by
  refine ext_toList ?_
  show ((l.drop (if k < 0 then (k + ((txt l).length : Int)).toNat else min k.toNat (txt l).length)).take ((txt l).length - (if k < 0 then (k + ((txt l).length : Int)).toNat else min k.toNat (txt l).length))) = l.drop k.toNat
  rw [if_neg (by omega), txt_len, Nat.min_eq_left (by omega)]
  rw [List.take_of_length_le (by rw [List.length_drop]; omega)]
theorem cutV_to {l : List V} {k : Int} (h0 : 0 ≤ k) (h : k ≤ l.length) : cutV l none (some k) = l.take k.toNat := by
  show ((l.drop 0).take ((if k < 0 then (k + (l.length : Int)).toNat else min k.toNat l.length) - 0)) = l.take k.toNat
  rw [if_neg (by omega), List.drop_zero, Nat.sub_zero, Nat.min_eq_left (by omega)]
theorem cutV_from {l : List V} {k : Int} (h0 : 0 ≤ k) (h : k ≤ l.length) : cutV l (some k) none = l.drop k.toNat := by
  show ((l.drop (if k < 0 then (k + (l.length : Int)).toNat else min k.toNat l.length)).take (l.length - (if k < 0 then (k + (l.length : Int)).toNat else min k.toNat l.length))) = l.drop k.toNat
  rw [if_neg (by omega), Nat.min_eq_left (by omega), List.take_of_length_le (by rw [List.length_drop]; omega)]

/-! ### boards -/
abbrev Bd := List (List Nat)
def rowV (l : List Nat) : V := .str (txt l)
def rowsV (B : Bd) : List V := B.map rowV
theorem rowsV_len (B : Bd) : (rowsV B).length = B.length := List.length_map _
theorem rowsV_get {B : Bd} {i : Nat} {r : List Nat} (h : B[i]? = some r) : (rowsV B)[i]? = some (rowV r) := by
  unfold rowsV
  rw [List.getElem?_map, h]
  rfl
theorem rowsV_inv {B : Bd} {i : Nat} {x : V} (h : (rowsV B)[i]? = some x) : ∃ r, B[i]? = some r ∧ x = rowV r := by
  obtain ⟨r, h1, h2⟩ := map_get h
  exact ⟨r, h1, h2.symm⟩
def okc (c : Nat) : Bool := decide (c ∈ [110, 119, 46])
/-- how wide: the first row's length -/
def wid (B : Bd) : Nat := (B.headD []).length
def rowOk (w : Nat) (r : List Nat) : Bool := decide (r.length = w) && r.all okc
def Good (B : Bd) : Bool := decide (1 ≤ B.length ∧ B.length ≤ 9) && (decide (1 ≤ wid B ∧ wid B ≤ 9) && B.all (rowOk (wid B)))
structure IsB (B : Bd) (h w : Nat) : Prop where
  hh : B.length = h
  ww : ∀ r ∈ B, r.length = w
  ok : ∀ r ∈ B, ∀ c ∈ r, c = 110 ∨ c = 119 ∨ c = 46
  h1 : 1 ≤ h
  h9 : h ≤ 9
  w1 : 1 ≤ w
  w9 : w ≤ 9
theorem okc_iff (c : Nat) : okc c = true ↔ c = 110 ∨ c = 119 ∨ c = 46 := by
  unfold okc
  rw [decide_eq_true_eq]
  simp
theorem IsB.wid {B : Bd} {h w : Nat} (I : IsB B h w) : wid B = w := by
  cases B with
  | nil =>
    have := I.hh
    have := I.h1
    simp only [List.length_nil] at *
    omega
  | cons r B => exact I.ww r List.mem_cons_self
theorem IsB.good {B : Bd} {h w : Nat} (I : IsB B h w) : Good B = true := by
  unfold Good
  rw [I.wid, I.hh, decide_eq_true ⟨I.h1, I.h9⟩, decide_eq_true ⟨I.w1, I.w9⟩, Bool.true_and, Bool.true_and, List.all_eq_true]
  intro r hr
  unfold rowOk
  rw [decide_eq_true (I.ww r hr), Bool.true_and, List.all_eq_true]
  intro c hc
  exact (okc_iff c).mpr (I.ok r hr c hc)
theorem good_is {B : Bd} (h : Good B = true) : IsB B B.length (wid B) := by
  unfold Good at h
  rw [Bool.and_eq_true, Bool.and_eq_true, decide_eq_true_eq, decide_eq_true_eq, List.all_eq_true] at h
  obtain ⟨⟨a1, a2⟩, ⟨b1, b2⟩, c⟩ := h
  have c1 : ∀ r ∈ B, r.length = wid B ∧ ∀ x ∈ r, okc x = true := by
    intro r hr
    have := c r hr
    unfold rowOk at this
    rw [Bool.and_eq_true, decide_eq_true_eq, List.all_eq_true] at this
    exact this
  exact ⟨rfl, fun r hr => (c1 r hr).1, fun r hr x hx => (okc_iff x).mp ((c1 r hr).2 x hx), a1, a2, b1, b2⟩
/-- small enough for the heap's line -/
structure Small (B : Bd) : Prop where
  len : B.length ≤ 1000
  row : ∀ r ∈ B, r.length ≤ 1000
  cod : ∀ r ∈ B, ∀ c ∈ r, c < 1000
theorem IsB.small {B : Bd} {h w : Nat} (I : IsB B h w) : Small B := ⟨by have := I.hh; have := I.h9; omega, fun r hr => by have := I.ww r hr; have := I.w9; omega, fun r hr c hc => by have := I.ok r hr c hc; omega⟩
/-- a row of the board at place i -/
theorem IsB.row {B : Bd} {h w : Nat} (I : IsB B h w) {i : Nat} (hi : i < h) : ∃ r, B[i]? = some r ∧ r.length = w := by
  have : i < B.length := by rw [I.hh]; exact hi
  exact ⟨B[i], List.getElem?_eq_getElem this, I.ww _ (List.getElem_mem this)⟩

/-! ### data -/
def rowsD (B : Bd) : PyData := .list (B.map fun r => PyData.str (txt r))
theorem rows_dpa {K : PySem.W.Frag} {H : Hp} : ∀ B : Bd, DpAll K H (rowsV B) (B.map fun r => PyData.str (txt r))
  | [] => .nil
  | r :: B => .cons (.str _) (rows_dpa B)
theorem rows_dp {K : PySem.W.Frag} {H : Hp} {a : Addr} {B : Bd} (h : H a = some (.lst (rowsV B))) : Dp K H (.ref a) (rowsD B) := .lst (SqL.of h) (rows_dpa B)
theorem can_txt {r : List Nat} (h : ∀ c ∈ r, c < 1000) : (PyData.str (txt r)).canLay0 = true := by
  show (r.toArray.all fun c => decide (c < 0x110000)) = true
  rw [List.all_toArray, List.all_eq_true]
  intro c hc
  exact decide_eq_true (by have := h c hc; omega)
theorem can_rows : ∀ B : Bd, (∀ r ∈ B, ∀ c ∈ r, c < 1000) → PyData.canLayAll0 (B.map fun r => PyData.str (txt r)) = true
  | [], _ => rfl
  | r :: B, h => by
    rw [List.map_cons, PyData.canLayAll0, can_rows B (fun x hx => h x (List.mem_cons_of_mem _ hx)), can_txt (h r List.mem_cons_self)]
    rfl
theorem dep_rows : ∀ B : Bd, PyData.depthAll (B.map fun r => PyData.str (txt r)) ≤ 1
  | [] => by decide
  | r :: B => by
    have h := dep_rows B
    rw [List.map_cons, PyData.depthAll]
    have e : (PyData.str (txt r)).depth = 0 := rfl
    rw [e]
    omega
theorem shaped_rows {B : Bd} (hB : Small B) : SeqAt.shaped (rowsD B) = true := by
  unfold SeqAt.shaped rowsD
  have h := dep_rows B
  rw [show (PyData.list (B.map fun r => PyData.str (txt r))).canLay0 = PyData.canLayAll0 (B.map fun r => PyData.str (txt r)) from rfl, can_rows B hB.cod]
  have : (PyData.list (B.map fun r => PyData.str (txt r))).depth ≤ 64 := by
    rw [PyData.depth]
    omega
  rw [decide_eq_true this]
  rfl
theorem eqv_rows {B : Bd} (hB : Small B) : PyData.eqv (rowsD B) (rowsD B) = true := SeqAt.eqv_refl _ (can_rows B hB.cod)

/-! ### a Board in the heap -/
def bfl (l : Addr) (h w : Int) : List (Str × V) := [("rows", .ref l), ("height", .int h), ("width", .int w)]
theorem lk_h {k : Str} {v : V} {r : List (Str × V)} : List.lookup k ((k, v) :: r) = some v := by
  simp only [List.lookup, beq_self_eq_true k]
theorem lk_p {k g : Str} {v : V} {r : List (Str × V)} (h : (k == g) = false) : List.lookup k ((g, v) :: r) = List.lookup k r := by
  simp only [List.lookup, h]
theorem pt_p {f g : Str} {v x : V} {r : List (Str × V)} (h : ¬ g = f) : putF f v ((g, x) :: r) = (g, x) :: putF f v r := if_neg h
theorem bfl_rows (l : Addr) (h w : Int) : (bfl l h w).lookup ("rows" : Str) = some (.ref l) := lk_h
theorem bfl_height (l : Addr) (h w : Int) : (bfl l h w).lookup ("height" : Str) = some (.int h) := (lk_p (by decide +kernel)).trans lk_h
theorem bfl_width (l : Addr) (h w : Int) : (bfl l h w).lookup ("width" : Str) = some (.int w) := (lk_p (by decide +kernel)).trans ((lk_p (by decide +kernel)).trans lk_h)
theorem bfl_has (l : Addr) (h w : Int) : (bfl l h w).lookup ("has" : Str) = none := (lk_p (by decide +kernel)).trans ((lk_p (by decide +kernel)).trans ((lk_p (by decide +kernel)).trans rfl))
theorem bfl_new (l : Addr) (h w : Int) : putF "width" (.int w) (putF "height" (.int h) (putF "rows" (.ref l) [])) = bfl l h w := by
  show putF "width" (.int w) (putF "height" (.int h) [("rows", .ref l)]) = _
  rw [pt_p (by decide +kernel)]
  show putF "width" (.int w) [("rows", .ref l), ("height", .int h)] = _
  rw [pt_p (by decide +kernel), pt_p (by decide +kernel)]
  rfl
/-- a Board of the rows B stands at p, its list at l -/
structure BoardAt (C : Addr) (H : Hp) (p l : Addr) (B : Bd) : Prop where
  ob : ∃ dx, H p = some (.ins C dx (bfl l B.length (wid B)))
  ls : H l = some (.lst (rowsV B))
theorem BoardAt.same {C : Addr} {H H' : Hp} {p l : Addr} {B : Bd} (b : BoardAt C H p l B) (s : Same H H') : BoardAt C H' p l B := by
  obtain ⟨⟨dx, h1⟩, h2⟩ := b
  exact ⟨⟨dx, s _ _ h1⟩, s _ _ h2⟩
end Sw
/-! for i, c in enumerate(text): the turns, the rule. -/
namespace Sw
open PySem PySem.Spec PyProof.Rows L2
/-- the signs of x with their places, in new pairs -/
def ItEs (x : Str) : It := ⟨fun i _ => i < x.cps.size, fun i H v H' => ∃ (T : Addr) (c : Nat), v = .ref T ∧ H T = none ∧ H' = upd H T (.tup [.int (i : Nat), .str ⟨#[c]⟩]) ∧ x.cps[i]? = some c, fun i _ => i = x.cps.size⟩
theorem turn_enumS {P : Program} {w : World} {K : PySem.W.Frag} {elts : List Expr} {kk : Nat} {tpos : Pos} (x : Str) (t : Tok) (e it : Addr) :
    Turn P w K (.Tuple elts kk tpos) (ItEs x) [e, it] e (fun i h => (∃ old, IsEnum h e it ((i : Nat) : Int) old) ∧ h.IsStrIter it (strIterType x) x t i ∧ e ≠ it) where
  mem := List.mem_cons_self
  obj := fun i h st b hb => by
    obtain ⟨⟨old, he⟩, ⟨o, ho, hc, hd⟩, _⟩ := st
    rcases List.mem_cons.mp hb with z | z
    · rw [z]
      exact ⟨_, he, fun v q => nomatch q⟩
    · rw [List.mem_singleton.mp z]
      exact ⟨o, ho, fun v q => by rw [hd] at q; cases q⟩
  keep := fun i h h' st k => by
    obtain ⟨⟨old, he⟩, ⟨o, ho, r⟩, hne⟩ := st
    exact ⟨⟨old, k e List.mem_cons_self _ he⟩, ⟨o, k it (List.mem_cons_of_mem _ List.mem_cons_self) o ho, r⟩, hne⟩
  item := by
    intro X hP hw hK hc i pins s σ H E I hf st hg
    subst hP hw hK
    obtain ⟨⟨old, he⟩, hit, hne⟩ := st
    have hel : e < s.heap.objs.size := Heap.lt_size he
    have hil : it < s.heap.objs.size := by obtain ⟨_, q, _⟩ := hit; exact Heap.lt_size q
    have hef : e ∉ [it] := fun z => hne (List.mem_singleton.mp z)
    refine wpAny_pyNext_enum_itemD (fp := [it]) (Draws.text (A := X.A.in1) (prog := X.prog) (w := X.w) (I.ok.hd hc) it x t) he hit hg hne hef fun v h' tk hv ho hit' hT hsz hk => ?_
    obtain ⟨c, u, hcx, rfl⟩ := hv
    refine ⟨_, rfl, wpAny_letOwnedTupleGo_enum (s := { s with heap := h', toks := tk + 1 }) ho fun h'' he' sb => ?_⟩
    have hT2 : h''.get? s.heap.objs.size = some { cls := .type "tuple", data := .seq #[.int i tk, .str ⟨#[c]⟩ u] } := (sb.2 _ (Nat.ne_of_gt hel)).trans hT
    have new : ObjOk X.prog X.w (upd H s.heap.objs.size (.tup [.int (i : Nat), .str ⟨#[c]⟩])) h'' s.heap.objs.size (.tup [.int (i : Nat), .str ⟨#[c]⟩]) := by
      refine ⟨by show 2 ≤ sizeLine; decide, [.int i tk, .str ⟨#[c]⟩ u], .cons ⟨_, rfl⟩ (.cons ⟨_, rfl⟩ .nil), ?_⟩
      exact ⟨_, hT2, rfl, _, rfl⟩
    have same : ∀ b ob, b ∉ [e, it] → s.heap.get? b = some ob → h''.get? b = some ob := by
      intro b ob hb q
      have n1 : b ≠ e := fun z => hb (by rw [z]; exact List.mem_cons_self)
      have n2 : b ≠ it := fun z => hb (by rw [z]; exact List.mem_cons_of_mem _ List.mem_cons_self)
      exact (sb.2 b n1).trans (hk b ob n1 n2 q)
    have I1 : Inv X pins σ (upd H s.heap.objs.size (.tup [.int (i : Nat), .str ⟨#[c]⟩])) { s with heap := h'', toks := tk + 1 } := I.turnedNew (ch := [e, it]) same hf (Nat.le_refl _) new
    refine ⟨.ref s.heap.objs.size, _, I1, rfl, ⟨_, c, rfl, I.hok.fresh (Nat.le_refl _), rfl, hcx⟩, ⟨⟨.str ⟨#[c]⟩ u, ?_⟩, ?_, hne⟩, fun b hb => ?_⟩
    · have e1 : ((i + 1 : Nat) : Int) = (i : Int) + 1 := by omega
      rw [e1]
      exact he'
    · obtain ⟨o, q, r⟩ := hit'
      exact ⟨o, (sb.2 it (Ne.symm hne)).trans q, r⟩
    · have hb' : b < s.heap.objs.size := by
        rcases List.mem_cons.mp hb with z | z
        · rw [z]; exact hel
        · rw [List.mem_singleton.mp z]; exact hil
      rw [upd_ne (Nat.ne_of_lt hb')]
      exact (hf b hb).1
  done := by
    intro X hP hw hK hc i pins s σ H E I hf st hg
    subst hP hw hK
    obtain ⟨⟨old, he⟩, hit, hne⟩ := st
    obtain ⟨f0, f1, f2, f3, f4, f5⟩ := hf it (List.mem_cons_of_mem _ List.mem_cons_self)
    have hi : i = x.cps.size := hg
    subst hi
    exact wpAny_pyNext_enum_endD (fp := [it]) (Draws.text (A := X.A.in1) (prog := X.prog) (w := X.w) (I.ok.hd hc) it x t) he hit fun h' eb => ⟨rfl, I.turned (t' := s.toks) (fun b o hb q => eb b o hb q) f0 f1 f3 f4 f5⟩
  self := fun A i s Q E st h => by
    obtain ⟨⟨_, he⟩, _⟩ := st
    exact wpAny_pyIter_enum he h
def iEnumS (ta : TA) : TI := fun σ H R => ta σ H fun vs H1 => ∃ x, vs = [.str x] ∧ R (ItEs x) H1
theorem pi_enumS {X : Cx} {e : Expr} {ta : TA} {p pos tpos : Pos} {elts : List Expr} {kk : Nat} (hg : Gl X "enumerate") (hm : X.mg "enumerate" = none) (ha : PA X [e] ta)
    (hst : starEach [e] X.env = [(false, eval e X.env)] := by rfl) : PI X (.Tuple elts kk tpos) (.Call (.Name "enumerate" p) [e] [] pos) (iEnumS ta) := by
  refine ⟨fun pins s σ H R I h => ?_⟩
  refine Call_ (ld_blt I hg hm boot_enumerate (PyProof.Rows.callWith_type1 (thn (ha.run pos pins s σ H _ I h) fun us s1 ⟨vs, H1, I1, r1, q1⟩ => ?_) hst rfl))
  obtain ⟨x, ex, q⟩ := q1
  subst ex
  cases r1 with
  | cons r rr =>
    cases rr
    obtain ⟨t, rfl⟩ := r
    refine call_enumerate_str fun h' he hit hsz hk => wpAny_pyIter_enum he ?_
    have J : Inv X pins σ H1 { s1 with heap := h' } := I1.kept (t' := s1.toks) hk
    refine ⟨s1.heap.objs.size + 1, [s1.heap.objs.size + 1, s1.heap.objs.size], _, _, H1, rfl, J, turn_enumS x t (s1.heap.objs.size + 1) s1.heap.objs.size, ⟨⟨.none, he⟩, hit, Nat.succ_ne_self _⟩, fun b hb => ?_, q⟩
    have hle : s1.heap.objs.size ≤ b := by
      rcases List.mem_cons.mp hb with z | z
      · rw [z]; exact Nat.le_succ _
      · rw [List.mem_singleton.mp z]; exact Nat.le_refl _
    exact I1.fpOk hle (I1.hok.fresh hle)
theorem walk_enumS {x : Str} : Walk (ItEs x) x.cps.size (fun _ => True) (fun i H v H' => ∃ (T : Addr) (c : Nat), v = .ref T ∧ H T = none ∧ H' = upd H T (.tup [.int (i : Nat), .str ⟨#[c]⟩]) ∧ x.cps[i]? = some c) :=
  ⟨fun _ _ hi _ => hi, fun _ _ => rfl, fun _ _ _ _ _ _ y => y⟩
end Sw
/-! What lies on a cell; a stone laid; a board turned over; the empty cells. Plain lists. -/
namespace Sw
def cel (B : Bd) (p : Cell) : Nat := if 0 ≤ p.1 ∧ 0 ≤ p.2 then (((B[p.1.toNat]?).getD [])[p.2.toNat]?).getD 0 else 0
def Ins (h w : Nat) (p : Cell) : Prop := 0 ≤ p.1 ∧ p.1 < (h : Int) ∧ 0 ≤ p.2 ∧ p.2 < (w : Int)
instance (h w : Nat) (p : Cell) : Decidable (Ins h w p) := inferInstanceAs (Decidable (_ ∧ _))
theorem cel_row {B : Bd} {p : Cell} {r : List Nat} (h0 : 0 ≤ p.1) (h1 : 0 ≤ p.2) (hr : B[p.1.toNat]? = some r) : cel B p = (r[p.2.toNat]?).getD 0 := by
  unfold cel
  rw [if_pos ⟨h0, h1⟩, hr]
  rfl
/-- on the board -/
theorem IsB.at {B : Bd} {h w : Nat} (I : IsB B h w) {p : Cell} (hp : Ins h w p) : ∃ r, B[p.1.toNat]? = some r ∧ r ∈ B ∧ r.length = w ∧ r[p.2.toNat]? = some (cel B p) ∧ (cel B p = 110 ∨ cel B p = 119 ∨ cel B p = 46) := by
  obtain ⟨a, b, c, d⟩ := hp
  obtain ⟨r, er, lr⟩ := I.row (i := p.1.toNat) (by omega)
  have hl : p.2.toNat < r.length := by omega
  have mr : r ∈ B := List.mem_of_getElem? er
  have e : cel B p = r[p.2.toNat] := by
    rw [cel_row a c er, List.getElem?_eq_getElem hl]
    rfl
  refine ⟨r, er, mr, lr, ?_, ?_⟩
  · rw [e, List.getElem?_eq_getElem hl]
  · rw [e]
    exact I.ok r mr _ (List.getElem_mem hl)
/-- off the board nothing lies -/
theorem IsB.off {B : Bd} {h w : Nat} (I : IsB B h w) {p : Cell} (hp : ¬ Ins h w p) : cel B p = 0 := by
  unfold cel
  by_cases h0 : 0 ≤ p.1 ∧ 0 ≤ p.2
  · rw [if_pos h0]
    cases e : B[p.1.toNat]? with
    | none => rfl
    | some r =>
      have lr := I.ww r (List.mem_of_getElem? e)
      have h1 : p.1.toNat < B.length := (List.getElem?_eq_some_iff.mp e).1
      rw [I.hh] at h1
      show (r[p.2.toNat]?).getD 0 = 0
      rw [List.getElem?_eq_none (by
        rw [lr]
        unfold Ins at hp
        omega)]
      rfl
  · rw [if_neg h0]
theorem IsB.sup {B : Bd} {h w : Nat} (I : IsB B h w) : Sup (cel B) h w := fun p hp => by
  by_cases e : Ins h w p
  · exact ⟨e.1, e.2.1, e.2.2.1, e.2.2.2⟩
  · exact absurd (I.off e) hp
theorem IsB.ins {B : Bd} {h w : Nat} (I : IsB B h w) {p : Cell} (hp : cel B p ≠ 0) : Ins h w p := by
  by_cases e : Ins h w p
  · exact e
  · exact absurd (I.off e) hp

/-! ### a stone laid -/
def putB (B : Bd) (p : Cell) (x : Nat) : Bd := B.set p.1.toNat (((B[p.1.toNat]?).getD []).set p.2.toNat x)
theorem set_take_drop {α : Type} (l : List α) (i : Nat) (x : α) (h : i < l.length) : l.take i ++ [x] ++ l.drop (i + 1) = l.set i x := by
  rw [List.set_eq_take_append_cons_drop, if_pos h, List.append_assoc]
  rfl
theorem putB_eq {B : Bd} {p : Cell} {r : List Nat} {x : Nat} (hr : B[p.1.toNat]? = some r) : putB B p x = B.set p.1.toNat (r.set p.2.toNat x) := by
  unfold putB
  rw [hr]
  rfl
theorem putB_is {B : Bd} {h w : Nat} (I : IsB B h w) (p : Cell) {x : Nat} (hx : x = 110 ∨ x = 119 ∨ x = 46) : IsB (putB B p x) h w := by
  refine ⟨?_, fun r hr => ?_, fun r hr c hc => ?_, I.h1, I.h9, I.w1, I.w9⟩
  · unfold putB
    rw [List.length_set, I.hh]
  · rcases List.mem_or_eq_of_mem_set hr with hr | rfl
    · exact I.ww r hr
    · rw [List.length_set]
      cases e : B[p.1.toNat]? with
      | none =>
        have hl : B.length ≤ p.1.toNat := List.getElem?_eq_none_iff.mp e
        unfold putB at hr
        rw [List.set_eq_of_length_le hl, e] at hr
        have := I.ww _ hr
        rw [List.length_set] at this
        exact this
      | some r => exact I.ww r (List.mem_of_getElem? e)
  · rcases List.mem_or_eq_of_mem_set hr with hr | rfl
    · exact I.ok r hr c hc
    · rcases List.mem_or_eq_of_mem_set hc with hc | rfl
      · cases e : B[p.1.toNat]? with
        | none => rw [e] at hc; cases hc
        | some r => rw [e] at hc; exact I.ok r (List.mem_of_getElem? e) c hc
      · exact hx
theorem cel_put {B : Bd} {h w : Nat} (I : IsB B h w) {p : Cell} (hp : Ins h w p) (x : Nat) (q : Cell) : cel (putB B p x) q = if q = p then x else cel B q := by
  obtain ⟨r, er, mr, lr, el, _⟩ := I.at hp
  obtain ⟨a, b, c, d⟩ := hp
  have hl : p.1.toNat < B.length := by rw [I.hh]; omega
  rw [putB_eq er]
  unfold cel
  by_cases e0 : 0 ≤ q.1 ∧ 0 ≤ q.2
  · rw [if_pos e0, if_pos e0, List.getElem?_set]
    by_cases e1 : p.1.toNat = q.1.toNat
    · rw [if_pos e1, if_pos hl]
      show ((r.set p.2.toNat x)[q.2.toNat]?).getD 0 = _
      rw [List.getElem?_set]
      by_cases e2 : p.2.toNat = q.2.toNat
      · rw [if_pos e2, if_pos (by omega), if_pos (Prod.ext (by omega) (by omega))]
        rfl
      · rw [if_neg e2, if_neg (fun z => e2 (by rw [z])), ← e1, er]
        rfl
    · rw [if_neg e1, if_neg (fun z => e1 (by rw [z]))]
  · rw [if_neg e0, if_neg e0, if_neg (fun z => e0 (by rw [z]; exact ⟨a, c⟩))]

/-! ### turned over -/
def oth (c : Nat) : Nat := if c = 110 then 119 else if c = 119 then 110 else c
theorem oth_ok {c : Nat} (h : c = 110 ∨ c = 119 ∨ c = 46) : oth c = 110 ∨ oth c = 119 ∨ oth c = 46 := by
  rcases h with rfl | rfl | rfl <;> decide
theorem oth_oth {c : Nat} (h : c = 110 ∨ c = 119 ∨ c = 46) : oth (oth c) = c := by
  rcases h with rfl | rfl | rfl <;> decide
def tcol (B : Bd) (c : Nat) : List Nat := B.map fun r => oth (r.getD c 0)
def tov (B : Bd) (w : Nat) : Bd := (List.range w).map (tcol B)
theorem tcol_ok {B : Bd} {h w : Nat} (I : IsB B h w) {c : Nat} (hc : c < w) : ∀ x ∈ tcol B c, x = 110 ∨ x = 119 ∨ x = 46 := by
  intro x hx
  obtain ⟨r, hr, rfl⟩ := List.mem_map.mp hx
  have hl : c < r.length := by rw [I.ww r hr]; exact hc
  rw [List.getD_eq_getElem?_getD, List.getElem?_eq_getElem hl]
  exact oth_ok (I.ok r hr _ (List.getElem_mem hl))
theorem tov_is {B : Bd} {h w : Nat} (I : IsB B h w) : IsB (tov B w) w h := by
  refine ⟨by unfold tov; rw [List.length_map, List.length_range], fun r hr => ?_, fun r hr c hc => ?_, I.w1, I.w9, I.h1, I.h9⟩
  · obtain ⟨c, _, rfl⟩ := List.mem_map.mp hr
    unfold tcol
    rw [List.length_map, I.hh]
  · obtain ⟨k, hk, rfl⟩ := List.mem_map.mp hr
    exact tcol_ok I (List.mem_range.mp hk) c hc
theorem tov_get {B : Bd} {w c : Nat} (hc : c < w) : (tov B w)[c]? = some (tcol B c) := by
  unfold tov
  rw [List.getElem?_map, List.getElem?_range hc]
  rfl
theorem cel_tov {B : Bd} {h w : Nat} (I : IsB B h w) {p : Cell} (hp : Ins h w p) : cel (tov B w) (p.2, p.1) = oth (cel B p) := by
  obtain ⟨r, er, mr, lr, el, _⟩ := I.at hp
  obtain ⟨a, b, c, d⟩ := hp
  rw [cel_row (r := tcol B p.2.toNat) (p := (p.2, p.1)) c a (tov_get (by omega))]
  show ((tcol B p.2.toNat)[p.1.toNat]?).getD 0 = _
  unfold tcol
  rw [List.getElem?_map, er]
  show oth (r.getD p.2.toNat 0) = _
  rw [List.getD_eq_getElem?_getD, el]
  rfl

/-! ### the empty cells, by rows -/
def rowE (y : Nat) (r : List Nat) : List Cell := ((List.range r.length).filter fun c => decide (r.getD c 0 = 46)).map fun c : Nat => ((y : Int), (c : Int))
def rowEt (y : Nat) (r : List Nat) (j : Nat) : List Cell := ((List.range j).filter fun c => decide (r.getD c 0 = 46)).map fun c : Nat => ((y : Int), (c : Int))
theorem rowEt_yes {y : Nat} {r : List Nat} {j : Nat} (h : r.getD j 0 = 46) : rowEt y r (j + 1) = rowEt y r j ++ [((y : Int), (j : Int))] := by
  unfold rowEt
  rw [List.range_succ, List.filter_append, List.filter_cons, if_pos (decide_eq_true h), List.map_append]
  rfl
theorem rowEt_no {y : Nat} {r : List Nat} {j : Nat} (h : ¬ r.getD j 0 = 46) : rowEt y r (j + 1) = rowEt y r j := by
  unfold rowEt
  rw [List.range_succ, List.filter_append, List.filter_cons, if_neg (fun z => h (of_decide_eq_true z))]
  show ((_ ++ []).map _) = _
  rw [List.append_nil]
theorem rowEt_len (y : Nat) (r : List Nat) (j : Nat) : (rowEt y r j).length ≤ j := by
  unfold rowEt
  rw [List.length_map]
  have := List.length_filter_le (fun c => decide (r.getD c 0 = 46)) (List.range j)
  rw [List.length_range] at this
  exact this
def emptyTo (B : Bd) (n : Nat) : List Cell := (List.range n).flatMap fun y => rowE y (B.getD y [])
def emptyL (B : Bd) : List Cell := emptyTo B B.length
theorem emptyTo_succ (B : Bd) (n : Nat) : emptyTo B (n + 1) = emptyTo B n ++ rowE n (B.getD n []) := by
  unfold emptyTo
  rw [List.range_succ, List.flatMap_append]
  show _ ++ (rowE n (B.getD n []) ++ []) = _
  rw [List.append_nil]
theorem rowE_len (y : Nat) (r : List Nat) : (rowE y r).length ≤ r.length := by
  unfold rowE
  rw [List.length_map]
  have := List.length_filter_le (fun c => decide (r.getD c 0 = 46)) (List.range r.length)
  rw [List.length_range] at this
  exact this
theorem emptyTo_len {B : Bd} {h w : Nat} (I : IsB B h w) : ∀ n, n ≤ h → (emptyTo B n).length ≤ n * w
  | 0, _ => by
    show 0 ≤ _
    omega
  | n + 1, hn => by
    have ih := emptyTo_len I n (by omega)
    rw [emptyTo_succ, List.length_append]
    obtain ⟨r, er, lr⟩ := I.row (i := n) (by omega)
    have e : B.getD n [] = r := by rw [List.getD_eq_getElem?_getD, er]; rfl
    have := rowE_len n r
    rw [e, Nat.add_mul]
    omega
theorem mem_rowE {y : Nat} {r : List Nat} {p : Cell} : p ∈ rowE y r ↔ p.1 = (y : Int) ∧ 0 ≤ p.2 ∧ r[p.2.toNat]? = some 46 := by
  unfold rowE
  rw [List.mem_map]
  constructor
  · rintro ⟨c, hc, rfl⟩
    rw [List.mem_filter, List.mem_range, decide_eq_true_eq] at hc
    refine ⟨rfl, by show (0 : Int) ≤ (c : Int); omega, ?_⟩
    show r[((c : Nat) : Int).toNat]? = some 46
    rw [Int.toNat_natCast]
    have h2 := hc.2
    rw [List.getD_eq_getElem?_getD, List.getElem?_eq_getElem hc.1] at h2
    rw [List.getElem?_eq_getElem hc.1]
    exact congrArg some h2
  · rintro ⟨a, b, c⟩
    have hl : p.2.toNat < r.length := (List.getElem?_eq_some_iff.mp c).1
    refine ⟨p.2.toNat, ?_, Prod.ext (by show (y : Int) = p.1; omega) (by show ((p.2.toNat : Nat) : Int) = p.2; omega)⟩
    rw [List.mem_filter, List.mem_range, decide_eq_true_eq]
    refine ⟨hl, ?_⟩
    rw [List.getD_eq_getElem?_getD, c]
    rfl
theorem mem_emptyL {B : Bd} {p : Cell} : p ∈ emptyL B ↔ cel B p = 46 := by
  unfold emptyL emptyTo
  rw [List.mem_flatMap]
  constructor
  · rintro ⟨y, hy, hp⟩
    obtain ⟨a, b, c⟩ := mem_rowE.mp hp
    rw [List.mem_range] at hy
    have e : B[p.1.toNat]? = some (B.getD y []) := by
      rw [a, Int.toNat_natCast, List.getD_eq_getElem?_getD, List.getElem?_eq_getElem hy]
      rfl
    rw [cel_row (by omega) b e, c]
    rfl
  · intro h
    unfold cel at h
    by_cases e0 : 0 ≤ p.1 ∧ 0 ≤ p.2
    · rw [if_pos e0] at h
      cases e : B[p.1.toNat]? with
      | none => rw [e] at h; cases h
      | some r =>
        rw [e] at h
        have hl : p.1.toNat < B.length := (List.getElem?_eq_some_iff.mp e).1
        refine ⟨p.1.toNat, List.mem_range.mpr hl, mem_rowE.mpr ⟨by omega, e0.2, ?_⟩⟩
        rw [List.getD_eq_getElem?_getD, e]
        have h' : (r[p.2.toNat]?).getD 0 = 46 := h
        show r[p.2.toNat]? = some 46
        cases e2 : r[p.2.toNat]? with
        | none => rw [e2] at h'; cases h'
        | some c => rw [e2] at h'; exact congrArg some h'
    · rw [if_neg e0] at h
      cases h
end Sw
/-! Roads: what a search keeps true, when it has found one, when there is none. Plain lists. -/
namespace Sw
/-! ### counting -/
theorem nodup_lt : ∀ (n : Nat) (l : List Nat), l.Nodup → (∀ x ∈ l, x < n) → l.length ≤ n
  | 0, l, _, h => by
    cases l with
    | nil => exact Nat.le_refl _
    | cons a l => exact absurd (h a List.mem_cons_self) (Nat.not_lt_zero _)
  | n + 1, l, hn, h => by
    by_cases e : n ∈ l
    · have h1 := List.length_erase_of_mem e
      have ih := nodup_lt n (l.erase n) (hn.erase n) (fun x hx => by
        have hx' := (hn.mem_erase_iff).mp hx
        have := h x hx'.2
        have := hx'.1
        omega)
      have : 0 < l.length := List.length_pos_of_mem e
      omega
    · have := nodup_lt n l hn (fun x hx => by
        have := h x hx
        have : x ≠ n := fun z => e (z ▸ hx)
        omega)
      omega
theorem nodup_map {α β : Type} {f : α → β} : ∀ {l : List α}, l.Nodup → (∀ x ∈ l, ∀ y ∈ l, f x = f y → x = y) → (l.map f).Nodup
  | [], _, _ => List.nodup_nil
  | a :: l, h, k => by
    rw [List.map_cons, List.nodup_cons]
    rw [List.nodup_cons] at h
    refine ⟨fun hm => ?_, nodup_map h.2 (fun x hx y hy => k x (List.mem_cons_of_mem _ hx) y (List.mem_cons_of_mem _ hy))⟩
    obtain ⟨b, hb, e⟩ := List.mem_map.mp hm
    have := k b (List.mem_cons_of_mem _ hb) a List.mem_cons_self e
    exact h.1 (this ▸ hb)
theorem nodup_rect {h w : Nat} {l : List Cell} (hn : l.Nodup) (hi : ∀ c ∈ l, Ins h w c) : l.length ≤ h * w := by
  have key : ∀ c : Cell, Ins h w c → c.1.toNat * w + c.2.toNat < h * w := by
    intro c hc
    obtain ⟨a, b, d, e⟩ := hc
    have h1 : c.1.toNat + 1 ≤ h := by omega
    have h2 : (c.1.toNat + 1) * w ≤ h * w := Nat.mul_le_mul_right w h1
    rw [Nat.add_mul, Nat.one_mul] at h2
    omega
  have := nodup_lt (h * w) (l.map fun c => c.1.toNat * w + c.2.toNat) (nodup_map hn fun x hx y hy e => by
    obtain ⟨x1, x2, x3, x4⟩ := hi x hx
    obtain ⟨y1, y2, y3, y4⟩ := hi y hy
    have w0 : 0 < w := by omega
    have e1 : (x.1.toNat * w + x.2.toNat) / w = (y.1.toNat * w + y.2.toNat) / w := by rw [e]
    rw [Nat.mul_comm x.1.toNat w, Nat.mul_comm y.1.toNat w, Nat.mul_add_div w0, Nat.mul_add_div w0, Nat.div_eq_of_lt (by omega), Nat.div_eq_of_lt (by omega)] at e1
    have e2 : x.1.toNat = y.1.toNat := by omega
    rw [e2] at e
    exact Prod.ext (by omega) (by omega)) (fun x hx => by
    obtain ⟨c, hc, rfl⟩ := List.mem_map.mp hx
    exact key c (hi c hc))
  rw [List.length_map] at this
  exact this

/-! ### a way from the first shore to a cell -/
inductive Rd (g : Cell → Nat) (s : Bool) : List Cell → Cell → Prop
  | one {c : Cell} : g c = lt s → sd s c = 0 → Rd g s [c] c
  | snoc {l : List Cell} {c d : Cell} : Rd g s l c → d ∈ near6 c → g d = lt s → d ∉ l → Rd g s (l ++ [d]) d
section
variable {g : Cell → Nat} {s : Bool} {h w : Nat}
theorem Rd.reach {l : List Cell} {c : Cell} (r : Rd g s l c) : Reach g s c := by
  induction r with
  | one a b => exact .first a b
  | snoc _ n a _ ih => exact .next ih n a
theorem Rd.last {l : List Cell} {c : Cell} (r : Rd g s l c) : ∃ l', l = l' ++ [c] := by
  cases r with
  | one _ _ => exact ⟨[], rfl⟩
  | @snoc l' _ _ _ _ _ _ => exact ⟨l', rfl⟩
theorem Rd.pos {l : List Cell} {c : Cell} (r : Rd g s l c) : 0 < l.length := by
  obtain ⟨l', rfl⟩ := r.last
  rw [List.length_append]
  exact Nat.succ_pos _
theorem Rd.get_last {l : List Cell} {c : Cell} (r : Rd g s l c) : l[l.length - 1]? = some c := by
  obtain ⟨l', rfl⟩ := r.last
  rw [List.length_append, List.getElem?_append_right (by simp)]
  simp
theorem Rd.nodup {l : List Cell} {c : Cell} (r : Rd g s l c) : l.Nodup := by
  induction r with
  | one _ _ => exact List.nodup_cons.mpr ⟨by simp, List.nodup_nil⟩
  | snoc _ _ _ n ih =>
    rw [List.nodup_append]
    refine ⟨ih, List.nodup_cons.mpr ⟨by simp, List.nodup_nil⟩, ?_⟩
    intro a ha b hb
    rw [List.mem_singleton] at hb
    rw [hb]
    intro e
    exact n (e ▸ ha)
theorem Rd.signs {l : List Cell} {c : Cell} (r : Rd g s l c) : ∀ x ∈ l, g x = lt s := by
  induction r with
  | one a _ =>
    intro x hx
    rw [List.mem_singleton.mp hx]
    exact a
  | snoc _ _ a _ ih =>
    intro x hx
    rcases List.mem_append.mp hx with hx | hx
    · exact ih x hx
    · rw [List.mem_singleton.mp hx]
      exact a
theorem Rd.head {l : List Cell} {c : Cell} (r : Rd g s l c) : ∃ a, l[0]? = some a ∧ sd s a = 0 := by
  induction r with
  | one _ b => exact ⟨_, rfl, b⟩
  | snoc r _ _ _ ih =>
    obtain ⟨a, e, k⟩ := ih
    exact ⟨a, by rw [List.getElem?_append_left r.pos]; exact e, k⟩
theorem Rd.near {l : List Cell} {c : Cell} (r : Rd g s l c) : ∀ (k : Nat) (a b : Cell), l[k]? = some a → l[k + 1]? = some b → b ∈ near6 a := by
  induction r with
  | one _ _ =>
    intro k a b _ h2
    simp at h2
  | @snoc l c d r n _ _ ih =>
    intro k a b h1 h2
    by_cases hk : k + 1 < l.length
    · rw [List.getElem?_append_left hk] at h2
      rw [List.getElem?_append_left (by omega)] at h1
      exact ih k a b h1 h2
    · have hl : k + 1 = l.length := by
        have := (List.getElem?_eq_some_iff.mp h2).1
        rw [List.length_append] at this
        simp at this
        omega
      rw [List.getElem?_append_right (by omega)] at h2
      have e2 : b = d := by
        rw [hl, Nat.sub_self] at h2
        exact (Option.some.inj h2).symm
      rw [List.getElem?_append_left (by omega)] at h1
      have := r.get_last
      rw [← hl, Nat.add_sub_cancel, h1] at this
      rw [e2, Option.some.inj this]
      exact n
/-- no cell of it is near one further on than the next -/
def Thin (l : List Cell) : Prop := ∀ a b c, [a, b, c].Sublist l → c ∉ near6 a
/-- a road, without loops -/
def Road (g : Cell → Nat) (h w : Nat) (s : Bool) (l : List Cell) : Prop := ∃ c, Rd g s l c ∧ sd s c = ext s h w - 1 ∧ Thin l
theorem Road.joined {l : List Cell} (r : Road g h w s l) : Joined g h w s := by
  obtain ⟨c, a, b, _⟩ := r
  exact ⟨c, a.reach, b⟩

/-! ### the search that keeps its ways -/
structure Bfs (g : Cell → Nat) (s : Bool) (ways : List (List Cell)) (seen : List Cell) : Prop where
  len : ways.length = seen.length
  way : ∀ (i : Nat) (l : List Cell), ways[i]? = some l → ∃ c, seen[i]? = some c ∧ Rd g s l c ∧ ∀ x ∈ l, x ∈ seen
  nd : seen.Nodup
  sg : ∀ c ∈ seen, g c = lt s
  first : ∀ c, g c = lt s → sd s c = 0 → c ∈ seen
  pos : ∀ (i : Nat) (l : List Cell) (c : Cell), ways[i]? = some l → seen[i]? = some c → ∀ x ∈ l, x ≠ c → ∃ j, j < i ∧ seen[j]? = some x
  thin : ∀ (i : Nat) (l : List Cell), ways[i]? = some l → Thin l
/-- the cells seen ahead of place n are done: not at the end, all round them seen -/
def DoneTo (g : Cell → Nat) (h w : Nat) (s : Bool) (seen : List Cell) (n : Nat) : Prop :=
  ∀ (i : Nat) (c : Cell), i < n → seen[i]? = some c → sd s c ≠ ext s h w - 1 ∧ ∀ d ∈ near6 c, g d = lt s → d ∈ seen
theorem sub_snoc {α : Type} {s l : List α} {d : α} (h : s.Sublist (l ++ [d])) : s.Sublist l ∨ ∃ s', s = s' ++ [d] ∧ s'.Sublist l := by
  obtain ⟨s1, s2, e, h1, h2⟩ := List.sublist_append_iff.mp h
  rcases List.sublist_cons_iff.mp h2 with h3 | ⟨r, e2, h3⟩
  · rw [List.sublist_nil.mp h3, List.append_nil] at e
    rw [e]
    exact .inl h1
  · rw [List.sublist_nil.mp h3] at e2
    rw [e2] at e
    exact .inr ⟨s1, e, h1⟩
theorem thin_add {l : List Cell} {c d : Cell} (hn : l.Nodup) (hl : ∃ l', l = l' ++ [c]) (ht : Thin l) (k : ∀ x ∈ l, x ≠ c → d ∉ near6 x) : Thin (l ++ [d]) := by
  intro x y z h
  rcases sub_snoc h with h1 | ⟨s', e, h1⟩
  · exact ht x y z h1
  · have h3 : ([x, y] : List Cell) ++ [z] = s' ++ [d] := e
    have h4 := List.append_inj' h3 rfl
    have h5 : z = d := (List.cons.inj h4.2).1
    rw [← h4.1] at h1
    rw [h5]
    refine k x (h1.subset List.mem_cons_self) fun ex => ?_
    obtain ⟨l', el⟩ := hl
    rw [el, ← ex] at hn h1
    have hx : x ∉ l' := fun hm => (List.nodup_append.mp hn).2.2 x hm x List.mem_cons_self rfl
    rcases sub_snoc h1 with h6 | ⟨s2, e2, h6⟩
    · exact hx (h6.subset List.mem_cons_self)
    · have h7 : ([x] : List Cell) ++ [y] = s2 ++ [x] := e2
      have h8 := List.append_inj' h7 rfl
      rw [← h8.1] at h6
      exact hx (h6.subset List.mem_cons_self)
theorem Bfs.add {ways : List (List Cell)} {seen l : List Cell} {c d : Cell} {h w : Nat} (b : Bfs g s ways seen) {i : Nat} (dn : DoneTo g h w s seen i) (hl : ways[i]? = some l) (hc : seen[i]? = some c) (hd : d ∈ near6 c) (hg : g d = lt s) (hn : d ∉ seen) :
    Bfs g s (ways ++ [l ++ [d]]) (seen ++ [d]) := by
  obtain ⟨c', ec, r, sub⟩ := b.way i l hl
  have e : c' = c := by
    rw [hc] at ec
    exact (Option.some.inj ec).symm
  subst e
  have il : i < ways.length := (List.getElem?_eq_some_iff.mp hl).1
  refine ⟨by rw [List.length_append, List.length_append, b.len]; rfl, ?_, ?_, ?_, fun x a k => List.mem_append_left _ (b.first x a k), ?_, ?_⟩
  · intro j k hk
    by_cases hj : j < ways.length
    · rw [List.getElem?_append_left hj] at hk
      obtain ⟨x, e1, e2, e3⟩ := b.way j k hk
      refine ⟨x, ?_, e2, fun y hy => List.mem_append_left _ (e3 y hy)⟩
      rw [List.getElem?_append_left (by rw [← b.len]; exact hj)]
      exact e1
    · have hj2 : j = ways.length := by
        have := (List.getElem?_eq_some_iff.mp hk).1
        rw [List.length_append] at this
        simp at this
        omega
      subst hj2
      rw [List.getElem?_append_right (Nat.le_refl _), Nat.sub_self] at hk
      have ek : k = l ++ [d] := (Option.some.inj hk).symm
      subst ek
      refine ⟨d, ?_, .snoc r hd hg (fun z => hn (sub d z)), fun y hy => ?_⟩
      · rw [b.len, List.getElem?_append_right (Nat.le_refl _), Nat.sub_self]
        rfl
      · rcases List.mem_append.mp hy with hy | hy
        · exact List.mem_append_left _ (sub y hy)
        · exact List.mem_append_right _ hy
  · rw [List.nodup_append]
    refine ⟨b.nd, List.nodup_cons.mpr ⟨by simp, List.nodup_nil⟩, ?_⟩
    intro a ha y hy
    rw [List.mem_singleton] at hy
    rw [hy]
    intro e
    exact hn (e ▸ ha)
  · intro x hx
    rcases List.mem_append.mp hx with hx | hx
    · exact b.sg x hx
    · rw [List.mem_singleton.mp hx]
      exact hg
  · intro j k e hk he x hx hne
    by_cases hj : j < ways.length
    · rw [List.getElem?_append_left hj] at hk
      rw [List.getElem?_append_left (by rw [← b.len]; exact hj)] at he
      obtain ⟨m, m1, m2⟩ := b.pos j k e hk he x hx hne
      exact ⟨m, m1, by rw [List.getElem?_append_left (by rw [← b.len]; omega)]; exact m2⟩
    · have hj2 : j = ways.length := by
        have := (List.getElem?_eq_some_iff.mp hk).1
        rw [List.length_append] at this
        simp at this
        omega
      subst hj2
      rw [List.getElem?_append_right (Nat.le_refl _), Nat.sub_self] at hk
      have ek : k = l ++ [d] := (Option.some.inj hk).symm
      subst ek
      rw [b.len, List.getElem?_append_right (Nat.le_refl _), Nat.sub_self] at he
      have ee : e = d := (Option.some.inj he).symm
      subst ee
      rcases List.mem_append.mp hx with hx | hx
      · by_cases ex : x = c'
        · exact ⟨i, il, by rw [List.getElem?_append_left (by rw [← b.len]; exact il), ex]; exact hc⟩
        · obtain ⟨m, m1, m2⟩ := b.pos i l c' hl hc x hx ex
          exact ⟨m, by omega, by rw [List.getElem?_append_left (by rw [← b.len]; omega)]; exact m2⟩
      · exact absurd (List.mem_singleton.mp hx) hne
  · intro j k hk
    by_cases hj : j < ways.length
    · rw [List.getElem?_append_left hj] at hk
      exact b.thin j k hk
    · have hj2 : j = ways.length := by
        have := (List.getElem?_eq_some_iff.mp hk).1
        rw [List.length_append] at this
        simp at this
        omega
      subst hj2
      rw [List.getElem?_append_right (Nat.le_refl _), Nat.sub_self] at hk
      have ek : k = l ++ [d] := (Option.some.inj hk).symm
      subst ek
      refine thin_add r.nodup r.last (b.thin i l hl) fun x hx hne hm => ?_
      obtain ⟨m, m1, m2⟩ := b.pos i l c' hl hc x hx hne
      exact hn ((dn m x m1 m2).2 d hm hg)
theorem DoneTo.mono {seen : List Cell} {n : Nat} {d : Cell} (k : DoneTo g h w s seen n) (hn : n ≤ seen.length) : DoneTo g h w s (seen ++ [d]) n := by
  intro i c hi hc
  rw [List.getElem?_append_left (by omega)] at hc
  obtain ⟨a, b⟩ := k i c hi hc
  exact ⟨a, fun x hx hg => List.mem_append_left _ (b x hx hg)⟩
theorem DoneTo.none {seen : List Cell} (k : DoneTo g h w s seen seen.length) (first : ∀ c, g c = lt s → sd s c = 0 → c ∈ seen) : ¬ Joined g h w s := by
  have all : ∀ c, Reach g s c → c ∈ seen := by
    intro c r
    induction r with
    | first a b => exact first _ a b
    | next _ n a ih =>
      obtain ⟨i, hi, e⟩ := List.mem_iff_getElem.mp ih
      exact (k i _ hi (by rw [List.getElem?_eq_getElem hi, e])).2 _ n a
  rintro ⟨c, r, e⟩
  obtain ⟨i, hi, e1⟩ := List.mem_iff_getElem.mp (all c r)
  exact (k i _ hi (by rw [List.getElem?_eq_getElem hi, e1])).1 e

/-! ### the flood -/
structure Fld (g : Cell → Nat) (s : Bool) (seen left : List Cell) : Prop where
  nd : seen.Nodup
  sub : ∀ c ∈ left, c ∈ seen
  re : ∀ c ∈ seen, Reach g s c
  first : ∀ c, g c = lt s → sd s c = 0 → c ∈ seen
/-- whatever is seen and not left is done -/
def FDone (g : Cell → Nat) (s : Bool) (seen left : List Cell) : Prop := ∀ c ∈ seen, c ∉ left → ∀ d ∈ near6 c, g d = lt s → d ∈ seen
theorem flood_end {seen : List Cell} (f : Fld g s seen []) (k : FDone g s seen []) : Joined g h w s ↔ ∃ c ∈ seen, sd s c = ext s h w - 1 := by
  have all : ∀ c, Reach g s c → c ∈ seen := by
    intro c r
    induction r with
    | first a b => exact f.first _ a b
    | next _ n a ih => exact k _ ih (by simp) _ n a
  constructor
  · rintro ⟨c, r, e⟩
    exact ⟨c, all c r, e⟩
  · rintro ⟨c, hc, e⟩
    exact ⟨c, f.re c hc, e⟩
end

/-! ### with a rectangle under it -/
theorem Bfs.bound {B : Bd} {h w : Nat} {s : Bool} {ways : List (List Cell)} {seen : List Cell} (I : IsB B h w) (b : Bfs (cel B) s ways seen) : seen.length ≤ h * w :=
  nodup_rect b.nd fun c hc => I.ins (by rw [b.sg c hc]; cases s <;> decide)
theorem lt_ne (s : Bool) : lt s ≠ 0 := by cases s <;> decide
theorem Rd.bound {B : Bd} {h w : Nat} {s : Bool} {l : List Cell} {c : Cell} (I : IsB B h w) (r : Rd (cel B) s l c) : l.length ≤ h * w :=
  nodup_rect r.nodup fun x hx => I.ins (by rw [r.signs x hx]; exact lt_ne s)
theorem Fld.bound {B : Bd} {h w : Nat} {s : Bool} {seen left : List Cell} (I : IsB B h w) (f : Fld (cel B) s seen left) : seen.length ≤ h * w :=
  nodup_rect f.nd fun c hc => I.ins (by rw [(f.re c hc).sign]; exact lt_ne s)
theorem area {B : Bd} {h w : Nat} (I : IsB B h w) : h * w ≤ 81 := Nat.mul_le_mul I.h9 I.w9
/-! ### how long a road can be: fewer than 64 cells -/
def grp (r c : Nat) : Nat := if r < 8 then 2 * (3 * (r / 2) + c / 3) + (if r % 2 + c % 3 ≤ 1 then 0 else 1) else 24 + c
def nearN (r c r' c' : Nat) : Bool := (r' + 1 == r && (c' == c || c' == c + 1)) || (r' == r && (c' == c + 1 || c' + 1 == c)) || (r' == r + 1 && (c' == c || c' + 1 == c))
def grpAll : Bool := (List.range 9).all fun r => (List.range 9).all fun c => decide (grp r c < 33) && (List.range 9).all fun r' => (List.range 9).all fun c' => grp r c != grp r' c' || ((r == r' && c == c') || nearN r c r' c')
theorem grpAll_yes : grpAll = true := by decide +kernel
theorem grp_near (r : Nat) (hr : r < 9) (c : Nat) (hc : c < 9) (r' : Nat) (hr' : r' < 9) (c' : Nat) (hc' : c' < 9) (e : grp r c = grp r' c') : (r = r' ∧ c = c') ∨ nearN r c r' c' = true := by
  have h1 := List.all_eq_true.mp (List.all_eq_true.mp grpAll_yes r (List.mem_range.mpr hr)) c (List.mem_range.mpr hc)
  have h2 := List.all_eq_true.mp (List.all_eq_true.mp (Bool.and_eq_true _ _ ▸ h1).2 r' (List.mem_range.mpr hr')) c' (List.mem_range.mpr hc')
  simp only [Bool.or_eq_true, Bool.and_eq_true, bne_iff_ne, beq_iff_eq, ne_eq] at h2
  rcases h2 with h2 | h2
  · exact absurd e h2
  · exact h2
theorem grp_lt (r : Nat) (hr : r < 9) (c : Nat) (hc : c < 9) : grp r c < 33 := by
  have h1 := List.all_eq_true.mp (List.all_eq_true.mp grpAll_yes r (List.mem_range.mpr hr)) c (List.mem_range.mpr hc)
  exact of_decide_eq_true (Bool.and_eq_true _ _ ▸ h1).1
theorem filter_two {α : Type} (p : α → Bool) : ∀ l : List α, l.length = (l.filter p).length + (l.filter fun x => !p x).length
  | [] => rfl
  | a :: l => by
    have ih := filter_two p l
    cases e : p a <;> simp [List.filter_cons, e] <;> omega
theorem fiber_bound {α : Type} (f : α → Nat) (m : Nat) : ∀ (N : Nat) (l : List α), (∀ x ∈ l, f x < N) → (∀ n, (l.filter fun x => decide (f x = n)).length ≤ m) → l.length ≤ N * m
  | 0, l, h, _ => by
    cases l with
    | nil => exact Nat.zero_le _
    | cons a l => exact absurd (h a List.mem_cons_self) (Nat.not_lt_zero _)
  | N + 1, l, h, k => by
    have h1 := filter_two (fun x => decide (f x = N)) l
    have h2 := k N
    have h3 := fiber_bound f m N (l.filter fun x => !decide (f x = N)) (fun x hx => by
      obtain ⟨a, b⟩ := List.mem_filter.mp hx
      have c := h x a
      have d : f x ≠ N := fun z => by simp [z] at b
      omega) (fun n => by
      rw [List.filter_filter]
      refine Nat.le_trans ?_ (k n)
      have e : (l.filter fun x => decide (f x = n) && !decide (f x = N)).Sublist (l.filter fun x => decide (f x = n)) := by
        have e2 : (l.filter fun x => decide (f x = n) && !decide (f x = N)) = (l.filter fun x => decide (f x = n)).filter fun x => !decide (f x = N) := by
          rw [List.filter_filter]
          congr 1
          funext x
          exact Bool.and_comm _ _
        rw [e2]
        exact List.filter_sublist
      exact e.length_le)
    rw [Nat.add_mul, Nat.one_mul]
    omega
theorem thin_group {l : List Cell} (hn : l.Nodup) (hi : ∀ c ∈ l, Ins 9 9 c) (ht : Thin l) (n : Nat) : (l.filter fun x => decide (grp x.1.toNat x.2.toNat = n)).length ≤ 2 := by
  rcases e : l.filter (fun x => decide (grp x.1.toNat x.2.toNat = n)) with _ | ⟨a, _ | ⟨b, _ | ⟨c, rest⟩⟩⟩
  · rw [e]
    exact Nat.zero_le _
  · rw [e]
    exact Nat.le_succ _
  · rw [e]
    exact Nat.le_refl _
  · exfalso
    have sl : ([a, b, c] : List Cell).Sublist l := by
      have h1 : (a :: b :: c :: rest).Sublist l := by
        rw [← e]
        exact List.filter_sublist
      have h2 : ([a, b, c] : List Cell).Sublist (a :: b :: c :: rest) := .cons₂ _ (.cons₂ _ (.cons₂ _ (List.nil_sublist _)))
      exact h2.trans h1
    have nf : (l.filter fun x => decide (grp x.1.toNat x.2.toNat = n)).Nodup := List.Sublist.nodup List.filter_sublist hn
    rw [e] at nf
    have ne : a ≠ c := fun z => by
      rw [List.nodup_cons] at nf
      exact nf.1 (by rw [z]; simp)
    have ma : a ∈ l.filter fun x => decide (grp x.1.toNat x.2.toNat = n) := by rw [e]; simp
    have mc : c ∈ l.filter fun x => decide (grp x.1.toNat x.2.toNat = n) := by rw [e]; simp
    obtain ⟨a1, a2⟩ := List.mem_filter.mp ma
    obtain ⟨c1, c2⟩ := List.mem_filter.mp mc
    have ga := of_decide_eq_true a2
    have gc := of_decide_eq_true c2
    obtain ⟨p1, p2, p3, p4⟩ := hi a a1
    obtain ⟨q1, q2, q3, q4⟩ := hi c c1
    rcases grp_near a.1.toNat (by omega) a.2.toNat (by omega) c.1.toNat (by omega) c.2.toNat (by omega) (ga.trans gc.symm) with z | z
    · exact ne (Prod.ext (by omega) (by omega))
    · refine ht a b c sl (near6_iff.mpr ?_)
      unfold nearN at z
      simp only [Bool.or_eq_true, Bool.and_eq_true, beq_iff_eq] at z
      omega
theorem thin_group1 {l : List Cell} (hn : l.Nodup) (hi : ∀ c ∈ l, Ins 9 9 c) (n : Nat) (h24 : 24 ≤ n) : (l.filter fun x => decide (grp x.1.toNat x.2.toNat = n)).length ≤ 1 := by
  rcases e : l.filter (fun x => decide (grp x.1.toNat x.2.toNat = n)) with _ | ⟨a, _ | ⟨b, rest⟩⟩
  · rw [e]
    exact Nat.zero_le _
  · rw [e]
    exact Nat.le_refl _
  · exfalso
    have nf : (l.filter fun x => decide (grp x.1.toNat x.2.toNat = n)).Nodup := List.Sublist.nodup List.filter_sublist hn
    rw [e] at nf
    have ne : a ≠ b := fun z => by
      rw [List.nodup_cons] at nf
      exact nf.1 (by rw [z]; simp)
    have ma : a ∈ l.filter fun x => decide (grp x.1.toNat x.2.toNat = n) := by rw [e]; simp
    have mc : b ∈ l.filter fun x => decide (grp x.1.toNat x.2.toNat = n) := by rw [e]; simp
    obtain ⟨a1, a2⟩ := List.mem_filter.mp ma
    obtain ⟨c1, c2⟩ := List.mem_filter.mp mc
    have ga := of_decide_eq_true a2
    have gc := of_decide_eq_true c2
    obtain ⟨p1, p2, p3, p4⟩ := hi a a1
    obtain ⟨q1, q2, q3, q4⟩ := hi b c1
    unfold grp at ga gc
    have f1 : ¬ a.1.toNat < 8 := fun z => by rw [if_pos z] at ga; split at ga <;> omega
    have f2 : ¬ b.1.toNat < 8 := fun z => by rw [if_pos z] at gc; split at gc <;> omega
    rw [if_neg f1] at ga
    rw [if_neg f2] at gc
    exact ne (Prod.ext (by omega) (by omega))
theorem thin_bound {l : List Cell} (hn : l.Nodup) (hi : ∀ c ∈ l, Ins 9 9 c) (ht : Thin l) : l.length < 64 := by
  have h1 := filter_two (fun x : Cell => decide (grp x.1.toNat x.2.toNat < 24)) l
  have h2 := fiber_bound (fun x : Cell => grp x.1.toNat x.2.toNat) 2 24 (l.filter fun x => decide (grp x.1.toNat x.2.toNat < 24)) (fun x hx => of_decide_eq_true (List.mem_filter.mp hx).2) (fun n => by
    refine Nat.le_trans (List.Sublist.length_le (List.Sublist.filter _ List.filter_sublist)) (thin_group hn hi ht n))
  have h3 := fiber_bound (fun x : Cell => grp x.1.toNat x.2.toNat - 24) 1 9 (l.filter fun x => !decide (grp x.1.toNat x.2.toNat < 24)) (fun x hx => by
    obtain ⟨a, b⟩ := List.mem_filter.mp hx
    obtain ⟨p1, p2, p3, p4⟩ := hi x a
    have := grp_lt x.1.toNat (by omega) x.2.toNat (by omega)
    show grp x.1.toNat x.2.toNat - 24 < 9
    omega) (fun n => by
    refine Nat.le_trans ?_ (thin_group1 hn hi (n + 24) (by omega))
    rw [List.filter_filter]
    refine Nat.le_of_eq (congrArg List.length (List.filter_congr fun x _ => ?_))
    rw [Bool.eq_iff_iff]
    simp
    omega)
  omega
theorem Road.bound {B : Bd} {h w : Nat} {s : Bool} {l : List Cell} (I : IsB B h w) (r : Road (cel B) h w s l) : l.length < 64 := by
  obtain ⟨c, a, _, t⟩ := r
  refine thin_bound a.nodup (fun x hx => ?_) t
  have ix := I.ins (p := x) (by rw [a.signs x hx]; exact lt_ne s)
  have h9 := I.h9
  have w9 := I.w9
  obtain ⟨p1, p2, p3, p4⟩ := ix
  exact ⟨p1, by omega, p3, by omega⟩
/-- is a hand joined, as a Bool -/
noncomputable def jB (B : Bd) (s : Bool) : Bool := @decide (Joined (cel B) B.length (wid B) s) (Classical.propDecidable _)
theorem jB_iff {B : Bd} {h w : Nat} (I : IsB B h w) (s : Bool) : jB B s = true ↔ Joined (cel B) h w s := by
  unfold jB
  rw [I.hh, I.wid]
  exact @decide_eq_true_iff (Joined (cel B) h w s) (Classical.propDecidable _)
theorem jB_not {B : Bd} {h w : Nat} (I : IsB B h w) (s : Bool) : jB B s = false ↔ ¬ Joined (cel B) h w s := by
  rw [← jB_iff I, Bool.not_eq_true]
end Sw
/-! How a search's queue and its dict of cells stand in the heap. -/
namespace Sw
open PySem PySem.Spec PyProof.Rows L2
def keyOf (c : Cell) : List Key := [Sum.inl c.1, Sum.inl c.2]
theorem keyOf_inj {a b : Cell} (h : keyOf a = keyOf b) : a = b := by
  have h1 := (List.cons.inj h).1
  have h2 := (List.cons.inj (List.cons.inj h).2).1
  exact Prod.ext (Sum.inl.inj h1) (Sum.inl.inj h2)
/-- a dict with the cells cs for keys, in this order -/
def Seen (H : Hp) (d : Addr) (cs : List Cell) : Prop := ∃ kvs : List (List Key × V), H d = some (.dT kvs) ∧ kvs.map (·.1) = cs.map keyOf
theorem Seen.same {H H' : Hp} {d : Addr} {cs : List Cell} (s : Seen H d cs) (k : Same H H') : Seen H' d cs := by
  obtain ⟨kvs, e, m⟩ := s
  exact ⟨kvs, k _ _ e, m⟩
theorem Seen.updL {H : Hp} {d l : Addr} {cs : List Cell} {ys : List V} {o : HO} (s : Seen H d cs) (h : H l = some (.lst ys)) : Seen (upd H l o) d cs := by
  obtain ⟨kvs, e, m⟩ := s
  exact ⟨kvs, by rw [upd_ne (ne_of e h (by intro z; cases z))]; exact e, m⟩
theorem key_in {kvs : List (List Key × V)} {cs : List Cell} (m : kvs.map (·.1) = cs.map keyOf) (c : Cell) : keyOf c ∈ (kvs.map fun p : List Key × V => p.1) ↔ c ∈ cs := by
  rw [m, List.mem_map]
  constructor
  · rintro ⟨x, hx, e⟩
    rw [← keyOf_inj e]
    exact hx
  · intro h
    exact ⟨c, h, rfl⟩
theorem val_some {kvs : List (List Key × V)} {k : List Key} : (valV kvs k).isSome = true ↔ k ∈ kvs.map fun p : List Key × V => p.1 := by
  rw [← valV_any, List.any_eq_true, List.mem_map]
  constructor
  · rintro ⟨x, hx, e⟩
    exact ⟨x, hx, of_decide_eq_true e⟩
  · rintro ⟨x, hx, e⟩
    exact ⟨x, hx, decide_eq_true e⟩
theorem Seen.get {H : Hp} {d b : Addr} {cs : List Cell} {c : Cell} (s : Seen H d cs) (hb : H b = some (.tup (cellV c))) : ∃ o, DGet H d (.ref b) o ∧ o.isSome = decide (c ∈ cs) := by
  obtain ⟨kvs, e, m⟩ := s
  refine ⟨valV kvs (keyOf c), DGet.t (k := keyOf c) e hb, ?_⟩
  rw [Bool.eq_iff_iff, decide_eq_true_eq, val_some]
  exact key_in m c
theorem Seen.put {H : Hp} {d b : Addr} {cs : List Cell} {c : Cell} {v : V} (s : Seen H d cs) (hb : H b = some (.tup (cellV c))) (hn : c ∉ cs) (hl : cs.length ≤ 1000) :
    ∃ ys, DPut H d (.ref b) v (upd H d (.dT ys)) ∧ Seen (upd H d (.dT ys)) d (cs ++ [c]) ∧ Tps H (upd H d (.dT ys)) ∧ ∃ xs, H d = some (.dT xs) := by
  obtain ⟨kvs, e, m⟩ := s
  have el : kvs.length = cs.length := by
    have := congrArg List.length m
    rw [List.length_map, List.length_map] at this
    exact this
  have hv : valV kvs (keyOf c) = none := by
    cases h : valV kvs (keyOf c) with
    | none => rfl
    | some x => exact absurd ((key_in m c).mp (val_some.mp (by rw [h]; rfl))) hn
  refine ⟨putK kvs (keyOf c) v, DPut.t (k := keyOf c) e hb (sz_lt (by omega)), ⟨_, upd_same, ?_⟩, .dT e, kvs, e⟩
  rw [putK_new _ hv, List.map_append, List.map_append, m]
  rfl
theorem Seen.nil {H : Hp} {d : Addr} : Seen (upd H d (.dT [])) d [] := ⟨[], upd_same, rfl⟩

/-! ### a list of ways: each a list of cells of its own, unknown to H0, none of them the queue itself -/
inductive Ways (H0 : Hp) (q : Addr) (H : Hp) : List V → List (List Cell) → Prop
  | nil : Ways H0 q H [] []
  | cons {a : Addr} {vs ws : List V} {cs : List Cell} {css : List (List Cell)} : H0 a = none → a ≠ q → H a = some (.lst vs) → Cells H vs cs → Ways H0 q H ws css → Ways H0 q H (.ref a :: ws) (cs :: css)
section
variable {H0 H H' : Hp} {q d : Addr}
theorem Ways.keep (k : ∀ a vs, a ≠ q → H a = some (.lst vs) → H' a = some (.lst vs)) (t : Tps H H') : ∀ {ws : List V} {css : List (List Cell)}, Ways H0 q H ws css → Ways H0 q H' ws css
  | _, _, .nil => .nil
  | _, _, .cons a b c e r => .cons a b (k _ _ b c) (e.tps t) (Ways.keep k t r)
theorem Ways.same (s : Same H H') {ws : List V} {css : List (List Cell)} (w : Ways H0 q H ws css) : Ways H0 q H' ws css := w.keep (fun a vs _ e => s _ _ e) (.of s)
theorem Ways.updq {ys : List V} {o : HO} (h : H q = some (.lst ys)) {ws : List V} {css : List (List Cell)} (w : Ways H0 q H ws css) : Ways H0 q (upd H q o) ws css :=
  w.keep (fun a vs n e => by rw [upd_ne n]; exact e) (.lst h)
theorem Ways.updd {ys : List (List Key × V)} {o : HO} (h : H d = some (.dT ys)) {ws : List V} {css : List (List Cell)} (w : Ways H0 q H ws css) : Ways H0 q (upd H d o) ws css :=
  w.keep (fun a vs _ e => by rw [upd_ne (ne_of e h (by intro z; cases z))]; exact e) (.dT h)
theorem Ways.len : ∀ {ws : List V} {css : List (List Cell)}, Ways H0 q H ws css → ws.length = css.length
  | _, _, .nil => rfl
  | _, _, .cons _ _ _ _ r => by rw [List.length_cons, List.length_cons, Ways.len r]
theorem Ways.app : ∀ {ws ws' : List V} {css css' : List (List Cell)}, Ways H0 q H ws css → Ways H0 q H ws' css' → Ways H0 q H (ws ++ ws') (css ++ css')
  | _, _, _, _, .nil, h => h
  | _, _, _, _, .cons a b c e r, h => .cons a b c e (Ways.app r h)
theorem Ways.one {a : Addr} {vs : List V} {cs : List Cell} (h0 : H0 a = none) (n : a ≠ q) (h : H a = some (.lst vs)) (c : Cells H vs cs) : Ways H0 q H [.ref a] [cs] := .cons h0 n h c .nil
theorem Ways.get : ∀ {ws : List V} {css : List (List Cell)} {i : Nat} {x : V}, Ways H0 q H ws css → ws[i]? = some x → ∃ a vs cs, x = .ref a ∧ css[i]? = some cs ∧ H0 a = none ∧ a ≠ q ∧ H a = some (.lst vs) ∧ Cells H vs cs
  | _, _, _, _, .nil, e => by simp at e
  | _, _, 0, _, .cons a b c d r, e => by
    simp at e
    subst e
    exact ⟨_, _, _, rfl, rfl, a, b, c, d⟩
  | _, _, i + 1, _, .cons _ _ _ _ r, e => Ways.get (i := i) r (by simpa using e)
end
theorem atI_last1 {l : List V} {v : V} (h : l[l.length - 1]? = some v) : atI l (-1) = some v := by
  have hp : 0 < l.length := by
    have := (List.getElem?_eq_some_iff.mp h).1
    omega
  have e : l = l.dropLast ++ [v] := by
    have hne : l ≠ [] := by
      intro z
      rw [z] at hp
      exact absurd hp (Nat.lt_irrefl _)
    have h2 := List.dropLast_concat_getLast hne
    have h3 : l.getLast hne = v := by
      rw [List.getLast_eq_getElem]
      have := (List.getElem?_eq_some_iff.mp h).2
      exact this
    rw [h3] at h2
    exact h2.symm
  rw [e]
  exact atI_last _ _
theorem sgn_eq {x y : Nat} : V.str (txt [x]) = V.str (txt [y]) ↔ x = y := by
  constructor
  · intro h
    exact (List.cons.inj (txt_inj (V.str.inj h))).1
  · intro h
    rw [h]
theorem nodup_take {α : Type} {l : List α} (hn : l.Nodup) {i : Nat} {c : α} (h : l[i]? = some c) : c ∉ l.take i := by
  intro hm
  obtain ⟨j, hj, e⟩ := List.mem_take_iff_getElem.mp hm
  have hi := (List.getElem?_eq_some_iff.mp h)
  obtain ⟨hi, ei⟩ := hi
  have := (List.getElem_inj (h₀ := by omega) (h₁ := hi) hn).mp (e.trans ei.symm)
  omega
theorem take_snoc {α : Type} {l : List α} {i : Nat} {c : α} (h : l[i]? = some c) : l.take (i + 1) = l.take i ++ [c] := by
  rw [List.take_add_one, h]
  rfl
/-- a hand's text -/
theorem hand_n {s : Bool} : V.str (txt [lt s]) = V.str (Str.ofString "n") ↔ s = false := by
  rw [s_n]
  constructor
  · intro h
    have := (List.cons.inj (txt_inj (V.str.inj h))).1
    cases s
    · rfl
    · exact absurd this (by decide)
  · intro h
    rw [h]
    rfl
theorem hand_w {s : Bool} : V.str (txt [lt s]) = V.str (Str.ofString "w") ↔ s = true := by
  rw [s_w]
  constructor
  · intro h
    have := (List.cons.inj (txt_inj (V.str.inj h))).1
    cases s
    · exact absurd this (by decide)
    · rfl
  · intro h
    rw [h]
    rfl
theorem lt_ok (s : Bool) : lt s = 110 ∨ lt s = 119 := by cases s <;> decide
/-! ### the cells of a hand's first shore -/
def shoreL (h w : Nat) (s : Bool) : List Cell := if s then (List.range h).map fun r : Nat => ((r : Int), (0 : Int)) else (List.range w).map fun c : Nat => ((0 : Int), (c : Int))
def begs (B : Bd) (h w : Nat) (s : Bool) : List Cell := (shoreL h w s).filter fun p => decide (cel B p = lt s)
theorem begs_nodup (B : Bd) (h w : Nat) (s : Bool) : (begs B h w s).Nodup := by
  refine List.Sublist.nodup List.filter_sublist ?_
  unfold shoreL
  cases s
  · exact nodup_map List.nodup_range fun x _ y _ e => by
      have := (Prod.ext_iff.mp e).2
      exact Int.ofNat.inj this
  · exact nodup_map List.nodup_range fun x _ y _ e => by
      have := (Prod.ext_iff.mp e).1
      exact Int.ofNat.inj this
theorem mem_shore {h w : Nat} {s : Bool} {p : Cell} (hp : Ins h w p) (e : sd s p = 0) : p ∈ shoreL h w s := by
  obtain ⟨a, b, c, d⟩ := hp
  unfold shoreL
  cases s
  · have e' : p.1 = 0 := e
    exact List.mem_map.mpr ⟨p.2.toNat, List.mem_range.mpr (by omega), Prod.ext (by show (0 : Int) = p.1; omega) (by show ((p.2.toNat : Nat) : Int) = p.2; omega)⟩
  · have e' : p.2 = 0 := e
    exact List.mem_map.mpr ⟨p.1.toNat, List.mem_range.mpr (by omega), Prod.ext (by show ((p.1.toNat : Nat) : Int) = p.1; omega) (by show (0 : Int) = p.2; omega)⟩
theorem shore_sd {h w : Nat} {s : Bool} {p : Cell} (hp : p ∈ shoreL h w s) : sd s p = 0 := by
  unfold shoreL at hp
  cases s
  · obtain ⟨c, _, rfl⟩ := List.mem_map.mp hp
    rfl
  · obtain ⟨c, _, rfl⟩ := List.mem_map.mp hp
    rfl
theorem shore_ins {B : Bd} {h w : Nat} (I : IsB B h w) {s : Bool} {p : Cell} (hp : p ∈ shoreL h w s) : Ins h w p := by
  have h1 := I.h1
  have w1 := I.w1
  unfold shoreL at hp
  cases s
  · obtain ⟨c, hc, rfl⟩ := List.mem_map.mp hp
    have := List.mem_range.mp hc
    refine ⟨by show (0 : Int) ≤ 0; omega, by show (0 : Int) < h; omega, by show (0 : Int) ≤ (c : Int); omega, by show ((c : Nat) : Int) < w; omega⟩
  · obtain ⟨c, hc, rfl⟩ := List.mem_map.mp hp
    have := List.mem_range.mp hc
    refine ⟨by show (0 : Int) ≤ (c : Int); omega, by show ((c : Nat) : Int) < h; omega, by show (0 : Int) ≤ 0; omega, by show (0 : Int) < w; omega⟩
theorem mem_begs {B : Bd} {h w : Nat} (I : IsB B h w) {s : Bool} {p : Cell} : p ∈ begs B h w s ↔ cel B p = lt s ∧ sd s p = 0 := by
  unfold begs
  rw [List.mem_filter, decide_eq_true_eq]
  constructor
  · rintro ⟨a, b⟩
    exact ⟨b, shore_sd a⟩
  · rintro ⟨a, b⟩
    exact ⟨mem_shore (I.ins (by rw [a]; exact lt_ne s)) b, a⟩
theorem shoreL_len {h w : Nat} {s : Bool} : (shoreL h w s).length ≤ h + w := by
  unfold shoreL
  cases s
  · show ((List.range w).map _).length ≤ _
    rw [List.length_map, List.length_range]
    omega
  · show ((List.range h).map _).length ≤ _
    rw [List.length_map, List.length_range]
    omega
/-- the search as it begins -/
theorem bfs_start {B : Bd} {h w : Nat} (I : IsB B h w) (s : Bool) : Bfs (cel B) s ((begs B h w s).map fun c => [c]) (begs B h w s) := by
  refine ⟨by rw [List.length_map], ?_, begs_nodup B h w s, fun c hc => ((mem_begs I).mp hc).1, fun c a b => (mem_begs I).mpr ⟨a, b⟩, fun i l c hl hc x hx hne => ?_, fun i l hl => ?_⟩
  · intro i l hl
    obtain ⟨c, ec, rfl⟩ := map_get hl
    have hm := List.mem_of_getElem? ec
    have hc := (mem_begs I).mp hm
    refine ⟨c, ec, .one hc.1 hc.2, fun x hx => ?_⟩
    rw [List.mem_singleton.mp hx]
    exact hm
  · obtain ⟨c', ec, rfl⟩ := map_get hl
    rw [hc] at ec
    cases ec
    exact absurd (List.mem_singleton.mp hx) hne
  · obtain ⟨c', ec, rfl⟩ := map_get hl
    intro a b c hs
    have := hs.length_le
    exact absurd this (show ¬ (3 ≤ 1) by decide)
end Sw
/-! A text as a list of signs; boards as lists of lists of signs. -/
namespace Sw
open PySem PySem.Spec PyProof.Rows L2
def sgV (c : Nat) : V := .str (txt [c])
theorem vals_signs : ∀ (l : List Nat) (its : List Value), its.length = l.length → (∀ (j : Nat) (v : Value), its[j]? = some v → ∃ c u, l[j]? = some c ∧ v = .str ⟨#[c]⟩ u) → Vals (l.map sgV) its
  | [], [], _, _ => .nil
  | [], _ :: _, h, _ => by cases h
  | _ :: _, [], h, _ => by cases h
  | c :: l, v :: its, h, k => by
    obtain ⟨c', u, e1, e2⟩ := k 0 v rfl
    cases e1
    subst e2
    exact .cons ⟨u, rfl⟩ (vals_signs l its (Nat.succ.inj h) fun j x hx => k (j + 1) x hx)
/-- list(text): its signs, a new list -/
def rListSigns : List V → Hp → VK → Prop := fun xs Hh Q => ∃ z : List Nat, xs = [.str (txt z)] ∧ z.length ≤ 1000 ∧ ∀ l, Hh l = none → Q (.ref l) (upd Hh l (.lst (z.map sgV)))
theorem call_list_signs {X : Cx} (hc : X.calm = true) : CallR X (.type "list") rListSigns := by
  intro pins s σ H xs us Q I r h
  obtain ⟨z, rfl, hz, q⟩ := h
  obtain ⟨u, rfl, rx⟩ := vals1 r
  obtain ⟨t, rfl⟩ := rx
  have hn : (txt z).cps.size ≤ sizeLine := by
    have e : (txt z).cps.size = z.length := txt_len z
    rw [e]
    exact sz_le (by omega)
  refine PySem.call_list_str (hn := hn) (I.ok.hd hc) (txt z) t fun h' tk acc' c' k e it => ?_
  have hv : Vals (z.map sgV) acc'.toList := by
    refine vals_signs z acc'.toList ?_ fun j v hj => ?_
    · have e1 : acc'.size = (txt z).cps.size := it.1
      have e2 : (txt z).cps.size = z.length := txt_len z
      rw [Array.length_toList, e1, e2]
    · rw [Array.getElem?_toList] at hj
      obtain ⟨c, u, e1, e2⟩ := it.2 j v hj
      have e3 : (txt z).cps.toList[j]? = some c := by
        rw [Array.getElem?_toList]
        exact e1
      exact ⟨c, u, e3, e2⟩
  refine ⟨.ref s.heap.objs.size, _, I.laid (t' := tk) k (Nat.le_refl _) (show ObjOk X.prog X.w _ h' _ (.lst (z.map sgV)) from ⟨?_, acc'.toList, c', hv, ?_⟩), rfl, q _ (I.hok.fresh (Nat.le_refl _))⟩
  · rw [List.length_map]
    exact sz_le (by omega)
  · exact e

theorem pe_joinK {X : Cx} {K : PySem.W.Frag} {o e : Expr} {to te : TE} {apos pos : Pos} (hK : X.K = K) (ho : PE X o to) (he : PE X e te) (hs : starEach [e] X.env = [(false, eval e X.env)] := by rfl) (hbase : attributeBase o "join" X.env (eval o X.env) = eval o X.env := by rfl) (hline : (apos.endLine == pos.line) = true := by rfl) :
    PE X (.Call (.Attribute o "join" apos) [e] [] pos) (tM1 (fun x xs H Q => ∃ a p, ∃ ys : List Str, x = .str a ∧ xs = [.ref p] ∧ (SqL K H p (ys.map V.str) ∨ SqT K H p (ys.map V.str)) ∧
      (ys.map (·.length)).sum + ys.length * a.length ≤ 16777216 ∧ Q (.str (Txt.join a ys)) H) to te) := by
  subst hK
  exact pe_join ho he hs hbase hline

/-! ### a board as a list of lists of signs: each of its own, unknown to H0 -/
structure Rows2 (H0 H : Hp) (q : Addr) (as : List Addr) (B : Bd) : Prop where
  nd : as.Nodup
  len : as.length = B.length
  row : ∀ (i : Nat) (a : Addr) (r : List Nat), as[i]? = some a → B[i]? = some r → H0 a = none ∧ a ≠ q ∧ H a = some (.lst (r.map sgV))
theorem Rows2.same {H0 H H' : Hp} {q : Addr} {as : List Addr} {B : Bd} (R : Rows2 H0 H q as B) (s : Same H H') : Rows2 H0 H' q as B :=
  ⟨R.nd, R.len, fun i a r h1 h2 => by
    obtain ⟨x, y, z⟩ := R.row i a r h1 h2
    exact ⟨x, y, s _ _ z⟩⟩
theorem Rows2.updq {H0 H : Hp} {q : Addr} {as : List Addr} {B : Bd} (R : Rows2 H0 H q as B) (o : HO) : Rows2 H0 (upd H q o) q as B :=
  ⟨R.nd, R.len, fun i a r h1 h2 => by
    obtain ⟨x, y, z⟩ := R.row i a r h1 h2
    exact ⟨x, y, by rw [upd_ne y]; exact z⟩⟩
theorem Rows2.app {H0 H : Hp} {q : Addr} {as : List Addr} {B : Bd} (R : Rows2 H0 H q as B) {a : Addr} {r : List Nat} (hn : a ∉ as) (h0 : H0 a = none) (hq : a ≠ q) (ha : H a = some (.lst (r.map sgV))) : Rows2 H0 H q (as ++ [a]) (B ++ [r]) := by
  refine ⟨?_, by rw [List.length_append, List.length_append, R.len]; rfl, fun i b t h1 h2 => ?_⟩
  · rw [List.nodup_append]
    refine ⟨R.nd, List.nodup_cons.mpr ⟨by simp, List.nodup_nil⟩, fun x hx y hy => ?_⟩
    rw [List.mem_singleton.mp hy]
    exact fun z => hn (z ▸ hx)
  · by_cases hi : i < as.length
    · rw [List.getElem?_append_left hi] at h1
      rw [List.getElem?_append_left (by rw [← R.len]; exact hi)] at h2
      exact R.row i b t h1 h2
    · have hl := (List.getElem?_eq_some_iff.mp h1).1
      rw [List.length_append] at hl
      simp at hl
      have e : i = as.length := by omega
      subst e
      rw [List.getElem?_append_right (Nat.le_refl _), Nat.sub_self] at h1
      rw [R.len, List.getElem?_append_right (Nat.le_refl _), Nat.sub_self] at h2
      cases h1
      cases h2
      exact ⟨h0, hq, ha⟩
theorem Rows2.put {H0 H : Hp} {q : Addr} {as : List Addr} {B : Bd} (R : Rows2 H0 H q as B) {a : Addr} {p : Cell} {r : List Nat} {x : Nat} (ha : as[p.1.toNat]? = some a) (hr : B[p.1.toNat]? = some r) :
    Rows2 H0 (upd H a (.lst ((r.set p.2.toNat x).map sgV))) q as (putB B p x) := by
  have ia := (List.getElem?_eq_some_iff.mp ha)
  obtain ⟨il, ie⟩ := ia
  refine ⟨R.nd, by unfold putB; rw [List.length_set]; exact R.len, fun i b t h1 h2 => ?_⟩
  rw [putB_eq hr] at h2
  obtain ⟨jl, je⟩ := List.getElem?_eq_some_iff.mp h1
  by_cases e : i = p.1.toNat
  · subst e
    have eb : b = a := by
      rw [ha] at h1
      exact (Option.some.inj h1).symm
    subst eb
    rw [List.getElem?_set_self (by rw [← R.len]; exact il)] at h2
    cases h2
    obtain ⟨x1, x2, _⟩ := R.row _ _ _ ha hr
    exact ⟨x1, x2, upd_same⟩
  · rw [List.getElem?_set_ne (fun z => e z.symm)] at h2
    obtain ⟨x1, x2, x3⟩ := R.row _ _ _ h1 h2
    have ne : b ≠ a := fun z => by
      subst z
      exact e ((List.getElem_inj (h₀ := jl) (h₁ := il) R.nd).mp (je.trans ie.symm))
    exact ⟨x1, x2, by rw [upd_ne ne]; exact x3⟩
end Sw
/-! A board turned over; a stone more; boards with the same cells. Plain lists. -/
namespace Sw
def swp (p : Cell) : Cell := (p.2, p.1)
theorem near_swp {p q : Cell} (h : q ∈ near6 p) : swp q ∈ near6 (swp p) := by
  rw [near6_iff] at h ⊢
  show (q.2 = p.2 - 1 ∧ q.1 = p.1) ∨ (q.2 = p.2 - 1 ∧ q.1 = p.1 + 1) ∨ (q.2 = p.2 ∧ q.1 = p.1 + 1) ∨ (q.2 = p.2 + 1 ∧ q.1 = p.1) ∨ (q.2 = p.2 + 1 ∧ q.1 = p.1 - 1) ∨ (q.2 = p.2 ∧ q.1 = p.1 - 1)
  omega
theorem Reach.map {g g' : Cell → Nat} {s s' : Bool} (f : Cell → Cell) (hg : ∀ p, g p = lt s → g' (f p) = lt s') (hn : ∀ p q, q ∈ near6 p → f q ∈ near6 (f p)) (h0 : ∀ p, sd s p = 0 → sd s' (f p) = 0) {p : Cell} (r : Reach g s p) : Reach g' s' (f p) := by
  induction r with
  | first a b => exact .first (hg _ a) (h0 _ b)
  | next _ n a ih => exact .next ih (hn _ _ n) (hg _ a)
theorem lt_oth (s : Bool) : oth (lt s) = lt (!s) := by cases s <;> rfl
theorem lt_inj {s s' : Bool} (h : lt s = lt s') : s = s' := by
  cases s <;> cases s' <;> first | rfl | (exact absurd h (by decide))
theorem turn_one {B : Bd} {h w : Nat} (I : IsB B h w) {s : Bool} (j : Joined (cel B) h w s) : Joined (cel (tov B w)) w h (!s) := by
  obtain ⟨c, r, e⟩ := j
  refine ⟨swp c, r.map swp (fun p hp => ?_) (fun p q => near_swp) (fun p hp => ?_), ?_⟩
  · have := cel_tov I (I.ins (p := p) (by rw [hp]; exact lt_ne s))
    show cel (tov B w) (p.2, p.1) = _
    rw [this, hp, lt_oth]
  · cases s
    · exact hp
    · exact hp
  · cases s
    · exact e
    · exact e
/-- boards of one size with the same cells are one -/
theorem bd_ext {B B' : Bd} {h w : Nat} (I : IsB B h w) (I' : IsB B' h w) (k : ∀ p, Ins h w p → cel B p = cel B' p) : B = B' := by
  refine List.ext_getElem (by rw [I.hh, I'.hh]) fun i h1 h2 => ?_
  have hi : i < h := by rw [← I.hh]; exact h1
  refine List.ext_getElem (by rw [I.ww _ (List.getElem_mem h1), I'.ww _ (List.getElem_mem h2)]) fun j g1 g2 => ?_
  have hj : j < w := by rw [← I.ww _ (List.getElem_mem h1)]; exact g1
  have := k ((i : Int), (j : Int)) ⟨by show (0 : Int) ≤ (i : Int); omega, by show (i : Int) < h; omega, by show (0 : Int) ≤ (j : Int); omega, by show (j : Int) < w; omega⟩
  rw [cel_row (r := B[i]) (p := ((i : Int), (j : Int))) (by show (0 : Int) ≤ (i : Int); omega) (by show (0 : Int) ≤ (j : Int); omega) (by show B[((i : Nat) : Int).toNat]? = _; rw [Int.toNat_natCast]; exact List.getElem?_eq_getElem h1),
    cel_row (r := B'[i]) (p := ((i : Int), (j : Int))) (by show (0 : Int) ≤ (i : Int); omega) (by show (0 : Int) ≤ (j : Int); omega) (by show B'[((i : Nat) : Int).toNat]? = _; rw [Int.toNat_natCast]; exact List.getElem?_eq_getElem h2)] at this
  have e1 : (B[i][((i : Int), (j : Int)).2.toNat]?).getD 0 = B[i][j] := by
    show (B[i][((j : Nat) : Int).toNat]?).getD 0 = _
    rw [Int.toNat_natCast, List.getElem?_eq_getElem g1]
    rfl
  have e2 : (B'[i][((i : Int), (j : Int)).2.toNat]?).getD 0 = B'[i][j] := by
    show (B'[i][((j : Nat) : Int).toNat]?).getD 0 = _
    rw [Int.toNat_natCast, List.getElem?_eq_getElem g2]
    rfl
  rw [e1, e2] at this
  exact this
theorem tov_tov {B : Bd} {h w : Nat} (I : IsB B h w) : tov (tov B w) h = B := by
  have I1 := tov_is I
  have I2 := tov_is I1
  refine bd_ext I2 I fun p hp => ?_
  have hp' : Ins w h (p.2, p.1) := ⟨hp.2.2.1, hp.2.2.2, hp.1, hp.2.1⟩
  have e1 := cel_tov I1 hp'
  have e2 := cel_tov I hp
  have e3 : cel (tov (tov B w) h) p = oth (cel (tov B w) (p.2, p.1)) := e1
  rw [e3, e2, oth_oth]
  obtain ⟨_, _, _, _, _, ok⟩ := I.at hp
  exact ok
theorem jB_turn {B : Bd} {h w : Nat} (I : IsB B h w) (s : Bool) : jB (tov B w) (!s) = jB B s := by
  rw [Bool.eq_iff_iff, jB_iff (tov_is I), jB_iff I]
  constructor
  · intro j
    have := turn_one (tov_is I) j
    rw [tov_tov I, Bool.not_not] at this
    exact this
  · exact turn_one I
/-- more stones of a hand: what was joined stays so -/
theorem joined_more {g g' : Cell → Nat} {h w : Nat} {s : Bool} (k : ∀ p, g p = lt s → g' p = lt s) (j : Joined g h w s) : Joined g' h w s := by
  obtain ⟨c, r, e⟩ := j
  exact ⟨c, r.map id (fun p hp => k p hp) (fun p q hq => hq) (fun p hp => hp), e⟩
theorem jB_put {B : Bd} {h w : Nat} (I : IsB B h w) {p : Cell} (hp : Ins h w p) {s : Bool} (j : jB B s = true) : jB (putB B p (lt s)) s = true := by
  rw [jB_iff (putB_is I p (by cases s <;> simp [lt]))]
  rw [jB_iff I] at j
  refine joined_more (fun q hq => ?_) j
  rw [cel_put I hp]
  by_cases e : q = p
  · rw [if_pos e]
  · rw [if_neg e]
    exact hq
theorem jB_put_oth {B : Bd} {h w : Nat} (I : IsB B h w) {p : Cell} (hp : Ins h w p) {s : Bool} (j : jB (putB B p (lt s)) (!s) = true) : jB B (!s) = true := by
  rw [jB_iff (putB_is I p (by cases s <;> simp [lt]))] at j
  rw [jB_iff I]
  refine joined_more (fun q hq => ?_) j
  rw [cel_put I hp] at hq
  by_cases e : q = p
  · rw [if_pos e] at hq
    have := lt_inj hq
    cases s <;> cases this
  · rw [if_neg e] at hq
    exact hq
theorem jB_both {B : Bd} {h w : Nat} (I : IsB B h w) {s : Bool} (a : jB B s = true) (b : jB B (!s) = true) : False := by
  cases s
  · exact never_both I.sup ((jB_iff I _).mp a) ((jB_iff I _).mp b)
  · exact never_both I.sup ((jB_iff I _).mp b) ((jB_iff I _).mp a)
end Sw
/-! The walk along the border of the colours: it never comes back, it ends at one of two places, and what it has gone along joins a hand. Plain lists. -/
namespace Sw
/-- whose a place is: none, some false (the north hand's), some true -/
def own (g : Cell → Nat) (h w : Nat) (p : Cell) : Option Bool :=
  if Ins h w p then (if g p = 110 then some false else some true)
  else if (p.1 = -1 ∧ 0 ≤ p.2 ∧ p.2 ≤ (w : Int)) ∨ (p.1 = (h : Int) ∧ -1 ≤ p.2 ∧ p.2 < (w : Int)) then some false
  else if 0 ≤ p.1 ∧ p.1 < (h : Int) ∧ (p.2 = -1 ∨ p.2 = (w : Int)) then some true else none
def ahd (a b : Cell) : Cell := (a.1 + a.2 - b.2, b.1 + b.2 - a.1)
abbrev Pr := Cell × Cell
def st0 : Pr := ((-1, 0), (0, -1))
def stp (g : Cell → Nat) (h w : Nat) (x : Pr) : Option Pr := match own g h w (ahd x.1 x.2) with
  | none => none
  | some false => some (ahd x.1 x.2, x.2)
  | some true => some (x.1, ahd x.1 x.2)
section
variable {g : Cell → Nat} {h w : Nat}
/-- where a place of the north hand stands -/
def NAt (h w : Nat) (p : Cell) : Prop := Ins h w p ∨ (p.1 = -1 ∧ 0 ≤ p.2 ∧ p.2 ≤ (w : Int)) ∨ (p.1 = (h : Int) ∧ -1 ≤ p.2 ∧ p.2 < (w : Int))
def WAt (h w : Nat) (p : Cell) : Prop := Ins h w p ∨ (0 ≤ p.1 ∧ p.1 < (h : Int) ∧ (p.2 = -1 ∨ p.2 = (w : Int)))
theorem own_n {p : Cell} (e : own g h w p = some false) : (Ins h w p ∧ g p = 110) ∨ (p.1 = -1 ∧ 0 ≤ p.2 ∧ p.2 ≤ (w : Int)) ∨ (p.1 = (h : Int) ∧ -1 ≤ p.2 ∧ p.2 < (w : Int)) := by
  unfold own at e
  split at e
  · rename_i hi
    split at e
    · rename_i hg
      exact .inl ⟨hi, hg⟩
    · cases e
  · split at e
    · rename_i _ hs
      exact .inr hs
    · split at e <;> cases e
theorem own_w {p : Cell} (e : own g h w p = some true) : (Ins h w p ∧ g p ≠ 110) ∨ (0 ≤ p.1 ∧ p.1 < (h : Int) ∧ (p.2 = -1 ∨ p.2 = (w : Int))) := by
  unfold own at e
  split at e
  · rename_i hi
    split at e
    · cases e
    · rename_i hg
      exact .inl ⟨hi, hg⟩
  · split at e
    · cases e
    · split at e
      · rename_i hs
        exact .inr hs
      · cases e
theorem own_none {p : Cell} (e : own g h w p = none) : ¬ Ins h w p ∧ ¬ (p.1 = -1 ∧ 0 ≤ p.2 ∧ p.2 ≤ (w : Int)) ∧ ¬ (p.1 = (h : Int) ∧ -1 ≤ p.2 ∧ p.2 < (w : Int)) ∧ ¬ (0 ≤ p.1 ∧ p.1 < (h : Int) ∧ (p.2 = -1 ∨ p.2 = (w : Int))) := by
  unfold own at e
  split at e
  · split at e <;> cases e
  · rename_i hi
    split at e
    · cases e
    · rename_i hs
      split at e
      · cases e
      · rename_i ht
        exact ⟨hi, fun z => hs (.inl z), fun z => hs (.inr z), ht⟩
theorem ahd_near {a b : Cell} (k : b ∈ near6 a) : ahd a b ∈ near6 a ∧ ahd a b ∈ near6 b := by
  have e1 : (ahd a b).1 = a.1 + a.2 - b.2 := rfl
  have e2 : (ahd a b).2 = b.1 + b.2 - a.1 := rfl
  rcases near6_iff.mp k with ⟨x, y⟩ | ⟨x, y⟩ | ⟨x, y⟩ | ⟨x, y⟩ | ⟨x, y⟩ | ⟨x, y⟩
  · exact ⟨near6_iff.mpr (.inr (.inr (.inr (.inr (.inr ⟨by omega, by omega⟩))))), near6_iff.mpr (.inr (.inr (.inr (.inr (.inl ⟨by omega, by omega⟩)))))⟩
  · exact ⟨near6_iff.mpr (.inl ⟨by omega, by omega⟩), near6_iff.mpr (.inr (.inr (.inr (.inr (.inr ⟨by omega, by omega⟩)))))⟩
  · exact ⟨near6_iff.mpr (.inr (.inl ⟨by omega, by omega⟩)), near6_iff.mpr (.inl ⟨by omega, by omega⟩)⟩
  · exact ⟨near6_iff.mpr (.inr (.inr (.inl ⟨by omega, by omega⟩))), near6_iff.mpr (.inr (.inl ⟨by omega, by omega⟩))⟩
  · exact ⟨near6_iff.mpr (.inr (.inr (.inr (.inl ⟨by omega, by omega⟩)))), near6_iff.mpr (.inr (.inr (.inl ⟨by omega, by omega⟩)))⟩
  · exact ⟨near6_iff.mpr (.inr (.inr (.inr (.inr (.inl ⟨by omega, by omega⟩))))), near6_iff.mpr (.inr (.inr (.inr (.inl ⟨by omega, by omega⟩))))⟩
/-- round a cell of the board every place has an owner -/
theorem own_round {p q : Cell} (hp : Ins h w p) (k : q ∈ near6 p) (e : own g h w q = none) : False := by
  obtain ⟨a1, a2, a3, a4⟩ := own_none e
  obtain ⟨b1, b2, b3, b4⟩ := hp
  have c := near6_iff.mp k
  have d1 : -1 ≤ q.1 ∧ q.1 ≤ h ∧ -1 ≤ q.2 ∧ q.2 ≤ w := by omega
  by_cases r1 : 0 ≤ q.1
  · by_cases r2 : q.1 < h
    · by_cases r3 : 0 ≤ q.2
      · by_cases r4 : q.2 < w
        · exact a1 ⟨r1, r2, r3, r4⟩
        · exact a4 ⟨r1, r2, .inr (by omega)⟩
      · exact a4 ⟨r1, r2, .inl (by omega)⟩
    · exact a3 ⟨by omega, by omega, by omega⟩
  · exact a2 ⟨by omega, by omega, by omega⟩
structure Vld (g : Cell → Nat) (h w : Nat) (x : Pr) : Prop where
  n : own g h w x.1 = some false
  w : own g h w x.2 = some true
  nr : x.2 ∈ near6 x.1
theorem stp_n {x y : Pr} (e : stp g h w x = some y) : (own g h w (ahd x.1 x.2) = some false ∧ y = (ahd x.1 x.2, x.2)) ∨ (own g h w (ahd x.1 x.2) = some true ∧ y = (x.1, ahd x.1 x.2)) := by
  unfold stp at e
  split at e
  · cases e
  · rename_i k
    exact .inl ⟨k, (Option.some.inj e).symm⟩
  · rename_i k
    exact .inr ⟨k, (Option.some.inj e).symm⟩
theorem stp_none {x : Pr} (e : stp g h w x = none) : own g h w (ahd x.1 x.2) = none := by
  unfold stp at e
  split at e
  · assumption
  · cases e
  · cases e
theorem vld_stp {x y : Pr} (v : Vld g h w x) (e : stp g h w x = some y) : Vld g h w y := by
  obtain ⟨a1, a2⟩ := ahd_near v.nr
  rcases stp_n e with ⟨k, rfl⟩ | ⟨k, rfl⟩
  · exact ⟨k, v.w, near6_symm a2⟩
  · exact ⟨v.n, k, a1⟩
theorem vld_st0 (h1 : 1 ≤ h) : Vld g h w st0 := by
  refine ⟨?_, ?_, by decide⟩
  · show own g h w (-1, 0) = some false
    unfold own
    rw [if_neg (fun z : Ins h w (-1, 0) => absurd z.1 (by decide)), if_pos (.inl ⟨rfl, Int.le_refl _, by show (0 : Int) ≤ w; omega⟩)]
  · show own g h w (0, -1) = some true
    unfold own
    rw [if_neg (fun z : Ins h w (0, -1) => absurd z.2.2.1 (by decide)), if_neg (by
      show ¬ (((0 : Int) = -1 ∧ (0 : Int) ≤ -1 ∧ (-1 : Int) ≤ w) ∨ ((0 : Int) = h ∧ (-1 : Int) ≤ -1 ∧ (-1 : Int) < w))
      omega), if_pos ⟨Int.le_refl _, by show (0 : Int) < h; omega, .inl rfl⟩]
theorem stp_inj {x x' y : Pr} (v : Vld g h w x) (v' : Vld g h w x') (e : stp g h w x = some y) (e' : stp g h w x' = some y) : x = x' := by
  rcases stp_n e with ⟨k, ey⟩ | ⟨k, ey⟩ <;> rcases stp_n e' with ⟨k', ey'⟩ | ⟨k', ey'⟩
  · have e1 := (Prod.ext_iff.mp (ey.symm.trans ey'))
    obtain ⟨p, q⟩ := e1
    have p1 : x.1.1 + x.1.2 - x.2.2 = x'.1.1 + x'.1.2 - x'.2.2 := congrArg Prod.fst p
    have p2 : x.2.1 + x.2.2 - x.1.1 = x'.2.1 + x'.2.2 - x'.1.1 := congrArg Prod.snd p
    have q1 : x.2.1 = x'.2.1 := congrArg Prod.fst q
    have q2 : x.2.2 = x'.2.2 := congrArg Prod.snd q
    exact Prod.ext (Prod.ext (by omega) (by omega)) (Prod.ext q1 q2)
  · exfalso
    have e1 := (Prod.ext_iff.mp (ey.symm.trans ey'))
    obtain ⟨p, q⟩ := e1
    have p1 : x.1.1 + x.1.2 - x.2.2 = x'.1.1 := congrArg Prod.fst p
    have p2 : x.2.1 + x.2.2 - x.1.1 = x'.1.2 := congrArg Prod.snd p
    have q1 : x.2.1 = x'.1.1 + x'.1.2 - x'.2.2 := congrArg Prod.fst q
    have q2 : x.2.2 = x'.2.1 + x'.2.2 - x'.1.1 := congrArg Prod.snd q
    have : x.1 = x'.2 := Prod.ext (by omega) (by omega)
    have h1 := v.n
    rw [this, v'.w] at h1
    cases h1
  · exfalso
    have e1 := (Prod.ext_iff.mp (ey.symm.trans ey'))
    obtain ⟨p, q⟩ := e1
    have p1 : x.1.1 = x'.1.1 + x'.1.2 - x'.2.2 := congrArg Prod.fst p
    have p2 : x.1.2 = x'.2.1 + x'.2.2 - x'.1.1 := congrArg Prod.snd p
    have q1 : x.1.1 + x.1.2 - x.2.2 = x'.2.1 := congrArg Prod.fst q
    have q2 : x.2.1 + x.2.2 - x.1.1 = x'.2.2 := congrArg Prod.snd q
    have : x'.1 = x.2 := Prod.ext (by omega) (by omega)
    have h1 := v'.n
    rw [this, v.w] at h1
    cases h1
  · have e1 := (Prod.ext_iff.mp (ey.symm.trans ey'))
    obtain ⟨p, q⟩ := e1
    have p1 : x.1.1 = x'.1.1 := congrArg Prod.fst p
    have p2 : x.1.2 = x'.1.2 := congrArg Prod.snd p
    have q1 : x.1.1 + x.1.2 - x.2.2 = x'.1.1 + x'.1.2 - x'.2.2 := congrArg Prod.fst q
    have q2 : x.2.1 + x.2.2 - x.1.1 = x'.2.1 + x'.2.2 - x'.1.1 := congrArg Prod.snd q
    exact Prod.ext (Prod.ext p1 p2) (Prod.ext (by omega) (by omega))
theorem stp_st0 {x : Pr} (v : Vld g h w x) : stp g h w x ≠ some st0 := by
  intro e
  have v1 := own_n v.n
  have v2 := own_w v.w
  rcases stp_n e with ⟨k, ey⟩ | ⟨k, ey⟩
  · have e1 := Prod.ext_iff.mp ey
    have p1 : (-1 : Int) = x.1.1 + x.1.2 - x.2.2 := congrArg Prod.fst e1.1
    have p2 : (0 : Int) = x.2.1 + x.2.2 - x.1.1 := congrArg Prod.snd e1.1
    have q1 : (0 : Int) = x.2.1 := congrArg Prod.fst e1.2
    have q2 : (-1 : Int) = x.2.2 := congrArg Prod.snd e1.2
    unfold Ins at v1
    omega
  · have e1 := Prod.ext_iff.mp ey
    have p1 : (-1 : Int) = x.1.1 := congrArg Prod.fst e1.1
    have p2 : (0 : Int) = x.1.2 := congrArg Prod.snd e1.1
    have q1 : (0 : Int) = x.1.1 + x.1.2 - x.2.2 := congrArg Prod.fst e1.2
    have q2 : (-1 : Int) = x.2.1 + x.2.2 - x.1.1 := congrArg Prod.snd e1.2
    unfold Ins at v2
    omega
theorem stp_end {x : Pr} (h1 : 1 ≤ h) (w1 : 1 ≤ w) (v : Vld g h w x) (e : stp g h w x = none) : x = ((-1, (w : Int)), (0, (w : Int))) ∨ x = (((h : Int), -1), ((h : Int) - 1, -1)) := by
  have v4 := stp_none e
  obtain ⟨n1, n2⟩ := ahd_near v.nr
  have v3 := near6_iff.mp v.nr
  have inn : ¬ Ins h w (ahd x.1 x.2) := (own_none v4).1
  have e1 : (ahd x.1 x.2).1 = x.1.1 + x.1.2 - x.2.2 := rfl
  have e2 : (ahd x.1 x.2).2 = x.2.1 + x.2.2 - x.1.1 := rfl
  have key : (x.1.1 = -1 ∧ x.1.2 = w ∧ x.2.1 = 0 ∧ x.2.2 = w) ∨ (x.1.1 = h ∧ x.1.2 = -1 ∧ x.2.1 = (h : Int) - 1 ∧ x.2.2 = -1) := by
    rcases own_n v.n with ⟨i1, _⟩ | v1 | v1
    · exact (own_round i1 n1 v4).elim
    · rcases own_w v.w with ⟨i2, _⟩ | ⟨u1, u2, v2 | v2⟩
      · exact (own_round i2 n2 v4).elim
      · exfalso
        exact inn ⟨by omega, by omega, by omega, by omega⟩
      · left
        omega
    · rcases own_w v.w with ⟨i2, _⟩ | ⟨u1, u2, v2 | v2⟩
      · exact (own_round i2 n2 v4).elim
      · right
        omega
      · exfalso
        exact inn ⟨by omega, by omega, by omega, by omega⟩
  rcases key with ⟨a, b, c, d⟩ | ⟨a, b, c, d⟩
  · exact .inl (Prod.ext (Prod.ext a b) (Prod.ext c d))
  · exact .inr (Prod.ext (Prod.ext a b) (Prod.ext c d))

/-! ### the walk -/
inductive Wk (g : Cell → Nat) (h w : Nat) : List Pr → Pr → Prop
  | one : Wk g h w [st0] st0
  | snoc {ps : List Pr} {x y : Pr} : Wk g h w ps x → stp g h w x = some y → Wk g h w (ps ++ [y]) y
theorem Wk.vld (h1 : 1 ≤ h) {ps : List Pr} {x : Pr} (k : Wk g h w ps x) : Vld g h w x := by
  induction k with
  | one => exact vld_st0 h1
  | snoc _ e ih => exact vld_stp ih e
theorem Wk.all (h1 : 1 ≤ h) {ps : List Pr} {x : Pr} (k : Wk g h w ps x) : ∀ z ∈ ps, Vld g h w z := by
  induction k with
  | one =>
    intro z hz
    rw [List.mem_singleton.mp hz]
    exact vld_st0 h1
  | snoc k' e ih =>
    intro z hz
    rcases List.mem_append.mp hz with hz | hz
    · exact ih z hz
    · rw [List.mem_singleton.mp hz]
      exact vld_stp (k'.vld h1) e
theorem Wk.init {ps : List Pr} {x : Pr} (k : Wk g h w ps x) : ∃ l, ps = l ++ [x] ∧ ∀ z ∈ ps, z = st0 ∨ ∃ u ∈ l, stp g h w u = some z := by
  induction k with
  | one =>
    refine ⟨[], rfl, fun z hz => .inl (List.mem_singleton.mp hz)⟩
  | @snoc ps x y k' e ih =>
    obtain ⟨l, rfl, hl⟩ := ih
    refine ⟨l ++ [x], rfl, fun z hz => ?_⟩
    rcases List.mem_append.mp hz with hz | hz
    · rcases hl z hz with z0 | ⟨u, hu, eu⟩
      · exact .inl z0
      · exact .inr ⟨u, List.mem_append_left _ hu, eu⟩
    · rw [List.mem_singleton.mp hz]
      exact .inr ⟨x, List.mem_append_right _ List.mem_cons_self, e⟩
theorem Wk.nodup (h1 : 1 ≤ h) {ps : List Pr} {x : Pr} (k : Wk g h w ps x) : ps.Nodup := by
  induction k with
  | one => exact List.nodup_cons.mpr ⟨by simp, List.nodup_nil⟩
  | @snoc ps x y k' e ih =>
    have vx := k'.vld h1
    have va := k'.all h1
    obtain ⟨l, rfl, hl⟩ := k'.init
    rw [List.nodup_append]
    refine ⟨ih, List.nodup_cons.mpr ⟨by simp, List.nodup_nil⟩, fun a ha b hb => ?_⟩
    rw [List.mem_singleton.mp hb]
    rintro rfl
    rcases hl a ha with z0 | ⟨u, hu, eu⟩
    · rw [z0] at e
      exact stp_st0 vx e
    · have ex := stp_inj (va u (List.mem_append_left _ hu)) vx eu e
      rw [ex] at hu
      exact (List.nodup_append.mp ih).2.2 x hu x List.mem_cons_self rfl
/-- a pair's number -/
def dirN (d : Cell) : Nat := if 3 * d.1 + d.2 + 4 ≤ 3 then (3 * d.1 + d.2 + 3).toNat else (3 * d.1 + d.2 + 2).toNat
def codeP (w : Nat) (x : Pr) : Nat := ((x.1.1 + 1).toNat * (w + 2) + (x.1.2 + 1).toNat) * 6 + dirN (x.2.1 - x.1.1, x.2.2 - x.1.2)
theorem dir_is {a b : Cell} (n : b ∈ near6 a) : (1 ≤ 3 * (b.1 - a.1) + (b.2 - a.2) + 4 ∧ 3 * (b.1 - a.1) + (b.2 - a.2) + 4 ≤ 7 ∧ 3 * (b.1 - a.1) + (b.2 - a.2) + 4 ≠ 4) ∧ -1 ≤ b.2 - a.2 ∧ b.2 - a.2 ≤ 1 := by
  have n1 := near6_iff.mp n
  omega
theorem dirN_lt {a b : Cell} (n : b ∈ near6 a) : dirN (b.1 - a.1, b.2 - a.2) < 6 := by
  have := dir_is n
  unfold dirN
  dsimp only
  split <;> omega
theorem dirN_eq {a b c d : Cell} (n : b ∈ near6 a) (n' : d ∈ near6 c) (e : dirN (b.1 - a.1, b.2 - a.2) = dirN (d.1 - c.1, d.2 - c.2)) : b.1 - a.1 = d.1 - c.1 ∧ b.2 - a.2 = d.2 - c.2 := by
  have h1 := dir_is n
  have h2 := dir_is n'
  unfold dirN at e
  dsimp only at e
  split at e <;> split at e <;> omega
theorem nat_code {m a b a' b' : Nat} (h : a * m + b = a' * m + b') (hb : b < m) (hb' : b' < m) : a = a' ∧ b = b' := by
  have e1 : (a * m + b) / m = (a' * m + b') / m := by rw [h]
  have m0 : 0 < m := by omega
  rw [Nat.mul_comm a m, Nat.mul_comm a' m, Nat.mul_add_div m0, Nat.mul_add_div m0, Nat.div_eq_of_lt hb, Nat.div_eq_of_lt hb'] at e1
  have e2 : a = a' := by omega
  subst e2
  exact ⟨rfl, by omega⟩
theorem vld_in {x : Pr} (v : Vld g h w x) : -1 ≤ x.1.1 ∧ x.1.1 ≤ h ∧ -1 ≤ x.1.2 ∧ x.1.2 ≤ w := by
  have v1 := own_n v.n
  unfold Ins at v1
  omega
theorem codeP_inj {x y : Pr} (v : Vld g h w x) (v' : Vld g h w y) (e : codeP w x = codeP w y) : x = y := by
  unfold codeP at e
  obtain ⟨e1, e2⟩ := nat_code e (dirN_lt v.nr) (dirN_lt v'.nr)
  obtain ⟨a1, a2, a3, a4⟩ := vld_in v
  obtain ⟨b1, b2, b3, b4⟩ := vld_in v'
  obtain ⟨e3, e4⟩ := nat_code e1 (by omega) (by omega)
  have f1 : x.1.1 = y.1.1 := by omega
  have f2 : x.1.2 = y.1.2 := by omega
  obtain ⟨e5, e6⟩ := dirN_eq v.nr v'.nr e2
  have f3 : x.2.1 = y.2.1 ∧ x.2.2 = y.2.2 := by omega
  exact Prod.ext (Prod.ext f1 f2) (Prod.ext f3.1 f3.2)
theorem Wk.bound (h1 : 1 ≤ h) {ps : List Pr} {x : Pr} (k : Wk g h w ps x) : ps.length ≤ 6 * ((h + 2) * (w + 2)) := by
  have va := k.all h1
  have := nodup_lt (6 * ((h + 2) * (w + 2))) (ps.map (codeP w)) (nodup_map (k.nodup h1) fun a ha b hb e => codeP_inj (va a ha) (va b hb) e) (fun n hn => by
    obtain ⟨z, hz, rfl⟩ := List.mem_map.mp hn
    obtain ⟨a1, a2, a3, a4⟩ := vld_in (va z hz)
    have d := dirN_lt (va z hz).nr
    unfold codeP
    have m1 : (z.1.1 + 1).toNat + 1 ≤ h + 2 := by omega
    have m2 : ((z.1.1 + 1).toNat + 1) * (w + 2) ≤ (h + 2) * (w + 2) := Nat.mul_le_mul_right _ m1
    rw [Nat.add_mul, Nat.one_mul] at m2
    omega)
  rw [List.length_map] at this
  exact this
theorem walk_ends (h1 : 1 ≤ h) : ∃ ps x, Wk g h w ps x ∧ stp g h w x = none := by
  have gen : ∀ (n : Nat) (ps : List Pr) (x : Pr), Wk g h w ps x → 6 * ((h + 2) * (w + 2)) - ps.length ≤ n → ∃ ps x, Wk g h w ps x ∧ stp g h w x = none := by
    intro n
    induction n with
    | zero =>
      intro ps x k hn
      cases e : stp g h w x with
      | none => exact ⟨ps, x, k, e⟩
      | some y =>
        have := (Wk.snoc k e).bound h1
        rw [List.length_append] at this
        simp at this
        omega
    | succ n ih =>
      intro ps x k hn
      cases e : stp g h w x with
      | none => exact ⟨ps, x, k, e⟩
      | some y =>
        refine ih _ _ (Wk.snoc k e) ?_
        rw [List.length_append]
        simp
        omega
  exact gen _ _ _ .one (Nat.le_refl _)

/-! ### what it has gone along -/
def met (ps : List Pr) (c : Cell) : Prop := ∃ p ∈ ps, p.1 = c ∨ p.2 = c
/-- the cells that the hand's side of the walk has met -/
structure Vis (g g' : Cell → Nat) (s : Bool) (ps : List Pr) : Prop where
  yes : ∀ p ∈ ps, g' (if s then p.2 else p.1) = g (if s then p.2 else p.1)
def Gd (g' : Cell → Nat) (h w : Nat) (s : Bool) (x : Cell) : Prop := sd s x = -1 ∨ Reach g' s x ∨ Joined g' h w s
theorem gd_n {g' : Cell → Nat} {x c : Cell} (h1 : 1 ≤ h) (sup : Sup g' h w) (gx : Gd g' h w false x) (nr : c ∈ near6 x) (oc : own g h w c = some false) (ec : Ins h w c → g' c = g c) : Gd g' h w false c := by
  have v := near6_iff.mp nr
  rcases gx with gx | gx | gx
  · have gx' : x.1 = -1 := gx
    rcases own_n oc with ⟨hi, hg⟩ | k | k
    · refine .inr (.inl (.first (by rw [ec hi, hg]; rfl) ?_))
      show c.1 = 0
      have := hi.1
      omega
    · exact .inl k.1
    · exfalso
      have := k.1
      omega
  · rcases own_n oc with ⟨hi, hg⟩ | k | k
    · exact .inr (.inl (.next gx nr (by rw [ec hi, hg]; rfl)))
    · exact .inl k.1
    · refine .inr (.inr ⟨x, gx, ?_⟩)
      have ix := sup x (by rw [gx.sign]; exact lt_ne false)
      show x.1 = (h : Int) - 1
      have := k.1
      omega
  · exact .inr (.inr gx)
theorem gd_w {g' : Cell → Nat} {x c : Cell} (w1 : 1 ≤ w) (fl : ∀ p, Ins h w p → g p = 110 ∨ g p = 119) (sup : Sup g' h w) (gx : Gd g' h w true x) (nr : c ∈ near6 x) (oc : own g h w c = some true) (ec : Ins h w c → g' c = g c) : Gd g' h w true c := by
  have v := near6_iff.mp nr
  have g119 : Ins h w c → g c ≠ 110 → g' c = lt true := fun hi hg => by
    rw [ec hi]
    rcases fl c hi with z | z
    · exact absurd z hg
    · exact z
  rcases gx with gx | gx | gx
  · have gx' : x.2 = -1 := gx
    rcases own_w oc with ⟨hi, hg⟩ | ⟨k1, k2, k⟩
    · refine .inr (.inl (.first (g119 hi hg) ?_))
      show c.2 = 0
      have := hi.2.2.1
      omega
    · rcases k with k | k
      · exact .inl k
      · exfalso
        omega
  · rcases own_w oc with ⟨hi, hg⟩ | ⟨k1, k2, k⟩
    · exact .inr (.inl (.next gx nr (g119 hi hg)))
    · rcases k with k | k
      · exact .inl k
      · refine .inr (.inr ⟨x, gx, ?_⟩)
        have ix := sup x (by rw [gx.sign]; exact lt_ne true)
        show x.2 = (w : Int) - 1
        omega
  · exact .inr (.inr gx)
theorem Wk.good {gn gw : Cell → Nat} (h1 : 1 ≤ h) (w1 : 1 ≤ w) (fl : ∀ p, Ins h w p → g p = 110 ∨ g p = 119) (sn : Sup gn h w) (sw : Sup gw h w) {ps : List Pr} {x : Pr} (k : Wk g h w ps x)
    (vn : ∀ p ∈ ps, Ins h w p.1 → gn p.1 = g p.1) (vw : ∀ p ∈ ps, Ins h w p.2 → gw p.2 = g p.2) : Gd gn h w false x.1 ∧ Gd gw h w true x.2 := by
  induction k with
  | one => exact ⟨.inl rfl, .inl rfl⟩
  | @snoc ps x y k' e ih =>
    obtain ⟨i1, i2⟩ := ih (fun p hp => vn p (List.mem_append_left _ hp)) (fun p hp => vw p (List.mem_append_left _ hp))
    have v1 := vn y (List.mem_append_right _ List.mem_cons_self)
    have v2 := vw y (List.mem_append_right _ List.mem_cons_self)
    obtain ⟨a1, a2⟩ := ahd_near (k'.vld h1).nr
    rcases stp_n e with ⟨o, rfl⟩ | ⟨o, rfl⟩
    · exact ⟨gd_n h1 sn i1 a1 o v1, i2⟩
    · exact ⟨i1, gd_w w1 fl sw i2 a2 o v2⟩
/-- at the walk's end a hand is joined, through cells that the walk has met -/
theorem Wk.tells {gn gw : Cell → Nat} (h1 : 1 ≤ h) (w1 : 1 ≤ w) (fl : ∀ p, Ins h w p → g p = 110 ∨ g p = 119) (sn : Sup gn h w) (sw : Sup gw h w) {ps : List Pr} {x : Pr} (k : Wk g h w ps x) (e : stp g h w x = none)
    (vn : ∀ p ∈ ps, Ins h w p.1 → gn p.1 = g p.1) (vw : ∀ p ∈ ps, Ins h w p.2 → gw p.2 = g p.2) :
    (x = ((-1, (w : Int)), (0, (w : Int))) ∧ Joined gw h w true) ∨ (x = (((h : Int), -1), ((h : Int) - 1, -1)) ∧ Joined gn h w false) := by
  obtain ⟨i1, i2⟩ := k.good h1 w1 fl sn sw vn vw
  rcases stp_end h1 w1 (k.vld h1) e with rfl | rfl
  · refine .inl ⟨rfl, ?_⟩
    rcases i2 with z | z | z
    · exfalso
      have z' : (w : Int) = -1 := z
      omega
    · exfalso
      have ix := sw _ (by rw [z.sign]; exact lt_ne true)
      have : (w : Int) < w := ix.2.2.2
      omega
    · exact z
  · refine .inr ⟨rfl, ?_⟩
    rcases i1 with z | z | z
    · exfalso
      have z' : (h : Int) = -1 := z
      omega
    · exfalso
      have ix := sn _ (by rw [z.sign]; exact lt_ne false)
      have : (h : Int) < h := ix.2.1
      omega
    · exact z
end
/-- on a full board one of the hands is joined -/
theorem one_joined {B : Bd} {h w : Nat} (I : IsB B h w) (fl : ∀ p, cel B p ≠ 46) : Joined (cel B) h w false ∨ Joined (cel B) h w true := by
  obtain ⟨ps, x, k, e⟩ := walk_ends (g := cel B) (h := h) (w := w) I.h1
  have fl' : ∀ p, Ins h w p → cel B p = 110 ∨ cel B p = 119 := fun p hp => by
    obtain ⟨_, _, _, _, _, ok⟩ := I.at hp
    rcases ok with z | z | z
    · exact .inl z
    · exact .inr z
    · exact absurd z (fl p)
  rcases k.tells I.h1 I.w1 fl' I.sup I.sup e (fun _ _ _ => rfl) (fun _ _ _ => rfl) with z | z
  · exact .inr z.2
  · exact .inl z.2
theorem jB_full {B : Bd} {h w : Nat} (I : IsB B h w) (fl : ∀ p, cel B p ≠ 46) (s : Bool) : jB B (!s) = !jB B s := by
  have nb : ¬ (jB B s = true ∧ jB B (!s) = true) := fun ⟨a, b⟩ => jB_both I a b
  have ob : jB B s = true ∨ jB B (!s) = true := by
    rcases one_joined I fl with z | z
    · cases s
      · exact .inl ((jB_iff I _).mpr z)
      · exact .inr ((jB_iff I _).mpr z)
    · cases s
      · exact .inr ((jB_iff I _).mpr z)
      · exact .inl ((jB_iff I _).mpr z)
  cases e1 : jB B s <;> cases e2 : jB B (!s) <;> simp_all
end Sw
/-! Pairs of cells in the heap; the walk goes one way only. -/
namespace Sw
open PySem PySem.Spec PyProof.Rows L2
inductive Pairs (H : Hp) : List V → List Pr → Prop
  | nil : Pairs H [] []
  | cons {t a b : Addr} {p : Pr} {vs : List V} {ps : List Pr} : H t = some (.tup [.ref a, .ref b]) → H a = some (.tup (cellV p.1)) → H b = some (.tup (cellV p.2)) → Pairs H vs ps → Pairs H (.ref t :: vs) (p :: ps)
theorem Pairs.tps {H H' : Hp} (s : Tps H H') : ∀ {vs : List V} {ps : List Pr}, Pairs H vs ps → Pairs H' vs ps
  | _, _, .nil => .nil
  | _, _, .cons x y z t => .cons (s _ _ x) (s _ _ y) (s _ _ z) (Pairs.tps s t)
theorem Pairs.same {H H' : Hp} (s : Same H H') {vs : List V} {ps : List Pr} (h : Pairs H vs ps) : Pairs H' vs ps := h.tps (.of s)
theorem Pairs.len {H : Hp} : ∀ {vs : List V} {ps : List Pr}, Pairs H vs ps → vs.length = ps.length
  | _, _, .nil => rfl
  | _, _, .cons _ _ _ t => by rw [List.length_cons, List.length_cons, Pairs.len t]
theorem Pairs.app {H : Hp} : ∀ {vs ws : List V} {ps qs : List Pr}, Pairs H vs ps → Pairs H ws qs → Pairs H (vs ++ ws) (ps ++ qs)
  | _, _, _, _, .nil, h => h
  | _, _, _, _, .cons x y z t, h => .cons x y z (Pairs.app t h)
theorem Pairs.get {H : Hp} : ∀ {vs : List V} {ps : List Pr} {i : Nat} {x : V}, Pairs H vs ps → vs[i]? = some x → ∃ t a b p, x = .ref t ∧ ps[i]? = some p ∧ H t = some (.tup [.ref a, .ref b]) ∧ H a = some (.tup (cellV p.1)) ∧ H b = some (.tup (cellV p.2))
  | _, _, _, _, .nil, e => by simp at e
  | _, _, 0, _, .cons x y z _, e => by
    simp at e
    subst e
    exact ⟨_, _, _, _, rfl, rfl, x, y, z⟩
  | _, _, i + 1, _, .cons _ _ _ t, e => Pairs.get (i := i) t (by simpa using e)
def pairD (p : Pr) : PyData := .tuple [cellD p.1, cellD p.2]
theorem pair_dp {K : PySem.W.Frag} {H : Hp} {t a b : Addr} {p : Pr} (x : H t = some (.tup [.ref a, .ref b])) (y : H a = some (.tup (cellV p.1))) (z : H b = some (.tup (cellV p.2))) : Dp K H (.ref t) (pairD p) :=
  .tup (.inl (.inl x)) (.cons (cell_dp y) (.cons (cell_dp z) .nil))
theorem Pairs.dp {K : PySem.W.Frag} {H : Hp} : ∀ {vs : List V} {ps : List Pr}, Pairs H vs ps → DpAll K H vs (ps.map pairD)
  | _, _, .nil => .nil
  | _, _, .cons x y z t => .cons (pair_dp x y z) (Pairs.dp t)
theorem can_pairs : ∀ ps : List Pr, PyData.canLayAll0 (ps.map pairD) = true
  | [] => rfl
  | p :: ps => by
    rw [List.map_cons, PyData.canLayAll0, can_pairs ps]
    rfl
theorem dep_pairs : ∀ ps : List Pr, PyData.depthAll (ps.map pairD) ≤ 2
  | [] => by decide
  | p :: ps => by
    have h := dep_pairs ps
    rw [List.map_cons, PyData.depthAll]
    have e : (pairD p).depth = 2 := rfl
    rw [e]
    omega
theorem shaped_pairs (ps : List Pr) : SeqAt.shaped (.list (ps.map pairD)) = true := by
  unfold SeqAt.shaped
  have h := dep_pairs ps
  rw [show (PyData.list (ps.map pairD)).canLay0 = PyData.canLayAll0 (ps.map pairD) from rfl, can_pairs]
  have : (PyData.list (ps.map pairD)).depth ≤ 64 := by
    rw [PyData.depth]
    omega
  rw [decide_eq_true this]
  rfl
theorem eqv_pairs (ps : List Pr) : PyData.eqv (.list (ps.map pairD)) (.list (ps.map pairD)) = true := SeqAt.eqv_refl _ (can_pairs ps)
/-- the place next to one, round two -/
theorem near_next {a b : Cell} (k : b ∈ near6 a) : ∃ j : Nat, j < 6 ∧ (near6 b)[j]? = some a ∧ (near6 b)[(j + 1) % 6]? = some (ahd a b) ∧ ∀ (m : Nat) (z : Cell), m < j → (near6 b)[m]? = some z → z ≠ a := by
  have nd : (near6 b).Nodup := by
    have e : near6 b = [(b.1 - 1, b.2), (b.1 - 1, b.2 + 1), (b.1, b.2 + 1), (b.1 + 1, b.2), (b.1 + 1, b.2 - 1), (b.1, b.2 - 1)] := rfl
    rw [e]
    simp only [List.nodup_cons, List.mem_cons, Prod.mk.injEq, List.not_mem_nil, or_false, not_or, not_false_eq_true, List.nodup_nil, and_true]
    omega
  have fin : ∀ j : Nat, j < 6 → (near6 b)[j]? = some a → (near6 b)[(j + 1) % 6]? = some (ahd a b) → ∃ j : Nat, j < 6 ∧ (near6 b)[j]? = some a ∧ (near6 b)[(j + 1) % 6]? = some (ahd a b) ∧ ∀ (m : Nat) (z : Cell), m < j → (near6 b)[m]? = some z → z ≠ a := by
    intro j hj e1 e2
    refine ⟨j, hj, e1, e2, fun m z hm ez ea => ?_⟩
    subst ea
    obtain ⟨h1, g1⟩ := List.getElem?_eq_some_iff.mp e1
    obtain ⟨h2, g2⟩ := List.getElem?_eq_some_iff.mp ez
    have := (List.getElem_inj (h₀ := h2) (h₁ := h1) nd).mp (g2.trans g1.symm)
    omega
  have pr : ∀ {x y u v : Int}, x = u → y = v → some ((x, y) : Cell) = some (u, v) := fun p q => by rw [p, q]
  rcases near6_iff.mp k with ⟨x, y⟩ | ⟨x, y⟩ | ⟨x, y⟩ | ⟨x, y⟩ | ⟨x, y⟩ | ⟨x, y⟩
  · exact fin 3 (by decide) (pr (by omega) (by omega)) (pr (by omega) (by omega))
  · exact fin 4 (by decide) (pr (by omega) (by omega)) (pr (by omega) (by omega))
  · exact fin 5 (by decide) (pr (by omega) (by omega)) (pr (by omega) (by omega))
  · exact fin 0 (by decide) (pr (by omega) (by omega)) (pr (by omega) (by omega))
  · exact fin 1 (by decide) (pr (by omega) (by omega)) (pr (by omega) (by omega))
  · exact fin 2 (by decide) (pr (by omega) (by omega)) (pr (by omega) (by omega))
/-! ### the walk, place by place -/
section
variable {g : Cell → Nat} {h w : Nat}
def itW (g : Cell → Nat) (h w : Nat) : Nat → Option Pr
  | 0 => some st0
  | n + 1 => (itW g h w n).bind (stp g h w)
theorem Wk.it {ps : List Pr} {x : Pr} (k : Wk g h w ps x) : 0 < ps.length ∧ itW g h w (ps.length - 1) = some x ∧ ∀ i, i < ps.length → ps[i]? = itW g h w i := by
  induction k with
  | one =>
    refine ⟨Nat.succ_pos _, rfl, fun i hi => ?_⟩
    have : i = 0 := Nat.lt_one_iff.mp hi
    subst this
    rfl
  | @snoc ps x y k' e ih =>
    obtain ⟨p0, e1, al⟩ := ih
    have ll : (ps ++ [y]).length = ps.length + 1 := by rw [List.length_append]; rfl
    have ey : itW g h w ps.length = some y := by
      obtain ⟨m, em⟩ : ∃ m, ps.length = m + 1 := ⟨ps.length - 1, by omega⟩
      rw [em, Nat.add_sub_cancel] at e1
      rw [em]
      show (itW g h w m).bind (stp g h w) = some y
      rw [e1]
      exact e
    refine ⟨by omega, by rw [ll, Nat.add_sub_cancel]; exact ey, fun i hi => ?_⟩
    by_cases hp : i < ps.length
    · rw [List.getElem?_append_left hp]
      exact al i hp
    · have : i = ps.length := by omega
      subst this
      rw [List.getElem?_append_right (Nat.le_refl _), Nat.sub_self, ey]
      rfl
theorem Wk.stop {ps : List Pr} {x : Pr} (k : Wk g h w ps x) (e : stp g h w x = none) : itW g h w ps.length = none := by
  obtain ⟨p0, e1, _⟩ := k.it
  obtain ⟨m, em⟩ : ∃ m, ps.length = m + 1 := ⟨ps.length - 1, by omega⟩
  rw [em, Nat.add_sub_cancel] at e1
  rw [em]
  show (itW g h w m).bind (stp g h w) = none
  rw [e1]
  exact e
theorem Wk.det {ps qs : List Pr} {x y : Pr} (k : Wk g h w ps x) (e : stp g h w x = none) (k' : Wk g h w qs y) (e' : stp g h w y = none) : ps = qs := by
  have s1 := k.stop e
  have s2 := k'.stop e'
  obtain ⟨_, _, a1⟩ := k.it
  obtain ⟨_, _, a2⟩ := k'.it
  have le : ∀ {l m : List Pr}, itW g h w l.length = none → (∀ i, i < m.length → m[i]? = itW g h w i) → m.length ≤ l.length := fun {l m} s a => by
    refine Nat.le_of_not_lt fun hlt => ?_
    have := a l.length hlt
    rw [s, List.getElem?_eq_getElem hlt] at this
    cases this
  have el : ps.length = qs.length := Nat.le_antisymm (le s2 a1) (le s1 a2)
  refine List.ext_getElem? fun i => ?_
  by_cases hi : i < ps.length
  · rw [a1 i hi, a2 i (by omega)]
  · rw [List.getElem?_eq_none (by omega), List.getElem?_eq_none (by omega)]
end
end Sw
namespace Sw
open PySem PySem.Spec PyProof.Rows L2
/-! ### the text by places -/
def top (i : Nat) : Stmt := PySem.Challenge.pw_shoreways_k08_walks.main.body.getD i (.Pass ⟨0, 0, 0, 0⟩)
abbrev s_board_right : Stmt := top 6
abbrev N_board_right : List Str := ["rows", "row", "letter"]
theorem sc_board_right : FnScope N_board_right ["rows"] (defScope s_board_right) := ⟨rfl, rfl, rfl, by decide +kernel, rfl, by decide +kernel, by decide +kernel⟩
abbrev s_Board___init__ : Stmt := inClass (top 7) 0
abbrev N_Board___init__ : List Str := ["self", "rows"]
theorem sc_Board___init__ : FnScope N_Board___init__ ["self", "rows"] (defScope s_Board___init__) := ⟨rfl, rfl, rfl, by decide +kernel, rfl, by decide +kernel, by decide +kernel⟩
abbrev s_Board_has : Stmt := inClass (top 7) 1
abbrev N_Board_has : List Str := ["self", "r", "c"]
theorem sc_Board_has : FnScope N_Board_has ["self", "r", "c"] (defScope s_Board_has) := ⟨rfl, rfl, rfl, by decide +kernel, rfl, by decide +kernel, by decide +kernel⟩
abbrev s_near : Stmt := top 8
abbrev N_near : List Str := ["r", "c"]
theorem sc_near : FnScope N_near ["r", "c"] (defScope s_near) := ⟨rfl, rfl, rfl, by decide +kernel, rfl, by decide +kernel, by decide +kernel⟩
abbrev s_empty : Stmt := top 9
abbrev N_empty : List Str := ["board", "found", "r", "row", "c", "letter"]
theorem sc_empty : FnScope N_empty ["board"] (defScope s_empty) := ⟨rfl, rfl, rfl, by decide +kernel, rfl, by decide +kernel, by decide +kernel⟩
abbrev s_owner : Stmt := top 11
abbrev N_owner : List Str := ["board", "place", "r", "c"]
theorem sc_owner : FnScope N_owner ["board", "place"] (defScope s_owner) := ⟨rfl, rfl, rfl, by decide +kernel, rfl, by decide +kernel, by decide +kernel⟩
abbrev s_walk : Stmt := top 12
abbrev N_walk : List Str := ["board", "found", "one", "two", "around", "ahead", "hand"]
theorem sc_walk : FnScope N_walk ["board"] (defScope s_walk) := ⟨rfl, rfl, rfl, by decide +kernel, rfl, by decide +kernel, by decide +kernel⟩
abbrev s__law_cell_at : Stmt := top 14
abbrev N__law_cell_at : List Str := ["script", "k"]
theorem sc__law_cell_at : FnScope N__law_cell_at ["script", "k"] (defScope s__law_cell_at) := ⟨rfl, rfl, rfl, by decide +kernel, rfl, by decide +kernel, by decide +kernel⟩
abbrev s__law_mix : Stmt := top 15
abbrev N__law_mix : List Str := ["cell", "k", "many", "some", "number"]
theorem sc__law_mix : FnScope N__law_mix ["cell", "k", "many"] (defScope s__law_mix) := ⟨rfl, rfl, rfl, by decide +kernel, rfl, by decide +kernel, by decide +kernel⟩
abbrev s__law_whole : Stmt := top 16
abbrev N__law_whole : List Str := ["found"]
theorem sc__law_whole : FnScope N__law_whole ["found"] (defScope s__law_whole) := ⟨rfl, rfl, rfl, by decide +kernel, rfl, by decide +kernel, by decide +kernel⟩
abbrev s__law_rows_by : Stmt := top 17
abbrev N__law_rows_by : List Str := ["script", "height", "width", "full", "rows", "r", "cell", "row", "c", "kind"]
theorem sc__law_rows_by : FnScope N__law_rows_by ["script", "height", "width", "full"] (defScope s__law_rows_by) := ⟨rfl, rfl, rfl, by decide +kernel, rfl, by decide +kernel, by decide +kernel⟩
abbrev s__law_size_by : Stmt := top 18
abbrev N__law_size_by : List Str := ["script", "most"]
theorem sc__law_size_by : FnScope N__law_size_by ["script", "most"] (defScope s__law_size_by) := ⟨rfl, rfl, rfl, by decide +kernel, rfl, by decide +kernel, by decide +kernel⟩
abbrev s__law_places : Stmt := top 20
abbrev N__law_places : List Str := ["found", "many", "place"]
theorem sc__law_places : FnScope N__law_places ["found", "many"] (defScope s__law_places) := ⟨rfl, rfl, rfl, by decide +kernel, rfl, by decide +kernel, by decide +kernel⟩
abbrev s__law_owner : Stmt := top 21
abbrev N__law_owner : List Str := ["rows", "place", "height", "width", "r", "c", "x"]
theorem sc__law_owner : FnScope N__law_owner ["rows", "place"] (defScope s__law_owner) := ⟨rfl, rfl, rfl, by decide +kernel, rfl, by decide +kernel, by decide +kernel⟩
abbrev s__law_due : Stmt := top 22
abbrev N__law_due : List Str := ["rows", "steps", "found", "turn", "one", "two", "k", "step", "ahead", "hand"]
theorem sc__law_due : FnScope N__law_due ["rows"] (defScope s__law_due) := ⟨rfl, rfl, rfl, by decide +kernel, rfl, by decide +kernel, by decide +kernel⟩
abbrev s__law_met : Stmt := top 23
abbrev N__law_met : List Str := ["board", "e"]
theorem sc__law_met : FnScope N__law_met ["board"] (defScope s__law_met) := ⟨rfl, rfl, rfl, by decide +kernel, rfl, by decide +kernel, by decide +kernel⟩
abbrev s_law : Stmt := top 24
abbrev N_law : List Str := ["script", "rows", "board", "due", "lap", "height", "width", "found", "pair", "r", "c"]
theorem sc_law : FnScope N_law ["script"] (defScope s_law) := ⟨rfl, rfl, rfl, by decide +kernel, rfl, by decide +kernel, by decide +kernel⟩
/-- what the top has laid -/
structure Top (K : PySem.W.Frag) (mg : Str → Option Value) where
  a_board_right : Addr
  d_board_right : FuncData
  F_board_right : Fun K "board_right" "board_right" s_board_right a_board_right d_board_right
  B_board_right : Binds K d_board_right ["rows"] []
  m_board_right : mg "board_right" = some (.ref a_board_right)
  a_Board___init__ : Addr
  d_Board___init__ : FuncData
  F_Board___init__ : Fun K "__init__" "Board.__init__" s_Board___init__ a_Board___init__ d_Board___init__
  B_Board___init__ : Binds K d_Board___init__ ["self", "rows"] []
  a_Board_has : Addr
  d_Board_has : FuncData
  F_Board_has : Fun K "has" "Board.has" s_Board_has a_Board_has d_Board_has
  B_Board_has : Binds K d_Board_has ["self", "r", "c"] []
  a_near : Addr
  d_near : FuncData
  F_near : Fun K "near" "near" s_near a_near d_near
  B_near : Binds K d_near ["r", "c"] []
  m_near : mg "near" = some (.ref a_near)
  a_empty : Addr
  d_empty : FuncData
  F_empty : Fun K "empty" "empty" s_empty a_empty d_empty
  B_empty : Binds K d_empty ["board"] []
  m_empty : mg "empty" = some (.ref a_empty)
  a_owner : Addr
  d_owner : FuncData
  F_owner : Fun K "owner" "owner" s_owner a_owner d_owner
  B_owner : Binds K d_owner ["board", "place"] []
  m_owner : mg "owner" = some (.ref a_owner)
  a_walk : Addr
  d_walk : FuncData
  F_walk : Fun K "walk" "walk" s_walk a_walk d_walk
  B_walk : Binds K d_walk ["board"] []
  m_walk : mg "walk" = some (.ref a_walk)
  a__law_cell_at : Addr
  d__law_cell_at : FuncData
  F__law_cell_at : Fun K "_law_cell_at" "_law_cell_at" s__law_cell_at a__law_cell_at d__law_cell_at
  B__law_cell_at : Binds K d__law_cell_at ["script", "k"] []
  m__law_cell_at : mg "_law_cell_at" = some (.ref a__law_cell_at)
  a__law_mix : Addr
  d__law_mix : FuncData
  F__law_mix : Fun K "_law_mix" "_law_mix" s__law_mix a__law_mix d__law_mix
  B__law_mix : Binds K d__law_mix ["cell", "k", "many"] []
  m__law_mix : mg "_law_mix" = some (.ref a__law_mix)
  a__law_whole : Addr
  d__law_whole : FuncData
  F__law_whole : Fun K "_law_whole" "_law_whole" s__law_whole a__law_whole d__law_whole
  B__law_whole : Binds K d__law_whole ["found"] []
  m__law_whole : mg "_law_whole" = some (.ref a__law_whole)
  a__law_rows_by : Addr
  d__law_rows_by : FuncData
  F__law_rows_by : Fun K "_law_rows_by" "_law_rows_by" s__law_rows_by a__law_rows_by d__law_rows_by
  B__law_rows_by : Binds K d__law_rows_by ["script", "height", "width", "full"] []
  m__law_rows_by : mg "_law_rows_by" = some (.ref a__law_rows_by)
  a__law_size_by : Addr
  d__law_size_by : FuncData
  F__law_size_by : Fun K "_law_size_by" "_law_size_by" s__law_size_by a__law_size_by d__law_size_by
  B__law_size_by : Binds K d__law_size_by ["script", "most"] []
  m__law_size_by : mg "_law_size_by" = some (.ref a__law_size_by)
  a__law_places : Addr
  d__law_places : FuncData
  F__law_places : Fun K "_law_places" "_law_places" s__law_places a__law_places d__law_places
  B__law_places : Binds K d__law_places ["found", "many"] []
  m__law_places : mg "_law_places" = some (.ref a__law_places)
  a__law_owner : Addr
  d__law_owner : FuncData
  F__law_owner : Fun K "_law_owner" "_law_owner" s__law_owner a__law_owner d__law_owner
  B__law_owner : Binds K d__law_owner ["rows", "place"] []
  m__law_owner : mg "_law_owner" = some (.ref a__law_owner)
  a__law_due : Addr
  d__law_due : FuncData
  F__law_due : Fun K "_law_due" "_law_due" s__law_due a__law_due d__law_due
  B__law_due : Binds K d__law_due ["rows"] []
  m__law_due : mg "_law_due" = some (.ref a__law_due)
  a__law_met : Addr
  d__law_met : FuncData
  F__law_met : Fun K "_law_met" "_law_met" s__law_met a__law_met d__law_met
  B__law_met : Binds K d__law_met ["board"] []
  m__law_met : mg "_law_met" = some (.ref a__law_met)
  a_law : Addr
  d_law : FuncData
  F_law : Fun K "law" "law" s_law a_law d_law
  B_law : Binds K d_law ["script"] []
  m_law : mg "law" = some (.ref a_law)
  C_Board : Addr
  cl_Board : Cls K C_Board
  mC_Board : mg "Board" = some (.ref C_Board)
  Mk_Board : Mk K C_Board a_Board___init__
  n_Board_rows : NoAttr K C_Board "rows"
  n_Board_height : NoAttr K C_Board "height"
  n_Board_width : NoAttr K C_Board "width"
  M_Board_has : Meth K C_Board "has" a_Board_has
  C_ShoreError : Addr
  mC_ShoreError : mg "ShoreError" = some (.ref C_ShoreError)
  x_ShoreError : PySem.W.excIn K C_ShoreError [.type "ValueError", .type "Exception", .type "BaseException", .type "object"] "ValueError.__new__" = true
  k_ShoreError : PySem.W.keepIn K (.ref C_ShoreError) = true
  b_ShoreError : PySem.W.subIn K (.ref C_ShoreError) (.type "BaseException") = some true
  t_ShoreError : PySem.W.typeIn K (.ref C_ShoreError) = some (.type "type")
  i_ShoreError : PySem.W.isClsIn K C_ShoreError = true
  C_BadBoard : Addr
  mC_BadBoard : mg "BadBoard" = some (.ref C_BadBoard)
  x_BadBoard : PySem.W.excIn K C_BadBoard [.type "ValueError", .type "Exception", .type "BaseException", .type "object"] "ValueError.__new__" = true
  k_BadBoard : PySem.W.keepIn K (.ref C_BadBoard) = true
  b_BadBoard : PySem.W.subIn K (.ref C_BadBoard) (.type "BaseException") = some true
  t_BadBoard : PySem.W.typeIn K (.ref C_BadBoard) = some (.type "type")
  i_BadBoard : PySem.W.isClsIn K C_BadBoard = true
  C_NotFull : Addr
  mC_NotFull : mg "NotFull" = some (.ref C_NotFull)
  x_NotFull : PySem.W.excIn K C_NotFull [.type "ValueError", .type "Exception", .type "BaseException", .type "object"] "ValueError.__new__" = true
  k_NotFull : PySem.W.keepIn K (.ref C_NotFull) = true
  b_NotFull : PySem.W.subIn K (.ref C_NotFull) (.type "BaseException") = some true
  t_NotFull : PySem.W.typeIn K (.ref C_NotFull) = some (.type "type")
  i_NotFull : PySem.W.isClsIn K C_NotFull = true
  s_BadBoard_ShoreError : PySem.W.subIn K (.ref C_BadBoard) (.ref C_ShoreError) = some true
  s_BadBoard_NotFull : PySem.W.subIn K (.ref C_BadBoard) (.ref C_NotFull) = some false
  s_NotFull_ShoreError : PySem.W.subIn K (.ref C_NotFull) (.ref C_ShoreError) = some true
  s_NotFull_NotFull : PySem.W.subIn K (.ref C_NotFull) (.ref C_NotFull) = some true
  E_BadBoard : ExcC K C_BadBoard
  E_NotFull : ExcC K C_NotFull
  kit_BadBoard_ShoreError : PySem.W.kitOne K (.ref C_BadBoard) (.ref C_ShoreError) = some true
  kit_NotFull_ShoreError : PySem.W.kitOne K (.ref C_NotFull) (.ref C_ShoreError) = some true
  tk_MOST : Tok
  g_MOST : mg "MOST" = some (.int 9 tk_MOST)
  z_len : mg "len" = none
  z_all : mg "all" = none
  z_list : mg "list" = none
  z_enumerate : mg "enumerate" = none
  z_isinstance : mg "isinstance" = none
  z_int : mg "int" = none
  z_bool : mg "bool" = none
  z_range : mg "range" = none
  z_tuple : mg "tuple" = none
end Sw
namespace Sw
open PySem PySem.Spec PyProof.Rows L2
section
variable {P : Program} {w : World} {K : PySem.W.Frag} {mg : Str → Option Value} {base : Heap}
/-! near -/
def sp_near : Sp := fun vs H Q _ => ∃ r c : Int, vs = [.int r, .int c] ∧ ∀ (p : Addr) (H' : Hp) (ws : List V), Same H H' → H p = none → H' p = some (.lst ws) → Cells H' ws (near6 (r, c)) → Q (.ref p) H'
theorem ok_near (T : Top K mg) : FnOk P w K mg base CX0 1 T.a_near T.d_near ["r", "c"] sp_near := by
  refine T.F_near.ok sc_near (fun vs H Q E h => ?_) (fun cdv A outer s H vs Q E hr h => ?_)
  · obtain ⟨_, _, rfl, _⟩ := h
    rfl
  obtain ⟨r, c, rfl, k⟩ := h
  refine ⟨_, (pss_one (ps_ret (pe_lst (pa_cons (pe_tup (pa_cons (pe_op op_sub (pv 0) pe_int) (pa_cons (pv 1) pa_nil))) (pa_cons (pe_tup (pa_cons (pe_op op_sub (pv 0) pe_int) (pa_cons (pe_op op_add (pv 1) pe_int) pa_nil))) (pa_cons (pe_tup (pa_cons (pv 0) (pa_cons (pe_op op_add (pv 1) pe_int) pa_nil))) (pa_cons (pe_tup (pa_cons (pe_op op_add (pv 0) pe_int) (pa_cons (pv 1) pa_nil))) (pa_cons (pe_tup (pa_cons (pe_op op_add (pv 0) pe_int) (pa_cons (pe_op op_sub (pv 1) pe_int) pa_nil))) (pa_cons (pe_tup (pa_cons (pv 0) (pa_cons (pe_op op_sub (pv 1) pe_int) pa_nil))) pa_nil))))))))), ?_⟩
  refine ⟨_, rfl, _, _, rfl, rfl, _, rfl, sz2, fun t1 h1 => ?_⟩
  refine ⟨_, rfl, _, _, rfl, rfl, _, rfl, _, _, rfl, rfl, sz2, fun t2 h2 => ?_⟩
  refine ⟨_, rfl, _, rfl, _, _, rfl, rfl, sz2, fun t3 h3 => ?_⟩
  refine ⟨_, rfl, _, _, rfl, rfl, _, rfl, sz2, fun t4 h4 => ?_⟩
  refine ⟨_, rfl, _, _, rfl, rfl, _, rfl, _, _, rfl, rfl, sz2, fun t5 h5 => ?_⟩
  refine ⟨_, rfl, _, rfl, _, _, rfl, rfl, sz2, fun t6 h6 => ?_⟩
  refine ⟨sz6, fun p hp => ?_⟩
  obtain ⟨_, ws, e, n, s, hl, hc⟩ := new_six (H := H) (r := r) (c := c) rfl rfl rfl rfl rfl rfl h1 h2 h3 h4 h5 h6 hp
  cases e
  exact k p _ ws s n hl hc
end
end Sw
namespace Sw
open PySem PySem.Spec PyProof.Rows L2
section
variable {P : Program} {w : World} {K : PySem.W.Frag} {mg : Str → Option Value} {base : Heap}
/-! board_right, Board -/
def sp_board_right : Sp := fun vs H Q _ => ∃ (a : Addr) (B : Bd), vs = [.ref a] ∧ H a = some (.lst (rowsV B)) ∧ Small B ∧ ∀ H', Same H H' → Q (.bl (Good B)) H'
theorem head_at {B : Bd} (h : B ≠ []) : ∃ r, B[0]? = some r ∧ r.length = wid B ∧ r ∈ B := by
  cases B with
  | nil => exact absurd rfl h
  | cons r B => exact ⟨r, rfl, rfl, List.mem_cons_self⟩
theorem all_take {α : Type} {p : α → Bool} {l : List α} {i : Nat} {x : α} (h : (l.take i).all p = true) (hx : l[i]? = some x) (hp : p x = true) : (l.take (i + 1)).all p = true := by
  rw [List.take_add_one, hx, List.all_append, h]
  simp [hp]
theorem get_txt {l : List Nat} {i : Nat} {c : Nat} (h : (txt l).cps[i]? = some c) : l[i]? = some c := by
  have : l.toArray[i]? = some c := h
  rw [List.getElem?_toArray] at this
  exact this
theorem txt_size (l : List Nat) : (txt l).cps.size = l.length := by show l.toArray.size = l.length; exact List.size_toArray
theorem take_map_snoc {α β : Type} {f : α → β} {l : List α} {i : Nat} {x : α} (h : l[i]? = some x) : (l.take (i + 1)).map f = (l.take i).map f ++ [f x] := by
  rw [List.take_add_one, h, List.map_append]
  rfl
theorem len_take_lt {α β : Type} {f : α → β} {l : List α} {i n : Nat} (h : l.length ≤ n) : ((l.take i).map f).length ≤ n := by
  rw [List.length_map, List.length_take]
  omega
theorem ok_board_right (T : Top K mg) : FnOk P w K mg base CX0 1 T.a_board_right T.d_board_right ["rows"] sp_board_right := by
  refine T.F_board_right.ok sc_board_right (fun vs H Q E h => ?_) (fun cdv A outer s H vs Q E hr h => ?_)
  · obtain ⟨_, _, rfl, _⟩ := h
    rfl
  obtain ⟨a, B, rfl, ha, hB, q⟩ := h
  refine ⟨_, (pss_cons (ps_if (PW.pt (pw_or (pt_not (pt_chain op_le op_le pe_int (pe_callB call_len_seq (by rfl) T.z_len PySem.boot_len (pa_cons (pv 0) pa_nil)) (pe_glob (v := .int 9) rfl T.g_MOST ⟨_, rfl⟩))) (pw_or1 (pt_not (pt_chain op_le op_le pe_int (pe_callB call_len_str (by rfl) T.z_len PySem.boot_len (pa_cons (pe_ix ix_list (pv 0) pe_int (fun _ _ => rfl)) pa_nil)) (pe_glob (v := .int 9) rfl T.g_MOST ⟨_, rfl⟩))))))
      (pss_one (ps_ret pe_bl)) pss_nil)
      (pss_cons (ps_for PassesOwn.never rfl (pi_list (pv 0)) (pg_name (i := 1) sc_board_right.nd rfl (Or.inl rfl))
      (pss_one (ps_if (PW.pt (pw_or (pt_cmpR op_ne (pe_callB call_len_str (by rfl) T.z_len PySem.boot_len (pa_cons (pv 1) pa_nil)) (pe_callB call_len_str (by rfl) T.z_len PySem.boot_len (pa_cons (pe_ix ix_list (pv 0) pe_int (fun _ _ => rfl)) pa_nil)) (nomark _)) (pw_or1 (pt_not (pt_val (pe_callB (cr_all rfl) (by rfl) T.z_all (by decide +kernel) (pa_cons (pe_lc (own := [("letter", 2)]) (g := gName 2) (tt := tYes) rfl sc_board_right.nd (pi_str (pv 1)) (blkOk_by (own := [("letter", 2)]) (N := N_board_right) (sc := defScope s_board_right) (by decide +kernel)) (fun _ _ _ _ _ => (pg_name (i := 2) sc_board_right.nd rfl (Or.inl rfl))) (fun _ _ _ _ _ => pts_nil) (fun _ _ _ _ _ => (pe_cmpR op_in_sign (pv 2) pe_str rfl))) pa_nil)))))))
      (pss_one (ps_ret pe_bl)) pss_nil)))
      (pss_one (ps_ret pe_bl)))), ?_⟩
  have hl := rowsV_len B
  have no : ¬ (1 ≤ B.length ∧ B.length ≤ 9) → Good B = false := fun z => by
    unfold Good
    rw [decide_eq_false z]
    rfl
  -- 1 <= len(rows) <= 9
  refine ⟨_, rfl, a, _, rfl, .inl (SqL.of ha), _, _, rfl, rfl, _, rfl, ?_⟩
  refine iteD (fun c1 => ?_) (fun c1 => ?_)
  rotate_left
  · refine ⟨_, rfl, iteT ?_⟩
    have q' := q _ (.refl _)
    rw [no (by omega)] at q'
    exact q'
  refine ⟨_, _, rfl, rfl, _, rfl, ?_⟩
  refine iteN (fun c2 => ?_) (fun c2 => ?_)
  · have q' := q _ (.refl _)
    rw [no (by omega)] at q'
    exact q'
  -- 1 <= len(rows[0]) <= 9
  obtain ⟨r0, e0, l0, m0⟩ := head_at (B := B) (by intro z; have : B.length = 0 := (by rw [z]; rfl); omega)
  have s0 := hB.row _ m0
  have no2 : ¬ (1 ≤ wid B ∧ wid B ≤ 9) → Good B = false := fun z => by
    unfold Good
    rw [decide_eq_false z, Bool.false_and, Bool.and_false]
  have tl : (txt r0).length = wid B := by rw [txt_len, l0]
  refine ⟨_, rfl, a, _, _, _, rfl, rfl, SqL.of ha, atI_nat (j := 0) (rowsV_get e0), _, rfl, sz_le (by rw [txt_len]; omega), _, _, rfl, rfl, _, rfl, ?_⟩
  refine iteD (fun c3 => ?_) (fun c3 => ?_)
  rotate_left
  · refine ⟨_, rfl, iteT ?_⟩
    have q' := q _ (.refl _)
    rw [no2 (by omega)] at q'
    exact q'
  refine ⟨_, _, rfl, rfl, _, rfl, ?_⟩
  refine iteN (fun c4 => ?_) (fun c4 => ?_)
  · have q' := q _ (.refl _)
    rw [no2 (by omega)] at q'
    exact q'
  have yes : Good B = B.all (rowOk (wid B)) := by
    unfold Good
    rw [decide_eq_true (show 1 ≤ B.length ∧ B.length ≤ 9 by omega), decide_eq_true (show 1 ≤ wid B ∧ wid B ≤ 9 by omega), Bool.true_and, Bool.true_and]
  -- the rows
  refine ⟨_, rfl, a, rfl, ⟨_, SqL.of ha⟩, for_list (K := K) (a := a) (xs := rowsV B) (fun i σ H' => Same H H' ∧ (B.take i).all (rowOk (wid B)) = true ∧ ∃ v w, σ = [some (.ref a), v, w])
    ⟨.refl _, rfl, none, none, rfl⟩ (fun i σ H' _ ⟨e, _⟩ => SqL.of (e _ _ ha)) ?_ ?_⟩
  · rintro i x σ H1 hi ⟨s1, al, v, w, rfl⟩
    obtain ⟨r, er, rfl⟩ := rowsV_inv hi
    have mr : r ∈ B := List.mem_of_getElem? er
    have sr := hB.row _ mr
    have bad : rowOk (wid B) r = false → Good B = false := fun z => by
      rw [yes]
      rw [Bool.eq_false_iff]
      intro t
      rw [List.all_eq_true] at t
      rw [t r mr] at z
      cases z
    refine ⟨_, rfl, _, rfl, sz_le (by rw [txt_len]; omega), _, rfl, a, _, _, _, rfl, rfl, SqL.of (s1 _ _ ha), atI_nat (j := 0) (rowsV_get e0), _, rfl, sz_le (by rw [txt_len]; omega), rfl, _, rfl, ?_⟩
    refine iteN (fun c5 => ?_) (fun c5 => ?_)
    · refine iteT ?_
      have q' := q _ s1
      rw [bad (by
        unfold rowOk
        rw [decide_eq_false (fun z => c5 (by rw [txt_len, txt_len, z, l0])), Bool.false_and])] at q'
      exact q'
    have c5' : r.length = wid B := by
      have e : (((txt r).length : Nat) : Int) = (((txt r0).length : Nat) : Int) := V.int.inj c5
      rw [txt_len, txt_len] at e
      omega
    -- all([letter in 'nw.' for letter in row])
    refine ⟨_, rfl, _, rfl, fun D hD => lc_it walk_str (fun j H' => Same H1 H' ∧ H' D = some (.lst (((r.take j).map okc).map V.bl))) ⟨same_new hD _, upd_same⟩ (fun _ _ _ _ => trivial) (fun j x H2 H3 hj ⟨s2, h2⟩ ⟨e3, c, ec, ex⟩ => ?_) (fun H2 ⟨s2, h2⟩ => ?_)⟩
    · subst e3 ex
      have ec' := get_txt ec
      refine ⟨rfl, _, rfl, c, _, rfl, rfl, _, h2, sz_lt (by rw [List.length_map, List.length_map, List.length_take]; omega), same_mut s2 hD, ?_⟩
      have ek : decide (c ∈ (Str.ofString "nw.").cps.toList) = okc c := by
        rw [s_nwd]
        rfl
      rw [ek, upd_same, take_map_snoc ec', List.map_append]
      rfl
    · rw [txt_size, List.take_length] at h2
      refine ⟨_, _, rfl, SqL.of h2, _, rfl, ?_⟩
      have ea : (r.map okc).all id = r.all okc := by rw [List.all_map]; rfl
      rw [ea]
      refine iteNB (fun c6 => ?_) (fun c6 => ?_)
      · have q' := q _ (s1.trans s2)
        rw [bad (by
          unfold rowOk
          rw [c6, Bool.and_false])] at q'
        exact q'
      · refine ⟨s1.trans s2, all_take al er ?_, _, _, rfl⟩
        unfold rowOk
        rw [decide_eq_true c5', c6]
        rfl
  · rintro σ H1 ⟨s1, al, v, w, rfl⟩
    have q' := q _ s1
    rw [rowsV_len, List.take_length] at al
    rw [yes, al] at q'
    exact q'
/-- Board(rows): the rows are looked at, then kept in a new list -/
def sp_Board_init (C CB : Addr) : Sp := fun vs H Q E => ∃ (p dx a : Addr) (B : Bd), vs = [.ref p, .ref a] ∧ H p = some (.ins C dx []) ∧ H a = some (.lst (rowsV B)) ∧ Small B ∧
  (Good B = false → ∀ H', Same H H' → E (.ref CB) none H') ∧
  (Good B = true → ∀ (H' : Hp) (l : Addr), (∀ b o, H b = some o → b ≠ p → H' b = some o) → H l = none → BoardAt C H' p l B → Q .non H')
theorem ok_Board_init (T : Top K mg) : FnOk P w K mg base (L2.CX P w) 2 T.a_Board___init__ T.d_Board___init__ ["self", "rows"] (sp_Board_init T.C_Board T.C_BadBoard) := by
  refine T.F_Board___init__.okX sc_Board___init__ (fun vs H Q E h => ?_) (fun cdv A outer s H vs Q E hr h => ?_)
  · obtain ⟨_, _, _, _, rfl, _⟩ := h
    rfl
  obtain ⟨p, dx, a, B, rfl, hp, ha, hB, qb, qg⟩ := h
  refine ⟨_, (pss_cons (ps_if (pt_not (pt_val (pe_call (ok_board_right T) (hr.mono (by decide)) rfl T.m_board_right T.F_board_right.kp T.B_board_right .nil pass0 (pa_cons (pv 1) pa_nil))))
      (pss_one (ps_raise rfl (takes_of rfl rfl rfl rfl) (pmk_own PySem.F.excBase_ValueError T.x_BadBoard T.mC_BadBoard T.k_BadBoard (raises_own T.b_BadBoard T.t_BadBoard) rfl))) pss_nil)
      (pss_cons (ps_fld (pv 0) (pe_callTy call_list_of (by rfl) T.z_list (by decide +kernel) (pa_cons (pv 1) pa_nil)) rfl)
      (pss_cons (ps_fld (pv 0) (pe_callB call_len_seq (by rfl) T.z_len PySem.boot_len (pa_cons (pv 1) pa_nil)) rfl)
      (pss_one (ps_fld (pv 0) (pe_callB call_len_str (by rfl) T.z_len PySem.boot_len (pa_cons (pe_ix ix_list (pv 1) pe_int (fun _ _ => rfl)) pa_nil)) rfl))))), ?_⟩
  refine ⟨_, rfl, a, B, rfl, ha, hB, fun H1 s1 => ?_⟩
  refine ⟨_, rfl, iteNB (fun c => ?_) (fun c => ?_)⟩
  · exact qb c _ s1
  -- self.rows = list(rows)
  obtain ⟨r0, e0, l0, m0⟩ := head_at (B := B) (by
    have := (good_is c).h1
    intro z
    rw [z] at this
    exact absurd this (by decide))
  have hp1 := s1 _ _ hp
  have ha1 := s1 _ _ ha
  refine ⟨_, rfl, a, _, rfl, .inl (SqL.of ha1), fun l hl => ?_⟩
  have npl : p ≠ l := ne_of_none hp1 hl
  have nal : a ≠ l := ne_of_none ha1 hl
  have npa : a ≠ p := ne_of ha1 hp1 (by intro z; cases z)
  refine ⟨_, rfl, p, T.C_Board, dx, [], rfl, (by rw [upd_ne npl]; exact hp1), T.cl_Board, T.n_Board_rows, (by show 0 < 1000; decide), ?_⟩
  have ha2 : ∀ o, upd (upd H1 l (.lst (rowsV B))) p o a = some (.lst (rowsV B)) := fun o => by rw [upd_ne npa, upd_ne nal]; exact ha1
  have ha3 : ∀ o u, upd (upd (upd H1 l (.lst (rowsV B))) p o) p u a = some (.lst (rowsV B)) := fun o u => by rw [upd_ne npa]; exact ha2 o
  -- self.height = len(rows); self.width = len(rows[0])
  refine ⟨_, rfl, a, _, rfl, .inl (SqL.of (ha2 _)), _, rfl, p, T.C_Board, dx, _, rfl, upd_same, T.cl_Board, T.n_Board_height, (by show 1 < 1000; decide), ?_⟩
  refine ⟨_, rfl, a, _, _, _, rfl, rfl, SqL.of (ha3 _ _), atI_nat (j := 0) (rowsV_get e0), _, rfl, sz_le (by rw [txt_len]; have := hB.row _ m0; omega), _, rfl, p, T.C_Board, dx, _, rfl, upd_same, T.cl_Board, T.n_Board_width, ?_, ?_⟩
  · show List.length (putF "height" (.int ((rowsV B).length : Int)) [("rows", .ref l)]) < 1000
    rw [pt_p (by decide +kernel)]
    show 2 < 1000
    decide
  refine qg c _ l (fun b o hb nb => ?_) (s1.free hl) ⟨⟨dx, ?_⟩, ?_⟩
  · rw [upd_ne nb, upd_ne nb, upd_ne nb, upd_ne (ne_of_none (s1 _ _ hb) hl)]
    exact s1 _ _ hb
  · rw [upd_same]
    refine congrArg (fun z => some (HO.ins T.C_Board dx z)) ?_
    rw [rowsV_len, txt_len, l0]
    exact bfl_new l B.length (wid B)
  · rw [upd_ne npl.symm, upd_ne npl.symm, upd_ne npl.symm, upd_same]
/-- what follows of Board(..): the new board, all else as it was -/
theorem made_board {C p dx : Addr} {H H' : Hp} (hp : H p = none) (hd : H dx = none) (k : ∀ b o, upd (upd H dx (.own p)) p (.ins C dx []) b = some o → b ≠ p → H' b = some o) : Same H H' := fun b o e =>
  k b o (by rw [upd_ne (ne_of_none e hp), upd_ne (ne_of_none e hd)]; exact e) (ne_of_none e hp)
/-- Board(e) where e is worth a list of good rows -/
theorem make_board {C CB : Addr} {t : TA} {σ : L2.St} {H : Hp} {Q : VK} {B : Bd} {h w : Nat} (I : IsB B h w)
    (ht : ∀ R : List V → Hp → Prop, (∀ (n : Addr) (H1 : Hp), Same H H1 → H1 n = some (.lst (rowsV B)) → R [.ref n] H1) → t σ H R)
    (k : ∀ (o l : Addr) (H' : Hp), Same H H' → H o = none → H l = none → BoardAt C H' o l B → Q (.ref o) H') : tMake C (sp_Board_init C CB) [] E0 t σ H Q := by
  refine ht _ fun n H1 s1 hn o d no nd ndo => ?_
  have so := ((same_new nd (.own o)).trans (same_new (by rw [upd_ne (Ne.symm ndo)]; exact no) (.ins C d [])))
  refine ⟨o, d, n, _, rfl, upd_same, so _ _ hn, I.small, fun hb => ?_, fun _ H5 l5 k5 n5 b5 => ⟨rfl, ?_⟩⟩
  · rw [I.good] at hb
    cases hb
  · exact k o l5 H5 (s1.trans (made_board no nd k5)) (s1.free no) ((s1.trans so).free n5) b5
theorem q_make {C CB : Addr} {i : Nat} {t : TA} {tz : TS} {D : Ends} {σ : L2.St} {H : Hp} {B : Bd} {h w : Nat} (I : IsB B h w)
    (ht : ∀ R : List V → Hp → Prop, (∀ (n : Addr) (H1 : Hp), Same H H1 → H1 n = some (.lst (rowsV B)) → R [.ref n] H1) → t σ H R)
    (k : ∀ (o l : Addr) (H' : Hp), Same H H' → H o = none → H l = none → BoardAt C H' o l B → tz D (σ.set i (some (.ref o))) H') : tSeq (tAsg (tMake C (sp_Board_init C CB) [] E0 t) (gName i)) tz D σ H :=
  make_board (Q := fun v H1 => tz D (σ.set i (some v)) H1) I ht k
end
end Sw
namespace Sw
open PySem PySem.Spec PyProof.Rows L2
section
variable {P : Program} {w : World} {K : PySem.W.Frag} {mg : Str → Option Value} {base : Heap}
/-! has, sign, laid, other, turned_over, empty -/
theorem join_txt : ∀ l : List Nat, Txt.join (txt []) (l.map fun c => txt [c]) = txt l := by
  intro l
  show Builtin.Str.glued _ _ = _
  rw [PySem.StrLaws.glued_eq_join]
  induction l with
  | nil => rfl
  | cons a l ih =>
    cases l with
    | nil => rfl
    | cons b l =>
      rw [List.map_cons, List.map_cons]
      show txt [a] ++ txt [] ++ Str.join (txt []) (txt [b] :: l.map fun c => txt [c]) = _
      rw [← List.map_cons (f := fun c => txt [c]), ih, txt_app, txt_app]
      rfl
def sp_has (C : Addr) : Sp := fun vs H Q _ => ∃ (p l : Addr) (B : Bd) (h w : Nat) (r c : Int), vs = [.ref p, .int r, .int c] ∧ BoardAt C H p l B ∧ IsB B h w ∧ Q (.bl (decide (Ins h w (r, c)))) H
theorem ok_Board_has (T : Top K mg) : FnOk P w K mg base CX0 1 T.a_Board_has T.d_Board_has ["self", "r", "c"] (sp_has T.C_Board) := by
  refine T.F_Board_has.ok sc_Board_has (fun vs H Q E h => ?_) (fun cdv A outer s H vs Q E hr h => ?_)
  · obtain ⟨_, _, _, _, _, _, _, rfl, _⟩ := h
    rfl
  obtain ⟨p, l, B, h, w, r, c, rfl, ⟨⟨dx, hp⟩, hl⟩, I, q⟩ := h
  rw [I.hh, I.wid] at hp
  refine ⟨_, (pss_one (ps_ret (pe_and (pe_chain op_le op_lt pe_int (pv 1) (pe_fld (pv 0) rfl)) (pe_one (pe_chain op_le op_lt pe_int (pv 2) (pe_fld (pv 0) rfl)))))), ?_⟩
  have no : ¬ Ins h w (r, c) → Q (.bl false) H := fun z => by
    rw [decide_eq_false z] at q
    exact q
  refine ⟨_, rfl, _, _, rfl, rfl, _, rfl, ?_⟩
  refine iteD (fun c1 => ?_) (fun c1 => ⟨_, rfl, iteF (no fun z => c1 z.1)⟩)
  refine ⟨_, rfl, p, _, dx, _, _, rfl, hp, T.cl_Board, T.n_Board_height, bfl_height _ _ _, _, _, rfl, rfl, _, rfl, ?_⟩
  refine iteD (fun c2 => ?_) (fun c2 => no fun z => c2 z.2.1)
  refine ⟨_, rfl, _, _, rfl, rfl, _, rfl, ?_⟩
  refine iteD (fun c3 => ?_) (fun c3 => no fun z => c3 z.2.2.1)
  refine ⟨_, rfl, p, _, dx, _, _, rfl, hp, T.cl_Board, T.n_Board_width, bfl_width _ _ _, _, _, rfl, rfl, ?_⟩
  by_cases c4 : c < (w : Int)
  · rw [decide_eq_true (show Ins h w (r, c) from ⟨c1, c2, c3, c4⟩)] at q
    show Q (.bl (decide (c < (w : Int)))) H
    rw [decide_eq_true c4]
    exact q
  · show Q (.bl (decide (c < (w : Int)))) H
    rw [decide_eq_false c4]
    exact no fun z => c4 z.2.2.2
end
end Sw
namespace Sw
open PySem PySem.Spec PyProof.Rows L2
section
variable {P : Program} {w : World} {K : PySem.W.Frag} {mg : Str → Option Value} {base : Heap}
theorem sg_eq {x y : Nat} : V.str (txt [x]) = V.str (txt [y]) ↔ x = y := by
  constructor
  · intro h
    have := txt_inj (V.str.inj h)
    exact (List.cons.inj this).1
  · intro h
    rw [h]
def sp_empty (C : Addr) : Sp := fun vs H Q _ => ∃ (p l : Addr) (B : Bd) (h w : Nat), vs = [.ref p] ∧ BoardAt C H p l B ∧ IsB B h w ∧ ∀ v H', NewCells H (emptyL B) v H' → Q v H'
theorem ok_empty (T : Top K mg) : FnOk P w K mg base CX0 1 T.a_empty T.d_empty ["board"] (sp_empty T.C_Board) := by
  refine T.F_empty.ok sc_empty (fun vs H Q E h => ?_) (fun cdv A outer s H vs Q E hr h => ?_)
  · obtain ⟨_, _, _, _, _, rfl, _⟩ := h
    rfl
  obtain ⟨p, l, B, h, w, rfl, ⟨⟨dx, hp⟩, hl⟩, I, q⟩ := h
  rw [I.hh, I.wid] at hp
  refine ⟨_, (pss_cons (ps_set (i := 1) sc_empty.nd rfl (Or.inl rfl) (pe_lst pa_nil))
      (pss_cons (ps_for PassesOwn.never rfl (pi_enum (by rfl) T.z_enumerate (pa_cons (pe_fld (pv 0) rfl) pa_nil)) (pg_tup rfl (pgs_cons (pg_name (i := 2) sc_empty.nd rfl (Or.inr rfl)) (pgs_cons (pg_name (i := 3) sc_empty.nd rfl (Or.inl rfl)) pgs_nil)))
      (pss_one (ps_expr (pe_bm PySem.F.plainAttrs_list PySem.F.slot_list_extend PySem.F.type_list_extend mt_extend (pv 1) (pa_cons (pe_lc (own := [("c", 4), ("letter", 5)]) (g := gTup K 2 (gCons (gName 4) (gCons (gName 5) gNil))) rfl sc_empty.nd (pi_enumS (by rfl) T.z_enumerate (pa_cons (pv 3) pa_nil)) (blkOk_by (own := [("c", 4), ("letter", 5)]) (N := N_empty) (sc := defScope s_empty) (by decide +kernel)) (fun _ _ _ _ _ => (pg_tup rfl (pgs_cons (pg_name (i := 4) sc_empty.nd rfl (Or.inl rfl)) (pgs_cons (pg_name (i := 5) sc_empty.nd rfl (Or.inl rfl)) pgs_nil)))) (fun _ _ _ _ _ => pts_one (pt_cmpR op_eq (pv 5) pe_str (nomark _))) (fun _ _ _ _ _ => (pe_tup (pa_cons (pv 2) (pa_cons (pv 4) pa_nil))))) pa_nil)))))
      (pss_one (ps_ret (pv 1))))), ?_⟩
  have h9 := I.h9
  have w9 := I.w9
  refine ⟨sz0, fun n hn => ?_⟩
  have s1 := same_new hn (.lst [])
  refine ⟨_, rfl, p, _, dx, _, _, rfl, s1 _ _ hp, T.cl_Board, T.n_Board_rows, bfl_rows _ _ _, l, _, rfl, SqL.of (s1 _ _ hl),
    for_it walk_enum (fun i σ H' => Same H H' ∧ ∃ ws, H' n = some (.lst ws) ∧ Cells H' ws (emptyTo B i) ∧ ∃ v1 v2 v3 v4, σ = [some (.ref p), some (.ref n), v1, v2, v3, v4]) ⟨s1, [], upd_same, .nil, _, _, _, _, rfl⟩ (fun i σ H' _ ⟨s, _⟩ => SqL.of (s _ _ hl)) ?_ ?_⟩
  · rintro i x σ H1 H2 hi ⟨s1, ws, hn1, hc, v1, v2, v3, v4, rfl⟩ ⟨t, x1, x2, rfl, ht, rfl, ex1, ex2⟩
    cases ex1
    obtain ⟨row, ey, rfl⟩ := rowsV_inv ex2
    have s2 := same_new ht (.tup [.int (i : Int), rowV row])
    have ht2 : upd H1 t (.tup [.int (i : Int), rowV row]) t = some (.tup [.int (i : Int), rowV row]) := upd_same
    revert s2 ht2
    generalize upd H1 t (.tup [.int (i : Int), rowV row]) = H2
    intro s2 ht2
    have lrow := I.ww _ (List.mem_of_getElem? ey)
    have hi' : i < h := by
      rw [rowsV_len, I.hh] at hi
      exact hi
    have lc := hc.len
    have le := emptyTo_len I i (by omega)
    have lm : i * w ≤ 9 * 9 := Nat.mul_le_mul (by omega) w9
    refine ⟨t, _, rfl, SqT.of ht2, rfl, _, _, rfl, _, _, rfl, rfl, ?_⟩
    refine ⟨_, rfl, .inl ⟨rfl, _, SqL.of (s2 _ _ hn1)⟩, _, rfl, txt row, rfl, fun D hD =>
      lc_it walk_enumS (fun j H' => Same H2 H' ∧ ∃ ws2, H' D = some (.lst ws2) ∧ Cells H' ws2 (rowEt i row j)) ⟨same_new hD _, [], upd_same, .nil⟩ (fun _ _ _ _ => trivial)
        (fun j x H3 H4 hj ⟨s3, ws2, hD2, hc2⟩ ⟨T, c, e1, hT, e2, ec⟩ => ?_) (fun H3 ⟨s3, ws2, hD2, hc2⟩ => ?_)⟩
    · subst e1 e2
      rw [txt_size] at hj
      have ec' := get_txt ec
      have eg : row.getD j 0 = c := by
        rw [List.getD_eq_getElem?_getD, ec']
        rfl
      have s4 := same_new hT (.tup [.int (j : Int), .str ⟨#[c]⟩])
      refine ⟨T, _, rfl, SqT.of upd_same, rfl, _, _, rfl, _, _, rfl, rfl, rfl, _, rfl, rfl, _, rfl, ?_⟩
      refine iteD (fun z => ?_) (fun z => ?_)
      · rw [s_dot] at z
        have ez : row.getD j 0 = 46 := by
          rw [eg]
          exact sg_eq.mp z
        refine ⟨_, rfl, _, rfl, sz2, fun t2 ht2' => ?_⟩
        have s5 := s4.trans (same_new ht2' (.tup (cellV ((i : Int), (j : Int)))))
        have lw := hc2.len
        have lw2 := rowEt_len i row j
        have hD5 := s5 _ _ hD2
        refine ⟨ws2, hD5, sz_lt (by omega), same_mut (s3.trans s5) hD, ws2 ++ [.ref t2], upd_same, ?_⟩
        rw [rowEt_yes ez]
        refine ((hc2.same s5).app (.one ?_)).tps (.lst hD5)
        exact upd_same
      · rw [s_dot] at z
        refine ⟨s3.trans s4, ws2, s4 _ _ hD2, ?_⟩
        rw [rowEt_no (fun e => z (by rw [eg] at e; rw [e]; rfl))]
        exact hc2.same s4
    · rw [txt_size] at hc2
      have s6 := s2.trans s3
      have lw := hc2.len
      have lw2 := rowEt_len i row row.length
      have hn3 := s6 _ _ hn1
      refine ⟨n, D, ws, ws2, rfl, rfl, hn3, hD2, sz_le (by omega), ?_⟩
      refine ⟨same_mut (s1.trans s6) hn, ws ++ ws2, upd_same, ?_, _, _, _, _, rfl⟩
      have eg : B.getD i [] = row := by
        rw [List.getD_eq_getElem?_getD, ey]
        rfl
      rw [emptyTo_succ, eg]
      exact ((hc.same s6).app hc2).tps (.lst hn3)
  · rintro σ H1 ⟨s1, ws, hn1, hc, v1, v2, v3, v4, rfl⟩
    rw [rowsV_len] at hc
    exact ⟨_, rfl, q _ _ ⟨n, ws, rfl, hn, s1, hn1, hc⟩⟩
end
end Sw
namespace Sw
open PySem PySem.Spec PyProof.Rows L2
section
variable {P : Program} {w : World} {K : PySem.W.Frag} {mg : Str → Option Value} {base : Heap}
/-! owner, walk -/
def ownV : Option Bool → V
  | none => .non
  | some s => .str (txt [lt s])
theorem own_in {B : Bd} {h w : Nat} {q : Cell} (I : IsB B h w) (fc : ∀ x, cel B x ≠ 46) (z : Ins h w q) : ∃ s, own (cel B) h w q = some s ∧ cel B q = lt s := by
  obtain ⟨_, _, _, _, _, ok⟩ := I.at z
  unfold own
  rw [if_pos z]
  rcases ok with e | e | e
  · exact ⟨false, by rw [if_pos e], e⟩
  · exact ⟨true, by rw [if_neg (by rw [e]; decide)], e⟩
  · exact absurd e (fc q)
def sp_owner (C : Addr) : Sp := fun vs H Q _ => ∃ (p l : Addr) (B : Bd) (h w : Nat) (t : Addr) (x : Cell), vs = [.ref p, .ref t] ∧ BoardAt C H p l B ∧ IsB B h w ∧ (∀ y, cel B y ≠ 46) ∧ H t = some (.tup (cellV x)) ∧ Q (ownV (own (cel B) h w x)) H
theorem ok_owner (T : Top K mg) : FnOk P w K mg base CX0 2 T.a_owner T.d_owner ["board", "place"] (sp_owner T.C_Board) := by
  refine T.F_owner.ok sc_owner (fun vs H Q E h => ?_) (fun cdv A outer s H vs Q E hr h => ?_)
  · obtain ⟨_, _, _, _, _, _, _, rfl, _⟩ := h
    rfl
  obtain ⟨p, l, B, h, w, t, x, rfl, bt, I, fc, ht, q⟩ := h
  obtain ⟨⟨dx, hp⟩, hl⟩ := id bt
  rw [I.hh, I.wid] at hp
  have w9 := I.w9
  refine ⟨_, (pss_cons (ps_asg (pv 1) (pg_tup rfl (pgs_cons (pg_name (i := 2) sc_owner.nd rfl (Or.inl rfl)) (pgs_cons (pg_name (i := 3) sc_owner.nd rfl (Or.inl rfl)) pgs_nil))))
      (pss_cons (ps_if (pt_val (pe_meth (pv 0) T.cl_Board T.M_Board_has (ok_Board_has T) (hr.mono (by decide)) T.B_Board_has .nil pass0 (pa_cons (pv 2) (pa_cons (pv 3) pa_nil))))
      (pss_one (ps_ret (pe_ix ix_str (pe_ix ix_list (pe_fld (pv 0) rfl) (pv 2) (fun _ _ => rfl)) (pv 3) (fun _ _ => rfl)))) pss_nil)
      (Evl.pss_cut (ps_if (PW.pt (pw_or (PW.pt (pw_and (pt_cmpR op_eq (pv 2) (pe_un un_neg pe_int) (nomark _)) (pw_and1 (pt_chain op_le op_le pe_int (pv 3) (pe_fld (pv 0) rfl))))) (pw_or1 (PW.pt (pw_and (pt_cmpR op_eq (pv 2) (pe_fld (pv 0) rfl) (nomark _)) (pw_and1 (pt_chain op_le op_lt (pe_un un_neg pe_int) (pv 3) (pe_fld (pv 0) rfl))))))))
      (pss_one (ps_ret pe_str)) pss_nil)
      (pss_cons (ps_if (PW.pt (pw_and (pt_chain op_le op_lt pe_int (pv 2) (pe_fld (pv 0) rfl)) (pw_and1 (PW.pt (pw_or (pt_cmpR op_eq (pv 3) (pe_un un_neg pe_int) (nomark _)) (pw_or1 (pt_cmpR op_eq (pv 3) (pe_fld (pv 0) rfl) (nomark _))))))))
      (pss_one (ps_ret pe_str)) pss_nil)
      (pss_one (ps_ret pe_non)))))), ?_⟩
  refine ⟨_, rfl, t, _, rfl, SqT.of ht, rfl, _, _, rfl, _, _, rfl, rfl, ?_⟩
  refine ⟨_, rfl, p, dx, _, rfl, hp, bfl_has _ _ _, _, rfl, _, rfl, p, l, B, h, w, x.1, x.2, rfl, bt, I, _, rfl, iteD (fun z => ?_) (fun z => ?_)⟩
  · obtain ⟨s, eo, ec⟩ := own_in I fc (q := x) z
    obtain ⟨row, er, mr, lr, ecel, _⟩ := I.at (p := x) z
    rw [ec] at ecel
    rw [eo] at q
    exact ⟨_, rfl, p, _, dx, _, _, rfl, hp, T.cl_Board, T.n_Board_rows, bfl_rows _ _ _, _, rfl, l, _, _, _, rfl, rfl, SqL.of hl, at_int z.1 (rowsV_get er), _, rfl, _, _, _, rfl, rfl, sz_le (by rw [txt_len, lr]; omega), atI_cps z.2.2.1 ecel, q⟩
  have z' : ¬ Ins h w x := z
  have yn : (x.1 = -1 ∧ 0 ≤ x.2 ∧ x.2 ≤ (w : Int)) ∨ (x.1 = (h : Int) ∧ -1 ≤ x.2 ∧ x.2 < (w : Int)) → Q (.str (Str.ofString "n")) H := fun k => by
    have eo : own (cel B) h w x = some false := by
      unfold own
      rw [if_neg z', if_pos k]
    rw [eo] at q
    rw [s_n]
    exact q
  have yw : ¬ ((x.1 = -1 ∧ 0 ≤ x.2 ∧ x.2 ≤ (w : Int)) ∨ (x.1 = (h : Int) ∧ -1 ≤ x.2 ∧ x.2 < (w : Int))) → (0 ≤ x.1 ∧ x.1 < (h : Int) ∧ (x.2 = -1 ∨ x.2 = (w : Int))) → Q (.str (Str.ofString "w")) H := fun k m => by
    have eo : own (cel B) h w x = some true := by
      unfold own
      rw [if_neg z', if_neg k, if_pos m]
    rw [eo] at q
    rw [s_w]
    exact q
  have yo : ¬ ((x.1 = -1 ∧ 0 ≤ x.2 ∧ x.2 ≤ (w : Int)) ∨ (x.1 = (h : Int) ∧ -1 ≤ x.2 ∧ x.2 < (w : Int))) → ¬ (0 ≤ x.1 ∧ x.1 < (h : Int) ∧ (x.2 = -1 ∨ x.2 = (w : Int))) → Q .non H := fun k m => by
    have eo : own (cel B) h w x = none := by
      unfold own
      rw [if_neg z', if_neg k, if_neg m]
    rw [eo] at q
    exact q
  refine ⟨fun σ H' => H = H' ∧ ¬ ((x.1 = -1 ∧ 0 ≤ x.2 ∧ x.2 ≤ (w : Int)) ∨ (x.1 = (h : Int) ∧ -1 ≤ x.2 ∧ x.2 < (w : Int))) ∧ σ = [some (.ref p), some (.ref t), some (.int x.1), some (.int x.2)], ?_, ?_⟩
  · by_cases c1 : x.1 = -1
    · refine ⟨_, rfl, _, rfl, rfl, _, rfl, iteD (fun _ => ?_) (fun y => absurd (congrArg V.int c1) y)⟩
      by_cases c2 : 0 ≤ x.2
      · refine ⟨_, rfl, _, _, rfl, rfl, _, rfl, iteD (fun _ => ?_) (fun y => absurd c2 y)⟩
        refine ⟨_, rfl, p, _, dx, _, _, rfl, hp, T.cl_Board, T.n_Board_width, bfl_width _ _ _, _, _, rfl, rfl, _, rfl, iteD (fun c3 => yn (.inl ⟨c1, c2, c3⟩)) (fun c3 => ?_)⟩
        refine ⟨_, rfl, _, rfl, p, _, dx, _, _, rfl, hp, T.cl_Board, T.n_Board_height, bfl_height _ _ _, rfl, _, rfl, iteD (fun d1 => ?_) (fun d1 => iteF ⟨rfl, by omega, rfl⟩)⟩
        exfalso
        have := V.int.inj d1
        omega
      · refine ⟨_, rfl, _, _, rfl, rfl, _, rfl, iteD (fun y => absurd y c2) (fun _ => ⟨_, rfl, iteF ?_⟩)⟩
        refine ⟨_, rfl, _, rfl, p, _, dx, _, _, rfl, hp, T.cl_Board, T.n_Board_height, bfl_height _ _ _, rfl, _, rfl, iteD (fun d1 => ?_) (fun d1 => iteF ⟨rfl, by omega, rfl⟩)⟩
        exfalso
        have := V.int.inj d1
        omega
    · refine ⟨_, rfl, _, rfl, rfl, _, rfl, iteD (fun y => absurd (V.int.inj y) c1) (fun _ => iteF ?_)⟩
      by_cases d1 : x.1 = (h : Int)
      · refine ⟨_, rfl, _, rfl, p, _, dx, _, _, rfl, hp, T.cl_Board, T.n_Board_height, bfl_height _ _ _, rfl, _, rfl, iteD (fun _ => ?_) (fun y => absurd (congrArg V.int d1) y)⟩
        by_cases d2 : -1 ≤ x.2
        · refine ⟨_, rfl, _, rfl, _, _, rfl, rfl, _, rfl, iteD (fun _ => ?_) (fun y => absurd d2 y)⟩
          exact ⟨_, rfl, p, _, dx, _, _, rfl, hp, T.cl_Board, T.n_Board_width, bfl_width _ _ _, _, _, rfl, rfl, _, rfl, iteD (fun d3 => yn (.inr ⟨d1, d2, d3⟩)) (fun d3 => ⟨rfl, (fun k => k.elim (fun k => c1 k.1) (fun k => d3 k.2.2)), rfl⟩)⟩
        · exact ⟨_, rfl, _, rfl, _, _, rfl, rfl, _, rfl, iteD (fun y => absurd y d2) (fun _ => ⟨_, rfl, iteF ⟨rfl, (fun k => k.elim (fun k => c1 k.1) (fun k => d2 k.2.1)), rfl⟩⟩)⟩
      · exact ⟨_, rfl, _, rfl, p, _, dx, _, _, rfl, hp, T.cl_Board, T.n_Board_height, bfl_height _ _ _, rfl, _, rfl, iteD (fun y => absurd (V.int.inj y) d1) (fun _ => iteF ⟨rfl, (fun k => k.elim (fun k => c1 k.1) (fun k => d1 k.1)), rfl⟩)⟩
  rintro σ H' ⟨rfl, nn, rfl⟩
  by_cases c1 : 0 ≤ x.1
  · refine ⟨_, rfl, _, _, rfl, rfl, _, rfl, iteD (fun _ => ?_) (fun y => absurd c1 y)⟩
    refine ⟨_, rfl, p, _, dx, _, _, rfl, hp, T.cl_Board, T.n_Board_height, bfl_height _ _ _, _, _, rfl, rfl, _, rfl, iteD (fun c2 => ?_) (fun c2 => yo nn fun k => c2 k.2.1)⟩
    refine ⟨_, rfl, _, rfl, rfl, _, rfl, iteD (fun c3 => yw nn ⟨c1, c2, .inl (V.int.inj c3)⟩) (fun c3 => ?_)⟩
    refine ⟨_, rfl, _, rfl, p, _, dx, _, _, rfl, hp, T.cl_Board, T.n_Board_width, bfl_width _ _ _, rfl, _, rfl, iteD (fun c4 => yw nn ⟨c1, c2, .inr (V.int.inj c4)⟩) (fun c4 => yo nn fun k => ?_)⟩
    rcases k.2.2 with k | k
    · exact c3 (congrArg V.int k)
    · exact c4 (congrArg V.int k)
  · exact ⟨_, rfl, _, _, rfl, rfl, _, rfl, iteD (fun y => absurd y c1) (fun _ => ⟨_, rfl, iteF (yo nn fun k => c1 k.1)⟩)⟩
theorem area2 {B : Bd} {h w : Nat} (I : IsB B h w) : 6 * ((h + 2) * (w + 2)) ≤ 726 := by
  have h9 := I.h9
  have w9 := I.w9
  have : (h + 2) * (w + 2) ≤ 11 * 11 := Nat.mul_le_mul (by omega) (by omega)
  omega
/-- what walk tells -/
def WalkIs (H : Hp) (B : Bd) (h w : Nat) (v : V) (H' : Hp) : Prop := ∃ (f : Addr) (ws : List V) (ps : List Pr) (x : Pr), v = .ref f ∧ H f = none ∧ Same H H' ∧ H' f = some (.lst ws) ∧ Pairs H' ws ps ∧ Wk (cel B) h w ps x ∧ stp (cel B) h w x = none
def sp_walk (C CN : Addr) : Sp := fun vs H Q E => ∃ (p l : Addr) (B : Bd) (h w : Nat), vs = [.ref p] ∧ BoardAt C H p l B ∧ IsB B h w ∧ (emptyL B ≠ [] → ∀ H', Same H H' → E (.ref CN) none H') ∧
  (emptyL B = [] → ∀ v H', WalkIs H B h w v H' → Q v H')
theorem ok_walk (T : Top K mg) : FnOk P w K mg base (L2.CX P w) 4 T.a_walk T.d_walk ["board"] (sp_walk T.C_Board T.C_NotFull) := by
  refine T.F_walk.okX sc_walk (fun vs H Q E h => ?_) (fun cdv A outer s H vs Q E hr h => ?_)
  · obtain ⟨_, _, _, _, _, rfl, _⟩ := h
    rfl
  obtain ⟨p, l, B, h, w, rfl, bt, I, qe, qs⟩ := h
  refine ⟨_, (pss_cons (ps_if (pt_cmpR op_gt (pe_callB call_len_seq (by rfl) T.z_len PySem.boot_len (pa_cons (pe_call (ok_empty T) (hr.mono (by decide)) rfl T.m_empty T.F_empty.kp T.B_empty .nil pass0 (pa_cons (pv 0) pa_nil)) pa_nil)) pe_int (nomark _))
      (pss_one (ps_raise rfl (takes_of rfl rfl rfl rfl) (pmk_own PySem.F.excBase_ValueError T.x_NotFull T.mC_NotFull T.k_NotFull (raises_own T.b_NotFull T.t_NotFull) rfl))) pss_nil)
      (pss_cons (ps_asg (pe_tup (pa_cons (pe_tup (pa_cons (pe_un un_neg pe_int) (pa_cons pe_int pa_nil))) (pa_cons (pe_tup (pa_cons pe_int (pa_cons (pe_un un_neg pe_int) pa_nil))) pa_nil))) (pg_tup rfl (pgs_cons (pg_name (i := 2) sc_walk.nd rfl (Or.inl rfl)) (pgs_cons (pg_name (i := 3) sc_walk.nd rfl (Or.inl rfl)) pgs_nil))))
      (pss_cons (ps_set (i := 1) sc_walk.nd rfl (Or.inl rfl) (pe_lst pa_nil))
      (pss_one (ps_while (passes_of rfl) (pt_val pe_bl)
      (pss_cons (ps_expr (pe_bm PySem.F.plainAttrs_list PySem.F.slot_list_append PySem.F.type_list_append mt_append (pv 1) (pa_cons (pe_tup (pa_cons (pv 2) (pa_cons (pv 3) pa_nil))) pa_nil)))
      (pss_cons (ps_set (i := 4) sc_walk.nd rfl (Or.inl rfl) (pe_call (ok_near T) (hr.mono (by decide)) rfl T.m_near T.F_near.kp T.B_near .nil pass0 (pa_cons (pe_ix ix_tup (pv 3) pe_int (fun _ _ => rfl)) (pa_cons (pe_ix ix_tup (pv 3) pe_int (fun _ _ => rfl)) pa_nil))))
      (pss_cons (ps_set (i := 5) sc_walk.nd rfl (Or.inl rfl) (pe_ix ix_list (pv 4) (pe_op op_mod (pe_op op_add (pe_bm PySem.F.plainAttrs_list PySem.F.slot_list_index PySem.F.type_list_index (mt_indexD (hu65 hr)) (pv 4) (pa_cons (pv 2) pa_nil)) pe_int) pe_int) (fun _ _ => rfl)))
      (pss_cons (ps_set (i := 6) sc_walk.nd rfl (Or.inl rfl) (pe_call (ok_owner T) (hr.mono (by decide)) rfl T.m_owner T.F_owner.kp T.B_owner .nil pass0 (pa_cons (pv 0) (pa_cons (pv 5) pa_nil))))
      (pss_cons (ps_if (pt_cmpR op_isN (pv 6) pe_non (nomark _))
      (pss_one (ps_ret (pv 1))) pss_nil)
      (pss_one (ps_if (pt_cmpR op_eq (pv 6) pe_str (nomark _))
      (pss_one (ps_set (i := 2) sc_walk.nd rfl (Or.inl rfl) (pv 5))) (pss_one (ps_set (i := 3) sc_walk.nd rfl (Or.inl rfl) (pv 5))))))))))))))), ?_⟩
  refine ⟨_, rfl, p, l, B, h, w, rfl, bt, I, fun v H1 ⟨n, ws, ev, nn, s1, hn, hc⟩ => ?_⟩
  subst ev
  have lw := hc.len
  refine ⟨n, _, rfl, .inl (SqL.of hn), _, _, rfl, rfl, _, rfl, iteD (fun c => ?_) (fun c => ?_)⟩
  · refine qe (fun z => ?_) _ s1
    rw [z] at lw
    have : ws.length = 0 := lw
    omega
  have z : emptyL B = [] := by
    cases e : emptyL B with
    | nil => rfl
    | cons a as =>
      exfalso
      rw [e, List.length_cons] at lw
      omega
  have fc : ∀ y, cel B y ≠ 46 := fun y e => by
    have := mem_emptyL.mpr e
    rw [z] at this
    cases this
  have hq := qs z
  have a2 := area2 I
  -- one, two; found
  refine ⟨_, rfl, sz2, fun a ha => ?_⟩
  have sa := same_new ha (.tup (cellV st0.1))
  have ha1 : upd H1 a (.tup (cellV st0.1)) a = some (.tup (cellV st0.1)) := upd_same
  refine ⟨_, rfl, sz2, fun b hb => ?_⟩
  have sb := same_new hb (.tup (cellV st0.2))
  have ha2 := sb _ _ ha1
  have hb2 : upd (upd H1 a (.tup (cellV st0.1))) b (.tup (cellV st0.2)) b = some (.tup (cellV st0.2)) := upd_same
  refine ⟨sz2, fun tt htt => ?_⟩
  have stt := same_new htt (.tup [V.ref a, V.ref b])
  refine ⟨tt, _, rfl, SqT.of upd_same, rfl, _, _, rfl, _, _, rfl, rfl, ?_⟩
  refine ⟨sz0, fun f hf => ?_⟩
  have s2 := s1.trans (sa.trans (sb.trans stt))
  replace ha2 := stt _ _ ha2
  replace hb2 := stt _ _ hb2
  have nf : H f = none := s2.free hf
  have sf := same_new hf (.lst [])
  -- the loop
  refine ⟨fun m σ H' => ∃ (ps : List Pr) (x : Pr) (ws : List V) (a b : Addr) (v1 v2 v3 : Option V), m = 800 - ps.length ∧ Same H H' ∧ H' f = some (.lst ws) ∧ Pairs H' ws ps ∧ Wk (cel B) h w (ps ++ [x]) x ∧ H' a = some (.tup (cellV x.1)) ∧ H' b = some (.tup (cellV x.2)) ∧
    σ = [some (.ref p), some (.ref f), some (.ref a), some (.ref b), v1, v2, v3], ⟨800, [], st0, [], a, b, _, _, _, rfl, s2.trans sf, upd_same, .nil, .one, sf _ _ ha2, sf _ _ hb2, rfl⟩, ?_⟩
  rintro m σ H4 ⟨ps, x, ws, a, b, v1, v2, v3, rfl, s4, hf4, hp4, wk, ha4, hb4, rfl⟩
  have bd := wk.bound I.h1
  have vl := wk.vld I.h1
  rw [List.length_append] at bd
  have bd' : ps.length + 1 ≤ 726 := Nat.le_trans bd a2
  have lp := hp4.len
  refine ⟨_, rfl, iteT ⟨fun σ' H' => ∃ (ps' : List Pr) (x : Pr) (ws : List V) (a b : Addr) (v1 v2 v3 : Option V), ps'.length = ps.length + 1 ∧ Same H H' ∧ H' f = some (.lst ws) ∧ Pairs H' ws ps' ∧ Wk (cel B) h w (ps' ++ [x]) x ∧ H' a = some (.tup (cellV x.1)) ∧ H' b = some (.tup (cellV x.2)) ∧
    σ' = [some (.ref p), some (.ref f), some (.ref a), some (.ref b), v1, v2, v3], ?_, ?_⟩⟩
  · rintro σ' H' ⟨ps', x', ws', a', b', u1, u2, u3, l', r'⟩
    exact ⟨800 - ps'.length, by omega, ps', x', ws', a', b', u1, u2, u3, rfl, r'⟩
  -- found.append
  refine ⟨_, rfl, .inl ⟨rfl, _, SqL.of hf4⟩, _, rfl, _, rfl, sz2, fun t ht => ?_⟩
  have st := same_new ht (.tup [V.ref a, V.ref b])
  have hf5 := st _ _ hf4
  refine ⟨f, ws, _, rfl, rfl, hf5, sz_lt (by omega), ?_⟩
  have hp6 : Pairs (upd (upd H4 t (.tup [V.ref a, V.ref b])) f (.lst (ws ++ [V.ref t]))) (ws ++ [V.ref t]) (ps ++ [x]) := ((hp4.same st).app (.cons upd_same (st _ _ ha4) (st _ _ hb4) .nil)).tps (.lst hf5)
  have ha6 := (Tps.lst (o := .lst (ws ++ [V.ref t])) hf5) _ _ (st _ _ ha4)
  have hb6 := (Tps.lst (o := .lst (ws ++ [V.ref t])) hf5) _ _ (st _ _ hb4)
  have s6 := same_mut (o := .lst (ws ++ [V.ref t])) (s4.trans st) nf
  have hf6 : upd (upd H4 t (.tup [V.ref a, V.ref b])) f (.lst (ws ++ [V.ref t])) f = some (.lst (ws ++ [V.ref t])) := upd_same
  revert hp6 ha6 hb6 s6 hf6
  generalize upd (upd H4 t (.tup [V.ref a, V.ref b])) f (.lst (ws ++ [V.ref t])) = H6
  intro hp6 ha6 hb6 s6 hf6
  -- around, ahead
  refine ⟨_, rfl, b, _, _, _, rfl, rfl, SqT.of hb6, atI_nat (j := 0) rfl, _, rfl, b, _, _, _, rfl, rfl, SqT.of hb6, atI_nat (j := 1) rfl, x.2.1, x.2.2, rfl, fun r H7 rs s7 nr hr7 cr => ?_⟩
  refine gn ?_
  obtain ⟨j, j6, ej, en, no⟩ := near_next vl.nr
  obtain ⟨ac, eac, hac⟩ := cr.at en
  have ha7 := s7 _ _ ha6
  have hb7 := s7 _ _ hb6
  refine ⟨_, rfl, _, rfl, .inl ⟨rfl, _, SqL.of hr7⟩, _, rfl, r, .ref a, cellD x.1, (near6 x.2).map cellD, j, cellD x.1, rfl, rfl, .lst (SqL.of hr7) cr.dp, cell_dp ha7, shaped_cells _, shaped_cell _, ?_, by rw [eqv_cell, decide_eq_true rfl], fun k z' hk ez => ?_, _, _, rfl, rfl, _, _, rfl, rfl, (show (0 : Int) < 6 by decide), r, _, _, V.ref ac, rfl, rfl, SqL.of hr7, ?_, ?_⟩
  · rw [List.getElem?_map, ej]
    rfl
  · obtain ⟨c, ec, rfl⟩ := map_get ez
    rw [eqv_cell, decide_eq_false (no k c hk ec)]
  · have e1 : ((j : Int) + 1) % 6 = (((j + 1) % 6 : Nat) : Int) := by omega
    show atI rs (((j : Int) + 1) % 6) = some (.ref ac)
    rw [e1]
    exact atI_nat eac
  refine gn ?_
  refine ⟨_, rfl, _, rfl, p, l, B, h, w, ac, ahd x.1 x.2, rfl, bt.same (s6.trans s7), I, fc, hac, ?_⟩
  cases eo : own (cel B) h w (ahd x.1 x.2) with
  | none =>
    have es : stp (cel B) h w x = none := by
      unfold stp
      rw [eo]
    refine ⟨_, rfl, rfl, _, rfl, iteD (fun _ => ?_) (fun y => absurd rfl y)⟩
    exact ⟨_, rfl, hq _ _ ⟨f, _, _, x, rfl, nf, s6.trans s7, s7 _ _ hf6, hp6.same s7, wk, es⟩⟩
  | some s =>
    refine ⟨_, rfl, rfl, _, rfl, iteD (fun y => by cases y) (fun _ => ?_)⟩
    have ll : (ps ++ [x]).length = ps.length + 1 := by rw [List.length_append]; rfl
    cases s with
    | false =>
      have es : stp (cel B) h w x = some (ahd x.1 x.2, x.2) := by
        unfold stp
        rw [eo]
      refine ⟨_, rfl, rfl, _, rfl, iteD (fun _ => ?_) (fun y => absurd (by rw [s_n]; rfl) y)⟩
      exact ⟨_, rfl, ps ++ [x], _, _, _, _, _, _, _, ll, s6.trans s7, s7 _ _ hf6, hp6.same s7, .snoc wk es, hac, hb7, rfl⟩
    | true =>
      have es : stp (cel B) h w x = some (x.1, ahd x.1 x.2) := by
        unfold stp
        rw [eo]
      refine ⟨_, rfl, rfl, _, rfl, iteD (fun y => absurd (hand_n.mp y) (by decide)) (fun _ => ?_)⟩
      exact ⟨_, rfl, ps ++ [x], _, _, _, _, _, _, _, ll, s6.trans s7, s7 _ _ hf6, hp6.same s7, .snoc wk es, ha7, hac, rfl⟩
end
end Sw
namespace Sw
open PySem PySem.Spec PyProof.Rows L2
section
variable {P : Program} {w : World} {K : PySem.W.Frag} {mg : Str → Option Value} {base : Heap}
/-! the law's reader of the script -/
def sAt (ns : List Int) (k : Int) : Int := ns.getD k.toNat 0
def sp__law_cell_at (K : PySem.W.Frag) : Sp := fun vs H Q _ => ∃ (a : Addr) (ns : List Int) (k : Int), vs = [.ref a, .int k] ∧ SqL K H a (ns.map V.int) ∧ 0 ≤ k ∧ Q (.int (sAt ns k)) H
theorem ok__law_cell_at (T : Top K mg) : FnOk P w K mg base CX0 1 T.a__law_cell_at T.d__law_cell_at ["script", "k"] (sp__law_cell_at K) := by
  refine T.F__law_cell_at.ok sc__law_cell_at (fun vs H Q E h => ?_) (fun cdv A outer s H vs Q E hr h => ?_)
  · obtain ⟨_, _, _, rfl, _⟩ := h
    rfl
  obtain ⟨a, ns, k, rfl, hS, hk, q⟩ := h
  refine ⟨_, (pss_cons (ps_if (pt_cmpR op_lt (pv 1) (pe_callB call_len_seq (by rfl) T.z_len PySem.boot_len (pa_cons (pv 0) pa_nil)) (nomark _))
      (pss_one (ps_ret (pe_ix ix_list (pv 0) (pv 1) (fun _ _ => rfl)))) pss_nil)
      (pss_one (ps_ret pe_int))), ?_⟩
  refine ⟨_, rfl, _, rfl, a, _, rfl, .inl hS, _, _, rfl, rfl, _, rfl, ?_⟩
  refine ite2 (fun c => ?_) (fun c => ?_)
  · have c' : k < ((ns.map V.int).length : Int) := of_decide_eq_true c
    rw [List.length_map] at c'
    have hl : k.toNat < ns.length := by omega
    have e : (ns.map V.int)[k.toNat]? = some (.int ns[k.toNat]) := by rw [List.getElem?_map, List.getElem?_eq_getElem hl] <;> rfl
    refine ⟨_, rfl, _, rfl, a, _, _, _, rfl, rfl, hS, at_int hk e, ?_⟩
    have : sAt ns k = ns[k.toNat] := by
      unfold sAt
      rw [List.getD_eq_getElem?_getD, List.getElem?_eq_getElem hl] <;> rfl
    rw [← this]
    exact q
  · have c' : ¬ k < ((ns.map V.int).length : Int) := of_decide_eq_false (Bool.eq_false_iff.mpr c)
    rw [List.length_map] at c'
    have : sAt ns k = 0 := by
      unfold sAt
      rw [List.getD_eq_getElem?_getD, List.getElem?_eq_none (by omega)] <;> rfl
    have q' : Q (.int 0) H := by
      rw [← this]
      exact q
    exact q'
end
end Sw
namespace Sw
open PySem PySem.Spec PyProof.Rows L2
section
variable {P : Program} {w : World} {K : PySem.W.Frag} {mg : Str → Option Value} {base : Heap}
/-! the law's draws: a number below many, a size, rows -/
def some13 : List Int := [48271, 69621, 16807, 39373, 30269, 40014, 40692, 50021, 61687, 71993, 83869, 95561, 30307]
theorem some13_at {k : Int} (h0 : 0 ≤ k) (h1 : k < 13) : ∃ c : Int, atI (some13.map V.int) k = some (.int c) ∧ 0 ≤ c ∧ c ≤ 95561 := by
  have hl : k.toNat < some13.length := by show k.toNat < 13; omega
  have all : ∀ x ∈ some13, 0 ≤ x ∧ x ≤ 95561 := by decide
  have hm := all _ (List.getElem_mem hl)
  refine ⟨some13[k.toNat], at_int h0 ?_, hm.1, hm.2⟩
  rw [List.getElem?_map, List.getElem?_eq_getElem hl]
  rfl
def sp__law_mix : Sp := fun vs H Q _ => ∃ (cell k many : Int), vs = [.int cell, .int k, .int many] ∧ 0 ≤ k ∧ k ≤ 1000000 ∧ 0 < many ∧ ∀ (m : Int) (H' : Hp), Same H H' → 0 ≤ m → m < many → Q (.int m) H'
theorem ok__law_mix (T : Top K mg) : FnOk P w K mg base CX0 1 T.a__law_mix T.d__law_mix ["cell", "k", "many"] sp__law_mix := by
  refine T.F__law_mix.ok sc__law_mix (fun vs H Q E h => ?_) (fun cdv A outer s H vs Q E hr h => ?_)
  · obtain ⟨_, _, _, rfl, _⟩ := h
    rfl
  obtain ⟨cell, k, many, rfl, k0, k1, hm, q⟩ := h
  refine ⟨_, (pss_cons (ps_set (i := 3) sc__law_mix.nd rfl (Or.inl rfl) (pe_lst (pa_cons pe_int (pa_cons pe_int (pa_cons pe_int (pa_cons pe_int (pa_cons pe_int (pa_cons pe_int (pa_cons pe_int (pa_cons pe_int (pa_cons pe_int (pa_cons pe_int (pa_cons pe_int (pa_cons pe_int (pa_cons pe_int pa_nil)))))))))))))))
      (pss_cons (ps_set (i := 4) sc__law_mix.nd rfl (Or.inl rfl) (pe_op op_mul (pe_op op_add (pe_op op_mod (pv 0) pe_int) pe_int) (pe_ix ix_list (pv 3) (pe_op op_mod (pv 1) pe_int) (fun _ _ => rfl))))
      (pss_cons (ps_set (i := 4) sc__law_mix.nd rfl (Or.inl rfl) (pe_op op_add (pe_op op_mul (pv 4) (pe_op op_add (pe_op op_mul pe_int (pe_op op_fdiv (pv 1) pe_int)) pe_int)) (pe_op op_mul pe_int (pv 1))))
      (pss_one (ps_ret (pe_op op_mod (pe_op op_fdiv (pe_op op_mod (pv 4) pe_int) pe_int) (pv 2))))))), ?_⟩
  refine ⟨by show 13 ≤ sizeLine; decide, fun l hl => ?_⟩
  obtain ⟨c, ec, c0, c1⟩ := some13_at (k := k % 13) (Int.emod_nonneg _ (by decide)) (Int.emod_lt_of_pos _ (by decide))
  have e0 : 0 ≤ cell % 2147483647 := Int.emod_nonneg _ (by decide)
  have e1 : cell % 2147483647 < 2147483647 := Int.emod_lt_of_pos _ (by decide)
  refine ⟨_, rfl, _, _, rfl, rfl, (show (0 : Int) < 2147483647 by decide), _, _, rfl, rfl, _, rfl, _, rfl, _, _, rfl, rfl, (show (0 : Int) < 13 by decide), l, some13.map V.int, _, _, rfl, rfl, SqL.of upd_same, ec, _, _, rfl, rfl, .inl ⟨?_, ?_⟩, ?_⟩
  · show -(2 ^ 64 : Int) < cell % 2147483647 + 12345
    omega
  · show cell % 2147483647 + 12345 < (2 ^ 64 : Int)
    omega
  have b0 : 0 ≤ (cell % 2147483647 + 12345) * c := Int.mul_nonneg (by omega) c0
  have b1 : (cell % 2147483647 + 12345) * c ≤ 2147495992 * 95561 := Int.mul_le_mul (by omega) c1 c0 (by decide)
  refine ⟨_, rfl, _, rfl, _, _, rfl, rfl, ⟨by decide, by decide⟩, _, _, rfl, rfl, .inl ⟨by decide, by decide⟩, _, _, rfl, rfl, _, _, rfl, rfl, .inl ⟨?_, ?_⟩, ?_⟩
  · show -(2 ^ 64 : Int) < (cell % 2147483647 + 12345) * c
    omega
  · show (cell % 2147483647 + 12345) * c < (2 ^ 64 : Int)
    omega
  refine ⟨_, rfl, _, _, rfl, rfl, .inl ⟨by decide, by decide⟩, _, _, rfl, rfl, ?_⟩
  refine ⟨_, rfl, _, _, rfl, rfl, (show (0 : Int) < 1000000007 by decide), _, _, rfl, rfl, ⟨by decide, by decide⟩, _, rfl, _, _, rfl, rfl, hm, ?_⟩
  exact q _ _ (same_new hl _) (Int.emod_nonneg _ (by omega)) (Int.emod_lt_of_pos _ hm)

def sp__law_size_by (K : PySem.W.Frag) : Sp := fun vs H Q _ => ∃ (a : Addr) (ns : List Int) (most : Int), vs = [.ref a, .int most] ∧ SqL K H a (ns.map V.int) ∧ 0 < most ∧
  ∀ (h w : Int) (t : Addr) (H' : Hp), 1 ≤ h → h ≤ most → 1 ≤ w → w ≤ most → Same H H' → H' t = some (.tup [.int h, .int w]) → Q (.ref t) H'
theorem ok__law_size_by (T : Top K mg) : FnOk P w K mg base CX0 2 T.a__law_size_by T.d__law_size_by ["script", "most"] (sp__law_size_by K) := by
  refine T.F__law_size_by.ok sc__law_size_by (fun vs H Q E h => ?_) (fun cdv A outer s H vs Q E hr h => ?_)
  · obtain ⟨_, _, _, rfl, _⟩ := h
    rfl
  obtain ⟨a, ns, most, rfl, hS, hm, q⟩ := h
  refine ⟨_, (pss_one (ps_ret (pe_tup (pa_cons (pe_op op_add pe_int (pe_op op_mod (pe_call (ok__law_cell_at T) (hr.mono (by decide)) rfl T.m__law_cell_at T.F__law_cell_at.kp T.B__law_cell_at .nil pass0 (pa_cons (pv 0) (pa_cons pe_int pa_nil))) (pv 1))) (pa_cons (pe_op op_add pe_int (pe_op op_mod (pe_call (ok__law_cell_at T) (hr.mono (by decide)) rfl T.m__law_cell_at T.F__law_cell_at.kp T.B__law_cell_at .nil pass0 (pa_cons (pv 0) (pa_cons pe_int pa_nil))) (pv 1))) pa_nil))))), ?_⟩
  refine ⟨_, rfl, a, ns, 0, rfl, hS, by decide, _, rfl, _, _, rfl, rfl, hm, _, _, rfl, rfl, _, rfl, a, ns, 1, rfl, hS, by decide, _, rfl, _, _, rfl, rfl, hm, _, _, rfl, rfl, sz2, fun t ht => ?_⟩
  have m0 := Int.emod_nonneg (sAt ns 0) (show most ≠ 0 by omega)
  have m1 := Int.emod_lt_of_pos (sAt ns 0) hm
  have m2 := Int.emod_nonneg (sAt ns 1) (show most ≠ 0 by omega)
  have m3 := Int.emod_lt_of_pos (sAt ns 1) hm
  exact q (1 + sAt ns 0 % most) (1 + sAt ns 1 % most) t _ (by omega) (by omega) (by omega) (by omega) (same_new ht _) upd_same

/-- a sign that may be drawn -/
def LetOk (full : Bool) (c : Nat) : Prop := (c = 110 ∨ c = 119 ∨ c = 46) ∧ (full = true → c ≠ 46)
def kinds5 : List Nat := [110, 119, 110, 119, 46]
theorem kinds_at {full : Bool} {k : Int} (h0 : 0 ≤ k) (h1 : k < if full then 4 else 5) : ∃ c : Nat, atI [V.str (txt [110]), .str (txt [119]), .str (txt [110]), .str (txt [119]), .str (txt [46])] k = some (.str (txt [c])) ∧ LetOk full c := by
  have h5 : k < 5 := by cases full <;> simp at h1 <;> omega
  have hl : k.toNat < kinds5.length := by show k.toNat < 5; omega
  refine ⟨kinds5[k.toNat], at_int h0 ?_, ?_⟩
  · show (kinds5.map fun c => V.str (txt [c]))[k.toNat]? = _
    rw [List.getElem?_map, List.getElem?_eq_getElem hl]
    rfl
  · have a5 : ∀ x ∈ kinds5, x = 110 ∨ x = 119 ∨ x = 46 := by decide
    refine ⟨a5 _ (List.getElem_mem hl), fun e => ?_⟩
    subst e
    have h4 : k.toNat < 4 := by simp at h1; omega
    have a4 : ∀ i : Nat, i < 4 → ∀ h : i < kinds5.length, kinds5[i] ≠ 46 := by decide
    exact a4 _ h4 hl
def sp__law_rows_by (K : PySem.W.Frag) : Sp := fun vs H Q _ => ∃ (a : Addr) (ns : List Int) (h w : Nat) (full : Bool), vs = [.ref a, .int (h : Int), .int (w : Int), .bl full] ∧ SqL K H a (ns.map V.int) ∧ 1 ≤ h ∧ h ≤ 9 ∧ 1 ≤ w ∧ w ≤ 9 ∧
  ∀ (B : Bd) (p : Addr) (H' : Hp), Same H H' → H p = none → H' p = some (.lst (rowsV B)) → IsB B h w → (full = true → ∀ r ∈ B, ∀ c ∈ r, c ≠ 46) → Q (.ref p) H'
theorem ok__law_rows_by (T : Top K mg) : FnOk P w K mg base CX0 2 T.a__law_rows_by T.d__law_rows_by ["script", "height", "width", "full"] (sp__law_rows_by K) := by
  refine T.F__law_rows_by.ok sc__law_rows_by (fun vs H Q E h => ?_) (fun cdv A outer s H vs Q E hr h => ?_)
  · obtain ⟨_, _, _, _, _, rfl, _⟩ := h
    rfl
  obtain ⟨a, ns, h, w, full, rfl, hS, h1, h9, w1, w9, q⟩ := h
  refine ⟨_, (pss_cons (ps_set (i := 4) sc__law_rows_by.nd rfl (Or.inl rfl) (pe_lst pa_nil))
      (pss_cons (ps_for PassesOwn.never rfl (pi_range1 rfl T.z_range (pa_cons (pv 1) pa_nil)) (pg_name (i := 5) sc__law_rows_by.nd rfl (Or.inl rfl))
      (pss_cons (ps_set (i := 6) sc__law_rows_by.nd rfl (Or.inl rfl) (pe_call (ok__law_cell_at T) (hr.mono (by decide)) rfl T.m__law_cell_at T.F__law_cell_at.kp T.B__law_cell_at .nil pass0 (pa_cons (pv 0) (pa_cons (pe_op op_add pe_int (pv 5)) pa_nil))))
      (pss_cons (ps_set (i := 7) sc__law_rows_by.nd rfl (Or.inl rfl) pe_str)
      (pss_cons (ps_for PassesOwn.never rfl (pi_range1 rfl T.z_range (pa_cons (pv 2) pa_nil)) (pg_name (i := 8) sc__law_rows_by.nd rfl (Or.inl rfl))
      (pss_cons (ps_set (i := 9) sc__law_rows_by.nd rfl (Or.inl rfl) (pe_call (ok__law_mix T) (hr.mono (by decide)) rfl T.m__law_mix T.F__law_mix.kp T.B__law_mix .nil pass0 (pa_cons (pv 6) (pa_cons (pe_op op_add (pe_op op_mul pe_int (pv 5)) (pv 8)) (pa_cons (pe_ix ix_list (pe_lst (pa_cons pe_int (pa_cons pe_int pa_nil))) (pe_callTy call_int1 (by rfl) T.z_int (by decide +kernel) (pa_cons (pv 3) pa_nil)) (fun _ _ => rfl)) pa_nil)))))
      (pss_one (ps_set (i := 7) sc__law_rows_by.nd rfl (Or.inl rfl) (pe_op op_add_str (pv 7) (pe_ix ix_list (pe_lst (pa_cons pe_str (pa_cons pe_str (pa_cons pe_str (pa_cons pe_str (pa_cons pe_str pa_nil)))))) (pv 9) (fun _ _ => rfl)))))))
      (pss_one (ps_expr (pe_bm PySem.F.plainAttrs_list PySem.F.slot_list_append PySem.F.type_list_append mt_append (pv 4) (pa_cons (pv 7) pa_nil))))))))
      (pss_one (ps_ret (pv 4))))), ?_⟩
  refine ⟨sz0, fun l hl => ?_⟩
  refine ⟨_, rfl, (h : Int), rfl, by omega, by omega, for_range (lo := 0) (n := h) (fun i σ H' => Same H H' ∧ ∃ B : Bd, H' l = some (.lst (rowsV B)) ∧ B.length = i ∧ (∀ r ∈ B, r.length = w ∧ ∀ c ∈ r, LetOk full c) ∧
    ∃ v1 v2 v3 v4 v5, σ = [some (.ref a), some (.int h), some (.int w), some (.bl full), some (.ref l), v1, v2, v3, v4, v5]) ⟨same_new hl _, [], upd_same, rfl, (fun r hr => nomatch hr), _, _, _, _, _, rfl⟩ ?_ ?_⟩
  · rintro i σ H1 hi ⟨s1, B, hB, lB, aB, v1, v2, v3, v4, v5, rfl⟩
    refine ⟨_, rfl, _, rfl, _, _, rfl, rfl, a, ns, _, rfl, s1.seq hS, by omega, ?_⟩
    refine ⟨_, rfl, (w : Int), rfl, by omega, by omega, for_range (lo := 0) (n := w) (fun j σ H' => Same H H' ∧ H' l = some (.lst (rowsV B)) ∧ ∃ rr : List Nat, rr.length = j ∧ (∀ c ∈ rr, LetOk full c) ∧
      ∃ u1 u3 u4, σ = [some (.ref a), some (.int h), some (.int w), some (.bl full), some (.ref l), some (.int ((0 : Int) + (i : Int))), some (.int u1), some (.str (txt rr)), u4, u3]) ⟨s1, hB, [], rfl, (fun c hc => nomatch hc), sAt ns (3 + (0 + (i : Int))), v5, v4, by rw [s_nil]; rfl⟩ ?_ ?_⟩
    · rintro j σ H2 hj ⟨s2, hB2, rr, lr, ar, u1, u3, u4, rfl⟩
      refine ⟨_, rfl, _, rfl, _, _, rfl, rfl, .inl ⟨by decide, by decide⟩, _, rfl, _, _, rfl, rfl, sz2, fun l5 h5 => ?_⟩
      refine ⟨_, rfl, .inr ⟨full, rfl, ?_⟩⟩
      have i5 : atI [V.int 5, V.int 4] (if full = true then 1 else 0) = some (.int (if full = true then 4 else 5)) := by
        cases full <;> rfl
      refine ⟨l5, _, _, _, rfl, rfl, SqL.of upd_same, i5, ?_⟩
      refine ⟨u1, _, _, rfl, by omega, by omega, by cases full <;> decide, fun kd H3 s3 k0 k1 => ?_⟩
      have s4 : Same H2 H3 := (same_new h5 _).trans s3
      refine ⟨_, rfl, ?_⟩
      refine ⟨by show 5 ≤ sizeLine; decide, fun l6 h6 => ?_⟩
      obtain ⟨c, ec, oc⟩ := kinds_at k0 k1
      rw [s_n, s_w, s_dot]
      refine ⟨_, rfl, l6, _, _, _, rfl, rfl, SqL.of upd_same, ec, _, _, rfl, rfl, ?_, ?_⟩
      · rw [txt_len, txt_len]
        exact sz_le (by rw [lr]; show j + 1 ≤ 1000000; omega)
      have s5 := s4.trans (same_new h6 (.lst [V.str (txt [110]), .str (txt [119]), .str (txt [110]), .str (txt [119]), .str (txt [46])]))
      refine ⟨s2.trans s5, s5 _ _ hB2, rr ++ [c], by rw [List.length_append, lr]; rfl, fun x hx => ?_, u1, some (.int kd), some (.int ((0 : Int) + (j : Int))), ?_⟩
      · rcases List.mem_append.mp hx with hx | hx
        · exact ar x hx
        · rw [List.mem_singleton.mp hx]
          exact oc
      · rw [txt_app]
        rfl
    · rintro σ H2 ⟨s2, hB2, rr, lr, ar, u1, u3, u4, rfl⟩
      refine ⟨_, rfl, .inl ⟨rfl, _, SqL.of hB2⟩, _, rfl, l, _, _, rfl, rfl, hB2, sz_lt (by rw [rowsV_len]; omega), ?_⟩
      refine ⟨same_mut s2 hl, B ++ [rr], ?_, by rw [List.length_append, lB]; rfl, fun r hr => ?_, _, _, _, _, _, rfl⟩
      · rw [upd_same]
        show _ = some (HO.lst ((B ++ [rr]).map rowV))
        rw [List.map_append]
        rfl
      · rcases List.mem_append.mp hr with hr | hr
        · exact aB r hr
        · rw [List.mem_singleton.mp hr]
          exact ⟨lr, ar⟩
  · rintro σ H1 ⟨s1, B, hB, lB, aB, v1, v2, v3, v4, v5, rfl⟩
    exact ⟨_, rfl, q B l _ s1 hl hB ⟨lB, fun r hr => (aB r hr).1, fun r hr c hc => ((aB r hr).2 c hc).1, h1, h9, w1, w9⟩ fun e r hr c hc => ((aB r hr).2 c hc).2 e⟩
end
end Sw
namespace Sw
open PySem PySem.Spec PyProof.Rows L2
section
variable {P : Program} {w : World} {K : PySem.W.Frag} {mg : Str → Option Value} {base : Heap}
/-! the law's looks: a whole number; a list of so many places -/
theorem kit_ii {K : PySem.W.Frag} : PySem.W.kitOne K (.type "int") (.type "int") = some true := kit_ty (by decide +kernel)
theorem kit_ib {K : PySem.W.Frag} : PySem.W.kitOne K (.type "int") (.type "bool") = some false := kit_ty (by decide +kernel)
theorem kit_ll {K : PySem.W.Frag} : PySem.W.kitOne K (.type "list") (.type "list") = some true := kit_ty (by decide +kernel)
theorem kit_tt {K : PySem.W.Frag} : PySem.W.kitOne K (.type "tuple") (.type "tuple") = some true := kit_ty (by decide +kernel)
theorem kit_bb {K : PySem.W.Frag} : PySem.W.kitOne K (.type "bool") (.type "bool") = some true := kit_ty (by decide +kernel)
theorem kit_ss {K : PySem.W.Frag} : PySem.W.kitOne K (.type "str") (.type "str") = some true := kit_ty (by decide +kernel)
def sp__law_whole : Sp := fun vs H Q _ => ∃ i : Int, vs = [.int i] ∧ Q (.bl true) H
theorem ok__law_whole (T : Top K mg) : FnOk P w K mg base CX0 1 T.a__law_whole T.d__law_whole ["found"] sp__law_whole := by
  refine T.F__law_whole.ok sc__law_whole (fun vs H Q E h => ?_) (fun cdv A outer s H vs Q E hr h => ?_)
  · obtain ⟨_, rfl, _⟩ := h
    rfl
  obtain ⟨i, rfl, q⟩ := h
  refine ⟨_, (pss_one (ps_ret (pe_and (pe_callB call_isi (by rfl) T.z_isinstance (by decide +kernel) (pa_cons (pv 0) (pa_cons (pe_bltn (v := .ty "int") (u := .type "int") (by rfl) T.z_int (by decide +kernel) rfl) pa_nil))) (pe_one (pe_not (pe_callB call_isi (by rfl) T.z_isinstance (by decide +kernel) (pa_cons (pv 0) (pa_cons (pe_bltn (v := .ty "bool") (u := .type "bool") (by rfl) T.z_bool (by decide +kernel) rfl) pa_nil)))))))), ?_⟩
  refine ⟨_, rfl, _, _, _, _, _, rfl, .ty _, .base (.int i), kit_ii, _, rfl, iteT ?_⟩
  exact ⟨_, rfl, _, _, _, _, _, rfl, .ty _, .base (.int i), kit_ib, _, rfl, q⟩
def sp__law_places : Sp := fun vs H Q _ => ∃ (l : Addr) (ws : List V) (cs : List Cell), vs = [.ref l, .int (cs.length : Int)] ∧ H l = some (.lst ws) ∧ Cells H ws cs ∧ Q (.bl true) H
theorem ok__law_places (T : Top K mg) : FnOk P w K mg base CX0 2 T.a__law_places T.d__law_places ["found", "many"] sp__law_places := by
  refine T.F__law_places.ok sc__law_places (fun vs H Q E h => ?_) (fun cdv A outer s H vs Q E hr h => ?_)
  · obtain ⟨_, _, _, rfl, _⟩ := h
    rfl
  obtain ⟨l, ws, cs, rfl, hl, hc, q⟩ := h
  refine ⟨_, (pss_cons (ps_if (PW.pt (pw_or (pt_not (pt_val (pe_callB call_isi (by rfl) T.z_isinstance (by decide +kernel) (pa_cons (pv 0) (pa_cons (pe_bltn (v := .ty "list") (u := .type "list") (by rfl) T.z_list (by decide +kernel) rfl) pa_nil))))) (pw_or1 (pt_cmpR op_ne (pe_callB call_len_seq (by rfl) T.z_len PySem.boot_len (pa_cons (pv 0) pa_nil)) (pv 1) (nomark _)))))
      (pss_one (ps_ret pe_bl)) pss_nil)
      (pss_cons (ps_for PassesOwn.never rfl (pi_list (pv 0)) (pg_name (i := 2) sc__law_places.nd rfl (Or.inl rfl))
      (pss_one (ps_if (PW.pt (pw_or (pt_not (pt_val (pe_callB call_isi (by rfl) T.z_isinstance (by decide +kernel) (pa_cons (pv 2) (pa_cons (pe_bltn (v := .ty "tuple") (u := .type "tuple") (by rfl) T.z_tuple (by decide +kernel) rfl) pa_nil))))) (pw_or (pt_cmpR op_ne (pe_callB call_len_seq (by rfl) T.z_len PySem.boot_len (pa_cons (pv 2) pa_nil)) pe_int (nomark _)) (pw_or (pt_not (pt_val (pe_call (ok__law_whole T) (hr.mono (by decide)) rfl T.m__law_whole T.F__law_whole.kp T.B__law_whole .nil pass0 (pa_cons (pe_ix ix_tup (pv 2) pe_int (fun _ _ => rfl)) pa_nil)))) (pw_or1 (pt_not (pt_val (pe_call (ok__law_whole T) (hr.mono (by decide)) rfl T.m__law_whole T.F__law_whole.kp T.B__law_whole .nil pass0 (pa_cons (pe_ix ix_tup (pv 2) pe_int (fun _ _ => rfl)) pa_nil)))))))))
      (pss_one (ps_ret pe_bl)) pss_nil)))
      (pss_one (ps_ret pe_bl)))), ?_⟩
  have hlen := hc.len
  refine ⟨_, rfl, _, _, _, _, _, rfl, .ty _, .base (.lst hl), kit_ll, _, rfl, iteF ?_⟩
  refine ⟨_, rfl, l, _, rfl, .inl (SqL.of hl), _, rfl, rfl, _, rfl, ?_⟩
  rw [show decide (V.int (ws.length : Int) = V.int (cs.length : Int)) = true from decide_eq_true (by rw [hlen])]
  refine iteF ?_
  refine ⟨_, rfl, l, rfl, ⟨_, SqL.of hl⟩, for_list (K := K) (a := l) (xs := ws) (fun i σ H' => H' = H ∧ ∃ v, σ = [some (.ref l), some (.int (cs.length : Int)), v]) ⟨rfl, none, rfl⟩ (fun i σ H' _ ⟨e, _⟩ => by rw [e]; exact SqL.of hl) ?_ ?_⟩
  · rintro i x σ H' hi ⟨rfl, v, rfl⟩
    obtain ⟨a, c, rfl, _, ha⟩ := hc.get hi
    refine ⟨_, rfl, _, _, _, _, _, rfl, .ty _, .base (.tup ha), kit_tt, _, rfl, iteF ?_⟩
    refine ⟨_, rfl, a, _, rfl, .inr (SqT.of ha), rfl, _, rfl, iteF ?_⟩
    refine ⟨_, rfl, a, _, _, _, rfl, rfl, SqT.of ha, atI_nat (j := 0) rfl, _, rfl, _, rfl, iteF ?_⟩
    refine ⟨_, rfl, a, _, _, _, rfl, rfl, SqT.of ha, atI_nat (j := 1) rfl, _, rfl, _, rfl, iteF ?_⟩
    exact ⟨rfl, _, rfl⟩
  · rintro σ H' ⟨rfl, v, rfl⟩
    exact q
end
end Sw
namespace Sw
open PySem PySem.Spec PyProof.Rows L2
section
variable {P : Program} {w : World} {K : PySem.W.Frag} {mg : Str → Option Value} {base : Heap}
/-! the law's own walk -/
theorem near_sh (b : Cell) : near6 b = (near6 (0, 0)).map fun d : Cell => (b.1 + d.1, b.2 + d.2) := by
  show [(b.1 - 1, b.2), (b.1 - 1, b.2 + 1), (b.1, b.2 + 1), (b.1 + 1, b.2), (b.1 + 1, b.2 - 1), (b.1, b.2 - 1)] = [(b.1 + (0 - 1), b.2 + 0), (b.1 + (0 - 1), b.2 + (0 + 1)), (b.1 + 0, b.2 + (0 + 1)), (b.1 + (0 + 1), b.2 + 0), (b.1 + (0 + 1), b.2 + (0 - 1)), (b.1 + 0, b.2 + (0 - 1))]
  simp only [Int.zero_add, Int.add_zero, Int.zero_sub, Int.add_neg_one]
theorem step_next {a b : Cell} (k : b ∈ near6 a) : ∃ (j : Nat) (e : Cell), j < 6 ∧ (near6 (0, 0))[j]? = some (a.1 - b.1, a.2 - b.2) ∧ (near6 (0, 0))[(j + 1) % 6]? = some e ∧ ahd a b = (b.1 + e.1, b.2 + e.2) ∧
    ∀ (m : Nat) (z : Cell), m < j → (near6 (0, 0))[m]? = some z → z ≠ (a.1 - b.1, a.2 - b.2) := by
  obtain ⟨j, j6, ej, en, no⟩ := near_next k
  rw [near_sh b] at ej en no
  obtain ⟨d, ed, hd⟩ := map_get ej
  obtain ⟨e, ee, he⟩ := map_get en
  have d1 : b.1 + d.1 = a.1 := congrArg Prod.fst hd
  have d2 : b.2 + d.2 = a.2 := congrArg Prod.snd hd
  have ed' : d = (a.1 - b.1, a.2 - b.2) := Prod.ext (by show d.1 = a.1 - b.1; omega) (by show d.2 = a.2 - b.2; omega)
  subst ed'
  refine ⟨j, e, j6, ed, ee, he.symm, fun m z hm ez zz => ?_⟩
  refine no m (b.1 + z.1, b.2 + z.2) hm (by rw [List.getElem?_map, ez]; rfl) ?_
  rw [zz]
  exact hd
def ownT : Option Bool → V
  | none => .str (txt [])
  | some s => .str (txt [lt s])
def sp__law_owner : Sp := fun vs H Q _ => ∃ (l : Addr) (B : Bd) (h w : Nat) (t : Addr) (x : Cell), vs = [.ref l, .ref t] ∧ H l = some (.lst (rowsV B)) ∧ IsB B h w ∧ (∀ y, cel B y ≠ 46) ∧ H t = some (.tup (cellV x)) ∧ ∀ H', Same H H' → Q (ownT (own (cel B) h w x)) H'
theorem ok__law_owner (T : Top K mg) : FnOk P w K mg base CX0 1 T.a__law_owner T.d__law_owner ["rows", "place"] sp__law_owner := by
  refine T.F__law_owner.ok sc__law_owner (fun vs H Q E h => ?_) (fun cdv A outer s H vs Q E hr h => ?_)
  · obtain ⟨_, _, _, _, _, _, rfl, _⟩ := h
    rfl
  obtain ⟨l, B, h, w, t, x, rfl, hl, I, fc, ht, q⟩ := h
  have h9 := I.h9
  have w9 := I.w9
  obtain ⟨r0, er0, lr0⟩ := I.row (i := 0) I.h1
  refine ⟨_, (pss_cons (ps_asg (pe_tup (pa_cons (pe_callB call_len_seq (by rfl) T.z_len PySem.boot_len (pa_cons (pv 0) pa_nil)) (pa_cons (pe_callB call_len_str (by rfl) T.z_len PySem.boot_len (pa_cons (pe_ix ix_list (pv 0) pe_int (fun _ _ => rfl)) pa_nil)) pa_nil))) (pg_tup rfl (pgs_cons (pg_name (i := 2) sc__law_owner.nd rfl (Or.inr rfl)) (pgs_cons (pg_name (i := 3) sc__law_owner.nd rfl (Or.inl rfl)) pgs_nil))))
      (pss_cons (ps_asg (pv 1) (pg_tup rfl (pgs_cons (pg_name (i := 4) sc__law_owner.nd rfl (Or.inl rfl)) (pgs_cons (pg_name (i := 5) sc__law_owner.nd rfl (Or.inl rfl)) pgs_nil))))
      (Evl.pss_cut (ps_if (PW.pt (pw_and (pt_chain op_le op_lt pe_int (pv 4) (pv 2)) (pw_and1 (pt_chain op_le op_lt pe_int (pv 5) (pv 3)))))
      (pss_one (ps_ret (pe_ix ix_str (pe_ix ix_list (pv 0) (pv 4) (fun _ _ => rfl)) (pv 5) (fun _ _ => rfl)))) pss_nil)
      (pss_cons (ps_if (pt_cmpR (op_inD (hu65 hr)) (pe_tup (pa_cons (pv 4) (pa_cons (pv 5) pa_nil))) (pe_op op_cat (pe_lc (own := [("x", 6)]) (g := gName 6) (tt := tYes) rfl sc__law_owner.nd (pi_range1 rfl T.z_range (pa_cons (pe_op op_add (pv 3) pe_int) pa_nil)) (blkOk_by (own := [("x", 6)]) (N := N__law_owner) (sc := defScope s__law_owner) (by decide +kernel)) (fun _ _ _ _ _ => (pg_name (i := 6) sc__law_owner.nd rfl (Or.inl rfl))) (fun _ _ _ _ _ => pts_nil) (fun _ _ _ _ _ => (pe_tup (pa_cons (pe_un un_neg pe_int) (pa_cons (pv 6) pa_nil))))) (pe_lc (own := [("x", 6)]) (g := gName 6) (tt := tYes) rfl sc__law_owner.nd (pi_range2 rfl T.z_range (pa_cons (pe_un un_neg pe_int) (pa_cons (pv 3) pa_nil))) (blkOk_by (own := [("x", 6)]) (N := N__law_owner) (sc := defScope s__law_owner) (by decide +kernel)) (fun _ _ _ _ _ => (pg_name (i := 6) sc__law_owner.nd rfl (Or.inl rfl))) (fun _ _ _ _ _ => pts_nil) (fun _ _ _ _ _ => (pe_tup (pa_cons (pv 2) (pa_cons (pv 6) pa_nil)))))) (by rfl))
      (pss_one (ps_ret pe_str)) pss_nil)
      (pss_cons (ps_if (PW.pt (pw_and (pt_chain op_le op_lt pe_int (pv 4) (pv 2)) (pw_and1 (PW.pt (pw_or (pt_cmpR op_eq (pv 5) (pe_un un_neg pe_int) (nomark _)) (pw_or1 (pt_cmpR op_eq (pv 5) (pv 3) (nomark _))))))))
      (pss_one (ps_ret pe_str)) pss_nil)
      (pss_one (ps_ret pe_str))))))), ?_⟩
  refine ⟨_, rfl, l, _, rfl, .inl (SqL.of hl), _, rfl, l, _, _, _, rfl, rfl, SqL.of hl, atI_nat (j := 0) (rowsV_get er0), _, rfl, sz_le (by rw [txt_len]; omega), sz2, fun t0 ht0 => ?_⟩
  rw [txt_len, lr0, rowsV_len, I.hh]
  have s0 := same_new ht0 (.tup [.int (h : Int), .int (w : Int)])
  have ht0' : upd H t0 (.tup [.int (h : Int), .int (w : Int)]) t0 = some (.tup [.int (h : Int), .int (w : Int)]) := upd_same
  revert s0 ht0'
  generalize upd H t0 (.tup [.int (h : Int), .int (w : Int)]) = H0
  intro s0 ht0'
  have hl0 := s0 _ _ hl
  refine ⟨t0, _, rfl, SqT.of ht0', rfl, _, _, rfl, _, _, rfl, rfl, ?_⟩
  refine ⟨_, rfl, t, _, rfl, SqT.of (s0 _ _ ht), rfl, _, _, rfl, _, _, rfl, rfl, ?_⟩
  -- on the board
  refine ⟨fun σ H' => H0 = H' ∧ ¬ Ins h w x ∧ σ = [some (.ref l), some (.ref t), some (.int h), some (.int w), some (.int x.1), some (.int x.2), none], ?_, ?_⟩
  · by_cases c1 : 0 ≤ x.1
    · refine ⟨_, rfl, _, _, rfl, rfl, _, rfl, iteD (fun _ => ?_) (fun y => absurd c1 y)⟩
      by_cases c2 : x.1 < (h : Int)
      · refine ⟨_, rfl, _, _, rfl, rfl, _, rfl, iteD (fun _ => ?_) (fun y => absurd c2 y)⟩
        by_cases c3 : 0 ≤ x.2
        · refine ⟨_, rfl, _, _, rfl, rfl, _, rfl, iteD (fun _ => ?_) (fun y => absurd c3 y)⟩
          refine ⟨_, rfl, _, _, rfl, rfl, _, rfl, iteD (fun c4 => ?_) (fun c4 => ⟨rfl, fun z => c4 z.2.2.2, rfl⟩)⟩
          have z : Ins h w x := ⟨c1, c2, c3, c4⟩
          obtain ⟨s, eo, ec⟩ := own_in I fc z
          obtain ⟨row, er, mr, lr, ecel, _⟩ := I.at z
          rw [ec] at ecel
          have qq := q _ s0
          rw [eo] at qq
          exact ⟨_, rfl, _, rfl, l, _, _, _, rfl, rfl, SqL.of hl0, at_int c1 (rowsV_get er), _, rfl, _, _, _, rfl, rfl, sz_le (by rw [txt_len, lr]; omega), atI_cps c3 ecel, qq⟩
        · exact ⟨_, rfl, _, _, rfl, rfl, _, rfl, iteD (fun y => absurd y c3) (fun _ => ⟨_, rfl, iteF ⟨rfl, fun z => c3 z.2.2.1, rfl⟩⟩)⟩
      · exact ⟨_, rfl, _, _, rfl, rfl, _, rfl, iteD (fun y => absurd y c2) (fun _ => ⟨rfl, fun z => c2 z.2.1, rfl⟩)⟩
    · exact ⟨_, rfl, _, _, rfl, rfl, _, rfl, iteD (fun y => absurd y c1) (fun _ => ⟨_, rfl, iteF ⟨rfl, fun z => c1 z.1, rfl⟩⟩)⟩
  rintro σ H' ⟨rfl, z', rfl⟩
  -- a shore of the north hand
  refine ⟨_, rfl, _, rfl, sz2, fun u hu => ?_⟩
  have su := same_new hu (.tup (cellV x))
  have hu1 : upd H0 u (.tup (cellV x)) u = some (.tup (cellV x)) := upd_same
  refine ⟨_, rfl, _, _, rfl, rfl, ((w : Int) + 1), rfl, by omega, by omega, fun D hD =>
    lc_it walk_range (fun j H' => Same H0 H' ∧ H' u = some (.tup (cellV x)) ∧ ∃ ws, H' D = some (.lst ws) ∧ Cells H' ws ((List.range j).map fun i : Nat => ((-1 : Int), (0 : Int) + (i : Int)))) ⟨su.trans (same_new hD _), same_new hD _ _ _ hu1, [], upd_same, .nil⟩ (fun _ _ _ _ => trivial)
      (fun j y H2 H3 hj ⟨s2, hu2, ws, h2, hc⟩ ⟨e3, ey⟩ => ?_) (fun H2 ⟨s2, hu2, ws, h2, hc⟩ => ?_)⟩
  · subst e3 ey
    have lc := hc.len
    rw [List.length_map, List.length_range] at lc
    refine ⟨rfl, _, rfl, _, rfl, sz2, fun g hg => ?_⟩
    have sg := same_new hg (.tup (cellV ((-1 : Int), (0 : Int) + (j : Int))))
    have nD : H0 D = none := su.free hD
    have nuD : u ≠ D := ne_of_none hu1 hD
    refine ⟨ws, sg _ _ h2, sz_lt (by omega), same_mut (s2.trans sg) nD, ?_, ws ++ [.ref g], upd_same, ?_⟩
    · rw [upd_ne nuD]
      exact sg _ _ hu2
    · rw [List.range_succ, List.map_append]
      exact ((hc.same sg).app (.one upd_same)).tps (.lst (sg _ _ h2))
  have e1 : ((w : Int) + 1).toNat = w + 1 := by omega
  rw [e1] at hc
  have lc1 := hc.len
  rw [List.length_map, List.length_range] at lc1
  refine ⟨_, rfl, _, rfl, (-1 : Int), (w : Int), rfl, ⟨by decide, by decide, by omega, by omega⟩, fun D2 hD2 =>
    lc_it walk_range (fun j H' => Same H2 H' ∧ ∃ ws, H' D2 = some (.lst ws) ∧ Cells H' ws ((List.range j).map fun i : Nat => ((h : Int), (-1 : Int) + (i : Int)))) ⟨same_new hD2 _, [], upd_same, .nil⟩ (fun _ _ _ _ => trivial)
      (fun j y H3 H4 hj ⟨s3, ws3, h3, hc3⟩ ⟨e4, ey⟩ => ?_) (fun H3 ⟨s3, ws3, h3, hc3⟩ => ?_)⟩
  · subst e4 ey
    have lc := hc3.len
    rw [List.length_map, List.length_range] at lc
    refine ⟨rfl, _, rfl, _, rfl, sz2, fun g hg => ?_⟩
    have sg := same_new hg (.tup (cellV ((h : Int), (-1 : Int) + (j : Int))))
    refine ⟨ws3, sg _ _ h3, sz_lt (by omega), same_mut (s3.trans sg) hD2, ws3 ++ [.ref g], upd_same, ?_⟩
    rw [List.range_succ, List.map_append]
    exact ((hc3.same sg).app (.one upd_same)).tps (.lst (sg _ _ h3))
  have e2 : ((w : Int) - (-1)).toNat = w + 1 := by omega
  rw [e2] at hc3
  have lc3 := hc3.len
  rw [List.length_map, List.length_range] at lc3
  refine ⟨D, D2, ws, ws3, rfl, rfl, s3 _ _ h2, h3, sz_le (by omega), fun r hr => ?_⟩
  have sr := same_new hr (.lst (ws ++ ws3))
  have hall := ((hc.same s3).app hc3).same sr
  have s4 := s2.trans (s3.trans sr)
  have mem : x ∈ ((List.range (w + 1)).map fun i : Nat => ((-1 : Int), (0 : Int) + (i : Int))) ++ ((List.range (w + 1)).map fun i : Nat => ((h : Int), (-1 : Int) + (i : Int))) ↔ ((x.1 = -1 ∧ 0 ≤ x.2 ∧ x.2 ≤ (w : Int)) ∨ (x.1 = (h : Int) ∧ -1 ≤ x.2 ∧ x.2 < (w : Int))) := by
    rw [List.mem_append, List.mem_map, List.mem_map]
    constructor
    · rintro (⟨i, hi, e⟩ | ⟨i, hi, e⟩)
      · have := List.mem_range.mp hi
        have a1 : (-1 : Int) = x.1 := congrArg Prod.fst e
        have a2 : (0 : Int) + (i : Int) = x.2 := congrArg Prod.snd e
        exact .inl ⟨by omega, by omega, by omega⟩
      · have := List.mem_range.mp hi
        have a1 : (h : Int) = x.1 := congrArg Prod.fst e
        have a2 : (-1 : Int) + (i : Int) = x.2 := congrArg Prod.snd e
        exact .inr ⟨by omega, by omega, by omega⟩
    · rintro (⟨a, b, c⟩ | ⟨a, b, c⟩)
      · exact .inl ⟨x.2.toNat, List.mem_range.mpr (by omega), Prod.ext a.symm (by show (0 : Int) + ((x.2.toNat : Nat) : Int) = x.2; omega)⟩
      · exact .inr ⟨(x.2 + 1).toNat, List.mem_range.mpr (by omega), Prod.ext a.symm (by show (-1 : Int) + (((x.2 + 1).toNat : Nat) : Int) = x.2; omega)⟩
  refine ⟨_, _, cell_dp (c := x) (sr _ _ (s3 _ _ hu2)), .lst (SqL.of upd_same) hall.dp, shaped_cell _, shaped_cells _, _, rfl, ?_⟩
  rw [any_cells]
  refine iteD (fun k => ?_) (fun k => ?_)
  · have eo : own (cel B) h w x = some false := by
      unfold own
      rw [if_neg z', if_pos (mem.mp k)]
    have qq := q _ (s0.trans s4)
    rw [eo] at qq
    rw [s_n]
    exact qq
  have nn := fun z => k (mem.mpr z)
  have yw : (0 ≤ x.1 ∧ x.1 < (h : Int) ∧ (x.2 = -1 ∨ x.2 = (w : Int))) → Q (.str (Str.ofString "w")) (upd H3 r (.lst (ws ++ ws3))) := fun m => by
    have eo : own (cel B) h w x = some true := by
      unfold own
      rw [if_neg z', if_neg nn, if_pos m]
    have qq := q _ (s0.trans s4)
    rw [eo] at qq
    rw [s_w]
    exact qq
  have yo : ¬ (0 ≤ x.1 ∧ x.1 < (h : Int) ∧ (x.2 = -1 ∨ x.2 = (w : Int))) → Q (.str (Str.ofString "")) (upd H3 r (.lst (ws ++ ws3))) := fun m => by
    have eo : own (cel B) h w x = none := by
      unfold own
      rw [if_neg z', if_neg nn, if_neg m]
    have qq := q _ (s0.trans s4)
    rw [eo] at qq
    rw [s_nil]
    exact qq
  by_cases c1 : 0 ≤ x.1
  · refine ⟨_, rfl, _, _, rfl, rfl, _, rfl, iteD (fun _ => ?_) (fun y => absurd c1 y)⟩
    refine ⟨_, rfl, _, _, rfl, rfl, _, rfl, iteD (fun c2 => ?_) (fun c2 => yo fun k => c2 k.2.1)⟩
    refine ⟨_, rfl, _, rfl, rfl, _, rfl, iteD (fun c3 => yw ⟨c1, c2, .inl (V.int.inj c3)⟩) (fun c3 => ?_)⟩
    refine ⟨_, rfl, _, rfl, rfl, _, rfl, iteD (fun c4 => yw ⟨c1, c2, .inr (V.int.inj c4)⟩) (fun c4 => yo fun k => ?_)⟩
    rcases k.2.2 with k | k
    · exact c3 (congrArg V.int k)
    · exact c4 (congrArg V.int k)
  · exact ⟨_, rfl, _, _, rfl, rfl, _, rfl, iteD (fun y => absurd y c1) (fun _ => ⟨_, rfl, iteF (yo fun k => c1 k.1)⟩)⟩
def sp__law_due : Sp := fun vs H Q _ => ∃ (l : Addr) (B : Bd) (h w : Nat), vs = [.ref l] ∧ H l = some (.lst (rowsV B)) ∧ IsB B h w ∧ (∀ y, cel B y ≠ 46) ∧
  ∀ (f : Addr) (ws : List V) (ps : List Pr) (x : Pr) (H' : Hp), Same H H' → H f = none → H' f = some (.lst ws) → Pairs H' ws ps → Wk (cel B) h w ps x → stp (cel B) h w x = none → Q (.ref f) H'
theorem ok__law_due (T : Top K mg) : FnOk P w K mg base CX0 2 T.a__law_due T.d__law_due ["rows"] sp__law_due := by
  refine T.F__law_due.ok sc__law_due (fun vs H Q E h => ?_) (fun cdv A outer s H vs Q E hr h => ?_)
  · obtain ⟨_, _, _, _, rfl, _⟩ := h
    rfl
  obtain ⟨l, B, h, w, rfl, hl, I, fc, q⟩ := h
  have h9 := I.h9
  have w9 := I.w9
  have a2 := area2 I
  obtain ⟨r0, er0, lr0⟩ := I.row (i := 0) I.h1
  refine ⟨_, (pss_cons (ps_set (i := 1) sc__law_due.nd rfl (Or.inl rfl) (pe_lst (pa_cons (pe_tup (pa_cons (pe_un un_neg pe_int) (pa_cons pe_int pa_nil))) (pa_cons (pe_tup (pa_cons (pe_un un_neg pe_int) (pa_cons pe_int pa_nil))) (pa_cons (pe_tup (pa_cons pe_int (pa_cons pe_int pa_nil))) (pa_cons (pe_tup (pa_cons pe_int (pa_cons pe_int pa_nil))) (pa_cons (pe_tup (pa_cons pe_int (pa_cons (pe_un un_neg pe_int) pa_nil))) (pa_cons (pe_tup (pa_cons pe_int (pa_cons (pe_un un_neg pe_int) pa_nil))) pa_nil))))))))
      (Evl.pss_cut (ps_asg (pe_tup (pa_cons (pe_tup (pa_cons (pe_un un_neg pe_int) (pa_cons pe_int pa_nil))) (pa_cons (pe_tup (pa_cons pe_int (pa_cons (pe_un un_neg pe_int) pa_nil))) pa_nil))) (pg_tup rfl (pgs_cons (pg_name (i := 4) sc__law_due.nd rfl (Or.inl rfl)) (pgs_cons (pg_name (i := 5) sc__law_due.nd rfl (Or.inl rfl)) pgs_nil))))
      (pss_cons (ps_set (i := 2) sc__law_due.nd rfl (Or.inl rfl) (pe_lst (pa_cons (pe_tup (pa_cons (pv 4) (pa_cons (pv 5) pa_nil))) pa_nil)))
      (pss_cons (ps_for PassesOwn.never rfl (pi_range1 rfl T.z_range (pa_cons (pe_op op_mul (pe_op op_mul pe_int (pe_op op_add (pe_callB call_len_seq (by rfl) T.z_len PySem.boot_len (pa_cons (pv 0) pa_nil)) pe_int)) (pe_op op_add (pe_callB call_len_str (by rfl) T.z_len PySem.boot_len (pa_cons (pe_ix ix_list (pv 0) pe_int (fun _ _ => rfl)) pa_nil)) pe_int)) pa_nil)) (pg_name (i := 3) sc__law_due.nd rfl (Or.inl rfl))
      (pss_cons (ps_set (i := 6) sc__law_due.nd rfl (Or.inl rfl) (pe_bm PySem.F.plainAttrs_list PySem.F.slot_list_index PySem.F.type_list_index (mt_indexD (hu65 hr)) (pv 1) (pa_cons (pe_tup (pa_cons (pe_op op_sub (pe_ix ix_tup (pv 4) pe_int (fun _ _ => rfl)) (pe_ix ix_tup (pv 5) pe_int (fun _ _ => rfl))) (pa_cons (pe_op op_sub (pe_ix ix_tup (pv 4) pe_int (fun _ _ => rfl)) (pe_ix ix_tup (pv 5) pe_int (fun _ _ => rfl))) pa_nil))) pa_nil)))
      (pss_cons (ps_set (i := 7) sc__law_due.nd rfl (Or.inl rfl) (pe_ix ix_list (pv 1) (pe_op op_mod (pe_op op_add (pv 6) pe_int) pe_int) (fun _ _ => rfl)))
      (pss_cons (ps_set (i := 8) sc__law_due.nd rfl (Or.inl rfl) (pe_tup (pa_cons (pe_op op_add (pe_ix ix_tup (pv 5) pe_int (fun _ _ => rfl)) (pe_ix ix_tup (pv 7) pe_int (fun _ _ => rfl))) (pa_cons (pe_op op_add (pe_ix ix_tup (pv 5) pe_int (fun _ _ => rfl)) (pe_ix ix_tup (pv 7) pe_int (fun _ _ => rfl))) pa_nil))))
      (pss_cons (ps_set (i := 9) sc__law_due.nd rfl (Or.inl rfl) (pe_call (ok__law_owner T) (hr.mono (by decide)) rfl T.m__law_owner T.F__law_owner.kp T.B__law_owner .nil pass0 (pa_cons (pv 0) (pa_cons (pv 8) pa_nil))))
      (pss_cons (ps_if (pt_cmpR op_eq (pv 9) pe_str (nomark _))
      (pss_one (ps_ret (pv 2))) pss_nil)
      (Evl.pss_cut (ps_if (pt_cmpR op_eq (pv 9) pe_str (nomark _))
      (pss_one (ps_set (i := 4) sc__law_due.nd rfl (Or.inl rfl) (pv 8))) (pss_one (ps_set (i := 5) sc__law_due.nd rfl (Or.inl rfl) (pv 8))))
      (pss_one (ps_expr (pe_bm PySem.F.plainAttrs_list PySem.F.slot_list_append PySem.F.type_list_append mt_append (pv 2) (pa_cons (pe_tup (pa_cons (pv 4) (pa_cons (pv 5) pa_nil))) pa_nil)))))))))))
      (pss_one (ps_ret (pe_lst pa_nil))))))), ?_⟩
  -- steps
  refine qa (NewCells H (near6 (0, 0))) (fun Q' k => ?_) (fun v H1 hv => ?_)
  · refine ⟨_, rfl, sz2, fun t1 g1 => ?_⟩
    refine ⟨_, rfl, sz2, fun t2 g2 => ?_⟩
    refine ⟨sz2, fun t3 g3 => ?_⟩
    refine ⟨sz2, fun t4 g4 => ?_⟩
    refine ⟨_, rfl, sz2, fun t5 g5 => ?_⟩
    refine ⟨_, rfl, sz2, fun t6 g6 => ?_⟩
    refine ⟨sz6, fun p hp => ?_⟩
    exact k _ _ (new_six (H := H) (r := 0) (c := 0) rfl rfl rfl rfl rfl rfl g1 g2 g3 g4 g5 g6 hp)
  obtain ⟨p, sw, rfl, np, s1, hp1, hc1⟩ := hv
  -- one, two
  refine ⟨fun σ H' => Same H1 H' ∧ ∃ a b : Addr, H' a = some (.tup (cellV st0.1)) ∧ H' b = some (.tup (cellV st0.2)) ∧ σ = [some (.ref l), some (.ref p), none, none, some (.ref a), some (.ref b), none, none, none, none], ?_, ?_⟩
  · refine ⟨_, rfl, sz2, fun a ha => ?_⟩
    have sa := same_new ha (.tup (cellV st0.1))
    have ha1 : upd H1 a (.tup (cellV st0.1)) a = some (.tup (cellV st0.1)) := upd_same
    refine ⟨_, rfl, sz2, fun b hb => ?_⟩
    have sb := same_new hb (.tup (cellV st0.2))
    have hb1 : upd (upd H1 a (.tup (cellV st0.1))) b (.tup (cellV st0.2)) b = some (.tup (cellV st0.2)) := upd_same
    refine ⟨sz2, fun tt htt => ?_⟩
    have stt := same_new htt (.tup [V.ref a, V.ref b])
    refine ⟨tt, _, rfl, SqT.of upd_same, rfl, _, _, rfl, _, _, rfl, rfl, ?_⟩
    exact ⟨sa.trans (sb.trans stt), a, b, stt _ _ (sb _ _ ha1), stt _ _ hb1, rfl⟩
  rintro σ H2 ⟨s2, a, b, ha, hb, rfl⟩
  -- found
  refine ⟨_, rfl, _, rfl, sz2, fun t ht => ?_⟩
  have st := same_new ht (.tup [V.ref a, V.ref b])
  have ht3 : upd H2 t (.tup [V.ref a, V.ref b]) t = some (.tup [V.ref a, V.ref b]) := upd_same
  refine ⟨sz1, fun f hf => ?_⟩
  have sf := same_new hf (.lst [V.ref t])
  have nf1 : H1 f = none := (s2.trans st).free hf
  have s4 := s2.trans (st.trans sf)
  have hl1 := s1 _ _ hl
  have hl4 := s4 _ _ hl1
  have e7 : (7 : Int) * ((((rowsV B).length : Nat) : Int) + 2) * ((((txt r0).length : Nat) : Int) + 2) = ((7 * ((h + 2) * (w + 2)) : Nat) : Int) := by
    rw [rowsV_len, I.hh, txt_len, lr0, Int.mul_assoc]
    push_cast
    rfl
  have b0 : (((rowsV B).length : Nat) : Int) = h := by rw [rowsV_len, I.hh]
  refine ⟨_, rfl, l, _, rfl, .inl (SqL.of hl4), _, _, rfl, rfl, _, _, rfl, rfl, .inl ⟨by decide, by decide⟩, _, rfl, l, _, _, _, rfl, rfl, SqL.of hl4, atI_nat (j := 0) (rowsV_get er0), _, rfl, sz_le (by rw [txt_len]; omega), _, _, rfl, rfl, _, _, rfl, rfl, .inl ⟨?_, ?_⟩, ((7 * ((h + 2) * (w + 2)) : Nat) : Int), by rw [← e7], ?_, ?_,
    for_range (lo := 0) (n := 7 * ((h + 2) * (w + 2))) (fun i σ H' => ∃ (ps : List Pr) (x : Pr) (ws : List V) (a b : Addr) (v3 v6 v7 v8 v9 : Option V), Same H1 H' ∧ H' f = some (.lst ws) ∧ Pairs H' ws ps ∧ Wk (cel B) h w ps x ∧ ps.length = i + 1 ∧ H' a = some (.tup (cellV x.1)) ∧ H' b = some (.tup (cellV x.2)) ∧
      σ = [some (.ref l), some (.ref p), some (.ref f), v3, some (.ref a), some (.ref b), v6, v7, v8, v9])
    ⟨[st0], st0, [.ref t], a, b, _, _, _, _, _, s4, upd_same, .cons (sf _ _ ht3) (sf _ _ (st _ _ ha)) (sf _ _ (st _ _ hb)) .nil, .one, rfl, sf _ _ (st _ _ ha), sf _ _ (st _ _ hb), rfl⟩ ?_ ?_⟩
  · show -(2 ^ 64 : Int) < 7 * ((((rowsV B).length : Nat) : Int) + 2)
    omega
  · show 7 * ((((rowsV B).length : Nat) : Int) + 2) < (2 ^ 64 : Int)
    omega
  · omega
  · omega
  · rintro i σ H5 hi ⟨ps, x, ws, a, b, v3, v6, v7, v8, v9, s5, hf5, hp5, wk, lps, ha5, hb5, rfl⟩
    have bd := wk.bound I.h1
    have vl := wk.vld I.h1
    have lw := hp5.len
    obtain ⟨j, e, j6, ej, en, eah, no⟩ := step_next vl.nr
    have hst5 := s5 _ _ hp1
    have hcs5 := hc1.same s5
    -- k
    refine ⟨_, rfl, .inl ⟨rfl, _, SqL.of hst5⟩, _, rfl, a, _, _, _, rfl, rfl, SqT.of ha5, atI_nat (j := 0) rfl, _, rfl, b, _, _, _, rfl, rfl, SqT.of hb5, atI_nat (j := 0) rfl, _, _, rfl, rfl,
      _, rfl, a, _, _, _, rfl, rfl, SqT.of ha5, atI_nat (j := 1) rfl, _, rfl, b, _, _, _, rfl, rfl, SqT.of hb5, atI_nat (j := 1) rfl, _, _, rfl, rfl, sz2, fun d hd => ?_⟩
    have sd := same_new hd (.tup (cellV (x.1.1 - x.2.1, x.1.2 - x.2.2)))
    have hd6 : upd H5 d (.tup (cellV (x.1.1 - x.2.1, x.1.2 - x.2.2))) d = some (.tup (cellV (x.1.1 - x.2.1, x.1.2 - x.2.2))) := upd_same
    have hst6 := sd _ _ hst5
    have hcs6 := hcs5.same sd
    refine ⟨p, .ref d, cellD (x.1.1 - x.2.1, x.1.2 - x.2.2), (near6 (0, 0)).map cellD, j, cellD (x.1.1 - x.2.1, x.1.2 - x.2.2), rfl, rfl, .lst (SqL.of hst6) hcs6.dp, cell_dp hd6, shaped_cells _, shaped_cell _, by rw [List.getElem?_map, ej]; rfl, by rw [eqv_cell, decide_eq_true rfl], fun m z hm ez => ?_, ?_⟩
    · obtain ⟨c, ec, rfl⟩ := map_get ez
      rw [eqv_cell, decide_eq_false (no m c hm ec)]
    refine gn ?_
    -- step
    obtain ⟨g, eg, hg6⟩ := hcs6.at en
    have ek : ((j : Int) + 1) % 6 = (((j + 1) % 6 : Nat) : Int) := by omega
    refine ⟨_, rfl, _, rfl, _, _, rfl, rfl, _, _, rfl, rfl, (show (0 : Int) < 6 by decide), p, _, _, V.ref g, rfl, rfl, SqL.of hst6, ?_, ?_⟩
    · show atI sw (((j : Int) + 1) % 6) = some (.ref g)
      rw [ek]
      exact atI_nat eg
    refine gn ?_
    -- ahead
    have hb6 := sd _ _ hb5
    have ha6 := sd _ _ ha5
    refine ⟨_, rfl, b, _, _, _, rfl, rfl, SqT.of hb6, atI_nat (j := 0) rfl, _, rfl, g, _, _, _, rfl, rfl, SqT.of hg6, atI_nat (j := 0) rfl, _, _, rfl, rfl,
      _, rfl, b, _, _, _, rfl, rfl, SqT.of hb6, atI_nat (j := 1) rfl, _, rfl, g, _, _, _, rfl, rfl, SqT.of hg6, atI_nat (j := 1) rfl, _, _, rfl, rfl, sz2, fun u hu => ?_⟩
    have su := same_new hu (.tup (cellV (x.2.1 + e.1, x.2.2 + e.2)))
    have hu7 : upd (upd H5 d (.tup (cellV (x.1.1 - x.2.1, x.1.2 - x.2.2)))) u (.tup (cellV (x.2.1 + e.1, x.2.2 + e.2))) u = some (.tup (cellV (ahd x.1 x.2))) := by
      rw [upd_same, eah]
    have s7 := sd.trans su
    refine gn ?_
    -- hand
    refine ⟨_, rfl, _, rfl, l, B, h, w, u, ahd x.1 x.2, rfl, (s5.trans s7) _ _ hl1, I, fc, hu7, fun H8 s8 => ?_⟩
    have s9 := s7.trans s8
    cases eo : own (cel B) h w (ahd x.1 x.2) with
    | none =>
      have es : stp (cel B) h w x = none := by
        unfold stp
        rw [eo]
      refine ⟨_, rfl, rfl, _, rfl, iteD (fun _ => ?_) (fun y => absurd (by rw [s_nil]; rfl) y)⟩
      exact ⟨_, rfl, q f _ _ x H8 (s1.trans (s5.trans s9)) (s1.free nf1) (s9 _ _ hf5) (hp5.same s9) wk es⟩
    | some s =>
      refine ⟨_, rfl, rfl, _, rfl, iteD (fun y => ?_) (fun _ => ?_)⟩
      · exfalso
        have y' : V.str (txt [lt s]) = V.str (Str.ofString "") := y
        rw [s_nil] at y'
        have := txt_inj (V.str.inj y')
        cases this
      -- one or two
      have hu8 := s8 _ _ hu7
      have ha8 := s9 _ _ ha5
      have hb8 := s9 _ _ hb5
      refine tn ?_
      refine ⟨fun σ H' => H8 = H' ∧ ∃ (y : Pr) (a' b' : Addr), stp (cel B) h w x = some y ∧ H8 a' = some (.tup (cellV y.1)) ∧ H8 b' = some (.tup (cellV y.2)) ∧ ∃ v3 v6 v7 v8 v9, σ = [some (.ref l), some (.ref p), some (.ref f), v3, some (.ref a'), some (.ref b'), v6, v7, v8, v9], ?_, ?_⟩
      · cases s with
        | false =>
          have es : stp (cel B) h w x = some (ahd x.1 x.2, x.2) := by
            unfold stp
            rw [eo]
          refine ⟨_, rfl, rfl, _, rfl, iteD (fun _ => ?_) (fun y => absurd (by rw [s_n]; rfl) y)⟩
          exact ⟨_, rfl, rfl, _, u, b, es, hu8, hb8, _, _, _, _, _, rfl⟩
        | true =>
          have es : stp (cel B) h w x = some (x.1, ahd x.1 x.2) := by
            unfold stp
            rw [eo]
          refine ⟨_, rfl, rfl, _, rfl, iteD (fun y => absurd (hand_n.mp y) (by decide)) (fun _ => ?_)⟩
          exact ⟨_, rfl, rfl, _, a, u, es, ha8, hu8, _, _, _, _, _, rfl⟩
      rintro σ H' ⟨rfl, y, a', b', es, ha', hb', v3, v6, v7, v8, v9, rfl⟩
      have hf8 := s9 _ _ hf5
      refine ⟨_, rfl, .inl ⟨rfl, _, SqL.of hf8⟩, _, rfl, _, rfl, sz2, fun t ht => ?_⟩
      have st := same_new ht (.tup [V.ref a', V.ref b'])
      have hf9 := st _ _ hf8
      have lb : ws.length ≤ 726 := by omega
      refine ⟨f, ws, _, rfl, rfl, hf9, sz_lt (by omega), ?_⟩
      have tp := Tps.lst (o := .lst (ws ++ [V.ref t])) hf9
      exact ⟨ps ++ [y], y, ws ++ [V.ref t], a', b', _, _, _, _, _, same_mut ((s5.trans s9).trans st) nf1, upd_same, (((hp5.same s9).same st).app (.cons upd_same (st _ _ ha') (st _ _ hb') .nil)).tps tp, .snoc wk es, by rw [List.length_append, lps]; rfl, tp _ _ (st _ _ ha'), tp _ _ (st _ _ hb'), rfl⟩
  · rintro σ H5 ⟨ps, x, ws, a, b, v3, v6, v7, v8, v9, s5, hf5, hp5, wk, lps, ha5, hb5, rfl⟩
    exfalso
    have bd := wk.bound I.h1
    have : 0 < (h + 2) * (w + 2) := Nat.mul_pos (by omega) (by omega)
    omega
end
end Sw
namespace Sw
open PySem PySem.Spec PyProof.Rows L2
section
variable {P : Program} {w : World} {K : PySem.W.Frag} {mg : Str → Option Value} {base : Heap}
/-! the law -/
def sp__law_met (C : Addr) : Sp := fun vs H Q _ => ∃ (p l : Addr) (B : Bd) (h w : Nat), vs = [.ref p] ∧ BoardAt C H p l B ∧ IsB B h w ∧ (emptyL B ≠ [] → ∀ H', Same H H' → Q (.bl true) H') ∧
  (emptyL B = [] → ∀ v H', WalkIs H B h w v H' → Q v H')
theorem ok__law_met (T : Top K mg) : FnOk P w K mg base CX0 5 T.a__law_met T.d__law_met ["board"] (sp__law_met T.C_Board) := by
  refine T.F__law_met.ok sc__law_met (fun vs H Q E h => ?_) (fun cdv A outer s H vs Q E hr h => ?_)
  · obtain ⟨_, _, _, _, _, rfl, _⟩ := h
    rfl
  obtain ⟨p, l, B, h, w, rfl, bt, I, q1, q2⟩ := h
  refine ⟨_, (pss_one (ps_try_as (i := 1) (Wout := fun _ _ _ _ => False) rfl rfl sc__law_met.nd rfl rfl ⟨rfl, by decide, .inl T.mC_NotFull⟩ takes0 (fun W pn xe tk po => (pss_one (ps_ret (pe_callS (ok_walk T) (hr.mono (by decide)) rfl T.m_walk T.F_walk.kp T.B_walk (fun σ => passAt tk σ) (pa_cons (pv 0) pa_nil)))))
      (fun a oe cls d pn hz hf => (pss_one (ps_ret (pe_callB (call_isXK (K := K) rfl hz hf) (by rfl) T.z_isinstance (by decide +kernel) (pa_cons (pv 1) (pa_cons (pe_glob (v := .ref T.C_ShoreError) rfl T.mC_ShoreError rfl) pa_nil)))))))), ?_⟩
  refine ⟨_, rfl, p, l, B, h, w, rfl, bt, I, (fun z H' s' => ?_), q2⟩
  refine ⟨true, exm_of T.b_NotFull T.i_NotFull T.t_NotFull T.s_NotFull_NotFull, (fun _ a na => ?_), fun z => nomatch z⟩
  exact ⟨_, rfl, _, rfl, rfl, T.E_NotFull, _, _, _, rfl, (fun u r => r), T.kit_NotFull_ShoreError, q1 z H' s'⟩
theorem full_cel {B : Bd} {h w : Nat} (I : IsB B h w) (f : ∀ r ∈ B, ∀ c ∈ r, c ≠ 46) (p : Cell) : cel B p ≠ 46 := by
  intro e
  obtain ⟨r, _, mr, _, er, _⟩ := I.at (I.ins (p := p) (by rw [e]; decide))
  rw [e] at er
  exact f r mr 46 (List.mem_of_getElem? er) rfl
theorem full_empty {B : Bd} (f : ∀ p, cel B p ≠ 46) : emptyL B = [] := by
  cases e : emptyL B with
  | nil => rfl
  | cons a as =>
    have : a ∈ emptyL B := by rw [e]; exact List.mem_cons_self
    exact absurd (mem_emptyL.mp this) (f a)
def sp_law (K : PySem.W.Frag) : Sp := fun vs H Q _ => ∃ (a : Addr) (ns : List Int), vs = [.ref a] ∧ SqL K H a (ns.map V.int) ∧ ns.length ≤ 63 ∧ ∀ H', Q (.bl true) H'
theorem ok_law (T : Top K mg) : FnOk P w K mg base CX0 9 T.a_law T.d_law ["script"] (sp_law K) := by
  refine T.F_law.ok sc_law (fun vs H Q E h => ?_) (fun cdv A outer s H vs Q E hr h => ?_)
  · obtain ⟨_, _, rfl, _⟩ := h
    rfl
  obtain ⟨a, ns, rfl, hS, hlen, q⟩ := h
  refine ⟨_, (pss_cons (ps_asg (pe_call (ok__law_size_by T) (hr.mono (by decide)) rfl T.m__law_size_by T.F__law_size_by.kp T.B__law_size_by .nil pass0 (pa_cons (pv 0) (pa_cons pe_int pa_nil))) (pg_tup rfl (pgs_cons (pg_name (i := 5) sc_law.nd rfl (Or.inl rfl)) (pgs_cons (pg_name (i := 6) sc_law.nd rfl (Or.inl rfl)) pgs_nil))))
      (pss_cons (ps_set (i := 1) sc_law.nd rfl (Or.inl rfl) (pe_call (ok__law_rows_by T) (hr.mono (by decide)) rfl T.m__law_rows_by T.F__law_rows_by.kp T.B__law_rows_by .nil pass0 (pa_cons (pv 0) (pa_cons (pv 5) (pa_cons (pv 6) (pa_cons pe_bl pa_nil))))))
      (pss_cons (ps_if (pt_cmpR op_eq (pe_op op_mod (pe_call (ok__law_cell_at T) (hr.mono (by decide)) rfl T.m__law_cell_at T.F__law_cell_at.kp T.B__law_cell_at .nil pass0 (pa_cons (pv 0) (pa_cons pe_int pa_nil))) pe_int) pe_int (nomark _))
      (Evl.pss_cut (ps_par (i := 9) (j := 10) (by rfl) sc_law.nd rfl rfl (by decide) rfl rfl (pa_cons (pe_op op_mod (pe_op op_fdiv (pe_call (ok__law_cell_at T) (hr.mono (by decide)) rfl T.m__law_cell_at T.F__law_cell_at.kp T.B__law_cell_at .nil pass0 (pa_cons (pv 0) (pa_cons pe_int pa_nil))) pe_int) (pv 5)) (pa_cons (pe_op op_mod (pe_call (ok__law_cell_at T) (hr.mono (by decide)) rfl T.m__law_cell_at T.F__law_cell_at.kp T.B__law_cell_at .nil pass0 (pa_cons (pv 0) (pa_cons pe_int pa_nil))) (pv 6)) pa_nil)) (by rfl))
      (pss_cons (ps_asg (pe_op op_add_str (pe_op op_add_str (pe_slice sl_str (pe_ix ix_list (pv 1) (pv 9) (fun _ _ => rfl)) po_none (po_some (pv 10))) pe_str) (pe_slice sl_str (pe_ix ix_list (pv 1) (pv 9) (fun _ _ => rfl)) (po_some (pe_op op_add (pv 10) pe_int)) po_none)) (pg_sub (pv 1) (pv 9) set_list))
      (pss_one (ps_ret (pe_cmpR op_isBl (pe_call (ok__law_met T) (hr.mono (by decide)) rfl T.m__law_met T.F__law_met.kp T.B__law_met .nil pass0 (pa_cons (pe_make T.Mk_Board (ok_Board_init T) (hr.mono (by decide)) (by rfl) T.mC_Board T.B_Board___init__ .nil passL (pa_cons (pv 1) pa_nil)) pa_nil)) pe_bl (nomark _)))))) pss_nil)
      (pss_cons (ps_set (i := 2) sc_law.nd rfl (Or.inl rfl) (pe_make T.Mk_Board (ok_Board_init T) (hr.mono (by decide)) (by rfl) T.mC_Board T.B_Board___init__ .nil passL (pa_cons (pe_callTy call_list_of (by rfl) T.z_list (by decide +kernel) (pa_cons (pv 1) pa_nil)) pa_nil)))
      (pss_cons (ps_set (i := 3) sc_law.nd rfl (Or.inl rfl) (pe_call (ok__law_due T) (hr.mono (by decide)) rfl T.m__law_due T.F__law_due.kp T.B__law_due .nil pass0 (pa_cons (pv 1) pa_nil)))
      (pss_cons (ps_for PassesOwn.never rfl (pi_range1 rfl T.z_range (pa_cons pe_int pa_nil)) (pg_name (i := 4) sc_law.nd rfl (Or.inl rfl))
      (pss_cons (ps_set (i := 7) sc_law.nd rfl (Or.inl rfl) (pe_call (ok__law_met T) (hr.mono (by decide)) rfl T.m__law_met T.F__law_met.kp T.B__law_met .nil pass0 (pa_cons (pv 2) pa_nil)))
      (pss_cons (ps_if (PW.pt (pw_or (pt_not (pt_val (pe_callB call_isi (by rfl) T.z_isinstance (by decide +kernel) (pa_cons (pv 7) (pa_cons (pe_bltn (v := .ty "list") (u := .type "list") (by rfl) T.z_list (by decide +kernel) rfl) pa_nil))))) (pw_or1 (pt_cmpR op_ne (pe_callB call_len_seq (by rfl) T.z_len PySem.boot_len (pa_cons (pv 7) pa_nil)) (pe_callB call_len_seq (by rfl) T.z_len PySem.boot_len (pa_cons (pv 3) pa_nil)) (nomark _)))))
      (pss_one (ps_ret pe_bl)) pss_nil)
      (pss_cons (ps_for PassesOwn.never rfl (pi_list (pv 7)) (pg_name (i := 8) sc_law.nd rfl (Or.inl rfl))
      (pss_one (ps_if (PW.pt (pw_or (pt_not (pt_val (pe_callB call_isi (by rfl) T.z_isinstance (by decide +kernel) (pa_cons (pv 8) (pa_cons (pe_bltn (v := .ty "tuple") (u := .type "tuple") (by rfl) T.z_tuple (by decide +kernel) rfl) pa_nil))))) (pw_or1 (pt_not (pt_val (pe_call (ok__law_places T) (hr.mono (by decide)) rfl T.m__law_places T.F__law_places.kp T.B__law_places .nil pass0 (pa_cons (pe_callTy call_list_of (by rfl) T.z_list (by decide +kernel) (pa_cons (pv 8) pa_nil)) (pa_cons pe_int pa_nil))))))))
      (pss_one (ps_ret pe_bl)) pss_nil)))
      (pss_cons (ps_if (pt_cmpR (op_neD hr.units) (pv 7) (pv 3) (nomark _))
      (pss_one (ps_ret pe_bl)) pss_nil)
      (pss_one (ps_expr (pe_bm0 PySem.F.plainAttrs_list PySem.F.slot_list_clear PySem.F.type_list_clear mt_clear (pv 7)))))))))
      (pss_one (ps_ret (pe_cmpR (op_eqD hr.units) (pe_fld (pv 2) rfl) (pv 1) (nomark _)))))))))), ?_⟩
  -- height, width; rows
  refine ⟨_, rfl, a, ns, 9, rfl, hS, by decide, fun h w t H1 h1 h9 w1 w9 s1 ht => ?_⟩
  obtain ⟨h, rfl⟩ : ∃ n : Nat, h = (n : Int) := ⟨h.toNat, by omega⟩
  obtain ⟨w, rfl⟩ : ∃ n : Nat, w = (n : Int) := ⟨w.toNat, by omega⟩
  refine ⟨t, _, rfl, SqT.of ht, rfl, _, _, rfl, _, _, rfl, rfl, ?_⟩
  have hS1 := s1.seq hS
  refine ⟨_, rfl, _, rfl, _, rfl, a, ns, h, w, true, rfl, hS1, by omega, by omega, by omega, by omega, fun B l H3 s3 nl hl I fu => ?_⟩
  have fc := full_cel I (fu rfl)
  have hS3 := s3.seq hS1
  refine gn ?_
  refine ⟨_, rfl, a, ns, 13, rfl, hS3, by decide, _, _, rfl, rfl, (show (0 : Int) < 6 by decide), rfl, _, rfl, iteD (fun _ => ?_) (fun _ => ?_)⟩
  · -- a cell of it empty
    have m0 := Int.emod_nonneg (sAt ns 13 / 6) (show (h : Int) ≠ 0 by omega)
    have m1 := Int.emod_lt_of_pos (sAt ns 13 / 6) (show (0 : Int) < h by omega)
    have m2 := Int.emod_nonneg (sAt ns 14) (show (w : Int) ≠ 0 by omega)
    have m3 := Int.emod_lt_of_pos (sAt ns 14) (show (0 : Int) < w by omega)
    refine ⟨fun σ H' => H3 = H' ∧ ∃ r c : Int, Ins h w (r, c) ∧ σ = [some (.ref a), some (.ref l), none, none, none, some (.int h), some (.int w), none, none, some (.int r), some (.int c)], ?_, ?_⟩
    · refine ⟨_, rfl, a, ns, 13, rfl, hS3, by decide, _, _, rfl, rfl, ⟨by decide, by decide⟩, _, rfl, _, _, rfl, rfl, (show (0 : Int) < h by omega), _, rfl, a, ns, 14, rfl, hS3, by decide, _, rfl, _, _, rfl, rfl, (show (0 : Int) < w by omega), _, _, rfl, ?_⟩
      exact ⟨rfl, _, _, ⟨m0, m1, m2, m3⟩, rfl⟩
    rintro σ H' ⟨rfl, r, c, ins, rfl⟩
    obtain ⟨row, er, mr, lr, ec, _⟩ := I.at ins
    have z1 := ins.1
    have z2 := ins.2.1
    have z3 := ins.2.2.1
    have z4 := ins.2.2.2
    have ltr : (txt row).length = w := by rw [txt_len, lr]
    have atr : atI (rowsV B) r = some (rowV row) := at_int z1 (rowsV_get er)
    refine ⟨_, rfl, _, rfl, l, _, _, _, rfl, rfl, SqL.of hl, atr, _, rfl, _, rfl, _, rfl, sz_le (by omega), ?_⟩
    rw [cutS_to z3 (by rw [lr]; show c ≤ ((w : Nat) : Int); omega)]
    refine ⟨_, _, rfl, rfl, ?_, _, rfl, _, rfl, l, _, _, _, rfl, rfl, SqL.of hl, atr, _, rfl, _, _, rfl, rfl, _, rfl, _, rfl, sz_le (by omega), ?_⟩
    · rw [s_dot, txt_len, txt_len, List.length_take]
      exact sz_le (by show _ + 1 ≤ 1000000; omega)
    rw [cutS_from (by show (0 : Int) ≤ c + 1; omega) (by rw [lr]; show c + 1 ≤ ((w : Nat) : Int); omega), s_dot, txt_app]
    refine ⟨_, _, rfl, rfl, ?_, ?_⟩
    · rw [txt_len, txt_len, List.length_append, List.length_take, List.length_drop]
      exact sz_le (by show _ + 1 + _ ≤ 1000000; omega)
    have etx : row.take c.toNat ++ [46] ++ row.drop (c + 1).toNat = row.set c.toNat 46 := by
      rw [show (c + 1).toNat = c.toNat + 1 by omega]
      exact set_take_drop row c.toNat 46 (by show c.toNat < row.length; omega)
    rw [txt_app, etx]
    refine ⟨_, rfl, _, rfl, l, _, _, r.toNat, rfl, rfl, hl, ?_, ?_⟩
    · show ixN (rowsV B).length r = some r.toNat
      unfold ixN
      rw [if_pos z1, if_pos (by rw [rowsV_len, I.hh]; exact z2)]
    have eset : (rowsV B).set r.toNat (.str (txt (row.set c.toNat 46))) = rowsV (putB B (r, c) 46) := by
      rw [putB_eq (p := (r, c)) er]
      unfold rowsV
      rw [List.map_set]
      rfl
    rw [eset]
    have hl4 : upd H3 l (.lst (rowsV (putB B (r, c) 46))) l = some (.lst (rowsV (putB B (r, c) 46))) := upd_same
    revert hl4
    generalize upd H3 l (.lst (rowsV (putB B (r, c) 46))) = H4
    intro hl4
    have I4 := putB_is I (r, c) (x := 46) (.inr (.inr rfl))
    have ne4 : emptyL (putB B (r, c) 46) ≠ [] := fun z => by
      have : ((r, c) : Cell) ∈ emptyL (putB B (r, c) 46) := mem_emptyL.mpr (by rw [cel_put I ins, if_pos rfl])
      rw [z] at this
      cases this
    revert I4 ne4 hl4
    generalize putB B (r, c) 46 = B4
    intro hl4 I4 ne4
    refine ⟨_, rfl, fun o d no nd ndo => ?_⟩
    have so := ((same_new nd (.own o)).trans (same_new (by rw [upd_ne (Ne.symm ndo)]; exact no) (.ins T.C_Board d [])))
    refine ⟨o, d, l, _, rfl, upd_same, so _ _ hl4, I4.small, fun hb => ?_, fun _ H5 l5 k5 n5 b5 => ⟨rfl, ?_⟩⟩
    · rw [I4.good] at hb
      cases hb
    refine ⟨o, l5, B4, h, w, rfl, b5, I4, (fun _ H6 s6 => ?_), fun z => absurd z ne4⟩
    refine ⟨true, true, rfl, rfl, ?_⟩
    exact q _
  -- full
  refine tn ?_
  refine q_make I (fun R k => ⟨_, rfl, l, _, rfl, .inl (SqL.of hl), fun n hn => k n _ (same_new hn _) upd_same⟩) (fun o lb H4 s4 no nlb bt => ?_)
  have hl4 := s4 _ _ hl
  refine ⟨_, rfl, l, B, h, w, rfl, hl4, I, fc, fun df dw dps dx H5 s5 nd hd5 hdp dwk des => ?_⟩
  refine gn ?_
  have a2 := area2 I
  have dbd := dwk.bound I.h1
  refine ⟨(2 : Int), rfl, by decide, by decide, for_range (lo := 0) (n := 2) (fun i σ H' => Same H5 H' ∧ ∃ v4 v7 v8 : Option V, σ = [some (.ref a), some (.ref l), some (.ref o), some (.ref df), v4, some (.int h), some (.int w), v7, v8, none, none]) ⟨.refl _, _, _, _, rfl⟩ ?_ ?_⟩
  · rintro i σ H6 hi ⟨s6, v4, v7, v8, rfl⟩
    refine ⟨_, rfl, o, lb, B, h, w, rfl, (bt.same s5).same s6, I, (fun z => absurd (full_empty fc) z), fun _ v H7 ⟨f, ws, ps, x, ev, nf, s7, hf, hps, wk, es⟩ => ?_⟩
    subst ev
    have eps := wk.det es dwk des
    subst eps
    refine gn ?_
    have hd7 := (s6.trans s7) _ _ hd5
    have hdp7 := hdp.same (s6.trans s7)
    have lw := hps.len
    have ldw := hdp.len
    refine ⟨_, rfl, _, _, _, _, _, rfl, .ty _, .base (.lst hf), kit_ll, _, rfl, iteF ?_⟩
    refine ⟨_, rfl, f, _, rfl, .inl (SqL.of hf), _, rfl, df, _, rfl, .inl (SqL.of hd7), rfl, _, rfl, iteN (fun z => absurd (congrArg V.int (by omega)) z) (fun _ => ?_)⟩
    -- each pair
    refine ⟨_, rfl, f, rfl, ⟨_, SqL.of hf⟩, for_list (K := K) (a := f) (xs := ws) (fun j σ H' => Same H7 H' ∧ ∃ v8 : Option V, σ = [some (.ref a), some (.ref l), some (.ref o), some (.ref df), some (.int ((0 : Int) + (i : Int))), some (.int h), some (.int w), some (.ref f), v8, none, none])
      ⟨.refl _, _, rfl⟩ (fun i σ H' _ ⟨e, _⟩ => SqL.of (e _ _ hf)) ?_ ?_⟩
    · rintro j y σ H8 hj ⟨s8, v8, rfl⟩
      obtain ⟨t, ta, tb, p, rfl, _, ht, ha, hb⟩ := (hps.same s8).get hj
      refine ⟨_, rfl, _, _, _, _, _, rfl, .ty _, .base (.tup ht), kit_tt, _, rfl, iteF ?_⟩
      refine ⟨_, rfl, t, _, rfl, .inr (SqT.of ht), fun n hn => ?_⟩
      have sn := same_new hn (.lst [V.ref ta, V.ref tb])
      refine ⟨n, [V.ref ta, V.ref tb], [p.1, p.2], rfl, upd_same, .cons (sn _ _ ha) (.cons (sn _ _ hb) .nil), ?_⟩
      exact ⟨_, rfl, iteF ⟨s8.trans sn, _, rfl⟩⟩
    rintro σ H8 ⟨s8, v8, rfl⟩
    have hf8 := s8 _ _ hf
    refine ⟨_, rfl, _, rfl, _, _, .lst (SqL.of hf8) (hps.same s8).dp, .lst (SqL.of (s8 _ _ hd7)) (hdp7.same s8).dp, shaped_pairs _, shaped_pairs _, _, rfl, ?_⟩
    rw [eqv_pairs]
    refine iteF ?_
    refine ⟨_, rfl, .inl ⟨rfl, _, SqL.of hf8⟩, f, _, rfl, rfl, hf8, ?_⟩
    exact ⟨same_mut (s6.trans (s7.trans s8)) (s6.free nf), _, _, _, rfl⟩
  · rintro σ H6 ⟨s6, v4, v7, v8, rfl⟩
    have s7 := s5.trans s6
    obtain ⟨⟨dx, hp⟩, hlb⟩ := bt.same s7
    refine ⟨_, rfl, o, _, dx, _, _, rfl, hp, T.cl_Board, T.n_Board_rows, bfl_rows _ _ _, _, rfl, _, _, rows_dp hlb, rows_dp (s7 _ _ hl4), shaped_rows I.small, shaped_rows I.small, ?_⟩
    rw [eqv_rows I.small]
    exact q _
end
end Sw
namespace Sw
open PySem PySem.Spec PyProof.Rows L2
/-! ### what the top has written, and the end -/
theorem all_mk {l : PySem.W.OpenLaw} {w : World} {K : PySem.W.Frag} {h : Heap} {mg : Str → Option Value} {fa : Addr} (X : K.In h) (G : h.Ns mainGlobals mg) (hfa : mg "law" = some (.ref fa))
    {C_Board C_ShoreError C_BadBoard C_NotFull : Addr}
    {od1 an1 : Option Addr} {sl1 : Array (Option Value)} {oc1 kV1 dc1 pm1 cd1 ct1 : Value} {f1 : Addr}
    {od2 an2 : Option Addr} {sl2 : Array (Option Value)} {oc2 kV2 dc2 pm2 cd2 ct2 : Value} {f2 : Addr}
    {od3 an3 : Option Addr} {sl3 : Array (Option Value)} {oc3 kV3 dc3 pm3 cd3 ct3 : Value} {f3 : Addr}
    {od4 an4 : Option Addr} {sl4 : Array (Option Value)} {oc4 kV4 dc4 pm4 cd4 ct4 : Value} {f4 : Addr}
    {od5 an5 : Option Addr} {sl5 : Array (Option Value)} {oc5 kV5 dc5 pm5 cd5 ct5 : Value} {f5 : Addr}
    {od6 an6 : Option Addr} {sl6 : Array (Option Value)} {oc6 kV6 dc6 pm6 cd6 ct6 : Value} {f6 : Addr}
    {od7 an7 : Option Addr} {sl7 : Array (Option Value)} {oc7 kV7 dc7 pm7 cd7 ct7 : Value} {f7 : Addr}
    {od8 an8 : Option Addr} {sl8 : Array (Option Value)} {oc8 kV8 dc8 pm8 cd8 ct8 : Value} {f8 : Addr}
    {od9 an9 : Option Addr} {sl9 : Array (Option Value)} {oc9 kV9 dc9 pm9 cd9 ct9 : Value} {f9 : Addr}
    {od10 an10 : Option Addr} {sl10 : Array (Option Value)} {oc10 kV10 dc10 pm10 cd10 ct10 : Value} {f10 : Addr}
    {od11 an11 : Option Addr} {sl11 : Array (Option Value)} {oc11 kV11 dc11 pm11 cd11 ct11 : Value} {f11 : Addr}
    {od12 an12 : Option Addr} {sl12 : Array (Option Value)} {oc12 kV12 dc12 pm12 cd12 ct12 : Value} {f12 : Addr}
    {od13 an13 : Option Addr} {sl13 : Array (Option Value)} {oc13 kV13 dc13 pm13 cd13 ct13 : Value} {f13 : Addr}
    {od14 an14 : Option Addr} {sl14 : Array (Option Value)} {oc14 kV14 dc14 pm14 cd14 ct14 : Value} {f14 : Addr}
    {od15 an15 : Option Addr} {sl15 : Array (Option Value)} {oc15 kV15 dc15 pm15 cd15 ct15 : Value} {f15 : Addr}
    {od16 an16 : Option Addr} {sl16 : Array (Option Value)} {oc16 kV16 dc16 pm16 cd16 ct16 : Value} {f16 : Addr}
    {od17 an17 : Option Addr} {sl17 : Array (Option Value)} {oc17 kV17 dc17 pm17 cd17 ct17 : Value} {f17 : Addr}
    (aC_Board : PySem.W.nsIn K mainGlobals "Board" = some (some (.ref C_Board)))
    (aC_ShoreError : PySem.W.nsIn K mainGlobals "ShoreError" = some (some (.ref C_ShoreError)))
    (aC_BadBoard : PySem.W.nsIn K mainGlobals "BadBoard" = some (some (.ref C_BadBoard)))
    (aC_NotFull : PySem.W.nsIn K mainGlobals "NotFull" = some (some (.ref C_NotFull)))
    (a1 : PySem.W.nsIn K mainGlobals "board_right" = some (some (.ref f1)))
    (l1 : K.lookup f1 = some ⟨oc1, od1, .func (PySem.W.fnOf "board_right" "board_right" (defArgs s_board_right) (defBody s_board_right) (defScope s_board_right) .none kV1 dc1 pm1 an1 cd1 ct1), sl1⟩)
    (c1 : PySem.W.codeIn K cd1 "board_right" = true)
    (k1 : PySem.W.keepIn K (.ref f1) = true)
    (a2 : PySem.W.findIn K (.ref C_Board) "__init__" = some (some (.ref f2)))
    (i2 : PySem.W.isFn K (.ref f2) = true)
    (l2 : K.lookup f2 = some ⟨oc2, od2, .func (PySem.W.fnOf "__init__" "Board.__init__" (defArgs s_Board___init__) (defBody s_Board___init__) (defScope s_Board___init__) .none kV2 dc2 pm2 an2 cd2 ct2), sl2⟩)
    (c2 : PySem.W.codeIn K cd2 "Board.__init__" = true)
    (k2 : PySem.W.keepIn K (.ref f2) = true)
    (a3 : PySem.W.findIn K (.ref C_Board) "has" = some (some (.ref f3)))
    (i3 : PySem.W.isFn K (.ref f3) = true)
    (l3 : K.lookup f3 = some ⟨oc3, od3, .func (PySem.W.fnOf "has" "Board.has" (defArgs s_Board_has) (defBody s_Board_has) (defScope s_Board_has) .none kV3 dc3 pm3 an3 cd3 ct3), sl3⟩)
    (c3 : PySem.W.codeIn K cd3 "Board.has" = true)
    (k3 : PySem.W.keepIn K (.ref f3) = true)
    (a4 : PySem.W.nsIn K mainGlobals "near" = some (some (.ref f4)))
    (l4 : K.lookup f4 = some ⟨oc4, od4, .func (PySem.W.fnOf "near" "near" (defArgs s_near) (defBody s_near) (defScope s_near) .none kV4 dc4 pm4 an4 cd4 ct4), sl4⟩)
    (c4 : PySem.W.codeIn K cd4 "near" = true)
    (k4 : PySem.W.keepIn K (.ref f4) = true)
    (a5 : PySem.W.nsIn K mainGlobals "empty" = some (some (.ref f5)))
    (l5 : K.lookup f5 = some ⟨oc5, od5, .func (PySem.W.fnOf "empty" "empty" (defArgs s_empty) (defBody s_empty) (defScope s_empty) .none kV5 dc5 pm5 an5 cd5 ct5), sl5⟩)
    (c5 : PySem.W.codeIn K cd5 "empty" = true)
    (k5 : PySem.W.keepIn K (.ref f5) = true)
    (a6 : PySem.W.nsIn K mainGlobals "owner" = some (some (.ref f6)))
    (l6 : K.lookup f6 = some ⟨oc6, od6, .func (PySem.W.fnOf "owner" "owner" (defArgs s_owner) (defBody s_owner) (defScope s_owner) .none kV6 dc6 pm6 an6 cd6 ct6), sl6⟩)
    (c6 : PySem.W.codeIn K cd6 "owner" = true)
    (k6 : PySem.W.keepIn K (.ref f6) = true)
    (a7 : PySem.W.nsIn K mainGlobals "walk" = some (some (.ref f7)))
    (l7 : K.lookup f7 = some ⟨oc7, od7, .func (PySem.W.fnOf "walk" "walk" (defArgs s_walk) (defBody s_walk) (defScope s_walk) .none kV7 dc7 pm7 an7 cd7 ct7), sl7⟩)
    (c7 : PySem.W.codeIn K cd7 "walk" = true)
    (k7 : PySem.W.keepIn K (.ref f7) = true)
    (a8 : PySem.W.nsIn K mainGlobals "_law_cell_at" = some (some (.ref f8)))
    (l8 : K.lookup f8 = some ⟨oc8, od8, .func (PySem.W.fnOf "_law_cell_at" "_law_cell_at" (defArgs s__law_cell_at) (defBody s__law_cell_at) (defScope s__law_cell_at) .none kV8 dc8 pm8 an8 cd8 ct8), sl8⟩)
    (c8 : PySem.W.codeIn K cd8 "_law_cell_at" = true)
    (k8 : PySem.W.keepIn K (.ref f8) = true)
    (a9 : PySem.W.nsIn K mainGlobals "_law_mix" = some (some (.ref f9)))
    (l9 : K.lookup f9 = some ⟨oc9, od9, .func (PySem.W.fnOf "_law_mix" "_law_mix" (defArgs s__law_mix) (defBody s__law_mix) (defScope s__law_mix) .none kV9 dc9 pm9 an9 cd9 ct9), sl9⟩)
    (c9 : PySem.W.codeIn K cd9 "_law_mix" = true)
    (k9 : PySem.W.keepIn K (.ref f9) = true)
    (a10 : PySem.W.nsIn K mainGlobals "_law_whole" = some (some (.ref f10)))
    (l10 : K.lookup f10 = some ⟨oc10, od10, .func (PySem.W.fnOf "_law_whole" "_law_whole" (defArgs s__law_whole) (defBody s__law_whole) (defScope s__law_whole) .none kV10 dc10 pm10 an10 cd10 ct10), sl10⟩)
    (c10 : PySem.W.codeIn K cd10 "_law_whole" = true)
    (k10 : PySem.W.keepIn K (.ref f10) = true)
    (a11 : PySem.W.nsIn K mainGlobals "_law_rows_by" = some (some (.ref f11)))
    (l11 : K.lookup f11 = some ⟨oc11, od11, .func (PySem.W.fnOf "_law_rows_by" "_law_rows_by" (defArgs s__law_rows_by) (defBody s__law_rows_by) (defScope s__law_rows_by) .none kV11 dc11 pm11 an11 cd11 ct11), sl11⟩)
    (c11 : PySem.W.codeIn K cd11 "_law_rows_by" = true)
    (k11 : PySem.W.keepIn K (.ref f11) = true)
    (a12 : PySem.W.nsIn K mainGlobals "_law_size_by" = some (some (.ref f12)))
    (l12 : K.lookup f12 = some ⟨oc12, od12, .func (PySem.W.fnOf "_law_size_by" "_law_size_by" (defArgs s__law_size_by) (defBody s__law_size_by) (defScope s__law_size_by) .none kV12 dc12 pm12 an12 cd12 ct12), sl12⟩)
    (c12 : PySem.W.codeIn K cd12 "_law_size_by" = true)
    (k12 : PySem.W.keepIn K (.ref f12) = true)
    (a13 : PySem.W.nsIn K mainGlobals "_law_places" = some (some (.ref f13)))
    (l13 : K.lookup f13 = some ⟨oc13, od13, .func (PySem.W.fnOf "_law_places" "_law_places" (defArgs s__law_places) (defBody s__law_places) (defScope s__law_places) .none kV13 dc13 pm13 an13 cd13 ct13), sl13⟩)
    (c13 : PySem.W.codeIn K cd13 "_law_places" = true)
    (k13 : PySem.W.keepIn K (.ref f13) = true)
    (a14 : PySem.W.nsIn K mainGlobals "_law_owner" = some (some (.ref f14)))
    (l14 : K.lookup f14 = some ⟨oc14, od14, .func (PySem.W.fnOf "_law_owner" "_law_owner" (defArgs s__law_owner) (defBody s__law_owner) (defScope s__law_owner) .none kV14 dc14 pm14 an14 cd14 ct14), sl14⟩)
    (c14 : PySem.W.codeIn K cd14 "_law_owner" = true)
    (k14 : PySem.W.keepIn K (.ref f14) = true)
    (a15 : PySem.W.nsIn K mainGlobals "_law_due" = some (some (.ref f15)))
    (l15 : K.lookup f15 = some ⟨oc15, od15, .func (PySem.W.fnOf "_law_due" "_law_due" (defArgs s__law_due) (defBody s__law_due) (defScope s__law_due) .none kV15 dc15 pm15 an15 cd15 ct15), sl15⟩)
    (c15 : PySem.W.codeIn K cd15 "_law_due" = true)
    (k15 : PySem.W.keepIn K (.ref f15) = true)
    (a16 : PySem.W.nsIn K mainGlobals "_law_met" = some (some (.ref f16)))
    (l16 : K.lookup f16 = some ⟨oc16, od16, .func (PySem.W.fnOf "_law_met" "_law_met" (defArgs s__law_met) (defBody s__law_met) (defScope s__law_met) .none kV16 dc16 pm16 an16 cd16 ct16), sl16⟩)
    (c16 : PySem.W.codeIn K cd16 "_law_met" = true)
    (k16 : PySem.W.keepIn K (.ref f16) = true)
    (a17 : PySem.W.nsIn K mainGlobals "law" = some (some (.ref f17)))
    (l17 : K.lookup f17 = some ⟨oc17, od17, .func (PySem.W.fnOf "law" "law" (defArgs s_law) (defBody s_law) (defScope s_law) .none kV17 dc17 pm17 an17 cd17 ct17), sl17⟩)
    (c17 : PySem.W.codeIn K cd17 "law" = true)
    (k17 : PySem.W.keepIn K (.ref f17) = true)
    (pg_Board : PySem.W.plainGet K C_Board Str.empty = true)
    (hd_Board : PySem.W.hasDictIn K C_Board = true)
    (po_Board : PySem.W.plainOver K C_Board = true)
    (sa_Board : PySem.W.findIn K (.ref C_Board) "__setattr__" = some (some (.builtin "object.__setattr__")))
    (mk_Board : PySem.W.makesIn K C_Board = true)
    (kc_Board : PySem.W.keepIn K (.ref C_Board) = true)
    (n_Board_rows : PySem.W.findIn K (.ref C_Board) "rows" = some none)
    (n_Board_height : PySem.W.findIn K (.ref C_Board) "height" = some none)
    (n_Board_width : PySem.W.findIn K (.ref C_Board) "width" = some none)
    (x_ShoreError : PySem.W.excIn K C_ShoreError [.type "ValueError", .type "Exception", .type "BaseException", .type "object"] "ValueError.__new__" = true)
    (k_ShoreError : PySem.W.keepIn K (.ref C_ShoreError) = true)
    (b_ShoreError : PySem.W.subIn K (.ref C_ShoreError) (.type "BaseException") = some true)
    (t_ShoreError : PySem.W.typeIn K (.ref C_ShoreError) = some (.type "type"))
    (i_ShoreError : PySem.W.isClsIn K C_ShoreError = true)
    (x_BadBoard : PySem.W.excIn K C_BadBoard [.type "ValueError", .type "Exception", .type "BaseException", .type "object"] "ValueError.__new__" = true)
    (k_BadBoard : PySem.W.keepIn K (.ref C_BadBoard) = true)
    (b_BadBoard : PySem.W.subIn K (.ref C_BadBoard) (.type "BaseException") = some true)
    (t_BadBoard : PySem.W.typeIn K (.ref C_BadBoard) = some (.type "type"))
    (i_BadBoard : PySem.W.isClsIn K C_BadBoard = true)
    (x_NotFull : PySem.W.excIn K C_NotFull [.type "ValueError", .type "Exception", .type "BaseException", .type "object"] "ValueError.__new__" = true)
    (k_NotFull : PySem.W.keepIn K (.ref C_NotFull) = true)
    (b_NotFull : PySem.W.subIn K (.ref C_NotFull) (.type "BaseException") = some true)
    (t_NotFull : PySem.W.typeIn K (.ref C_NotFull) = some (.type "type"))
    (i_NotFull : PySem.W.isClsIn K C_NotFull = true)
    (s_BadBoard_ShoreError : PySem.W.subIn K (.ref C_BadBoard) (.ref C_ShoreError) = some true)
    (s_BadBoard_NotFull : PySem.W.subIn K (.ref C_BadBoard) (.ref C_NotFull) = some false)
    (s_NotFull_ShoreError : PySem.W.subIn K (.ref C_NotFull) (.ref C_ShoreError) = some true)
    (s_NotFull_NotFull : PySem.W.subIn K (.ref C_NotFull) (.ref C_NotFull) = some true)
    (exn : PySem.W.specialIn K (.builtin "object.__class__") "__get__" = some (some (.builtin "getset_descriptor.__get__")))
    (ext : PySem.W.takesIn K (.builtin "object.__class__") = some true)
    (eg_BadBoard : PySem.W.findIn K (.ref C_BadBoard) "__getattribute__" = some (some (.builtin "BaseException.__getattribute__")))
    (ek_BadBoard : PySem.W.findIn K (.ref C_BadBoard) "__getattr__" = some none)
    (ed_BadBoard : PySem.W.hasDictIn K C_BadBoard = true)
    (ea_BadBoard : PySem.W.findIn K (.ref C_BadBoard) "__class__" = some (some (.builtin "object.__class__")))
    (em_BadBoard : PySem.W.mroIn K C_BadBoard (.type "object") = some true)
    (eg_NotFull : PySem.W.findIn K (.ref C_NotFull) "__getattribute__" = some (some (.builtin "BaseException.__getattribute__")))
    (ek_NotFull : PySem.W.findIn K (.ref C_NotFull) "__getattr__" = some none)
    (ed_NotFull : PySem.W.hasDictIn K C_NotFull = true)
    (ea_NotFull : PySem.W.findIn K (.ref C_NotFull) "__class__" = some (some (.builtin "object.__class__")))
    (em_NotFull : PySem.W.mroIn K C_NotFull (.type "object") = some true)
    {tk_MOST : Tok} (g_MOST : PySem.W.nsIn K mainGlobals "MOST" = some (some (.int 9 tk_MOST)))
    (z_len : PySem.W.nsIn K mainGlobals "len" = some none)
    (z_all : PySem.W.nsIn K mainGlobals "all" = some none)
    (z_list : PySem.W.nsIn K mainGlobals "list" = some none)
    (z_enumerate : PySem.W.nsIn K mainGlobals "enumerate" = some none)
    (z_isinstance : PySem.W.nsIn K mainGlobals "isinstance" = some none)
    (z_int : PySem.W.nsIn K mainGlobals "int" = some none)
    (z_bool : PySem.W.nsIn K mainGlobals "bool" = some none)
    (z_range : PySem.W.nsIn K mainGlobals "range" = some none)
    (z_tuple : PySem.W.nsIn K mainGlobals "tuple" = some none) :
    ∃ fd : FuncData, (∀ (s : Shared) (v : Value), BindsTo s fd ⟨[v], []⟩ [("script", v)]) ∧ ∀ base : Heap, K.In base → base.Ns mainGlobals mg → FnOk l.prog w K mg base CX0 9 fa fd ["script"] (sp_law K) := by
  have e := hfa.symm.trans (PySem.W.mg_of X G a17)
  cases e
  let T : Top K mg := {
    a_board_right := f1,
    d_board_right := _,
    F_board_right := fun_mk (st := s_board_right) l1 c1 k1,
    B_board_right := (fun_mk (st := s_board_right) l1 c1 k1).binds (ps := ["rows"]) fun _ _ _ _ _ _ us hl => match us, hl with | [_], _ => rfl,
    m_board_right := PySem.W.mg_of X G a1,
    a_Board___init__ := f2,
    d_Board___init__ := _,
    F_Board___init__ := fun_mk (st := s_Board___init__) l2 c2 k2,
    B_Board___init__ := (fun_mk (st := s_Board___init__) l2 c2 k2).binds (ps := ["self", "rows"]) fun _ _ _ _ _ _ us hl => match us, hl with | [_, _], _ => rfl,
    a_Board_has := f3,
    d_Board_has := _,
    F_Board_has := fun_mk (st := s_Board_has) l3 c3 k3,
    B_Board_has := (fun_mk (st := s_Board_has) l3 c3 k3).binds (ps := ["self", "r", "c"]) fun _ _ _ _ _ _ us hl => match us, hl with | [_, _, _], _ => rfl,
    a_near := f4,
    d_near := _,
    F_near := fun_mk (st := s_near) l4 c4 k4,
    B_near := (fun_mk (st := s_near) l4 c4 k4).binds (ps := ["r", "c"]) fun _ _ _ _ _ _ us hl => match us, hl with | [_, _], _ => rfl,
    m_near := PySem.W.mg_of X G a4,
    a_empty := f5,
    d_empty := _,
    F_empty := fun_mk (st := s_empty) l5 c5 k5,
    B_empty := (fun_mk (st := s_empty) l5 c5 k5).binds (ps := ["board"]) fun _ _ _ _ _ _ us hl => match us, hl with | [_], _ => rfl,
    m_empty := PySem.W.mg_of X G a5,
    a_owner := f6,
    d_owner := _,
    F_owner := fun_mk (st := s_owner) l6 c6 k6,
    B_owner := (fun_mk (st := s_owner) l6 c6 k6).binds (ps := ["board", "place"]) fun _ _ _ _ _ _ us hl => match us, hl with | [_, _], _ => rfl,
    m_owner := PySem.W.mg_of X G a6,
    a_walk := f7,
    d_walk := _,
    F_walk := fun_mk (st := s_walk) l7 c7 k7,
    B_walk := (fun_mk (st := s_walk) l7 c7 k7).binds (ps := ["board"]) fun _ _ _ _ _ _ us hl => match us, hl with | [_], _ => rfl,
    m_walk := PySem.W.mg_of X G a7,
    a__law_cell_at := f8,
    d__law_cell_at := _,
    F__law_cell_at := fun_mk (st := s__law_cell_at) l8 c8 k8,
    B__law_cell_at := (fun_mk (st := s__law_cell_at) l8 c8 k8).binds (ps := ["script", "k"]) fun _ _ _ _ _ _ us hl => match us, hl with | [_, _], _ => rfl,
    m__law_cell_at := PySem.W.mg_of X G a8,
    a__law_mix := f9,
    d__law_mix := _,
    F__law_mix := fun_mk (st := s__law_mix) l9 c9 k9,
    B__law_mix := (fun_mk (st := s__law_mix) l9 c9 k9).binds (ps := ["cell", "k", "many"]) fun _ _ _ _ _ _ us hl => match us, hl with | [_, _, _], _ => rfl,
    m__law_mix := PySem.W.mg_of X G a9,
    a__law_whole := f10,
    d__law_whole := _,
    F__law_whole := fun_mk (st := s__law_whole) l10 c10 k10,
    B__law_whole := (fun_mk (st := s__law_whole) l10 c10 k10).binds (ps := ["found"]) fun _ _ _ _ _ _ us hl => match us, hl with | [_], _ => rfl,
    m__law_whole := PySem.W.mg_of X G a10,
    a__law_rows_by := f11,
    d__law_rows_by := _,
    F__law_rows_by := fun_mk (st := s__law_rows_by) l11 c11 k11,
    B__law_rows_by := (fun_mk (st := s__law_rows_by) l11 c11 k11).binds (ps := ["script", "height", "width", "full"]) fun _ _ _ _ _ _ us hl => match us, hl with | [_, _, _, _], _ => rfl,
    m__law_rows_by := PySem.W.mg_of X G a11,
    a__law_size_by := f12,
    d__law_size_by := _,
    F__law_size_by := fun_mk (st := s__law_size_by) l12 c12 k12,
    B__law_size_by := (fun_mk (st := s__law_size_by) l12 c12 k12).binds (ps := ["script", "most"]) fun _ _ _ _ _ _ us hl => match us, hl with | [_, _], _ => rfl,
    m__law_size_by := PySem.W.mg_of X G a12,
    a__law_places := f13,
    d__law_places := _,
    F__law_places := fun_mk (st := s__law_places) l13 c13 k13,
    B__law_places := (fun_mk (st := s__law_places) l13 c13 k13).binds (ps := ["found", "many"]) fun _ _ _ _ _ _ us hl => match us, hl with | [_, _], _ => rfl,
    m__law_places := PySem.W.mg_of X G a13,
    a__law_owner := f14,
    d__law_owner := _,
    F__law_owner := fun_mk (st := s__law_owner) l14 c14 k14,
    B__law_owner := (fun_mk (st := s__law_owner) l14 c14 k14).binds (ps := ["rows", "place"]) fun _ _ _ _ _ _ us hl => match us, hl with | [_, _], _ => rfl,
    m__law_owner := PySem.W.mg_of X G a14,
    a__law_due := f15,
    d__law_due := _,
    F__law_due := fun_mk (st := s__law_due) l15 c15 k15,
    B__law_due := (fun_mk (st := s__law_due) l15 c15 k15).binds (ps := ["rows"]) fun _ _ _ _ _ _ us hl => match us, hl with | [_], _ => rfl,
    m__law_due := PySem.W.mg_of X G a15,
    a__law_met := f16,
    d__law_met := _,
    F__law_met := fun_mk (st := s__law_met) l16 c16 k16,
    B__law_met := (fun_mk (st := s__law_met) l16 c16 k16).binds (ps := ["board"]) fun _ _ _ _ _ _ us hl => match us, hl with | [_], _ => rfl,
    m__law_met := PySem.W.mg_of X G a16,
    a_law := fa,
    d_law := _,
    F_law := fun_mk (st := s_law) l17 c17 k17,
    B_law := (fun_mk (st := s_law) l17 c17 k17).binds (ps := ["script"]) fun _ _ _ _ _ _ us hl => match us, hl with | [_], _ => rfl,
    m_law := PySem.W.mg_of X G a17,
    C_Board := C_Board,
    cl_Board := ⟨pg_Board, hd_Board, po_Board, sa_Board⟩,
    mC_Board := PySem.W.mg_of X G aC_Board,
    Mk_Board := ⟨mk_Board, a2, i2, kc_Board⟩,
    n_Board_rows := n_Board_rows,
    n_Board_height := n_Board_height,
    n_Board_width := n_Board_width,
    M_Board_has := ⟨a3, i3, k3⟩,
    C_ShoreError := C_ShoreError,
    mC_ShoreError := PySem.W.mg_of X G aC_ShoreError,
    x_ShoreError := x_ShoreError,
    k_ShoreError := k_ShoreError,
    b_ShoreError := b_ShoreError,
    t_ShoreError := t_ShoreError,
    i_ShoreError := i_ShoreError,
    C_BadBoard := C_BadBoard,
    mC_BadBoard := PySem.W.mg_of X G aC_BadBoard,
    x_BadBoard := x_BadBoard,
    k_BadBoard := k_BadBoard,
    b_BadBoard := b_BadBoard,
    t_BadBoard := t_BadBoard,
    i_BadBoard := i_BadBoard,
    C_NotFull := C_NotFull,
    mC_NotFull := PySem.W.mg_of X G aC_NotFull,
    x_NotFull := x_NotFull,
    k_NotFull := k_NotFull,
    b_NotFull := b_NotFull,
    t_NotFull := t_NotFull,
    i_NotFull := i_NotFull,
    s_BadBoard_ShoreError := s_BadBoard_ShoreError,
    s_BadBoard_NotFull := s_BadBoard_NotFull,
    s_NotFull_ShoreError := s_NotFull_ShoreError,
    s_NotFull_NotFull := s_NotFull_NotFull,
    E_BadBoard := ⟨eg_BadBoard, ek_BadBoard, b_BadBoard, ed_BadBoard, ea_BadBoard, exn, ext, em_BadBoard⟩,
    E_NotFull := ⟨eg_NotFull, ek_NotFull, b_NotFull, ed_NotFull, ea_NotFull, exn, ext, em_NotFull⟩,
    kit_BadBoard_ShoreError := kit_ownT i_ShoreError t_ShoreError s_BadBoard_ShoreError,
    kit_NotFull_ShoreError := kit_ownT i_ShoreError t_ShoreError s_NotFull_ShoreError,
    tk_MOST := tk_MOST,
    g_MOST := PySem.W.mg_of X G g_MOST,
    z_len := PySem.W.mg_none_of X G z_len,
    z_all := PySem.W.mg_none_of X G z_all,
    z_list := PySem.W.mg_none_of X G z_list,
    z_enumerate := PySem.W.mg_none_of X G z_enumerate,
    z_isinstance := PySem.W.mg_none_of X G z_isinstance,
    z_int := PySem.W.mg_none_of X G z_int,
    z_bool := PySem.W.mg_none_of X G z_bool,
    z_range := PySem.W.mg_none_of X G z_range,
    z_tuple := PySem.W.mg_none_of X G z_tuple }
  exact ⟨PySem.W.fnOf "law" "law" (defArgs s_law) (defBody s_law) (defScope s_law) .none kV17 dc17 pm17 an17 cd17 ct17, fun s v => .of_eq rfl, fun base _ _ => ok_law T⟩
theorem walk {l : PySem.W.OpenLaw} {q : Program} {loose : List Str} {XP : (Str → Option Value) → Heap → Prop} {YP : World → Heap → Prop} {d : DefRec} {K : Params → PySem.W.Frag} (hn : l.most = some 63) (hdf : d.params.defaults = [])
    (hY : ∀ (w : World) (h : Heap), YP w h → (K w.params).In h)
    (F : ∀ (w : World) (mg : Str → Option Value) (fa : Addr) (h : Heap), (K w.params).In h → h.Ns mainGlobals mg → mg d.name = some (.ref fa) →
      ∃ fd : FuncData, (∀ (s : Shared) (u : Value), BindsTo s fd ⟨[u], []⟩ [("script", u)]) ∧ ∀ base : Heap, (K w.params).In base → base.Ns mainGlobals mg → FnOk l.prog w (K w.params) mg base CX0 9 fa fd ["script"] (sp_law (K w.params))) :
    PySem.W.WalkO q loose XP YP l.row.toRowW d [] (fun f vs => PySem.call f vs) :=
  L2.walk_of (n := 63) (k := 9) (x := "script") (CX := fun _ => CX0) (sp := fun w => sp_law (K w.params)) hn (by decide) hdf ⟨rfl, by decide, by decide⟩ hY F (fun _ _ a ns hl _ hS => ⟨a, ns, rfl, hS, hl, fun _ => rfl⟩) fun _ _ _ _ _ z => z
end Sw
open PySem PySem.W PyProof.Rows in
set_option maxRecDepth 100000 in
set_option maxHeartbeats 0 in
theorem PySem.Challenge.cw_shoreways_k08_walks_holds : PySem.Challenge.rw_shoreways_k08_walks.Holds := by
  w_on; o_law; k_head; (case hw => w_witness2)
  k_fill
  refine Sw.walk (l := PySem.Challenge.rw_shoreways_k08_walks) rfl rfl (fun w h Y => PySem.W.kIn_of Y) ?F
  case F =>
    intro w mg fa h KX G hmg
    refine' Sw.all_mk KX G hmg ?aC_Board ?aC_ShoreError ?aC_BadBoard ?aC_NotFull ?a1 ?l1 ?c1 ?k1 ?a2 ?i2 ?l2 ?c2 ?k2 ?a3 ?i3 ?l3 ?c3 ?k3 ?a4 ?l4 ?c4 ?k4 ?a5 ?l5 ?c5 ?k5 ?a6 ?l6 ?c6 ?k6 ?a7 ?l7 ?c7 ?k7 ?a8 ?l8 ?c8 ?k8 ?a9 ?l9 ?c9 ?k9 ?a10 ?l10 ?c10 ?k10 ?a11 ?l11 ?c11 ?k11 ?a12 ?l12 ?c12 ?k12 ?a13 ?l13 ?c13 ?k13 ?a14 ?l14 ?c14 ?k14 ?a15 ?l15 ?c15 ?k15 ?a16 ?l16 ?c16 ?k16 ?a17 ?l17 ?c17 ?k17 ?pg_Board ?hd_Board ?po_Board ?sa_Board ?mk_Board ?kc_Board ?n_Board_rows ?n_Board_height ?n_Board_width ?x_ShoreError ?k_ShoreError ?b_ShoreError ?t_ShoreError ?i_ShoreError ?x_BadBoard ?k_BadBoard ?b_BadBoard ?t_BadBoard ?i_BadBoard ?x_NotFull ?k_NotFull ?b_NotFull ?t_NotFull ?i_NotFull ?s_BadBoard_ShoreError ?s_BadBoard_NotFull ?s_NotFull_ShoreError ?s_NotFull_NotFull ?exn ?ext ?eg_BadBoard ?ek_BadBoard ?ed_BadBoard ?ea_BadBoard ?em_BadBoard ?eg_NotFull ?ek_NotFull ?ed_NotFull ?ea_NotFull ?em_NotFull ?g_MOST ?z_len ?z_all ?z_list ?z_enumerate ?z_isinstance ?z_int ?z_bool ?z_range ?z_tuple
    (case aC_Board => k_is)
    (case aC_ShoreError => k_is)
    (case aC_BadBoard => k_is)
    (case aC_NotFull => k_is)
    (case a1 => k_is)
    (case l1 => k_is)
    (case c1 => k_is)
    (case k1 => k_is)
    (case a2 => k_is)
    (case i2 => k_is)
    (case l2 => k_is)
    (case c2 => k_is)
    (case k2 => k_is)
    (case a3 => k_is)
    (case i3 => k_is)
    (case l3 => k_is)
    (case c3 => k_is)
    (case k3 => k_is)
    (case a4 => k_is)
    (case l4 => k_is)
    (case c4 => k_is)
    (case k4 => k_is)
    (case a5 => k_is)
    (case l5 => k_is)
    (case c5 => k_is)
    (case k5 => k_is)
    (case a6 => k_is)
    (case l6 => k_is)
    (case c6 => k_is)
    (case k6 => k_is)
    (case a7 => k_is)
    (case l7 => k_is)
    (case c7 => k_is)
    (case k7 => k_is)
    (case a8 => k_is)
    (case l8 => k_is)
    (case c8 => k_is)
    (case k8 => k_is)
    (case a9 => k_is)
    (case l9 => k_is)
    (case c9 => k_is)
    (case k9 => k_is)
    (case a10 => k_is)
    (case l10 => k_is)
    (case c10 => k_is)
    (case k10 => k_is)
    (case a11 => k_is)
    (case l11 => k_is)
    (case c11 => k_is)
    (case k11 => k_is)
    (case a12 => k_is)
    (case l12 => k_is)
    (case c12 => k_is)
    (case k12 => k_is)
    (case a13 => k_is)
    (case l13 => k_is)
    (case c13 => k_is)
    (case k13 => k_is)
    (case a14 => k_is)
    (case l14 => k_is)
    (case c14 => k_is)
    (case k14 => k_is)
    (case a15 => k_is)
    (case l15 => k_is)
    (case c15 => k_is)
    (case k15 => k_is)
    (case a16 => k_is)
    (case l16 => k_is)
    (case c16 => k_is)
    (case k16 => k_is)
    (case a17 => k_is)
    (case l17 => k_is)
    (case c17 => k_is)
    (case k17 => k_is)
    (case pg_Board => k_is)
    (case hd_Board => k_is)
    (case po_Board => k_is)
    (case sa_Board => k_is)
    (case mk_Board => k_is)
    (case kc_Board => k_is)
    (case n_Board_rows => k_is)
    (case n_Board_height => k_is)
    (case n_Board_width => k_is)
    (case x_ShoreError => k_exc)
    (case k_ShoreError => k_is)
    (case b_ShoreError => k_is)
    (case t_ShoreError => k_is)
    (case i_ShoreError => k_is)
    (case x_BadBoard => k_exc)
    (case k_BadBoard => k_is)
    (case b_BadBoard => k_is)
    (case t_BadBoard => k_is)
    (case i_BadBoard => k_is)
    (case x_NotFull => k_exc)
    (case k_NotFull => k_is)
    (case b_NotFull => k_is)
    (case t_NotFull => k_is)
    (case i_NotFull => k_is)
    (case s_BadBoard_ShoreError => first | rfl | k_is)
    (case s_BadBoard_NotFull => first | rfl | k_is)
    (case s_NotFull_ShoreError => first | rfl | k_is)
    (case s_NotFull_NotFull => first | rfl | k_is)
    (case exn => k_is)
    (case ext => k_is)
    (case eg_BadBoard => k_is)
    (case ek_BadBoard => k_is)
    (case ed_BadBoard => k_is)
    (case ea_BadBoard => k_is)
    (case em_BadBoard => k_is)
    (case eg_NotFull => k_is)
    (case ek_NotFull => k_is)
    (case ed_NotFull => k_is)
    (case ea_NotFull => k_is)
    (case em_NotFull => k_is)
    (case g_MOST => k_is)
    (case z_len => k_is)
    (case z_all => k_is)
    (case z_list => k_is)
    (case z_enumerate => k_is)
    (case z_isinstance => k_is)
    (case z_int => k_is)
    (case z_bool => k_is)
    (case z_range => k_is)
    (case z_tuple => k_is)
#print axioms PySem.Challenge.cw_shoreways_k08_walks_holds
