import PyProof.Rows.All
import Wide.All
import OpenK.AllK
import Wide.FinOn
import HandS.ForMost
import HandS.ForExc
import HandS.IsInst
import HandS.Deep
import HandS.Conv
import HandS.Wide
import HandS.Evl
import HandS.ExcIs
import HandS.Walk
import PyProof.StrBlock2
import PyProof.ListStr
import KE.KIsAll
import KE.GoesMore
import KE.GoesEnum
import HandS.Style
import PySem.Challenge.RW_shoreways_k03_signs_and_stones
set_option Elab.async false
set_option linter.all false
set_option maxRecDepth 100000
set_option maxHeartbeats 4000000
/-! Never both: a north road and a west road of a board can't stand together (parity of crossings). Plain Lean. -/
namespace Sw
abbrev Cell := Int × Int
def near6 (p : Cell) : List Cell := [(p.1 - 1, p.2), (p.1 - 1, p.2 + 1), (p.1, p.2 + 1), (p.1 + 1, p.2), (p.1 + 1, p.2 - 1), (p.1, p.2 - 1)]
theorem near6_iff {p q : Cell} : q ∈ near6 p ↔ (q.1 = p.1 - 1 ∧ q.2 = p.2) ∨ (q.1 = p.1 - 1 ∧ q.2 = p.2 + 1) ∨ (q.1 = p.1 ∧ q.2 = p.2 + 1) ∨ (q.1 = p.1 + 1 ∧ q.2 = p.2) ∨ (q.1 = p.1 + 1 ∧ q.2 = p.2 - 1) ∨ (q.1 = p.1 ∧ q.2 = p.2 - 1) := by
  simp only [near6, List.mem_cons, List.not_mem_nil, or_false, Prod.ext_iff]
theorem near6_symm {p q : Cell} (h : q ∈ near6 p) : p ∈ near6 q := by
  rw [near6_iff] at h ⊢
  omega
/-- a hand's sign (false: the north hand's n; true: the west hand's w), its own coordinate, its extent -/
def lt (s : Bool) : Nat := if s then 119 else 110
def sd (s : Bool) (p : Cell) : Int := if s then p.2 else p.1
def ext (s : Bool) (h w : Nat) : Int := if s then (w : Int) else (h : Int)
inductive Reach (g : Cell → Nat) (s : Bool) : Cell → Prop
  | first {p : Cell} : g p = lt s → sd s p = 0 → Reach g s p
  | next {p q : Cell} : Reach g s p → q ∈ near6 p → g q = lt s → Reach g s q
theorem Reach.sign {g : Cell → Nat} {s : Bool} {p : Cell} (h : Reach g s p) : g p = lt s := by
  cases h with
  | first a _ => exact a
  | next _ _ a => exact a
def Joined (g : Cell → Nat) (h w : Nat) (s : Bool) : Prop := ∃ p, Reach g s p ∧ sd s p = ext s h w - 1
def Sup (g : Cell → Nat) (h w : Nat) : Prop := ∀ p, g p ≠ 0 → 0 ≤ p.1 ∧ p.1 < (h : Int) ∧ 0 ≤ p.2 ∧ p.2 < (w : Int)

/-! ### parity -/
def Chn : Cell → List Cell → Prop
  | _, [] => True
  | a, b :: l => a ∈ near6 b ∧ Chn b l
def lst : Cell → List Cell → Cell
  | a, [] => a
  | _, b :: l => lst b l
def cnt (e : Cell → Cell → Bool) : Cell → List Cell → Bool
  | _, [] => false
  | a, b :: l => xor (e a b) (cnt e b l)
def lf (x p : Cell) : Bool := decide (p.1 = x.1 ∧ p.2 < x.2)
/-- an edge between row x.1 and row x.1 + d whose end in row x.1 lies left of x -/
def ed (d : Int) (x a b : Cell) : Bool := (lf x a && decide (b.1 = x.1 + d)) || (lf x b && decide (a.1 = x.1 + d))
theorem ne_cell {a x : Cell} (h : a ≠ x) : ¬ (a.1 = x.1 ∧ a.2 = x.2) := fun e => h (Prod.ext e.1 e.2)
theorem xor_dec {p q : Prop} [Decidable p] [Decidable q] {b : Bool} (h : b = true ↔ ((p ∧ ¬ q) ∨ (¬ p ∧ q))) : b = xor (decide p) (decide q) := by
  by_cases hp : p <;> by_cases hq : q <;> cases b <;> simp_all
theorem ed_iff {d : Int} {x a b : Cell} : ed d x a b = true ↔ ((a.1 = x.1 ∧ a.2 < x.2) ∧ b.1 = x.1 + d) ∨ ((b.1 = x.1 ∧ b.2 < x.2) ∧ a.1 = x.1 + d) := by
  simp only [ed, lf, Bool.or_eq_true, Bool.and_eq_true, decide_eq_true_eq]
theorem ed_tog {x a b : Cell} (h : a ∈ near6 b) (ha : a ≠ x) (hb : b ≠ x) : xor (ed (-1) x a b) (ed 1 x a b) = xor (lf x a) (lf x b) := by
  rw [near6_iff] at h
  have ha' := ne_cell ha
  have hb' := ne_cell hb
  unfold lf
  refine xor_dec ?_
  have : (xor (ed (-1) x a b) (ed 1 x a b) = true) ↔ ((ed (-1) x a b = true ∧ ¬ ed 1 x a b = true) ∨ (¬ ed (-1) x a b = true ∧ ed 1 x a b = true)) := by
    cases ed (-1) x a b <;> cases ed 1 x a b <;> decide
  rw [this, ed_iff, ed_iff]
  rcases h with h | h | h | h | h | h <;> rw [h.1] <;> omega
theorem cnt_tog {x : Cell} : ∀ (l : List Cell) (a : Cell), Chn a l → (∀ q, q ∈ a :: l → q ≠ x) → xor (cnt (ed (-1) x) a l) (cnt (ed 1 x) a l) = xor (lf x a) (lf x (lst a l))
  | [], a, _, _ => by
    show xor false false = xor (lf x a) (lf x a)
    cases lf x a <;> rfl
  | b :: l, a, h, hx => by
    have ih := cnt_tog l b h.2 (fun q hq => hx q (List.mem_cons_of_mem _ hq))
    have e := ed_tog h.1 (hx a (List.mem_cons_self)) (hx b (List.mem_cons_of_mem _ List.mem_cons_self))
    show xor (xor (ed (-1) x a b) (cnt (ed (-1) x) b l)) (xor (ed 1 x a b) (cnt (ed 1 x) b l)) = xor (lf x a) (lf x (lst b l))
    revert e ih
    generalize ed (-1) x a b = p1
    generalize ed 1 x a b = p2
    generalize cnt (ed (-1) x) b l = p3
    generalize cnt (ed 1 x) b l = p4
    generalize lf x a = p5
    generalize lf x b = p6
    generalize lf x (lst b l) = p7
    cases p1 <;> cases p2 <;> cases p3 <;> cases p4 <;> cases p5 <;> cases p6 <;> cases p7 <;> decide
theorem cnt_congr {e e' : Cell → Cell → Bool} {P : Cell → Prop} (h : ∀ a b, a ∈ near6 b → P a → P b → e a b = e' a b) : ∀ (l : List Cell) (a : Cell), Chn a l → (∀ q, q ∈ a :: l → P q) → cnt e a l = cnt e' a l
  | [], _, _, _ => rfl
  | b :: l, a, c, hp => by
    show xor (e a b) (cnt e b l) = xor (e' a b) (cnt e' b l)
    rw [h a b c.1 (hp a List.mem_cons_self) (hp b (List.mem_cons_of_mem _ List.mem_cons_self)), cnt_congr h l b c.2 (fun q hq => hp q (List.mem_cons_of_mem _ hq))]
/-- crossing from rows ≤ r to rows > r -/
theorem cnt_rows {e : Cell → Cell → Bool} {r : Int} {P : Cell → Prop} (h : ∀ a b, a ∈ near6 b → P a → P b → e a b = xor (decide (a.1 ≤ r)) (decide (b.1 ≤ r))) : ∀ (l : List Cell) (a : Cell), Chn a l → (∀ q, q ∈ a :: l → P q) → cnt e a l = xor (decide (a.1 ≤ r)) (decide ((lst a l).1 ≤ r))
  | [], a, _, _ => by
    show false = xor (decide (a.1 ≤ r)) (decide (a.1 ≤ r))
    cases decide (a.1 ≤ r) <;> rfl
  | b :: l, a, c, hp => by
    have ih := cnt_rows h l b c.2 (fun q hq => hp q (List.mem_cons_of_mem _ hq))
    show xor (e a b) (cnt e b l) = xor (decide (a.1 ≤ r)) (decide ((lst b l).1 ≤ r))
    rw [ih, h a b c.1 (hp a List.mem_cons_self) (hp b (List.mem_cons_of_mem _ List.mem_cons_self))]
    cases decide (a.1 ≤ r) <;> cases decide (b.1 ≤ r) <;> cases decide ((lst b l).1 ≤ r) <;> rfl

theorem ed_side {x y : Cell} (h : (y.1 = x.1 ∧ y.2 = x.2 + 1) ∨ (y.1 = x.1 ∧ y.2 = x.2 - 1)) (a b : Cell) (_ : a ∈ near6 b) (ha : a ≠ x ∧ a ≠ y) (hb : b ≠ x ∧ b ≠ y) : ed 1 x a b = ed 1 y a b := by
  have a1 := ne_cell ha.1
  have a2 := ne_cell ha.2
  have b1 := ne_cell hb.1
  have b2 := ne_cell hb.2
  have e1 : lf x a = lf y a := decide_eq_decide.mpr (by omega)
  have e2 : lf x b = lf y b := decide_eq_decide.mpr (by omega)
  have e3 : y.1 = x.1 := by omega
  unfold ed
  rw [e1, e2, e3]
theorem ed_down {x y : Cell} (h : (y.1 = x.1 + 1 ∧ y.2 = x.2) ∨ (y.1 = x.1 + 1 ∧ y.2 = x.2 - 1)) (a b : Cell) (hab : a ∈ near6 b) (ha : a ≠ x ∧ a ≠ y) (hb : b ≠ x ∧ b ≠ y) : ed 1 x a b = ed (-1) y a b := by
  have a1 := ne_cell ha.1
  have a2 := ne_cell ha.2
  have b1 := ne_cell hb.1
  have b2 := ne_cell hb.2
  rw [near6_iff] at hab
  rw [Bool.eq_iff_iff, ed_iff, ed_iff]
  rcases hab with q | q | q | q | q | q <;> rcases h with k | k <;> rw [q.1, k.1] <;> omega
theorem ed_up {x y : Cell} (h : (y.1 = x.1 - 1 ∧ y.2 = x.2) ∨ (y.1 = x.1 - 1 ∧ y.2 = x.2 + 1)) (a b : Cell) (hab : a ∈ near6 b) (ha : a ≠ x ∧ a ≠ y) (hb : b ≠ x ∧ b ≠ y) : ed (-1) x a b = ed 1 y a b :=
  (ed_down (x := y) (y := x) (by omega) a b hab ⟨ha.2, ha.1⟩ ⟨hb.2, hb.1⟩).symm

theorem reach_chain {g : Cell → Nat} {p : Cell} (h : Reach g false p) : ∃ l, Chn p l ∧ (∀ q, q ∈ p :: l → g q = 110 ∨ q.1 = -1) ∧ (lst p l).1 = -1 := by
  induction h with
  | @first p a b =>
    refine ⟨[(-1, p.2)], ⟨?_, trivial⟩, ?_, rfl⟩
    · have : p.1 = 0 := b
      exact near6_iff.mpr (.inr (.inr (.inr (.inl ⟨by show p.1 = -1 + 1; omega, rfl⟩))))
    · intro q hq
      rcases List.mem_cons.mp hq with rfl | hq
      · exact .inl a
      · rcases List.mem_cons.mp hq with rfl | hq
        · exact .inr rfl
        · cases hq
  | @next p q _ hn hq ih =>
    obtain ⟨l, c, m, e⟩ := ih
    refine ⟨p :: l, ⟨hn, c⟩, ?_, e⟩
    intro z hz
    rcases List.mem_cons.mp hz with rfl | hz
    · exact .inl hq
    · exact m z hz

theorem never_both {g : Cell → Nat} {h w : Nat} (S : Sup g h w) (hn : Joined g h w false) (hw : Joined g h w true) : False := by
  obtain ⟨p, hp, pe⟩ := hn
  obtain ⟨l0, c0, m0, e0⟩ := reach_chain hp
  have pe' : p.1 = (h : Int) - 1 := pe
  -- the road, and a place below
  let top : Cell := ((h : Int), p.2)
  have cc : Chn top (p :: l0) := ⟨near6_iff.mpr (.inr (.inr (.inr (.inl ⟨by show (h : Int) = p.1 + 1; omega, rfl⟩)))), c0⟩
  have mm : ∀ q, q ∈ top :: p :: l0 → (g q = 110 ∧ 0 ≤ q.1 ∧ q.1 < (h : Int) ∧ 0 ≤ q.2 ∧ q.2 < (w : Int)) ∨ q.1 = -1 ∨ q.1 = (h : Int) := by
    intro q hq
    rcases List.mem_cons.mp hq with rfl | hq
    · exact .inr (.inr rfl)
    · rcases m0 q hq with e | e
      · exact .inl ⟨e, S q (by rw [e]; decide)⟩
      · exact .inr (.inl e)
  have el : (lst top (p :: l0)).1 = -1 := e0
  -- a west stone is on no north road
  have off : ∀ x : Cell, g x = 119 → ∀ q, q ∈ top :: p :: l0 → q ≠ x := by
    intro x hx q hq e
    have sx := S x (by rw [hx]; decide)
    subst e
    rcases mm q hq with z | z | z
    · rw [hx] at z
      exact absurd z.1 (by decide)
    · omega
    · omega
  have tog : ∀ x : Cell, g x = 119 → cnt (ed (-1) x) top (p :: l0) = cnt (ed 1 x) top (p :: l0) := by
    intro x hx
    have sx := S x (by rw [hx]; decide)
    have t := cnt_tog (p :: l0) top cc (off x hx)
    have f1 : lf x top = false := decide_eq_false (by simp only [top]; omega)
    have f2 : lf x (lst top (p :: l0)) = false := decide_eq_false (by rw [el]; omega)
    rw [f1, f2] at t
    revert t
    cases cnt (ed (-1) x) top (p :: l0) <;> cases cnt (ed 1 x) top (p :: l0) <;> decide
  -- nothing crosses left of a west stone that is reached
  have key : ∀ x, Reach g true x → cnt (ed 1 x) top (p :: l0) = false := by
    intro x hx
    induction hx with
    | @first x a b =>
      have b' : x.2 = 0 := b
      have sx := S x (by rw [a]; decide)
      have := cnt_rows (e := ed 1 x) (r := (h : Int) + 1) (P := fun q => q.1 ≤ (h : Int) ∧ ((0 ≤ q.2) ∨ q.1 = -1 ∨ q.1 = (h : Int))) (fun u v huv pu pv => by
        rw [near6_iff] at huv
        have q1 : lf x u = false := decide_eq_false (by omega)
        have q2 : lf x v = false := decide_eq_false (by omega)
        unfold ed
        rw [q1, q2]
        rw [decide_eq_true (show u.1 ≤ (h : Int) + 1 by omega), decide_eq_true (show v.1 ≤ (h : Int) + 1 by omega)]
        rfl) (p :: l0) top cc (fun q hq => by
        rcases mm q hq with z | z
        · exact ⟨by omega, .inl z.2.2.2.1⟩
        · exact ⟨by omega, .inr z⟩)
      rw [this, el]
      have k1 : top.1 ≤ (h : Int) + 1 := by simp only [top]; omega
      have k2 : (-1 : Int) ≤ (h : Int) + 1 := by omega
      rw [decide_eq_true k1, decide_eq_true k2]
      rfl
    | @next x y hx hn hy ih =>
      have gx := hx.sign
      have gx' : g x = 119 := gx
      have gy' : g y = 119 := hy
      have ox := off x gx'
      have oy := off y gy'
      have cg : ∀ (d d' : Int) (u v : Cell), (∀ a b : Cell, a ∈ near6 b → (a ≠ x ∧ a ≠ y) → (b ≠ x ∧ b ≠ y) → ed d u a b = ed d' v a b) → cnt (ed d u) top (p :: l0) = cnt (ed d' v) top (p :: l0) := fun d d' u v hh =>
        cnt_congr (P := fun q => q ≠ x ∧ q ≠ y) hh (p :: l0) top cc (fun q hq => ⟨ox q hq, oy q hq⟩)
      have hn' := hn
      rw [near6_iff] at hn'
      rcases hn' with e | e | e | e | e | e
      · rw [← cg (-1) 1 x y (ed_up (.inl e)), tog x gx', ih]
      · rw [← cg (-1) 1 x y (ed_up (.inr e)), tog x gx', ih]
      · rw [← cg 1 1 x y (ed_side (.inl e)), ih]
      · rw [← tog y gy', ← cg 1 (-1) x y (ed_down (.inl e)), ih]
      · rw [← tog y gy', ← cg 1 (-1) x y (ed_down (.inr e)), ih]
      · rw [← cg 1 1 x y (ed_side (.inr e)), ih]
  obtain ⟨x, hx, xe⟩ := hw
  have xe' : x.2 = (w : Int) - 1 := xe
  have gx' : g x = 119 := hx.sign
  have sx := S x (by rw [gx']; decide)
  have k0 := key x hx
  have := cnt_rows (e := ed 1 x) (r := x.1) (P := fun q => q ≠ x ∧ ((q.2 < (w : Int)) ∨ q.1 = -1 ∨ q.1 = (h : Int))) (fun u v huv pu pv => by
    rw [near6_iff] at huv
    have hu' := ne_cell pu.1
    have hv' := ne_cell pv.1
    have pu2 := pu.2
    have pv2 := pv.2
    refine xor_dec ?_
    rw [ed_iff]
    rcases huv with q | q | q | q | q | q <;> omega) (p :: l0) top cc (fun q hq => by
    refine ⟨off x gx' q hq, ?_⟩
    rcases mm q hq with z | z
    · exact .inl z.2.2.2.2
    · exact .inr z)
  rw [this, el] at k0
  have k1 : ¬ top.1 ≤ x.1 := by simp only [top]; omega
  have k2 : (-1 : Int) ≤ x.1 := by omega
  rw [decide_eq_false k1, decide_eq_true k2] at k0
  cases k0
end Sw
/-! Helpers over the hand layer. -/
namespace Sw
open PySem PySem.Spec PyProof.Rows L2

/-! ### heaps -/
theorem same_new {H : Hp} {p : Addr} (h : H p = none) (o : HO) : Same H (upd H p o) := fun b u q => by rw [upd_ne (ne_of_none q h)]; exact q
theorem same_mut {H H' : Hp} {p : Addr} {o : HO} (e : Same H H') (h : H p = none) : Same H (upd H' p o) := fun a u ha => by
  rw [upd_ne (ne_of_none ha h)]
  exact e a u ha
theorem same_seqT {K : PySem.W.Frag} {H H' : Hp} {a : Addr} {xs : List V} (e : Same H H') (h : SqT K H a xs) : SqT K H' a xs := by
  rcases h with (h | ⟨o, h⟩) | h
  · exact .inl (.inl (e _ _ h))
  · exact .inl (.inr ⟨o, e _ _ h⟩)
  · exact .inr h
/-- tuples stay -/
def Tps (H H' : Hp) : Prop := ∀ a xs, H a = some (.tup xs) → H' a = some (.tup xs)
theorem Tps.refl (H : Hp) : Tps H H := fun _ _ h => h
theorem Tps.trans {H H1 H2 : Hp} (a : Tps H H1) (b : Tps H1 H2) : Tps H H2 := fun x o h => b x o (a x o h)
theorem Tps.of {H H' : Hp} (s : Same H H') : Tps H H' := fun a xs h => s a _ h
theorem Tps.lst {H : Hp} {l : Addr} {ys : List V} {o : HO} (h : H l = some (.lst ys)) : Tps H (upd H l o) := fun a xs e => by
  rw [upd_ne (ne_of e h (by intro z; cases z))]
  exact e
theorem Tps.dT {H : Hp} {l : Addr} {ys : List (List Key × V)} {o : HO} (h : H l = some (.dT ys)) : Tps H (upd H l o) := fun a xs e => by
  rw [upd_ne (ne_of e h (by intro z; cases z))]
  exact e
mutual
theorem dp_same {K : PySem.W.Frag} {H H' : Hp} (s : Same H H') : ∀ {d : PyData} {v : V}, Dp K H v d → Dp K H' v d
  | _, _, .non => .non
  | _, _, .bl b => .bl b
  | _, _, .int i => .int i
  | _, _, .str x => .str x
  | _, _, .lst h a => .lst (s.seq h) (dpa_same s a)
  | _, _, .tup h a => .tup (same_seqT s h) (dpa_same s a)
theorem dpa_same {K : PySem.W.Frag} {H H' : Hp} (s : Same H H') : ∀ {ds : List PyData} {vs : List V}, DpAll K H vs ds → DpAll K H' vs ds
  | _, _, .nil => .nil
  | _, _, .cons h t => .cons (dp_same s h) (dpa_same s t)
end
theorem dpa_app {K : PySem.W.Frag} {H : Hp} : ∀ {vs ws : List V} {ds es : List PyData}, DpAll K H vs ds → DpAll K H ws es → DpAll K H (vs ++ ws) (ds ++ es)
  | _, _, _, _, .nil, h => h
  | _, _, _, _, .cons a b, h => .cons a (dpa_app b h)
theorem dpa_len {K : PySem.W.Frag} {H : Hp} : ∀ {vs : List V} {ds : List PyData}, DpAll K H vs ds → vs.length = ds.length
  | _, _, .nil => rfl
  | _, _, .cons _ b => by rw [List.length_cons, List.length_cons, dpa_len b]
theorem hu65 {k : Nat} {A : Around} (r : Room k A) : A.units + 65 < cLine := by have := r.un; omega

/-! ### cells: tuples of two ints -/
def cellV (c : Cell) : List V := [.int c.1, .int c.2]
def cellD (c : Cell) : PyData := .tuple [.int c.1, .int c.2]
inductive Cells (H : Hp) : List V → List Cell → Prop
  | nil : Cells H [] []
  | cons {a : Addr} {c : Cell} {vs : List V} {cs : List Cell} : H a = some (.tup (cellV c)) → Cells H vs cs → Cells H (.ref a :: vs) (c :: cs)
theorem Cells.tps {H H' : Hp} (s : Tps H H') : ∀ {vs : List V} {cs : List Cell}, Cells H vs cs → Cells H' vs cs
  | _, _, .nil => .nil
  | _, _, .cons h t => .cons (s _ _ h) (Cells.tps s t)
theorem Cells.same {H H' : Hp} (s : Same H H') {vs : List V} {cs : List Cell} (h : Cells H vs cs) : Cells H' vs cs := h.tps (.of s)
theorem Cells.len {H : Hp} : ∀ {vs : List V} {cs : List Cell}, Cells H vs cs → vs.length = cs.length
  | _, _, .nil => rfl
  | _, _, .cons _ t => by rw [List.length_cons, List.length_cons, Cells.len t]
theorem Cells.get {H : Hp} : ∀ {vs : List V} {cs : List Cell} {i : Nat} {x : V}, Cells H vs cs → vs[i]? = some x → ∃ a c, x = .ref a ∧ cs[i]? = some c ∧ H a = some (.tup (cellV c))
  | _, _, _, _, .nil, e => by simp at e
  | _, _, 0, _, .cons h _, e => by
    simp at e
    subst e
    exact ⟨_, _, rfl, rfl, h⟩
  | _, _, i + 1, _, .cons _ t, e => Cells.get (i := i) t (by simpa using e)
theorem Cells.at {H : Hp} : ∀ {vs : List V} {cs : List Cell} {i : Nat} {c : Cell}, Cells H vs cs → cs[i]? = some c → ∃ a, vs[i]? = some (.ref a) ∧ H a = some (.tup (cellV c))
  | _, _, _, _, .nil, e => by simp at e
  | _, _, 0, _, .cons h _, e => by
    simp at e
    subst e
    exact ⟨_, rfl, h⟩
  | _, _, i + 1, _, .cons _ t, e => Cells.at (i := i) t (by simpa using e)
theorem Cells.app {H : Hp} : ∀ {vs ws : List V} {cs ds : List Cell}, Cells H vs cs → Cells H ws ds → Cells H (vs ++ ws) (cs ++ ds)
  | _, _, _, _, .nil, h => h
  | _, _, _, _, .cons a b, h => .cons a (Cells.app b h)
theorem Cells.one {H : Hp} {a : Addr} {c : Cell} (h : H a = some (.tup (cellV c))) : Cells H [.ref a] [c] := .cons h .nil
theorem cell_dp {K : PySem.W.Frag} {H : Hp} {a : Addr} {c : Cell} (h : H a = some (.tup (cellV c))) : Dp K H (.ref a) (cellD c) := .tup (.inl (.inl h)) (.cons (.int _) (.cons (.int _) .nil))
theorem Cells.dp {K : PySem.W.Frag} {H : Hp} : ∀ {vs : List V} {cs : List Cell}, Cells H vs cs → DpAll K H vs (cs.map cellD)
  | _, _, .nil => .nil
  | _, _, .cons h t => .cons (cell_dp h) (Cells.dp t)
theorem can_cells : ∀ cs : List Cell, PyData.canLayAll0 (cs.map cellD) = true
  | [] => rfl
  | c :: cs => by
    rw [List.map_cons, PyData.canLayAll0, can_cells cs]
    rfl
theorem dep_cells : ∀ cs : List Cell, PyData.depthAll (cs.map cellD) ≤ 1
  | [] => by decide
  | c :: cs => by
    have h := dep_cells cs
    rw [List.map_cons, PyData.depthAll]
    have e : (cellD c).depth = 1 := rfl
    rw [e]
    omega
theorem shaped_cells (cs : List Cell) : SeqAt.shaped (.list (cs.map cellD)) = true := by
  unfold SeqAt.shaped
  have h := dep_cells cs
  rw [show (PyData.list (cs.map cellD)).canLay0 = PyData.canLayAll0 (cs.map cellD) from rfl, can_cells]
  have : (PyData.list (cs.map cellD)).depth ≤ 64 := by
    rw [PyData.depth]
    omega
  rw [decide_eq_true this]
  rfl
theorem shaped_cell (c : Cell) : SeqAt.shaped (cellD c) = true := rfl
theorem eqv_cells (cs : List Cell) : PyData.eqv (.list (cs.map cellD)) (.list (cs.map cellD)) = true := SeqAt.eqv_refl _ (can_cells cs)
theorem eqv_cell (c d : Cell) : PyData.eqv (cellD c) (cellD d) = decide (c = d) := by
  show (c.1 == d.1 && (c.2 == d.2 && true)) = decide (c = d)
  rw [Bool.eq_iff_iff]
  simp [Prod.ext_iff]
theorem any_cells (c : Cell) (cs : List Cell) : ((cs.map cellD).any fun z => PyData.eqv z (cellD c)) = decide (c ∈ cs) := by
  rw [Bool.eq_iff_iff, List.any_eq_true, decide_eq_true_eq]
  constructor
  · rintro ⟨x, hx, e⟩
    obtain ⟨d, hd, rfl⟩ := List.mem_map.mp hx
    rw [eqv_cell, decide_eq_true_eq] at e
    exact e ▸ hd
  · intro h
    exact ⟨cellD c, List.mem_map.mpr ⟨c, h, rfl⟩, by rw [eqv_cell, decide_eq_true rfl]⟩
/-- items of a mapped list -/
theorem map_get {α β : Type} {f : α → β} {l : List α} {i : Nat} {y : β} (h : (l.map f)[i]? = some y) : ∃ x, l[i]? = some x ∧ f x = y := by
  rw [List.getElem?_map] at h
  cases e : l[i]? with
  | none => rw [e] at h; cases h
  | some z => rw [e] at h; exact ⟨z, rfl, Option.some.inj h⟩
theorem get_lt {α : Type} {l : List α} {i : Nat} {y : α} (h : l[i]? = some y) : i < l.length := (List.getElem?_eq_some_iff.mp h).1
theorem atI_cps {α : Type} {l : List α} {k : Int} {v : α} (h0 : 0 ≤ k) (h : l[k.toNat]? = some v) : atI l k = some v := by
  have e : k = ((k.toNat : Nat) : Int) := by omega
  rw [e]
  exact atI_nat h
theorem at_int {l : List V} {k : Int} {v : V} (h0 : 0 ≤ k) (h : l[k.toNat]? = some v) : atI l k = some v := at_of (j := k.toNat) (by omega) h
theorem near6_get (r c : Int) (i : Nat) (p : Cell) (h : (near6 (r, c))[i]? = some p) : (r, c) ∈ near6 p := near6_symm (List.mem_of_getElem? h)
theorem sz0 : ([] : List V).length ≤ sizeLine := by show 0 ≤ sizeLine; decide
theorem sz1 {a : V} : [a].length ≤ sizeLine := by show 1 ≤ sizeLine; decide
theorem sz2 {a b : V} : [a, b].length ≤ sizeLine := by show 2 ≤ sizeLine; decide
theorem sz3 {a b c : V} : [a, b, c].length ≤ sizeLine := by show 3 ≤ sizeLine; decide
theorem sz4 {a b c d : V} : [a, b, c, d].length ≤ sizeLine := by show 4 ≤ sizeLine; decide
theorem sz5 {a b c d e : V} : [a, b, c, d, e].length ≤ sizeLine := by show 5 ≤ sizeLine; decide
theorem sz6 {a b c d e f : V} : [a, b, c, d, e, f].length ≤ sizeLine := by show 6 ≤ sizeLine; decide
theorem sz_le {n : Nat} (h : n ≤ 1000000) : n ≤ sizeLine := Nat.le_trans h (by decide)
theorem sz_lt {n : Nat} (h : n < 1000000) : n < sizeLine := Nat.lt_of_lt_of_le h (by decide)
theorem iteB {b : Bool} {A B : Prop} (h1 : b = true → A) (h2 : b = false → B) : if b = true then A else B := by
  cases b with
  | true => exact iteT (h1 rfl)
  | false => exact iteF (h2 rfl)
theorem iteD {p : Prop} [Decidable p] {A B : Prop} (h1 : p → A) (h2 : ¬ p → B) : if decide p = true then A else B :=
  iteB (fun h => h1 (of_decide_eq_true h)) (fun h => h2 (of_decide_eq_false h))
theorem iteN {p : Prop} [Decidable p] {A B : Prop} (h1 : ¬ p → A) (h2 : p → B) : if (!decide p) = true then A else B := by
  by_cases h : p
  · rw [decide_eq_true h]
    exact iteF (h2 h)
  · rw [decide_eq_false h]
    exact iteT (h1 h)
theorem iteNB {b : Bool} {A B : Prop} (h1 : b = false → A) (h2 : b = true → B) : if (!b) = true then A else B := by
  cases b with
  | true => exact iteF (h2 rfl)
  | false => exact iteT (h1 rfl)
theorem tn {f : L2.St → Hp → Prop} {r : VK} {b c : L2.St → Hp → Prop} {σ : L2.St} {H : Hp} (h : f σ H) : tNext ⟨f, r, b, c⟩ σ H := h
theorem gn {i : Nat} {v : V} {f : L2.St → Hp → Prop} {r : VK} {b c : L2.St → Hp → Prop} {σ : L2.St} {H : Hp} (h : f (σ.set i (some v)) H) : gName i v σ H (Ends.nx ⟨f, r, b, c⟩) := h
/-! ### cuts: what an expression is worth, said once -/
theorem qa {i : Nat} {te : TE} {tz : TS} {D : Ends} {σ : L2.St} {H : Hp} (Pr : V → Hp → Prop) (h : ∀ Q : VK, (∀ v H1, Pr v H1 → Q v H1) → te σ H Q) (k : ∀ v H1, Pr v H1 → tz D (σ.set i (some v)) H1) : tSeq (tAsg te (gName i)) tz D σ H := h _ k
theorem qe {te : TE} {σ : L2.St} {H : Hp} {Q : VK} (Pr : V → Hp → Prop) (h : ∀ Q : VK, (∀ v H1, Pr v H1 → Q v H1) → te σ H Q) (k : ∀ v H1, Pr v H1 → Q v H1) : te σ H Q := h _ k
/-- a new list of the cells cs stands at v -/
def NewCells (H : Hp) (cs : List Cell) (v : V) (H' : Hp) : Prop := ∃ (p : Addr) (ws : List V), v = .ref p ∧ H p = none ∧ Same H H' ∧ H' p = some (.lst ws) ∧ Cells H' ws cs
theorem new_six {H : Hp} {r c : Int} {t1 t2 t3 t4 t5 t6 p : Addr} {H1 H2 H3 H4 H5 H6 : Hp} (e1 : H1 = upd H t1 (.tup (cellV (r - 1, c)))) (e2 : H2 = upd H1 t2 (.tup (cellV (r - 1, c + 1)))) (e3 : H3 = upd H2 t3 (.tup (cellV (r, c + 1)))) (e4 : H4 = upd H3 t4 (.tup (cellV (r + 1, c))))
    (e5 : H5 = upd H4 t5 (.tup (cellV (r + 1, c - 1)))) (e6 : H6 = upd H5 t6 (.tup (cellV (r, c - 1)))) (h1 : H t1 = none) (h2 : H1 t2 = none) (h3 : H2 t3 = none) (h4 : H3 t4 = none) (h5 : H4 t5 = none) (h6 : H5 t6 = none) (hp : H6 p = none) :
    NewCells H (near6 (r, c)) (.ref p) (upd H6 p (.lst [.ref t1, .ref t2, .ref t3, .ref t4, .ref t5, .ref t6])) := by
  subst e1 e2 e3 e4 e5 e6
  have s1 := same_new h1 (.tup (cellV (r - 1, c)))
  have s2 := same_new h2 (.tup (cellV (r - 1, c + 1)))
  have s3 := same_new h3 (.tup (cellV (r, c + 1)))
  have s4 := same_new h4 (.tup (cellV (r + 1, c)))
  have s5 := same_new h5 (.tup (cellV (r + 1, c - 1)))
  have s6 := same_new h6 (.tup (cellV (r, c - 1)))
  have s7 := same_new hp (.lst [.ref t1, .ref t2, .ref t3, .ref t4, .ref t5, .ref t6])
  refine ⟨p, _, rfl, (s1.trans (s2.trans (s3.trans (s4.trans (s5.trans s6))))).free hp, s1.trans (s2.trans (s3.trans (s4.trans (s5.trans (s6.trans s7))))), upd_same, ?_⟩
  exact .cons (s7 _ _ (s6 _ _ (s5 _ _ (s4 _ _ (s3 _ _ (s2 _ _ upd_same)))))) (.cons (s7 _ _ (s6 _ _ (s5 _ _ (s4 _ _ (s3 _ _ upd_same))))) (.cons (s7 _ _ (s6 _ _ (s5 _ _ (s4 _ _ upd_same)))) (.cons (s7 _ _ (s6 _ _ (s5 _ _ upd_same))) (.cons (s7 _ _ (s6 _ _ upd_same)) (.cons (s7 _ _ upd_same) .nil)))))
end Sw
/-! Further rules over the hand layer: a text times a number, an own object made within a try, isinstance of what a suite holds, .. -/
namespace Sw
open PySem PySem.Spec PyProof.Rows L2
section
variable {X : Cx}
/-- text * number, both small -/
def rMulS : R2 := fun x y Hh Q => ∃ (z : Str) (k : Int), x = .str z ∧ y = .int k ∧ z.length ≤ 1000 ∧ -1000 ≤ k ∧ k ≤ 1000 ∧ Q (.str (Txt.mul z k)) Hh
theorem op_mul_str : OpR X (binaryOp .Mult) rMulS := by
  intro pins s σ Hh x y v u Q I rx ry hh
  obtain ⟨z, k, rfl, rfl, hz, h1, h2, q⟩ := hh
  obtain ⟨t, rfl⟩ := rx
  obtain ⟨t', rfl⟩ := ry
  refine SB.mul ⟨?_, fun a _ => ?_, fun a _ => ?_⟩ (fun t2 tk => ⟨.str (Txt.mul z k), Hh, I.tok _, ⟨_, rfl⟩, q⟩)
  · rw [decide_eq_false (show ¬ k < -(2 ^ 63 : Int) by omega), decide_eq_false (show ¬ k ≥ 2 ^ 63 by omega)]
    rfl
  · have : (1000 : Int) ≤ (2 ^ 63 - 1) / k := by
      rw [Int.le_ediv_iff_mul_le (by omega)]
      omega
    omega
  · have e : z.length * k.toNat ≤ 1000 * 1000 := Nat.mul_le_mul hz (by omega)
    show decide (z.length * k.toNat > sizeLine) = false
    refine decide_eq_false ?_
    have : (1000 * 1000 : Nat) ≤ sizeLine := by decide
    omega
/-- list(text) -/
def rListStr : List V → Hp → VK → Prop := fun xs Hh Q => ∃ z : Str, xs = [.str z] ∧ z.length ≤ 1000 ∧ ∀ l, Hh l = none → Q (.ref l) (upd Hh l (.lst (z.cps.toList.map fun c => V.str ⟨#[c]⟩)))
end

/-! ### C(e, ..) of an own class within a try: what __init__ raises is wished for at the slots as they stand -/
section
variable {X : Cx} {CX : CXT} {k : Nat} {f C : Addr} {fd : FuncData} {ps : List Str} {sp : Sp} {E : L2.St → XK} {x : Str} {p pos : Pos} {e : Expr} {es : List Expr} {t : TA}
theorem run_makeS {pins : List (Addr × Obj)} {σ : L2.St} {H : Hp} {s : Shared} {Q : VK} {us : List Value} {vs : List V}
    (M : Mk X.K C f) (F : FnOk X.prog X.w X.K X.mg X.base CX k f fd ps sp) (hr : Room (k + 1) X.A)
    (hb : Binds X.K fd ps []) (hx : PassesAt CX X σ (E σ)) (I : Inv X pins σ H s) (r : Vals vs us)
    (h : ∀ o d, H o = none → H d = none → d ≠ o → sp (.ref o :: vs) (upd (upd H d (.own o)) o (.ins C d [])) (fun v H2 => v = .non ∧ Q (.ref o) H2) (E σ)) :
    wpAny (model X.prog X.w) X.A (call (.ref C) us) (EP X pins σ Q) X.xe s := by
  have hq := h (s.heap.objs.size + 1) s.heap.objs.size (I.hok.fresh (Nat.le_succ _)) (I.hok.fresh (Nat.le_refl _)) (Nat.ne_of_lt (Nat.lt_succ_self _))
  have J := Inv.made (C := C) I
  have rr : Vals (V.ref (s.heap.objs.size + 1) :: vs) (Value.ref (s.heap.objs.size + 1) :: us) := .cons rfl r
  have hl : (Value.ref (s.heap.objs.size + 1) :: us).length = ps.length := by
    have e := rr.length
    rw [F.len _ _ _ _ hq] at e
    exact e.symm
  have bb := hb _ (Value.ref (s.heap.objs.size + 1) :: us) J.kIn (by rw [List.append_nil]; exact hl)
  rw [List.append_nil] at bb
  refine wpAny_call (make_map (f := f) I.kIn M.makes M.init (beq_iff_eq.mp M.fn) (codeAny_mono (F.run _ X.stack _ _ ⟨Value.ref (s.heap.objs.size + 1) :: us, []⟩ (Value.ref (s.heap.objs.size + 1) :: us) _ _ (E σ)
    (hr.make C us []) (J.env0.make C us []) bb rr hq) fun res s' g => ?_))
  cases res with
  | error e => exact hx pins _ _ e s' J g
  | ok fl =>
    cases fl with
    | ret u =>
      obtain ⟨v, H', J3, rv, ev, q3⟩ := J.after g
      subst ev
      exact ⟨rv, ⟨V.ref (s.heap.objs.size + 1), H', J3, rfl, q3⟩⟩
    | next => exact g.elim
    | brk => exact g.elim
    | cont => exact g.elim
def tMakeS (C : Addr) (sp : Sp) (E : L2.St → XK) (t : TA) : TE := fun σ H Q => t σ H fun vs H1 => ∀ o d, H1 o = none → H1 d = none → d ≠ o →
  sp (.ref o :: vs) (upd (upd H1 d (.own o)) o (.ins C d [])) (fun v H2 => v = .non ∧ Q (.ref o) H2) (E σ)
theorem pe_makeS (M : Mk X.K C f) (F : FnOk X.prog X.w X.K X.mg X.base CX k f fd ps sp) (hr : Room (k + 1) X.A) (hg : Gl X x) (hm : X.mg x = some (.ref C)) (hb : Binds X.K fd ps []) (hx : ∀ σ, PassesAt CX X σ (E σ))
    (ha : PA X (e :: es) t) (hdb : (x == ("__debug__" : Str)) = false := by decide) (hst : starEach (e :: es) X.env = (false, eval e X.env) :: starEach es X.env := by rfl) (hpl : (backTo pos (starEach es X.env)).any (·.1) = false := by rfl) :
    PE X (.Call (.Name x p) (e :: es) [] pos) (tMakeS C sp E t) := by
  refine ⟨fun pins s σ H Q I h => wpAny_Call_Name_kw (ld_glob I hg hm ?_ hdb)⟩
  refine PySem.W.callWith_K (h₀ := X.base) I.ok.mod.kin M.kp (thn (ha.run pos pins s σ H _ I h) fun us s1 ⟨vs, H1, I1, r, q⟩ => ⟨I1.kIn, run_makeS M F hr hb (hx σ) I1 r q⟩) hst hpl
end

/-! ### does an except clause of the class C take an error of the class cls -/
theorem exm_of {K : PySem.W.Frag} {C : Addr} {cls : Value} {b : Bool} (h1 : PySem.W.subIn K (.ref C) (.type "BaseException") = some true) (h2 : PySem.W.isClsIn K C = true)
    (h3 : PySem.W.typeIn K (.ref C) = some (.type "type")) (h4 : PySem.W.subIn K cls (.ref C) = some b) : PySem.W.exmOne K cls (.ref C) = some b := by
  have e2 : (PySem.W.clsIn K C).isSome = true := h2
  unfold PySem.W.exmOne PySem.W.kitCls
  simp only [h1, e2, h3, h4]
  rfl
/-! ### isinstance of an own error, by the classes' facts -/
theorem kit_ownT {K : PySem.W.Frag} {t : Value} {C : Addr} (h2 : PySem.W.isClsIn K C = true) (h3 : PySem.W.typeIn K (.ref C) = some (.type "type")) (h4 : PySem.W.subIn K t (.ref C) = some true) : PySem.W.kitOne K t (.ref C) = some true := by
  have e2 : (PySem.W.clsIn K C).isSome = true := h2
  unfold PySem.W.kitOne PySem.W.kitCls
  simp [e2, h3, h4]
theorem kit_ownF {K : PySem.W.Frag} {a C : Addr} (h2 : PySem.W.isClsIn K C = true) (h3 : PySem.W.typeIn K (.ref C) = some (.type "type")) (h4 : PySem.W.subIn K (.ref a) (.ref C) = some false) (h5 : PySem.W.subIn K (.ref C) (.ref C) = some true) :
    PySem.W.kitOne K (.ref a) (.ref C) = some false := by
  have e2 : (PySem.W.clsIn K C).isSome = true := h2
  have ne : a ≠ C := by
    intro z
    rw [z, h5] at h4
    cases h4
  have ne' : (Value.ref a == Value.ref C) = false := by
    rw [beq_eq_false_iff_ne]
    intro z
    exact ne (Value.ref.inj z)
  unfold PySem.W.kitOne PySem.W.kitCls
  simp [e2, h3, h4, ne']
theorem kit_self {K : PySem.W.Frag} {v : Value} : PySem.W.kitOne K v v = some true := by
  unfold PySem.W.kitOne
  rw [if_pos (beq_self_eq_true v)]
theorem kit_typ {K : PySem.W.Frag} {a : Addr} {T : String} {b : Bool} (h1 : PySem.W.kitMeta T = true) (h4 : PySem.W.subIn K (.ref a) (.type T) = some b) : PySem.W.kitOne K (.ref a) (.type T) = some b := by
  unfold PySem.W.kitOne PySem.W.kitCls
  have ne' : (Value.ref a == Value.type T) = false := by
    rw [beq_eq_false_iff_ne]
    intro z
    cases z
  simp [h1, h4, ne']
/-! ### isinstance of what an except suite holds -/
section
variable {X : Cx}
def rIsX (K : PySem.W.Frag) (a : Addr) (cls : Value) (d : Option Addr) : List V → Hp → VK → Prop := fun xs H Q => ∃ D : Addr, cls = .ref D ∧ d = none ∧ ExcC K D ∧ rIsE K D a xs H Q
theorem call_isX {a : Addr} {oe : Obj} {cls : Value} {d : Option Addr} {pn : List (Addr × Obj)} (hz : Zc cls d oe) (hf : ∃ vs, oe.data = .fields vs) :
    CallR (X.suite a ((a, oe) :: pn)) (.builtin "isinstance") (rIsX X.K a cls d) := by
  intro pins s σ H xs us Q I r h
  obtain ⟨D, rfl, rfl, C, h⟩ := h
  exact call_isE C hz hf pins s σ H xs us Q I r h
theorem call_isXK {K : PySem.W.Frag} {a : Addr} {oe : Obj} {cls : Value} {d : Option Addr} {pn : List (Addr × Obj)} (hK : X.K = K) (hz : Zc cls d oe) (hf : ∃ vs, oe.data = .fields vs) :
    CallR (X.suite a ((a, oe) :: pn)) (.builtin "isinstance") (rIsX K a cls d) := by
  subst hK
  exact call_isX hz hf
theorem ix_listK {K : PySem.W.Frag} (hK : X.K = K) : IxR X (rIxL K) := by
  subst hK
  exact ix_list
theorem ix_tupK {K : PySem.W.Frag} (hK : X.K = K) : IxR X (rIxT K) := by
  subst hK
  exact ix_tup
theorem op_neDK {K : PySem.W.Frag} (hK : X.K = K) (hu : X.A.units + 64 < cLine) : OpR X (compareOp .NotEq) (rNeD K) := by
  subst hK
  exact op_neD hu
theorem op_inDK {K : PySem.W.Frag} (hK : X.K = K) (hu : X.A.units + 65 < cLine) : OpR X (compareOp .In) (rInD K) := by
  subst hK
  exact op_inD hu
theorem op_notInDK {K : PySem.W.Frag} (hK : X.K = K) (hu : X.A.units + 65 < cLine) : OpR X (compareOp .NotIn) (rNotInD K) := by
  subst hK
  exact op_notInD hu
theorem op_eqDK {K : PySem.W.Frag} (hK : X.K = K) (hu : X.A.units + 64 < cLine) : OpR X (compareOp .Eq) (rEqD K) := by
  subst hK
  exact op_eqD hu
end
end Sw
/-! Boards as lists of lists of signs' codes, and how they stand in the heap. -/
namespace Sw
open PySem PySem.Spec PyProof.Rows L2
/-! ### texts -/
def txt (l : List Nat) : Str := ⟨l.toArray⟩
theorem txt_cps (l : List Nat) : (txt l).cps.toList = l := rfl
theorem txt_len (l : List Nat) : (txt l).length = l.length := by
  show l.toArray.size = l.length
  rw [List.size_toArray]
theorem txt_app (a b : List Nat) : txt a ++ txt b = txt (a ++ b) := ext_toList (by
  show (a.toArray ++ b.toArray).toList = (a ++ b)
  rw [Array.toList_append])
theorem txt_inj {a b : List Nat} (h : txt a = txt b) : a = b := by
  have := congrArg (fun z : Str => z.cps.toList) h
  exact this
theorem s_n : (Str.ofString "n") = txt [110] := by decide +kernel
theorem s_w : (Str.ofString "w") = txt [119] := by decide +kernel
theorem s_dot : (Str.ofString ".") = txt [46] := by decide +kernel
theorem s_nw : (Str.ofString "nw") = txt [110, 119] := by decide +kernel
theorem s_wn : (Str.ofString "wn") = txt [119, 110] := by decide +kernel
theorem s_nwd : (Str.ofString "nw.") = txt [110, 119, 46] := by decide +kernel
theorem s_nil : (Str.ofString "") = txt [] := by decide +kernel
theorem mul_txt (c : Nat) (k : Int) : Txt.mul (txt [c]) k = txt (List.replicate k.toNat c) := by
  unfold Txt.mul
  by_cases h1 : k < 1
  · rw [if_pos h1]
    have : k.toNat = 0 := by omega
    rw [this]
    rfl
  · rw [if_neg h1]
    by_cases h2 : k = 1
    · subst h2
      rfl
    · have e : (k == 1 || (txt [c]).length == 0) = false := by
        rw [txt_len]
        simp [h2]
      rw [e, if_neg Bool.false_ne_true]
      refine ext_toList ?_
      show (List.foldl (fun a b => a ++ b) #[] (List.replicate k.toNat #[c])).toList = List.replicate k.toNat c
      have gen : ∀ (m : Nat) (acc : Array Nat), (List.foldl (fun a b => a ++ b) acc (List.replicate m #[c])).toList = acc.toList ++ List.replicate m c := by
        intro m
        induction m with
        | zero => intro acc; simp
        | succ m ih =>
          intro acc
          rw [List.replicate_succ, List.foldl_cons, ih, Array.toList_append, List.replicate_succ, List.append_assoc]
          rfl
      rw [gen]
      rfl
theorem cutS_to {l : List Nat} {k : Int} (h0 : 0 ≤ k) (h : k ≤ l.length) : cutS (txt l) none (some k) = txt (l.take k.toNat) := by
  refine ext_toList ?_
  show ((l.drop 0).take ((if k < 0 then (k + ((txt l).length : Int)).toNat else min k.toNat (txt l).length) - 0)) = l.take k.toNat
  rw [if_neg (by omega), txt_len, List.drop_zero, Nat.sub_zero, Nat.min_eq_left (by omega)]
theorem cutS_from {l : List Nat} {k : Int} (h0 : 0 ≤ k) (h : k ≤ l.length) : cutS (txt l) (some k) none = txt (l.drop k.toNat) := by
  refine ext_toList ?_
  show ((l.drop (if k < 0 then (k + ((txt l).length : Int)).toNat else min k.toNat (txt l).length)).take ((txt l).length - (if k < 0 then (k + ((txt l).length : Int)).toNat else min k.toNat (txt l).length))) = l.drop k.toNat
  rw [if_neg (by omega), txt_len, Nat.min_eq_left (by omega)]
  rw [List.take_of_length_le (by rw [List.length_drop]; omega)]
theorem cutV_to {l : List V} {k : Int} (h0 : 0 ≤ k) (h : k ≤ l.length) : cutV l none (some k) = l.take k.toNat := by
  show ((l.drop 0).take ((if k < 0 then (k + (l.length : Int)).toNat else min k.toNat l.length) - 0)) = l.take k.toNat
  rw [if_neg (by omega), List.drop_zero, Nat.sub_zero, Nat.min_eq_left (by omega)]
theorem cutV_from {l : List V} {k : Int} (h0 : 0 ≤ k) (h : k ≤ l.length) : cutV l (some k) none = l.drop k.toNat := by
  show ((l.drop (if k < 0 then (k + (l.length : Int)).toNat else min k.toNat l.length)).take (l.length - (if k < 0 then (k + (l.length : Int)).toNat else min k.toNat l.length))) = l.drop k.toNat
  rw [if_neg (by omega), Nat.min_eq_left (by omega), List.take_of_length_le (by rw [List.length_drop]; omega)]

/-! ### boards -/
abbrev Bd := List (List Nat)
def rowV (l : List Nat) : V := .str (txt l)
def rowsV (B : Bd) : List V := B.map rowV
theorem rowsV_len (B : Bd) : (rowsV B).length = B.length := List.length_map _
theorem rowsV_get {B : Bd} {i : Nat} {r : List Nat} (h : B[i]? = some r) : (rowsV B)[i]? = some (rowV r) := by
  unfold rowsV
  rw [List.getElem?_map, h]
  rfl
theorem rowsV_inv {B : Bd} {i : Nat} {x : V} (h : (rowsV B)[i]? = some x) : ∃ r, B[i]? = some r ∧ x = rowV r := by
  obtain ⟨r, h1, h2⟩ := map_get h
  exact ⟨r, h1, h2.symm⟩
def okc (c : Nat) : Bool := decide (c ∈ [110, 119, 46])
/-- how wide: the first row's length -/
def wid (B : Bd) : Nat := (B.headD []).length
def rowOk (w : Nat) (r : List Nat) : Bool := decide (r.length = w) && r.all okc
def Good (B : Bd) : Bool := decide (1 ≤ B.length ∧ B.length ≤ 9) && (decide (1 ≤ wid B ∧ wid B ≤ 9) && B.all (rowOk (wid B)))
structure IsB (B : Bd) (h w : Nat) : Prop where
  hh : B.length = h
  ww : ∀ r ∈ B, r.length = w
  ok : ∀ r ∈ B, ∀ c ∈ r, c = 110 ∨ c = 119 ∨ c = 46
  h1 : 1 ≤ h
  h9 : h ≤ 9
  w1 : 1 ≤ w
  w9 : w ≤ 9
theorem okc_iff (c : Nat) : okc c = true ↔ c = 110 ∨ c = 119 ∨ c = 46 := by
  unfold okc
  rw [decide_eq_true_eq]
  simp
theorem IsB.wid {B : Bd} {h w : Nat} (I : IsB B h w) : wid B = w := by
  cases B with
  | nil =>
    have := I.hh
    have := I.h1
    simp only [List.length_nil] at *
    omega
  | cons r B => exact I.ww r List.mem_cons_self
theorem IsB.good {B : Bd} {h w : Nat} (I : IsB B h w) : Good B = true := by
  unfold Good
  rw [I.wid, I.hh, decide_eq_true ⟨I.h1, I.h9⟩, decide_eq_true ⟨I.w1, I.w9⟩, Bool.true_and, Bool.true_and, List.all_eq_true]
  intro r hr
  unfold rowOk
  rw [decide_eq_true (I.ww r hr), Bool.true_and, List.all_eq_true]
  intro c hc
  exact (okc_iff c).mpr (I.ok r hr c hc)
theorem good_is {B : Bd} (h : Good B = true) : IsB B B.length (wid B) := by
  unfold Good at h
  rw [Bool.and_eq_true, Bool.and_eq_true, decide_eq_true_eq, decide_eq_true_eq, List.all_eq_true] at h
  obtain ⟨⟨a1, a2⟩, ⟨b1, b2⟩, c⟩ := h
  have c1 : ∀ r ∈ B, r.length = wid B ∧ ∀ x ∈ r, okc x = true := by
    intro r hr
    have := c r hr
    unfold rowOk at this
    rw [Bool.and_eq_true, decide_eq_true_eq, List.all_eq_true] at this
    exact this
  exact ⟨rfl, fun r hr => (c1 r hr).1, fun r hr x hx => (okc_iff x).mp ((c1 r hr).2 x hx), a1, a2, b1, b2⟩
/-- small enough for the heap's line -/
structure Small (B : Bd) : Prop where
  len : B.length ≤ 1000
  row : ∀ r ∈ B, r.length ≤ 1000
  cod : ∀ r ∈ B, ∀ c ∈ r, c < 1000
theorem IsB.small {B : Bd} {h w : Nat} (I : IsB B h w) : Small B := ⟨by have := I.hh; have := I.h9; omega, fun r hr => by have := I.ww r hr; have := I.w9; omega, fun r hr c hc => by have := I.ok r hr c hc; omega⟩
/-- a row of the board at place i -/
theorem IsB.row {B : Bd} {h w : Nat} (I : IsB B h w) {i : Nat} (hi : i < h) : ∃ r, B[i]? = some r ∧ r.length = w := by
  have : i < B.length := by rw [I.hh]; exact hi
  exact ⟨B[i], List.getElem?_eq_getElem this, I.ww _ (List.getElem_mem this)⟩

/-! ### data -/
def rowsD (B : Bd) : PyData := .list (B.map fun r => PyData.str (txt r))
theorem rows_dpa {K : PySem.W.Frag} {H : Hp} : ∀ B : Bd, DpAll K H (rowsV B) (B.map fun r => PyData.str (txt r))
  | [] => .nil
  | r :: B => .cons (.str _) (rows_dpa B)
theorem rows_dp {K : PySem.W.Frag} {H : Hp} {a : Addr} {B : Bd} (h : H a = some (.lst (rowsV B))) : Dp K H (.ref a) (rowsD B) := .lst (SqL.of h) (rows_dpa B)
theorem can_txt {r : List Nat} (h : ∀ c ∈ r, c < 1000) : (PyData.str (txt r)).canLay0 = true := by
  show (r.toArray.all fun c => decide (c < 0x110000)) = true
  rw [List.all_toArray, List.all_eq_true]
  intro c hc
  exact decide_eq_true (by have := h c hc; omega)
theorem can_rows : ∀ B : Bd, (∀ r ∈ B, ∀ c ∈ r, c < 1000) → PyData.canLayAll0 (B.map fun r => PyData.str (txt r)) = true
  | [], _ => rfl
  | r :: B, h => by
    rw [List.map_cons, PyData.canLayAll0, can_rows B (fun x hx => h x (List.mem_cons_of_mem _ hx)), can_txt (h r List.mem_cons_self)]
    rfl
theorem dep_rows : ∀ B : Bd, PyData.depthAll (B.map fun r => PyData.str (txt r)) ≤ 1
  | [] => by decide
  | r :: B => by
    have h := dep_rows B
    rw [List.map_cons, PyData.depthAll]
    have e : (PyData.str (txt r)).depth = 0 := rfl
    rw [e]
    omega
theorem shaped_rows {B : Bd} (hB : Small B) : SeqAt.shaped (rowsD B) = true := by
  unfold SeqAt.shaped rowsD
  have h := dep_rows B
  rw [show (PyData.list (B.map fun r => PyData.str (txt r))).canLay0 = PyData.canLayAll0 (B.map fun r => PyData.str (txt r)) from rfl, can_rows B hB.cod]
  have : (PyData.list (B.map fun r => PyData.str (txt r))).depth ≤ 64 := by
    rw [PyData.depth]
    omega
  rw [decide_eq_true this]
  rfl
theorem eqv_rows {B : Bd} (hB : Small B) : PyData.eqv (rowsD B) (rowsD B) = true := SeqAt.eqv_refl _ (can_rows B hB.cod)

/-! ### a Board in the heap -/
def bfl (l : Addr) (h w : Int) : List (Str × V) := [("rows", .ref l), ("height", .int h), ("width", .int w)]
theorem lk_h {k : Str} {v : V} {r : List (Str × V)} : List.lookup k ((k, v) :: r) = some v := by
  simp only [List.lookup, beq_self_eq_true k]
theorem lk_p {k g : Str} {v : V} {r : List (Str × V)} (h : (k == g) = false) : List.lookup k ((g, v) :: r) = List.lookup k r := by
  simp only [List.lookup, h]
theorem pt_p {f g : Str} {v x : V} {r : List (Str × V)} (h : ¬ g = f) : putF f v ((g, x) :: r) = (g, x) :: putF f v r := if_neg h
theorem bfl_rows (l : Addr) (h w : Int) : (bfl l h w).lookup ("rows" : Str) = some (.ref l) := lk_h
theorem bfl_height (l : Addr) (h w : Int) : (bfl l h w).lookup ("height" : Str) = some (.int h) := (lk_p (by decide +kernel)).trans lk_h
theorem bfl_width (l : Addr) (h w : Int) : (bfl l h w).lookup ("width" : Str) = some (.int w) := (lk_p (by decide +kernel)).trans ((lk_p (by decide +kernel)).trans lk_h)
theorem bfl_has (l : Addr) (h w : Int) : (bfl l h w).lookup ("has" : Str) = none := (lk_p (by decide +kernel)).trans ((lk_p (by decide +kernel)).trans ((lk_p (by decide +kernel)).trans rfl))
theorem bfl_new (l : Addr) (h w : Int) : putF "width" (.int w) (putF "height" (.int h) (putF "rows" (.ref l) [])) = bfl l h w := by
  show putF "width" (.int w) (putF "height" (.int h) [("rows", .ref l)]) = _
  rw [pt_p (by decide +kernel)]
  show putF "width" (.int w) [("rows", .ref l), ("height", .int h)] = _
  rw [pt_p (by decide +kernel), pt_p (by decide +kernel)]
  rfl
/-- a Board of the rows B stands at p, its list at l -/
structure BoardAt (C : Addr) (H : Hp) (p l : Addr) (B : Bd) : Prop where
  ob : ∃ dx, H p = some (.ins C dx (bfl l B.length (wid B)))
  ls : H l = some (.lst (rowsV B))
theorem BoardAt.same {C : Addr} {H H' : Hp} {p l : Addr} {B : Bd} (b : BoardAt C H p l B) (s : Same H H') : BoardAt C H' p l B := by
  obtain ⟨⟨dx, h1⟩, h2⟩ := b
  exact ⟨⟨dx, s _ _ h1⟩, s _ _ h2⟩
end Sw
/-! for i, c in enumerate(text): the turns, the rule. -/
namespace Sw
open PySem PySem.Spec PyProof.Rows L2
/-- the signs of x with their places, in new pairs -/
def ItEs (x : Str) : It := ⟨fun i _ => i < x.cps.size, fun i H v H' => ∃ (T : Addr) (c : Nat), v = .ref T ∧ H T = none ∧ H' = upd H T (.tup [.int (i : Nat), .str ⟨#[c]⟩]) ∧ x.cps[i]? = some c, fun i _ => i = x.cps.size⟩
theorem turn_enumS {P : Program} {w : World} {K : PySem.W.Frag} {elts : List Expr} {kk : Nat} {tpos : Pos} (x : Str) (t : Tok) (e it : Addr) :
    Turn P w K (.Tuple elts kk tpos) (ItEs x) [e, it] e (fun i h => (∃ old, IsEnum h e it ((i : Nat) : Int) old) ∧ h.IsStrIter it (strIterType x) x t i ∧ e ≠ it) where
  mem := List.mem_cons_self
  obj := fun i h st b hb => by
    obtain ⟨⟨old, he⟩, ⟨o, ho, hc, hd⟩, _⟩ := st
    rcases List.mem_cons.mp hb with z | z
    · rw [z]
      exact ⟨_, he, fun v q => nomatch q⟩
    · rw [List.mem_singleton.mp z]
      exact ⟨o, ho, fun v q => by rw [hd] at q; cases q⟩
  keep := fun i h h' st k => by
    obtain ⟨⟨old, he⟩, ⟨o, ho, r⟩, hne⟩ := st
    exact ⟨⟨old, k e List.mem_cons_self _ he⟩, ⟨o, k it (List.mem_cons_of_mem _ List.mem_cons_self) o ho, r⟩, hne⟩
  item := by
    intro X hP hw hK hc i pins s σ H E I hf st hg
    subst hP hw hK
    obtain ⟨⟨old, he⟩, hit, hne⟩ := st
    have hel : e < s.heap.objs.size := Heap.lt_size he
    have hil : it < s.heap.objs.size := by obtain ⟨_, q, _⟩ := hit; exact Heap.lt_size q
    have hef : e ∉ [it] := fun z => hne (List.mem_singleton.mp z)
    refine wpAny_pyNext_enum_itemD (fp := [it]) (Draws.text (A := X.A.in1) (prog := X.prog) (w := X.w) (I.ok.hd hc) it x t) he hit hg hne hef fun v h' tk hv ho hit' hT hsz hk => ?_
    obtain ⟨c, u, hcx, rfl⟩ := hv
    refine ⟨_, rfl, wpAny_letOwnedTupleGo_enum (s := { s with heap := h', toks := tk + 1 }) ho fun h'' he' sb => ?_⟩
    have hT2 : h''.get? s.heap.objs.size = some { cls := .type "tuple", data := .seq #[.int i tk, .str ⟨#[c]⟩ u] } := (sb.2 _ (Nat.ne_of_gt hel)).trans hT
    have new : ObjOk X.prog X.w (upd H s.heap.objs.size (.tup [.int (i : Nat), .str ⟨#[c]⟩])) h'' s.heap.objs.size (.tup [.int (i : Nat), .str ⟨#[c]⟩]) := by
      refine ⟨by show 2 ≤ sizeLine; decide, [.int i tk, .str ⟨#[c]⟩ u], .cons ⟨_, rfl⟩ (.cons ⟨_, rfl⟩ .nil), ?_⟩
      exact ⟨_, hT2, rfl, _, rfl⟩
    have same : ∀ b ob, b ∉ [e, it] → s.heap.get? b = some ob → h''.get? b = some ob := by
      intro b ob hb q
      have n1 : b ≠ e := fun z => hb (by rw [z]; exact List.mem_cons_self)
      have n2 : b ≠ it := fun z => hb (by rw [z]; exact List.mem_cons_of_mem _ List.mem_cons_self)
      exact (sb.2 b n1).trans (hk b ob n1 n2 q)
    have I1 : Inv X pins σ (upd H s.heap.objs.size (.tup [.int (i : Nat), .str ⟨#[c]⟩])) { s with heap := h'', toks := tk + 1 } := I.turnedNew (ch := [e, it]) same hf (Nat.le_refl _) new
    refine ⟨.ref s.heap.objs.size, _, I1, rfl, ⟨_, c, rfl, I.hok.fresh (Nat.le_refl _), rfl, hcx⟩, ⟨⟨.str ⟨#[c]⟩ u, ?_⟩, ?_, hne⟩, fun b hb => ?_⟩
    · have e1 : ((i + 1 : Nat) : Int) = (i : Int) + 1 := by omega
      rw [e1]
      exact he'
    · obtain ⟨o, q, r⟩ := hit'
      exact ⟨o, (sb.2 it (Ne.symm hne)).trans q, r⟩
    · have hb' : b < s.heap.objs.size := by
        rcases List.mem_cons.mp hb with z | z
        · rw [z]; exact hel
        · rw [List.mem_singleton.mp z]; exact hil
      rw [upd_ne (Nat.ne_of_lt hb')]
      exact (hf b hb).1
  done := by
    intro X hP hw hK hc i pins s σ H E I hf st hg
    subst hP hw hK
    obtain ⟨⟨old, he⟩, hit, hne⟩ := st
    obtain ⟨f0, f1, f2, f3, f4, f5⟩ := hf it (List.mem_cons_of_mem _ List.mem_cons_self)
    have hi : i = x.cps.size := hg
    subst hi
    exact wpAny_pyNext_enum_endD (fp := [it]) (Draws.text (A := X.A.in1) (prog := X.prog) (w := X.w) (I.ok.hd hc) it x t) he hit fun h' eb => ⟨rfl, I.turned (t' := s.toks) (fun b o hb q => eb b o hb q) f0 f1 f3 f4 f5⟩
  self := fun A i s Q E st h => by
    obtain ⟨⟨_, he⟩, _⟩ := st
    exact wpAny_pyIter_enum he h
def iEnumS (ta : TA) : TI := fun σ H R => ta σ H fun vs H1 => ∃ x, vs = [.str x] ∧ R (ItEs x) H1
theorem pi_enumS {X : Cx} {e : Expr} {ta : TA} {p pos tpos : Pos} {elts : List Expr} {kk : Nat} (hg : Gl X "enumerate") (hm : X.mg "enumerate" = none) (ha : PA X [e] ta)
    (hst : starEach [e] X.env = [(false, eval e X.env)] := by rfl) : PI X (.Tuple elts kk tpos) (.Call (.Name "enumerate" p) [e] [] pos) (iEnumS ta) := by
  refine ⟨fun pins s σ H R I h => ?_⟩
  refine Call_ (ld_blt I hg hm boot_enumerate (PyProof.Rows.callWith_type1 (thn (ha.run pos pins s σ H _ I h) fun us s1 ⟨vs, H1, I1, r1, q1⟩ => ?_) hst rfl))
  obtain ⟨x, ex, q⟩ := q1
  subst ex
  cases r1 with
  | cons r rr =>
    cases rr
    obtain ⟨t, rfl⟩ := r
    refine call_enumerate_str fun h' he hit hsz hk => wpAny_pyIter_enum he ?_
    have J : Inv X pins σ H1 { s1 with heap := h' } := I1.kept (t' := s1.toks) hk
    refine ⟨s1.heap.objs.size + 1, [s1.heap.objs.size + 1, s1.heap.objs.size], _, _, H1, rfl, J, turn_enumS x t (s1.heap.objs.size + 1) s1.heap.objs.size, ⟨⟨.none, he⟩, hit, Nat.succ_ne_self _⟩, fun b hb => ?_, q⟩
    have hle : s1.heap.objs.size ≤ b := by
      rcases List.mem_cons.mp hb with z | z
      · rw [z]; exact Nat.le_succ _
      · rw [List.mem_singleton.mp z]; exact Nat.le_refl _
    exact I1.fpOk hle (I1.hok.fresh hle)
theorem walk_enumS {x : Str} : Walk (ItEs x) x.cps.size (fun _ => True) (fun i H v H' => ∃ (T : Addr) (c : Nat), v = .ref T ∧ H T = none ∧ H' = upd H T (.tup [.int (i : Nat), .str ⟨#[c]⟩]) ∧ x.cps[i]? = some c) :=
  ⟨fun _ _ hi _ => hi, fun _ _ => rfl, fun _ _ _ _ _ _ y => y⟩
end Sw
/-! What lies on a cell; a stone laid; a board turned over; the empty cells. Plain lists. -/
namespace Sw
def cel (B : Bd) (p : Cell) : Nat := if 0 ≤ p.1 ∧ 0 ≤ p.2 then (((B[p.1.toNat]?).getD [])[p.2.toNat]?).getD 0 else 0
def Ins (h w : Nat) (p : Cell) : Prop := 0 ≤ p.1 ∧ p.1 < (h : Int) ∧ 0 ≤ p.2 ∧ p.2 < (w : Int)
instance (h w : Nat) (p : Cell) : Decidable (Ins h w p) := inferInstanceAs (Decidable (_ ∧ _))
theorem cel_row {B : Bd} {p : Cell} {r : List Nat} (h0 : 0 ≤ p.1) (h1 : 0 ≤ p.2) (hr : B[p.1.toNat]? = some r) : cel B p = (r[p.2.toNat]?).getD 0 := by
  unfold cel
  rw [if_pos ⟨h0, h1⟩, hr]
  rfl
/-- on the board -/
theorem IsB.at {B : Bd} {h w : Nat} (I : IsB B h w) {p : Cell} (hp : Ins h w p) : ∃ r, B[p.1.toNat]? = some r ∧ r ∈ B ∧ r.length = w ∧ r[p.2.toNat]? = some (cel B p) ∧ (cel B p = 110 ∨ cel B p = 119 ∨ cel B p = 46) := by
  obtain ⟨a, b, c, d⟩ := hp
  obtain ⟨r, er, lr⟩ := I.row (i := p.1.toNat) (by omega)
  have hl : p.2.toNat < r.length := by omega
  have mr : r ∈ B := List.mem_of_getElem? er
  have e : cel B p = r[p.2.toNat] := by
    rw [cel_row a c er, List.getElem?_eq_getElem hl]
    rfl
  refine ⟨r, er, mr, lr, ?_, ?_⟩
  · rw [e, List.getElem?_eq_getElem hl]
  · rw [e]
    exact I.ok r mr _ (List.getElem_mem hl)
/-- off the board nothing lies -/
theorem IsB.off {B : Bd} {h w : Nat} (I : IsB B h w) {p : Cell} (hp : ¬ Ins h w p) : cel B p = 0 := by
  unfold cel
  by_cases h0 : 0 ≤ p.1 ∧ 0 ≤ p.2
  · rw [if_pos h0]
    cases e : B[p.1.toNat]? with
    | none => rfl
    | some r =>
      have lr := I.ww r (List.mem_of_getElem? e)
      have h1 : p.1.toNat < B.length := (List.getElem?_eq_some_iff.mp e).1
      rw [I.hh] at h1
      show (r[p.2.toNat]?).getD 0 = 0
      rw [List.getElem?_eq_none (by
        rw [lr]
        unfold Ins at hp
        omega)]
      rfl
  · rw [if_neg h0]
theorem IsB.sup {B : Bd} {h w : Nat} (I : IsB B h w) : Sup (cel B) h w := fun p hp => by
  by_cases e : Ins h w p
  · exact ⟨e.1, e.2.1, e.2.2.1, e.2.2.2⟩
  · exact absurd (I.off e) hp
theorem IsB.ins {B : Bd} {h w : Nat} (I : IsB B h w) {p : Cell} (hp : cel B p ≠ 0) : Ins h w p := by
  by_cases e : Ins h w p
  · exact e
  · exact absurd (I.off e) hp

/-! ### a stone laid -/
def putB (B : Bd) (p : Cell) (x : Nat) : Bd := B.set p.1.toNat (((B[p.1.toNat]?).getD []).set p.2.toNat x)
theorem set_take_drop {α : Type} (l : List α) (i : Nat) (x : α) (h : i < l.length) : l.take i ++ [x] ++ l.drop (i + 1) = l.set i x := by
  rw [List.set_eq_take_append_cons_drop, if_pos h, List.append_assoc]
  rfl
theorem putB_eq {B : Bd} {p : Cell} {r : List Nat} {x : Nat} (hr : B[p.1.toNat]? = some r) : putB B p x = B.set p.1.toNat (r.set p.2.toNat x) := by
  unfold putB
  rw [hr]
  rfl
theorem putB_is {B : Bd} {h w : Nat} (I : IsB B h w) (p : Cell) {x : Nat} (hx : x = 110 ∨ x = 119 ∨ x = 46) : IsB (putB B p x) h w := by
  refine ⟨?_, fun r hr => ?_, fun r hr c hc => ?_, I.h1, I.h9, I.w1, I.w9⟩
  · unfold putB
    rw [List.length_set, I.hh]
  · rcases List.mem_or_eq_of_mem_set hr with hr | rfl
    · exact I.ww r hr
    · rw [List.length_set]
      cases e : B[p.1.toNat]? with
      | none =>
        have hl : B.length ≤ p.1.toNat := List.getElem?_eq_none_iff.mp e
        unfold putB at hr
        rw [List.set_eq_of_length_le hl, e] at hr
        have := I.ww _ hr
        rw [List.length_set] at this
        exact this
      | some r => exact I.ww r (List.mem_of_getElem? e)
  · rcases List.mem_or_eq_of_mem_set hr with hr | rfl
    · exact I.ok r hr c hc
    · rcases List.mem_or_eq_of_mem_set hc with hc | rfl
      · cases e : B[p.1.toNat]? with
        | none => rw [e] at hc; cases hc
        | some r => rw [e] at hc; exact I.ok r (List.mem_of_getElem? e) c hc
      · exact hx
theorem cel_put {B : Bd} {h w : Nat} (I : IsB B h w) {p : Cell} (hp : Ins h w p) (x : Nat) (q : Cell) : cel (putB B p x) q = if q = p then x else cel B q := by
  obtain ⟨r, er, mr, lr, el, _⟩ := I.at hp
  obtain ⟨a, b, c, d⟩ := hp
  have hl : p.1.toNat < B.length := by rw [I.hh]; omega
  rw [putB_eq er]
  unfold cel
  by_cases e0 : 0 ≤ q.1 ∧ 0 ≤ q.2
  · rw [if_pos e0, if_pos e0, List.getElem?_set]
    by_cases e1 : p.1.toNat = q.1.toNat
    · rw [if_pos e1, if_pos hl]
      show ((r.set p.2.toNat x)[q.2.toNat]?).getD 0 = _
      rw [List.getElem?_set]
      by_cases e2 : p.2.toNat = q.2.toNat
      · rw [if_pos e2, if_pos (by omega), if_pos (Prod.ext (by omega) (by omega))]
        rfl
      · rw [if_neg e2, if_neg (fun z => e2 (by rw [z])), ← e1, er]
        rfl
    · rw [if_neg e1, if_neg (fun z => e1 (by rw [z]))]
  · rw [if_neg e0, if_neg e0, if_neg (fun z => e0 (by rw [z]; exact ⟨a, c⟩))]

/-! ### turned over -/
def oth (c : Nat) : Nat := if c = 110 then 119 else if c = 119 then 110 else c
theorem oth_ok {c : Nat} (h : c = 110 ∨ c = 119 ∨ c = 46) : oth c = 110 ∨ oth c = 119 ∨ oth c = 46 := by
  rcases h with rfl | rfl | rfl <;> decide
theorem oth_oth {c : Nat} (h : c = 110 ∨ c = 119 ∨ c = 46) : oth (oth c) = c := by
  rcases h with rfl | rfl | rfl <;> decide
def tcol (B : Bd) (c : Nat) : List Nat := B.map fun r => oth (r.getD c 0)
def tov (B : Bd) (w : Nat) : Bd := (List.range w).map (tcol B)
theorem tcol_ok {B : Bd} {h w : Nat} (I : IsB B h w) {c : Nat} (hc : c < w) : ∀ x ∈ tcol B c, x = 110 ∨ x = 119 ∨ x = 46 := by
  intro x hx
  obtain ⟨r, hr, rfl⟩ := List.mem_map.mp hx
  have hl : c < r.length := by rw [I.ww r hr]; exact hc
  rw [List.getD_eq_getElem?_getD, List.getElem?_eq_getElem hl]
  exact oth_ok (I.ok r hr _ (List.getElem_mem hl))
theorem tov_is {B : Bd} {h w : Nat} (I : IsB B h w) : IsB (tov B w) w h := by
  refine ⟨by unfold tov; rw [List.length_map, List.length_range], fun r hr => ?_, fun r hr c hc => ?_, I.w1, I.w9, I.h1, I.h9⟩
  · obtain ⟨c, _, rfl⟩ := List.mem_map.mp hr
    unfold tcol
    rw [List.length_map, I.hh]
  · obtain ⟨k, hk, rfl⟩ := List.mem_map.mp hr
    exact tcol_ok I (List.mem_range.mp hk) c hc
theorem tov_get {B : Bd} {w c : Nat} (hc : c < w) : (tov B w)[c]? = some (tcol B c) := by
  unfold tov
  rw [List.getElem?_map, List.getElem?_range hc]
  rfl
theorem cel_tov {B : Bd} {h w : Nat} (I : IsB B h w) {p : Cell} (hp : Ins h w p) : cel (tov B w) (p.2, p.1) = oth (cel B p) := by
  obtain ⟨r, er, mr, lr, el, _⟩ := I.at hp
  obtain ⟨a, b, c, d⟩ := hp
  rw [cel_row (r := tcol B p.2.toNat) (p := (p.2, p.1)) c a (tov_get (by omega))]
  show ((tcol B p.2.toNat)[p.1.toNat]?).getD 0 = _
  unfold tcol
  rw [List.getElem?_map, er]
  show oth (r.getD p.2.toNat 0) = _
  rw [List.getD_eq_getElem?_getD, el]
  rfl

/-! ### the empty cells, by rows -/
def rowE (y : Nat) (r : List Nat) : List Cell := ((List.range r.length).filter fun c => decide (r.getD c 0 = 46)).map fun c : Nat => ((y : Int), (c : Int))
def rowEt (y : Nat) (r : List Nat) (j : Nat) : List Cell := ((List.range j).filter fun c => decide (r.getD c 0 = 46)).map fun c : Nat => ((y : Int), (c : Int))
theorem rowEt_yes {y : Nat} {r : List Nat} {j : Nat} (h : r.getD j 0 = 46) : rowEt y r (j + 1) = rowEt y r j ++ [((y : Int), (j : Int))] := by
  unfold rowEt
  rw [List.range_succ, List.filter_append, List.filter_cons, if_pos (decide_eq_true h), List.map_append]
  rfl
theorem rowEt_no {y : Nat} {r : List Nat} {j : Nat} (h : ¬ r.getD j 0 = 46) : rowEt y r (j + 1) = rowEt y r j := by
  unfold rowEt
  rw [List.range_succ, List.filter_append, List.filter_cons, if_neg (fun z => h (of_decide_eq_true z))]
  show ((_ ++ []).map _) = _
  rw [List.append_nil]
theorem rowEt_len (y : Nat) (r : List Nat) (j : Nat) : (rowEt y r j).length ≤ j := by
  unfold rowEt
  rw [List.length_map]
  have := List.length_filter_le (fun c => decide (r.getD c 0 = 46)) (List.range j)
  rw [List.length_range] at this
  exact this
def emptyTo (B : Bd) (n : Nat) : List Cell := (List.range n).flatMap fun y => rowE y (B.getD y [])
def emptyL (B : Bd) : List Cell := emptyTo B B.length
theorem emptyTo_succ (B : Bd) (n : Nat) : emptyTo B (n + 1) = emptyTo B n ++ rowE n (B.getD n []) := by
  unfold emptyTo
  rw [List.range_succ, List.flatMap_append]
  show _ ++ (rowE n (B.getD n []) ++ []) = _
  rw [List.append_nil]
theorem rowE_len (y : Nat) (r : List Nat) : (rowE y r).length ≤ r.length := by
  unfold rowE
  rw [List.length_map]
  have := List.length_filter_le (fun c => decide (r.getD c 0 = 46)) (List.range r.length)
  rw [List.length_range] at this
  exact this
theorem emptyTo_len {B : Bd} {h w : Nat} (I : IsB B h w) : ∀ n, n ≤ h → (emptyTo B n).length ≤ n * w
  | 0, _ => by
    show 0 ≤ _
    omega
  | n + 1, hn => by
    have ih := emptyTo_len I n (by omega)
    rw [emptyTo_succ, List.length_append]
    obtain ⟨r, er, lr⟩ := I.row (i := n) (by omega)
    have e : B.getD n [] = r := by rw [List.getD_eq_getElem?_getD, er]; rfl
    have := rowE_len n r
    rw [e, Nat.add_mul]
    omega
theorem mem_rowE {y : Nat} {r : List Nat} {p : Cell} : p ∈ rowE y r ↔ p.1 = (y : Int) ∧ 0 ≤ p.2 ∧ r[p.2.toNat]? = some 46 := by
  unfold rowE
  rw [List.mem_map]
  constructor
  · rintro ⟨c, hc, rfl⟩
    rw [List.mem_filter, List.mem_range, decide_eq_true_eq] at hc
    refine ⟨rfl, by show (0 : Int) ≤ (c : Int); omega, ?_⟩
    show r[((c : Nat) : Int).toNat]? = some 46
    rw [Int.toNat_natCast]
    have h2 := hc.2
    rw [List.getD_eq_getElem?_getD, List.getElem?_eq_getElem hc.1] at h2
    rw [List.getElem?_eq_getElem hc.1]
    exact congrArg some h2
  · rintro ⟨a, b, c⟩
    have hl : p.2.toNat < r.length := (List.getElem?_eq_some_iff.mp c).1
    refine ⟨p.2.toNat, ?_, Prod.ext (by show (y : Int) = p.1; omega) (by show ((p.2.toNat : Nat) : Int) = p.2; omega)⟩
    rw [List.mem_filter, List.mem_range, decide_eq_true_eq]
    refine ⟨hl, ?_⟩
    rw [List.getD_eq_getElem?_getD, c]
    rfl
theorem mem_emptyL {B : Bd} {p : Cell} : p ∈ emptyL B ↔ cel B p = 46 := by
  unfold emptyL emptyTo
  rw [List.mem_flatMap]
  constructor
  · rintro ⟨y, hy, hp⟩
    obtain ⟨a, b, c⟩ := mem_rowE.mp hp
    rw [List.mem_range] at hy
    have e : B[p.1.toNat]? = some (B.getD y []) := by
      rw [a, Int.toNat_natCast, List.getD_eq_getElem?_getD, List.getElem?_eq_getElem hy]
      rfl
    rw [cel_row (by omega) b e, c]
    rfl
  · intro h
    unfold cel at h
    by_cases e0 : 0 ≤ p.1 ∧ 0 ≤ p.2
    · rw [if_pos e0] at h
      cases e : B[p.1.toNat]? with
      | none => rw [e] at h; cases h
      | some r =>
        rw [e] at h
        have hl : p.1.toNat < B.length := (List.getElem?_eq_some_iff.mp e).1
        refine ⟨p.1.toNat, List.mem_range.mpr hl, mem_rowE.mpr ⟨by omega, e0.2, ?_⟩⟩
        rw [List.getD_eq_getElem?_getD, e]
        have h' : (r[p.2.toNat]?).getD 0 = 46 := h
        show r[p.2.toNat]? = some 46
        cases e2 : r[p.2.toNat]? with
        | none => rw [e2] at h'; cases h'
        | some c => rw [e2] at h'; exact congrArg some h'
    · rw [if_neg e0] at h
      cases h
end Sw
namespace Sw
open PySem PySem.Spec PyProof.Rows L2
/-! ### the text by places -/
def top (i : Nat) : Stmt := PySem.Challenge.pw_shoreways_k03_signs_and_stones.main.body.getD i (.Pass ⟨0, 0, 0, 0⟩)
abbrev s_board_right : Stmt := top 6
abbrev N_board_right : List Str := ["rows", "row", "letter"]
theorem sc_board_right : FnScope N_board_right ["rows"] (defScope s_board_right) := ⟨rfl, rfl, rfl, by decide +kernel, rfl, by decide +kernel, by decide +kernel⟩
abbrev s_Board___init__ : Stmt := inClass (top 7) 0
abbrev N_Board___init__ : List Str := ["self", "rows"]
theorem sc_Board___init__ : FnScope N_Board___init__ ["self", "rows"] (defScope s_Board___init__) := ⟨rfl, rfl, rfl, by decide +kernel, rfl, by decide +kernel, by decide +kernel⟩
abbrev s_Board_has : Stmt := inClass (top 7) 1
abbrev N_Board_has : List Str := ["self", "r", "c"]
theorem sc_Board_has : FnScope N_Board_has ["self", "r", "c"] (defScope s_Board_has) := ⟨rfl, rfl, rfl, by decide +kernel, rfl, by decide +kernel, by decide +kernel⟩
abbrev s_sign : Stmt := top 8
abbrev N_sign : List Str := ["board", "r", "c"]
theorem sc_sign : FnScope N_sign ["board", "r", "c"] (defScope s_sign) := ⟨rfl, rfl, rfl, by decide +kernel, rfl, by decide +kernel, by decide +kernel⟩
abbrev s_laid : Stmt := top 9
abbrev N_laid : List Str := ["board", "r", "c", "hand", "rows"]
theorem sc_laid : FnScope N_laid ["board", "r", "c", "hand"] (defScope s_laid) := ⟨rfl, rfl, rfl, by decide +kernel, rfl, by decide +kernel, by decide +kernel⟩
abbrev s_other : Stmt := top 10
abbrev N_other : List Str := ["letter"]
theorem sc_other : FnScope N_other ["letter"] (defScope s_other) := ⟨rfl, rfl, rfl, by decide +kernel, rfl, by decide +kernel, by decide +kernel⟩
abbrev s_turned_over : Stmt := top 11
abbrev N_turned_over : List Str := ["board", "rows", "c", "row"]
theorem sc_turned_over : FnScope N_turned_over ["board"] (defScope s_turned_over) := ⟨rfl, rfl, rfl, by decide +kernel, rfl, by decide +kernel, by decide +kernel⟩
abbrev s_empty : Stmt := top 12
abbrev N_empty : List Str := ["board", "found", "r", "row", "c", "letter"]
theorem sc_empty : FnScope N_empty ["board"] (defScope s_empty) := ⟨rfl, rfl, rfl, by decide +kernel, rfl, by decide +kernel, by decide +kernel⟩
abbrev s__law_cell_at : Stmt := top 14
abbrev N__law_cell_at : List Str := ["script", "k"]
theorem sc__law_cell_at : FnScope N__law_cell_at ["script", "k"] (defScope s__law_cell_at) := ⟨rfl, rfl, rfl, by decide +kernel, rfl, by decide +kernel, by decide +kernel⟩
abbrev s__law_mix : Stmt := top 15
abbrev N__law_mix : List Str := ["cell", "k", "many", "some", "number"]
theorem sc__law_mix : FnScope N__law_mix ["cell", "k", "many"] (defScope s__law_mix) := ⟨rfl, rfl, rfl, by decide +kernel, rfl, by decide +kernel, by decide +kernel⟩
abbrev s__law_whole : Stmt := top 16
abbrev N__law_whole : List Str := ["found"]
theorem sc__law_whole : FnScope N__law_whole ["found"] (defScope s__law_whole) := ⟨rfl, rfl, rfl, by decide +kernel, rfl, by decide +kernel, by decide +kernel⟩
abbrev s__law_rows_by : Stmt := top 17
abbrev N__law_rows_by : List Str := ["script", "height", "width", "full", "rows", "r", "cell", "row", "c", "kind"]
theorem sc__law_rows_by : FnScope N__law_rows_by ["script", "height", "width", "full"] (defScope s__law_rows_by) := ⟨rfl, rfl, rfl, by decide +kernel, rfl, by decide +kernel, by decide +kernel⟩
abbrev s__law_size_by : Stmt := top 18
abbrev N__law_size_by : List Str := ["script", "most"]
theorem sc__law_size_by : FnScope N__law_size_by ["script", "most"] (defScope s__law_size_by) := ⟨rfl, rfl, rfl, by decide +kernel, rfl, by decide +kernel, by decide +kernel⟩
abbrev s__law_places : Stmt := top 20
abbrev N__law_places : List Str := ["found", "many", "place"]
theorem sc__law_places : FnScope N__law_places ["found", "many"] (defScope s__law_places) := ⟨rfl, rfl, rfl, by decide +kernel, rfl, by decide +kernel, by decide +kernel⟩
abbrev s__law_met : Stmt := top 21
abbrev N__law_met : List Str := ["board", "r", "c", "hand", "e"]
theorem sc__law_met : FnScope N__law_met ["board", "r", "c", "hand"] (defScope s__law_met) := ⟨rfl, rfl, rfl, by decide +kernel, rfl, by decide +kernel, by decide +kernel⟩
abbrev s__law_over : Stmt := top 22
abbrev N__law_over : List Str := ["rows", "made", "c", "row"]
theorem sc__law_over : FnScope N__law_over ["rows"] (defScope s__law_over) := ⟨rfl, rfl, rfl, by decide +kernel, rfl, by decide +kernel, by decide +kernel⟩
abbrev s_law : Stmt := top 23
abbrev N_law : List Str := ["script", "rows", "board", "hand", "told", "made", "free", "y", "found", "over", "height", "width", "r", "c", "line", "due", "x"]
theorem sc_law : FnScope N_law ["script"] (defScope s_law) := ⟨rfl, rfl, rfl, by decide +kernel, rfl, by decide +kernel, by decide +kernel⟩
/-- what the top has laid -/
structure Top (K : PySem.W.Frag) (mg : Str → Option Value) where
  a_board_right : Addr
  d_board_right : FuncData
  F_board_right : Fun K "board_right" "board_right" s_board_right a_board_right d_board_right
  B_board_right : Binds K d_board_right ["rows"] []
  m_board_right : mg "board_right" = some (.ref a_board_right)
  a_Board___init__ : Addr
  d_Board___init__ : FuncData
  F_Board___init__ : Fun K "__init__" "Board.__init__" s_Board___init__ a_Board___init__ d_Board___init__
  B_Board___init__ : Binds K d_Board___init__ ["self", "rows"] []
  a_Board_has : Addr
  d_Board_has : FuncData
  F_Board_has : Fun K "has" "Board.has" s_Board_has a_Board_has d_Board_has
  B_Board_has : Binds K d_Board_has ["self", "r", "c"] []
  a_sign : Addr
  d_sign : FuncData
  F_sign : Fun K "sign" "sign" s_sign a_sign d_sign
  B_sign : Binds K d_sign ["board", "r", "c"] []
  m_sign : mg "sign" = some (.ref a_sign)
  a_laid : Addr
  d_laid : FuncData
  F_laid : Fun K "laid" "laid" s_laid a_laid d_laid
  B_laid : Binds K d_laid ["board", "r", "c", "hand"] []
  m_laid : mg "laid" = some (.ref a_laid)
  a_other : Addr
  d_other : FuncData
  F_other : Fun K "other" "other" s_other a_other d_other
  B_other : Binds K d_other ["letter"] []
  m_other : mg "other" = some (.ref a_other)
  a_turned_over : Addr
  d_turned_over : FuncData
  F_turned_over : Fun K "turned_over" "turned_over" s_turned_over a_turned_over d_turned_over
  B_turned_over : Binds K d_turned_over ["board"] []
  m_turned_over : mg "turned_over" = some (.ref a_turned_over)
  a_empty : Addr
  d_empty : FuncData
  F_empty : Fun K "empty" "empty" s_empty a_empty d_empty
  B_empty : Binds K d_empty ["board"] []
  m_empty : mg "empty" = some (.ref a_empty)
  a__law_cell_at : Addr
  d__law_cell_at : FuncData
  F__law_cell_at : Fun K "_law_cell_at" "_law_cell_at" s__law_cell_at a__law_cell_at d__law_cell_at
  B__law_cell_at : Binds K d__law_cell_at ["script", "k"] []
  m__law_cell_at : mg "_law_cell_at" = some (.ref a__law_cell_at)
  a__law_mix : Addr
  d__law_mix : FuncData
  F__law_mix : Fun K "_law_mix" "_law_mix" s__law_mix a__law_mix d__law_mix
  B__law_mix : Binds K d__law_mix ["cell", "k", "many"] []
  m__law_mix : mg "_law_mix" = some (.ref a__law_mix)
  a__law_whole : Addr
  d__law_whole : FuncData
  F__law_whole : Fun K "_law_whole" "_law_whole" s__law_whole a__law_whole d__law_whole
  B__law_whole : Binds K d__law_whole ["found"] []
  m__law_whole : mg "_law_whole" = some (.ref a__law_whole)
  a__law_rows_by : Addr
  d__law_rows_by : FuncData
  F__law_rows_by : Fun K "_law_rows_by" "_law_rows_by" s__law_rows_by a__law_rows_by d__law_rows_by
  B__law_rows_by : Binds K d__law_rows_by ["script", "height", "width", "full"] []
  m__law_rows_by : mg "_law_rows_by" = some (.ref a__law_rows_by)
  a__law_size_by : Addr
  d__law_size_by : FuncData
  F__law_size_by : Fun K "_law_size_by" "_law_size_by" s__law_size_by a__law_size_by d__law_size_by
  B__law_size_by : Binds K d__law_size_by ["script", "most"] []
  m__law_size_by : mg "_law_size_by" = some (.ref a__law_size_by)
  a__law_places : Addr
  d__law_places : FuncData
  F__law_places : Fun K "_law_places" "_law_places" s__law_places a__law_places d__law_places
  B__law_places : Binds K d__law_places ["found", "many"] []
  m__law_places : mg "_law_places" = some (.ref a__law_places)
  a__law_met : Addr
  d__law_met : FuncData
  F__law_met : Fun K "_law_met" "_law_met" s__law_met a__law_met d__law_met
  B__law_met : Binds K d__law_met ["board", "r", "c", "hand"] []
  m__law_met : mg "_law_met" = some (.ref a__law_met)
  a__law_over : Addr
  d__law_over : FuncData
  F__law_over : Fun K "_law_over" "_law_over" s__law_over a__law_over d__law_over
  B__law_over : Binds K d__law_over ["rows"] []
  m__law_over : mg "_law_over" = some (.ref a__law_over)
  a_law : Addr
  d_law : FuncData
  F_law : Fun K "law" "law" s_law a_law d_law
  B_law : Binds K d_law ["script"] []
  m_law : mg "law" = some (.ref a_law)
  C_Board : Addr
  cl_Board : Cls K C_Board
  mC_Board : mg "Board" = some (.ref C_Board)
  Mk_Board : Mk K C_Board a_Board___init__
  n_Board_rows : NoAttr K C_Board "rows"
  n_Board_height : NoAttr K C_Board "height"
  n_Board_width : NoAttr K C_Board "width"
  M_Board_has : Meth K C_Board "has" a_Board_has
  iA_Board : PySem.W.findIn K (.ref C_Board) "__class__" = some (some (.builtin "object.__class__"))
  iS_Board : PySem.W.specialIn K (.builtin "object.__class__") "__get__" = some (some (.builtin "getset_descriptor.__get__"))
  iT_Board : PySem.W.takesIn K (.builtin "object.__class__") = some true
  iM_Board : PySem.W.mroIn K C_Board (.type "object") = some true
  C_ShoreError : Addr
  mC_ShoreError : mg "ShoreError" = some (.ref C_ShoreError)
  x_ShoreError : PySem.W.excIn K C_ShoreError [.type "ValueError", .type "Exception", .type "BaseException", .type "object"] "ValueError.__new__" = true
  k_ShoreError : PySem.W.keepIn K (.ref C_ShoreError) = true
  b_ShoreError : PySem.W.subIn K (.ref C_ShoreError) (.type "BaseException") = some true
  t_ShoreError : PySem.W.typeIn K (.ref C_ShoreError) = some (.type "type")
  i_ShoreError : PySem.W.isClsIn K C_ShoreError = true
  C_BadBoard : Addr
  mC_BadBoard : mg "BadBoard" = some (.ref C_BadBoard)
  x_BadBoard : PySem.W.excIn K C_BadBoard [.type "ValueError", .type "Exception", .type "BaseException", .type "object"] "ValueError.__new__" = true
  k_BadBoard : PySem.W.keepIn K (.ref C_BadBoard) = true
  b_BadBoard : PySem.W.subIn K (.ref C_BadBoard) (.type "BaseException") = some true
  t_BadBoard : PySem.W.typeIn K (.ref C_BadBoard) = some (.type "type")
  i_BadBoard : PySem.W.isClsIn K C_BadBoard = true
  C_NoCell : Addr
  mC_NoCell : mg "NoCell" = some (.ref C_NoCell)
  x_NoCell : PySem.W.excIn K C_NoCell [.type "ValueError", .type "Exception", .type "BaseException", .type "object"] "ValueError.__new__" = true
  k_NoCell : PySem.W.keepIn K (.ref C_NoCell) = true
  b_NoCell : PySem.W.subIn K (.ref C_NoCell) (.type "BaseException") = some true
  t_NoCell : PySem.W.typeIn K (.ref C_NoCell) = some (.type "type")
  i_NoCell : PySem.W.isClsIn K C_NoCell = true
  s_BadBoard_ShoreError : PySem.W.subIn K (.ref C_BadBoard) (.ref C_ShoreError) = some true
  s_BadBoard_NoCell : PySem.W.subIn K (.ref C_BadBoard) (.ref C_NoCell) = some false
  s_NoCell_ShoreError : PySem.W.subIn K (.ref C_NoCell) (.ref C_ShoreError) = some true
  s_NoCell_NoCell : PySem.W.subIn K (.ref C_NoCell) (.ref C_NoCell) = some true
  E_BadBoard : ExcC K C_BadBoard
  E_NoCell : ExcC K C_NoCell
  kit_BadBoard_ShoreError : PySem.W.kitOne K (.ref C_BadBoard) (.ref C_ShoreError) = some true
  kit_NoCell_ShoreError : PySem.W.kitOne K (.ref C_NoCell) (.ref C_ShoreError) = some true
  tk_MOST : Tok
  g_MOST : mg "MOST" = some (.int 9 tk_MOST)
  z_len : mg "len" = none
  z_all : mg "all" = none
  z_list : mg "list" = none
  z_range : mg "range" = none
  z_enumerate : mg "enumerate" = none
  z_isinstance : mg "isinstance" = none
  z_int : mg "int" = none
  z_bool : mg "bool" = none
  z_tuple : mg "tuple" = none
  z_str : mg "str" = none
end Sw
namespace Sw
open PySem PySem.Spec PyProof.Rows L2
section
variable {P : Program} {w : World} {K : PySem.W.Frag} {mg : Str → Option Value} {base : Heap}
/-! board_right, Board -/
def sp_board_right : Sp := fun vs H Q _ => ∃ (a : Addr) (B : Bd), vs = [.ref a] ∧ H a = some (.lst (rowsV B)) ∧ Small B ∧ ∀ H', Same H H' → Q (.bl (Good B)) H'
theorem head_at {B : Bd} (h : B ≠ []) : ∃ r, B[0]? = some r ∧ r.length = wid B ∧ r ∈ B := by
  cases B with
  | nil => exact absurd rfl h
  | cons r B => exact ⟨r, rfl, rfl, List.mem_cons_self⟩
theorem all_take {α : Type} {p : α → Bool} {l : List α} {i : Nat} {x : α} (h : (l.take i).all p = true) (hx : l[i]? = some x) (hp : p x = true) : (l.take (i + 1)).all p = true := by
  rw [List.take_add_one, hx, List.all_append, h]
  simp [hp]
theorem get_txt {l : List Nat} {i : Nat} {c : Nat} (h : (txt l).cps[i]? = some c) : l[i]? = some c := by
  have : l.toArray[i]? = some c := h
  rw [List.getElem?_toArray] at this
  exact this
theorem txt_size (l : List Nat) : (txt l).cps.size = l.length := by show l.toArray.size = l.length; exact List.size_toArray
theorem take_map_snoc {α β : Type} {f : α → β} {l : List α} {i : Nat} {x : α} (h : l[i]? = some x) : (l.take (i + 1)).map f = (l.take i).map f ++ [f x] := by
  rw [List.take_add_one, h, List.map_append]
  rfl
theorem len_take_lt {α β : Type} {f : α → β} {l : List α} {i n : Nat} (h : l.length ≤ n) : ((l.take i).map f).length ≤ n := by
  rw [List.length_map, List.length_take]
  omega
theorem ok_board_right (T : Top K mg) : FnOk P w K mg base CX0 1 T.a_board_right T.d_board_right ["rows"] sp_board_right := by
  refine T.F_board_right.ok sc_board_right (fun vs H Q E h => ?_) (fun cdv A outer s H vs Q E hr h => ?_)
  · obtain ⟨_, _, rfl, _⟩ := h
    rfl
  obtain ⟨a, B, rfl, ha, hB, q⟩ := h
  refine ⟨_, (pss_cons (ps_if (PW.pt (pw_or (pt_not (pt_chain op_le op_le pe_int (pe_callB call_len_seq (by rfl) T.z_len PySem.boot_len (pa_cons (pv 0) pa_nil)) (pe_glob (v := .int 9) rfl T.g_MOST ⟨_, rfl⟩))) (pw_or1 (pt_not (pt_chain op_le op_le pe_int (pe_callB call_len_str (by rfl) T.z_len PySem.boot_len (pa_cons (pe_ix ix_list (pv 0) pe_int (fun _ _ => rfl)) pa_nil)) (pe_glob (v := .int 9) rfl T.g_MOST ⟨_, rfl⟩))))))
      (pss_one (ps_ret pe_bl)) pss_nil)
      (pss_cons (ps_for PassesOwn.never rfl (pi_list (pv 0)) (pg_name (i := 1) sc_board_right.nd rfl (Or.inl rfl))
      (pss_one (ps_if (PW.pt (pw_or (pt_cmpR op_ne (pe_callB call_len_str (by rfl) T.z_len PySem.boot_len (pa_cons (pv 1) pa_nil)) (pe_callB call_len_str (by rfl) T.z_len PySem.boot_len (pa_cons (pe_ix ix_list (pv 0) pe_int (fun _ _ => rfl)) pa_nil)) (nomark _)) (pw_or1 (pt_not (pt_val (pe_callB (cr_all rfl) (by rfl) T.z_all (by decide +kernel) (pa_cons (pe_lc (own := [("letter", 2)]) (g := gName 2) (tt := tYes) rfl sc_board_right.nd (pi_str (pv 1)) (blkOk_by (own := [("letter", 2)]) (N := N_board_right) (sc := defScope s_board_right) (by decide +kernel)) (fun _ _ _ _ _ => (pg_name (i := 2) sc_board_right.nd rfl (Or.inl rfl))) (fun _ _ _ _ _ => pts_nil) (fun _ _ _ _ _ => (pe_cmpR op_in_sign (pv 2) pe_str rfl))) pa_nil)))))))
      (pss_one (ps_ret pe_bl)) pss_nil)))
      (pss_one (ps_ret pe_bl)))), ?_⟩
  have hl := rowsV_len B
  have no : ¬ (1 ≤ B.length ∧ B.length ≤ 9) → Good B = false := fun z => by
    unfold Good
    rw [decide_eq_false z]
    rfl
  -- 1 <= len(rows) <= 9
  refine ⟨_, rfl, a, _, rfl, .inl (SqL.of ha), _, _, rfl, rfl, _, rfl, ?_⟩
  refine iteD (fun c1 => ?_) (fun c1 => ?_)
  rotate_left
  · refine ⟨_, rfl, iteT ?_⟩
    have q' := q _ (.refl _)
    rw [no (by omega)] at q'
    exact q'
  refine ⟨_, _, rfl, rfl, _, rfl, ?_⟩
  refine iteN (fun c2 => ?_) (fun c2 => ?_)
  · have q' := q _ (.refl _)
    rw [no (by omega)] at q'
    exact q'
  -- 1 <= len(rows[0]) <= 9
  obtain ⟨r0, e0, l0, m0⟩ := head_at (B := B) (by intro z; have : B.length = 0 := (by rw [z]; rfl); omega)
  have s0 := hB.row _ m0
  have no2 : ¬ (1 ≤ wid B ∧ wid B ≤ 9) → Good B = false := fun z => by
    unfold Good
    rw [decide_eq_false z, Bool.false_and, Bool.and_false]
  have tl : (txt r0).length = wid B := by rw [txt_len, l0]
  refine ⟨_, rfl, a, _, _, _, rfl, rfl, SqL.of ha, atI_nat (j := 0) (rowsV_get e0), _, rfl, sz_le (by rw [txt_len]; omega), _, _, rfl, rfl, _, rfl, ?_⟩
  refine iteD (fun c3 => ?_) (fun c3 => ?_)
  rotate_left
  · refine ⟨_, rfl, iteT ?_⟩
    have q' := q _ (.refl _)
    rw [no2 (by omega)] at q'
    exact q'
  refine ⟨_, _, rfl, rfl, _, rfl, ?_⟩
  refine iteN (fun c4 => ?_) (fun c4 => ?_)
  · have q' := q _ (.refl _)
    rw [no2 (by omega)] at q'
    exact q'
  have yes : Good B = B.all (rowOk (wid B)) := by
    unfold Good
    rw [decide_eq_true (show 1 ≤ B.length ∧ B.length ≤ 9 by omega), decide_eq_true (show 1 ≤ wid B ∧ wid B ≤ 9 by omega), Bool.true_and, Bool.true_and]
  -- the rows
  refine ⟨_, rfl, a, rfl, ⟨_, SqL.of ha⟩, for_list (K := K) (a := a) (xs := rowsV B) (fun i σ H' => Same H H' ∧ (B.take i).all (rowOk (wid B)) = true ∧ ∃ v w, σ = [some (.ref a), v, w])
    ⟨.refl _, rfl, none, none, rfl⟩ (fun i σ H' _ ⟨e, _⟩ => SqL.of (e _ _ ha)) ?_ ?_⟩
  · rintro i x σ H1 hi ⟨s1, al, v, w, rfl⟩
    obtain ⟨r, er, rfl⟩ := rowsV_inv hi
    have mr : r ∈ B := List.mem_of_getElem? er
    have sr := hB.row _ mr
    have bad : rowOk (wid B) r = false → Good B = false := fun z => by
      rw [yes]
      rw [Bool.eq_false_iff]
      intro t
      rw [List.all_eq_true] at t
      rw [t r mr] at z
      cases z
    refine ⟨_, rfl, _, rfl, sz_le (by rw [txt_len]; omega), _, rfl, a, _, _, _, rfl, rfl, SqL.of (s1 _ _ ha), atI_nat (j := 0) (rowsV_get e0), _, rfl, sz_le (by rw [txt_len]; omega), rfl, _, rfl, ?_⟩
    refine iteN (fun c5 => ?_) (fun c5 => ?_)
    · refine iteT ?_
      have q' := q _ s1
      rw [bad (by
        unfold rowOk
        rw [decide_eq_false (fun z => c5 (by rw [txt_len, txt_len, z, l0])), Bool.false_and])] at q'
      exact q'
    have c5' : r.length = wid B := by
      have e : (((txt r).length : Nat) : Int) = (((txt r0).length : Nat) : Int) := V.int.inj c5
      rw [txt_len, txt_len] at e
      omega
    -- all([letter in 'nw.' for letter in row])
    refine ⟨_, rfl, _, rfl, fun D hD => lc_it walk_str (fun j H' => Same H1 H' ∧ H' D = some (.lst (((r.take j).map okc).map V.bl))) ⟨same_new hD _, upd_same⟩ (fun _ _ _ _ => trivial) (fun j x H2 H3 hj ⟨s2, h2⟩ ⟨e3, c, ec, ex⟩ => ?_) (fun H2 ⟨s2, h2⟩ => ?_)⟩
    · subst e3 ex
      have ec' := get_txt ec
      refine ⟨rfl, _, rfl, c, _, rfl, rfl, _, h2, sz_lt (by rw [List.length_map, List.length_map, List.length_take]; omega), same_mut s2 hD, ?_⟩
      have ek : decide (c ∈ (Str.ofString "nw.").cps.toList) = okc c := by
        rw [s_nwd]
        rfl
      rw [ek, upd_same, take_map_snoc ec', List.map_append]
      rfl
    · rw [txt_size, List.take_length] at h2
      refine ⟨_, _, rfl, SqL.of h2, _, rfl, ?_⟩
      have ea : (r.map okc).all id = r.all okc := by rw [List.all_map]; rfl
      rw [ea]
      refine iteNB (fun c6 => ?_) (fun c6 => ?_)
      · have q' := q _ (s1.trans s2)
        rw [bad (by
          unfold rowOk
          rw [c6, Bool.and_false])] at q'
        exact q'
      · refine ⟨s1.trans s2, all_take al er ?_, _, _, rfl⟩
        unfold rowOk
        rw [decide_eq_true c5', c6]
        rfl
  · rintro σ H1 ⟨s1, al, v, w, rfl⟩
    have q' := q _ s1
    rw [rowsV_len, List.take_length] at al
    rw [yes, al] at q'
    exact q'
/-- Board(rows): the rows are looked at, then kept in a new list -/
def sp_Board_init (C CB : Addr) : Sp := fun vs H Q E => ∃ (p dx a : Addr) (B : Bd), vs = [.ref p, .ref a] ∧ H p = some (.ins C dx []) ∧ H a = some (.lst (rowsV B)) ∧ Small B ∧
  (Good B = false → ∀ H', Same H H' → E (.ref CB) none H') ∧
  (Good B = true → ∀ (H' : Hp) (l : Addr), (∀ b o, H b = some o → b ≠ p → H' b = some o) → H l = none → BoardAt C H' p l B → Q .non H')
theorem ok_Board_init (T : Top K mg) : FnOk P w K mg base (L2.CX P w) 2 T.a_Board___init__ T.d_Board___init__ ["self", "rows"] (sp_Board_init T.C_Board T.C_BadBoard) := by
  refine T.F_Board___init__.okX sc_Board___init__ (fun vs H Q E h => ?_) (fun cdv A outer s H vs Q E hr h => ?_)
  · obtain ⟨_, _, _, _, rfl, _⟩ := h
    rfl
  obtain ⟨p, dx, a, B, rfl, hp, ha, hB, qb, qg⟩ := h
  refine ⟨_, (pss_cons (ps_if (pt_not (pt_val (pe_call (ok_board_right T) (hr.mono (by decide)) rfl T.m_board_right T.F_board_right.kp T.B_board_right .nil pass0 (pa_cons (pv 1) pa_nil))))
      (pss_one (ps_raise rfl (takes_of rfl rfl rfl rfl) (pmk_own PySem.F.excBase_ValueError T.x_BadBoard T.mC_BadBoard T.k_BadBoard (raises_own T.b_BadBoard T.t_BadBoard) rfl))) pss_nil)
      (pss_cons (ps_fld (pv 0) (pe_callTy call_list_of (by rfl) T.z_list (by decide +kernel) (pa_cons (pv 1) pa_nil)) rfl)
      (pss_cons (ps_fld (pv 0) (pe_callB call_len_seq (by rfl) T.z_len PySem.boot_len (pa_cons (pv 1) pa_nil)) rfl)
      (pss_one (ps_fld (pv 0) (pe_callB call_len_str (by rfl) T.z_len PySem.boot_len (pa_cons (pe_ix ix_list (pv 1) pe_int (fun _ _ => rfl)) pa_nil)) rfl))))), ?_⟩
  refine ⟨_, rfl, a, B, rfl, ha, hB, fun H1 s1 => ?_⟩
  refine ⟨_, rfl, iteNB (fun c => ?_) (fun c => ?_)⟩
  · exact qb c _ s1
  -- self.rows = list(rows)
  obtain ⟨r0, e0, l0, m0⟩ := head_at (B := B) (by
    have := (good_is c).h1
    intro z
    rw [z] at this
    exact absurd this (by decide))
  have hp1 := s1 _ _ hp
  have ha1 := s1 _ _ ha
  refine ⟨_, rfl, a, _, rfl, .inl (SqL.of ha1), fun l hl => ?_⟩
  have npl : p ≠ l := ne_of_none hp1 hl
  have nal : a ≠ l := ne_of_none ha1 hl
  have npa : a ≠ p := ne_of ha1 hp1 (by intro z; cases z)
  refine ⟨_, rfl, p, T.C_Board, dx, [], rfl, (by rw [upd_ne npl]; exact hp1), T.cl_Board, T.n_Board_rows, (by show 0 < 1000; decide), ?_⟩
  have ha2 : ∀ o, upd (upd H1 l (.lst (rowsV B))) p o a = some (.lst (rowsV B)) := fun o => by rw [upd_ne npa, upd_ne nal]; exact ha1
  have ha3 : ∀ o u, upd (upd (upd H1 l (.lst (rowsV B))) p o) p u a = some (.lst (rowsV B)) := fun o u => by rw [upd_ne npa]; exact ha2 o
  -- self.height = len(rows); self.width = len(rows[0])
  refine ⟨_, rfl, a, _, rfl, .inl (SqL.of (ha2 _)), _, rfl, p, T.C_Board, dx, _, rfl, upd_same, T.cl_Board, T.n_Board_height, (by show 1 < 1000; decide), ?_⟩
  refine ⟨_, rfl, a, _, _, _, rfl, rfl, SqL.of (ha3 _ _), atI_nat (j := 0) (rowsV_get e0), _, rfl, sz_le (by rw [txt_len]; have := hB.row _ m0; omega), _, rfl, p, T.C_Board, dx, _, rfl, upd_same, T.cl_Board, T.n_Board_width, ?_, ?_⟩
  · show List.length (putF "height" (.int ((rowsV B).length : Int)) [("rows", .ref l)]) < 1000
    rw [pt_p (by decide +kernel)]
    show 2 < 1000
    decide
  refine qg c _ l (fun b o hb nb => ?_) (s1.free hl) ⟨⟨dx, ?_⟩, ?_⟩
  · rw [upd_ne nb, upd_ne nb, upd_ne nb, upd_ne (ne_of_none (s1 _ _ hb) hl)]
    exact s1 _ _ hb
  · rw [upd_same]
    refine congrArg (fun z => some (HO.ins T.C_Board dx z)) ?_
    rw [rowsV_len, txt_len, l0]
    exact bfl_new l B.length (wid B)
  · rw [upd_ne npl.symm, upd_ne npl.symm, upd_ne npl.symm, upd_same]
/-- what follows of Board(..): the new board, all else as it was -/
theorem made_board {C p dx : Addr} {H H' : Hp} (hp : H p = none) (hd : H dx = none) (k : ∀ b o, upd (upd H dx (.own p)) p (.ins C dx []) b = some o → b ≠ p → H' b = some o) : Same H H' := fun b o e =>
  k b o (by rw [upd_ne (ne_of_none e hp), upd_ne (ne_of_none e hd)]; exact e) (ne_of_none e hp)
/-- Board(e) where e is worth a list of good rows -/
theorem make_board {C CB : Addr} {t : TA} {σ : L2.St} {H : Hp} {Q : VK} {B : Bd} {h w : Nat} (I : IsB B h w)
    (ht : ∀ R : List V → Hp → Prop, (∀ (n : Addr) (H1 : Hp), Same H H1 → H1 n = some (.lst (rowsV B)) → R [.ref n] H1) → t σ H R)
    (k : ∀ (o l : Addr) (H' : Hp), Same H H' → H o = none → H l = none → BoardAt C H' o l B → Q (.ref o) H') : tMake C (sp_Board_init C CB) [] E0 t σ H Q := by
  refine ht _ fun n H1 s1 hn o d no nd ndo => ?_
  have so := ((same_new nd (.own o)).trans (same_new (by rw [upd_ne (Ne.symm ndo)]; exact no) (.ins C d [])))
  refine ⟨o, d, n, _, rfl, upd_same, so _ _ hn, I.small, fun hb => ?_, fun _ H5 l5 k5 n5 b5 => ⟨rfl, ?_⟩⟩
  · rw [I.good] at hb
    cases hb
  · exact k o l5 H5 (s1.trans (made_board no nd k5)) (s1.free no) ((s1.trans so).free n5) b5
theorem q_make {C CB : Addr} {i : Nat} {t : TA} {tz : TS} {D : Ends} {σ : L2.St} {H : Hp} {B : Bd} {h w : Nat} (I : IsB B h w)
    (ht : ∀ R : List V → Hp → Prop, (∀ (n : Addr) (H1 : Hp), Same H H1 → H1 n = some (.lst (rowsV B)) → R [.ref n] H1) → t σ H R)
    (k : ∀ (o l : Addr) (H' : Hp), Same H H' → H o = none → H l = none → BoardAt C H' o l B → tz D (σ.set i (some (.ref o))) H') : tSeq (tAsg (tMake C (sp_Board_init C CB) [] E0 t) (gName i)) tz D σ H :=
  make_board (Q := fun v H1 => tz D (σ.set i (some v)) H1) I ht k
end
end Sw
namespace Sw
open PySem PySem.Spec PyProof.Rows L2
section
variable {P : Program} {w : World} {K : PySem.W.Frag} {mg : Str → Option Value} {base : Heap}
/-! has, sign, laid, other, turned_over, empty -/
theorem join_txt : ∀ l : List Nat, Txt.join (txt []) (l.map fun c => txt [c]) = txt l := by
  intro l
  show Builtin.Str.glued _ _ = _
  rw [PySem.StrLaws.glued_eq_join]
  induction l with
  | nil => rfl
  | cons a l ih =>
    cases l with
    | nil => rfl
    | cons b l =>
      rw [List.map_cons, List.map_cons]
      show txt [a] ++ txt [] ++ Str.join (txt []) (txt [b] :: l.map fun c => txt [c]) = _
      rw [← List.map_cons (f := fun c => txt [c]), ih, txt_app, txt_app]
      rfl
def sp_has (C : Addr) : Sp := fun vs H Q _ => ∃ (p l : Addr) (B : Bd) (h w : Nat) (r c : Int), vs = [.ref p, .int r, .int c] ∧ BoardAt C H p l B ∧ IsB B h w ∧ Q (.bl (decide (Ins h w (r, c)))) H
theorem ok_Board_has (T : Top K mg) : FnOk P w K mg base CX0 1 T.a_Board_has T.d_Board_has ["self", "r", "c"] (sp_has T.C_Board) := by
  refine T.F_Board_has.ok sc_Board_has (fun vs H Q E h => ?_) (fun cdv A outer s H vs Q E hr h => ?_)
  · obtain ⟨_, _, _, _, _, _, _, rfl, _⟩ := h
    rfl
  obtain ⟨p, l, B, h, w, r, c, rfl, ⟨⟨dx, hp⟩, hl⟩, I, q⟩ := h
  rw [I.hh, I.wid] at hp
  refine ⟨_, (pss_one (ps_ret (pe_and (pe_chain op_le op_lt pe_int (pv 1) (pe_fld (pv 0) rfl)) (pe_one (pe_chain op_le op_lt pe_int (pv 2) (pe_fld (pv 0) rfl)))))), ?_⟩
  have no : ¬ Ins h w (r, c) → Q (.bl false) H := fun z => by
    rw [decide_eq_false z] at q
    exact q
  refine ⟨_, rfl, _, _, rfl, rfl, _, rfl, ?_⟩
  refine iteD (fun c1 => ?_) (fun c1 => ⟨_, rfl, iteF (no fun z => c1 z.1)⟩)
  refine ⟨_, rfl, p, _, dx, _, _, rfl, hp, T.cl_Board, T.n_Board_height, bfl_height _ _ _, _, _, rfl, rfl, _, rfl, ?_⟩
  refine iteD (fun c2 => ?_) (fun c2 => no fun z => c2 z.2.1)
  refine ⟨_, rfl, _, _, rfl, rfl, _, rfl, ?_⟩
  refine iteD (fun c3 => ?_) (fun c3 => no fun z => c3 z.2.2.1)
  refine ⟨_, rfl, p, _, dx, _, _, rfl, hp, T.cl_Board, T.n_Board_width, bfl_width _ _ _, _, _, rfl, rfl, ?_⟩
  by_cases c4 : c < (w : Int)
  · rw [decide_eq_true (show Ins h w (r, c) from ⟨c1, c2, c3, c4⟩)] at q
    show Q (.bl (decide (c < (w : Int)))) H
    rw [decide_eq_true c4]
    exact q
  · show Q (.bl (decide (c < (w : Int)))) H
    rw [decide_eq_false c4]
    exact no fun z => c4 z.2.2.2
def sp_sign (C CN : Addr) : Sp := fun vs H Q E => ∃ (p l : Addr) (B : Bd) (h w : Nat) (r c : Int), vs = [.ref p, .int r, .int c] ∧ BoardAt C H p l B ∧ IsB B h w ∧
  (¬ Ins h w (r, c) → E (.ref CN) none H) ∧ (Ins h w (r, c) → Q (.str (txt [cel B (r, c)])) H)
theorem ok_sign (T : Top K mg) : FnOk P w K mg base (L2.CX P w) 2 T.a_sign T.d_sign ["board", "r", "c"] (sp_sign T.C_Board T.C_NoCell) := by
  refine T.F_sign.okX sc_sign (fun vs H Q E h => ?_) (fun cdv A outer s H vs Q E hr h => ?_)
  · obtain ⟨_, _, _, _, _, _, _, rfl, _⟩ := h
    rfl
  obtain ⟨p, l, B, h, w, r, c, rfl, bt, I, qe, qs⟩ := h
  refine ⟨_, (pss_cons (ps_if (pt_not (pt_val (pe_meth (pv 0) T.cl_Board T.M_Board_has (ok_Board_has T) (hr.mono (by decide)) T.B_Board_has .nil pass0 (pa_cons (pv 1) (pa_cons (pv 2) pa_nil)))))
      (pss_one (ps_raise rfl (takes_of rfl rfl rfl rfl) (pmk_own PySem.F.excBase_ValueError T.x_NoCell T.mC_NoCell T.k_NoCell (raises_own T.b_NoCell T.t_NoCell) rfl))) pss_nil)
      (pss_one (ps_ret (pe_ix ix_str (pe_ix ix_list (pe_fld (pv 0) rfl) (pv 1) (fun _ _ => rfl)) (pv 2) (fun _ _ => rfl))))), ?_⟩
  obtain ⟨⟨dx, hp⟩, hl⟩ := id bt
  refine ⟨_, rfl, p, dx, _, rfl, hp, bfl_has _ _ _, _, rfl, _, rfl, p, l, B, h, w, r, c, rfl, bt, I, _, rfl, ?_⟩
  refine iteN (fun z => qe z) (fun z => ?_)
  obtain ⟨row, er, _, _, ec, _⟩ := I.at z
  refine ⟨_, rfl, p, _, dx, _, _, rfl, hp, T.cl_Board, T.n_Board_rows, bfl_rows _ _ _, _, rfl, l, _, _, _, rfl, rfl, SqL.of hl, at_int z.1 (rowsV_get er), _, rfl, _, _, _, rfl, rfl, ?_, ?_, qs z⟩
  · rw [txt_len]
    have := I.small.row _ (List.mem_of_getElem? er)
    exact sz_le (by omega)
  · exact atI_cps z.2.2.1 ec
end
end Sw
namespace Sw
open PySem PySem.Spec PyProof.Rows L2
section
variable {P : Program} {w : World} {K : PySem.W.Frag} {mg : Str → Option Value} {base : Heap}
def sp_laid (C CN : Addr) : Sp := fun vs H Q E => ∃ (p l : Addr) (B : Bd) (h w : Nat) (r c : Int) (x : Nat), vs = [.ref p, .int r, .int c, .str (txt [x])] ∧ BoardAt C H p l B ∧ IsB B h w ∧ (x = 110 ∨ x = 119 ∨ x = 46) ∧
  (¬ Ins h w (r, c) → E (.ref CN) none H) ∧ (Ins h w (r, c) → ∀ (p' l' : Addr) (H' : Hp), Same H H' → H p' = none → BoardAt C H' p' l' (putB B (r, c) x) → Q (.ref p') H')
theorem ok_laid (T : Top K mg) : FnOk P w K mg base (L2.CX P w) 5 T.a_laid T.d_laid ["board", "r", "c", "hand"] (sp_laid T.C_Board T.C_NoCell) := by
  refine T.F_laid.okX sc_laid (fun vs H Q E h => ?_) (fun cdv A outer s H vs Q E hr h => ?_)
  · obtain ⟨_, _, _, _, _, _, _, _, rfl, _⟩ := h
    rfl
  obtain ⟨p, l, B, h, w, r, c, x, rfl, bt, I, hx, qe, qs⟩ := h
  refine ⟨_, (pss_cons (ps_if (pt_not (pt_val (pe_meth (pv 0) T.cl_Board T.M_Board_has (ok_Board_has T) (hr.mono (by decide)) T.B_Board_has .nil pass0 (pa_cons (pv 1) (pa_cons (pv 2) pa_nil)))))
      (pss_one (ps_raise rfl (takes_of rfl rfl rfl rfl) (pmk_own PySem.F.excBase_ValueError T.x_NoCell T.mC_NoCell T.k_NoCell (raises_own T.b_NoCell T.t_NoCell) rfl))) pss_nil)
      (pss_cons (ps_set (i := 4) sc_laid.nd rfl (Or.inl rfl) (pe_callTy call_list_of (by rfl) T.z_list (by decide +kernel) (pa_cons (pe_fld (pv 0) rfl) pa_nil)))
      (pss_cons (ps_asg (pe_op op_add_str (pe_op op_add_str (pe_slice sl_str (pe_ix ix_list (pv 4) (pv 1) (fun _ _ => rfl)) po_none (po_some (pv 2))) (pv 3)) (pe_slice sl_str (pe_ix ix_list (pv 4) (pv 1) (fun _ _ => rfl)) (po_some (pe_op op_add (pv 2) pe_int)) po_none)) (pg_sub (pv 4) (pv 1) set_list))
      (pss_one (ps_ret (pe_make T.Mk_Board (ok_Board_init T) (hr.mono (by decide)) (by rfl) T.mC_Board T.B_Board___init__ .nil passL (pa_cons (pv 4) pa_nil))))))), ?_⟩
  obtain ⟨⟨dx, hp⟩, hl⟩ := id bt
  refine ⟨_, rfl, p, dx, _, rfl, hp, bfl_has _ _ _, _, rfl, _, rfl, p, l, B, h, w, r, c, rfl, bt, I, _, rfl, ?_⟩
  refine iteN (fun z => qe z) (fun z => ?_)
  obtain ⟨row, er, mr, lr, ec, _⟩ := I.at z
  have z1 := z.1
  have z2 := z.2.1
  have z3 := z.2.2.1
  have z4 := z.2.2.2
  have ltr : (txt row).length = w := by rw [txt_len, lr]
  have w9 := I.w9
  -- rows = list(board.rows)
  refine ⟨_, rfl, p, _, dx, _, _, rfl, hp, T.cl_Board, T.n_Board_rows, bfl_rows _ _ _, l, _, rfl, .inl (SqL.of hl), fun n hn => ?_⟩
  have s1 := same_new hn (.lst (rowsV B))
  have hn1 : upd H n (.lst (rowsV B)) n = some (.lst (rowsV B)) := upd_same
  have atr : atI (rowsV B) r = some (rowV row) := at_int z1 (rowsV_get er)
  -- rows[r] = rows[r][:c] + hand + rows[r][c + 1:]
  refine ⟨_, rfl, _, rfl, n, _, _, _, rfl, rfl, SqL.of hn1, atr, _, rfl, _, rfl, _, rfl, sz_le (by omega), ?_⟩
  rw [cutS_to z3 (by rw [lr]; omega)]
  refine ⟨_, rfl, _, _, rfl, rfl, ?_, _, rfl, _, rfl, n, _, _, _, rfl, rfl, SqL.of hn1, atr, _, rfl, _, _, rfl, rfl, _, rfl, _, rfl, sz_le (by omega), ?_⟩
  · rw [txt_len, txt_len, List.length_take]
    exact sz_le (by show _ + 1 ≤ 1000000; omega)
  rw [cutS_from (by omega) (by rw [lr]; omega), txt_app]
  refine ⟨_, _, rfl, rfl, ?_, ?_⟩
  · rw [txt_len, txt_len, List.length_append, List.length_take, List.length_drop]
    exact sz_le (by show _ + 1 + _ ≤ 1000000; omega)
  have etx : row.take c.toNat ++ [x] ++ row.drop (c + 1).toNat = row.set c.toNat x := by
    rw [show (c + 1).toNat = c.toNat + 1 by omega]
    exact set_take_drop row c.toNat x (by omega)
  rw [txt_app, etx]
  refine ⟨_, rfl, _, rfl, n, _, _, r.toNat, rfl, rfl, hn1, ?_, ?_⟩
  · show ixN (rowsV B).length r = some r.toNat
    unfold ixN
    rw [if_pos z1, if_pos (by rw [rowsV_len, I.hh]; exact z2)]
  have eset : (rowsV B).set r.toNat (.str (txt (row.set c.toNat x))) = rowsV (putB B (r, c) x) := by
    rw [putB_eq (p := (r, c)) er]
    unfold rowsV
    rw [List.map_set]
    rfl
  have nlp : p ≠ n := ne_of_none hp hn
  have s2 : Same H (upd (upd H n (.lst (rowsV B))) n (.lst ((rowsV B).set r.toNat (.str (txt (row.set c.toNat x)))))) := same_mut s1 hn
  rw [eset] at s2 ⊢
  have hn2 : upd (upd H n (.lst (rowsV B))) n (.lst (rowsV (putB B (r, c) x))) n = some (.lst (rowsV (putB B (r, c) x))) := upd_same
  revert s2 hn2
  generalize upd (upd H n (.lst (rowsV B))) n (.lst (rowsV (putB B (r, c) x))) = H2
  intro s2 hn2
  have I2 := putB_is I (r, c) hx
  -- return Board(rows)
  refine ⟨_, rfl, fun o d no nd ndo => ?_⟩
  have so := ((same_new nd (.own o)).trans (same_new (by rw [upd_ne (Ne.symm ndo)]; exact no) (.ins T.C_Board d [])))
  refine ⟨o, d, n, _, rfl, upd_same, so _ _ hn2, I2.small, fun hb => ?_, fun _ H5 l5 k5 n5 b5 => ⟨rfl, ?_⟩⟩
  · rw [I2.good] at hb
    cases hb
  · exact qs z o l5 H5 (s2.trans (made_board no nd k5)) (s2.free no) b5
def sp_other : Sp := fun vs H Q _ => ∃ x : Nat, vs = [.str (txt [x])] ∧ Q (.str (txt [oth x])) H
theorem sg_eq {x y : Nat} : V.str (txt [x]) = V.str (txt [y]) ↔ x = y := by
  constructor
  · intro h
    have := txt_inj (V.str.inj h)
    exact (List.cons.inj this).1
  · intro h
    rw [h]
theorem ok_other (T : Top K mg) : FnOk P w K mg base CX0 1 T.a_other T.d_other ["letter"] sp_other := by
  refine T.F_other.ok sc_other (fun vs H Q E h => ?_) (fun cdv A outer s H vs Q E hr h => ?_)
  · obtain ⟨_, rfl, _⟩ := h
    rfl
  obtain ⟨x, rfl, q⟩ := h
  refine ⟨_, (pss_cons (ps_if (pt_cmpR op_eq (pv 0) pe_str (nomark _))
      (pss_one (ps_ret pe_str)) pss_nil)
      (pss_cons (ps_if (pt_cmpR op_eq (pv 0) pe_str (nomark _))
      (pss_one (ps_ret pe_str)) pss_nil)
      (pss_one (ps_ret (pv 0))))), ?_⟩
  unfold oth at q
  rw [s_n, s_w]
  refine ⟨_, rfl, rfl, _, rfl, iteD (fun e => ?_) (fun e => ?_)⟩
  · rw [if_pos (sg_eq.mp e)] at q
    exact q
  · rw [if_neg (fun z => e (sg_eq.mpr z))] at q
    refine ⟨_, rfl, rfl, _, rfl, iteD (fun e2 => ?_) (fun e2 => ?_)⟩
    · rw [if_pos (sg_eq.mp e2)] at q
      exact q
    · rw [if_neg (fun z => e2 (sg_eq.mpr z))] at q
      exact ⟨_, rfl, q⟩
def sp_turned (C : Addr) : Sp := fun vs H Q _ => ∃ (p l : Addr) (B : Bd) (h w : Nat), vs = [.ref p] ∧ BoardAt C H p l B ∧ IsB B h w ∧
  ∀ (p' l' : Addr) (H' : Hp), Same H H' → H p' = none → BoardAt C H' p' l' (tov B w) → Q (.ref p') H'
theorem ok_turned_over (T : Top K mg) : FnOk P w K mg base CX0 5 T.a_turned_over T.d_turned_over ["board"] (sp_turned T.C_Board) := by
  refine T.F_turned_over.ok sc_turned_over (fun vs H Q E h => ?_) (fun cdv A outer s H vs Q E hr h => ?_)
  · obtain ⟨_, _, _, _, _, rfl, _⟩ := h
    rfl
  obtain ⟨p, l, B, h, w, rfl, ⟨⟨dx, hp⟩, hl⟩, I, q⟩ := h
  rw [I.hh, I.wid] at hp
  refine ⟨_, (pss_cons (ps_set (i := 1) sc_turned_over.nd rfl (Or.inl rfl) (pe_lst pa_nil))
      (pss_cons (ps_for PassesOwn.never rfl (pi_range1 rfl T.z_range (pa_cons (pe_fld (pv 0) rfl) pa_nil)) (pg_name (i := 2) sc_turned_over.nd rfl (Or.inr rfl))
      (pss_one (ps_expr (pe_bm PySem.F.plainAttrs_list PySem.F.slot_list_append PySem.F.type_list_append mt_append (pv 1) (pa_cons (pe_join pe_str (pe_lc (own := [("row", 3)]) (g := gName 3) (tt := tYes) rfl sc_turned_over.nd (pi_list (pe_fld (pv 0) rfl)) (blkOk_by (own := [("row", 3)]) (N := N_turned_over) (sc := defScope s_turned_over) (by decide +kernel)) (fun _ _ _ _ _ => (pg_name (i := 3) sc_turned_over.nd rfl (Or.inl rfl))) (fun _ _ _ _ _ => pts_nil) (fun _ _ _ _ _ => (pe_call (ok_other T) (hr.mono (by decide)) rfl T.m_other T.F_other.kp T.B_other .nil pass0 (pa_cons (pe_ix ix_str (pv 3) (pv 2) (fun _ _ => rfl)) pa_nil))))) pa_nil)))))
      (pss_one (ps_ret (pe_make T.Mk_Board (ok_Board_init T) (hr.mono (by decide)) (by rfl) T.mC_Board T.B_Board___init__ .nil passL (pa_cons (pv 1) pa_nil)))))), ?_⟩
  have h9 := I.h9
  have w9 := I.w9
  refine ⟨sz0, fun n hn => ?_⟩
  have s1 := same_new hn (.lst [])
  refine ⟨_, rfl, p, _, dx, _, _, rfl, s1 _ _ hp, T.cl_Board, T.n_Board_width, bfl_width _ _ _, (w : Int), rfl, by omega, by omega,
    for_range (lo := 0) (n := w) (fun i σ H' => Same H H' ∧ H' n = some (.lst (rowsV ((List.range i).map (tcol B)))) ∧ ∃ v1 v2, σ = [some (.ref p), some (.ref n), v1, v2]) ⟨s1, upd_same, _, _, rfl⟩ ?_ ?_⟩
  · rintro i σ H1 hi ⟨s1, hn1, v1, v2, rfl⟩
    have hl1 := s1 _ _ hl
    have okc' := tcol_ok I hi
    refine ⟨_, rfl, .inl ⟨rfl, _, SqL.of hn1⟩, ⟨_, rfl⟩, _, rfl, p, _, dx, _, _, rfl, s1 _ _ hp, T.cl_Board, T.n_Board_rows, bfl_rows _ _ _, l, rfl, ⟨_, SqL.of hl1⟩, fun D hD =>
      lc_it walk_list (fun j H' => Same H1 H' ∧ H' D = some (.lst (((B.take j).map fun r => oth (r.getD i 0)).map fun c => V.str (txt [c])))) ⟨same_new hD _, upd_same⟩ (fun _ H' _ ⟨s, _⟩ => SqL.of (s _ _ hl1))
        (fun j x H2 H3 hj ⟨s2, h2⟩ ⟨e3, ex⟩ => ?_) (fun H2 ⟨s2, h2⟩ => ?_)⟩
    · subst e3
      obtain ⟨row, ey, rfl⟩ := rowsV_inv ex
      have my : row ∈ B := List.mem_of_getElem? ey
      have lrow := I.ww _ my
      have hil : i < row.length := by omega
      have ei : row[((0 : Int) + (i : Int)).toNat]? = some (row.getD i 0) := by
        rw [show ((0 : Int) + (i : Int)).toNat = i by omega, List.getD_eq_getElem?_getD, List.getElem?_eq_getElem hil]
        rfl
      refine ⟨rfl, _, rfl, _, rfl, _, _, _, rfl, rfl, sz_le (by rw [txt_len]; omega), atI_cps (by omega) ei, row.getD i 0, rfl, _, h2, sz_lt (by rw [List.length_map, List.length_map, List.length_take]; have := I.hh; omega), same_mut s2 hD, ?_⟩
      rw [upd_same, take_map_snoc ey, List.map_append]
      rfl
    · rw [rowsV_len, List.take_length] at h2
      have h3 : H2 D = some (.lst (((tcol B i).map fun c => txt [c]).map V.str)) := by
        rw [h2]
        show some (HO.lst ((tcol B i).map fun c => V.str (txt [c]))) = _
        rw [List.map_map]
        rfl
      have len1 : ∀ l : List Nat, ((l.map fun c => txt [c]).map fun x : Str => x.length).sum = l.length := by
        intro l
        induction l with
        | nil => rfl
        | cons a l ih =>
          rw [List.map_cons, List.map_cons, List.sum_cons, ih, List.length_cons]
          show 1 + l.length = l.length + 1
          omega
      have ltc : (tcol B i).length = h := by
        unfold tcol
        rw [List.length_map, I.hh]
      refine ⟨_, D, (tcol B i).map fun c => txt [c], rfl, rfl, .inl (SqL.of h3), ?_, ?_⟩
      · rw [s_nil, len1, List.length_map, ltc]
        show h + h * 0 ≤ 16777216
        omega
      rw [s_nil, join_txt]
      refine ⟨n, _, _, rfl, rfl, s2 _ _ hn1, ?_, ?_⟩
      · rw [rowsV_len, List.length_map, List.length_range]
        exact sz_lt (by omega)
      refine ⟨same_mut (s1.trans s2) hn, ?_, _, _, rfl⟩
      rw [upd_same, List.range_succ]
      unfold rowsV
      rw [List.map_append, List.map_append]
      rfl
  · rintro σ H1 ⟨s1, hn1, v1, v2, rfl⟩
    have I2 := tov_is I
    refine ⟨_, rfl, fun o d no nd ndo => ?_⟩
    have so := ((same_new nd (.own o)).trans (same_new (by rw [upd_ne (Ne.symm ndo)]; exact no) (.ins T.C_Board d [])))
    refine ⟨o, d, n, _, rfl, upd_same, so _ _ hn1, I2.small, fun hb => ?_, fun _ H5 l5 k5 n5 b5 => ⟨rfl, ?_⟩⟩
    · have g := I2.good
      unfold tov at g
      rw [g] at hb
      cases hb
    · exact q o l5 H5 (s1.trans (made_board no nd k5)) (s1.free no) b5
def sp_empty (C : Addr) : Sp := fun vs H Q _ => ∃ (p l : Addr) (B : Bd) (h w : Nat), vs = [.ref p] ∧ BoardAt C H p l B ∧ IsB B h w ∧ ∀ v H', NewCells H (emptyL B) v H' → Q v H'
theorem ok_empty (T : Top K mg) : FnOk P w K mg base CX0 1 T.a_empty T.d_empty ["board"] (sp_empty T.C_Board) := by
  refine T.F_empty.ok sc_empty (fun vs H Q E h => ?_) (fun cdv A outer s H vs Q E hr h => ?_)
  · obtain ⟨_, _, _, _, _, rfl, _⟩ := h
    rfl
  obtain ⟨p, l, B, h, w, rfl, ⟨⟨dx, hp⟩, hl⟩, I, q⟩ := h
  rw [I.hh, I.wid] at hp
  refine ⟨_, (pss_cons (ps_set (i := 1) sc_empty.nd rfl (Or.inl rfl) (pe_lst pa_nil))
      (pss_cons (ps_for PassesOwn.never rfl (pi_enum (by rfl) T.z_enumerate (pa_cons (pe_fld (pv 0) rfl) pa_nil)) (pg_tup rfl (pgs_cons (pg_name (i := 2) sc_empty.nd rfl (Or.inr rfl)) (pgs_cons (pg_name (i := 3) sc_empty.nd rfl (Or.inl rfl)) pgs_nil)))
      (pss_one (ps_expr (pe_bm PySem.F.plainAttrs_list PySem.F.slot_list_extend PySem.F.type_list_extend mt_extend (pv 1) (pa_cons (pe_lc (own := [("c", 4), ("letter", 5)]) (g := gTup K 2 (gCons (gName 4) (gCons (gName 5) gNil))) rfl sc_empty.nd (pi_enumS (by rfl) T.z_enumerate (pa_cons (pv 3) pa_nil)) (blkOk_by (own := [("c", 4), ("letter", 5)]) (N := N_empty) (sc := defScope s_empty) (by decide +kernel)) (fun _ _ _ _ _ => (pg_tup rfl (pgs_cons (pg_name (i := 4) sc_empty.nd rfl (Or.inl rfl)) (pgs_cons (pg_name (i := 5) sc_empty.nd rfl (Or.inl rfl)) pgs_nil)))) (fun _ _ _ _ _ => pts_one (pt_cmpR op_eq (pv 5) pe_str (nomark _))) (fun _ _ _ _ _ => (pe_tup (pa_cons (pv 2) (pa_cons (pv 4) pa_nil))))) pa_nil)))))
      (pss_one (ps_ret (pv 1))))), ?_⟩
  have h9 := I.h9
  have w9 := I.w9
  refine ⟨sz0, fun n hn => ?_⟩
  have s1 := same_new hn (.lst [])
  refine ⟨_, rfl, p, _, dx, _, _, rfl, s1 _ _ hp, T.cl_Board, T.n_Board_rows, bfl_rows _ _ _, l, _, rfl, SqL.of (s1 _ _ hl),
    for_it walk_enum (fun i σ H' => Same H H' ∧ ∃ ws, H' n = some (.lst ws) ∧ Cells H' ws (emptyTo B i) ∧ ∃ v1 v2 v3 v4, σ = [some (.ref p), some (.ref n), v1, v2, v3, v4]) ⟨s1, [], upd_same, .nil, _, _, _, _, rfl⟩ (fun i σ H' _ ⟨s, _⟩ => SqL.of (s _ _ hl)) ?_ ?_⟩
  · rintro i x σ H1 H2 hi ⟨s1, ws, hn1, hc, v1, v2, v3, v4, rfl⟩ ⟨t, x1, x2, rfl, ht, rfl, ex1, ex2⟩
    cases ex1
    obtain ⟨row, ey, rfl⟩ := rowsV_inv ex2
    have s2 := same_new ht (.tup [.int (i : Int), rowV row])
    have ht2 : upd H1 t (.tup [.int (i : Int), rowV row]) t = some (.tup [.int (i : Int), rowV row]) := upd_same
    revert s2 ht2
    generalize upd H1 t (.tup [.int (i : Int), rowV row]) = H2
    intro s2 ht2
    have lrow := I.ww _ (List.mem_of_getElem? ey)
    have hi' : i < h := by
      rw [rowsV_len, I.hh] at hi
      exact hi
    have lc := hc.len
    have le := emptyTo_len I i (by omega)
    have lm : i * w ≤ 9 * 9 := Nat.mul_le_mul (by omega) w9
    refine ⟨t, _, rfl, SqT.of ht2, rfl, _, _, rfl, _, _, rfl, rfl, ?_⟩
    refine ⟨_, rfl, .inl ⟨rfl, _, SqL.of (s2 _ _ hn1)⟩, _, rfl, txt row, rfl, fun D hD =>
      lc_it walk_enumS (fun j H' => Same H2 H' ∧ ∃ ws2, H' D = some (.lst ws2) ∧ Cells H' ws2 (rowEt i row j)) ⟨same_new hD _, [], upd_same, .nil⟩ (fun _ _ _ _ => trivial)
        (fun j x H3 H4 hj ⟨s3, ws2, hD2, hc2⟩ ⟨T, c, e1, hT, e2, ec⟩ => ?_) (fun H3 ⟨s3, ws2, hD2, hc2⟩ => ?_)⟩
    · subst e1 e2
      rw [txt_size] at hj
      have ec' := get_txt ec
      have eg : row.getD j 0 = c := by
        rw [List.getD_eq_getElem?_getD, ec']
        rfl
      have s4 := same_new hT (.tup [.int (j : Int), .str ⟨#[c]⟩])
      refine ⟨T, _, rfl, SqT.of upd_same, rfl, _, _, rfl, _, _, rfl, rfl, rfl, _, rfl, rfl, _, rfl, ?_⟩
      refine iteD (fun z => ?_) (fun z => ?_)
      · rw [s_dot] at z
        have ez : row.getD j 0 = 46 := by
          rw [eg]
          exact sg_eq.mp z
        refine ⟨_, rfl, _, rfl, sz2, fun t2 ht2' => ?_⟩
        have s5 := s4.trans (same_new ht2' (.tup (cellV ((i : Int), (j : Int)))))
        have lw := hc2.len
        have lw2 := rowEt_len i row j
        have hD5 := s5 _ _ hD2
        refine ⟨ws2, hD5, sz_lt (by omega), same_mut (s3.trans s5) hD, ws2 ++ [.ref t2], upd_same, ?_⟩
        rw [rowEt_yes ez]
        refine ((hc2.same s5).app (.one ?_)).tps (.lst hD5)
        exact upd_same
      · rw [s_dot] at z
        refine ⟨s3.trans s4, ws2, s4 _ _ hD2, ?_⟩
        rw [rowEt_no (fun e => z (by rw [eg] at e; rw [e]; rfl))]
        exact hc2.same s4
    · rw [txt_size] at hc2
      have s6 := s2.trans s3
      have lw := hc2.len
      have lw2 := rowEt_len i row row.length
      have hn3 := s6 _ _ hn1
      refine ⟨n, D, ws, ws2, rfl, rfl, hn3, hD2, sz_le (by omega), ?_⟩
      refine ⟨same_mut (s1.trans s6) hn, ws ++ ws2, upd_same, ?_, _, _, _, _, rfl⟩
      have eg : B.getD i [] = row := by
        rw [List.getD_eq_getElem?_getD, ey]
        rfl
      rw [emptyTo_succ, eg]
      exact ((hc.same s6).app hc2).tps (.lst hn3)
  · rintro σ H1 ⟨s1, ws, hn1, hc, v1, v2, v3, v4, rfl⟩
    rw [rowsV_len] at hc
    exact ⟨_, rfl, q _ _ ⟨n, ws, rfl, hn, s1, hn1, hc⟩⟩
end
end Sw
namespace Sw
open PySem PySem.Spec PyProof.Rows L2
section
variable {P : Program} {w : World} {K : PySem.W.Frag} {mg : Str → Option Value} {base : Heap}
/-! the law's reader of the script -/
def sAt (ns : List Int) (k : Int) : Int := ns.getD k.toNat 0
def sp__law_cell_at (K : PySem.W.Frag) : Sp := fun vs H Q _ => ∃ (a : Addr) (ns : List Int) (k : Int), vs = [.ref a, .int k] ∧ SqL K H a (ns.map V.int) ∧ 0 ≤ k ∧ Q (.int (sAt ns k)) H
theorem ok__law_cell_at (T : Top K mg) : FnOk P w K mg base CX0 1 T.a__law_cell_at T.d__law_cell_at ["script", "k"] (sp__law_cell_at K) := by
  refine T.F__law_cell_at.ok sc__law_cell_at (fun vs H Q E h => ?_) (fun cdv A outer s H vs Q E hr h => ?_)
  · obtain ⟨_, _, _, rfl, _⟩ := h
    rfl
  obtain ⟨a, ns, k, rfl, hS, hk, q⟩ := h
  refine ⟨_, (pss_cons (ps_if (pt_cmpR op_lt (pv 1) (pe_callB call_len_seq (by rfl) T.z_len PySem.boot_len (pa_cons (pv 0) pa_nil)) (nomark _))
      (pss_one (ps_ret (pe_ix ix_list (pv 0) (pv 1) (fun _ _ => rfl)))) pss_nil)
      (pss_one (ps_ret pe_int))), ?_⟩
  refine ⟨_, rfl, _, rfl, a, _, rfl, .inl hS, _, _, rfl, rfl, _, rfl, ?_⟩
  refine ite2 (fun c => ?_) (fun c => ?_)
  · have c' : k < ((ns.map V.int).length : Int) := of_decide_eq_true c
    rw [List.length_map] at c'
    have hl : k.toNat < ns.length := by omega
    have e : (ns.map V.int)[k.toNat]? = some (.int ns[k.toNat]) := by rw [List.getElem?_map, List.getElem?_eq_getElem hl] <;> rfl
    refine ⟨_, rfl, _, rfl, a, _, _, _, rfl, rfl, hS, at_int hk e, ?_⟩
    have : sAt ns k = ns[k.toNat] := by
      unfold sAt
      rw [List.getD_eq_getElem?_getD, List.getElem?_eq_getElem hl] <;> rfl
    rw [← this]
    exact q
  · have c' : ¬ k < ((ns.map V.int).length : Int) := of_decide_eq_false (Bool.eq_false_iff.mpr c)
    rw [List.length_map] at c'
    have : sAt ns k = 0 := by
      unfold sAt
      rw [List.getD_eq_getElem?_getD, List.getElem?_eq_none (by omega)] <;> rfl
    have q' : Q (.int 0) H := by
      rw [← this]
      exact q
    exact q'
end
end Sw
namespace Sw
open PySem PySem.Spec PyProof.Rows L2
section
variable {P : Program} {w : World} {K : PySem.W.Frag} {mg : Str → Option Value} {base : Heap}
/-! the law's draws: a number below many, a size, rows -/
def some13 : List Int := [48271, 69621, 16807, 39373, 30269, 40014, 40692, 50021, 61687, 71993, 83869, 95561, 30307]
theorem some13_at {k : Int} (h0 : 0 ≤ k) (h1 : k < 13) : ∃ c : Int, atI (some13.map V.int) k = some (.int c) ∧ 0 ≤ c ∧ c ≤ 95561 := by
  have hl : k.toNat < some13.length := by show k.toNat < 13; omega
  have all : ∀ x ∈ some13, 0 ≤ x ∧ x ≤ 95561 := by decide
  have hm := all _ (List.getElem_mem hl)
  refine ⟨some13[k.toNat], at_int h0 ?_, hm.1, hm.2⟩
  rw [List.getElem?_map, List.getElem?_eq_getElem hl]
  rfl
def sp__law_mix : Sp := fun vs H Q _ => ∃ (cell k many : Int), vs = [.int cell, .int k, .int many] ∧ 0 ≤ k ∧ k ≤ 1000000 ∧ 0 < many ∧ ∀ (m : Int) (H' : Hp), Same H H' → 0 ≤ m → m < many → Q (.int m) H'
theorem ok__law_mix (T : Top K mg) : FnOk P w K mg base CX0 1 T.a__law_mix T.d__law_mix ["cell", "k", "many"] sp__law_mix := by
  refine T.F__law_mix.ok sc__law_mix (fun vs H Q E h => ?_) (fun cdv A outer s H vs Q E hr h => ?_)
  · obtain ⟨_, _, _, rfl, _⟩ := h
    rfl
  obtain ⟨cell, k, many, rfl, k0, k1, hm, q⟩ := h
  refine ⟨_, (pss_cons (ps_set (i := 3) sc__law_mix.nd rfl (Or.inl rfl) (pe_lst (pa_cons pe_int (pa_cons pe_int (pa_cons pe_int (pa_cons pe_int (pa_cons pe_int (pa_cons pe_int (pa_cons pe_int (pa_cons pe_int (pa_cons pe_int (pa_cons pe_int (pa_cons pe_int (pa_cons pe_int (pa_cons pe_int pa_nil)))))))))))))))
      (pss_cons (ps_set (i := 4) sc__law_mix.nd rfl (Or.inl rfl) (pe_op op_mul (pe_op op_add (pe_op op_mod (pv 0) pe_int) pe_int) (pe_ix ix_list (pv 3) (pe_op op_mod (pv 1) pe_int) (fun _ _ => rfl))))
      (pss_cons (ps_set (i := 4) sc__law_mix.nd rfl (Or.inl rfl) (pe_op op_add (pe_op op_mul (pv 4) (pe_op op_add (pe_op op_mul pe_int (pe_op op_fdiv (pv 1) pe_int)) pe_int)) (pe_op op_mul pe_int (pv 1))))
      (pss_one (ps_ret (pe_op op_mod (pe_op op_fdiv (pe_op op_mod (pv 4) pe_int) pe_int) (pv 2))))))), ?_⟩
  refine ⟨by show 13 ≤ sizeLine; decide, fun l hl => ?_⟩
  obtain ⟨c, ec, c0, c1⟩ := some13_at (k := k % 13) (Int.emod_nonneg _ (by decide)) (Int.emod_lt_of_pos _ (by decide))
  have e0 : 0 ≤ cell % 2147483647 := Int.emod_nonneg _ (by decide)
  have e1 : cell % 2147483647 < 2147483647 := Int.emod_lt_of_pos _ (by decide)
  refine ⟨_, rfl, _, _, rfl, rfl, (show (0 : Int) < 2147483647 by decide), _, _, rfl, rfl, _, rfl, _, rfl, _, _, rfl, rfl, (show (0 : Int) < 13 by decide), l, some13.map V.int, _, _, rfl, rfl, SqL.of upd_same, ec, _, _, rfl, rfl, .inl ⟨?_, ?_⟩, ?_⟩
  · show -(2 ^ 64 : Int) < cell % 2147483647 + 12345
    omega
  · show cell % 2147483647 + 12345 < (2 ^ 64 : Int)
    omega
  have b0 : 0 ≤ (cell % 2147483647 + 12345) * c := Int.mul_nonneg (by omega) c0
  have b1 : (cell % 2147483647 + 12345) * c ≤ 2147495992 * 95561 := Int.mul_le_mul (by omega) c1 c0 (by decide)
  refine ⟨_, rfl, _, rfl, _, _, rfl, rfl, ⟨by decide, by decide⟩, _, _, rfl, rfl, .inl ⟨by decide, by decide⟩, _, _, rfl, rfl, _, _, rfl, rfl, .inl ⟨?_, ?_⟩, ?_⟩
  · show -(2 ^ 64 : Int) < (cell % 2147483647 + 12345) * c
    omega
  · show (cell % 2147483647 + 12345) * c < (2 ^ 64 : Int)
    omega
  refine ⟨_, rfl, _, _, rfl, rfl, .inl ⟨by decide, by decide⟩, _, _, rfl, rfl, ?_⟩
  refine ⟨_, rfl, _, _, rfl, rfl, (show (0 : Int) < 1000000007 by decide), _, _, rfl, rfl, ⟨by decide, by decide⟩, _, rfl, _, _, rfl, rfl, hm, ?_⟩
  exact q _ _ (same_new hl _) (Int.emod_nonneg _ (by omega)) (Int.emod_lt_of_pos _ hm)

def sp__law_size_by (K : PySem.W.Frag) : Sp := fun vs H Q _ => ∃ (a : Addr) (ns : List Int) (most : Int), vs = [.ref a, .int most] ∧ SqL K H a (ns.map V.int) ∧ 0 < most ∧
  ∀ (h w : Int) (t : Addr) (H' : Hp), 1 ≤ h → h ≤ most → 1 ≤ w → w ≤ most → Same H H' → H' t = some (.tup [.int h, .int w]) → Q (.ref t) H'
theorem ok__law_size_by (T : Top K mg) : FnOk P w K mg base CX0 2 T.a__law_size_by T.d__law_size_by ["script", "most"] (sp__law_size_by K) := by
  refine T.F__law_size_by.ok sc__law_size_by (fun vs H Q E h => ?_) (fun cdv A outer s H vs Q E hr h => ?_)
  · obtain ⟨_, _, _, rfl, _⟩ := h
    rfl
  obtain ⟨a, ns, most, rfl, hS, hm, q⟩ := h
  refine ⟨_, (pss_one (ps_ret (pe_tup (pa_cons (pe_op op_add pe_int (pe_op op_mod (pe_call (ok__law_cell_at T) (hr.mono (by decide)) rfl T.m__law_cell_at T.F__law_cell_at.kp T.B__law_cell_at .nil pass0 (pa_cons (pv 0) (pa_cons pe_int pa_nil))) (pv 1))) (pa_cons (pe_op op_add pe_int (pe_op op_mod (pe_call (ok__law_cell_at T) (hr.mono (by decide)) rfl T.m__law_cell_at T.F__law_cell_at.kp T.B__law_cell_at .nil pass0 (pa_cons (pv 0) (pa_cons pe_int pa_nil))) (pv 1))) pa_nil))))), ?_⟩
  refine ⟨_, rfl, a, ns, 0, rfl, hS, by decide, _, rfl, _, _, rfl, rfl, hm, _, _, rfl, rfl, _, rfl, a, ns, 1, rfl, hS, by decide, _, rfl, _, _, rfl, rfl, hm, _, _, rfl, rfl, sz2, fun t ht => ?_⟩
  have m0 := Int.emod_nonneg (sAt ns 0) (show most ≠ 0 by omega)
  have m1 := Int.emod_lt_of_pos (sAt ns 0) hm
  have m2 := Int.emod_nonneg (sAt ns 1) (show most ≠ 0 by omega)
  have m3 := Int.emod_lt_of_pos (sAt ns 1) hm
  exact q (1 + sAt ns 0 % most) (1 + sAt ns 1 % most) t _ (by omega) (by omega) (by omega) (by omega) (same_new ht _) upd_same

/-- a sign that may be drawn -/
def LetOk (full : Bool) (c : Nat) : Prop := (c = 110 ∨ c = 119 ∨ c = 46) ∧ (full = true → c ≠ 46)
def kinds5 : List Nat := [110, 119, 110, 119, 46]
theorem kinds_at {full : Bool} {k : Int} (h0 : 0 ≤ k) (h1 : k < if full then 4 else 5) : ∃ c : Nat, atI [V.str (txt [110]), .str (txt [119]), .str (txt [110]), .str (txt [119]), .str (txt [46])] k = some (.str (txt [c])) ∧ LetOk full c := by
  have h5 : k < 5 := by cases full <;> simp at h1 <;> omega
  have hl : k.toNat < kinds5.length := by show k.toNat < 5; omega
  refine ⟨kinds5[k.toNat], at_int h0 ?_, ?_⟩
  · show (kinds5.map fun c => V.str (txt [c]))[k.toNat]? = _
    rw [List.getElem?_map, List.getElem?_eq_getElem hl]
    rfl
  · have a5 : ∀ x ∈ kinds5, x = 110 ∨ x = 119 ∨ x = 46 := by decide
    refine ⟨a5 _ (List.getElem_mem hl), fun e => ?_⟩
    subst e
    have h4 : k.toNat < 4 := by simp at h1; omega
    have a4 : ∀ i : Nat, i < 4 → ∀ h : i < kinds5.length, kinds5[i] ≠ 46 := by decide
    exact a4 _ h4 hl
def sp__law_rows_by (K : PySem.W.Frag) : Sp := fun vs H Q _ => ∃ (a : Addr) (ns : List Int) (h w : Nat) (full : Bool), vs = [.ref a, .int (h : Int), .int (w : Int), .bl full] ∧ SqL K H a (ns.map V.int) ∧ 1 ≤ h ∧ h ≤ 9 ∧ 1 ≤ w ∧ w ≤ 9 ∧
  ∀ (B : Bd) (p : Addr) (H' : Hp), Same H H' → H p = none → H' p = some (.lst (rowsV B)) → IsB B h w → (full = true → ∀ r ∈ B, ∀ c ∈ r, c ≠ 46) → Q (.ref p) H'
theorem ok__law_rows_by (T : Top K mg) : FnOk P w K mg base CX0 2 T.a__law_rows_by T.d__law_rows_by ["script", "height", "width", "full"] (sp__law_rows_by K) := by
  refine T.F__law_rows_by.ok sc__law_rows_by (fun vs H Q E h => ?_) (fun cdv A outer s H vs Q E hr h => ?_)
  · obtain ⟨_, _, _, _, _, rfl, _⟩ := h
    rfl
  obtain ⟨a, ns, h, w, full, rfl, hS, h1, h9, w1, w9, q⟩ := h
  refine ⟨_, (pss_cons (ps_set (i := 4) sc__law_rows_by.nd rfl (Or.inl rfl) (pe_lst pa_nil))
      (pss_cons (ps_for PassesOwn.never rfl (pi_range1 rfl T.z_range (pa_cons (pv 1) pa_nil)) (pg_name (i := 5) sc__law_rows_by.nd rfl (Or.inl rfl))
      (pss_cons (ps_set (i := 6) sc__law_rows_by.nd rfl (Or.inl rfl) (pe_call (ok__law_cell_at T) (hr.mono (by decide)) rfl T.m__law_cell_at T.F__law_cell_at.kp T.B__law_cell_at .nil pass0 (pa_cons (pv 0) (pa_cons (pe_op op_add pe_int (pv 5)) pa_nil))))
      (pss_cons (ps_set (i := 7) sc__law_rows_by.nd rfl (Or.inl rfl) pe_str)
      (pss_cons (ps_for PassesOwn.never rfl (pi_range1 rfl T.z_range (pa_cons (pv 2) pa_nil)) (pg_name (i := 8) sc__law_rows_by.nd rfl (Or.inl rfl))
      (pss_cons (ps_set (i := 9) sc__law_rows_by.nd rfl (Or.inl rfl) (pe_call (ok__law_mix T) (hr.mono (by decide)) rfl T.m__law_mix T.F__law_mix.kp T.B__law_mix .nil pass0 (pa_cons (pv 6) (pa_cons (pe_op op_add (pe_op op_mul pe_int (pv 5)) (pv 8)) (pa_cons (pe_ix ix_list (pe_lst (pa_cons pe_int (pa_cons pe_int pa_nil))) (pe_callTy call_int1 (by rfl) T.z_int (by decide +kernel) (pa_cons (pv 3) pa_nil)) (fun _ _ => rfl)) pa_nil)))))
      (pss_one (ps_set (i := 7) sc__law_rows_by.nd rfl (Or.inl rfl) (pe_op op_add_str (pv 7) (pe_ix ix_list (pe_lst (pa_cons pe_str (pa_cons pe_str (pa_cons pe_str (pa_cons pe_str (pa_cons pe_str pa_nil)))))) (pv 9) (fun _ _ => rfl)))))))
      (pss_one (ps_expr (pe_bm PySem.F.plainAttrs_list PySem.F.slot_list_append PySem.F.type_list_append mt_append (pv 4) (pa_cons (pv 7) pa_nil))))))))
      (pss_one (ps_ret (pv 4))))), ?_⟩
  refine ⟨sz0, fun l hl => ?_⟩
  refine ⟨_, rfl, (h : Int), rfl, by omega, by omega, for_range (lo := 0) (n := h) (fun i σ H' => Same H H' ∧ ∃ B : Bd, H' l = some (.lst (rowsV B)) ∧ B.length = i ∧ (∀ r ∈ B, r.length = w ∧ ∀ c ∈ r, LetOk full c) ∧
    ∃ v1 v2 v3 v4 v5, σ = [some (.ref a), some (.int h), some (.int w), some (.bl full), some (.ref l), v1, v2, v3, v4, v5]) ⟨same_new hl _, [], upd_same, rfl, (fun r hr => nomatch hr), _, _, _, _, _, rfl⟩ ?_ ?_⟩
  · rintro i σ H1 hi ⟨s1, B, hB, lB, aB, v1, v2, v3, v4, v5, rfl⟩
    refine ⟨_, rfl, _, rfl, _, _, rfl, rfl, a, ns, _, rfl, s1.seq hS, by omega, ?_⟩
    refine ⟨_, rfl, (w : Int), rfl, by omega, by omega, for_range (lo := 0) (n := w) (fun j σ H' => Same H H' ∧ H' l = some (.lst (rowsV B)) ∧ ∃ rr : List Nat, rr.length = j ∧ (∀ c ∈ rr, LetOk full c) ∧
      ∃ u1 u3 u4, σ = [some (.ref a), some (.int h), some (.int w), some (.bl full), some (.ref l), some (.int ((0 : Int) + (i : Int))), some (.int u1), some (.str (txt rr)), u4, u3]) ⟨s1, hB, [], rfl, (fun c hc => nomatch hc), sAt ns (3 + (0 + (i : Int))), v5, v4, by rw [s_nil]; rfl⟩ ?_ ?_⟩
    · rintro j σ H2 hj ⟨s2, hB2, rr, lr, ar, u1, u3, u4, rfl⟩
      refine ⟨_, rfl, _, rfl, _, _, rfl, rfl, .inl ⟨by decide, by decide⟩, _, rfl, _, _, rfl, rfl, sz2, fun l5 h5 => ?_⟩
      refine ⟨_, rfl, .inr ⟨full, rfl, ?_⟩⟩
      have i5 : atI [V.int 5, V.int 4] (if full = true then 1 else 0) = some (.int (if full = true then 4 else 5)) := by
        cases full <;> rfl
      refine ⟨l5, _, _, _, rfl, rfl, SqL.of upd_same, i5, ?_⟩
      refine ⟨u1, _, _, rfl, by omega, by omega, by cases full <;> decide, fun kd H3 s3 k0 k1 => ?_⟩
      have s4 : Same H2 H3 := (same_new h5 _).trans s3
      refine ⟨_, rfl, ?_⟩
      refine ⟨by show 5 ≤ sizeLine; decide, fun l6 h6 => ?_⟩
      obtain ⟨c, ec, oc⟩ := kinds_at k0 k1
      rw [s_n, s_w, s_dot]
      refine ⟨_, rfl, l6, _, _, _, rfl, rfl, SqL.of upd_same, ec, _, _, rfl, rfl, ?_, ?_⟩
      · rw [txt_len, txt_len]
        exact sz_le (by rw [lr]; show j + 1 ≤ 1000000; omega)
      have s5 := s4.trans (same_new h6 (.lst [V.str (txt [110]), .str (txt [119]), .str (txt [110]), .str (txt [119]), .str (txt [46])]))
      refine ⟨s2.trans s5, s5 _ _ hB2, rr ++ [c], by rw [List.length_append, lr]; rfl, fun x hx => ?_, u1, some (.int kd), some (.int ((0 : Int) + (j : Int))), ?_⟩
      · rcases List.mem_append.mp hx with hx | hx
        · exact ar x hx
        · rw [List.mem_singleton.mp hx]
          exact oc
      · rw [txt_app]
        rfl
    · rintro σ H2 ⟨s2, hB2, rr, lr, ar, u1, u3, u4, rfl⟩
      refine ⟨_, rfl, .inl ⟨rfl, _, SqL.of hB2⟩, _, rfl, l, _, _, rfl, rfl, hB2, sz_lt (by rw [rowsV_len]; omega), ?_⟩
      refine ⟨same_mut s2 hl, B ++ [rr], ?_, by rw [List.length_append, lB]; rfl, fun r hr => ?_, _, _, _, _, _, rfl⟩
      · rw [upd_same]
        show _ = some (HO.lst ((B ++ [rr]).map rowV))
        rw [List.map_append]
        rfl
      · rcases List.mem_append.mp hr with hr | hr
        · exact aB r hr
        · rw [List.mem_singleton.mp hr]
          exact ⟨lr, ar⟩
  · rintro σ H1 ⟨s1, B, hB, lB, aB, v1, v2, v3, v4, v5, rfl⟩
    exact ⟨_, rfl, q B l _ s1 hl hB ⟨lB, fun r hr => (aB r hr).1, fun r hr c hc => ((aB r hr).2 c hc).1, h1, h9, w1, w9⟩ fun e r hr c hc => ((aB r hr).2 c hc).2 e⟩
end
end Sw
namespace Sw
open PySem PySem.Spec PyProof.Rows L2
section
variable {P : Program} {w : World} {K : PySem.W.Frag} {mg : Str → Option Value} {base : Heap}
/-! the law's looks: a whole number; a list of so many places -/
theorem kit_ii {K : PySem.W.Frag} : PySem.W.kitOne K (.type "int") (.type "int") = some true := kit_ty (by decide +kernel)
theorem kit_ib {K : PySem.W.Frag} : PySem.W.kitOne K (.type "int") (.type "bool") = some false := kit_ty (by decide +kernel)
theorem kit_ll {K : PySem.W.Frag} : PySem.W.kitOne K (.type "list") (.type "list") = some true := kit_ty (by decide +kernel)
theorem kit_tt {K : PySem.W.Frag} : PySem.W.kitOne K (.type "tuple") (.type "tuple") = some true := kit_ty (by decide +kernel)
theorem kit_bb {K : PySem.W.Frag} : PySem.W.kitOne K (.type "bool") (.type "bool") = some true := kit_ty (by decide +kernel)
theorem kit_ss {K : PySem.W.Frag} : PySem.W.kitOne K (.type "str") (.type "str") = some true := kit_ty (by decide +kernel)
def sp__law_whole : Sp := fun vs H Q _ => ∃ i : Int, vs = [.int i] ∧ Q (.bl true) H
theorem ok__law_whole (T : Top K mg) : FnOk P w K mg base CX0 1 T.a__law_whole T.d__law_whole ["found"] sp__law_whole := by
  refine T.F__law_whole.ok sc__law_whole (fun vs H Q E h => ?_) (fun cdv A outer s H vs Q E hr h => ?_)
  · obtain ⟨_, rfl, _⟩ := h
    rfl
  obtain ⟨i, rfl, q⟩ := h
  refine ⟨_, (pss_one (ps_ret (pe_and (pe_callB call_isi (by rfl) T.z_isinstance (by decide +kernel) (pa_cons (pv 0) (pa_cons (pe_bltn (v := .ty "int") (u := .type "int") (by rfl) T.z_int (by decide +kernel) rfl) pa_nil))) (pe_one (pe_not (pe_callB call_isi (by rfl) T.z_isinstance (by decide +kernel) (pa_cons (pv 0) (pa_cons (pe_bltn (v := .ty "bool") (u := .type "bool") (by rfl) T.z_bool (by decide +kernel) rfl) pa_nil)))))))), ?_⟩
  refine ⟨_, rfl, _, _, _, _, _, rfl, .ty _, .base (.int i), kit_ii, _, rfl, iteT ?_⟩
  exact ⟨_, rfl, _, _, _, _, _, rfl, .ty _, .base (.int i), kit_ib, _, rfl, q⟩
def sp__law_places : Sp := fun vs H Q _ => ∃ (l : Addr) (ws : List V) (cs : List Cell), vs = [.ref l, .int (cs.length : Int)] ∧ H l = some (.lst ws) ∧ Cells H ws cs ∧ Q (.bl true) H
theorem ok__law_places (T : Top K mg) : FnOk P w K mg base CX0 2 T.a__law_places T.d__law_places ["found", "many"] sp__law_places := by
  refine T.F__law_places.ok sc__law_places (fun vs H Q E h => ?_) (fun cdv A outer s H vs Q E hr h => ?_)
  · obtain ⟨_, _, _, rfl, _⟩ := h
    rfl
  obtain ⟨l, ws, cs, rfl, hl, hc, q⟩ := h
  refine ⟨_, (pss_cons (ps_if (PW.pt (pw_or (pt_not (pt_val (pe_callB call_isi (by rfl) T.z_isinstance (by decide +kernel) (pa_cons (pv 0) (pa_cons (pe_bltn (v := .ty "list") (u := .type "list") (by rfl) T.z_list (by decide +kernel) rfl) pa_nil))))) (pw_or1 (pt_cmpR op_ne (pe_callB call_len_seq (by rfl) T.z_len PySem.boot_len (pa_cons (pv 0) pa_nil)) (pv 1) (nomark _)))))
      (pss_one (ps_ret pe_bl)) pss_nil)
      (pss_cons (ps_for PassesOwn.never rfl (pi_list (pv 0)) (pg_name (i := 2) sc__law_places.nd rfl (Or.inl rfl))
      (pss_one (ps_if (PW.pt (pw_or (pt_not (pt_val (pe_callB call_isi (by rfl) T.z_isinstance (by decide +kernel) (pa_cons (pv 2) (pa_cons (pe_bltn (v := .ty "tuple") (u := .type "tuple") (by rfl) T.z_tuple (by decide +kernel) rfl) pa_nil))))) (pw_or (pt_cmpR op_ne (pe_callB call_len_seq (by rfl) T.z_len PySem.boot_len (pa_cons (pv 2) pa_nil)) pe_int (nomark _)) (pw_or (pt_not (pt_val (pe_call (ok__law_whole T) (hr.mono (by decide)) rfl T.m__law_whole T.F__law_whole.kp T.B__law_whole .nil pass0 (pa_cons (pe_ix ix_tup (pv 2) pe_int (fun _ _ => rfl)) pa_nil)))) (pw_or1 (pt_not (pt_val (pe_call (ok__law_whole T) (hr.mono (by decide)) rfl T.m__law_whole T.F__law_whole.kp T.B__law_whole .nil pass0 (pa_cons (pe_ix ix_tup (pv 2) pe_int (fun _ _ => rfl)) pa_nil)))))))))
      (pss_one (ps_ret pe_bl)) pss_nil)))
      (pss_one (ps_ret pe_bl)))), ?_⟩
  have hlen := hc.len
  refine ⟨_, rfl, _, _, _, _, _, rfl, .ty _, .base (.lst hl), kit_ll, _, rfl, iteF ?_⟩
  refine ⟨_, rfl, l, _, rfl, .inl (SqL.of hl), _, rfl, rfl, _, rfl, ?_⟩
  rw [show decide (V.int (ws.length : Int) = V.int (cs.length : Int)) = true from decide_eq_true (by rw [hlen])]
  refine iteF ?_
  refine ⟨_, rfl, l, rfl, ⟨_, SqL.of hl⟩, for_list (K := K) (a := l) (xs := ws) (fun i σ H' => H' = H ∧ ∃ v, σ = [some (.ref l), some (.int (cs.length : Int)), v]) ⟨rfl, none, rfl⟩ (fun i σ H' _ ⟨e, _⟩ => by rw [e]; exact SqL.of hl) ?_ ?_⟩
  · rintro i x σ H' hi ⟨rfl, v, rfl⟩
    obtain ⟨a, c, rfl, _, ha⟩ := hc.get hi
    refine ⟨_, rfl, _, _, _, _, _, rfl, .ty _, .base (.tup ha), kit_tt, _, rfl, iteF ?_⟩
    refine ⟨_, rfl, a, _, rfl, .inr (SqT.of ha), rfl, _, rfl, iteF ?_⟩
    refine ⟨_, rfl, a, _, _, _, rfl, rfl, SqT.of ha, atI_nat (j := 0) rfl, _, rfl, _, rfl, iteF ?_⟩
    refine ⟨_, rfl, a, _, _, _, rfl, rfl, SqT.of ha, atI_nat (j := 1) rfl, _, rfl, _, rfl, iteF ?_⟩
    exact ⟨rfl, _, rfl⟩
  · rintro σ H' ⟨rfl, v, rfl⟩
    exact q
end
end Sw
namespace Sw
open PySem PySem.Spec PyProof.Rows L2
section
variable {P : Program} {w : World} {K : PySem.W.Frag} {mg : Str → Option Value} {base : Heap}
/-! the law's helpers -/
def sp__law_met (C : Addr) : Sp := fun vs H Q _ => ∃ (p l : Addr) (B : Bd) (h w : Nat) (r c : Int) (hd : List Nat), vs = [.ref p, .int r, .int c, .str (txt hd)] ∧ BoardAt C H p l B ∧ IsB B h w ∧ (hd = [] ∨ hd = [110] ∨ hd = [119]) ∧
  (¬ Ins h w (r, c) → Q (.bl true) H) ∧
  (Ins h w (r, c) → hd = [] → Q (.str (txt [cel B (r, c)])) H) ∧
  (Ins h w (r, c) → ∀ x, hd = [x] → ∀ (p' l' : Addr) (H' : Hp), Same H H' → H p' = none → BoardAt C H' p' l' (putB B (r, c) x) → Q (.ref p') H')
theorem ok__law_met (T : Top K mg) : FnOk P w K mg base CX0 6 T.a__law_met T.d__law_met ["board", "r", "c", "hand"] (sp__law_met T.C_Board) := by
  refine T.F__law_met.ok sc__law_met (fun vs H Q E h => ?_) (fun cdv A outer s H vs Q E hr h => ?_)
  · obtain ⟨_, _, _, _, _, _, _, _, rfl, _⟩ := h
    rfl
  obtain ⟨p, l, B, h, w, r, c, hd, rfl, bt, I, hh, q1, q2, q3⟩ := h
  refine ⟨_, (pss_one (ps_try_as (i := 4) (Wout := fun _ _ _ _ => False) rfl rfl sc__law_met.nd rfl rfl ⟨rfl, by decide, .inl T.mC_NoCell⟩ takes0 (fun W pn xe tk po => (pss_cons (ps_if (pt_cmpR op_eq (pv 3) pe_str (nomark _))
      (pss_one (ps_ret (pe_callS (ok_sign T) (hr.mono (by decide)) rfl T.m_sign T.F_sign.kp T.B_sign (fun σ => passAt tk σ) (pa_cons (pv 0) (pa_cons (pv 1) (pa_cons (pv 2) pa_nil)))))) pss_nil)
      (pss_one (ps_ret (pe_callS (ok_laid T) (hr.mono (by decide)) rfl T.m_laid T.F_laid.kp T.B_laid (fun σ => passAt tk σ) (pa_cons (pv 0) (pa_cons (pv 1) (pa_cons (pv 2) (pa_cons (pv 3) pa_nil)))))))))
      (fun a oe cls d pn hz hf => (pss_one (ps_ret (pe_callB (call_isXK (K := K) rfl hz hf) (by rfl) T.z_isinstance (by decide +kernel) (pa_cons (pv 4) (pa_cons (pe_glob (v := .ref T.C_ShoreError) rfl T.mC_ShoreError rfl) pa_nil)))))))), ?_⟩
  have exE : ¬ Ins h w (r, c) → ∃ b, PySem.W.exmOne K (.ref T.C_NoCell) (.ref T.C_NoCell) = some b ∧ b = true := fun _ => ⟨true, exm_of T.b_NoCell T.i_NoCell T.t_NoCell T.s_NoCell_NoCell, rfl⟩
  refine ⟨_, rfl, rfl, _, rfl, ?_⟩
  refine iteD (fun e => ?_) (fun e => ?_)
  · rw [s_nil] at e
    have e' := txt_inj (V.str.inj e)
    refine ⟨_, rfl, _, rfl, _, rfl, p, l, B, h, w, r, c, rfl, bt, I, fun z => ?_, fun z => q2 z e'⟩
    refine ⟨true, exm_of T.b_NoCell T.i_NoCell T.t_NoCell T.s_NoCell_NoCell, (fun _ a na => ?_), fun z => nomatch z⟩
    exact ⟨_, rfl, _, rfl, rfl, T.E_NoCell, _, _, _, rfl, (fun u r => r), T.kit_NoCell_ShoreError, q1 z⟩
  · rw [s_nil] at e
    have ex : ∃ x, hd = [x] ∧ (x = 110 ∨ x = 119 ∨ x = 46) := by
      rcases hh with rfl | rfl | rfl
      · exact absurd rfl e
      · exact ⟨110, rfl, .inl rfl⟩
      · exact ⟨119, rfl, .inr (.inl rfl)⟩
    obtain ⟨x, rfl, hx⟩ := ex
    refine ⟨_, rfl, _, rfl, _, rfl, _, rfl, p, l, B, h, w, r, c, x, rfl, bt, I, hx, fun z => ?_, fun z => q3 z x rfl⟩
    refine ⟨true, exm_of T.b_NoCell T.i_NoCell T.t_NoCell T.s_NoCell_NoCell, (fun _ a na => ?_), fun z => nomatch z⟩
    exact ⟨_, rfl, _, rfl, rfl, T.E_NoCell, _, _, _, rfl, (fun u r => r), T.kit_NoCell_ShoreError, q1 z⟩
theorem nw_at {k : Int} (h0 : 0 ≤ k) (h1 : k < 2) : ∃ x : Nat, atI (Str.ofString "nw").cps.toList k = some x ∧ (x = 110 ∨ x = 119) := by
  rw [s_nw]
  have : k = 0 ∨ k = 1 := by omega
  rcases this with rfl | rfl
  · exact ⟨110, rfl, .inl rfl⟩
  · exact ⟨119, rfl, .inr rfl⟩
def kvsO : List (Key × V) := [(Sum.inr (Str.ofString "n"), .str (Str.ofString "w")), (Sum.inr (Str.ofString "w"), .str (Str.ofString "n"))]
theorem get_oth {x : Nat} (h : x = 110 ∨ x = 119 ∨ x = 46) : (valV (mergeK [] kvsO) (Sum.inr (txt [x]) : Key)).getD (.str (Str.ofString ".")) = .str (txt [oth x]) := by
  rcases h with rfl | rfl | rfl <;> decide +kernel
def sp__law_over : Sp := fun vs H Q _ => ∃ (l : Addr) (B : Bd) (h w : Nat), vs = [.ref l] ∧ H l = some (.lst (rowsV B)) ∧ IsB B h w ∧
  ∀ (p : Addr) (H' : Hp), Same H H' → H' p = some (.lst (rowsV (tov B w))) → Q (.ref p) H'
theorem ok__law_over (T : Top K mg) : FnOk P w K mg base CX0 1 T.a__law_over T.d__law_over ["rows"] sp__law_over := by
  refine T.F__law_over.ok sc__law_over (fun vs H Q E h => ?_) (fun cdv A outer s H vs Q E hr h => ?_)
  · obtain ⟨_, _, _, _, rfl, _⟩ := h
    rfl
  obtain ⟨l, B, h, w, rfl, hl, I, q⟩ := h
  have hu := hu_of hr
  refine ⟨_, (pss_cons (ps_set (i := 1) sc__law_over.nd rfl (Or.inl rfl) (pe_lst pa_nil))
      (pss_cons (ps_for PassesOwn.never rfl (pi_range1 rfl T.z_range (pa_cons (pe_callB call_len_str (by rfl) T.z_len PySem.boot_len (pa_cons (pe_ix ix_list (pv 0) pe_int (fun _ _ => rfl)) pa_nil)) pa_nil)) (pg_name (i := 2) sc__law_over.nd rfl (Or.inr rfl))
      (pss_one (ps_expr (pe_bm PySem.F.plainAttrs_list PySem.F.slot_list_append PySem.F.type_list_append mt_append (pv 1) (pa_cons (pe_join pe_str (pe_lc (own := [("row", 3)]) (g := gName 3) (tt := tYes) rfl sc__law_over.nd (pi_list (pv 0)) (blkOk_by (own := [("row", 3)]) (N := N__law_over) (sc := defScope s__law_over) (by decide +kernel)) (fun _ _ _ _ _ => (pg_name (i := 3) sc__law_over.nd rfl (Or.inl rfl))) (fun _ _ _ _ _ => pts_nil) (fun _ _ _ _ _ => (pe_dget2 hu (pe_disp (pps_cons pe_str pe_str (pps_cons pe_str pe_str pps_nil)) (by rfl) (by rfl) (fun z => by cases z) (by decide)) (pe_ix ix_str (pv 3) (pv 2) (fun _ _ => rfl)) pe_str ⟨by rfl, by rfl, by rfl, by rfl⟩)))) pa_nil)))))
      (pss_one (ps_ret (pv 1))))), ?_⟩
  have h9 := I.h9
  have w9 := I.w9
  obtain ⟨r0, er0, lr0⟩ := I.row (i := 0) I.h1
  refine ⟨sz0, fun n hn => ?_⟩
  have s0 := same_new hn (.lst [])
  refine ⟨_, rfl, l, _, _, _, rfl, rfl, SqL.of (s0 _ _ hl), atI_nat (j := 0) (rowsV_get er0), _, rfl, sz_le (by rw [txt_len]; omega), ?_⟩
  rw [txt_len, lr0]
  refine ⟨(w : Int), rfl, by omega, by omega,
    for_range (lo := 0) (n := w) (fun i σ H' => Same H H' ∧ H' n = some (.lst (rowsV ((List.range i).map (tcol B)))) ∧ ∃ v1 v2, σ = [some (.ref l), some (.ref n), v1, v2]) ⟨s0, upd_same, _, _, rfl⟩ ?_ ?_⟩
  · rintro i σ H1 hi ⟨s1, hn1, v1, v2, rfl⟩
    have hl1 := s1 _ _ hl
    refine ⟨_, rfl, .inl ⟨rfl, _, SqL.of hn1⟩, ⟨_, rfl⟩, _, rfl, l, rfl, ⟨_, SqL.of hl1⟩, fun D hD =>
      lc_it walk_list (fun j H' => Same H1 H' ∧ H' D = some (.lst (((B.take j).map fun r => oth (r.getD i 0)).map fun c => V.str (txt [c])))) ⟨same_new hD _, upd_same⟩ (fun _ H' _ ⟨s, _⟩ => SqL.of (s _ _ hl1))
        (fun j x H2 H3 hj ⟨s2, h2⟩ ⟨e3, ex⟩ => ?_) (fun H2 ⟨s2, h2⟩ => ?_)⟩
    · subst e3
      obtain ⟨row, ey, rfl⟩ := rowsV_inv ex
      have my : row ∈ B := List.mem_of_getElem? ey
      have lrow := I.ww _ my
      have hil : i < row.length := by omega
      have ei : row[((0 : Int) + (i : Int)).toNat]? = some (row.getD i 0) := by
        rw [show ((0 : Int) + (i : Int)).toNat = i by omega, List.getD_eq_getElem?_getD, List.getElem?_eq_getElem hil]
        rfl
      have ok := I.ok row my (row.getD i 0) (List.mem_of_getElem? ei)
      refine ⟨rfl, fun d hd => ⟨upd_same, kvsO, rfl, by decide, d, rfl, .inl ⟨_, .inl upd_same⟩, ?_⟩⟩
      refine ⟨_, rfl, _, rfl, _, _, _, rfl, rfl, sz_le (by rw [txt_len]; omega), atI_cps (by omega) ei, ?_⟩
      refine ⟨_, DGet.k (k := Sum.inr (txt [row.getD i 0])) upd_same, ?_⟩
      rw [get_oth ok, upd_upd]
      have s3 := same_new hd (.dK (mergeK [] kvsO))
      refine ⟨_, s3 _ _ h2, sz_lt (by rw [List.length_map, List.length_map, List.length_take]; have := I.hh; omega), same_mut (s2.trans s3) hD, ?_⟩
      rw [upd_same, take_map_snoc ey, List.map_append]
      rfl
    · rw [rowsV_len, List.take_length] at h2
      have h3 : H2 D = some (.lst (((tcol B i).map fun c => txt [c]).map V.str)) := by
        rw [h2]
        show some (HO.lst ((tcol B i).map fun c => V.str (txt [c]))) = _
        rw [List.map_map]
        rfl
      have len1 : ∀ l : List Nat, ((l.map fun c => txt [c]).map fun x : Str => x.length).sum = l.length := by
        intro l
        induction l with
        | nil => rfl
        | cons a l ih =>
          rw [List.map_cons, List.map_cons, List.sum_cons, ih, List.length_cons]
          show 1 + l.length = l.length + 1
          omega
      have ltc : (tcol B i).length = h := by
        unfold tcol
        rw [List.length_map, I.hh]
      refine ⟨_, D, (tcol B i).map fun c => txt [c], rfl, rfl, .inl (SqL.of h3), ?_, ?_⟩
      · rw [s_nil, len1, List.length_map, ltc]
        show h + h * 0 ≤ 16777216
        omega
      rw [s_nil, join_txt]
      refine ⟨n, _, _, rfl, rfl, s2 _ _ hn1, ?_, ?_⟩
      · rw [rowsV_len, List.length_map, List.length_range]
        exact sz_lt (by omega)
      refine ⟨same_mut (s1.trans s2) hn, ?_, _, _, rfl⟩
      rw [upd_same, List.range_succ]
      unfold rowsV
      rw [List.map_append, List.map_append]
      rfl
  · rintro σ H1 ⟨s1, hn1, v1, v2, rfl⟩
    exact ⟨_, rfl, q n _ s1 hn1⟩
def sp_law (K : PySem.W.Frag) : Sp := fun vs H Q _ => ∃ (a : Addr) (ns : List Int), vs = [.ref a] ∧ SqL K H a (ns.map V.int) ∧ ns.length ≤ 63 ∧ ∀ H', Q (.bl true) H'
theorem ok_law (T : Top K mg) : FnOk P w K mg base CX0 8 T.a_law T.d_law ["script"] (sp_law K) := by
  refine T.F_law.ok sc_law (fun vs H Q E h => ?_) (fun cdv A outer s H vs Q E hr h => ?_)
  · obtain ⟨_, _, rfl, _⟩ := h
    rfl
  obtain ⟨a, ns, rfl, hS, hlen, q⟩ := h
  refine ⟨_, (pss_cons (ps_asg (pe_call (ok__law_size_by T) (hr.mono (by decide)) rfl T.m__law_size_by T.F__law_size_by.kp T.B__law_size_by .nil pass0 (pa_cons (pv 0) (pa_cons pe_int pa_nil))) (pg_tup rfl (pgs_cons (pg_name (i := 10) sc_law.nd rfl (Or.inl rfl)) (pgs_cons (pg_name (i := 11) sc_law.nd rfl (Or.inl rfl)) pgs_nil))))
      (pss_cons (ps_set (i := 1) sc_law.nd rfl (Or.inr rfl) (pe_call (ok__law_rows_by T) (hr.mono (by decide)) rfl T.m__law_rows_by T.F__law_rows_by.kp T.B__law_rows_by .nil pass0 (pa_cons (pv 0) (pa_cons (pv 10) (pa_cons (pv 11) (pa_cons pe_bl pa_nil))))))
      (pss_cons (ps_set (i := 2) sc_law.nd rfl (Or.inl rfl) (pe_make T.Mk_Board (ok_Board_init T) (hr.mono (by decide)) (by rfl) T.mC_Board T.B_Board___init__ .nil passL (pa_cons (pe_callTy call_list_of (by rfl) T.z_list (by decide +kernel) (pa_cons (pv 1) pa_nil)) pa_nil)))
      (pss_cons (ps_par (i := 12) (j := 13) (by rfl) sc_law.nd rfl rfl (by decide) rfl rfl (pa_cons (pe_op op_sub (pe_op op_mod (pe_call (ok__law_cell_at T) (hr.mono (by decide)) rfl T.m__law_cell_at T.F__law_cell_at.kp T.B__law_cell_at .nil pass0 (pa_cons (pv 0) (pa_cons pe_int pa_nil))) (pe_op op_add (pv 10) pe_int)) pe_int) (pa_cons (pe_op op_sub (pe_op op_mod (pe_call (ok__law_cell_at T) (hr.mono (by decide)) rfl T.m__law_cell_at T.F__law_cell_at.kp T.B__law_cell_at .nil pass0 (pa_cons (pv 0) (pa_cons pe_int pa_nil))) (pe_op op_add (pv 11) pe_int)) pe_int) pa_nil)) (by rfl))
      (Evl.pss_cut (ps_if (pt_cmpR op_eq (pe_op op_mod (pe_call (ok__law_cell_at T) (hr.mono (by decide)) rfl T.m__law_cell_at T.F__law_cell_at.kp T.B__law_cell_at .nil pass0 (pa_cons (pv 0) (pa_cons pe_int pa_nil))) pe_int) pe_int (nomark _))
      (pss_one (ps_set (i := 12) sc_law.nd rfl (Or.inl rfl) (pe_op op_add (pv 12) (pe_op op_pow pe_int pe_int)))) pss_nil)
      (pss_cons (ps_set (i := 3) sc_law.nd rfl (Or.inl rfl) (pe_ix ix_str pe_str (pe_op op_mod (pe_op op_fdiv (pe_call (ok__law_cell_at T) (hr.mono (by decide)) rfl T.m__law_cell_at T.F__law_cell_at.kp T.B__law_cell_at .nil pass0 (pa_cons (pv 0) (pa_cons pe_int pa_nil))) pe_int) pe_int) (fun _ _ => rfl)))
      (pss_cons (ps_set (i := 4) sc_law.nd rfl (Or.inl rfl) (pe_call (ok__law_met T) (hr.mono (by decide)) rfl T.m__law_met T.F__law_met.kp T.B__law_met .nil pass0 (pa_cons (pv 2) (pa_cons (pv 12) (pa_cons (pv 13) (pa_cons pe_str pa_nil))))))
      (pss_cons (ps_set (i := 5) sc_law.nd rfl (Or.inl rfl) (pe_call (ok__law_met T) (hr.mono (by decide)) rfl T.m__law_met T.F__law_met.kp T.B__law_met .nil pass0 (pa_cons (pv 2) (pa_cons (pv 12) (pa_cons (pv 13) (pa_cons (pv 3) pa_nil))))))
      (Evl.pss_cut (ps_if (pt_not (PW.pt (pw_and (pt_chain op_le op_lt pe_int (pv 12) (pv 10)) (pw_and1 (pt_chain op_le op_lt pe_int (pv 13) (pv 11))))))
      (pss_one (ps_if (PW.pt (pw_or (pt_cmpR op_notBl (pv 4) pe_bl (nomark _)) (pw_or1 (pt_cmpR op_notBl (pv 5) pe_bl (nomark _)))))
      (pss_one (ps_ret pe_bl)) pss_nil)) (pss_cons (ps_set (i := 14) sc_law.nd rfl (Or.inl rfl) (pe_op op_add_str (pe_op op_add_str (pe_slice sl_str (pe_ix ix_list (pv 1) (pv 12) (fun _ _ => rfl)) po_none (po_some (pv 13))) (pv 3)) (pe_slice sl_str (pe_ix ix_list (pv 1) (pv 12) (fun _ _ => rfl)) (po_some (pe_op op_add (pv 13) pe_int)) po_none)))
      (pss_cons (ps_set (i := 15) sc_law.nd rfl (Or.inl rfl) (pe_op op_cat (pe_op op_cat (pe_slice sl_list (pv 1) po_none (po_some (pv 12))) (pe_lst (pa_cons (pv 14) pa_nil))) (pe_slice sl_list (pv 1) (po_some (pe_op op_add (pv 12) pe_int)) po_none)))
      (pss_cons (ps_if (PW.pt (pw_or (pt_not (pt_val (pe_callB call_isi (by rfl) T.z_isinstance (by decide +kernel) (pa_cons (pv 4) (pa_cons (pe_bltn (v := .ty "str") (u := .type "str") (by rfl) T.z_str (by decide +kernel) rfl) pa_nil))))) (pw_or1 (pt_cmpR op_ne (pv 4) (pe_ix ix_str (pe_ix ix_list (pv 1) (pv 12) (fun _ _ => rfl)) (pv 13) (fun _ _ => rfl)) (nomark _)))))
      (pss_one (ps_ret pe_bl)) pss_nil)
      (pss_one (ps_if (PW.pt (pw_or (pt_not (pt_val (pe_callB call_isi (by rfl) T.z_isinstance (by decide +kernel) (pa_cons (pv 5) (pa_cons (pe_glob (v := .ref T.C_Board) rfl T.mC_Board rfl) pa_nil))))) (pw_or1 (pt_cmpR (op_neD hr.units) (pe_fld (pv 5) rfl) (pv 15) (nomark _)))))
      (pss_one (ps_ret pe_bl)) pss_nil))))))
      (pss_cons (ps_set (i := 6) sc_law.nd rfl (Or.inl rfl) (pe_lst pa_nil))
      (pss_cons (ps_for PassesOwn.never rfl (pi_range1 rfl T.z_range (pa_cons (pv 10) pa_nil)) (pg_name (i := 7) sc_law.nd rfl (Or.inr rfl))
      (pss_one (ps_set (i := 6) sc_law.nd rfl (Or.inl rfl) (pe_op op_cat (pv 6) (pe_lc (own := [("x", 16)]) (g := gName 16) rfl sc_law.nd (pi_range1 rfl T.z_range (pa_cons (pv 11) pa_nil)) (blkOk_by (own := [("x", 16)]) (N := N_law) (sc := defScope s_law) (by decide +kernel)) (fun _ _ _ _ _ => (pg_name (i := 16) sc_law.nd rfl (Or.inl rfl))) (fun _ _ _ _ _ => pts_one (pt_cmpR op_eq (pe_ix ix_str (pe_ix (ix_listK (K := K) rfl) (pv 1) (pv 7) (fun _ _ => rfl)) (pv 16) (fun _ _ => rfl)) pe_str (nomark _))) (fun _ _ _ _ _ => (pe_tup (pa_cons (pv 7) (pa_cons (pv 16) pa_nil)))))))))
      (pss_cons (ps_set (i := 8) sc_law.nd rfl (Or.inl rfl) (pe_call (ok_empty T) (hr.mono (by decide)) rfl T.m_empty T.F_empty.kp T.B_empty .nil pass0 (pa_cons (pv 2) pa_nil)))
      (pss_cons (ps_if (PW.pt (pw_or (pt_not (pt_val (pe_call (ok__law_places T) (hr.mono (by decide)) rfl T.m__law_places T.F__law_places.kp T.B__law_places .nil pass0 (pa_cons (pv 8) (pa_cons (pe_callB call_len_seq (by rfl) T.z_len PySem.boot_len (pa_cons (pv 6) pa_nil)) pa_nil))))) (pw_or (pt_cmpR (op_neD hr.units) (pv 8) (pv 6) (nomark _)) (pw_or1 (pt_cmpR (op_neD hr.units) (pe_fld (pv 2) rfl) (pv 1) (nomark _))))))
      (pss_one (ps_ret pe_bl)) pss_nil)
      (pss_cons (ps_expr (pe_bm PySem.F.plainAttrs_list PySem.F.slot_list_append PySem.F.type_list_append mt_append (pv 8) (pa_cons (pe_tup (pa_cons pe_int (pa_cons pe_int pa_nil))) pa_nil)))
      (pss_cons (ps_if (pt_cmpR (op_neD hr.units) (pe_call (ok_empty T) (hr.mono (by decide)) rfl T.m_empty T.F_empty.kp T.B_empty .nil pass0 (pa_cons (pv 2) pa_nil)) (pv 6) (nomark _))
      (pss_one (ps_ret pe_bl)) pss_nil)
      (pss_cons (ps_set (i := 9) sc_law.nd rfl (Or.inl rfl) (pe_call (ok_turned_over T) (hr.mono (by decide)) rfl T.m_turned_over T.F_turned_over.kp T.B_turned_over .nil pass0 (pa_cons (pv 2) pa_nil)))
      (pss_one (ps_ret (pe_and (pe_callB call_isi (by rfl) T.z_isinstance (by decide +kernel) (pa_cons (pv 9) (pa_cons (pe_glob (v := .ref T.C_Board) rfl T.mC_Board rfl) pa_nil))) (pe_and (pe_cmpR (op_eqD hr.units) (pe_fld (pv 9) rfl) (pe_call (ok__law_over T) (hr.mono (by decide)) rfl T.m__law_over T.F__law_over.kp T.B__law_over .nil pass0 (pa_cons (pv 1) pa_nil)) (nomark _)) (pe_one (pe_cmpR (op_eqD hr.units) (pe_fld (pv 2) rfl) (pv 1) (nomark _))))))))))))))))))))))), ?_⟩
  -- height, width; rows
  refine ⟨_, rfl, a, ns, 9, rfl, hS, by decide, fun h w t H1 h1 h9 w1 w9 s1 ht => ?_⟩
  obtain ⟨h, rfl⟩ : ∃ n : Nat, h = (n : Int) := ⟨h.toNat, by omega⟩
  obtain ⟨w, rfl⟩ : ∃ n : Nat, w = (n : Int) := ⟨w.toNat, by omega⟩
  refine ⟨t, _, rfl, SqT.of ht, rfl, _, _, rfl, _, _, rfl, rfl, ?_⟩
  refine ⟨_, rfl, _, rfl, _, rfl, a, ns, h, w, false, rfl, s1.seq hS, by omega, by omega, by omega, by omega, fun B l H2 s2 nl hl I _ => ?_⟩
  -- board
  refine gn ?_
  refine q_make I (fun R k => ⟨_, rfl, l, _, rfl, .inl (SqL.of hl), fun n hn => k n _ (same_new hn _) upd_same⟩) (fun o lb H3 s3 no nlb bt => ?_)
  have hl3 := s3 _ _ hl
  have hS3 := (s1.trans (s2.trans s3)).seq hS
  -- r, c
  refine ⟨_, rfl, a, ns, 12, rfl, hS3, by decide, _, rfl, _, _, rfl, rfl, _, _, rfl, rfl, ?_, _, _, rfl, rfl, _, rfl, a, ns, 13, rfl, hS3, by decide, _, rfl, _, _, rfl, rfl, _, _, rfl, rfl, ?_, _, _, rfl, rfl, _, _, rfl, ?_⟩
  · show (0 : Int) < (h : Int) + 2
    omega
  · show (0 : Int) < (w : Int) + 2
    omega
  refine ⟨fun σ H' => H3 = H' ∧ ∃ r c : Int, σ = [some (.ref a), some (.ref l), some (.ref o), none, none, none, none, none, none, none, some (.int h), some (.int w), some (.int r), some (.int c), none, none, none], ?_, ?_⟩
  · refine ⟨_, rfl, a, ns, 14, rfl, hS3, by decide, _, _, rfl, rfl, (show (0 : Int) < 9 by decide), rfl, _, rfl, iteD (fun _ => ?_) (fun _ => ?_)⟩
    · exact ⟨_, rfl, _, _, rfl, rfl, ⟨by decide, by decide, by decide⟩, _, _, rfl, rfl, rfl, _, _, rfl⟩
    · exact ⟨rfl, _, _, rfl⟩
  rintro σ H' ⟨rfl, r, c, rfl⟩
  -- hand
  have hn2 := Int.emod_nonneg (sAt ns 14 / 9) (show (2 : Int) ≠ 0 by decide)
  have hn3 := Int.emod_lt_of_pos (sAt ns 14 / 9) (show (0 : Int) < 2 by decide)
  obtain ⟨x, ex, hx⟩ := nw_at hn2 hn3
  refine ⟨_, rfl, a, ns, 14, rfl, hS3, by decide, _, _, rfl, rfl, ⟨by decide, by decide⟩, _, _, rfl, rfl, (show (0 : Int) < 2 by decide), _, _, x, rfl, rfl, (show (2 : Nat) ≤ sizeLine by decide), ex, ?_⟩
  refine gn ?_
  -- told, made
  refine qa (fun v H4 => H3 = H4 ∧ (¬ Ins h w (r, c) → v = .bl true) ∧ (Ins h w (r, c) → v = .str (txt [cel B (r, c)]))) (fun Q' k => ?_) (fun told H4 hv => ?_)
  · refine ⟨_, rfl, _, rfl, _, rfl, o, lb, B, h, w, r, c, [], by rw [s_nil]; rfl, bt, I, .inl rfl, (fun z => k _ _ ⟨rfl, fun _ => rfl, fun y => absurd y z⟩), (fun z _ => k _ _ ⟨rfl, fun y => absurd z y, fun _ => rfl⟩), (fun _ _ z => by cases z)⟩
  obtain ⟨rfl, told1, told2⟩ := hv
  refine qa (fun v H4 => Same H3 H4 ∧ (¬ Ins h w (r, c) → v = .bl true) ∧ (Ins h w (r, c) → ∃ p' l', v = .ref p' ∧ BoardAt T.C_Board H4 p' l' (putB B (r, c) x))) (fun Q' k => ?_) (fun made H4 hv => ?_)
  · refine ⟨_, rfl, _, rfl, _, rfl, _, rfl, o, lb, B, h, w, r, c, [x], rfl, bt, I, ?_, (fun z => k _ _ ⟨.refl _, fun _ => rfl, fun y => absurd y z⟩), (fun z e => by cases e), (fun z y e p' l' H' s' n' b' => k _ _ ⟨s', fun y => absurd z y, fun _ => ⟨p', l', rfl, ?_⟩⟩)⟩
    · rcases hx with rfl | rfl
      · exact .inr (.inl rfl)
      · exact .inr (.inr rfl)
    · have : y = x := (List.cons.inj e).1.symm
      rw [← this]
      exact b'
  obtain ⟨s4, made1, made2⟩ := hv
  have hl4 := s4 _ _ hl3
  -- the look at both
  refine ⟨fun σ H' => Same H3 H' ∧ ∃ v1 v2 v3 v4 v5 v6 v7, σ = [some (.ref a), some (.ref l), some (.ref o), v1, v2, v3, none, none, none, none, some (.int h), some (.int w), v4, v5, v6, v7, none], ?_, ?_⟩
  · by_cases z : Ins h w (r, c)
    · -- on the board
      obtain ⟨row, er, mr, lr, ec, _⟩ := I.at z
      have z1 := z.1
      have z2 := z.2.1
      have z3 := z.2.2.1
      have z4 := z.2.2.2
      have t2 := told2 z
      obtain ⟨p', l', rfl, bt'⟩ := made2 z
      subst t2
      refine ⟨_, rfl, _, _, rfl, rfl, _, rfl, iteD (fun _ => ?_) (fun y => absurd z1 y)⟩
      refine ⟨_, rfl, _, _, rfl, rfl, _, rfl, iteD (fun _ => ?_) (fun y => absurd z2 y)⟩
      refine ⟨_, rfl, _, _, rfl, rfl, _, rfl, iteD (fun _ => ?_) (fun y => absurd z3 y)⟩
      refine ⟨_, rfl, _, _, rfl, rfl, _, rfl, iteN (fun y => absurd z4 y) (fun _ => ?_)⟩
      have ltr : (txt row).length = w := by rw [txt_len, lr]
      have atr : atI (rowsV B) r = some (rowV row) := at_int z1 (rowsV_get er)
      have w9' := I.w9
      have h9' := I.h9
      -- line
      refine ⟨_, rfl, _, rfl, l, _, _, _, rfl, rfl, SqL.of hl4, atr, _, rfl, _, rfl, _, rfl, sz_le (by omega), ?_⟩
      rw [cutS_to z3 (by rw [lr]; omega)]
      refine ⟨_, rfl, _, _, rfl, rfl, ?_, _, rfl, _, rfl, l, _, _, _, rfl, rfl, SqL.of hl4, atr, _, rfl, _, _, rfl, rfl, _, rfl, _, rfl, sz_le (by omega), ?_⟩
      · rw [txt_len]
        show _ + 1 ≤ sizeLine
        rw [List.length_take]
        exact sz_le (by omega)
      have e1 : (Str.mk #[x]) = txt [x] := rfl
      rw [cutS_from (by omega) (by rw [lr]; omega), e1, txt_app]
      refine ⟨_, _, rfl, rfl, ?_, ?_⟩
      · rw [txt_len, txt_len, List.length_append, List.length_take, List.length_drop]
        exact sz_le (by show _ + 1 + _ ≤ 1000000; omega)
      have etx : row.take c.toNat ++ [x] ++ row.drop (c + 1).toNat = row.set c.toNat x := by
        rw [show (c + 1).toNat = c.toNat + 1 by omega]
        exact set_take_drop row c.toNat x (by omega)
      rw [txt_app, etx]
      refine gn ?_
      -- due
      refine qa (fun v H6 => Same H4 H6 ∧ ∃ d, v = .ref d ∧ H6 d = some (.lst (rowsV (putB B (r, c) x)))) (fun Q' k => ?_) (fun v H6 hv => ?_)
      · refine ⟨_, rfl, _, rfl, _, rfl, l, _, rfl, SqL.of hl4, fun p1 h1 => ?_⟩
        have s6 := same_new h1 (.lst (cutV (rowsV B) none (some r)))
        have c1 := cutV_length (rowsV B) none (some r)
        have lB : (rowsV B).length = h := by rw [rowsV_len, I.hh]
        refine ⟨_, rfl, sz1, fun p2 h2 => ?_⟩
        have s7 := same_new h2 (.lst [.str (txt (row.set c.toNat x))])
        refine ⟨p1, p2, _, _, rfl, rfl, s7 _ _ upd_same, upd_same, sz_le (by show _ + 1 ≤ 1000000; omega), fun p3 h3 => ?_⟩
        have s8 := same_new h3 (.lst (cutV (rowsV B) none (some r) ++ [.str (txt (row.set c.toNat x))]))
        refine ⟨_, rfl, _, rfl, _, _, rfl, rfl, _, rfl, l, _, rfl, SqL.of (s8 _ _ (s7 _ _ (s6 _ _ hl4))), fun p4 h4 => ?_⟩
        have s9 := same_new h4 (.lst (cutV (rowsV B) (some (r + 1)) none))
        have c4 := cutV_length (rowsV B) (some (r + 1)) none
        refine ⟨p3, p4, _, _, rfl, rfl, s9 _ _ upd_same, upd_same, sz_le (by rw [List.length_append]; show _ + 1 + _ ≤ 1000000; omega), fun p5 h5 => ?_⟩
        refine k _ _ ⟨s6.trans (s7.trans (s8.trans (s9.trans (same_new h5 _)))), p5, rfl, ?_⟩
        rw [upd_same, cutV_to z1 (by omega), cutV_from (by omega) (by omega)]
        refine congrArg (fun y => some (HO.lst y)) ?_
        rw [show (r + 1).toNat = r.toNat + 1 by omega, set_take_drop _ _ _ (by omega), putB_eq (p := (r, c)) er]
        unfold rowsV
        rw [List.map_set]
        rfl
      obtain ⟨s6, d, rfl, hd⟩ := hv
      have hl6 := s6 _ _ hl4
      have bt6 := bt'.same s6
      -- told
      refine ⟨_, rfl, _, _, _, _, _, rfl, .ty _, .base (.str _), kit_ss, _, rfl, iteF ?_⟩
      refine ⟨_, rfl, _, rfl, _, rfl, l, _, _, _, rfl, rfl, SqL.of hl6, atr, _, rfl, _, _, _, rfl, rfl, sz_le (by omega), atI_cps z3 ec, rfl, _, rfl, iteN (fun y => absurd rfl y) (fun _ => ?_)⟩
      -- made
      obtain ⟨⟨dx', ho'⟩, hl'⟩ := bt6
      have I' := putB_is I (r, c) (x := x) (by omega)
      refine ⟨_, rfl, _, _, _, _, _, rfl, .own _, .base (.ins ho' T.cl_Board T.iA_Board T.iS_Board T.iT_Board T.iM_Board), kit_self, _, rfl, iteF ?_⟩
      refine ⟨_, rfl, p', _, dx', _, _, rfl, ho', T.cl_Board, T.n_Board_rows, bfl_rows _ _ _, _, rfl, _, _, rows_dp hl', rows_dp hd, shaped_rows I'.small, shaped_rows I'.small, _, rfl, ?_⟩
      rw [eqv_rows I'.small]
      exact iteF ⟨s4.trans s6, _, _, _, _, _, _, _, rfl⟩
    · -- off the board
      have t1 := told1 z
      have m1 := made1 z
      subst t1 m1
      refine ⟨_, rfl, _, _, rfl, rfl, _, rfl, iteD (fun a1 => ?_) (fun a1 => ?_)⟩
      · refine ⟨_, rfl, _, _, rfl, rfl, _, rfl, iteD (fun a2 => ?_) (fun a2 => ?_)⟩
        · refine ⟨_, rfl, _, _, rfl, rfl, _, rfl, iteD (fun a3 => ?_) (fun a3 => ?_)⟩
          · refine ⟨_, rfl, _, _, rfl, rfl, _, rfl, iteN (fun a4 => ?_) (fun a4 => absurd ⟨a1, a2, a3, a4⟩ z)⟩
            exact ⟨_, rfl, true, true, rfl, rfl, _, rfl, iteN (fun y => absurd rfl y) fun _ => ⟨_, rfl, true, true, rfl, rfl, _, rfl, iteN (fun y => absurd rfl y) fun _ => ⟨s4, _, _, _, _, _, _, _, rfl⟩⟩⟩
          · refine ⟨_, rfl, ?_⟩
            refine iteT ?_
            exact ⟨_, rfl, true, true, rfl, rfl, _, rfl, iteN (fun y => absurd rfl y) fun _ => ⟨_, rfl, true, true, rfl, rfl, _, rfl, iteN (fun y => absurd rfl y) fun _ => ⟨s4, _, _, _, _, _, _, _, rfl⟩⟩⟩
        · refine iteT ?_
          exact ⟨_, rfl, true, true, rfl, rfl, _, rfl, iteN (fun y => absurd rfl y) fun _ => ⟨_, rfl, true, true, rfl, rfl, _, rfl, iteN (fun y => absurd rfl y) fun _ => ⟨s4, _, _, _, _, _, _, _, rfl⟩⟩⟩
      · refine ⟨_, rfl, ?_⟩
        refine iteF ?_
        refine iteT ?_
        exact ⟨_, rfl, true, true, rfl, rfl, _, rfl, iteN (fun y => absurd rfl y) fun _ => ⟨_, rfl, true, true, rfl, rfl, _, rfl, iteN (fun y => absurd rfl y) fun _ => ⟨s4, _, _, _, _, _, _, _, rfl⟩⟩⟩
  rintro σ H5 ⟨s5, v1, v2, v3, v4, v5, v6, v7, rfl⟩
  have hl5 := s5 _ _ hl3
  have bt5 := bt.same s5
  have w9' := I.w9
  have h9' := I.h9
  -- free
  refine qa (fun v H6 => Same H5 H6 ∧ ∃ f, v = .ref f ∧ H6 f = some (.lst [])) (fun Q' k => ⟨sz0, fun p hp => k _ _ ⟨same_new hp _, p, rfl, upd_same⟩⟩) (fun v H6 hv => ?_)
  obtain ⟨s6, f0, rfl, hf0⟩ := hv
  refine ⟨_, rfl, (h : Int), rfl, by omega, by omega,
    for_range (lo := 0) (n := h) (fun i σ H' => Same H5 H' ∧ ∃ f ws, H' f = some (.lst ws) ∧ Cells H' ws (emptyTo B i) ∧ ∃ u1 u2, σ = [some (.ref a), some (.ref l), some (.ref o), v1, v2, v3, some (.ref f), u1, none, none, some (.int h), some (.int w), v4, v5, v6, v7, u2]) ⟨s6, f0, [], hf0, .nil, _, _, rfl⟩ ?_ ?_⟩
  · rintro i σ H7 hi ⟨s7, f, ws, hf, hc, u1, u2, rfl⟩
    have hl7 := s7 _ _ hl5
    obtain ⟨row, ey, lrow⟩ := I.row hi
    have lc := hc.len
    have le := emptyTo_len I i (by omega)
    have lm : i * w ≤ 9 * 9 := Nat.mul_le_mul (by omega) w9'
    have ei : atI (rowsV B) (0 + (i : Int)) = some (rowV row) := at_int (by omega) (by rw [show ((0 : Int) + (i : Int)).toNat = i by omega]; exact rowsV_get ey)
    refine ⟨_, rfl, _, rfl, (w : Int), rfl, by omega, by omega, fun D hD =>
      lc_it walk_range (fun j H' => Same H7 H' ∧ ∃ ws2, H' D = some (.lst ws2) ∧ Cells H' ws2 (rowEt i row j)) ⟨same_new hD _, [], upd_same, .nil⟩ (fun _ _ _ _ => trivial)
        (fun j x H8 H9 hj ⟨s8, ws2, hD2, hc2⟩ ⟨e9, ex9⟩ => ?_) (fun H8 ⟨s8, ws2, hD2, hc2⟩ => ?_)⟩
    · subst e9 ex9
      have hjl : j < row.length := by
        have : j < (w : Int).toNat := hj
        omega
      have ec : row[((0 : Int) + (j : Int)).toNat]? = some (row.getD j 0) := by
        rw [show ((0 : Int) + (j : Int)).toNat = j by omega, List.getD_eq_getElem?_getD, List.getElem?_eq_getElem hjl]
        rfl
      have ltr : (txt row).length = w := by rw [txt_len, lrow]
      have lw := hc2.len
      have lw2 := rowEt_len i row j
      refine ⟨rfl, _, rfl, _, rfl, l, _, _, _, rfl, rfl, SqL.of (s8 _ _ hl7), ei, _, rfl, _, _, _, rfl, rfl, sz_le (by omega), atI_cps (by omega) ec, rfl, _, rfl, iteD (fun z => ?_) (fun z => ?_)⟩
      · rw [s_dot] at z
        have ez : row.getD j 0 = 46 := sg_eq.mp z
        refine ⟨_, rfl, _, rfl, sz2, fun t2 ht2' => ?_⟩
        have s10 := same_new ht2' (.tup [.int (0 + (i : Int)), .int (0 + (j : Int))])
        have hD5 := s10 _ _ hD2
        refine ⟨ws2, hD5, sz_lt (by omega), same_mut (s8.trans s10) hD, ws2 ++ [.ref t2], upd_same, ?_⟩
        rw [rowEt_yes ez]
        refine ((hc2.same s10).app (.one ?_)).tps (.lst hD5)
        rw [upd_same]
        show some (HO.tup [.int (0 + (i : Int)), .int (0 + (j : Int))]) = some (HO.tup [.int (i : Int), .int (j : Int)])
        rw [Int.zero_add, Int.zero_add]
      · rw [s_dot] at z
        refine ⟨s8, ws2, hD2, ?_⟩
        rw [rowEt_no (fun e => z (by rw [e]; rfl))]
        exact hc2
    · have e1 : (w : Int).toNat = row.length := by omega
      rw [e1] at hc2
      have lw := hc2.len
      have lw2 := rowEt_len i row row.length
      refine ⟨f, D, ws, ws2, rfl, rfl, s8 _ _ hf, hD2, sz_le (by omega), fun f' hf' => ?_⟩
      have s9 := s8.trans (same_new hf' (.lst (ws ++ ws2)))
      refine ⟨s7.trans s9, f', ws ++ ws2, upd_same, ?_, _, _, rfl⟩
      have eg : B.getD i [] = row := by
        rw [List.getD_eq_getElem?_getD, ey]
        rfl
      rw [emptyTo_succ, eg]
      exact (hc.same s9).app (hc2.same (same_new hf' _))
  rintro σ H7 ⟨s7, f, ws, hf, hc, u1, u2, rfl⟩
  have hc : Cells H7 ws (emptyL B) := by
    have := hc
    unfold emptyL
    rw [I.hh]
    exact this
  have lws := hc.len
  -- found
  refine ⟨_, rfl, o, lb, B, h, w, rfl, bt5.same s7, I, fun v H8 hv => ?_⟩
  obtain ⟨fd, vs, rfl, nfd, s8, hfd, hvs⟩ := hv
  have hf8 := s8 _ _ hf
  have hc8 := hc.same s8
  have bt8 := (bt5.same s7).same s8
  have hl8 := s8 _ _ (s7 _ _ hl5)
  have Ism := I.small
  refine ⟨_, rfl, _, rfl, f, _, rfl, .inl (SqL.of hf8), fd, vs, emptyL B, by rw [lws]; rfl, hfd, hvs, _, rfl, iteF ?_⟩
  refine ⟨_, rfl, _, rfl, _, _, .lst (SqL.of hfd) hvs.dp, .lst (SqL.of hf8) hc8.dp, shaped_cells _, shaped_cells _, _, rfl, ?_⟩
  rw [eqv_cells]
  refine iteF ?_
  obtain ⟨⟨dx, ho8⟩, hlb8⟩ := id bt8
  refine ⟨_, rfl, o, _, dx, _, _, rfl, ho8, T.cl_Board, T.n_Board_rows, bfl_rows _ _ _, _, rfl, _, _, rows_dp hlb8, rows_dp hl8, shaped_rows Ism, shaped_rows Ism, _, rfl, ?_⟩
  rw [eqv_rows Ism]
  refine iteF ?_
  -- found.append((9, 9))
  refine ⟨_, rfl, .inl ⟨rfl, _, SqL.of hfd⟩, sz2, fun t9 ht9 => ?_⟩
  have s9 := same_new ht9 (.tup [.int 9, .int 9])
  have lvs := hvs.len
  have lem := emptyTo_len I h (Nat.le_refl _)
  have lm : h * w ≤ 9 * 9 := Nat.mul_le_mul h9' w9'
  have lel : (emptyL B).length ≤ 81 := by
    unfold emptyL
    rw [I.hh]
    omega
  refine ⟨fd, vs, _, rfl, rfl, s9 _ _ hfd, sz_lt (by omega), ?_⟩
  have s10 : Same H7 (upd (upd H8 t9 (.tup [.int 9, .int 9])) fd (.lst (vs ++ [.ref t9]))) := same_mut (s8.trans s9) nfd
  revert s10
  generalize upd (upd H8 t9 (.tup [.int 9, .int 9])) fd (.lst (vs ++ [.ref t9])) = H10
  intro s10
  have bt10 := (bt5.same s7).same s10
  have hl10 := s10 _ _ (s7 _ _ hl5)
  refine ⟨_, rfl, o, lb, B, h, w, rfl, bt10, I, fun v H11 hv => ?_⟩
  obtain ⟨fe, vs2, rfl, nfe, s11, hfe, hvs2⟩ := hv
  refine ⟨_, rfl, _, _, .lst (SqL.of hfe) hvs2.dp, .lst (SqL.of (s11 _ _ (s10 _ _ hf))) ((hc.same s10).same s11).dp, shaped_cells _, shaped_cells _, _, rfl, ?_⟩
  rw [eqv_cells]
  refine iteF ?_
  -- over
  have bt11 := bt10.same s11
  refine ⟨_, rfl, o, lb, B, h, w, rfl, bt11, I, fun ov lv H12 s12 nov bov => ?_⟩
  have bt12 := bt11.same s12
  have I' := tov_is I
  obtain ⟨⟨dv, hov⟩, hlv⟩ := id bov
  refine ⟨_, rfl, _, _, _, _, _, rfl, .own _, .base (.ins hov T.cl_Board T.iA_Board T.iS_Board T.iT_Board T.iM_Board), kit_self, _, rfl, iteT ?_⟩
  refine ⟨_, rfl, ov, _, dv, _, _, rfl, hov, T.cl_Board, T.n_Board_rows, bfl_rows _ _ _, _, rfl, l, B, h, w, rfl, s12 _ _ (s11 _ _ hl10), I, fun p H13 s13 hp => ?_⟩
  refine ⟨_, _, rows_dp (s13 _ _ hlv), rows_dp hp, shaped_rows I'.small, shaped_rows I'.small, _, rfl, ?_⟩
  rw [eqv_rows I'.small]
  refine iteT ?_
  obtain ⟨⟨d13, ho13⟩, hlb13⟩ := bt12.same s13
  refine ⟨_, rfl, o, _, d13, _, _, rfl, ho13, T.cl_Board, T.n_Board_rows, bfl_rows _ _ _, _, rfl, _, _, rows_dp hlb13, rows_dp (s13 _ _ (s12 _ _ (s11 _ _ hl10))), shaped_rows Ism, shaped_rows Ism, ?_⟩
  rw [eqv_rows Ism]
  exact q _
end
end Sw
namespace Sw
open PySem PySem.Spec PyProof.Rows L2
/-! ### what the top has written, and the end -/
theorem all_mk {l : PySem.W.OpenLaw} {w : World} {K : PySem.W.Frag} {h : Heap} {mg : Str → Option Value} {fa : Addr} (X : K.In h) (G : h.Ns mainGlobals mg) (hfa : mg "law" = some (.ref fa))
    {C_Board C_ShoreError C_BadBoard C_NoCell : Addr}
    {od1 an1 : Option Addr} {sl1 : Array (Option Value)} {oc1 kV1 dc1 pm1 cd1 ct1 : Value} {f1 : Addr}
    {od2 an2 : Option Addr} {sl2 : Array (Option Value)} {oc2 kV2 dc2 pm2 cd2 ct2 : Value} {f2 : Addr}
    {od3 an3 : Option Addr} {sl3 : Array (Option Value)} {oc3 kV3 dc3 pm3 cd3 ct3 : Value} {f3 : Addr}
    {od4 an4 : Option Addr} {sl4 : Array (Option Value)} {oc4 kV4 dc4 pm4 cd4 ct4 : Value} {f4 : Addr}
    {od5 an5 : Option Addr} {sl5 : Array (Option Value)} {oc5 kV5 dc5 pm5 cd5 ct5 : Value} {f5 : Addr}
    {od6 an6 : Option Addr} {sl6 : Array (Option Value)} {oc6 kV6 dc6 pm6 cd6 ct6 : Value} {f6 : Addr}
    {od7 an7 : Option Addr} {sl7 : Array (Option Value)} {oc7 kV7 dc7 pm7 cd7 ct7 : Value} {f7 : Addr}
    {od8 an8 : Option Addr} {sl8 : Array (Option Value)} {oc8 kV8 dc8 pm8 cd8 ct8 : Value} {f8 : Addr}
    {od9 an9 : Option Addr} {sl9 : Array (Option Value)} {oc9 kV9 dc9 pm9 cd9 ct9 : Value} {f9 : Addr}
    {od10 an10 : Option Addr} {sl10 : Array (Option Value)} {oc10 kV10 dc10 pm10 cd10 ct10 : Value} {f10 : Addr}
    {od11 an11 : Option Addr} {sl11 : Array (Option Value)} {oc11 kV11 dc11 pm11 cd11 ct11 : Value} {f11 : Addr}
    {od12 an12 : Option Addr} {sl12 : Array (Option Value)} {oc12 kV12 dc12 pm12 cd12 ct12 : Value} {f12 : Addr}
    {od13 an13 : Option Addr} {sl13 : Array (Option Value)} {oc13 kV13 dc13 pm13 cd13 ct13 : Value} {f13 : Addr}
    {od14 an14 : Option Addr} {sl14 : Array (Option Value)} {oc14 kV14 dc14 pm14 cd14 ct14 : Value} {f14 : Addr}
    {od15 an15 : Option Addr} {sl15 : Array (Option Value)} {oc15 kV15 dc15 pm15 cd15 ct15 : Value} {f15 : Addr}
    {od16 an16 : Option Addr} {sl16 : Array (Option Value)} {oc16 kV16 dc16 pm16 cd16 ct16 : Value} {f16 : Addr}
    {od17 an17 : Option Addr} {sl17 : Array (Option Value)} {oc17 kV17 dc17 pm17 cd17 ct17 : Value} {f17 : Addr}
    (aC_Board : PySem.W.nsIn K mainGlobals "Board" = some (some (.ref C_Board)))
    (aC_ShoreError : PySem.W.nsIn K mainGlobals "ShoreError" = some (some (.ref C_ShoreError)))
    (aC_BadBoard : PySem.W.nsIn K mainGlobals "BadBoard" = some (some (.ref C_BadBoard)))
    (aC_NoCell : PySem.W.nsIn K mainGlobals "NoCell" = some (some (.ref C_NoCell)))
    (a1 : PySem.W.nsIn K mainGlobals "board_right" = some (some (.ref f1)))
    (l1 : K.lookup f1 = some ⟨oc1, od1, .func (PySem.W.fnOf "board_right" "board_right" (defArgs s_board_right) (defBody s_board_right) (defScope s_board_right) .none kV1 dc1 pm1 an1 cd1 ct1), sl1⟩)
    (c1 : PySem.W.codeIn K cd1 "board_right" = true)
    (k1 : PySem.W.keepIn K (.ref f1) = true)
    (a2 : PySem.W.findIn K (.ref C_Board) "__init__" = some (some (.ref f2)))
    (i2 : PySem.W.isFn K (.ref f2) = true)
    (l2 : K.lookup f2 = some ⟨oc2, od2, .func (PySem.W.fnOf "__init__" "Board.__init__" (defArgs s_Board___init__) (defBody s_Board___init__) (defScope s_Board___init__) .none kV2 dc2 pm2 an2 cd2 ct2), sl2⟩)
    (c2 : PySem.W.codeIn K cd2 "Board.__init__" = true)
    (k2 : PySem.W.keepIn K (.ref f2) = true)
    (a3 : PySem.W.findIn K (.ref C_Board) "has" = some (some (.ref f3)))
    (i3 : PySem.W.isFn K (.ref f3) = true)
    (l3 : K.lookup f3 = some ⟨oc3, od3, .func (PySem.W.fnOf "has" "Board.has" (defArgs s_Board_has) (defBody s_Board_has) (defScope s_Board_has) .none kV3 dc3 pm3 an3 cd3 ct3), sl3⟩)
    (c3 : PySem.W.codeIn K cd3 "Board.has" = true)
    (k3 : PySem.W.keepIn K (.ref f3) = true)
    (a4 : PySem.W.nsIn K mainGlobals "sign" = some (some (.ref f4)))
    (l4 : K.lookup f4 = some ⟨oc4, od4, .func (PySem.W.fnOf "sign" "sign" (defArgs s_sign) (defBody s_sign) (defScope s_sign) .none kV4 dc4 pm4 an4 cd4 ct4), sl4⟩)
    (c4 : PySem.W.codeIn K cd4 "sign" = true)
    (k4 : PySem.W.keepIn K (.ref f4) = true)
    (a5 : PySem.W.nsIn K mainGlobals "laid" = some (some (.ref f5)))
    (l5 : K.lookup f5 = some ⟨oc5, od5, .func (PySem.W.fnOf "laid" "laid" (defArgs s_laid) (defBody s_laid) (defScope s_laid) .none kV5 dc5 pm5 an5 cd5 ct5), sl5⟩)
    (c5 : PySem.W.codeIn K cd5 "laid" = true)
    (k5 : PySem.W.keepIn K (.ref f5) = true)
    (a6 : PySem.W.nsIn K mainGlobals "other" = some (some (.ref f6)))
    (l6 : K.lookup f6 = some ⟨oc6, od6, .func (PySem.W.fnOf "other" "other" (defArgs s_other) (defBody s_other) (defScope s_other) .none kV6 dc6 pm6 an6 cd6 ct6), sl6⟩)
    (c6 : PySem.W.codeIn K cd6 "other" = true)
    (k6 : PySem.W.keepIn K (.ref f6) = true)
    (a7 : PySem.W.nsIn K mainGlobals "turned_over" = some (some (.ref f7)))
    (l7 : K.lookup f7 = some ⟨oc7, od7, .func (PySem.W.fnOf "turned_over" "turned_over" (defArgs s_turned_over) (defBody s_turned_over) (defScope s_turned_over) .none kV7 dc7 pm7 an7 cd7 ct7), sl7⟩)
    (c7 : PySem.W.codeIn K cd7 "turned_over" = true)
    (k7 : PySem.W.keepIn K (.ref f7) = true)
    (a8 : PySem.W.nsIn K mainGlobals "empty" = some (some (.ref f8)))
    (l8 : K.lookup f8 = some ⟨oc8, od8, .func (PySem.W.fnOf "empty" "empty" (defArgs s_empty) (defBody s_empty) (defScope s_empty) .none kV8 dc8 pm8 an8 cd8 ct8), sl8⟩)
    (c8 : PySem.W.codeIn K cd8 "empty" = true)
    (k8 : PySem.W.keepIn K (.ref f8) = true)
    (a9 : PySem.W.nsIn K mainGlobals "_law_cell_at" = some (some (.ref f9)))
    (l9 : K.lookup f9 = some ⟨oc9, od9, .func (PySem.W.fnOf "_law_cell_at" "_law_cell_at" (defArgs s__law_cell_at) (defBody s__law_cell_at) (defScope s__law_cell_at) .none kV9 dc9 pm9 an9 cd9 ct9), sl9⟩)
    (c9 : PySem.W.codeIn K cd9 "_law_cell_at" = true)
    (k9 : PySem.W.keepIn K (.ref f9) = true)
    (a10 : PySem.W.nsIn K mainGlobals "_law_mix" = some (some (.ref f10)))
    (l10 : K.lookup f10 = some ⟨oc10, od10, .func (PySem.W.fnOf "_law_mix" "_law_mix" (defArgs s__law_mix) (defBody s__law_mix) (defScope s__law_mix) .none kV10 dc10 pm10 an10 cd10 ct10), sl10⟩)
    (c10 : PySem.W.codeIn K cd10 "_law_mix" = true)
    (k10 : PySem.W.keepIn K (.ref f10) = true)
    (a11 : PySem.W.nsIn K mainGlobals "_law_whole" = some (some (.ref f11)))
    (l11 : K.lookup f11 = some ⟨oc11, od11, .func (PySem.W.fnOf "_law_whole" "_law_whole" (defArgs s__law_whole) (defBody s__law_whole) (defScope s__law_whole) .none kV11 dc11 pm11 an11 cd11 ct11), sl11⟩)
    (c11 : PySem.W.codeIn K cd11 "_law_whole" = true)
    (k11 : PySem.W.keepIn K (.ref f11) = true)
    (a12 : PySem.W.nsIn K mainGlobals "_law_rows_by" = some (some (.ref f12)))
    (l12 : K.lookup f12 = some ⟨oc12, od12, .func (PySem.W.fnOf "_law_rows_by" "_law_rows_by" (defArgs s__law_rows_by) (defBody s__law_rows_by) (defScope s__law_rows_by) .none kV12 dc12 pm12 an12 cd12 ct12), sl12⟩)
    (c12 : PySem.W.codeIn K cd12 "_law_rows_by" = true)
    (k12 : PySem.W.keepIn K (.ref f12) = true)
    (a13 : PySem.W.nsIn K mainGlobals "_law_size_by" = some (some (.ref f13)))
    (l13 : K.lookup f13 = some ⟨oc13, od13, .func (PySem.W.fnOf "_law_size_by" "_law_size_by" (defArgs s__law_size_by) (defBody s__law_size_by) (defScope s__law_size_by) .none kV13 dc13 pm13 an13 cd13 ct13), sl13⟩)
    (c13 : PySem.W.codeIn K cd13 "_law_size_by" = true)
    (k13 : PySem.W.keepIn K (.ref f13) = true)
    (a14 : PySem.W.nsIn K mainGlobals "_law_places" = some (some (.ref f14)))
    (l14 : K.lookup f14 = some ⟨oc14, od14, .func (PySem.W.fnOf "_law_places" "_law_places" (defArgs s__law_places) (defBody s__law_places) (defScope s__law_places) .none kV14 dc14 pm14 an14 cd14 ct14), sl14⟩)
    (c14 : PySem.W.codeIn K cd14 "_law_places" = true)
    (k14 : PySem.W.keepIn K (.ref f14) = true)
    (a15 : PySem.W.nsIn K mainGlobals "_law_met" = some (some (.ref f15)))
    (l15 : K.lookup f15 = some ⟨oc15, od15, .func (PySem.W.fnOf "_law_met" "_law_met" (defArgs s__law_met) (defBody s__law_met) (defScope s__law_met) .none kV15 dc15 pm15 an15 cd15 ct15), sl15⟩)
    (c15 : PySem.W.codeIn K cd15 "_law_met" = true)
    (k15 : PySem.W.keepIn K (.ref f15) = true)
    (a16 : PySem.W.nsIn K mainGlobals "_law_over" = some (some (.ref f16)))
    (l16 : K.lookup f16 = some ⟨oc16, od16, .func (PySem.W.fnOf "_law_over" "_law_over" (defArgs s__law_over) (defBody s__law_over) (defScope s__law_over) .none kV16 dc16 pm16 an16 cd16 ct16), sl16⟩)
    (c16 : PySem.W.codeIn K cd16 "_law_over" = true)
    (k16 : PySem.W.keepIn K (.ref f16) = true)
    (a17 : PySem.W.nsIn K mainGlobals "law" = some (some (.ref f17)))
    (l17 : K.lookup f17 = some ⟨oc17, od17, .func (PySem.W.fnOf "law" "law" (defArgs s_law) (defBody s_law) (defScope s_law) .none kV17 dc17 pm17 an17 cd17 ct17), sl17⟩)
    (c17 : PySem.W.codeIn K cd17 "law" = true)
    (k17 : PySem.W.keepIn K (.ref f17) = true)
    (pg_Board : PySem.W.plainGet K C_Board Str.empty = true)
    (hd_Board : PySem.W.hasDictIn K C_Board = true)
    (po_Board : PySem.W.plainOver K C_Board = true)
    (sa_Board : PySem.W.findIn K (.ref C_Board) "__setattr__" = some (some (.builtin "object.__setattr__")))
    (mk_Board : PySem.W.makesIn K C_Board = true)
    (kc_Board : PySem.W.keepIn K (.ref C_Board) = true)
    (n_Board_rows : PySem.W.findIn K (.ref C_Board) "rows" = some none)
    (n_Board_height : PySem.W.findIn K (.ref C_Board) "height" = some none)
    (n_Board_width : PySem.W.findIn K (.ref C_Board) "width" = some none)
    (iA_Board : PySem.W.findIn K (.ref C_Board) "__class__" = some (some (.builtin "object.__class__")))
    (iS_Board : PySem.W.specialIn K (.builtin "object.__class__") "__get__" = some (some (.builtin "getset_descriptor.__get__")))
    (iT_Board : PySem.W.takesIn K (.builtin "object.__class__") = some true)
    (iM_Board : PySem.W.mroIn K C_Board (.type "object") = some true)
    (x_ShoreError : PySem.W.excIn K C_ShoreError [.type "ValueError", .type "Exception", .type "BaseException", .type "object"] "ValueError.__new__" = true)
    (k_ShoreError : PySem.W.keepIn K (.ref C_ShoreError) = true)
    (b_ShoreError : PySem.W.subIn K (.ref C_ShoreError) (.type "BaseException") = some true)
    (t_ShoreError : PySem.W.typeIn K (.ref C_ShoreError) = some (.type "type"))
    (i_ShoreError : PySem.W.isClsIn K C_ShoreError = true)
    (x_BadBoard : PySem.W.excIn K C_BadBoard [.type "ValueError", .type "Exception", .type "BaseException", .type "object"] "ValueError.__new__" = true)
    (k_BadBoard : PySem.W.keepIn K (.ref C_BadBoard) = true)
    (b_BadBoard : PySem.W.subIn K (.ref C_BadBoard) (.type "BaseException") = some true)
    (t_BadBoard : PySem.W.typeIn K (.ref C_BadBoard) = some (.type "type"))
    (i_BadBoard : PySem.W.isClsIn K C_BadBoard = true)
    (x_NoCell : PySem.W.excIn K C_NoCell [.type "ValueError", .type "Exception", .type "BaseException", .type "object"] "ValueError.__new__" = true)
    (k_NoCell : PySem.W.keepIn K (.ref C_NoCell) = true)
    (b_NoCell : PySem.W.subIn K (.ref C_NoCell) (.type "BaseException") = some true)
    (t_NoCell : PySem.W.typeIn K (.ref C_NoCell) = some (.type "type"))
    (i_NoCell : PySem.W.isClsIn K C_NoCell = true)
    (s_BadBoard_ShoreError : PySem.W.subIn K (.ref C_BadBoard) (.ref C_ShoreError) = some true)
    (s_BadBoard_NoCell : PySem.W.subIn K (.ref C_BadBoard) (.ref C_NoCell) = some false)
    (s_NoCell_ShoreError : PySem.W.subIn K (.ref C_NoCell) (.ref C_ShoreError) = some true)
    (s_NoCell_NoCell : PySem.W.subIn K (.ref C_NoCell) (.ref C_NoCell) = some true)
    (exn : PySem.W.specialIn K (.builtin "object.__class__") "__get__" = some (some (.builtin "getset_descriptor.__get__")))
    (ext : PySem.W.takesIn K (.builtin "object.__class__") = some true)
    (eg_BadBoard : PySem.W.findIn K (.ref C_BadBoard) "__getattribute__" = some (some (.builtin "BaseException.__getattribute__")))
    (ek_BadBoard : PySem.W.findIn K (.ref C_BadBoard) "__getattr__" = some none)
    (ed_BadBoard : PySem.W.hasDictIn K C_BadBoard = true)
    (ea_BadBoard : PySem.W.findIn K (.ref C_BadBoard) "__class__" = some (some (.builtin "object.__class__")))
    (em_BadBoard : PySem.W.mroIn K C_BadBoard (.type "object") = some true)
    (eg_NoCell : PySem.W.findIn K (.ref C_NoCell) "__getattribute__" = some (some (.builtin "BaseException.__getattribute__")))
    (ek_NoCell : PySem.W.findIn K (.ref C_NoCell) "__getattr__" = some none)
    (ed_NoCell : PySem.W.hasDictIn K C_NoCell = true)
    (ea_NoCell : PySem.W.findIn K (.ref C_NoCell) "__class__" = some (some (.builtin "object.__class__")))
    (em_NoCell : PySem.W.mroIn K C_NoCell (.type "object") = some true)
    {tk_MOST : Tok} (g_MOST : PySem.W.nsIn K mainGlobals "MOST" = some (some (.int 9 tk_MOST)))
    (z_len : PySem.W.nsIn K mainGlobals "len" = some none)
    (z_all : PySem.W.nsIn K mainGlobals "all" = some none)
    (z_list : PySem.W.nsIn K mainGlobals "list" = some none)
    (z_range : PySem.W.nsIn K mainGlobals "range" = some none)
    (z_enumerate : PySem.W.nsIn K mainGlobals "enumerate" = some none)
    (z_isinstance : PySem.W.nsIn K mainGlobals "isinstance" = some none)
    (z_int : PySem.W.nsIn K mainGlobals "int" = some none)
    (z_bool : PySem.W.nsIn K mainGlobals "bool" = some none)
    (z_tuple : PySem.W.nsIn K mainGlobals "tuple" = some none)
    (z_str : PySem.W.nsIn K mainGlobals "str" = some none) :
    ∃ fd : FuncData, (∀ (s : Shared) (v : Value), BindsTo s fd ⟨[v], []⟩ [("script", v)]) ∧ ∀ base : Heap, K.In base → base.Ns mainGlobals mg → FnOk l.prog w K mg base CX0 8 fa fd ["script"] (sp_law K) := by
  have e := hfa.symm.trans (PySem.W.mg_of X G a17)
  cases e
  let T : Top K mg := {
    a_board_right := f1,
    d_board_right := _,
    F_board_right := fun_mk (st := s_board_right) l1 c1 k1,
    B_board_right := (fun_mk (st := s_board_right) l1 c1 k1).binds (ps := ["rows"]) fun _ _ _ _ _ _ us hl => match us, hl with | [_], _ => rfl,
    m_board_right := PySem.W.mg_of X G a1,
    a_Board___init__ := f2,
    d_Board___init__ := _,
    F_Board___init__ := fun_mk (st := s_Board___init__) l2 c2 k2,
    B_Board___init__ := (fun_mk (st := s_Board___init__) l2 c2 k2).binds (ps := ["self", "rows"]) fun _ _ _ _ _ _ us hl => match us, hl with | [_, _], _ => rfl,
    a_Board_has := f3,
    d_Board_has := _,
    F_Board_has := fun_mk (st := s_Board_has) l3 c3 k3,
    B_Board_has := (fun_mk (st := s_Board_has) l3 c3 k3).binds (ps := ["self", "r", "c"]) fun _ _ _ _ _ _ us hl => match us, hl with | [_, _, _], _ => rfl,
    a_sign := f4,
    d_sign := _,
    F_sign := fun_mk (st := s_sign) l4 c4 k4,
    B_sign := (fun_mk (st := s_sign) l4 c4 k4).binds (ps := ["board", "r", "c"]) fun _ _ _ _ _ _ us hl => match us, hl with | [_, _, _], _ => rfl,
    m_sign := PySem.W.mg_of X G a4,
    a_laid := f5,
    d_laid := _,
    F_laid := fun_mk (st := s_laid) l5 c5 k5,
    B_laid := (fun_mk (st := s_laid) l5 c5 k5).binds (ps := ["board", "r", "c", "hand"]) fun _ _ _ _ _ _ us hl => match us, hl with | [_, _, _, _], _ => rfl,
    m_laid := PySem.W.mg_of X G a5,
    a_other := f6,
    d_other := _,
    F_other := fun_mk (st := s_other) l6 c6 k6,
    B_other := (fun_mk (st := s_other) l6 c6 k6).binds (ps := ["letter"]) fun _ _ _ _ _ _ us hl => match us, hl with | [_], _ => rfl,
    m_other := PySem.W.mg_of X G a6,
    a_turned_over := f7,
    d_turned_over := _,
    F_turned_over := fun_mk (st := s_turned_over) l7 c7 k7,
    B_turned_over := (fun_mk (st := s_turned_over) l7 c7 k7).binds (ps := ["board"]) fun _ _ _ _ _ _ us hl => match us, hl with | [_], _ => rfl,
    m_turned_over := PySem.W.mg_of X G a7,
    a_empty := f8,
    d_empty := _,
    F_empty := fun_mk (st := s_empty) l8 c8 k8,
    B_empty := (fun_mk (st := s_empty) l8 c8 k8).binds (ps := ["board"]) fun _ _ _ _ _ _ us hl => match us, hl with | [_], _ => rfl,
    m_empty := PySem.W.mg_of X G a8,
    a__law_cell_at := f9,
    d__law_cell_at := _,
    F__law_cell_at := fun_mk (st := s__law_cell_at) l9 c9 k9,
    B__law_cell_at := (fun_mk (st := s__law_cell_at) l9 c9 k9).binds (ps := ["script", "k"]) fun _ _ _ _ _ _ us hl => match us, hl with | [_, _], _ => rfl,
    m__law_cell_at := PySem.W.mg_of X G a9,
    a__law_mix := f10,
    d__law_mix := _,
    F__law_mix := fun_mk (st := s__law_mix) l10 c10 k10,
    B__law_mix := (fun_mk (st := s__law_mix) l10 c10 k10).binds (ps := ["cell", "k", "many"]) fun _ _ _ _ _ _ us hl => match us, hl with | [_, _, _], _ => rfl,
    m__law_mix := PySem.W.mg_of X G a10,
    a__law_whole := f11,
    d__law_whole := _,
    F__law_whole := fun_mk (st := s__law_whole) l11 c11 k11,
    B__law_whole := (fun_mk (st := s__law_whole) l11 c11 k11).binds (ps := ["found"]) fun _ _ _ _ _ _ us hl => match us, hl with | [_], _ => rfl,
    m__law_whole := PySem.W.mg_of X G a11,
    a__law_rows_by := f12,
    d__law_rows_by := _,
    F__law_rows_by := fun_mk (st := s__law_rows_by) l12 c12 k12,
    B__law_rows_by := (fun_mk (st := s__law_rows_by) l12 c12 k12).binds (ps := ["script", "height", "width", "full"]) fun _ _ _ _ _ _ us hl => match us, hl with | [_, _, _, _], _ => rfl,
    m__law_rows_by := PySem.W.mg_of X G a12,
    a__law_size_by := f13,
    d__law_size_by := _,
    F__law_size_by := fun_mk (st := s__law_size_by) l13 c13 k13,
    B__law_size_by := (fun_mk (st := s__law_size_by) l13 c13 k13).binds (ps := ["script", "most"]) fun _ _ _ _ _ _ us hl => match us, hl with | [_, _], _ => rfl,
    m__law_size_by := PySem.W.mg_of X G a13,
    a__law_places := f14,
    d__law_places := _,
    F__law_places := fun_mk (st := s__law_places) l14 c14 k14,
    B__law_places := (fun_mk (st := s__law_places) l14 c14 k14).binds (ps := ["found", "many"]) fun _ _ _ _ _ _ us hl => match us, hl with | [_, _], _ => rfl,
    m__law_places := PySem.W.mg_of X G a14,
    a__law_met := f15,
    d__law_met := _,
    F__law_met := fun_mk (st := s__law_met) l15 c15 k15,
    B__law_met := (fun_mk (st := s__law_met) l15 c15 k15).binds (ps := ["board", "r", "c", "hand"]) fun _ _ _ _ _ _ us hl => match us, hl with | [_, _, _, _], _ => rfl,
    m__law_met := PySem.W.mg_of X G a15,
    a__law_over := f16,
    d__law_over := _,
    F__law_over := fun_mk (st := s__law_over) l16 c16 k16,
    B__law_over := (fun_mk (st := s__law_over) l16 c16 k16).binds (ps := ["rows"]) fun _ _ _ _ _ _ us hl => match us, hl with | [_], _ => rfl,
    m__law_over := PySem.W.mg_of X G a16,
    a_law := fa,
    d_law := _,
    F_law := fun_mk (st := s_law) l17 c17 k17,
    B_law := (fun_mk (st := s_law) l17 c17 k17).binds (ps := ["script"]) fun _ _ _ _ _ _ us hl => match us, hl with | [_], _ => rfl,
    m_law := PySem.W.mg_of X G a17,
    C_Board := C_Board,
    cl_Board := ⟨pg_Board, hd_Board, po_Board, sa_Board⟩,
    mC_Board := PySem.W.mg_of X G aC_Board,
    Mk_Board := ⟨mk_Board, a2, i2, kc_Board⟩,
    n_Board_rows := n_Board_rows,
    n_Board_height := n_Board_height,
    n_Board_width := n_Board_width,
    M_Board_has := ⟨a3, i3, k3⟩,
    iA_Board := iA_Board,
    iS_Board := iS_Board,
    iT_Board := iT_Board,
    iM_Board := iM_Board,
    C_ShoreError := C_ShoreError,
    mC_ShoreError := PySem.W.mg_of X G aC_ShoreError,
    x_ShoreError := x_ShoreError,
    k_ShoreError := k_ShoreError,
    b_ShoreError := b_ShoreError,
    t_ShoreError := t_ShoreError,
    i_ShoreError := i_ShoreError,
    C_BadBoard := C_BadBoard,
    mC_BadBoard := PySem.W.mg_of X G aC_BadBoard,
    x_BadBoard := x_BadBoard,
    k_BadBoard := k_BadBoard,
    b_BadBoard := b_BadBoard,
    t_BadBoard := t_BadBoard,
    i_BadBoard := i_BadBoard,
    C_NoCell := C_NoCell,
    mC_NoCell := PySem.W.mg_of X G aC_NoCell,
    x_NoCell := x_NoCell,
    k_NoCell := k_NoCell,
    b_NoCell := b_NoCell,
    t_NoCell := t_NoCell,
    i_NoCell := i_NoCell,
    s_BadBoard_ShoreError := s_BadBoard_ShoreError,
    s_BadBoard_NoCell := s_BadBoard_NoCell,
    s_NoCell_ShoreError := s_NoCell_ShoreError,
    s_NoCell_NoCell := s_NoCell_NoCell,
    E_BadBoard := ⟨eg_BadBoard, ek_BadBoard, b_BadBoard, ed_BadBoard, ea_BadBoard, exn, ext, em_BadBoard⟩,
    E_NoCell := ⟨eg_NoCell, ek_NoCell, b_NoCell, ed_NoCell, ea_NoCell, exn, ext, em_NoCell⟩,
    kit_BadBoard_ShoreError := kit_ownT i_ShoreError t_ShoreError s_BadBoard_ShoreError,
    kit_NoCell_ShoreError := kit_ownT i_ShoreError t_ShoreError s_NoCell_ShoreError,
    tk_MOST := tk_MOST,
    g_MOST := PySem.W.mg_of X G g_MOST,
    z_len := PySem.W.mg_none_of X G z_len,
    z_all := PySem.W.mg_none_of X G z_all,
    z_list := PySem.W.mg_none_of X G z_list,
    z_range := PySem.W.mg_none_of X G z_range,
    z_enumerate := PySem.W.mg_none_of X G z_enumerate,
    z_isinstance := PySem.W.mg_none_of X G z_isinstance,
    z_int := PySem.W.mg_none_of X G z_int,
    z_bool := PySem.W.mg_none_of X G z_bool,
    z_tuple := PySem.W.mg_none_of X G z_tuple,
    z_str := PySem.W.mg_none_of X G z_str }
  exact ⟨PySem.W.fnOf "law" "law" (defArgs s_law) (defBody s_law) (defScope s_law) .none kV17 dc17 pm17 an17 cd17 ct17, fun s v => .of_eq rfl, fun base _ _ => ok_law T⟩
theorem walk {l : PySem.W.OpenLaw} {q : Program} {loose : List Str} {XP : (Str → Option Value) → Heap → Prop} {YP : World → Heap → Prop} {d : DefRec} {K : Params → PySem.W.Frag} (hn : l.most = some 63) (hdf : d.params.defaults = [])
    (hY : ∀ (w : World) (h : Heap), YP w h → (K w.params).In h)
    (F : ∀ (w : World) (mg : Str → Option Value) (fa : Addr) (h : Heap), (K w.params).In h → h.Ns mainGlobals mg → mg d.name = some (.ref fa) →
      ∃ fd : FuncData, (∀ (s : Shared) (u : Value), BindsTo s fd ⟨[u], []⟩ [("script", u)]) ∧ ∀ base : Heap, (K w.params).In base → base.Ns mainGlobals mg → FnOk l.prog w (K w.params) mg base CX0 8 fa fd ["script"] (sp_law (K w.params))) :
    PySem.W.WalkO q loose XP YP l.row.toRowW d [] (fun f vs => PySem.call f vs) :=
  L2.walk_of (n := 63) (k := 8) (x := "script") (CX := fun _ => CX0) (sp := fun w => sp_law (K w.params)) hn (by decide) hdf ⟨rfl, by decide, by decide⟩ hY F (fun _ _ a ns hl _ hS => ⟨a, ns, rfl, hS, hl, fun _ => rfl⟩) fun _ _ _ _ _ z => z
end Sw
open PySem PySem.W PyProof.Rows in
set_option maxRecDepth 100000 in
set_option maxHeartbeats 0 in
theorem PySem.Challenge.cw_shoreways_k03_signs_and_stones_holds : PySem.Challenge.rw_shoreways_k03_signs_and_stones.Holds := by
  w_on; o_law; k_head; (case hw => w_witness2)
  k_fill
  refine Sw.walk (l := PySem.Challenge.rw_shoreways_k03_signs_and_stones) rfl rfl (fun w h Y => PySem.W.kIn_of Y) ?F
  case F =>
    intro w mg fa h KX G hmg
    refine' Sw.all_mk KX G hmg ?aC_Board ?aC_ShoreError ?aC_BadBoard ?aC_NoCell ?a1 ?l1 ?c1 ?k1 ?a2 ?i2 ?l2 ?c2 ?k2 ?a3 ?i3 ?l3 ?c3 ?k3 ?a4 ?l4 ?c4 ?k4 ?a5 ?l5 ?c5 ?k5 ?a6 ?l6 ?c6 ?k6 ?a7 ?l7 ?c7 ?k7 ?a8 ?l8 ?c8 ?k8 ?a9 ?l9 ?c9 ?k9 ?a10 ?l10 ?c10 ?k10 ?a11 ?l11 ?c11 ?k11 ?a12 ?l12 ?c12 ?k12 ?a13 ?l13 ?c13 ?k13 ?a14 ?l14 ?c14 ?k14 ?a15 ?l15 ?c15 ?k15 ?a16 ?l16 ?c16 ?k16 ?a17 ?l17 ?c17 ?k17 ?pg_Board ?hd_Board ?po_Board ?sa_Board ?mk_Board ?kc_Board ?n_Board_rows ?n_Board_height ?n_Board_width ?iA_Board ?iS_Board ?iT_Board ?iM_Board ?x_ShoreError ?k_ShoreError ?b_ShoreError ?t_ShoreError ?i_ShoreError ?x_BadBoard ?k_BadBoard ?b_BadBoard ?t_BadBoard ?i_BadBoard ?x_NoCell ?k_NoCell ?b_NoCell ?t_NoCell ?i_NoCell ?s_BadBoard_ShoreError ?s_BadBoard_NoCell ?s_NoCell_ShoreError ?s_NoCell_NoCell ?exn ?ext ?eg_BadBoard ?ek_BadBoard ?ed_BadBoard ?ea_BadBoard ?em_BadBoard ?eg_NoCell ?ek_NoCell ?ed_NoCell ?ea_NoCell ?em_NoCell ?g_MOST ?z_len ?z_all ?z_list ?z_range ?z_enumerate ?z_isinstance ?z_int ?z_bool ?z_tuple ?z_str
    (case aC_Board => k_is)
    (case aC_ShoreError => k_is)
    (case aC_BadBoard => k_is)
    (case aC_NoCell => k_is)
    (case a1 => k_is)
    (case l1 => k_is)
    (case c1 => k_is)
    (case k1 => k_is)
    (case a2 => k_is)
    (case i2 => k_is)
    (case l2 => k_is)
    (case c2 => k_is)
    (case k2 => k_is)
    (case a3 => k_is)
    (case i3 => k_is)
    (case l3 => k_is)
    (case c3 => k_is)
    (case k3 => k_is)
    (case a4 => k_is)
    (case l4 => k_is)
    (case c4 => k_is)
    (case k4 => k_is)
    (case a5 => k_is)
    (case l5 => k_is)
    (case c5 => k_is)
    (case k5 => k_is)
    (case a6 => k_is)
    (case l6 => k_is)
    (case c6 => k_is)
    (case k6 => k_is)
    (case a7 => k_is)
    (case l7 => k_is)
    (case c7 => k_is)
    (case k7 => k_is)
    (case a8 => k_is)
    (case l8 => k_is)
    (case c8 => k_is)
    (case k8 => k_is)
    (case a9 => k_is)
    (case l9 => k_is)
    (case c9 => k_is)
    (case k9 => k_is)
    (case a10 => k_is)
    (case l10 => k_is)
    (case c10 => k_is)
    (case k10 => k_is)
    (case a11 => k_is)
    (case l11 => k_is)
    (case c11 => k_is)
    (case k11 => k_is)
    (case a12 => k_is)
    (case l12 => k_is)
    (case c12 => k_is)
    (case k12 => k_is)
    (case a13 => k_is)
    (case l13 => k_is)
    (case c13 => k_is)
    (case k13 => k_is)
    (case a14 => k_is)
    (case l14 => k_is)
    (case c14 => k_is)
    (case k14 => k_is)
    (case a15 => k_is)
    (case l15 => k_is)
    (case c15 => k_is)
    (case k15 => k_is)
    (case a16 => k_is)
    (case l16 => k_is)
    (case c16 => k_is)
    (case k16 => k_is)
    (case a17 => k_is)
    (case l17 => k_is)
    (case c17 => k_is)
    (case k17 => k_is)
    (case pg_Board => k_is)
    (case hd_Board => k_is)
    (case po_Board => k_is)
    (case sa_Board => k_is)
    (case mk_Board => k_is)
    (case kc_Board => k_is)
    (case n_Board_rows => k_is)
    (case n_Board_height => k_is)
    (case n_Board_width => k_is)
    (case iA_Board => k_is)
    (case iS_Board => k_is)
    (case iT_Board => k_is)
    (case iM_Board => k_is)
    (case x_ShoreError => k_exc)
    (case k_ShoreError => k_is)
    (case b_ShoreError => k_is)
    (case t_ShoreError => k_is)
    (case i_ShoreError => k_is)
    (case x_BadBoard => k_exc)
    (case k_BadBoard => k_is)
    (case b_BadBoard => k_is)
    (case t_BadBoard => k_is)
    (case i_BadBoard => k_is)
    (case x_NoCell => k_exc)
    (case k_NoCell => k_is)
    (case b_NoCell => k_is)
    (case t_NoCell => k_is)
    (case i_NoCell => k_is)
    (case s_BadBoard_ShoreError => first | rfl | k_is)
    (case s_BadBoard_NoCell => first | rfl | k_is)
    (case s_NoCell_ShoreError => first | rfl | k_is)
    (case s_NoCell_NoCell => first | rfl | k_is)
    (case exn => k_is)
    (case ext => k_is)
    (case eg_BadBoard => k_is)
    (case ek_BadBoard => k_is)
    (case ed_BadBoard => k_is)
    (case ea_BadBoard => k_is)
    (case em_BadBoard => k_is)
    (case eg_NoCell => k_is)
    (case ek_NoCell => k_is)
    (case ed_NoCell => k_is)
    (case ea_NoCell => k_is)
    (case em_NoCell => k_is)
    (case g_MOST => k_is)
    (case z_len => k_is)
    (case z_all => k_is)
    (case z_list => k_is)
    (case z_range => k_is)
    (case z_enumerate => k_is)
    (case z_isinstance => k_is)
    (case z_int => k_is)
    (case z_bool => k_is)
    (case z_tuple => k_is)
    (case z_str => k_is)
#print axioms PySem.Challenge.cw_shoreways_k03_signs_and_stones_holds
