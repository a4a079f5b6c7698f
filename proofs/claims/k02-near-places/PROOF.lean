import PyProof.Rows.All
import Wide.All
import OpenK.AllK
import Wide.FinOn
import HandS.ForMost
import HandS.ForExc
import HandS.IsInst
import HandS.Deep
import HandS.Conv
import HandS.Wide
import HandS.Evl
import PySem.Challenge.RW_shoreways_k02_near_places
set_option Elab.async false
set_option linter.all false
set_option maxRecDepth 100000
set_option maxHeartbeats 4000000
/-! Never both: a north road and a west road of a board can't stand together (parity of crossings). Plain Lean. -/
namespace Sw
abbrev Cell := Int × Int
def near6 (p : Cell) : List Cell := [(p.1 - 1, p.2), (p.1 - 1, p.2 + 1), (p.1, p.2 + 1), (p.1 + 1, p.2), (p.1 + 1, p.2 - 1), (p.1, p.2 - 1)]
theorem near6_iff {p q : Cell} : q ∈ near6 p ↔ (q.1 = p.1 - 1 ∧ q.2 = p.2) ∨ (q.1 = p.1 - 1 ∧ q.2 = p.2 + 1) ∨ (q.1 = p.1 ∧ q.2 = p.2 + 1) ∨ (q.1 = p.1 + 1 ∧ q.2 = p.2) ∨ (q.1 = p.1 + 1 ∧ q.2 = p.2 - 1) ∨ (q.1 = p.1 ∧ q.2 = p.2 - 1) := by
  simp only [near6, List.mem_cons, List.not_mem_nil, or_false, Prod.ext_iff]
theorem near6_symm {p q : Cell} (h : q ∈ near6 p) : p ∈ near6 q := by
  rw [near6_iff] at h ⊢
  omega
/-- a hand's sign (false: the north hand's n; true: the west hand's w), its own coordinate, its extent -/
def lt (s : Bool) : Nat := if s then 119 else 110
def sd (s : Bool) (p : Cell) : Int := if s then p.2 else p.1
def ext (s : Bool) (h w : Nat) : Int := if s then (w : Int) else (h : Int)
inductive Reach (g : Cell → Nat) (s : Bool) : Cell → Prop
  | first {p : Cell} : g p = lt s → sd s p = 0 → Reach g s p
  | next {p q : Cell} : Reach g s p → q ∈ near6 p → g q = lt s → Reach g s q
theorem Reach.sign {g : Cell → Nat} {s : Bool} {p : Cell} (h : Reach g s p) : g p = lt s := by
  cases h with
  | first a _ => exact a
  | next _ _ a => exact a
def Joined (g : Cell → Nat) (h w : Nat) (s : Bool) : Prop := ∃ p, Reach g s p ∧ sd s p = ext s h w - 1
def Sup (g : Cell → Nat) (h w : Nat) : Prop := ∀ p, g p ≠ 0 → 0 ≤ p.1 ∧ p.1 < (h : Int) ∧ 0 ≤ p.2 ∧ p.2 < (w : Int)

/-! ### parity -/
def Chn : Cell → List Cell → Prop
  | _, [] => True
  | a, b :: l => a ∈ near6 b ∧ Chn b l
def lst : Cell → List Cell → Cell
  | a, [] => a
  | _, b :: l => lst b l
def cnt (e : Cell → Cell → Bool) : Cell → List Cell → Bool
  | _, [] => false
  | a, b :: l => xor (e a b) (cnt e b l)
def lf (x p : Cell) : Bool := decide (p.1 = x.1 ∧ p.2 < x.2)
/-- an edge between row x.1 and row x.1 + d whose end in row x.1 lies left of x -/
def ed (d : Int) (x a b : Cell) : Bool := (lf x a && decide (b.1 = x.1 + d)) || (lf x b && decide (a.1 = x.1 + d))
theorem ne_cell {a x : Cell} (h : a ≠ x) : ¬ (a.1 = x.1 ∧ a.2 = x.2) := fun e => h (Prod.ext e.1 e.2)
theorem xor_dec {p q : Prop} [Decidable p] [Decidable q] {b : Bool} (h : b = true ↔ ((p ∧ ¬ q) ∨ (¬ p ∧ q))) : b = xor (decide p) (decide q) := by
  by_cases hp : p <;> by_cases hq : q <;> cases b <;> simp_all
theorem ed_iff {d : Int} {x a b : Cell} : ed d x a b = true ↔ ((a.1 = x.1 ∧ a.2 < x.2) ∧ b.1 = x.1 + d) ∨ ((b.1 = x.1 ∧ b.2 < x.2) ∧ a.1 = x.1 + d) := by
  simp only [ed, lf, Bool.or_eq_true, Bool.and_eq_true, decide_eq_true_eq]
theorem ed_tog {x a b : Cell} (h : a ∈ near6 b) (ha : a ≠ x) (hb : b ≠ x) : xor (ed (-1) x a b) (ed 1 x a b) = xor (lf x a) (lf x b) := by
  rw [near6_iff] at h
  have ha' := ne_cell ha
  have hb' := ne_cell hb
  unfold lf
  refine xor_dec ?_
  have : (xor (ed (-1) x a b) (ed 1 x a b) = true) ↔ ((ed (-1) x a b = true ∧ ¬ ed 1 x a b = true) ∨ (¬ ed (-1) x a b = true ∧ ed 1 x a b = true)) := by
    cases ed (-1) x a b <;> cases ed 1 x a b <;> decide
  rw [this, ed_iff, ed_iff]
  rcases h with h | h | h | h | h | h <;> rw [h.1] <;> omega
theorem cnt_tog {x : Cell} : ∀ (l : List Cell) (a : Cell), Chn a l → (∀ q, q ∈ a :: l → q ≠ x) → xor (cnt (ed (-1) x) a l) (cnt (ed 1 x) a l) = xor (lf x a) (lf x (lst a l))
  | [], a, _, _ => by
    show xor false false = xor (lf x a) (lf x a)
    cases lf x a <;> rfl
  | b :: l, a, h, hx => by
    have ih := cnt_tog l b h.2 (fun q hq => hx q (List.mem_cons_of_mem _ hq))
    have e := ed_tog h.1 (hx a (List.mem_cons_self)) (hx b (List.mem_cons_of_mem _ List.mem_cons_self))
    show xor (xor (ed (-1) x a b) (cnt (ed (-1) x) b l)) (xor (ed 1 x a b) (cnt (ed 1 x) b l)) = xor (lf x a) (lf x (lst b l))
    revert e ih
    generalize ed (-1) x a b = p1
    generalize ed 1 x a b = p2
    generalize cnt (ed (-1) x) b l = p3
    generalize cnt (ed 1 x) b l = p4
    generalize lf x a = p5
    generalize lf x b = p6
    generalize lf x (lst b l) = p7
    cases p1 <;> cases p2 <;> cases p3 <;> cases p4 <;> cases p5 <;> cases p6 <;> cases p7 <;> decide
theorem cnt_congr {e e' : Cell → Cell → Bool} {P : Cell → Prop} (h : ∀ a b, a ∈ near6 b → P a → P b → e a b = e' a b) : ∀ (l : List Cell) (a : Cell), Chn a l → (∀ q, q ∈ a :: l → P q) → cnt e a l = cnt e' a l
  | [], _, _, _ => rfl
  | b :: l, a, c, hp => by
    show xor (e a b) (cnt e b l) = xor (e' a b) (cnt e' b l)
    rw [h a b c.1 (hp a List.mem_cons_self) (hp b (List.mem_cons_of_mem _ List.mem_cons_self)), cnt_congr h l b c.2 (fun q hq => hp q (List.mem_cons_of_mem _ hq))]
/-- crossing from rows ≤ r to rows > r -/
theorem cnt_rows {e : Cell → Cell → Bool} {r : Int} {P : Cell → Prop} (h : ∀ a b, a ∈ near6 b → P a → P b → e a b = xor (decide (a.1 ≤ r)) (decide (b.1 ≤ r))) : ∀ (l : List Cell) (a : Cell), Chn a l → (∀ q, q ∈ a :: l → P q) → cnt e a l = xor (decide (a.1 ≤ r)) (decide ((lst a l).1 ≤ r))
  | [], a, _, _ => by
    show false = xor (decide (a.1 ≤ r)) (decide (a.1 ≤ r))
    cases decide (a.1 ≤ r) <;> rfl
  | b :: l, a, c, hp => by
    have ih := cnt_rows h l b c.2 (fun q hq => hp q (List.mem_cons_of_mem _ hq))
    show xor (e a b) (cnt e b l) = xor (decide (a.1 ≤ r)) (decide ((lst b l).1 ≤ r))
    rw [ih, h a b c.1 (hp a List.mem_cons_self) (hp b (List.mem_cons_of_mem _ List.mem_cons_self))]
    cases decide (a.1 ≤ r) <;> cases decide (b.1 ≤ r) <;> cases decide ((lst b l).1 ≤ r) <;> rfl

theorem ed_side {x y : Cell} (h : (y.1 = x.1 ∧ y.2 = x.2 + 1) ∨ (y.1 = x.1 ∧ y.2 = x.2 - 1)) (a b : Cell) (_ : a ∈ near6 b) (ha : a ≠ x ∧ a ≠ y) (hb : b ≠ x ∧ b ≠ y) : ed 1 x a b = ed 1 y a b := by
  have a1 := ne_cell ha.1
  have a2 := ne_cell ha.2
  have b1 := ne_cell hb.1
  have b2 := ne_cell hb.2
  have e1 : lf x a = lf y a := decide_eq_decide.mpr (by omega)
  have e2 : lf x b = lf y b := decide_eq_decide.mpr (by omega)
  have e3 : y.1 = x.1 := by omega
  unfold ed
  rw [e1, e2, e3]
theorem ed_down {x y : Cell} (h : (y.1 = x.1 + 1 ∧ y.2 = x.2) ∨ (y.1 = x.1 + 1 ∧ y.2 = x.2 - 1)) (a b : Cell) (hab : a ∈ near6 b) (ha : a ≠ x ∧ a ≠ y) (hb : b ≠ x ∧ b ≠ y) : ed 1 x a b = ed (-1) y a b := by
  have a1 := ne_cell ha.1
  have a2 := ne_cell ha.2
  have b1 := ne_cell hb.1
  have b2 := ne_cell hb.2
  rw [near6_iff] at hab
  rw [Bool.eq_iff_iff, ed_iff, ed_iff]
  rcases hab with q | q | q | q | q | q <;> rcases h with k | k <;> rw [q.1, k.1] <;> omega
theorem ed_up {x y : Cell} (h : (y.1 = x.1 - 1 ∧ y.2 = x.2) ∨ (y.1 = x.1 - 1 ∧ y.2 = x.2 + 1)) (a b : Cell) (hab : a ∈ near6 b) (ha : a ≠ x ∧ a ≠ y) (hb : b ≠ x ∧ b ≠ y) : ed (-1) x a b = ed 1 y a b :=
  (ed_down (x := y) (y := x) (by omega) a b hab ⟨ha.2, ha.1⟩ ⟨hb.2, hb.1⟩).symm

theorem reach_chain {g : Cell → Nat} {p : Cell} (h : Reach g false p) : ∃ l, Chn p l ∧ (∀ q, q ∈ p :: l → g q = 110 ∨ q.1 = -1) ∧ (lst p l).1 = -1 := by
  induction h with
  | @first p a b =>
    refine ⟨[(-1, p.2)], ⟨?_, trivial⟩, ?_, rfl⟩
    · have : p.1 = 0 := b
      exact near6_iff.mpr (.inr (.inr (.inr (.inl ⟨by show p.1 = -1 + 1; omega, rfl⟩))))
    · intro q hq
      rcases List.mem_cons.mp hq with rfl | hq
      · exact .inl a
      · rcases List.mem_cons.mp hq with rfl | hq
        · exact .inr rfl
        · cases hq
  | @next p q _ hn hq ih =>
    obtain ⟨l, c, m, e⟩ := ih
    refine ⟨p :: l, ⟨hn, c⟩, ?_, e⟩
    intro z hz
    rcases List.mem_cons.mp hz with rfl | hz
    · exact .inl hq
    · exact m z hz

theorem never_both {g : Cell → Nat} {h w : Nat} (S : Sup g h w) (hn : Joined g h w false) (hw : Joined g h w true) : False := by
  obtain ⟨p, hp, pe⟩ := hn
  obtain ⟨l0, c0, m0, e0⟩ := reach_chain hp
  have pe' : p.1 = (h : Int) - 1 := pe
  -- the road, and a place below
  let top : Cell := ((h : Int), p.2)
  have cc : Chn top (p :: l0) := ⟨near6_iff.mpr (.inr (.inr (.inr (.inl ⟨by show (h : Int) = p.1 + 1; omega, rfl⟩)))), c0⟩
  have mm : ∀ q, q ∈ top :: p :: l0 → (g q = 110 ∧ 0 ≤ q.1 ∧ q.1 < (h : Int) ∧ 0 ≤ q.2 ∧ q.2 < (w : Int)) ∨ q.1 = -1 ∨ q.1 = (h : Int) := by
    intro q hq
    rcases List.mem_cons.mp hq with rfl | hq
    · exact .inr (.inr rfl)
    · rcases m0 q hq with e | e
      · exact .inl ⟨e, S q (by rw [e]; decide)⟩
      · exact .inr (.inl e)
  have el : (lst top (p :: l0)).1 = -1 := e0
  -- a west stone is on no north road
  have off : ∀ x : Cell, g x = 119 → ∀ q, q ∈ top :: p :: l0 → q ≠ x := by
    intro x hx q hq e
    have sx := S x (by rw [hx]; decide)
    subst e
    rcases mm q hq with z | z | z
    · rw [hx] at z
      exact absurd z.1 (by decide)
    · omega
    · omega
  have tog : ∀ x : Cell, g x = 119 → cnt (ed (-1) x) top (p :: l0) = cnt (ed 1 x) top (p :: l0) := by
    intro x hx
    have sx := S x (by rw [hx]; decide)
    have t := cnt_tog (p :: l0) top cc (off x hx)
    have f1 : lf x top = false := decide_eq_false (by simp only [top]; omega)
    have f2 : lf x (lst top (p :: l0)) = false := decide_eq_false (by rw [el]; omega)
    rw [f1, f2] at t
    revert t
    cases cnt (ed (-1) x) top (p :: l0) <;> cases cnt (ed 1 x) top (p :: l0) <;> decide
  -- nothing crosses left of a west stone that is reached
  have key : ∀ x, Reach g true x → cnt (ed 1 x) top (p :: l0) = false := by
    intro x hx
    induction hx with
    | @first x a b =>
      have b' : x.2 = 0 := b
      have sx := S x (by rw [a]; decide)
      have := cnt_rows (e := ed 1 x) (r := (h : Int) + 1) (P := fun q => q.1 ≤ (h : Int) ∧ ((0 ≤ q.2) ∨ q.1 = -1 ∨ q.1 = (h : Int))) (fun u v huv pu pv => by
        rw [near6_iff] at huv
        have q1 : lf x u = false := decide_eq_false (by omega)
        have q2 : lf x v = false := decide_eq_false (by omega)
        unfold ed
        rw [q1, q2]
        rw [decide_eq_true (show u.1 ≤ (h : Int) + 1 by omega), decide_eq_true (show v.1 ≤ (h : Int) + 1 by omega)]
        rfl) (p :: l0) top cc (fun q hq => by
        rcases mm q hq with z | z
        · exact ⟨by omega, .inl z.2.2.2.1⟩
        · exact ⟨by omega, .inr z⟩)
      rw [this, el]
      have k1 : top.1 ≤ (h : Int) + 1 := by simp only [top]; omega
      have k2 : (-1 : Int) ≤ (h : Int) + 1 := by omega
      rw [decide_eq_true k1, decide_eq_true k2]
      rfl
    | @next x y hx hn hy ih =>
      have gx := hx.sign
      have gx' : g x = 119 := gx
      have gy' : g y = 119 := hy
      have ox := off x gx'
      have oy := off y gy'
      have cg : ∀ (d d' : Int) (u v : Cell), (∀ a b : Cell, a ∈ near6 b → (a ≠ x ∧ a ≠ y) → (b ≠ x ∧ b ≠ y) → ed d u a b = ed d' v a b) → cnt (ed d u) top (p :: l0) = cnt (ed d' v) top (p :: l0) := fun d d' u v hh =>
        cnt_congr (P := fun q => q ≠ x ∧ q ≠ y) hh (p :: l0) top cc (fun q hq => ⟨ox q hq, oy q hq⟩)
      have hn' := hn
      rw [near6_iff] at hn'
      rcases hn' with e | e | e | e | e | e
      · rw [← cg (-1) 1 x y (ed_up (.inl e)), tog x gx', ih]
      · rw [← cg (-1) 1 x y (ed_up (.inr e)), tog x gx', ih]
      · rw [← cg 1 1 x y (ed_side (.inl e)), ih]
      · rw [← tog y gy', ← cg 1 (-1) x y (ed_down (.inl e)), ih]
      · rw [← tog y gy', ← cg 1 (-1) x y (ed_down (.inr e)), ih]
      · rw [← cg 1 1 x y (ed_side (.inr e)), ih]
  obtain ⟨x, hx, xe⟩ := hw
  have xe' : x.2 = (w : Int) - 1 := xe
  have gx' : g x = 119 := hx.sign
  have sx := S x (by rw [gx']; decide)
  have k0 := key x hx
  have := cnt_rows (e := ed 1 x) (r := x.1) (P := fun q => q ≠ x ∧ ((q.2 < (w : Int)) ∨ q.1 = -1 ∨ q.1 = (h : Int))) (fun u v huv pu pv => by
    rw [near6_iff] at huv
    have hu' := ne_cell pu.1
    have hv' := ne_cell pv.1
    have pu2 := pu.2
    have pv2 := pv.2
    refine xor_dec ?_
    rw [ed_iff]
    rcases huv with q | q | q | q | q | q <;> omega) (p :: l0) top cc (fun q hq => by
    refine ⟨off x gx' q hq, ?_⟩
    rcases mm q hq with z | z
    · exact .inl z.2.2.2.2
    · exact .inr z)
  rw [this, el] at k0
  have k1 : ¬ top.1 ≤ x.1 := by simp only [top]; omega
  have k2 : (-1 : Int) ≤ x.1 := by omega
  rw [decide_eq_false k1, decide_eq_true k2] at k0
  cases k0
end Sw
/-! Helpers over the hand layer. -/
namespace Sw
open PySem PySem.Spec PyProof.Rows L2

/-! ### heaps -/
theorem same_new {H : Hp} {p : Addr} (h : H p = none) (o : HO) : Same H (upd H p o) := fun b u q => by rw [upd_ne (ne_of_none q h)]; exact q
theorem same_mut {H H' : Hp} {p : Addr} {o : HO} (e : Same H H') (h : H p = none) : Same H (upd H' p o) := fun a u ha => by
  rw [upd_ne (ne_of_none ha h)]
  exact e a u ha
theorem same_seqT {K : PySem.W.Frag} {H H' : Hp} {a : Addr} {xs : List V} (e : Same H H') (h : SqT K H a xs) : SqT K H' a xs := by
  rcases h with (h | ⟨o, h⟩) | h
  · exact .inl (.inl (e _ _ h))
  · exact .inl (.inr ⟨o, e _ _ h⟩)
  · exact .inr h
/-- tuples stay -/
def Tps (H H' : Hp) : Prop := ∀ a xs, H a = some (.tup xs) → H' a = some (.tup xs)
theorem Tps.refl (H : Hp) : Tps H H := fun _ _ h => h
theorem Tps.trans {H H1 H2 : Hp} (a : Tps H H1) (b : Tps H1 H2) : Tps H H2 := fun x o h => b x o (a x o h)
theorem Tps.of {H H' : Hp} (s : Same H H') : Tps H H' := fun a xs h => s a _ h
theorem Tps.lst {H : Hp} {l : Addr} {ys : List V} {o : HO} (h : H l = some (.lst ys)) : Tps H (upd H l o) := fun a xs e => by
  rw [upd_ne (ne_of e h (by intro z; cases z))]
  exact e
theorem Tps.dT {H : Hp} {l : Addr} {ys : List (List Key × V)} {o : HO} (h : H l = some (.dT ys)) : Tps H (upd H l o) := fun a xs e => by
  rw [upd_ne (ne_of e h (by intro z; cases z))]
  exact e
mutual
theorem dp_same {K : PySem.W.Frag} {H H' : Hp} (s : Same H H') : ∀ {d : PyData} {v : V}, Dp K H v d → Dp K H' v d
  | _, _, .non => .non
  | _, _, .bl b => .bl b
  | _, _, .int i => .int i
  | _, _, .str x => .str x
  | _, _, .lst h a => .lst (s.seq h) (dpa_same s a)
  | _, _, .tup h a => .tup (same_seqT s h) (dpa_same s a)
theorem dpa_same {K : PySem.W.Frag} {H H' : Hp} (s : Same H H') : ∀ {ds : List PyData} {vs : List V}, DpAll K H vs ds → DpAll K H' vs ds
  | _, _, .nil => .nil
  | _, _, .cons h t => .cons (dp_same s h) (dpa_same s t)
end
theorem dpa_app {K : PySem.W.Frag} {H : Hp} : ∀ {vs ws : List V} {ds es : List PyData}, DpAll K H vs ds → DpAll K H ws es → DpAll K H (vs ++ ws) (ds ++ es)
  | _, _, _, _, .nil, h => h
  | _, _, _, _, .cons a b, h => .cons a (dpa_app b h)
theorem dpa_len {K : PySem.W.Frag} {H : Hp} : ∀ {vs : List V} {ds : List PyData}, DpAll K H vs ds → vs.length = ds.length
  | _, _, .nil => rfl
  | _, _, .cons _ b => by rw [List.length_cons, List.length_cons, dpa_len b]
theorem hu65 {k : Nat} {A : Around} (r : Room k A) : A.units + 65 < cLine := by have := r.un; omega

/-! ### cells: tuples of two ints -/
def cellV (c : Cell) : List V := [.int c.1, .int c.2]
def cellD (c : Cell) : PyData := .tuple [.int c.1, .int c.2]
inductive Cells (H : Hp) : List V → List Cell → Prop
  | nil : Cells H [] []
  | cons {a : Addr} {c : Cell} {vs : List V} {cs : List Cell} : H a = some (.tup (cellV c)) → Cells H vs cs → Cells H (.ref a :: vs) (c :: cs)
theorem Cells.tps {H H' : Hp} (s : Tps H H') : ∀ {vs : List V} {cs : List Cell}, Cells H vs cs → Cells H' vs cs
  | _, _, .nil => .nil
  | _, _, .cons h t => .cons (s _ _ h) (Cells.tps s t)
theorem Cells.same {H H' : Hp} (s : Same H H') {vs : List V} {cs : List Cell} (h : Cells H vs cs) : Cells H' vs cs := h.tps (.of s)
theorem Cells.len {H : Hp} : ∀ {vs : List V} {cs : List Cell}, Cells H vs cs → vs.length = cs.length
  | _, _, .nil => rfl
  | _, _, .cons _ t => by rw [List.length_cons, List.length_cons, Cells.len t]
theorem Cells.get {H : Hp} : ∀ {vs : List V} {cs : List Cell} {i : Nat} {x : V}, Cells H vs cs → vs[i]? = some x → ∃ a c, x = .ref a ∧ cs[i]? = some c ∧ H a = some (.tup (cellV c))
  | _, _, _, _, .nil, e => by simp at e
  | _, _, 0, _, .cons h _, e => by
    simp at e
    subst e
    exact ⟨_, _, rfl, rfl, h⟩
  | _, _, i + 1, _, .cons _ t, e => Cells.get (i := i) t (by simpa using e)
theorem Cells.at {H : Hp} : ∀ {vs : List V} {cs : List Cell} {i : Nat} {c : Cell}, Cells H vs cs → cs[i]? = some c → ∃ a, vs[i]? = some (.ref a) ∧ H a = some (.tup (cellV c))
  | _, _, _, _, .nil, e => by simp at e
  | _, _, 0, _, .cons h _, e => by
    simp at e
    subst e
    exact ⟨_, rfl, h⟩
  | _, _, i + 1, _, .cons _ t, e => Cells.at (i := i) t (by simpa using e)
theorem Cells.app {H : Hp} : ∀ {vs ws : List V} {cs ds : List Cell}, Cells H vs cs → Cells H ws ds → Cells H (vs ++ ws) (cs ++ ds)
  | _, _, _, _, .nil, h => h
  | _, _, _, _, .cons a b, h => .cons a (Cells.app b h)
theorem Cells.one {H : Hp} {a : Addr} {c : Cell} (h : H a = some (.tup (cellV c))) : Cells H [.ref a] [c] := .cons h .nil
theorem cell_dp {K : PySem.W.Frag} {H : Hp} {a : Addr} {c : Cell} (h : H a = some (.tup (cellV c))) : Dp K H (.ref a) (cellD c) := .tup (.inl (.inl h)) (.cons (.int _) (.cons (.int _) .nil))
theorem Cells.dp {K : PySem.W.Frag} {H : Hp} : ∀ {vs : List V} {cs : List Cell}, Cells H vs cs → DpAll K H vs (cs.map cellD)
  | _, _, .nil => .nil
  | _, _, .cons h t => .cons (cell_dp h) (Cells.dp t)
theorem can_cells : ∀ cs : List Cell, PyData.canLayAll0 (cs.map cellD) = true
  | [] => rfl
  | c :: cs => by
    rw [List.map_cons, PyData.canLayAll0, can_cells cs]
    rfl
theorem dep_cells : ∀ cs : List Cell, PyData.depthAll (cs.map cellD) ≤ 1
  | [] => by decide
  | c :: cs => by
    have h := dep_cells cs
    rw [List.map_cons, PyData.depthAll]
    have e : (cellD c).depth = 1 := rfl
    rw [e]
    omega
theorem shaped_cells (cs : List Cell) : SeqAt.shaped (.list (cs.map cellD)) = true := by
  unfold SeqAt.shaped
  have h := dep_cells cs
  rw [show (PyData.list (cs.map cellD)).canLay0 = PyData.canLayAll0 (cs.map cellD) from rfl, can_cells]
  have : (PyData.list (cs.map cellD)).depth ≤ 64 := by
    rw [PyData.depth]
    omega
  rw [decide_eq_true this]
  rfl
theorem shaped_cell (c : Cell) : SeqAt.shaped (cellD c) = true := rfl
theorem eqv_cells (cs : List Cell) : PyData.eqv (.list (cs.map cellD)) (.list (cs.map cellD)) = true := SeqAt.eqv_refl _ (can_cells cs)
theorem eqv_cell (c d : Cell) : PyData.eqv (cellD c) (cellD d) = decide (c = d) := by
  show (c.1 == d.1 && (c.2 == d.2 && true)) = decide (c = d)
  rw [Bool.eq_iff_iff]
  simp [Prod.ext_iff]
theorem any_cells (c : Cell) (cs : List Cell) : ((cs.map cellD).any fun z => PyData.eqv z (cellD c)) = decide (c ∈ cs) := by
  rw [Bool.eq_iff_iff, List.any_eq_true, decide_eq_true_eq]
  constructor
  · rintro ⟨x, hx, e⟩
    obtain ⟨d, hd, rfl⟩ := List.mem_map.mp hx
    rw [eqv_cell, decide_eq_true_eq] at e
    exact e ▸ hd
  · intro h
    exact ⟨cellD c, List.mem_map.mpr ⟨c, h, rfl⟩, by rw [eqv_cell, decide_eq_true rfl]⟩
/-- items of a mapped list -/
theorem map_get {α β : Type} {f : α → β} {l : List α} {i : Nat} {y : β} (h : (l.map f)[i]? = some y) : ∃ x, l[i]? = some x ∧ f x = y := by
  rw [List.getElem?_map] at h
  cases e : l[i]? with
  | none => rw [e] at h; cases h
  | some z => rw [e] at h; exact ⟨z, rfl, Option.some.inj h⟩
theorem get_lt {α : Type} {l : List α} {i : Nat} {y : α} (h : l[i]? = some y) : i < l.length := (List.getElem?_eq_some_iff.mp h).1
theorem at_int {l : List V} {k : Int} {v : V} (h0 : 0 ≤ k) (h : l[k.toNat]? = some v) : atI l k = some v := at_of (j := k.toNat) (by omega) h
theorem near6_get (r c : Int) (i : Nat) (p : Cell) (h : (near6 (r, c))[i]? = some p) : (r, c) ∈ near6 p := near6_symm (List.mem_of_getElem? h)
theorem sz0 : ([] : List V).length ≤ sizeLine := by show 0 ≤ sizeLine; decide
theorem sz1 {a : V} : [a].length ≤ sizeLine := by show 1 ≤ sizeLine; decide
theorem sz2 {a b : V} : [a, b].length ≤ sizeLine := by show 2 ≤ sizeLine; decide
theorem sz3 {a b c : V} : [a, b, c].length ≤ sizeLine := by show 3 ≤ sizeLine; decide
theorem sz4 {a b c d : V} : [a, b, c, d].length ≤ sizeLine := by show 4 ≤ sizeLine; decide
theorem sz5 {a b c d e : V} : [a, b, c, d, e].length ≤ sizeLine := by show 5 ≤ sizeLine; decide
theorem sz6 {a b c d e f : V} : [a, b, c, d, e, f].length ≤ sizeLine := by show 6 ≤ sizeLine; decide
theorem sz_le {n : Nat} (h : n ≤ 1000000) : n ≤ sizeLine := Nat.le_trans h (by decide)
theorem sz_lt {n : Nat} (h : n < 1000000) : n < sizeLine := Nat.lt_of_lt_of_le h (by decide)
/-! ### cuts: what an expression is worth, said once -/
theorem qa {i : Nat} {te : TE} {tz : TS} {D : Ends} {σ : L2.St} {H : Hp} (Pr : V → Hp → Prop) (h : ∀ Q : VK, (∀ v H1, Pr v H1 → Q v H1) → te σ H Q) (k : ∀ v H1, Pr v H1 → tz D (σ.set i (some v)) H1) : tSeq (tAsg te (gName i)) tz D σ H := h _ k
theorem qe {te : TE} {σ : L2.St} {H : Hp} {Q : VK} (Pr : V → Hp → Prop) (h : ∀ Q : VK, (∀ v H1, Pr v H1 → Q v H1) → te σ H Q) (k : ∀ v H1, Pr v H1 → Q v H1) : te σ H Q := h _ k
/-- a new list of the cells cs stands at v -/
def NewCells (H : Hp) (cs : List Cell) (v : V) (H' : Hp) : Prop := ∃ (p : Addr) (ws : List V), v = .ref p ∧ H p = none ∧ Same H H' ∧ H' p = some (.lst ws) ∧ Cells H' ws cs
theorem new_six {H : Hp} {r c : Int} {t1 t2 t3 t4 t5 t6 p : Addr} {H1 H2 H3 H4 H5 H6 : Hp} (e1 : H1 = upd H t1 (.tup (cellV (r - 1, c)))) (e2 : H2 = upd H1 t2 (.tup (cellV (r - 1, c + 1)))) (e3 : H3 = upd H2 t3 (.tup (cellV (r, c + 1)))) (e4 : H4 = upd H3 t4 (.tup (cellV (r + 1, c))))
    (e5 : H5 = upd H4 t5 (.tup (cellV (r + 1, c - 1)))) (e6 : H6 = upd H5 t6 (.tup (cellV (r, c - 1)))) (h1 : H t1 = none) (h2 : H1 t2 = none) (h3 : H2 t3 = none) (h4 : H3 t4 = none) (h5 : H4 t5 = none) (h6 : H5 t6 = none) (hp : H6 p = none) :
    NewCells H (near6 (r, c)) (.ref p) (upd H6 p (.lst [.ref t1, .ref t2, .ref t3, .ref t4, .ref t5, .ref t6])) := by
  subst e1 e2 e3 e4 e5 e6
  have s1 := same_new h1 (.tup (cellV (r - 1, c)))
  have s2 := same_new h2 (.tup (cellV (r - 1, c + 1)))
  have s3 := same_new h3 (.tup (cellV (r, c + 1)))
  have s4 := same_new h4 (.tup (cellV (r + 1, c)))
  have s5 := same_new h5 (.tup (cellV (r + 1, c - 1)))
  have s6 := same_new h6 (.tup (cellV (r, c - 1)))
  have s7 := same_new hp (.lst [.ref t1, .ref t2, .ref t3, .ref t4, .ref t5, .ref t6])
  refine ⟨p, _, rfl, (s1.trans (s2.trans (s3.trans (s4.trans (s5.trans s6))))).free hp, s1.trans (s2.trans (s3.trans (s4.trans (s5.trans (s6.trans s7))))), upd_same, ?_⟩
  exact .cons (s7 _ _ (s6 _ _ (s5 _ _ (s4 _ _ (s3 _ _ (s2 _ _ upd_same)))))) (.cons (s7 _ _ (s6 _ _ (s5 _ _ (s4 _ _ (s3 _ _ upd_same))))) (.cons (s7 _ _ (s6 _ _ (s5 _ _ (s4 _ _ upd_same)))) (.cons (s7 _ _ (s6 _ _ (s5 _ _ upd_same))) (.cons (s7 _ _ (s6 _ _ upd_same)) (.cons (s7 _ _ upd_same) .nil)))))
end Sw
namespace Sw
open PySem PySem.Spec PyProof.Rows L2
/-! ### the text by places -/
def top (i : Nat) : Stmt := PySem.Challenge.pw_shoreways_k02_near_places.main.body.getD i (.Pass ⟨0, 0, 0, 0⟩)
abbrev s_near : Stmt := top 1
abbrev N_near : List Str := ["r", "c"]
theorem sc_near : FnScope N_near ["r", "c"] (defScope s_near) := ⟨rfl, rfl, rfl, by decide +kernel, rfl, by decide +kernel, by decide +kernel⟩
abbrev s__law_cell_at : Stmt := top 3
abbrev N__law_cell_at : List Str := ["script", "k"]
theorem sc__law_cell_at : FnScope N__law_cell_at ["script", "k"] (defScope s__law_cell_at) := ⟨rfl, rfl, rfl, by decide +kernel, rfl, by decide +kernel, by decide +kernel⟩
abbrev s__law_whole : Stmt := top 5
abbrev N__law_whole : List Str := ["found"]
theorem sc__law_whole : FnScope N__law_whole ["found"] (defScope s__law_whole) := ⟨rfl, rfl, rfl, by decide +kernel, rfl, by decide +kernel, by decide +kernel⟩
abbrev s__law_places : Stmt := top 6
abbrev N__law_places : List Str := ["found", "many", "place"]
theorem sc__law_places : FnScope N__law_places ["found", "many"] (defScope s__law_places) := ⟨rfl, rfl, rfl, by decide +kernel, rfl, by decide +kernel, by decide +kernel⟩
abbrev s_law : Stmt := top 7
abbrev N_law : List Str := ["script", "due", "found", "place", "r", "c"]
theorem sc_law : FnScope N_law ["script"] (defScope s_law) := ⟨rfl, rfl, rfl, by decide +kernel, rfl, by decide +kernel, by decide +kernel⟩
/-- what the top has laid -/
structure Top (K : PySem.W.Frag) (mg : Str → Option Value) where
  a_near : Addr
  d_near : FuncData
  F_near : Fun K "near" "near" s_near a_near d_near
  B_near : Binds K d_near ["r", "c"] []
  m_near : mg "near" = some (.ref a_near)
  a__law_cell_at : Addr
  d__law_cell_at : FuncData
  F__law_cell_at : Fun K "_law_cell_at" "_law_cell_at" s__law_cell_at a__law_cell_at d__law_cell_at
  B__law_cell_at : Binds K d__law_cell_at ["script", "k"] []
  m__law_cell_at : mg "_law_cell_at" = some (.ref a__law_cell_at)
  a__law_whole : Addr
  d__law_whole : FuncData
  F__law_whole : Fun K "_law_whole" "_law_whole" s__law_whole a__law_whole d__law_whole
  B__law_whole : Binds K d__law_whole ["found"] []
  m__law_whole : mg "_law_whole" = some (.ref a__law_whole)
  a__law_places : Addr
  d__law_places : FuncData
  F__law_places : Fun K "_law_places" "_law_places" s__law_places a__law_places d__law_places
  B__law_places : Binds K d__law_places ["found", "many"] []
  m__law_places : mg "_law_places" = some (.ref a__law_places)
  a_law : Addr
  d_law : FuncData
  F_law : Fun K "law" "law" s_law a_law d_law
  B_law : Binds K d_law ["script"] []
  m_law : mg "law" = some (.ref a_law)
  z_len : mg "len" = none
  z_isinstance : mg "isinstance" = none
  z_int : mg "int" = none
  z_bool : mg "bool" = none
  z_list : mg "list" = none
  z_tuple : mg "tuple" = none
end Sw
namespace Sw
open PySem PySem.Spec PyProof.Rows L2
section
variable {P : Program} {w : World} {K : PySem.W.Frag} {mg : Str → Option Value} {base : Heap}
/-! near -/
def sp_near : Sp := fun vs H Q _ => ∃ r c : Int, vs = [.int r, .int c] ∧ ∀ (p : Addr) (H' : Hp) (ws : List V), Same H H' → H p = none → H' p = some (.lst ws) → Cells H' ws (near6 (r, c)) → Q (.ref p) H'
theorem ok_near (T : Top K mg) : FnOk P w K mg base CX0 1 T.a_near T.d_near ["r", "c"] sp_near := by
  refine T.F_near.ok sc_near (fun vs H Q E h => ?_) (fun cdv A outer s H vs Q E hr h => ?_)
  · obtain ⟨_, _, rfl, _⟩ := h
    rfl
  obtain ⟨r, c, rfl, k⟩ := h
  refine ⟨_, (pss_one (ps_ret (pe_lst (pa_cons (pe_tup (pa_cons (pe_op op_sub (pv 0) pe_int) (pa_cons (pv 1) pa_nil))) (pa_cons (pe_tup (pa_cons (pe_op op_sub (pv 0) pe_int) (pa_cons (pe_op op_add (pv 1) pe_int) pa_nil))) (pa_cons (pe_tup (pa_cons (pv 0) (pa_cons (pe_op op_add (pv 1) pe_int) pa_nil))) (pa_cons (pe_tup (pa_cons (pe_op op_add (pv 0) pe_int) (pa_cons (pv 1) pa_nil))) (pa_cons (pe_tup (pa_cons (pe_op op_add (pv 0) pe_int) (pa_cons (pe_op op_sub (pv 1) pe_int) pa_nil))) (pa_cons (pe_tup (pa_cons (pv 0) (pa_cons (pe_op op_sub (pv 1) pe_int) pa_nil))) pa_nil))))))))), ?_⟩
  refine ⟨_, rfl, _, _, rfl, rfl, _, rfl, sz2, fun t1 h1 => ?_⟩
  refine ⟨_, rfl, _, _, rfl, rfl, _, rfl, _, _, rfl, rfl, sz2, fun t2 h2 => ?_⟩
  refine ⟨_, rfl, _, rfl, _, _, rfl, rfl, sz2, fun t3 h3 => ?_⟩
  refine ⟨_, rfl, _, _, rfl, rfl, _, rfl, sz2, fun t4 h4 => ?_⟩
  refine ⟨_, rfl, _, _, rfl, rfl, _, rfl, _, _, rfl, rfl, sz2, fun t5 h5 => ?_⟩
  refine ⟨_, rfl, _, rfl, _, _, rfl, rfl, sz2, fun t6 h6 => ?_⟩
  refine ⟨sz6, fun p hp => ?_⟩
  obtain ⟨_, ws, e, n, s, hl, hc⟩ := new_six (H := H) (r := r) (c := c) rfl rfl rfl rfl rfl rfl h1 h2 h3 h4 h5 h6 hp
  cases e
  exact k p _ ws s n hl hc
end
end Sw
namespace Sw
open PySem PySem.Spec PyProof.Rows L2
section
variable {P : Program} {w : World} {K : PySem.W.Frag} {mg : Str → Option Value} {base : Heap}
/-! the law's reader of the script -/
def sAt (ns : List Int) (k : Int) : Int := ns.getD k.toNat 0
def sp__law_cell_at (K : PySem.W.Frag) : Sp := fun vs H Q _ => ∃ (a : Addr) (ns : List Int) (k : Int), vs = [.ref a, .int k] ∧ SqL K H a (ns.map V.int) ∧ 0 ≤ k ∧ Q (.int (sAt ns k)) H
theorem ok__law_cell_at (T : Top K mg) : FnOk P w K mg base CX0 1 T.a__law_cell_at T.d__law_cell_at ["script", "k"] (sp__law_cell_at K) := by
  refine T.F__law_cell_at.ok sc__law_cell_at (fun vs H Q E h => ?_) (fun cdv A outer s H vs Q E hr h => ?_)
  · obtain ⟨_, _, _, rfl, _⟩ := h
    rfl
  obtain ⟨a, ns, k, rfl, hS, hk, q⟩ := h
  refine ⟨_, (pss_cons (ps_if (pt_cmpR op_lt (pv 1) (pe_callB call_len_seq (by rfl) T.z_len PySem.boot_len (pa_cons (pv 0) pa_nil)) (nomark _))
      (pss_one (ps_ret (pe_ix ix_list (pv 0) (pv 1) (fun _ _ => rfl)))) pss_nil)
      (pss_one (ps_ret pe_int))), ?_⟩
  refine ⟨_, rfl, _, rfl, a, _, rfl, .inl hS, _, _, rfl, rfl, _, rfl, ?_⟩
  refine ite2 (fun c => ?_) (fun c => ?_)
  · have c' : k < ((ns.map V.int).length : Int) := of_decide_eq_true c
    rw [List.length_map] at c'
    have hl : k.toNat < ns.length := by omega
    have e : (ns.map V.int)[k.toNat]? = some (.int ns[k.toNat]) := by rw [List.getElem?_map, List.getElem?_eq_getElem hl] <;> rfl
    refine ⟨_, rfl, _, rfl, a, _, _, _, rfl, rfl, hS, at_int hk e, ?_⟩
    have : sAt ns k = ns[k.toNat] := by
      unfold sAt
      rw [List.getD_eq_getElem?_getD, List.getElem?_eq_getElem hl] <;> rfl
    rw [← this]
    exact q
  · have c' : ¬ k < ((ns.map V.int).length : Int) := of_decide_eq_false (Bool.eq_false_iff.mpr c)
    rw [List.length_map] at c'
    have : sAt ns k = 0 := by
      unfold sAt
      rw [List.getD_eq_getElem?_getD, List.getElem?_eq_none (by omega)] <;> rfl
    have q' : Q (.int 0) H := by
      rw [← this]
      exact q
    exact q'
end
end Sw
namespace Sw
open PySem PySem.Spec PyProof.Rows L2
section
variable {P : Program} {w : World} {K : PySem.W.Frag} {mg : Str → Option Value} {base : Heap}
/-! the law's looks: a whole number; a list of so many places -/
theorem kit_ii {K : PySem.W.Frag} : PySem.W.kitOne K (.type "int") (.type "int") = some true := kit_ty (by decide +kernel)
theorem kit_ib {K : PySem.W.Frag} : PySem.W.kitOne K (.type "int") (.type "bool") = some false := kit_ty (by decide +kernel)
theorem kit_ll {K : PySem.W.Frag} : PySem.W.kitOne K (.type "list") (.type "list") = some true := kit_ty (by decide +kernel)
theorem kit_tt {K : PySem.W.Frag} : PySem.W.kitOne K (.type "tuple") (.type "tuple") = some true := kit_ty (by decide +kernel)
theorem kit_bb {K : PySem.W.Frag} : PySem.W.kitOne K (.type "bool") (.type "bool") = some true := kit_ty (by decide +kernel)
theorem kit_ss {K : PySem.W.Frag} : PySem.W.kitOne K (.type "str") (.type "str") = some true := kit_ty (by decide +kernel)
def sp__law_whole : Sp := fun vs H Q _ => ∃ i : Int, vs = [.int i] ∧ Q (.bl true) H
theorem ok__law_whole (T : Top K mg) : FnOk P w K mg base CX0 1 T.a__law_whole T.d__law_whole ["found"] sp__law_whole := by
  refine T.F__law_whole.ok sc__law_whole (fun vs H Q E h => ?_) (fun cdv A outer s H vs Q E hr h => ?_)
  · obtain ⟨_, rfl, _⟩ := h
    rfl
  obtain ⟨i, rfl, q⟩ := h
  refine ⟨_, (pss_one (ps_ret (pe_and (pe_callB call_isi (by rfl) T.z_isinstance (by decide +kernel) (pa_cons (pv 0) (pa_cons (pe_bltn (v := .ty "int") (u := .type "int") (by rfl) T.z_int (by decide +kernel) rfl) pa_nil))) (pe_one (pe_not (pe_callB call_isi (by rfl) T.z_isinstance (by decide +kernel) (pa_cons (pv 0) (pa_cons (pe_bltn (v := .ty "bool") (u := .type "bool") (by rfl) T.z_bool (by decide +kernel) rfl) pa_nil)))))))), ?_⟩
  refine ⟨_, rfl, _, _, _, _, _, rfl, .ty _, .base (.int i), kit_ii, _, rfl, iteT ?_⟩
  exact ⟨_, rfl, _, _, _, _, _, rfl, .ty _, .base (.int i), kit_ib, _, rfl, q⟩
def sp__law_places : Sp := fun vs H Q _ => ∃ (l : Addr) (ws : List V) (cs : List Cell), vs = [.ref l, .int (cs.length : Int)] ∧ H l = some (.lst ws) ∧ Cells H ws cs ∧ Q (.bl true) H
theorem ok__law_places (T : Top K mg) : FnOk P w K mg base CX0 2 T.a__law_places T.d__law_places ["found", "many"] sp__law_places := by
  refine T.F__law_places.ok sc__law_places (fun vs H Q E h => ?_) (fun cdv A outer s H vs Q E hr h => ?_)
  · obtain ⟨_, _, _, rfl, _⟩ := h
    rfl
  obtain ⟨l, ws, cs, rfl, hl, hc, q⟩ := h
  refine ⟨_, (pss_cons (ps_if (PW.pt (pw_or (pt_not (pt_val (pe_callB call_isi (by rfl) T.z_isinstance (by decide +kernel) (pa_cons (pv 0) (pa_cons (pe_bltn (v := .ty "list") (u := .type "list") (by rfl) T.z_list (by decide +kernel) rfl) pa_nil))))) (pw_or1 (pt_cmpR op_ne (pe_callB call_len_seq (by rfl) T.z_len PySem.boot_len (pa_cons (pv 0) pa_nil)) (pv 1) (nomark _)))))
      (pss_one (ps_ret pe_bl)) pss_nil)
      (pss_cons (ps_for PassesOwn.never rfl (pi_list (pv 0)) (pg_name (i := 2) sc__law_places.nd rfl (Or.inl rfl))
      (pss_one (ps_if (PW.pt (pw_or (pt_not (pt_val (pe_callB call_isi (by rfl) T.z_isinstance (by decide +kernel) (pa_cons (pv 2) (pa_cons (pe_bltn (v := .ty "tuple") (u := .type "tuple") (by rfl) T.z_tuple (by decide +kernel) rfl) pa_nil))))) (pw_or (pt_cmpR op_ne (pe_callB call_len_seq (by rfl) T.z_len PySem.boot_len (pa_cons (pv 2) pa_nil)) pe_int (nomark _)) (pw_or (pt_not (pt_val (pe_call (ok__law_whole T) (hr.mono (by decide)) rfl T.m__law_whole T.F__law_whole.kp T.B__law_whole .nil pass0 (pa_cons (pe_ix ix_tup (pv 2) pe_int (fun _ _ => rfl)) pa_nil)))) (pw_or1 (pt_not (pt_val (pe_call (ok__law_whole T) (hr.mono (by decide)) rfl T.m__law_whole T.F__law_whole.kp T.B__law_whole .nil pass0 (pa_cons (pe_ix ix_tup (pv 2) pe_int (fun _ _ => rfl)) pa_nil)))))))))
      (pss_one (ps_ret pe_bl)) pss_nil)))
      (pss_one (ps_ret pe_bl)))), ?_⟩
  have hlen := hc.len
  refine ⟨_, rfl, _, _, _, _, _, rfl, .ty _, .base (.lst hl), kit_ll, _, rfl, iteF ?_⟩
  refine ⟨_, rfl, l, _, rfl, .inl (SqL.of hl), _, rfl, rfl, _, rfl, ?_⟩
  rw [show decide (V.int (ws.length : Int) = V.int (cs.length : Int)) = true from decide_eq_true (by rw [hlen])]
  refine iteF ?_
  refine ⟨_, rfl, l, rfl, ⟨_, SqL.of hl⟩, for_list (K := K) (a := l) (xs := ws) (fun i σ H' => H' = H ∧ ∃ v, σ = [some (.ref l), some (.int (cs.length : Int)), v]) ⟨rfl, none, rfl⟩ (fun i σ H' _ ⟨e, _⟩ => by rw [e]; exact SqL.of hl) ?_ ?_⟩
  · rintro i x σ H' hi ⟨rfl, v, rfl⟩
    obtain ⟨a, c, rfl, _, ha⟩ := hc.get hi
    refine ⟨_, rfl, _, _, _, _, _, rfl, .ty _, .base (.tup ha), kit_tt, _, rfl, iteF ?_⟩
    refine ⟨_, rfl, a, _, rfl, .inr (SqT.of ha), rfl, _, rfl, iteF ?_⟩
    refine ⟨_, rfl, a, _, _, _, rfl, rfl, SqT.of ha, atI_nat (j := 0) rfl, _, rfl, _, rfl, iteF ?_⟩
    refine ⟨_, rfl, a, _, _, _, rfl, rfl, SqT.of ha, atI_nat (j := 1) rfl, _, rfl, _, rfl, iteF ?_⟩
    exact ⟨rfl, _, rfl⟩
  · rintro σ H' ⟨rfl, v, rfl⟩
    exact q
end
end Sw
namespace Sw
open PySem PySem.Spec PyProof.Rows L2
section
variable {P : Program} {w : World} {K : PySem.W.Frag} {mg : Str → Option Value} {base : Heap}
/-! the law -/
def sp_law (K : PySem.W.Frag) : Sp := fun vs H Q _ => ∃ (a : Addr) (ns : List Int), vs = [.ref a] ∧ SqL K H a (ns.map V.int) ∧ ns.length ≤ 63 ∧ ∀ H', Q (.bl true) H'
theorem ok_law (T : Top K mg) : FnOk P w K mg base CX0 3 T.a_law T.d_law ["script"] (sp_law K) := by
  refine T.F_law.ok sc_law (fun vs H Q E h => ?_) (fun cdv A outer s H vs Q E hr h => ?_)
  · obtain ⟨_, _, rfl, _⟩ := h
    rfl
  obtain ⟨a, ns, rfl, hS, hlen, q⟩ := h
  refine ⟨_, (pss_cons (ps_par (i := 4) (j := 5) (by rfl) sc_law.nd rfl rfl (by decide) rfl rfl (pa_cons (pe_op op_sub (pe_op op_mod (pe_call (ok__law_cell_at T) (hr.mono (by decide)) rfl T.m__law_cell_at T.F__law_cell_at.kp T.B__law_cell_at .nil pass0 (pa_cons (pv 0) (pa_cons pe_int pa_nil))) pe_int) pe_int) (pa_cons (pe_op op_sub (pe_op op_mod (pe_call (ok__law_cell_at T) (hr.mono (by decide)) rfl T.m__law_cell_at T.F__law_cell_at.kp T.B__law_cell_at .nil pass0 (pa_cons (pv 0) (pa_cons pe_int pa_nil))) pe_int) pe_int) pa_nil)) (by rfl))
      (Evl.pss_cut (ps_if (pt_cmpR op_eq (pe_op op_mod (pe_call (ok__law_cell_at T) (hr.mono (by decide)) rfl T.m__law_cell_at T.F__law_cell_at.kp T.B__law_cell_at .nil pass0 (pa_cons (pv 0) (pa_cons pe_int pa_nil))) pe_int) pe_int (nomark _))
      (pss_cons (ps_set (i := 4) sc_law.nd rfl (Or.inl rfl) (pe_op op_sub (pe_op op_mod (pe_call (ok__law_cell_at T) (hr.mono (by decide)) rfl T.m__law_cell_at T.F__law_cell_at.kp T.B__law_cell_at .nil pass0 (pa_cons (pv 0) (pa_cons pe_int pa_nil))) (pe_op op_add (pe_op op_mul pe_int (pe_op op_pow pe_int pe_int)) pe_int)) (pe_op op_pow pe_int pe_int)))
      (pss_one (ps_set (i := 5) sc_law.nd rfl (Or.inl rfl) (pe_op op_sub (pe_op op_mod (pe_call (ok__law_cell_at T) (hr.mono (by decide)) rfl T.m__law_cell_at T.F__law_cell_at.kp T.B__law_cell_at .nil pass0 (pa_cons (pv 0) (pa_cons pe_int pa_nil))) (pe_op op_add (pe_op op_mul pe_int (pe_op op_pow pe_int pe_int)) pe_int)) (pe_op op_pow pe_int pe_int))))) pss_nil)
      (pss_cons (ps_set (i := 1) sc_law.nd rfl (Or.inl rfl) (pe_lst (pa_cons (pe_tup (pa_cons (pe_op op_sub (pv 4) pe_int) (pa_cons (pv 5) pa_nil))) (pa_cons (pe_tup (pa_cons (pe_op op_sub (pv 4) pe_int) (pa_cons (pe_op op_add (pv 5) pe_int) pa_nil))) (pa_cons (pe_tup (pa_cons (pv 4) (pa_cons (pe_op op_add (pv 5) pe_int) pa_nil))) (pa_cons (pe_tup (pa_cons (pe_op op_add (pv 4) pe_int) (pa_cons (pv 5) pa_nil))) (pa_cons (pe_tup (pa_cons (pe_op op_add (pv 4) pe_int) (pa_cons (pe_op op_sub (pv 5) pe_int) pa_nil))) (pa_cons (pe_tup (pa_cons (pv 4) (pa_cons (pe_op op_sub (pv 5) pe_int) pa_nil))) pa_nil))))))))
      (pss_cons (ps_set (i := 2) sc_law.nd rfl (Or.inl rfl) (pe_call (ok_near T) (hr.mono (by decide)) rfl T.m_near T.F_near.kp T.B_near .nil pass0 (pa_cons (pv 4) (pa_cons (pv 5) pa_nil))))
      (pss_cons (ps_if (PW.pt (pw_or (pt_not (pt_val (pe_call (ok__law_places T) (hr.mono (by decide)) rfl T.m__law_places T.F__law_places.kp T.B__law_places .nil pass0 (pa_cons (pv 2) (pa_cons pe_int pa_nil))))) (pw_or1 (pt_cmpR (op_neD hr.units) (pv 2) (pv 1) (nomark _)))))
      (pss_one (ps_ret pe_bl)) pss_nil)
      (pss_cons (ps_expr (pe_bm0 PySem.F.plainAttrs_list PySem.F.slot_list_pop PySem.F.type_list_pop mt_pop (pv 2)))
      (pss_cons (ps_for PassesOwn.never rfl (pi_list (pv 1)) (pg_name (i := 3) sc_law.nd rfl (Or.inl rfl))
      (pss_one (ps_if (pt_cmpR (op_notInD (hu65 hr)) (pe_tup (pa_cons (pv 4) (pa_cons (pv 5) pa_nil))) (pe_call (ok_near T) (hr.mono (by decide)) rfl T.m_near T.F_near.kp T.B_near .nil pass0 (pa_cons (pe_ix ix_tup (pv 3) pe_int (fun _ _ => rfl)) (pa_cons (pe_ix ix_tup (pv 3) pe_int (fun _ _ => rfl)) pa_nil))) (by rfl))
      (pss_one (ps_ret pe_bl)) pss_nil)))
      (pss_one (ps_ret (pe_cmpR (op_eqD hr.units) (pe_call (ok_near T) (hr.mono (by decide)) rfl T.m_near T.F_near.kp T.B_near .nil pass0 (pa_cons (pv 4) (pa_cons (pv 5) pa_nil))) (pv 1) (nomark _))))))))))), ?_⟩
  refine ⟨_, rfl, a, ns, 0, rfl, hS, by decide, _, _, rfl, rfl, (show (0 : Int) < 12 by decide), _, _, rfl, rfl, ?_⟩
  refine ⟨_, rfl, a, ns, 1, rfl, hS, by decide, _, _, rfl, rfl, (show (0 : Int) < 12 by decide), _, _, rfl, rfl, _, _, rfl, ?_⟩
  refine ⟨fun σ H' => H' = H ∧ ∃ r c : Int, σ = [some (.ref a), none, none, none, some (.int r), some (.int c)], ?_, ?_⟩
  · refine ⟨_, rfl, a, ns, 2, rfl, hS, by decide, _, _, rfl, rfl, (show (0 : Int) < 3 by decide), rfl, _, rfl, ?_⟩
    refine ite2 (fun _ => ?_) (fun _ => ?_)
    · refine ⟨_, rfl, a, ns, 0, rfl, hS, by decide, _, _, rfl, rfl, ⟨by decide, by decide, by decide⟩, _, _, rfl, rfl, .inl ⟨by decide, by decide⟩, _, _, rfl, rfl, _, _, rfl, rfl, (show (0 : Int) < 2 * 10 ^ 9 + 1 by decide), _, _, rfl, rfl, ⟨by decide, by decide, by decide⟩, _, _, rfl, rfl, ?_⟩
      refine ⟨_, rfl, a, ns, 1, rfl, hS, by decide, _, _, rfl, rfl, ⟨by decide, by decide, by decide⟩, _, _, rfl, rfl, .inl ⟨by decide, by decide⟩, _, _, rfl, rfl, _, _, rfl, rfl, (show (0 : Int) < 2 * 10 ^ 9 + 1 by decide), _, _, rfl, rfl, ⟨by decide, by decide, by decide⟩, _, _, rfl, rfl, ?_⟩
      exact ⟨rfl, _, _, rfl⟩
    · exact ⟨rfl, _, _, rfl⟩
  rintro σ H' ⟨rfl, r, c, rfl⟩
  refine qa (NewCells H' (near6 (r, c))) (fun Q k => ?_) (fun v H1 hv => ?_)
  · refine ⟨_, rfl, _, _, rfl, rfl, _, rfl, sz2, fun t1 h1 => ?_⟩
    refine ⟨_, rfl, _, _, rfl, rfl, _, rfl, _, _, rfl, rfl, sz2, fun t2 h2 => ?_⟩
    refine ⟨_, rfl, _, rfl, _, _, rfl, rfl, sz2, fun t3 h3 => ?_⟩
    refine ⟨_, rfl, _, _, rfl, rfl, _, rfl, sz2, fun t4 h4 => ?_⟩
    refine ⟨_, rfl, _, _, rfl, rfl, _, rfl, _, _, rfl, rfl, sz2, fun t5 h5 => ?_⟩
    refine ⟨_, rfl, _, rfl, _, _, rfl, rfl, sz2, fun t6 h6 => ?_⟩
    refine ⟨sz6, fun l hl => ?_⟩
    exact k _ _ (new_six rfl rfl rfl rfl rfl rfl h1 h2 h3 h4 h5 h6 hl)
  obtain ⟨l, ws, rfl, nl, s1, due, hc⟩ := hv
  -- found
  refine ⟨_, rfl, _, rfl, r, c, rfl, fun p H2 vs s2 np hp hv => ?_⟩
  have due2 := s2 _ _ due
  have hc2 := hc.same s2
  refine ⟨_, rfl, p, vs, _, rfl, hp, hv, _, rfl, iteF ?_⟩
  refine ⟨_, rfl, _, rfl, _, _, .lst (SqL.of hp) hv.dp, .lst (SqL.of due2) hc2.dp, shaped_cells _, shaped_cells _, _, rfl, ?_⟩
  rw [eqv_cells]
  refine iteF ?_
  have lv : vs.length = 6 := hv.len
  obtain ⟨y, hy⟩ : ∃ y, vs[vs.length - 1]? = some y := ⟨_, List.getElem?_eq_getElem (by omega)⟩
  refine ⟨_, rfl, .inl ⟨rfl, _, SqL.of hp⟩, p, vs, y, rfl, rfl, hp, hy, ?_⟩
  have npl : l ≠ p := ne_of_none due np
  have s3 : Tps H2 (upd H2 p (.lst vs.dropLast)) := Tps.lst hp
  have due3 : upd H2 p (.lst vs.dropLast) l = some (.lst ws) := by rw [upd_ne npl]; exact due2
  have hc3 := hc2.tps s3
  generalize upd H2 p (.lst vs.dropLast) = H3 at due3 hc3
  refine ⟨_, rfl, l, rfl, ⟨_, SqL.of due3⟩, for_list (K := K) (a := l) (xs := ws) (fun i σ H' => Same H3 H' ∧ ∃ v, σ = [some (.ref a), some (.ref l), some (.ref p), v, some (.int r), some (.int c)]) ⟨.refl _, none, rfl⟩ (fun i σ H' _ ⟨e, _⟩ => SqL.of (e _ _ due3)) ?_ ?_⟩
  · rintro i x σ H4 hi ⟨s4, v, rfl⟩
    obtain ⟨b, d, rfl, hd, hb⟩ := (hc3.same s4).get hi
    refine ⟨_, rfl, _, rfl, sz2, fun t ht => ?_⟩
    have s5 := same_new ht (.tup (cellV (r, c)))
    refine ⟨_, rfl, b, _, _, _, rfl, rfl, SqT.of (s5 _ _ hb), atI_nat (j := 0) rfl, _, rfl, b, _, _, _, rfl, rfl, SqT.of (s5 _ _ hb), atI_nat (j := 1) rfl, _, _, rfl, fun p5 H5 vs5 s6 np5 hp5 hv5 => ?_⟩
    refine ⟨_, _, cell_dp (c := (r, c)) (s6 _ _ upd_same), .lst (SqL.of hp5) hv5.dp, shaped_cell _, shaped_cells _, _, rfl, ?_⟩
    rw [any_cells, decide_eq_true (near6_get r c i d hd)]
    exact iteF ⟨s4.trans (s5.trans s6), _, rfl⟩
  · rintro σ H4 ⟨s4, v, rfl⟩
    refine ⟨_, rfl, _, rfl, r, c, rfl, fun p5 H5 vs5 s6 np5 hp5 hv5 => ?_⟩
    refine ⟨_, rfl, _, _, .lst (SqL.of hp5) hv5.dp, .lst (SqL.of (s6 _ _ (s4 _ _ due3))) ((hc3.same s4).same s6).dp, shaped_cells _, shaped_cells _, ?_⟩
    rw [eqv_cells]
    exact q _
end
end Sw
namespace Sw
open PySem PySem.Spec PyProof.Rows L2
/-! ### what the top has written, and the end -/
theorem all_mk {l : PySem.W.OpenLaw} {w : World} {K : PySem.W.Frag} {h : Heap} {mg : Str → Option Value} {fa : Addr} (X : K.In h) (G : h.Ns mainGlobals mg) (hfa : mg "law" = some (.ref fa))
    {od1 an1 : Option Addr} {sl1 : Array (Option Value)} {oc1 kV1 dc1 pm1 cd1 ct1 : Value} {f1 : Addr}
    {od2 an2 : Option Addr} {sl2 : Array (Option Value)} {oc2 kV2 dc2 pm2 cd2 ct2 : Value} {f2 : Addr}
    {od3 an3 : Option Addr} {sl3 : Array (Option Value)} {oc3 kV3 dc3 pm3 cd3 ct3 : Value} {f3 : Addr}
    {od4 an4 : Option Addr} {sl4 : Array (Option Value)} {oc4 kV4 dc4 pm4 cd4 ct4 : Value} {f4 : Addr}
    {od5 an5 : Option Addr} {sl5 : Array (Option Value)} {oc5 kV5 dc5 pm5 cd5 ct5 : Value} {f5 : Addr}
    (a1 : PySem.W.nsIn K mainGlobals "near" = some (some (.ref f1)))
    (l1 : K.lookup f1 = some ⟨oc1, od1, .func (PySem.W.fnOf "near" "near" (defArgs s_near) (defBody s_near) (defScope s_near) .none kV1 dc1 pm1 an1 cd1 ct1), sl1⟩)
    (c1 : PySem.W.codeIn K cd1 "near" = true)
    (k1 : PySem.W.keepIn K (.ref f1) = true)
    (a2 : PySem.W.nsIn K mainGlobals "_law_cell_at" = some (some (.ref f2)))
    (l2 : K.lookup f2 = some ⟨oc2, od2, .func (PySem.W.fnOf "_law_cell_at" "_law_cell_at" (defArgs s__law_cell_at) (defBody s__law_cell_at) (defScope s__law_cell_at) .none kV2 dc2 pm2 an2 cd2 ct2), sl2⟩)
    (c2 : PySem.W.codeIn K cd2 "_law_cell_at" = true)
    (k2 : PySem.W.keepIn K (.ref f2) = true)
    (a3 : PySem.W.nsIn K mainGlobals "_law_whole" = some (some (.ref f3)))
    (l3 : K.lookup f3 = some ⟨oc3, od3, .func (PySem.W.fnOf "_law_whole" "_law_whole" (defArgs s__law_whole) (defBody s__law_whole) (defScope s__law_whole) .none kV3 dc3 pm3 an3 cd3 ct3), sl3⟩)
    (c3 : PySem.W.codeIn K cd3 "_law_whole" = true)
    (k3 : PySem.W.keepIn K (.ref f3) = true)
    (a4 : PySem.W.nsIn K mainGlobals "_law_places" = some (some (.ref f4)))
    (l4 : K.lookup f4 = some ⟨oc4, od4, .func (PySem.W.fnOf "_law_places" "_law_places" (defArgs s__law_places) (defBody s__law_places) (defScope s__law_places) .none kV4 dc4 pm4 an4 cd4 ct4), sl4⟩)
    (c4 : PySem.W.codeIn K cd4 "_law_places" = true)
    (k4 : PySem.W.keepIn K (.ref f4) = true)
    (a5 : PySem.W.nsIn K mainGlobals "law" = some (some (.ref f5)))
    (l5 : K.lookup f5 = some ⟨oc5, od5, .func (PySem.W.fnOf "law" "law" (defArgs s_law) (defBody s_law) (defScope s_law) .none kV5 dc5 pm5 an5 cd5 ct5), sl5⟩)
    (c5 : PySem.W.codeIn K cd5 "law" = true)
    (k5 : PySem.W.keepIn K (.ref f5) = true)
    (z_len : PySem.W.nsIn K mainGlobals "len" = some none)
    (z_isinstance : PySem.W.nsIn K mainGlobals "isinstance" = some none)
    (z_int : PySem.W.nsIn K mainGlobals "int" = some none)
    (z_bool : PySem.W.nsIn K mainGlobals "bool" = some none)
    (z_list : PySem.W.nsIn K mainGlobals "list" = some none)
    (z_tuple : PySem.W.nsIn K mainGlobals "tuple" = some none) :
    ∃ fd : FuncData, (∀ (s : Shared) (v : Value), BindsTo s fd ⟨[v], []⟩ [("script", v)]) ∧ ∀ base : Heap, K.In base → base.Ns mainGlobals mg → FnOk l.prog w K mg base CX0 3 fa fd ["script"] (sp_law K) := by
  have e := hfa.symm.trans (PySem.W.mg_of X G a5)
  cases e
  let T : Top K mg := {
    a_near := f1,
    d_near := _,
    F_near := fun_mk (st := s_near) l1 c1 k1,
    B_near := (fun_mk (st := s_near) l1 c1 k1).binds (ps := ["r", "c"]) fun _ _ _ _ _ _ us hl => match us, hl with | [_, _], _ => rfl,
    m_near := PySem.W.mg_of X G a1,
    a__law_cell_at := f2,
    d__law_cell_at := _,
    F__law_cell_at := fun_mk (st := s__law_cell_at) l2 c2 k2,
    B__law_cell_at := (fun_mk (st := s__law_cell_at) l2 c2 k2).binds (ps := ["script", "k"]) fun _ _ _ _ _ _ us hl => match us, hl with | [_, _], _ => rfl,
    m__law_cell_at := PySem.W.mg_of X G a2,
    a__law_whole := f3,
    d__law_whole := _,
    F__law_whole := fun_mk (st := s__law_whole) l3 c3 k3,
    B__law_whole := (fun_mk (st := s__law_whole) l3 c3 k3).binds (ps := ["found"]) fun _ _ _ _ _ _ us hl => match us, hl with | [_], _ => rfl,
    m__law_whole := PySem.W.mg_of X G a3,
    a__law_places := f4,
    d__law_places := _,
    F__law_places := fun_mk (st := s__law_places) l4 c4 k4,
    B__law_places := (fun_mk (st := s__law_places) l4 c4 k4).binds (ps := ["found", "many"]) fun _ _ _ _ _ _ us hl => match us, hl with | [_, _], _ => rfl,
    m__law_places := PySem.W.mg_of X G a4,
    a_law := fa,
    d_law := _,
    F_law := fun_mk (st := s_law) l5 c5 k5,
    B_law := (fun_mk (st := s_law) l5 c5 k5).binds (ps := ["script"]) fun _ _ _ _ _ _ us hl => match us, hl with | [_], _ => rfl,
    m_law := PySem.W.mg_of X G a5,
    z_len := PySem.W.mg_none_of X G z_len,
    z_isinstance := PySem.W.mg_none_of X G z_isinstance,
    z_int := PySem.W.mg_none_of X G z_int,
    z_bool := PySem.W.mg_none_of X G z_bool,
    z_list := PySem.W.mg_none_of X G z_list,
    z_tuple := PySem.W.mg_none_of X G z_tuple }
  exact ⟨PySem.W.fnOf "law" "law" (defArgs s_law) (defBody s_law) (defScope s_law) .none kV5 dc5 pm5 an5 cd5 ct5, fun s v => .of_eq rfl, fun base _ _ => ok_law T⟩
theorem walk {l : PySem.W.OpenLaw} {q : Program} {loose : List Str} {XP : (Str → Option Value) → Heap → Prop} {YP : World → Heap → Prop} {d : DefRec} {K : Params → PySem.W.Frag} (hn : l.most = some 63) (hdf : d.params.defaults = [])
    (hY : ∀ (w : World) (h : Heap), YP w h → (K w.params).In h)
    (F : ∀ (w : World) (mg : Str → Option Value) (fa : Addr) (h : Heap), (K w.params).In h → h.Ns mainGlobals mg → mg d.name = some (.ref fa) →
      ∃ fd : FuncData, (∀ (s : Shared) (u : Value), BindsTo s fd ⟨[u], []⟩ [("script", u)]) ∧ ∀ base : Heap, (K w.params).In base → base.Ns mainGlobals mg → FnOk l.prog w (K w.params) mg base CX0 3 fa fd ["script"] (sp_law (K w.params))) :
    PySem.W.WalkO q loose XP YP l.row.toRowW d [] (fun f vs => PySem.call f vs) :=
  L2.walk_of (n := 63) (k := 3) (x := "script") (CX := fun _ => CX0) (sp := fun w => sp_law (K w.params)) hn (by decide) hdf ⟨rfl, by decide, by decide⟩ hY F (fun _ _ a ns hl _ hS => ⟨a, ns, rfl, hS, hl, fun _ => rfl⟩) fun _ _ _ _ _ z => z
end Sw
open PySem PySem.W PyProof.Rows in
set_option maxRecDepth 100000 in
set_option maxHeartbeats 0 in
theorem PySem.Challenge.cw_shoreways_k02_near_places_holds : PySem.Challenge.rw_shoreways_k02_near_places.Holds := by
  w_on; o_law; k_head; (case hw => w_witness2)
  k_fill
  refine Sw.walk (l := PySem.Challenge.rw_shoreways_k02_near_places) rfl rfl (fun w h Y => PySem.W.kIn_of Y) ?F
  case F =>
    intro w mg fa h KX G hmg
    refine' Sw.all_mk KX G hmg ?a1 ?l1 ?c1 ?k1 ?a2 ?l2 ?c2 ?k2 ?a3 ?l3 ?c3 ?k3 ?a4 ?l4 ?c4 ?k4 ?a5 ?l5 ?c5 ?k5 ?z_len ?z_isinstance ?z_int ?z_bool ?z_list ?z_tuple
    (case a1 => k_is)
    (case l1 => k_is)
    (case c1 => k_is)
    (case k1 => k_is)
    (case a2 => k_is)
    (case l2 => k_is)
    (case c2 => k_is)
    (case k2 => k_is)
    (case a3 => k_is)
    (case l3 => k_is)
    (case c3 => k_is)
    (case k3 => k_is)
    (case a4 => k_is)
    (case l4 => k_is)
    (case c4 => k_is)
    (case k4 => k_is)
    (case a5 => k_is)
    (case l5 => k_is)
    (case c5 => k_is)
    (case k5 => k_is)
    (case z_len => k_is)
    (case z_isinstance => k_is)
    (case z_int => k_is)
    (case z_bool => k_is)
    (case z_list => k_is)
    (case z_tuple => k_is)
#print axioms PySem.Challenge.cw_shoreways_k02_near_places_holds
