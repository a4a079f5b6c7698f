import PyProof.Rows.All
import Wide.All
import OpenK.AllK
import Wide.FinOn
import HandS.ForMost
import HandS.ForExc
import HandS.IsInst
import HandS.Deep
import HandS.Conv
import HandS.Wide
import HandS.Evl
import HandS.ExcIs
import HandS.Walk
import PyProof.StrBlock2
import PyProof.ListStr
import KE.KIsAll
import PySem.Challenge.RW_shoreways_k01_boards
set_option Elab.async false
set_option linter.all false
set_option maxRecDepth 100000
set_option maxHeartbeats 4000000
/-! Never both: a north road and a west road of a board can't stand together (parity of crossings). Plain Lean. -/
namespace Sw
abbrev Cell := Int × Int
def near6 (p : Cell) : List Cell := [(p.1 - 1, p.2), (p.1 - 1, p.2 + 1), (p.1, p.2 + 1), (p.1 + 1, p.2), (p.1 + 1, p.2 - 1), (p.1, p.2 - 1)]
theorem near6_iff {p q : Cell} : q ∈ near6 p ↔ (q.1 = p.1 - 1 ∧ q.2 = p.2) ∨ (q.1 = p.1 - 1 ∧ q.2 = p.2 + 1) ∨ (q.1 = p.1 ∧ q.2 = p.2 + 1) ∨ (q.1 = p.1 + 1 ∧ q.2 = p.2) ∨ (q.1 = p.1 + 1 ∧ q.2 = p.2 - 1) ∨ (q.1 = p.1 ∧ q.2 = p.2 - 1) := by
  simp only [near6, List.mem_cons, List.not_mem_nil, or_false, Prod.ext_iff]
theorem near6_symm {p q : Cell} (h : q ∈ near6 p) : p ∈ near6 q := by
  rw [near6_iff] at h ⊢
  omega
/-- a hand's sign (false: the north hand's n; true: the west hand's w), its own coordinate, its extent -/
def lt (s : Bool) : Nat := if s then 119 else 110
def sd (s : Bool) (p : Cell) : Int := if s then p.2 else p.1
def ext (s : Bool) (h w : Nat) : Int := if s then (w : Int) else (h : Int)
inductive Reach (g : Cell → Nat) (s : Bool) : Cell → Prop
  | first {p : Cell} : g p = lt s → sd s p = 0 → Reach g s p
  | next {p q : Cell} : Reach g s p → q ∈ near6 p → g q = lt s → Reach g s q
theorem Reach.sign {g : Cell → Nat} {s : Bool} {p : Cell} (h : Reach g s p) : g p = lt s := by
  cases h with
  | first a _ => exact a
  | next _ _ a => exact a
def Joined (g : Cell → Nat) (h w : Nat) (s : Bool) : Prop := ∃ p, Reach g s p ∧ sd s p = ext s h w - 1
def Sup (g : Cell → Nat) (h w : Nat) : Prop := ∀ p, g p ≠ 0 → 0 ≤ p.1 ∧ p.1 < (h : Int) ∧ 0 ≤ p.2 ∧ p.2 < (w : Int)

/-! ### parity -/
def Chn : Cell → List Cell → Prop
  | _, [] => True
  | a, b :: l => a ∈ near6 b ∧ Chn b l
def lst : Cell → List Cell → Cell
  | a, [] => a
  | _, b :: l => lst b l
def cnt (e : Cell → Cell → Bool) : Cell → List Cell → Bool
  | _, [] => false
  | a, b :: l => xor (e a b) (cnt e b l)
def lf (x p : Cell) : Bool := decide (p.1 = x.1 ∧ p.2 < x.2)
/-- an edge between row x.1 and row x.1 + d whose end in row x.1 lies left of x -/
def ed (d : Int) (x a b : Cell) : Bool := (lf x a && decide (b.1 = x.1 + d)) || (lf x b && decide (a.1 = x.1 + d))
theorem ne_cell {a x : Cell} (h : a ≠ x) : ¬ (a.1 = x.1 ∧ a.2 = x.2) := fun e => h (Prod.ext e.1 e.2)
theorem xor_dec {p q : Prop} [Decidable p] [Decidable q] {b : Bool} (h : b = true ↔ ((p ∧ ¬ q) ∨ (¬ p ∧ q))) : b = xor (decide p) (decide q) := by
  by_cases hp : p <;> by_cases hq : q <;> cases b <;> simp_all
theorem ed_iff {d : Int} {x a b : Cell} : ed d x a b = true ↔ ((a.1 = x.1 ∧ a.2 < x.2) ∧ b.1 = x.1 + d) ∨ ((b.1 = x.1 ∧ b.2 < x.2) ∧ a.1 = x.1 + d) := by
  simp only [ed, lf, Bool.or_eq_true, Bool.and_eq_true, decide_eq_true_eq]
theorem ed_tog {x a b : Cell} (h : a ∈ near6 b) (ha : a ≠ x) (hb : b ≠ x) : xor (ed (-1) x a b) (ed 1 x a b) = xor (lf x a) (lf x b) := by
  rw [near6_iff] at h
  have ha' := ne_cell ha
  have hb' := ne_cell hb
  unfold lf
  refine xor_dec ?_
  have : (xor (ed (-1) x a b) (ed 1 x a b) = true) ↔ ((ed (-1) x a b = true ∧ ¬ ed 1 x a b = true) ∨ (¬ ed (-1) x a b = true ∧ ed 1 x a b = true)) := by
    cases ed (-1) x a b <;> cases ed 1 x a b <;> decide
  rw [this, ed_iff, ed_iff]
  rcases h with h | h | h | h | h | h <;> rw [h.1] <;> omega
theorem cnt_tog {x : Cell} : ∀ (l : List Cell) (a : Cell), Chn a l → (∀ q, q ∈ a :: l → q ≠ x) → xor (cnt (ed (-1) x) a l) (cnt (ed 1 x) a l) = xor (lf x a) (lf x (lst a l))
  | [], a, _, _ => by
    show xor false false = xor (lf x a) (lf x a)
    cases lf x a <;> rfl
  | b :: l, a, h, hx => by
    have ih := cnt_tog l b h.2 (fun q hq => hx q (List.mem_cons_of_mem _ hq))
    have e := ed_tog h.1 (hx a (List.mem_cons_self)) (hx b (List.mem_cons_of_mem _ List.mem_cons_self))
    show xor (xor (ed (-1) x a b) (cnt (ed (-1) x) b l)) (xor (ed 1 x a b) (cnt (ed 1 x) b l)) = xor (lf x a) (lf x (lst b l))
    revert e ih
    generalize ed (-1) x a b = p1
    generalize ed 1 x a b = p2
    generalize cnt (ed (-1) x) b l = p3
    generalize cnt (ed 1 x) b l = p4
    generalize lf x a = p5
    generalize lf x b = p6
    generalize lf x (lst b l) = p7
    cases p1 <;> cases p2 <;> cases p3 <;> cases p4 <;> cases p5 <;> cases p6 <;> cases p7 <;> decide
theorem cnt_congr {e e' : Cell → Cell → Bool} {P : Cell → Prop} (h : ∀ a b, a ∈ near6 b → P a → P b → e a b = e' a b) : ∀ (l : List Cell) (a : Cell), Chn a l → (∀ q, q ∈ a :: l → P q) → cnt e a l = cnt e' a l
  | [], _, _, _ => rfl
  | b :: l, a, c, hp => by
    show xor (e a b) (cnt e b l) = xor (e' a b) (cnt e' b l)
    rw [h a b c.1 (hp a List.mem_cons_self) (hp b (List.mem_cons_of_mem _ List.mem_cons_self)), cnt_congr h l b c.2 (fun q hq => hp q (List.mem_cons_of_mem _ hq))]
/-- crossing from rows ≤ r to rows > r -/
theorem cnt_rows {e : Cell → Cell → Bool} {r : Int} {P : Cell → Prop} (h : ∀ a b, a ∈ near6 b → P a → P b → e a b = xor (decide (a.1 ≤ r)) (decide (b.1 ≤ r))) : ∀ (l : List Cell) (a : Cell), Chn a l → (∀ q, q ∈ a :: l → P q) → cnt e a l = xor (decide (a.1 ≤ r)) (decide ((lst a l).1 ≤ r))
  | [], a, _, _ => by
    show false = xor (decide (a.1 ≤ r)) (decide (a.1 ≤ r))
    cases decide (a.1 ≤ r) <;> rfl
  | b :: l, a, c, hp => by
    have ih := cnt_rows h l b c.2 (fun q hq => hp q (List.mem_cons_of_mem _ hq))
    show xor (e a b) (cnt e b l) = xor (decide (a.1 ≤ r)) (decide ((lst b l).1 ≤ r))
    rw [ih, h a b c.1 (hp a List.mem_cons_self) (hp b (List.mem_cons_of_mem _ List.mem_cons_self))]
    cases decide (a.1 ≤ r) <;> cases decide (b.1 ≤ r) <;> cases decide ((lst b l).1 ≤ r) <;> rfl

theorem ed_side {x y : Cell} (h : (y.1 = x.1 ∧ y.2 = x.2 + 1) ∨ (y.1 = x.1 ∧ y.2 = x.2 - 1)) (a b : Cell) (_ : a ∈ near6 b) (ha : a ≠ x ∧ a ≠ y) (hb : b ≠ x ∧ b ≠ y) : ed 1 x a b = ed 1 y a b := by
  have a1 := ne_cell ha.1
  have a2 := ne_cell ha.2
  have b1 := ne_cell hb.1
  have b2 := ne_cell hb.2
  have e1 : lf x a = lf y a := decide_eq_decide.mpr (by omega)
  have e2 : lf x b = lf y b := decide_eq_decide.mpr (by omega)
  have e3 : y.1 = x.1 := by omega
  unfold ed
  rw [e1, e2, e3]
theorem ed_down {x y : Cell} (h : (y.1 = x.1 + 1 ∧ y.2 = x.2) ∨ (y.1 = x.1 + 1 ∧ y.2 = x.2 - 1)) (a b : Cell) (hab : a ∈ near6 b) (ha : a ≠ x ∧ a ≠ y) (hb : b ≠ x ∧ b ≠ y) : ed 1 x a b = ed (-1) y a b := by
  have a1 := ne_cell ha.1
  have a2 := ne_cell ha.2
  have b1 := ne_cell hb.1
  have b2 := ne_cell hb.2
  rw [near6_iff] at hab
  rw [Bool.eq_iff_iff, ed_iff, ed_iff]
  rcases hab with q | q | q | q | q | q <;> rcases h with k | k <;> rw [q.1, k.1] <;> omega
theorem ed_up {x y : Cell} (h : (y.1 = x.1 - 1 ∧ y.2 = x.2) ∨ (y.1 = x.1 - 1 ∧ y.2 = x.2 + 1)) (a b : Cell) (hab : a ∈ near6 b) (ha : a ≠ x ∧ a ≠ y) (hb : b ≠ x ∧ b ≠ y) : ed (-1) x a b = ed 1 y a b :=
  (ed_down (x := y) (y := x) (by omega) a b hab ⟨ha.2, ha.1⟩ ⟨hb.2, hb.1⟩).symm

theorem reach_chain {g : Cell → Nat} {p : Cell} (h : Reach g false p) : ∃ l, Chn p l ∧ (∀ q, q ∈ p :: l → g q = 110 ∨ q.1 = -1) ∧ (lst p l).1 = -1 := by
  induction h with
  | @first p a b =>
    refine ⟨[(-1, p.2)], ⟨?_, trivial⟩, ?_, rfl⟩
    · have : p.1 = 0 := b
      exact near6_iff.mpr (.inr (.inr (.inr (.inl ⟨by show p.1 = -1 + 1; omega, rfl⟩))))
    · intro q hq
      rcases List.mem_cons.mp hq with rfl | hq
      · exact .inl a
      · rcases List.mem_cons.mp hq with rfl | hq
        · exact .inr rfl
        · cases hq
  | @next p q _ hn hq ih =>
    obtain ⟨l, c, m, e⟩ := ih
    refine ⟨p :: l, ⟨hn, c⟩, ?_, e⟩
    intro z hz
    rcases List.mem_cons.mp hz with rfl | hz
    · exact .inl hq
    · exact m z hz

theorem never_both {g : Cell → Nat} {h w : Nat} (S : Sup g h w) (hn : Joined g h w false) (hw : Joined g h w true) : False := by
  obtain ⟨p, hp, pe⟩ := hn
  obtain ⟨l0, c0, m0, e0⟩ := reach_chain hp
  have pe' : p.1 = (h : Int) - 1 := pe
  -- the road, and a place below
  let top : Cell := ((h : Int), p.2)
  have cc : Chn top (p :: l0) := ⟨near6_iff.mpr (.inr (.inr (.inr (.inl ⟨by show (h : Int) = p.1 + 1; omega, rfl⟩)))), c0⟩
  have mm : ∀ q, q ∈ top :: p :: l0 → (g q = 110 ∧ 0 ≤ q.1 ∧ q.1 < (h : Int) ∧ 0 ≤ q.2 ∧ q.2 < (w : Int)) ∨ q.1 = -1 ∨ q.1 = (h : Int) := by
    intro q hq
    rcases List.mem_cons.mp hq with rfl | hq
    · exact .inr (.inr rfl)
    · rcases m0 q hq with e | e
      · exact .inl ⟨e, S q (by rw [e]; decide)⟩
      · exact .inr (.inl e)
  have el : (lst top (p :: l0)).1 = -1 := e0
  -- a west stone is on no north road
  have off : ∀ x : Cell, g x = 119 → ∀ q, q ∈ top :: p :: l0 → q ≠ x := by
    intro x hx q hq e
    have sx := S x (by rw [hx]; decide)
    subst e
    rcases mm q hq with z | z | z
    · rw [hx] at z
      exact absurd z.1 (by decide)
    · omega
    · omega
  have tog : ∀ x : Cell, g x = 119 → cnt (ed (-1) x) top (p :: l0) = cnt (ed 1 x) top (p :: l0) := by
    intro x hx
    have sx := S x (by rw [hx]; decide)
    have t := cnt_tog (p :: l0) top cc (off x hx)
    have f1 : lf x top = false := decide_eq_false (by simp only [top]; omega)
    have f2 : lf x (lst top (p :: l0)) = false := decide_eq_false (by rw [el]; omega)
    rw [f1, f2] at t
    revert t
    cases cnt (ed (-1) x) top (p :: l0) <;> cases cnt (ed 1 x) top (p :: l0) <;> decide
  -- nothing crosses left of a west stone that is reached
  have key : ∀ x, Reach g true x → cnt (ed 1 x) top (p :: l0) = false := by
    intro x hx
    induction hx with
    | @first x a b =>
      have b' : x.2 = 0 := b
      have sx := S x (by rw [a]; decide)
      have := cnt_rows (e := ed 1 x) (r := (h : Int) + 1) (P := fun q => q.1 ≤ (h : Int) ∧ ((0 ≤ q.2) ∨ q.1 = -1 ∨ q.1 = (h : Int))) (fun u v huv pu pv => by
        rw [near6_iff] at huv
        have q1 : lf x u = false := decide_eq_false (by omega)
        have q2 : lf x v = false := decide_eq_false (by omega)
        unfold ed
        rw [q1, q2]
        rw [decide_eq_true (show u.1 ≤ (h : Int) + 1 by omega), decide_eq_true (show v.1 ≤ (h : Int) + 1 by omega)]
        rfl) (p :: l0) top cc (fun q hq => by
        rcases mm q hq with z | z
        · exact ⟨by omega, .inl z.2.2.2.1⟩
        · exact ⟨by omega, .inr z⟩)
      rw [this, el]
      have k1 : top.1 ≤ (h : Int) + 1 := by simp only [top]; omega
      have k2 : (-1 : Int) ≤ (h : Int) + 1 := by omega
      rw [decide_eq_true k1, decide_eq_true k2]
      rfl
    | @next x y hx hn hy ih =>
      have gx := hx.sign
      have gx' : g x = 119 := gx
      have gy' : g y = 119 := hy
      have ox := off x gx'
      have oy := off y gy'
      have cg : ∀ (d d' : Int) (u v : Cell), (∀ a b : Cell, a ∈ near6 b → (a ≠ x ∧ a ≠ y) → (b ≠ x ∧ b ≠ y) → ed d u a b = ed d' v a b) → cnt (ed d u) top (p :: l0) = cnt (ed d' v) top (p :: l0) := fun d d' u v hh =>
        cnt_congr (P := fun q => q ≠ x ∧ q ≠ y) hh (p :: l0) top cc (fun q hq => ⟨ox q hq, oy q hq⟩)
      have hn' := hn
      rw [near6_iff] at hn'
      rcases hn' with e | e | e | e | e | e
      · rw [← cg (-1) 1 x y (ed_up (.inl e)), tog x gx', ih]
      · rw [← cg (-1) 1 x y (ed_up (.inr e)), tog x gx', ih]
      · rw [← cg 1 1 x y (ed_side (.inl e)), ih]
      · rw [← tog y gy', ← cg 1 (-1) x y (ed_down (.inl e)), ih]
      · rw [← tog y gy', ← cg 1 (-1) x y (ed_down (.inr e)), ih]
      · rw [← cg 1 1 x y (ed_side (.inr e)), ih]
  obtain ⟨x, hx, xe⟩ := hw
  have xe' : x.2 = (w : Int) - 1 := xe
  have gx' : g x = 119 := hx.sign
  have sx := S x (by rw [gx']; decide)
  have k0 := key x hx
  have := cnt_rows (e := ed 1 x) (r := x.1) (P := fun q => q ≠ x ∧ ((q.2 < (w : Int)) ∨ q.1 = -1 ∨ q.1 = (h : Int))) (fun u v huv pu pv => by
    rw [near6_iff] at huv
    have hu' := ne_cell pu.1
    have hv' := ne_cell pv.1
    have pu2 := pu.2
    have pv2 := pv.2
    refine xor_dec ?_
    rw [ed_iff]
    rcases huv with q | q | q | q | q | q <;> omega) (p :: l0) top cc (fun q hq => by
    refine ⟨off x gx' q hq, ?_⟩
    rcases mm q hq with z | z
    · exact .inl z.2.2.2.2
    · exact .inr z)
  rw [this, el] at k0
  have k1 : ¬ top.1 ≤ x.1 := by simp only [top]; omega
  have k2 : (-1 : Int) ≤ x.1 := by omega
  rw [decide_eq_false k1, decide_eq_true k2] at k0
  cases k0
end Sw
/-! Helpers over the hand layer. -/
namespace Sw
open PySem PySem.Spec PyProof.Rows L2

/-! ### heaps -/
theorem same_new {H : Hp} {p : Addr} (h : H p = none) (o : HO) : Same H (upd H p o) := fun b u q => by rw [upd_ne (ne_of_none q h)]; exact q
theorem same_mut {H H' : Hp} {p : Addr} {o : HO} (e : Same H H') (h : H p = none) : Same H (upd H' p o) := fun a u ha => by
  rw [upd_ne (ne_of_none ha h)]
  exact e a u ha
theorem same_seqT {K : PySem.W.Frag} {H H' : Hp} {a : Addr} {xs : List V} (e : Same H H') (h : SqT K H a xs) : SqT K H' a xs := by
  rcases h with (h | ⟨o, h⟩) | h
  · exact .inl (.inl (e _ _ h))
  · exact .inl (.inr ⟨o, e _ _ h⟩)
  · exact .inr h
/-- tuples stay -/
def Tps (H H' : Hp) : Prop := ∀ a xs, H a = some (.tup xs) → H' a = some (.tup xs)
theorem Tps.refl (H : Hp) : Tps H H := fun _ _ h => h
theorem Tps.trans {H H1 H2 : Hp} (a : Tps H H1) (b : Tps H1 H2) : Tps H H2 := fun x o h => b x o (a x o h)
theorem Tps.of {H H' : Hp} (s : Same H H') : Tps H H' := fun a xs h => s a _ h
theorem Tps.lst {H : Hp} {l : Addr} {ys : List V} {o : HO} (h : H l = some (.lst ys)) : Tps H (upd H l o) := fun a xs e => by
  rw [upd_ne (ne_of e h (by intro z; cases z))]
  exact e
theorem Tps.dT {H : Hp} {l : Addr} {ys : List (List Key × V)} {o : HO} (h : H l = some (.dT ys)) : Tps H (upd H l o) := fun a xs e => by
  rw [upd_ne (ne_of e h (by intro z; cases z))]
  exact e
mutual
theorem dp_same {K : PySem.W.Frag} {H H' : Hp} (s : Same H H') : ∀ {d : PyData} {v : V}, Dp K H v d → Dp K H' v d
  | _, _, .non => .non
  | _, _, .bl b => .bl b
  | _, _, .int i => .int i
  | _, _, .str x => .str x
  | _, _, .lst h a => .lst (s.seq h) (dpa_same s a)
  | _, _, .tup h a => .tup (same_seqT s h) (dpa_same s a)
theorem dpa_same {K : PySem.W.Frag} {H H' : Hp} (s : Same H H') : ∀ {ds : List PyData} {vs : List V}, DpAll K H vs ds → DpAll K H' vs ds
  | _, _, .nil => .nil
  | _, _, .cons h t => .cons (dp_same s h) (dpa_same s t)
end
theorem dpa_app {K : PySem.W.Frag} {H : Hp} : ∀ {vs ws : List V} {ds es : List PyData}, DpAll K H vs ds → DpAll K H ws es → DpAll K H (vs ++ ws) (ds ++ es)
  | _, _, _, _, .nil, h => h
  | _, _, _, _, .cons a b, h => .cons a (dpa_app b h)
theorem dpa_len {K : PySem.W.Frag} {H : Hp} : ∀ {vs : List V} {ds : List PyData}, DpAll K H vs ds → vs.length = ds.length
  | _, _, .nil => rfl
  | _, _, .cons _ b => by rw [List.length_cons, List.length_cons, dpa_len b]
theorem hu65 {k : Nat} {A : Around} (r : Room k A) : A.units + 65 < cLine := by have := r.un; omega

/-! ### cells: tuples of two ints -/
def cellV (c : Cell) : List V := [.int c.1, .int c.2]
def cellD (c : Cell) : PyData := .tuple [.int c.1, .int c.2]
inductive Cells (H : Hp) : List V → List Cell → Prop
  | nil : Cells H [] []
  | cons {a : Addr} {c : Cell} {vs : List V} {cs : List Cell} : H a = some (.tup (cellV c)) → Cells H vs cs → Cells H (.ref a :: vs) (c :: cs)
theorem Cells.tps {H H' : Hp} (s : Tps H H') : ∀ {vs : List V} {cs : List Cell}, Cells H vs cs → Cells H' vs cs
  | _, _, .nil => .nil
  | _, _, .cons h t => .cons (s _ _ h) (Cells.tps s t)
theorem Cells.same {H H' : Hp} (s : Same H H') {vs : List V} {cs : List Cell} (h : Cells H vs cs) : Cells H' vs cs := h.tps (.of s)
theorem Cells.len {H : Hp} : ∀ {vs : List V} {cs : List Cell}, Cells H vs cs → vs.length = cs.length
  | _, _, .nil => rfl
  | _, _, .cons _ t => by rw [List.length_cons, List.length_cons, Cells.len t]
theorem Cells.get {H : Hp} : ∀ {vs : List V} {cs : List Cell} {i : Nat} {x : V}, Cells H vs cs → vs[i]? = some x → ∃ a c, x = .ref a ∧ cs[i]? = some c ∧ H a = some (.tup (cellV c))
  | _, _, _, _, .nil, e => by simp at e
  | _, _, 0, _, .cons h _, e => by
    simp at e
    subst e
    exact ⟨_, _, rfl, rfl, h⟩
  | _, _, i + 1, _, .cons _ t, e => Cells.get (i := i) t (by simpa using e)
theorem Cells.at {H : Hp} : ∀ {vs : List V} {cs : List Cell} {i : Nat} {c : Cell}, Cells H vs cs → cs[i]? = some c → ∃ a, vs[i]? = some (.ref a) ∧ H a = some (.tup (cellV c))
  | _, _, _, _, .nil, e => by simp at e
  | _, _, 0, _, .cons h _, e => by
    simp at e
    subst e
    exact ⟨_, rfl, h⟩
  | _, _, i + 1, _, .cons _ t, e => Cells.at (i := i) t (by simpa using e)
theorem Cells.app {H : Hp} : ∀ {vs ws : List V} {cs ds : List Cell}, Cells H vs cs → Cells H ws ds → Cells H (vs ++ ws) (cs ++ ds)
  | _, _, _, _, .nil, h => h
  | _, _, _, _, .cons a b, h => .cons a (Cells.app b h)
theorem Cells.one {H : Hp} {a : Addr} {c : Cell} (h : H a = some (.tup (cellV c))) : Cells H [.ref a] [c] := .cons h .nil
theorem cell_dp {K : PySem.W.Frag} {H : Hp} {a : Addr} {c : Cell} (h : H a = some (.tup (cellV c))) : Dp K H (.ref a) (cellD c) := .tup (.inl (.inl h)) (.cons (.int _) (.cons (.int _) .nil))
theorem Cells.dp {K : PySem.W.Frag} {H : Hp} : ∀ {vs : List V} {cs : List Cell}, Cells H vs cs → DpAll K H vs (cs.map cellD)
  | _, _, .nil => .nil
  | _, _, .cons h t => .cons (cell_dp h) (Cells.dp t)
theorem can_cells : ∀ cs : List Cell, PyData.canLayAll0 (cs.map cellD) = true
  | [] => rfl
  | c :: cs => by
    rw [List.map_cons, PyData.canLayAll0, can_cells cs]
    rfl
theorem dep_cells : ∀ cs : List Cell, PyData.depthAll (cs.map cellD) ≤ 1
  | [] => by decide
  | c :: cs => by
    have h := dep_cells cs
    rw [List.map_cons, PyData.depthAll]
    have e : (cellD c).depth = 1 := rfl
    rw [e]
    omega
theorem shaped_cells (cs : List Cell) : SeqAt.shaped (.list (cs.map cellD)) = true := by
  unfold SeqAt.shaped
  have h := dep_cells cs
  rw [show (PyData.list (cs.map cellD)).canLay0 = PyData.canLayAll0 (cs.map cellD) from rfl, can_cells]
  have : (PyData.list (cs.map cellD)).depth ≤ 64 := by
    rw [PyData.depth]
    omega
  rw [decide_eq_true this]
  rfl
theorem shaped_cell (c : Cell) : SeqAt.shaped (cellD c) = true := rfl
theorem eqv_cells (cs : List Cell) : PyData.eqv (.list (cs.map cellD)) (.list (cs.map cellD)) = true := SeqAt.eqv_refl _ (can_cells cs)
theorem eqv_cell (c d : Cell) : PyData.eqv (cellD c) (cellD d) = decide (c = d) := by
  show (c.1 == d.1 && (c.2 == d.2 && true)) = decide (c = d)
  rw [Bool.eq_iff_iff]
  simp [Prod.ext_iff]
theorem any_cells (c : Cell) (cs : List Cell) : ((cs.map cellD).any fun z => PyData.eqv z (cellD c)) = decide (c ∈ cs) := by
  rw [Bool.eq_iff_iff, List.any_eq_true, decide_eq_true_eq]
  constructor
  · rintro ⟨x, hx, e⟩
    obtain ⟨d, hd, rfl⟩ := List.mem_map.mp hx
    rw [eqv_cell, decide_eq_true_eq] at e
    exact e ▸ hd
  · intro h
    exact ⟨cellD c, List.mem_map.mpr ⟨c, h, rfl⟩, by rw [eqv_cell, decide_eq_true rfl]⟩
/-- items of a mapped list -/
theorem map_get {α β : Type} {f : α → β} {l : List α} {i : Nat} {y : β} (h : (l.map f)[i]? = some y) : ∃ x, l[i]? = some x ∧ f x = y := by
  rw [List.getElem?_map] at h
  cases e : l[i]? with
  | none => rw [e] at h; cases h
  | some z => rw [e] at h; exact ⟨z, rfl, Option.some.inj h⟩
theorem get_lt {α : Type} {l : List α} {i : Nat} {y : α} (h : l[i]? = some y) : i < l.length := (List.getElem?_eq_some_iff.mp h).1
theorem at_int {l : List V} {k : Int} {v : V} (h0 : 0 ≤ k) (h : l[k.toNat]? = some v) : atI l k = some v := at_of (j := k.toNat) (by omega) h
theorem near6_get (r c : Int) (i : Nat) (p : Cell) (h : (near6 (r, c))[i]? = some p) : (r, c) ∈ near6 p := near6_symm (List.mem_of_getElem? h)
theorem sz0 : ([] : List V).length ≤ sizeLine := by show 0 ≤ sizeLine; decide
theorem sz1 {a : V} : [a].length ≤ sizeLine := by show 1 ≤ sizeLine; decide
theorem sz2 {a b : V} : [a, b].length ≤ sizeLine := by show 2 ≤ sizeLine; decide
theorem sz3 {a b c : V} : [a, b, c].length ≤ sizeLine := by show 3 ≤ sizeLine; decide
theorem sz4 {a b c d : V} : [a, b, c, d].length ≤ sizeLine := by show 4 ≤ sizeLine; decide
theorem sz5 {a b c d e : V} : [a, b, c, d, e].length ≤ sizeLine := by show 5 ≤ sizeLine; decide
theorem sz6 {a b c d e f : V} : [a, b, c, d, e, f].length ≤ sizeLine := by show 6 ≤ sizeLine; decide
theorem sz_le {n : Nat} (h : n ≤ 1000000) : n ≤ sizeLine := Nat.le_trans h (by decide)
theorem sz_lt {n : Nat} (h : n < 1000000) : n < sizeLine := Nat.lt_of_lt_of_le h (by decide)
theorem iteB {b : Bool} {A B : Prop} (h1 : b = true → A) (h2 : b = false → B) : if b = true then A else B := by
  cases b with
  | true => exact iteT (h1 rfl)
  | false => exact iteF (h2 rfl)
theorem iteD {p : Prop} [Decidable p] {A B : Prop} (h1 : p → A) (h2 : ¬ p → B) : if decide p = true then A else B :=
  iteB (fun h => h1 (of_decide_eq_true h)) (fun h => h2 (of_decide_eq_false h))
theorem iteN {p : Prop} [Decidable p] {A B : Prop} (h1 : ¬ p → A) (h2 : p → B) : if (!decide p) = true then A else B := by
  by_cases h : p
  · rw [decide_eq_true h]
    exact iteF (h2 h)
  · rw [decide_eq_false h]
    exact iteT (h1 h)
theorem iteNB {b : Bool} {A B : Prop} (h1 : b = false → A) (h2 : b = true → B) : if (!b) = true then A else B := by
  cases b with
  | true => exact iteF (h2 rfl)
  | false => exact iteT (h1 rfl)
theorem tn {f : L2.St → Hp → Prop} {r : VK} {b c : L2.St → Hp → Prop} {σ : L2.St} {H : Hp} (h : f σ H) : tNext ⟨f, r, b, c⟩ σ H := h
theorem gn {i : Nat} {v : V} {f : L2.St → Hp → Prop} {r : VK} {b c : L2.St → Hp → Prop} {σ : L2.St} {H : Hp} (h : f (σ.set i (some v)) H) : gName i v σ H (Ends.nx ⟨f, r, b, c⟩) := h
/-! ### cuts: what an expression is worth, said once -/
theorem qa {i : Nat} {te : TE} {tz : TS} {D : Ends} {σ : L2.St} {H : Hp} (Pr : V → Hp → Prop) (h : ∀ Q : VK, (∀ v H1, Pr v H1 → Q v H1) → te σ H Q) (k : ∀ v H1, Pr v H1 → tz D (σ.set i (some v)) H1) : tSeq (tAsg te (gName i)) tz D σ H := h _ k
theorem qe {te : TE} {σ : L2.St} {H : Hp} {Q : VK} (Pr : V → Hp → Prop) (h : ∀ Q : VK, (∀ v H1, Pr v H1 → Q v H1) → te σ H Q) (k : ∀ v H1, Pr v H1 → Q v H1) : te σ H Q := h _ k
/-- a new list of the cells cs stands at v -/
def NewCells (H : Hp) (cs : List Cell) (v : V) (H' : Hp) : Prop := ∃ (p : Addr) (ws : List V), v = .ref p ∧ H p = none ∧ Same H H' ∧ H' p = some (.lst ws) ∧ Cells H' ws cs
theorem new_six {H : Hp} {r c : Int} {t1 t2 t3 t4 t5 t6 p : Addr} {H1 H2 H3 H4 H5 H6 : Hp} (e1 : H1 = upd H t1 (.tup (cellV (r - 1, c)))) (e2 : H2 = upd H1 t2 (.tup (cellV (r - 1, c + 1)))) (e3 : H3 = upd H2 t3 (.tup (cellV (r, c + 1)))) (e4 : H4 = upd H3 t4 (.tup (cellV (r + 1, c))))
    (e5 : H5 = upd H4 t5 (.tup (cellV (r + 1, c - 1)))) (e6 : H6 = upd H5 t6 (.tup (cellV (r, c - 1)))) (h1 : H t1 = none) (h2 : H1 t2 = none) (h3 : H2 t3 = none) (h4 : H3 t4 = none) (h5 : H4 t5 = none) (h6 : H5 t6 = none) (hp : H6 p = none) :
    NewCells H (near6 (r, c)) (.ref p) (upd H6 p (.lst [.ref t1, .ref t2, .ref t3, .ref t4, .ref t5, .ref t6])) := by
  subst e1 e2 e3 e4 e5 e6
  have s1 := same_new h1 (.tup (cellV (r - 1, c)))
  have s2 := same_new h2 (.tup (cellV (r - 1, c + 1)))
  have s3 := same_new h3 (.tup (cellV (r, c + 1)))
  have s4 := same_new h4 (.tup (cellV (r + 1, c)))
  have s5 := same_new h5 (.tup (cellV (r + 1, c - 1)))
  have s6 := same_new h6 (.tup (cellV (r, c - 1)))
  have s7 := same_new hp (.lst [.ref t1, .ref t2, .ref t3, .ref t4, .ref t5, .ref t6])
  refine ⟨p, _, rfl, (s1.trans (s2.trans (s3.trans (s4.trans (s5.trans s6))))).free hp, s1.trans (s2.trans (s3.trans (s4.trans (s5.trans (s6.trans s7))))), upd_same, ?_⟩
  exact .cons (s7 _ _ (s6 _ _ (s5 _ _ (s4 _ _ (s3 _ _ (s2 _ _ upd_same)))))) (.cons (s7 _ _ (s6 _ _ (s5 _ _ (s4 _ _ (s3 _ _ upd_same))))) (.cons (s7 _ _ (s6 _ _ (s5 _ _ (s4 _ _ upd_same)))) (.cons (s7 _ _ (s6 _ _ (s5 _ _ upd_same))) (.cons (s7 _ _ (s6 _ _ upd_same)) (.cons (s7 _ _ upd_same) .nil)))))
end Sw
/-! Further rules over the hand layer: a text times a number, an own object made within a try, isinstance of what a suite holds, .. -/
namespace Sw
open PySem PySem.Spec PyProof.Rows L2
section
variable {X : Cx}
/-- text * number, both small -/
def rMulS : R2 := fun x y Hh Q => ∃ (z : Str) (k : Int), x = .str z ∧ y = .int k ∧ z.length ≤ 1000 ∧ -1000 ≤ k ∧ k ≤ 1000 ∧ Q (.str (Txt.mul z k)) Hh
theorem op_mul_str : OpR X (binaryOp .Mult) rMulS := by
  intro pins s σ Hh x y v u Q I rx ry hh
  obtain ⟨z, k, rfl, rfl, hz, h1, h2, q⟩ := hh
  obtain ⟨t, rfl⟩ := rx
  obtain ⟨t', rfl⟩ := ry
  refine SB.mul ⟨?_, fun a _ => ?_, fun a _ => ?_⟩ (fun t2 tk => ⟨.str (Txt.mul z k), Hh, I.tok _, ⟨_, rfl⟩, q⟩)
  · rw [decide_eq_false (show ¬ k < -(2 ^ 63 : Int) by omega), decide_eq_false (show ¬ k ≥ 2 ^ 63 by omega)]
    rfl
  · have : (1000 : Int) ≤ (2 ^ 63 - 1) / k := by
      rw [Int.le_ediv_iff_mul_le (by omega)]
      omega
    omega
  · have e : z.length * k.toNat ≤ 1000 * 1000 := Nat.mul_le_mul hz (by omega)
    show decide (z.length * k.toNat > sizeLine) = false
    refine decide_eq_false ?_
    have : (1000 * 1000 : Nat) ≤ sizeLine := by decide
    omega
/-- list(text) -/
def rListStr : List V → Hp → VK → Prop := fun xs Hh Q => ∃ z : Str, xs = [.str z] ∧ z.length ≤ 1000 ∧ ∀ l, Hh l = none → Q (.ref l) (upd Hh l (.lst (z.cps.toList.map fun c => V.str ⟨#[c]⟩)))
end

/-! ### C(e, ..) of an own class within a try: what __init__ raises is wished for at the slots as they stand -/
section
variable {X : Cx} {CX : CXT} {k : Nat} {f C : Addr} {fd : FuncData} {ps : List Str} {sp : Sp} {E : L2.St → XK} {x : Str} {p pos : Pos} {e : Expr} {es : List Expr} {t : TA}
theorem run_makeS {pins : List (Addr × Obj)} {σ : L2.St} {H : Hp} {s : Shared} {Q : VK} {us : List Value} {vs : List V}
    (M : Mk X.K C f) (F : FnOk X.prog X.w X.K X.mg X.base CX k f fd ps sp) (hr : Room (k + 1) X.A)
    (hb : Binds X.K fd ps []) (hx : PassesAt CX X σ (E σ)) (I : Inv X pins σ H s) (r : Vals vs us)
    (h : ∀ o d, H o = none → H d = none → d ≠ o → sp (.ref o :: vs) (upd (upd H d (.own o)) o (.ins C d [])) (fun v H2 => v = .non ∧ Q (.ref o) H2) (E σ)) :
    wpAny (model X.prog X.w) X.A (call (.ref C) us) (EP X pins σ Q) X.xe s := by
  have hq := h (s.heap.objs.size + 1) s.heap.objs.size (I.hok.fresh (Nat.le_succ _)) (I.hok.fresh (Nat.le_refl _)) (Nat.ne_of_lt (Nat.lt_succ_self _))
  have J := Inv.made (C := C) I
  have rr : Vals (V.ref (s.heap.objs.size + 1) :: vs) (Value.ref (s.heap.objs.size + 1) :: us) := .cons rfl r
  have hl : (Value.ref (s.heap.objs.size + 1) :: us).length = ps.length := by
    have e := rr.length
    rw [F.len _ _ _ _ hq] at e
    exact e.symm
  have bb := hb _ (Value.ref (s.heap.objs.size + 1) :: us) J.kIn (by rw [List.append_nil]; exact hl)
  rw [List.append_nil] at bb
  refine wpAny_call (make_map (f := f) I.kIn M.makes M.init (beq_iff_eq.mp M.fn) (codeAny_mono (F.run _ X.stack _ _ ⟨Value.ref (s.heap.objs.size + 1) :: us, []⟩ (Value.ref (s.heap.objs.size + 1) :: us) _ _ (E σ)
    (hr.make C us []) (J.env0.make C us []) bb rr hq) fun res s' g => ?_))
  cases res with
  | error e => exact hx pins _ _ e s' J g
  | ok fl =>
    cases fl with
    | ret u =>
      obtain ⟨v, H', J3, rv, ev, q3⟩ := J.after g
      subst ev
      exact ⟨rv, ⟨V.ref (s.heap.objs.size + 1), H', J3, rfl, q3⟩⟩
    | next => exact g.elim
    | brk => exact g.elim
    | cont => exact g.elim
def tMakeS (C : Addr) (sp : Sp) (E : L2.St → XK) (t : TA) : TE := fun σ H Q => t σ H fun vs H1 => ∀ o d, H1 o = none → H1 d = none → d ≠ o →
  sp (.ref o :: vs) (upd (upd H1 d (.own o)) o (.ins C d [])) (fun v H2 => v = .non ∧ Q (.ref o) H2) (E σ)
theorem pe_makeS (M : Mk X.K C f) (F : FnOk X.prog X.w X.K X.mg X.base CX k f fd ps sp) (hr : Room (k + 1) X.A) (hg : Gl X x) (hm : X.mg x = some (.ref C)) (hb : Binds X.K fd ps []) (hx : ∀ σ, PassesAt CX X σ (E σ))
    (ha : PA X (e :: es) t) (hdb : (x == ("__debug__" : Str)) = false := by decide) (hst : starEach (e :: es) X.env = (false, eval e X.env) :: starEach es X.env := by rfl) (hpl : (backTo pos (starEach es X.env)).any (·.1) = false := by rfl) :
    PE X (.Call (.Name x p) (e :: es) [] pos) (tMakeS C sp E t) := by
  refine ⟨fun pins s σ H Q I h => wpAny_Call_Name_kw (ld_glob I hg hm ?_ hdb)⟩
  refine PySem.W.callWith_K (h₀ := X.base) I.ok.mod.kin M.kp (thn (ha.run pos pins s σ H _ I h) fun us s1 ⟨vs, H1, I1, r, q⟩ => ⟨I1.kIn, run_makeS M F hr hb (hx σ) I1 r q⟩) hst hpl
end

/-! ### does an except clause of the class C take an error of the class cls -/
theorem exm_of {K : PySem.W.Frag} {C : Addr} {cls : Value} {b : Bool} (h1 : PySem.W.subIn K (.ref C) (.type "BaseException") = some true) (h2 : PySem.W.isClsIn K C = true)
    (h3 : PySem.W.typeIn K (.ref C) = some (.type "type")) (h4 : PySem.W.subIn K cls (.ref C) = some b) : PySem.W.exmOne K cls (.ref C) = some b := by
  have e2 : (PySem.W.clsIn K C).isSome = true := h2
  unfold PySem.W.exmOne PySem.W.kitCls
  simp only [h1, e2, h3, h4]
  rfl
/-! ### isinstance of an own error, by the classes' facts -/
theorem kit_ownT {K : PySem.W.Frag} {t : Value} {C : Addr} (h2 : PySem.W.isClsIn K C = true) (h3 : PySem.W.typeIn K (.ref C) = some (.type "type")) (h4 : PySem.W.subIn K t (.ref C) = some true) : PySem.W.kitOne K t (.ref C) = some true := by
  have e2 : (PySem.W.clsIn K C).isSome = true := h2
  unfold PySem.W.kitOne PySem.W.kitCls
  simp [e2, h3, h4]
theorem kit_ownF {K : PySem.W.Frag} {a C : Addr} (h2 : PySem.W.isClsIn K C = true) (h3 : PySem.W.typeIn K (.ref C) = some (.type "type")) (h4 : PySem.W.subIn K (.ref a) (.ref C) = some false) (h5 : PySem.W.subIn K (.ref C) (.ref C) = some true) :
    PySem.W.kitOne K (.ref a) (.ref C) = some false := by
  have e2 : (PySem.W.clsIn K C).isSome = true := h2
  have ne : a ≠ C := by
    intro z
    rw [z, h5] at h4
    cases h4
  have ne' : (Value.ref a == Value.ref C) = false := by
    rw [beq_eq_false_iff_ne]
    intro z
    exact ne (Value.ref.inj z)
  unfold PySem.W.kitOne PySem.W.kitCls
  simp [e2, h3, h4, ne']
theorem kit_typ {K : PySem.W.Frag} {a : Addr} {T : String} {b : Bool} (h1 : PySem.W.kitMeta T = true) (h4 : PySem.W.subIn K (.ref a) (.type T) = some b) : PySem.W.kitOne K (.ref a) (.type T) = some b := by
  unfold PySem.W.kitOne PySem.W.kitCls
  have ne' : (Value.ref a == Value.type T) = false := by
    rw [beq_eq_false_iff_ne]
    intro z
    cases z
  simp [h1, h4, ne']
/-! ### isinstance of what an except suite holds -/
section
variable {X : Cx}
def rIsX (K : PySem.W.Frag) (a : Addr) (cls : Value) (d : Option Addr) : List V → Hp → VK → Prop := fun xs H Q => ∃ D : Addr, cls = .ref D ∧ d = none ∧ ExcC K D ∧ rIsE K D a xs H Q
theorem call_isX {a : Addr} {oe : Obj} {cls : Value} {d : Option Addr} {pn : List (Addr × Obj)} (hz : Zc cls d oe) (hf : ∃ vs, oe.data = .fields vs) :
    CallR (X.suite a ((a, oe) :: pn)) (.builtin "isinstance") (rIsX X.K a cls d) := by
  intro pins s σ H xs us Q I r h
  obtain ⟨D, rfl, rfl, C, h⟩ := h
  exact call_isE C hz hf pins s σ H xs us Q I r h
theorem call_isXK {K : PySem.W.Frag} {a : Addr} {oe : Obj} {cls : Value} {d : Option Addr} {pn : List (Addr × Obj)} (hK : X.K = K) (hz : Zc cls d oe) (hf : ∃ vs, oe.data = .fields vs) :
    CallR (X.suite a ((a, oe) :: pn)) (.builtin "isinstance") (rIsX K a cls d) := by
  subst hK
  exact call_isX hz hf
theorem op_eqDK {K : PySem.W.Frag} (hK : X.K = K) (hu : X.A.units + 64 < cLine) : OpR X (compareOp .Eq) (rEqD K) := by
  subst hK
  exact op_eqD hu
end
end Sw
/-! Boards as lists of lists of signs' codes, and how they stand in the heap. -/
namespace Sw
open PySem PySem.Spec PyProof.Rows L2
/-! ### texts -/
def txt (l : List Nat) : Str := ⟨l.toArray⟩
theorem txt_cps (l : List Nat) : (txt l).cps.toList = l := rfl
theorem txt_len (l : List Nat) : (txt l).length = l.length := by
  show l.toArray.size = l.length
  rw [List.size_toArray]
theorem txt_app (a b : List Nat) : txt a ++ txt b = txt (a ++ b) := ext_toList (by
  show (a.toArray ++ b.toArray).toList = (a ++ b)
  rw [Array.toList_append])
theorem txt_inj {a b : List Nat} (h : txt a = txt b) : a = b := by
  have := congrArg (fun z : Str => z.cps.toList) h
  exact this
theorem s_n : (Str.ofString "n") = txt [110] := by decide +kernel
theorem s_w : (Str.ofString "w") = txt [119] := by decide +kernel
theorem s_dot : (Str.ofString ".") = txt [46] := by decide +kernel
theorem s_nw : (Str.ofString "nw") = txt [110, 119] := by decide +kernel
theorem s_wn : (Str.ofString "wn") = txt [119, 110] := by decide +kernel
theorem s_nwd : (Str.ofString "nw.") = txt [110, 119, 46] := by decide +kernel
theorem s_empty : (Str.ofString "") = txt [] := by decide +kernel
theorem mul_txt (c : Nat) (k : Int) : Txt.mul (txt [c]) k = txt (List.replicate k.toNat c) := by
  unfold Txt.mul
  by_cases h1 : k < 1
  · rw [if_pos h1]
    have : k.toNat = 0 := by omega
    rw [this]
    rfl
  · rw [if_neg h1]
    by_cases h2 : k = 1
    · subst h2
      rfl
    · have e : (k == 1 || (txt [c]).length == 0) = false := by
        rw [txt_len]
        simp [h2]
      rw [e, if_neg Bool.false_ne_true]
      refine ext_toList ?_
      show (List.foldl (fun a b => a ++ b) #[] (List.replicate k.toNat #[c])).toList = List.replicate k.toNat c
      have gen : ∀ (m : Nat) (acc : Array Nat), (List.foldl (fun a b => a ++ b) acc (List.replicate m #[c])).toList = acc.toList ++ List.replicate m c := by
        intro m
        induction m with
        | zero => intro acc; simp
        | succ m ih =>
          intro acc
          rw [List.replicate_succ, List.foldl_cons, ih, Array.toList_append, List.replicate_succ, List.append_assoc]
          rfl
      rw [gen]
      rfl
theorem cutS_to {l : List Nat} {k : Int} (h0 : 0 ≤ k) (h : k ≤ l.length) : cutS (txt l) none (some k) = txt (l.take k.toNat) := by
  refine ext_toList ?_
  show ((l.drop 0).take ((if k < 0 then (k + ((txt l).length : Int)).toNat else min k.toNat (txt l).length) - 0)) = l.take k.toNat
  rw [if_neg (by omega), txt_len, List.drop_zero, Nat.sub_zero, Nat.min_eq_left (by omega)]
theorem cutS_from {l : List Nat} {k : Int} (h0 : 0 ≤ k) (h : k ≤ l.length) : cutS (txt l) (some k) none = txt (l.drop k.toNat) := by
  refine ext_toList ?_
  show ((l.drop (if k < 0 then (k + ((txt l).length : Int)).toNat else min k.toNat (txt l).length)).take ((txt l).length - (if k < 0 then (k + ((txt l).length : Int)).toNat else min k.toNat (txt l).length))) = l.drop k.toNat
  rw [if_neg (by omega), txt_len, Nat.min_eq_left (by omega)]
  rw [List.take_of_length_le (by rw [List.length_drop]; omega)]
theorem cutV_to {l : List V} {k : Int} (h0 : 0 ≤ k) (h : k ≤ l.length) : cutV l none (some k) = l.take k.toNat := by
  show ((l.drop 0).take ((if k < 0 then (k + (l.length : Int)).toNat else min k.toNat l.length) - 0)) = l.take k.toNat
  rw [if_neg (by omega), List.drop_zero, Nat.sub_zero, Nat.min_eq_left (by omega)]
theorem cutV_from {l : List V} {k : Int} (h0 : 0 ≤ k) (h : k ≤ l.length) : cutV l (some k) none = l.drop k.toNat := by
  show ((l.drop (if k < 0 then (k + (l.length : Int)).toNat else min k.toNat l.length)).take (l.length - (if k < 0 then (k + (l.length : Int)).toNat else min k.toNat l.length))) = l.drop k.toNat
  rw [if_neg (by omega), Nat.min_eq_left (by omega), List.take_of_length_le (by rw [List.length_drop]; omega)]

/-! ### boards -/
abbrev Bd := List (List Nat)
def rowV (l : List Nat) : V := .str (txt l)
def rowsV (B : Bd) : List V := B.map rowV
theorem rowsV_len (B : Bd) : (rowsV B).length = B.length := List.length_map _
theorem rowsV_get {B : Bd} {i : Nat} {r : List Nat} (h : B[i]? = some r) : (rowsV B)[i]? = some (rowV r) := by
  unfold rowsV
  rw [List.getElem?_map, h]
  rfl
theorem rowsV_inv {B : Bd} {i : Nat} {x : V} (h : (rowsV B)[i]? = some x) : ∃ r, B[i]? = some r ∧ x = rowV r := by
  obtain ⟨r, h1, h2⟩ := map_get h
  exact ⟨r, h1, h2.symm⟩
def okc (c : Nat) : Bool := decide (c ∈ [110, 119, 46])
/-- how wide: the first row's length -/
def wid (B : Bd) : Nat := (B.headD []).length
def rowOk (w : Nat) (r : List Nat) : Bool := decide (r.length = w) && r.all okc
def Good (B : Bd) : Bool := decide (1 ≤ B.length ∧ B.length ≤ 9) && (decide (1 ≤ wid B ∧ wid B ≤ 9) && B.all (rowOk (wid B)))
structure IsB (B : Bd) (h w : Nat) : Prop where
  hh : B.length = h
  ww : ∀ r ∈ B, r.length = w
  ok : ∀ r ∈ B, ∀ c ∈ r, c = 110 ∨ c = 119 ∨ c = 46
  h1 : 1 ≤ h
  h9 : h ≤ 9
  w1 : 1 ≤ w
  w9 : w ≤ 9
theorem okc_iff (c : Nat) : okc c = true ↔ c = 110 ∨ c = 119 ∨ c = 46 := by
  unfold okc
  rw [decide_eq_true_eq]
  simp
theorem IsB.wid {B : Bd} {h w : Nat} (I : IsB B h w) : wid B = w := by
  cases B with
  | nil =>
    have := I.hh
    have := I.h1
    simp only [List.length_nil] at *
    omega
  | cons r B => exact I.ww r List.mem_cons_self
theorem IsB.good {B : Bd} {h w : Nat} (I : IsB B h w) : Good B = true := by
  unfold Good
  rw [I.wid, I.hh, decide_eq_true ⟨I.h1, I.h9⟩, decide_eq_true ⟨I.w1, I.w9⟩, Bool.true_and, Bool.true_and, List.all_eq_true]
  intro r hr
  unfold rowOk
  rw [decide_eq_true (I.ww r hr), Bool.true_and, List.all_eq_true]
  intro c hc
  exact (okc_iff c).mpr (I.ok r hr c hc)
theorem good_is {B : Bd} (h : Good B = true) : IsB B B.length (wid B) := by
  unfold Good at h
  rw [Bool.and_eq_true, Bool.and_eq_true, decide_eq_true_eq, decide_eq_true_eq, List.all_eq_true] at h
  obtain ⟨⟨a1, a2⟩, ⟨b1, b2⟩, c⟩ := h
  have c1 : ∀ r ∈ B, r.length = wid B ∧ ∀ x ∈ r, okc x = true := by
    intro r hr
    have := c r hr
    unfold rowOk at this
    rw [Bool.and_eq_true, decide_eq_true_eq, List.all_eq_true] at this
    exact this
  exact ⟨rfl, fun r hr => (c1 r hr).1, fun r hr x hx => (okc_iff x).mp ((c1 r hr).2 x hx), a1, a2, b1, b2⟩
/-- small enough for the heap's line -/
structure Small (B : Bd) : Prop where
  len : B.length ≤ 1000
  row : ∀ r ∈ B, r.length ≤ 1000
  cod : ∀ r ∈ B, ∀ c ∈ r, c < 1000
theorem IsB.small {B : Bd} {h w : Nat} (I : IsB B h w) : Small B := ⟨by have := I.hh; have := I.h9; omega, fun r hr => by have := I.ww r hr; have := I.w9; omega, fun r hr c hc => by have := I.ok r hr c hc; omega⟩
/-- a row of the board at place i -/
theorem IsB.row {B : Bd} {h w : Nat} (I : IsB B h w) {i : Nat} (hi : i < h) : ∃ r, B[i]? = some r ∧ r.length = w := by
  have : i < B.length := by rw [I.hh]; exact hi
  exact ⟨B[i], List.getElem?_eq_getElem this, I.ww _ (List.getElem_mem this)⟩

/-! ### data -/
def rowsD (B : Bd) : PyData := .list (B.map fun r => PyData.str (txt r))
theorem rows_dpa {K : PySem.W.Frag} {H : Hp} : ∀ B : Bd, DpAll K H (rowsV B) (B.map fun r => PyData.str (txt r))
  | [] => .nil
  | r :: B => .cons (.str _) (rows_dpa B)
theorem rows_dp {K : PySem.W.Frag} {H : Hp} {a : Addr} {B : Bd} (h : H a = some (.lst (rowsV B))) : Dp K H (.ref a) (rowsD B) := .lst (SqL.of h) (rows_dpa B)
theorem can_txt {r : List Nat} (h : ∀ c ∈ r, c < 1000) : (PyData.str (txt r)).canLay0 = true := by
  show (r.toArray.all fun c => decide (c < 0x110000)) = true
  rw [List.all_toArray, List.all_eq_true]
  intro c hc
  exact decide_eq_true (by have := h c hc; omega)
theorem can_rows : ∀ B : Bd, (∀ r ∈ B, ∀ c ∈ r, c < 1000) → PyData.canLayAll0 (B.map fun r => PyData.str (txt r)) = true
  | [], _ => rfl
  | r :: B, h => by
    rw [List.map_cons, PyData.canLayAll0, can_rows B (fun x hx => h x (List.mem_cons_of_mem _ hx)), can_txt (h r List.mem_cons_self)]
    rfl
theorem dep_rows : ∀ B : Bd, PyData.depthAll (B.map fun r => PyData.str (txt r)) ≤ 1
  | [] => by decide
  | r :: B => by
    have h := dep_rows B
    rw [List.map_cons, PyData.depthAll]
    have e : (PyData.str (txt r)).depth = 0 := rfl
    rw [e]
    omega
theorem shaped_rows {B : Bd} (hB : Small B) : SeqAt.shaped (rowsD B) = true := by
  unfold SeqAt.shaped rowsD
  have h := dep_rows B
  rw [show (PyData.list (B.map fun r => PyData.str (txt r))).canLay0 = PyData.canLayAll0 (B.map fun r => PyData.str (txt r)) from rfl, can_rows B hB.cod]
  have : (PyData.list (B.map fun r => PyData.str (txt r))).depth ≤ 64 := by
    rw [PyData.depth]
    omega
  rw [decide_eq_true this]
  rfl
theorem eqv_rows {B : Bd} (hB : Small B) : PyData.eqv (rowsD B) (rowsD B) = true := SeqAt.eqv_refl _ (can_rows B hB.cod)

/-! ### a Board in the heap -/
def bfl (l : Addr) (h w : Int) : List (Str × V) := [("rows", .ref l), ("height", .int h), ("width", .int w)]
theorem lk_h {k : Str} {v : V} {r : List (Str × V)} : List.lookup k ((k, v) :: r) = some v := by
  simp only [List.lookup, beq_self_eq_true k]
theorem lk_p {k g : Str} {v : V} {r : List (Str × V)} (h : (k == g) = false) : List.lookup k ((g, v) :: r) = List.lookup k r := by
  simp only [List.lookup, h]
theorem pt_p {f g : Str} {v x : V} {r : List (Str × V)} (h : ¬ g = f) : putF f v ((g, x) :: r) = (g, x) :: putF f v r := if_neg h
theorem bfl_rows (l : Addr) (h w : Int) : (bfl l h w).lookup ("rows" : Str) = some (.ref l) := lk_h
theorem bfl_height (l : Addr) (h w : Int) : (bfl l h w).lookup ("height" : Str) = some (.int h) := (lk_p (by decide +kernel)).trans lk_h
theorem bfl_width (l : Addr) (h w : Int) : (bfl l h w).lookup ("width" : Str) = some (.int w) := (lk_p (by decide +kernel)).trans ((lk_p (by decide +kernel)).trans lk_h)
theorem bfl_has (l : Addr) (h w : Int) : (bfl l h w).lookup ("has" : Str) = none := (lk_p (by decide +kernel)).trans ((lk_p (by decide +kernel)).trans ((lk_p (by decide +kernel)).trans rfl))
theorem bfl_new (l : Addr) (h w : Int) : putF "width" (.int w) (putF "height" (.int h) (putF "rows" (.ref l) [])) = bfl l h w := by
  show putF "width" (.int w) (putF "height" (.int h) [("rows", .ref l)]) = _
  rw [pt_p (by decide +kernel)]
  show putF "width" (.int w) [("rows", .ref l), ("height", .int h)] = _
  rw [pt_p (by decide +kernel), pt_p (by decide +kernel)]
  rfl
/-- a Board of the rows B stands at p, its list at l -/
structure BoardAt (C : Addr) (H : Hp) (p l : Addr) (B : Bd) : Prop where
  ob : ∃ dx, H p = some (.ins C dx (bfl l B.length (wid B)))
  ls : H l = some (.lst (rowsV B))
theorem BoardAt.same {C : Addr} {H H' : Hp} {p l : Addr} {B : Bd} (b : BoardAt C H p l B) (s : Same H H') : BoardAt C H' p l B := by
  obtain ⟨⟨dx, h1⟩, h2⟩ := b
  exact ⟨⟨dx, s _ _ h1⟩, s _ _ h2⟩
end Sw
namespace Sw
open PySem PySem.Spec PyProof.Rows L2
/-! ### the text by places -/
def top (i : Nat) : Stmt := PySem.Challenge.pw_shoreways_k01_boards.main.body.getD i (.Pass ⟨0, 0, 0, 0⟩)
abbrev s_board_right : Stmt := top 6
abbrev N_board_right : List Str := ["rows", "row", "letter"]
theorem sc_board_right : FnScope N_board_right ["rows"] (defScope s_board_right) := ⟨rfl, rfl, rfl, by decide +kernel, rfl, by decide +kernel, by decide +kernel⟩
abbrev s_Board___init__ : Stmt := inClass (top 7) 0
abbrev N_Board___init__ : List Str := ["self", "rows"]
theorem sc_Board___init__ : FnScope N_Board___init__ ["self", "rows"] (defScope s_Board___init__) := ⟨rfl, rfl, rfl, by decide +kernel, rfl, by decide +kernel, by decide +kernel⟩
abbrev s__law_cell_at : Stmt := top 9
abbrev N__law_cell_at : List Str := ["script", "k"]
theorem sc__law_cell_at : FnScope N__law_cell_at ["script", "k"] (defScope s__law_cell_at) := ⟨rfl, rfl, rfl, by decide +kernel, rfl, by decide +kernel, by decide +kernel⟩
abbrev s__law_mix : Stmt := top 10
abbrev N__law_mix : List Str := ["cell", "k", "many", "some", "number"]
theorem sc__law_mix : FnScope N__law_mix ["cell", "k", "many"] (defScope s__law_mix) := ⟨rfl, rfl, rfl, by decide +kernel, rfl, by decide +kernel, by decide +kernel⟩
abbrev s__law_whole : Stmt := top 11
abbrev N__law_whole : List Str := ["found"]
theorem sc__law_whole : FnScope N__law_whole ["found"] (defScope s__law_whole) := ⟨rfl, rfl, rfl, by decide +kernel, rfl, by decide +kernel, by decide +kernel⟩
abbrev s__law_rows_by : Stmt := top 12
abbrev N__law_rows_by : List Str := ["script", "height", "width", "full", "rows", "r", "cell", "row", "c", "kind"]
theorem sc__law_rows_by : FnScope N__law_rows_by ["script", "height", "width", "full"] (defScope s__law_rows_by) := ⟨rfl, rfl, rfl, by decide +kernel, rfl, by decide +kernel, by decide +kernel⟩
abbrev s__law_size_by : Stmt := top 13
abbrev N__law_size_by : List Str := ["script", "most"]
theorem sc__law_size_by : FnScope N__law_size_by ["script", "most"] (defScope s__law_size_by) := ⟨rfl, rfl, rfl, by decide +kernel, rfl, by decide +kernel, by decide +kernel⟩
abbrev s__law_hurt : Stmt := top 15
abbrev N__law_hurt : List Str := ["rows", "cell", "way", "at", "place", "bad", "row"]
theorem sc__law_hurt : FnScope N__law_hurt ["rows", "cell"] (defScope s__law_hurt) := ⟨rfl, rfl, rfl, by decide +kernel, rfl, by decide +kernel, by decide +kernel⟩
abbrev s_law : Stmt := top 16
abbrev N_law : List Str := ["script", "rows", "good", "handed", "e", "height", "width", "board"]
theorem sc_law : FnScope N_law ["script"] (defScope s_law) := ⟨rfl, rfl, rfl, by decide +kernel, rfl, by decide +kernel, by decide +kernel⟩
/-- what the top has laid -/
structure Top (K : PySem.W.Frag) (mg : Str → Option Value) where
  a_board_right : Addr
  d_board_right : FuncData
  F_board_right : Fun K "board_right" "board_right" s_board_right a_board_right d_board_right
  B_board_right : Binds K d_board_right ["rows"] []
  m_board_right : mg "board_right" = some (.ref a_board_right)
  a_Board___init__ : Addr
  d_Board___init__ : FuncData
  F_Board___init__ : Fun K "__init__" "Board.__init__" s_Board___init__ a_Board___init__ d_Board___init__
  B_Board___init__ : Binds K d_Board___init__ ["self", "rows"] []
  a__law_cell_at : Addr
  d__law_cell_at : FuncData
  F__law_cell_at : Fun K "_law_cell_at" "_law_cell_at" s__law_cell_at a__law_cell_at d__law_cell_at
  B__law_cell_at : Binds K d__law_cell_at ["script", "k"] []
  m__law_cell_at : mg "_law_cell_at" = some (.ref a__law_cell_at)
  a__law_mix : Addr
  d__law_mix : FuncData
  F__law_mix : Fun K "_law_mix" "_law_mix" s__law_mix a__law_mix d__law_mix
  B__law_mix : Binds K d__law_mix ["cell", "k", "many"] []
  m__law_mix : mg "_law_mix" = some (.ref a__law_mix)
  a__law_whole : Addr
  d__law_whole : FuncData
  F__law_whole : Fun K "_law_whole" "_law_whole" s__law_whole a__law_whole d__law_whole
  B__law_whole : Binds K d__law_whole ["found"] []
  m__law_whole : mg "_law_whole" = some (.ref a__law_whole)
  a__law_rows_by : Addr
  d__law_rows_by : FuncData
  F__law_rows_by : Fun K "_law_rows_by" "_law_rows_by" s__law_rows_by a__law_rows_by d__law_rows_by
  B__law_rows_by : Binds K d__law_rows_by ["script", "height", "width", "full"] []
  m__law_rows_by : mg "_law_rows_by" = some (.ref a__law_rows_by)
  a__law_size_by : Addr
  d__law_size_by : FuncData
  F__law_size_by : Fun K "_law_size_by" "_law_size_by" s__law_size_by a__law_size_by d__law_size_by
  B__law_size_by : Binds K d__law_size_by ["script", "most"] []
  m__law_size_by : mg "_law_size_by" = some (.ref a__law_size_by)
  a__law_hurt : Addr
  d__law_hurt : FuncData
  F__law_hurt : Fun K "_law_hurt" "_law_hurt" s__law_hurt a__law_hurt d__law_hurt
  B__law_hurt : Binds K d__law_hurt ["rows", "cell"] []
  m__law_hurt : mg "_law_hurt" = some (.ref a__law_hurt)
  a_law : Addr
  d_law : FuncData
  F_law : Fun K "law" "law" s_law a_law d_law
  B_law : Binds K d_law ["script"] []
  m_law : mg "law" = some (.ref a_law)
  C_Board : Addr
  cl_Board : Cls K C_Board
  mC_Board : mg "Board" = some (.ref C_Board)
  Mk_Board : Mk K C_Board a_Board___init__
  n_Board_rows : NoAttr K C_Board "rows"
  n_Board_height : NoAttr K C_Board "height"
  n_Board_width : NoAttr K C_Board "width"
  C_ShoreError : Addr
  mC_ShoreError : mg "ShoreError" = some (.ref C_ShoreError)
  x_ShoreError : PySem.W.excIn K C_ShoreError [.type "ValueError", .type "Exception", .type "BaseException", .type "object"] "ValueError.__new__" = true
  k_ShoreError : PySem.W.keepIn K (.ref C_ShoreError) = true
  b_ShoreError : PySem.W.subIn K (.ref C_ShoreError) (.type "BaseException") = some true
  t_ShoreError : PySem.W.typeIn K (.ref C_ShoreError) = some (.type "type")
  i_ShoreError : PySem.W.isClsIn K C_ShoreError = true
  C_BadBoard : Addr
  mC_BadBoard : mg "BadBoard" = some (.ref C_BadBoard)
  x_BadBoard : PySem.W.excIn K C_BadBoard [.type "ValueError", .type "Exception", .type "BaseException", .type "object"] "ValueError.__new__" = true
  k_BadBoard : PySem.W.keepIn K (.ref C_BadBoard) = true
  b_BadBoard : PySem.W.subIn K (.ref C_BadBoard) (.type "BaseException") = some true
  t_BadBoard : PySem.W.typeIn K (.ref C_BadBoard) = some (.type "type")
  i_BadBoard : PySem.W.isClsIn K C_BadBoard = true
  s_BadBoard_ShoreError : PySem.W.subIn K (.ref C_BadBoard) (.ref C_ShoreError) = some true
  s_BadBoard_BadBoard : PySem.W.subIn K (.ref C_BadBoard) (.ref C_BadBoard) = some true
  E_BadBoard : ExcC K C_BadBoard
  kit_BadBoard_ShoreError : PySem.W.kitOne K (.ref C_BadBoard) (.ref C_ShoreError) = some true
  kit_BadBoard_ValueError : PySem.W.kitOne K (.ref C_BadBoard) (.type "ValueError") = some true
  tk_MOST : Tok
  g_MOST : mg "MOST" = some (.int 9 tk_MOST)
  z_len : mg "len" = none
  z_all : mg "all" = none
  z_list : mg "list" = none
  z_isinstance : mg "isinstance" = none
  z_int : mg "int" = none
  z_bool : mg "bool" = none
  z_range : mg "range" = none
  z_ValueError : mg "ValueError" = none
end Sw
namespace Sw
open PySem PySem.Spec PyProof.Rows L2
section
variable {P : Program} {w : World} {K : PySem.W.Frag} {mg : Str → Option Value} {base : Heap}
/-! board_right, Board -/
def sp_board_right : Sp := fun vs H Q _ => ∃ (a : Addr) (B : Bd), vs = [.ref a] ∧ H a = some (.lst (rowsV B)) ∧ Small B ∧ ∀ H', Same H H' → Q (.bl (Good B)) H'
theorem head_at {B : Bd} (h : B ≠ []) : ∃ r, B[0]? = some r ∧ r.length = wid B ∧ r ∈ B := by
  cases B with
  | nil => exact absurd rfl h
  | cons r B => exact ⟨r, rfl, rfl, List.mem_cons_self⟩
theorem all_take {α : Type} {p : α → Bool} {l : List α} {i : Nat} {x : α} (h : (l.take i).all p = true) (hx : l[i]? = some x) (hp : p x = true) : (l.take (i + 1)).all p = true := by
  rw [List.take_add_one, hx, List.all_append, h]
  simp [hp]
theorem get_txt {l : List Nat} {i : Nat} {c : Nat} (h : (txt l).cps[i]? = some c) : l[i]? = some c := by
  have : l.toArray[i]? = some c := h
  rw [List.getElem?_toArray] at this
  exact this
theorem txt_size (l : List Nat) : (txt l).cps.size = l.length := by show l.toArray.size = l.length; exact List.size_toArray
theorem take_map_snoc {α β : Type} {f : α → β} {l : List α} {i : Nat} {x : α} (h : l[i]? = some x) : (l.take (i + 1)).map f = (l.take i).map f ++ [f x] := by
  rw [List.take_add_one, h, List.map_append]
  rfl
theorem len_take_lt {α β : Type} {f : α → β} {l : List α} {i n : Nat} (h : l.length ≤ n) : ((l.take i).map f).length ≤ n := by
  rw [List.length_map, List.length_take]
  omega
theorem ok_board_right (T : Top K mg) : FnOk P w K mg base CX0 1 T.a_board_right T.d_board_right ["rows"] sp_board_right := by
  refine T.F_board_right.ok sc_board_right (fun vs H Q E h => ?_) (fun cdv A outer s H vs Q E hr h => ?_)
  · obtain ⟨_, _, rfl, _⟩ := h
    rfl
  obtain ⟨a, B, rfl, ha, hB, q⟩ := h
  refine ⟨_, (pss_cons (ps_if (PW.pt (pw_or (pt_not (pt_chain op_le op_le pe_int (pe_callB call_len_seq (by rfl) T.z_len PySem.boot_len (pa_cons (pv 0) pa_nil)) (pe_glob (v := .int 9) rfl T.g_MOST ⟨_, rfl⟩))) (pw_or1 (pt_not (pt_chain op_le op_le pe_int (pe_callB call_len_str (by rfl) T.z_len PySem.boot_len (pa_cons (pe_ix ix_list (pv 0) pe_int (fun _ _ => rfl)) pa_nil)) (pe_glob (v := .int 9) rfl T.g_MOST ⟨_, rfl⟩))))))
      (pss_one (ps_ret pe_bl)) pss_nil)
      (pss_cons (ps_for PassesOwn.never rfl (pi_list (pv 0)) (pg_name (i := 1) sc_board_right.nd rfl (Or.inl rfl))
      (pss_one (ps_if (PW.pt (pw_or (pt_cmpR op_ne (pe_callB call_len_str (by rfl) T.z_len PySem.boot_len (pa_cons (pv 1) pa_nil)) (pe_callB call_len_str (by rfl) T.z_len PySem.boot_len (pa_cons (pe_ix ix_list (pv 0) pe_int (fun _ _ => rfl)) pa_nil)) (nomark _)) (pw_or1 (pt_not (pt_val (pe_callB (cr_all rfl) (by rfl) T.z_all (by decide +kernel) (pa_cons (pe_lc (own := [("letter", 2)]) (g := gName 2) (tt := tYes) rfl sc_board_right.nd (pi_str (pv 1)) (blkOk_by (own := [("letter", 2)]) (N := N_board_right) (sc := defScope s_board_right) (by decide +kernel)) (fun _ _ _ _ _ => (pg_name (i := 2) sc_board_right.nd rfl (Or.inl rfl))) (fun _ _ _ _ _ => pts_nil) (fun _ _ _ _ _ => (pe_cmpR op_in_sign (pv 2) pe_str rfl))) pa_nil)))))))
      (pss_one (ps_ret pe_bl)) pss_nil)))
      (pss_one (ps_ret pe_bl)))), ?_⟩
  have hl := rowsV_len B
  have no : ¬ (1 ≤ B.length ∧ B.length ≤ 9) → Good B = false := fun z => by
    unfold Good
    rw [decide_eq_false z]
    rfl
  -- 1 <= len(rows) <= 9
  refine ⟨_, rfl, a, _, rfl, .inl (SqL.of ha), _, _, rfl, rfl, _, rfl, ?_⟩
  refine iteD (fun c1 => ?_) (fun c1 => ?_)
  rotate_left
  · refine ⟨_, rfl, iteT ?_⟩
    have q' := q _ (.refl _)
    rw [no (by omega)] at q'
    exact q'
  refine ⟨_, _, rfl, rfl, _, rfl, ?_⟩
  refine iteN (fun c2 => ?_) (fun c2 => ?_)
  · have q' := q _ (.refl _)
    rw [no (by omega)] at q'
    exact q'
  -- 1 <= len(rows[0]) <= 9
  obtain ⟨r0, e0, l0, m0⟩ := head_at (B := B) (by intro z; have : B.length = 0 := (by rw [z]; rfl); omega)
  have s0 := hB.row _ m0
  have no2 : ¬ (1 ≤ wid B ∧ wid B ≤ 9) → Good B = false := fun z => by
    unfold Good
    rw [decide_eq_false z, Bool.false_and, Bool.and_false]
  have tl : (txt r0).length = wid B := by rw [txt_len, l0]
  refine ⟨_, rfl, a, _, _, _, rfl, rfl, SqL.of ha, atI_nat (j := 0) (rowsV_get e0), _, rfl, sz_le (by rw [txt_len]; omega), _, _, rfl, rfl, _, rfl, ?_⟩
  refine iteD (fun c3 => ?_) (fun c3 => ?_)
  rotate_left
  · refine ⟨_, rfl, iteT ?_⟩
    have q' := q _ (.refl _)
    rw [no2 (by omega)] at q'
    exact q'
  refine ⟨_, _, rfl, rfl, _, rfl, ?_⟩
  refine iteN (fun c4 => ?_) (fun c4 => ?_)
  · have q' := q _ (.refl _)
    rw [no2 (by omega)] at q'
    exact q'
  have yes : Good B = B.all (rowOk (wid B)) := by
    unfold Good
    rw [decide_eq_true (show 1 ≤ B.length ∧ B.length ≤ 9 by omega), decide_eq_true (show 1 ≤ wid B ∧ wid B ≤ 9 by omega), Bool.true_and, Bool.true_and]
  -- the rows
  refine ⟨_, rfl, a, rfl, ⟨_, SqL.of ha⟩, for_list (K := K) (a := a) (xs := rowsV B) (fun i σ H' => Same H H' ∧ (B.take i).all (rowOk (wid B)) = true ∧ ∃ v w, σ = [some (.ref a), v, w])
    ⟨.refl _, rfl, none, none, rfl⟩ (fun i σ H' _ ⟨e, _⟩ => SqL.of (e _ _ ha)) ?_ ?_⟩
  · rintro i x σ H1 hi ⟨s1, al, v, w, rfl⟩
    obtain ⟨r, er, rfl⟩ := rowsV_inv hi
    have mr : r ∈ B := List.mem_of_getElem? er
    have sr := hB.row _ mr
    have bad : rowOk (wid B) r = false → Good B = false := fun z => by
      rw [yes]
      rw [Bool.eq_false_iff]
      intro t
      rw [List.all_eq_true] at t
      rw [t r mr] at z
      cases z
    refine ⟨_, rfl, _, rfl, sz_le (by rw [txt_len]; omega), _, rfl, a, _, _, _, rfl, rfl, SqL.of (s1 _ _ ha), atI_nat (j := 0) (rowsV_get e0), _, rfl, sz_le (by rw [txt_len]; omega), rfl, _, rfl, ?_⟩
    refine iteN (fun c5 => ?_) (fun c5 => ?_)
    · refine iteT ?_
      have q' := q _ s1
      rw [bad (by
        unfold rowOk
        rw [decide_eq_false (fun z => c5 (by rw [txt_len, txt_len, z, l0])), Bool.false_and])] at q'
      exact q'
    have c5' : r.length = wid B := by
      have e : (((txt r).length : Nat) : Int) = (((txt r0).length : Nat) : Int) := V.int.inj c5
      rw [txt_len, txt_len] at e
      omega
    -- all([letter in 'nw.' for letter in row])
    refine ⟨_, rfl, _, rfl, fun D hD => lc_it walk_str (fun j H' => Same H1 H' ∧ H' D = some (.lst (((r.take j).map okc).map V.bl))) ⟨same_new hD _, upd_same⟩ (fun _ _ _ _ => trivial) (fun j x H2 H3 hj ⟨s2, h2⟩ ⟨e3, c, ec, ex⟩ => ?_) (fun H2 ⟨s2, h2⟩ => ?_)⟩
    · subst e3 ex
      have ec' := get_txt ec
      refine ⟨rfl, _, rfl, c, _, rfl, rfl, _, h2, sz_lt (by rw [List.length_map, List.length_map, List.length_take]; omega), same_mut s2 hD, ?_⟩
      have ek : decide (c ∈ (Str.ofString "nw.").cps.toList) = okc c := by
        rw [s_nwd]
        rfl
      rw [ek, upd_same, take_map_snoc ec', List.map_append]
      rfl
    · rw [txt_size, List.take_length] at h2
      refine ⟨_, _, rfl, SqL.of h2, _, rfl, ?_⟩
      have ea : (r.map okc).all id = r.all okc := by rw [List.all_map]; rfl
      rw [ea]
      refine iteNB (fun c6 => ?_) (fun c6 => ?_)
      · have q' := q _ (s1.trans s2)
        rw [bad (by
          unfold rowOk
          rw [c6, Bool.and_false])] at q'
        exact q'
      · refine ⟨s1.trans s2, all_take al er ?_, _, _, rfl⟩
        unfold rowOk
        rw [decide_eq_true c5', c6]
        rfl
  · rintro σ H1 ⟨s1, al, v, w, rfl⟩
    have q' := q _ s1
    rw [rowsV_len, List.take_length] at al
    rw [yes, al] at q'
    exact q'
/-- Board(rows): the rows are looked at, then kept in a new list -/
def sp_Board_init (C CB : Addr) : Sp := fun vs H Q E => ∃ (p dx a : Addr) (B : Bd), vs = [.ref p, .ref a] ∧ H p = some (.ins C dx []) ∧ H a = some (.lst (rowsV B)) ∧ Small B ∧
  (Good B = false → ∀ H', Same H H' → E (.ref CB) none H') ∧
  (Good B = true → ∀ (H' : Hp) (l : Addr), (∀ b o, H b = some o → b ≠ p → H' b = some o) → H l = none → BoardAt C H' p l B → Q .non H')
theorem ok_Board_init (T : Top K mg) : FnOk P w K mg base (L2.CX P w) 2 T.a_Board___init__ T.d_Board___init__ ["self", "rows"] (sp_Board_init T.C_Board T.C_BadBoard) := by
  refine T.F_Board___init__.okX sc_Board___init__ (fun vs H Q E h => ?_) (fun cdv A outer s H vs Q E hr h => ?_)
  · obtain ⟨_, _, _, _, rfl, _⟩ := h
    rfl
  obtain ⟨p, dx, a, B, rfl, hp, ha, hB, qb, qg⟩ := h
  refine ⟨_, (pss_cons (ps_if (pt_not (pt_val (pe_call (ok_board_right T) (hr.mono (by decide)) rfl T.m_board_right T.F_board_right.kp T.B_board_right .nil pass0 (pa_cons (pv 1) pa_nil))))
      (pss_one (ps_raise rfl (takes_of rfl rfl rfl rfl) (pmk_own PySem.F.excBase_ValueError T.x_BadBoard T.mC_BadBoard T.k_BadBoard (raises_own T.b_BadBoard T.t_BadBoard) rfl))) pss_nil)
      (pss_cons (ps_fld (pv 0) (pe_callTy call_list_of (by rfl) T.z_list (by decide +kernel) (pa_cons (pv 1) pa_nil)) rfl)
      (pss_cons (ps_fld (pv 0) (pe_callB call_len_seq (by rfl) T.z_len PySem.boot_len (pa_cons (pv 1) pa_nil)) rfl)
      (pss_one (ps_fld (pv 0) (pe_callB call_len_str (by rfl) T.z_len PySem.boot_len (pa_cons (pe_ix ix_list (pv 1) pe_int (fun _ _ => rfl)) pa_nil)) rfl))))), ?_⟩
  refine ⟨_, rfl, a, B, rfl, ha, hB, fun H1 s1 => ?_⟩
  refine ⟨_, rfl, iteNB (fun c => ?_) (fun c => ?_)⟩
  · exact qb c _ s1
  -- self.rows = list(rows)
  obtain ⟨r0, e0, l0, m0⟩ := head_at (B := B) (by
    have := (good_is c).h1
    intro z
    rw [z] at this
    exact absurd this (by decide))
  have hp1 := s1 _ _ hp
  have ha1 := s1 _ _ ha
  refine ⟨_, rfl, a, _, rfl, .inl (SqL.of ha1), fun l hl => ?_⟩
  have npl : p ≠ l := ne_of_none hp1 hl
  have nal : a ≠ l := ne_of_none ha1 hl
  have npa : a ≠ p := ne_of ha1 hp1 (by intro z; cases z)
  refine ⟨_, rfl, p, T.C_Board, dx, [], rfl, (by rw [upd_ne npl]; exact hp1), T.cl_Board, T.n_Board_rows, (by show 0 < 1000; decide), ?_⟩
  have ha2 : ∀ o, upd (upd H1 l (.lst (rowsV B))) p o a = some (.lst (rowsV B)) := fun o => by rw [upd_ne npa, upd_ne nal]; exact ha1
  have ha3 : ∀ o u, upd (upd (upd H1 l (.lst (rowsV B))) p o) p u a = some (.lst (rowsV B)) := fun o u => by rw [upd_ne npa]; exact ha2 o
  -- self.height = len(rows); self.width = len(rows[0])
  refine ⟨_, rfl, a, _, rfl, .inl (SqL.of (ha2 _)), _, rfl, p, T.C_Board, dx, _, rfl, upd_same, T.cl_Board, T.n_Board_height, (by show 1 < 1000; decide), ?_⟩
  refine ⟨_, rfl, a, _, _, _, rfl, rfl, SqL.of (ha3 _ _), atI_nat (j := 0) (rowsV_get e0), _, rfl, sz_le (by rw [txt_len]; have := hB.row _ m0; omega), _, rfl, p, T.C_Board, dx, _, rfl, upd_same, T.cl_Board, T.n_Board_width, ?_, ?_⟩
  · show List.length (putF "height" (.int ((rowsV B).length : Int)) [("rows", .ref l)]) < 1000
    rw [pt_p (by decide +kernel)]
    show 2 < 1000
    decide
  refine qg c _ l (fun b o hb nb => ?_) (s1.free hl) ⟨⟨dx, ?_⟩, ?_⟩
  · rw [upd_ne nb, upd_ne nb, upd_ne nb, upd_ne (ne_of_none (s1 _ _ hb) hl)]
    exact s1 _ _ hb
  · rw [upd_same]
    refine congrArg (fun z => some (HO.ins T.C_Board dx z)) ?_
    rw [rowsV_len, txt_len, l0]
    exact bfl_new l B.length (wid B)
  · rw [upd_ne npl.symm, upd_ne npl.symm, upd_ne npl.symm, upd_same]
/-- what follows of Board(..): the new board, all else as it was -/
theorem made_board {C p dx : Addr} {H H' : Hp} (hp : H p = none) (hd : H dx = none) (k : ∀ b o, upd (upd H dx (.own p)) p (.ins C dx []) b = some o → b ≠ p → H' b = some o) : Same H H' := fun b o e =>
  k b o (by rw [upd_ne (ne_of_none e hp), upd_ne (ne_of_none e hd)]; exact e) (ne_of_none e hp)
end
end Sw
namespace Sw
open PySem PySem.Spec PyProof.Rows L2
section
variable {P : Program} {w : World} {K : PySem.W.Frag} {mg : Str → Option Value} {base : Heap}
/-! the law's reader of the script -/
def sAt (ns : List Int) (k : Int) : Int := ns.getD k.toNat 0
def sp__law_cell_at (K : PySem.W.Frag) : Sp := fun vs H Q _ => ∃ (a : Addr) (ns : List Int) (k : Int), vs = [.ref a, .int k] ∧ SqL K H a (ns.map V.int) ∧ 0 ≤ k ∧ Q (.int (sAt ns k)) H
theorem ok__law_cell_at (T : Top K mg) : FnOk P w K mg base CX0 1 T.a__law_cell_at T.d__law_cell_at ["script", "k"] (sp__law_cell_at K) := by
  refine T.F__law_cell_at.ok sc__law_cell_at (fun vs H Q E h => ?_) (fun cdv A outer s H vs Q E hr h => ?_)
  · obtain ⟨_, _, _, rfl, _⟩ := h
    rfl
  obtain ⟨a, ns, k, rfl, hS, hk, q⟩ := h
  refine ⟨_, (pss_cons (ps_if (pt_cmpR op_lt (pv 1) (pe_callB call_len_seq (by rfl) T.z_len PySem.boot_len (pa_cons (pv 0) pa_nil)) (nomark _))
      (pss_one (ps_ret (pe_ix ix_list (pv 0) (pv 1) (fun _ _ => rfl)))) pss_nil)
      (pss_one (ps_ret pe_int))), ?_⟩
  refine ⟨_, rfl, _, rfl, a, _, rfl, .inl hS, _, _, rfl, rfl, _, rfl, ?_⟩
  refine ite2 (fun c => ?_) (fun c => ?_)
  · have c' : k < ((ns.map V.int).length : Int) := of_decide_eq_true c
    rw [List.length_map] at c'
    have hl : k.toNat < ns.length := by omega
    have e : (ns.map V.int)[k.toNat]? = some (.int ns[k.toNat]) := by rw [List.getElem?_map, List.getElem?_eq_getElem hl] <;> rfl
    refine ⟨_, rfl, _, rfl, a, _, _, _, rfl, rfl, hS, at_int hk e, ?_⟩
    have : sAt ns k = ns[k.toNat] := by
      unfold sAt
      rw [List.getD_eq_getElem?_getD, List.getElem?_eq_getElem hl] <;> rfl
    rw [← this]
    exact q
  · have c' : ¬ k < ((ns.map V.int).length : Int) := of_decide_eq_false (Bool.eq_false_iff.mpr c)
    rw [List.length_map] at c'
    have : sAt ns k = 0 := by
      unfold sAt
      rw [List.getD_eq_getElem?_getD, List.getElem?_eq_none (by omega)] <;> rfl
    have q' : Q (.int 0) H := by
      rw [← this]
      exact q
    exact q'
end
end Sw
namespace Sw
open PySem PySem.Spec PyProof.Rows L2
section
variable {P : Program} {w : World} {K : PySem.W.Frag} {mg : Str → Option Value} {base : Heap}
/-! the law's draws: a number below many, a size, rows -/
def some13 : List Int := [48271, 69621, 16807, 39373, 30269, 40014, 40692, 50021, 61687, 71993, 83869, 95561, 30307]
theorem some13_at {k : Int} (h0 : 0 ≤ k) (h1 : k < 13) : ∃ c : Int, atI (some13.map V.int) k = some (.int c) ∧ 0 ≤ c ∧ c ≤ 95561 := by
  have hl : k.toNat < some13.length := by show k.toNat < 13; omega
  have all : ∀ x ∈ some13, 0 ≤ x ∧ x ≤ 95561 := by decide
  have hm := all _ (List.getElem_mem hl)
  refine ⟨some13[k.toNat], at_int h0 ?_, hm.1, hm.2⟩
  rw [List.getElem?_map, List.getElem?_eq_getElem hl]
  rfl
def sp__law_mix : Sp := fun vs H Q _ => ∃ (cell k many : Int), vs = [.int cell, .int k, .int many] ∧ 0 ≤ k ∧ k ≤ 1000000 ∧ 0 < many ∧ ∀ (m : Int) (H' : Hp), Same H H' → 0 ≤ m → m < many → Q (.int m) H'
theorem ok__law_mix (T : Top K mg) : FnOk P w K mg base CX0 1 T.a__law_mix T.d__law_mix ["cell", "k", "many"] sp__law_mix := by
  refine T.F__law_mix.ok sc__law_mix (fun vs H Q E h => ?_) (fun cdv A outer s H vs Q E hr h => ?_)
  · obtain ⟨_, _, _, rfl, _⟩ := h
    rfl
  obtain ⟨cell, k, many, rfl, k0, k1, hm, q⟩ := h
  refine ⟨_, (pss_cons (ps_set (i := 3) sc__law_mix.nd rfl (Or.inl rfl) (pe_lst (pa_cons pe_int (pa_cons pe_int (pa_cons pe_int (pa_cons pe_int (pa_cons pe_int (pa_cons pe_int (pa_cons pe_int (pa_cons pe_int (pa_cons pe_int (pa_cons pe_int (pa_cons pe_int (pa_cons pe_int (pa_cons pe_int pa_nil)))))))))))))))
      (pss_cons (ps_set (i := 4) sc__law_mix.nd rfl (Or.inl rfl) (pe_op op_mul (pe_op op_add (pe_op op_mod (pv 0) pe_int) pe_int) (pe_ix ix_list (pv 3) (pe_op op_mod (pv 1) pe_int) (fun _ _ => rfl))))
      (pss_cons (ps_set (i := 4) sc__law_mix.nd rfl (Or.inl rfl) (pe_op op_add (pe_op op_mul (pv 4) (pe_op op_add (pe_op op_mul pe_int (pe_op op_fdiv (pv 1) pe_int)) pe_int)) (pe_op op_mul pe_int (pv 1))))
      (pss_one (ps_ret (pe_op op_mod (pe_op op_fdiv (pe_op op_mod (pv 4) pe_int) pe_int) (pv 2))))))), ?_⟩
  refine ⟨by show 13 ≤ sizeLine; decide, fun l hl => ?_⟩
  obtain ⟨c, ec, c0, c1⟩ := some13_at (k := k % 13) (Int.emod_nonneg _ (by decide)) (Int.emod_lt_of_pos _ (by decide))
  have e0 : 0 ≤ cell % 2147483647 := Int.emod_nonneg _ (by decide)
  have e1 : cell % 2147483647 < 2147483647 := Int.emod_lt_of_pos _ (by decide)
  refine ⟨_, rfl, _, _, rfl, rfl, (show (0 : Int) < 2147483647 by decide), _, _, rfl, rfl, _, rfl, _, rfl, _, _, rfl, rfl, (show (0 : Int) < 13 by decide), l, some13.map V.int, _, _, rfl, rfl, SqL.of upd_same, ec, _, _, rfl, rfl, .inl ⟨?_, ?_⟩, ?_⟩
  · show -(2 ^ 64 : Int) < cell % 2147483647 + 12345
    omega
  · show cell % 2147483647 + 12345 < (2 ^ 64 : Int)
    omega
  have b0 : 0 ≤ (cell % 2147483647 + 12345) * c := Int.mul_nonneg (by omega) c0
  have b1 : (cell % 2147483647 + 12345) * c ≤ 2147495992 * 95561 := Int.mul_le_mul (by omega) c1 c0 (by decide)
  refine ⟨_, rfl, _, rfl, _, _, rfl, rfl, ⟨by decide, by decide⟩, _, _, rfl, rfl, .inl ⟨by decide, by decide⟩, _, _, rfl, rfl, _, _, rfl, rfl, .inl ⟨?_, ?_⟩, ?_⟩
  · show -(2 ^ 64 : Int) < (cell % 2147483647 + 12345) * c
    omega
  · show (cell % 2147483647 + 12345) * c < (2 ^ 64 : Int)
    omega
  refine ⟨_, rfl, _, _, rfl, rfl, .inl ⟨by decide, by decide⟩, _, _, rfl, rfl, ?_⟩
  refine ⟨_, rfl, _, _, rfl, rfl, (show (0 : Int) < 1000000007 by decide), _, _, rfl, rfl, ⟨by decide, by decide⟩, _, rfl, _, _, rfl, rfl, hm, ?_⟩
  exact q _ _ (same_new hl _) (Int.emod_nonneg _ (by omega)) (Int.emod_lt_of_pos _ hm)

def sp__law_size_by (K : PySem.W.Frag) : Sp := fun vs H Q _ => ∃ (a : Addr) (ns : List Int) (most : Int), vs = [.ref a, .int most] ∧ SqL K H a (ns.map V.int) ∧ 0 < most ∧
  ∀ (h w : Int) (t : Addr) (H' : Hp), 1 ≤ h → h ≤ most → 1 ≤ w → w ≤ most → Same H H' → H' t = some (.tup [.int h, .int w]) → Q (.ref t) H'
theorem ok__law_size_by (T : Top K mg) : FnOk P w K mg base CX0 2 T.a__law_size_by T.d__law_size_by ["script", "most"] (sp__law_size_by K) := by
  refine T.F__law_size_by.ok sc__law_size_by (fun vs H Q E h => ?_) (fun cdv A outer s H vs Q E hr h => ?_)
  · obtain ⟨_, _, _, rfl, _⟩ := h
    rfl
  obtain ⟨a, ns, most, rfl, hS, hm, q⟩ := h
  refine ⟨_, (pss_one (ps_ret (pe_tup (pa_cons (pe_op op_add pe_int (pe_op op_mod (pe_call (ok__law_cell_at T) (hr.mono (by decide)) rfl T.m__law_cell_at T.F__law_cell_at.kp T.B__law_cell_at .nil pass0 (pa_cons (pv 0) (pa_cons pe_int pa_nil))) (pv 1))) (pa_cons (pe_op op_add pe_int (pe_op op_mod (pe_call (ok__law_cell_at T) (hr.mono (by decide)) rfl T.m__law_cell_at T.F__law_cell_at.kp T.B__law_cell_at .nil pass0 (pa_cons (pv 0) (pa_cons pe_int pa_nil))) (pv 1))) pa_nil))))), ?_⟩
  refine ⟨_, rfl, a, ns, 0, rfl, hS, by decide, _, rfl, _, _, rfl, rfl, hm, _, _, rfl, rfl, _, rfl, a, ns, 1, rfl, hS, by decide, _, rfl, _, _, rfl, rfl, hm, _, _, rfl, rfl, sz2, fun t ht => ?_⟩
  have m0 := Int.emod_nonneg (sAt ns 0) (show most ≠ 0 by omega)
  have m1 := Int.emod_lt_of_pos (sAt ns 0) hm
  have m2 := Int.emod_nonneg (sAt ns 1) (show most ≠ 0 by omega)
  have m3 := Int.emod_lt_of_pos (sAt ns 1) hm
  exact q (1 + sAt ns 0 % most) (1 + sAt ns 1 % most) t _ (by omega) (by omega) (by omega) (by omega) (same_new ht _) upd_same

/-- a sign that may be drawn -/
def LetOk (full : Bool) (c : Nat) : Prop := (c = 110 ∨ c = 119 ∨ c = 46) ∧ (full = true → c ≠ 46)
def kinds5 : List Nat := [110, 119, 110, 119, 46]
theorem kinds_at {full : Bool} {k : Int} (h0 : 0 ≤ k) (h1 : k < if full then 4 else 5) : ∃ c : Nat, atI [V.str (txt [110]), .str (txt [119]), .str (txt [110]), .str (txt [119]), .str (txt [46])] k = some (.str (txt [c])) ∧ LetOk full c := by
  have h5 : k < 5 := by cases full <;> simp at h1 <;> omega
  have hl : k.toNat < kinds5.length := by show k.toNat < 5; omega
  refine ⟨kinds5[k.toNat], at_int h0 ?_, ?_⟩
  · show (kinds5.map fun c => V.str (txt [c]))[k.toNat]? = _
    rw [List.getElem?_map, List.getElem?_eq_getElem hl]
    rfl
  · have a5 : ∀ x ∈ kinds5, x = 110 ∨ x = 119 ∨ x = 46 := by decide
    refine ⟨a5 _ (List.getElem_mem hl), fun e => ?_⟩
    subst e
    have h4 : k.toNat < 4 := by simp at h1; omega
    have a4 : ∀ i : Nat, i < 4 → ∀ h : i < kinds5.length, kinds5[i] ≠ 46 := by decide
    exact a4 _ h4 hl
def sp__law_rows_by (K : PySem.W.Frag) : Sp := fun vs H Q _ => ∃ (a : Addr) (ns : List Int) (h w : Nat) (full : Bool), vs = [.ref a, .int (h : Int), .int (w : Int), .bl full] ∧ SqL K H a (ns.map V.int) ∧ 1 ≤ h ∧ h ≤ 9 ∧ 1 ≤ w ∧ w ≤ 9 ∧
  ∀ (B : Bd) (p : Addr) (H' : Hp), Same H H' → H p = none → H' p = some (.lst (rowsV B)) → IsB B h w → (full = true → ∀ r ∈ B, ∀ c ∈ r, c ≠ 46) → Q (.ref p) H'
theorem ok__law_rows_by (T : Top K mg) : FnOk P w K mg base CX0 2 T.a__law_rows_by T.d__law_rows_by ["script", "height", "width", "full"] (sp__law_rows_by K) := by
  refine T.F__law_rows_by.ok sc__law_rows_by (fun vs H Q E h => ?_) (fun cdv A outer s H vs Q E hr h => ?_)
  · obtain ⟨_, _, _, _, _, rfl, _⟩ := h
    rfl
  obtain ⟨a, ns, h, w, full, rfl, hS, h1, h9, w1, w9, q⟩ := h
  refine ⟨_, (pss_cons (ps_set (i := 4) sc__law_rows_by.nd rfl (Or.inl rfl) (pe_lst pa_nil))
      (pss_cons (ps_for PassesOwn.never rfl (pi_range1 rfl T.z_range (pa_cons (pv 1) pa_nil)) (pg_name (i := 5) sc__law_rows_by.nd rfl (Or.inl rfl))
      (pss_cons (ps_set (i := 6) sc__law_rows_by.nd rfl (Or.inl rfl) (pe_call (ok__law_cell_at T) (hr.mono (by decide)) rfl T.m__law_cell_at T.F__law_cell_at.kp T.B__law_cell_at .nil pass0 (pa_cons (pv 0) (pa_cons (pe_op op_add pe_int (pv 5)) pa_nil))))
      (pss_cons (ps_set (i := 7) sc__law_rows_by.nd rfl (Or.inl rfl) pe_str)
      (pss_cons (ps_for PassesOwn.never rfl (pi_range1 rfl T.z_range (pa_cons (pv 2) pa_nil)) (pg_name (i := 8) sc__law_rows_by.nd rfl (Or.inl rfl))
      (pss_cons (ps_set (i := 9) sc__law_rows_by.nd rfl (Or.inl rfl) (pe_call (ok__law_mix T) (hr.mono (by decide)) rfl T.m__law_mix T.F__law_mix.kp T.B__law_mix .nil pass0 (pa_cons (pv 6) (pa_cons (pe_op op_add (pe_op op_mul pe_int (pv 5)) (pv 8)) (pa_cons (pe_ix ix_list (pe_lst (pa_cons pe_int (pa_cons pe_int pa_nil))) (pe_callTy call_int1 (by rfl) T.z_int (by decide +kernel) (pa_cons (pv 3) pa_nil)) (fun _ _ => rfl)) pa_nil)))))
      (pss_one (ps_set (i := 7) sc__law_rows_by.nd rfl (Or.inl rfl) (pe_op op_add_str (pv 7) (pe_ix ix_list (pe_lst (pa_cons pe_str (pa_cons pe_str (pa_cons pe_str (pa_cons pe_str (pa_cons pe_str pa_nil)))))) (pv 9) (fun _ _ => rfl)))))))
      (pss_one (ps_expr (pe_bm PySem.F.plainAttrs_list PySem.F.slot_list_append PySem.F.type_list_append mt_append (pv 4) (pa_cons (pv 7) pa_nil))))))))
      (pss_one (ps_ret (pv 4))))), ?_⟩
  refine ⟨sz0, fun l hl => ?_⟩
  refine ⟨_, rfl, (h : Int), rfl, by omega, by omega, for_range (lo := 0) (n := h) (fun i σ H' => Same H H' ∧ ∃ B : Bd, H' l = some (.lst (rowsV B)) ∧ B.length = i ∧ (∀ r ∈ B, r.length = w ∧ ∀ c ∈ r, LetOk full c) ∧
    ∃ v1 v2 v3 v4 v5, σ = [some (.ref a), some (.int h), some (.int w), some (.bl full), some (.ref l), v1, v2, v3, v4, v5]) ⟨same_new hl _, [], upd_same, rfl, (fun r hr => nomatch hr), _, _, _, _, _, rfl⟩ ?_ ?_⟩
  · rintro i σ H1 hi ⟨s1, B, hB, lB, aB, v1, v2, v3, v4, v5, rfl⟩
    refine ⟨_, rfl, _, rfl, _, _, rfl, rfl, a, ns, _, rfl, s1.seq hS, by omega, ?_⟩
    refine ⟨_, rfl, (w : Int), rfl, by omega, by omega, for_range (lo := 0) (n := w) (fun j σ H' => Same H H' ∧ H' l = some (.lst (rowsV B)) ∧ ∃ rr : List Nat, rr.length = j ∧ (∀ c ∈ rr, LetOk full c) ∧
      ∃ u1 u3 u4, σ = [some (.ref a), some (.int h), some (.int w), some (.bl full), some (.ref l), some (.int ((0 : Int) + (i : Int))), some (.int u1), some (.str (txt rr)), u4, u3]) ⟨s1, hB, [], rfl, (fun c hc => nomatch hc), sAt ns (3 + (0 + (i : Int))), v5, v4, by rw [s_empty]; rfl⟩ ?_ ?_⟩
    · rintro j σ H2 hj ⟨s2, hB2, rr, lr, ar, u1, u3, u4, rfl⟩
      refine ⟨_, rfl, _, rfl, _, _, rfl, rfl, .inl ⟨by decide, by decide⟩, _, rfl, _, _, rfl, rfl, sz2, fun l5 h5 => ?_⟩
      refine ⟨_, rfl, .inr ⟨full, rfl, ?_⟩⟩
      have i5 : atI [V.int 5, V.int 4] (if full = true then 1 else 0) = some (.int (if full = true then 4 else 5)) := by
        cases full <;> rfl
      refine ⟨l5, _, _, _, rfl, rfl, SqL.of upd_same, i5, ?_⟩
      refine ⟨u1, _, _, rfl, by omega, by omega, by cases full <;> decide, fun kd H3 s3 k0 k1 => ?_⟩
      have s4 : Same H2 H3 := (same_new h5 _).trans s3
      refine ⟨_, rfl, ?_⟩
      refine ⟨by show 5 ≤ sizeLine; decide, fun l6 h6 => ?_⟩
      obtain ⟨c, ec, oc⟩ := kinds_at k0 k1
      rw [s_n, s_w, s_dot]
      refine ⟨_, rfl, l6, _, _, _, rfl, rfl, SqL.of upd_same, ec, _, _, rfl, rfl, ?_, ?_⟩
      · rw [txt_len, txt_len]
        exact sz_le (by rw [lr]; show j + 1 ≤ 1000000; omega)
      have s5 := s4.trans (same_new h6 (.lst [V.str (txt [110]), .str (txt [119]), .str (txt [110]), .str (txt [119]), .str (txt [46])]))
      refine ⟨s2.trans s5, s5 _ _ hB2, rr ++ [c], by rw [List.length_append, lr]; rfl, fun x hx => ?_, u1, some (.int kd), some (.int ((0 : Int) + (j : Int))), ?_⟩
      · rcases List.mem_append.mp hx with hx | hx
        · exact ar x hx
        · rw [List.mem_singleton.mp hx]
          exact oc
      · rw [txt_app]
        rfl
    · rintro σ H2 ⟨s2, hB2, rr, lr, ar, u1, u3, u4, rfl⟩
      refine ⟨_, rfl, .inl ⟨rfl, _, SqL.of hB2⟩, _, rfl, l, _, _, rfl, rfl, hB2, sz_lt (by rw [rowsV_len]; omega), ?_⟩
      refine ⟨same_mut s2 hl, B ++ [rr], ?_, by rw [List.length_append, lB]; rfl, fun r hr => ?_, _, _, _, _, _, rfl⟩
      · rw [upd_same]
        show _ = some (HO.lst ((B ++ [rr]).map rowV))
        rw [List.map_append]
        rfl
      · rcases List.mem_append.mp hr with hr | hr
        · exact aB r hr
        · rw [List.mem_singleton.mp hr]
          exact ⟨lr, ar⟩
  · rintro σ H1 ⟨s1, B, hB, lB, aB, v1, v2, v3, v4, v5, rfl⟩
    exact ⟨_, rfl, q B l _ s1 hl hB ⟨lB, fun r hr => (aB r hr).1, fun r hr c hc => ((aB r hr).2 c hc).1, h1, h9, w1, w9⟩ fun e r hr c hc => ((aB r hr).2 c hc).2 e⟩
end
end Sw
namespace Sw
open PySem PySem.Spec PyProof.Rows L2
section
variable {P : Program} {w : World} {K : PySem.W.Frag} {mg : Str → Option Value} {base : Heap}
/-! rows that are spoilt -/
theorem bad_len {B : Bd} {r1 r2 : List Nat} (h1 : r1 ∈ B) (h2 : r2 ∈ B) (ne : r1.length ≠ r2.length) : Good B = false := by
  cases e : Good B with
  | false => rfl
  | true =>
    have I := good_is e
    exact absurd ((I.ww _ h1).trans (I.ww _ h2).symm) ne
theorem bad_many {B : Bd} (h : ¬ (1 ≤ B.length ∧ B.length ≤ 9)) : Good B = false := by
  cases e : Good B with
  | false => rfl
  | true =>
    have I := good_is e
    exact absurd ⟨I.h1, I.h9⟩ h
theorem bad_wide {B : Bd} {r : List Nat} (hr : r ∈ B) (h : ¬ (1 ≤ r.length ∧ r.length ≤ 9)) : Good B = false := by
  cases e : Good B with
  | false => rfl
  | true =>
    have I := good_is e
    exact absurd (by rw [I.ww _ hr]; exact ⟨I.w1, I.w9⟩) h
theorem bad_sign {B : Bd} {r : List Nat} {c : Nat} (hr : r ∈ B) (hc : c ∈ r) (h : okc c = false) : Good B = false := by
  cases e : Good B with
  | false => rfl
  | true =>
    have I := good_is e
    rw [(okc_iff c).mpr (I.ok _ hr _ hc)] at h
    cases h
theorem small_more {B : Bd} (h : B.length ≤ 1000) (k : ∀ r ∈ B, r.length ≤ 1000 ∧ ∀ c ∈ r, c < 1000) : Small B := ⟨h, fun r hr => (k r hr).1, fun r hr => (k r hr).2⟩
theorem replicate_flat (n : Nat) (x : V) : (List.replicate n [x]).flatten = List.replicate n x := by
  induction n with
  | zero => rfl
  | succ n ih => rw [List.replicate_succ, List.flatten_cons, ih, List.replicate_succ]; rfl
def Rk (x : List Nat) : Prop := x.length ≤ 1000 ∧ ∀ c ∈ x, c < 1000
theorem rk_app {a b : List Nat} (h : ∀ c ∈ a, c < 1000) (k : ∀ c ∈ b, c < 1000) (l : (a ++ b).length ≤ 1000) : Rk (a ++ b) := ⟨l, fun c hc => (List.mem_append.mp hc).elim (h c) (k c)⟩
theorem rk_rep {n c : Nat} (h : c < 1000) (l : n ≤ 1000) : Rk (List.replicate n c) := ⟨by rw [List.length_replicate]; exact l, fun x hx => by rw [List.eq_of_mem_replicate hx]; exact h⟩
def bad6 : List Nat := [78, 87, 32, 120, 111, 45]
theorem bad6_at {k : Int} (h0 : 0 ≤ k) (h1 : k < 6) : ∃ c : Nat, atI [V.str (Str.ofString "N"), .str (Str.ofString "W"), .str (Str.ofString " "), .str (Str.ofString "x"), .str (Str.ofString "o"), .str (Str.ofString "-")] k = some (.str (txt [c])) ∧ okc c = false ∧ c < 1000 := by
  have hl : k.toNat < bad6.length := by show k.toNat < 6; omega
  refine ⟨bad6[k.toNat], at_int h0 ?_, ?_⟩
  · have e : [V.str (Str.ofString "N"), .str (Str.ofString "W"), .str (Str.ofString " "), .str (Str.ofString "x"), .str (Str.ofString "o"), .str (Str.ofString "-")] = bad6.map fun c => V.str (txt [c]) := by decide +kernel
    rw [e, List.getElem?_map, List.getElem?_eq_getElem hl]
    rfl
  · have a6 : ∀ x ∈ bad6, okc x = false ∧ x < 1000 := by decide
    exact a6 _ (List.getElem_mem hl)
def sp__law_hurt : Sp := fun vs H Q _ => ∃ (l : Addr) (B : Bd) (cell : Int) (h w : Nat), vs = [.ref l, .int cell] ∧ H l = some (.lst (rowsV B)) ∧ IsB B h w ∧
  ∀ (B' : Bd) (p : Addr) (H' : Hp), Same H H' → H' p = some (.lst (rowsV B')) → Good B' = false → Small B' → Q (.ref p) H'
theorem ok__law_hurt (T : Top K mg) : FnOk P w K mg base CX0 1 T.a__law_hurt T.d__law_hurt ["rows", "cell"] sp__law_hurt := by
  refine T.F__law_hurt.ok sc__law_hurt (fun vs H Q E h => ?_) (fun cdv A outer s H vs Q E hr h => ?_)
  · obtain ⟨_, _, _, _, _, rfl, _⟩ := h
    rfl
  obtain ⟨l, B, cell, h, w, rfl, hl, I, q⟩ := h
  refine ⟨_, (pss_cons (ps_set (i := 2) sc__law_hurt.nd rfl (Or.inl rfl) (pe_op op_mod (pv 1) pe_int))
      (pss_cons (ps_set (i := 3) sc__law_hurt.nd rfl (Or.inl rfl) (pe_op op_mod (pe_op op_fdiv (pv 1) pe_int) (pe_callB call_len_seq (by rfl) T.z_len PySem.boot_len (pa_cons (pv 0) pa_nil))))
      (pss_cons (ps_if (pt_cmpR op_eq (pv 2) pe_int (nomark _))
      (pss_one (ps_ret (pe_ix ix_list (pe_lst (pa_cons (pe_lst pa_nil) (pa_cons (pe_lst (pa_cons pe_str pa_nil)) (pa_cons (pe_lst (pa_cons pe_str (pa_cons pe_str pa_nil))) pa_nil)))) (pe_op op_mod (pe_op op_fdiv (pv 1) pe_int) pe_int) (fun _ _ => rfl)))) pss_nil)
      (pss_cons (ps_if (pt_cmpR op_eq (pv 2) pe_int (nomark _))
      (pss_one (ps_ret (pe_op op_cat (pe_op op_cat (pe_op op_cat (pe_slice sl_list (pv 0) po_none (po_some (pv 3))) (pe_lst (pa_cons (pe_op op_add_str (pe_ix ix_list (pv 0) (pv 3) (fun _ _ => rfl)) pe_str) pa_nil))) (pe_slice sl_list (pv 0) (po_some (pe_op op_add (pv 3) pe_int)) po_none)) (pe_lst (pa_cons (pe_op op_mul_str pe_str (pe_callB call_len_str (by rfl) T.z_len PySem.boot_len (pa_cons (pe_ix ix_list (pv 0) pe_int (fun _ _ => rfl)) pa_nil))) pa_nil))))) pss_nil)
      (pss_cons (ps_if (pt_cmpR op_eq (pv 2) pe_int (nomark _))
      (pss_one (ps_ret (pe_op op_cat (pe_lc (own := [("row", 6)]) (g := gName 6) (tt := tYes) rfl sc__law_hurt.nd (pi_list (pe_slice sl_list (pv 0) po_none (po_some (pe_op op_add (pv 3) pe_int)))) (blkOk_by (own := [("row", 6)]) (N := N__law_hurt) (sc := defScope s__law_hurt) (by decide +kernel)) (fun _ _ _ _ _ => (pg_name (i := 6) sc__law_hurt.nd rfl (Or.inl rfl))) (fun _ _ _ _ _ => pts_nil) (fun _ _ _ _ _ => (pe_op op_add_str (pv 6) pe_str))) (pe_lst (pa_cons (pe_op op_mul_str pe_str (pe_callB call_len_str (by rfl) T.z_len PySem.boot_len (pa_cons (pe_ix ix_list (pv 0) pe_int (fun _ _ => rfl)) pa_nil))) pa_nil))))) pss_nil)
      (pss_cons (ps_if (pt_cmpR op_eq (pv 2) pe_int (nomark _))
      (pss_one (ps_ret (pe_op op_rep (pe_lst (pa_cons (pe_ix ix_list (pv 0) (pv 3) (fun _ _ => rfl)) pa_nil)) pe_int))) pss_nil)
      (pss_cons (ps_if (pt_cmpR op_eq (pv 2) pe_int (nomark _))
      (pss_one (ps_ret (pe_lc (own := [("row", 6)]) (g := gName 6) (tt := tYes) rfl sc__law_hurt.nd (pi_list (pv 0)) (blkOk_by (own := [("row", 6)]) (N := N__law_hurt) (sc := defScope s__law_hurt) (by decide +kernel)) (fun _ _ _ _ _ => (pg_name (i := 6) sc__law_hurt.nd rfl (Or.inl rfl))) (fun _ _ _ _ _ => pts_nil) (fun _ _ _ _ _ => (pe_op op_add_str (pv 6) (pe_op op_mul_str pe_str (pe_op op_sub pe_int (pe_callB call_len_str (by rfl) T.z_len PySem.boot_len (pa_cons (pv 6) pa_nil))))))))) pss_nil)
      (pss_cons (ps_set (i := 4) sc__law_hurt.nd rfl (Or.inl rfl) (pe_op op_mod (pe_op op_fdiv (pv 1) pe_int) (pe_callB call_len_str (by rfl) T.z_len PySem.boot_len (pa_cons (pe_ix ix_list (pv 0) (pv 3) (fun _ _ => rfl)) pa_nil))))
      (pss_cons (ps_set (i := 5) sc__law_hurt.nd rfl (Or.inl rfl) (pe_op op_add_str (pe_op op_add_str (pe_slice sl_str (pe_ix ix_list (pv 0) (pv 3) (fun _ _ => rfl)) po_none (po_some (pv 4))) (pe_ix ix_list (pe_lst (pa_cons pe_str (pa_cons pe_str (pa_cons pe_str (pa_cons pe_str (pa_cons pe_str (pa_cons pe_str pa_nil))))))) (pe_op op_mod (pe_op op_fdiv (pv 1) pe_int) pe_int) (fun _ _ => rfl))) (pe_slice sl_str (pe_ix ix_list (pv 0) (pv 3) (fun _ _ => rfl)) (po_some (pe_op op_add (pv 4) pe_int)) po_none)))
      (pss_one (ps_ret (pe_op op_cat (pe_op op_cat (pe_slice sl_list (pv 0) po_none (po_some (pv 3))) (pe_lst (pa_cons (pv 5) pa_nil))) (pe_slice sl_list (pv 0) (po_some (pe_op op_add (pv 3) pe_int)) po_none))))))))))))), ?_⟩
  have lB : (rowsV B).length = h := by rw [rowsV_len, I.hh]
  have hh1 := I.h1
  have hh9 := I.h9
  have ww1 := I.w1
  have ww9 := I.w9
  have rkr : ∀ r ∈ B, ∀ c ∈ r, c < 1000 := I.small.cod
  have rkB : ∀ x ∈ B, Rk x := fun x hx => ⟨I.small.row x hx, rkr x hx⟩
  refine qa (fun v H1 => H = H1 ∧ ∃ way : Int, v = .int way) (fun Q' k => ⟨_, rfl, _, _, rfl, rfl, (show (0 : Int) < 6 by decide), k _ _ ⟨rfl, _, rfl⟩⟩) (fun v H1 hv => ?_)
  obtain ⟨rfl, way, rfl⟩ := hv
  refine qa (fun v H1 => H = H1 ∧ ∃ at_ : Int, v = .int at_ ∧ 0 ≤ at_ ∧ at_ < h) (fun Q' k => ?_) (fun v H1 hv => ?_)
  · refine ⟨_, rfl, _, _, rfl, rfl, ⟨by decide, by decide⟩, _, rfl, l, _, rfl, .inl (SqL.of hl), _, _, rfl, rfl, (show (0 : Int) < ((rowsV B).length : Int) by omega), k _ _ ⟨rfl, _, rfl, Int.emod_nonneg _ (by omega), ?_⟩⟩
    have := Int.emod_lt_of_pos (cell / 6) (show (0 : Int) < ((rowsV B).length : Int) by omega)
    omega
  obtain ⟨rfl, at_, rfl, a0, a1⟩ := hv
  obtain ⟨r, er, lr⟩ := I.row (i := at_.toNat) (by omega)
  have mr : r ∈ B := List.mem_of_getElem? er
  obtain ⟨r0, er0, lr0⟩ := I.row (i := 0) (by omega)
  have m0 : r0 ∈ B := List.mem_of_getElem? er0
  have atr : atI (rowsV B) at_ = some (rowV r) := at_int a0 (rowsV_get er)
  have at0 : atI (rowsV B) 0 = some (rowV r0) := atI_nat (j := 0) (rowsV_get er0)
  -- way 0
  refine ⟨_, rfl, rfl, _, rfl, iteD (fun _ => ?_) (fun _ => ?_)⟩
  · refine ⟨sz0, fun p1 h1 => ⟨sz1, fun p2 h2 => ⟨sz2, fun p3 h3 => ⟨sz3, fun p4 h4 => ?_⟩⟩⟩⟩
    have s1 := same_new h1 (.lst [])
    have s2 := same_new h2 (.lst [.str (Str.ofString "")])
    have s3 := same_new h3 (.lst [.str (Str.ofString ""), .str (Str.ofString "")])
    have s4 := same_new h4 (.lst [.ref p1, .ref p2, .ref p3])
    have k0 : 0 ≤ cell / 60 % 3 := Int.emod_nonneg _ (by decide)
    have k1 : cell / 60 % 3 < 3 := Int.emod_lt_of_pos _ (by decide)
    have pick : ∃ (p : Addr) (B' : Bd), atI [V.ref p1, .ref p2, .ref p3] (cell / 60 % 3) = some (.ref p) ∧ upd (upd (upd (upd H p1 (.lst [])) p2 (.lst [.str (Str.ofString "")])) p3 (.lst [.str (Str.ofString ""), .str (Str.ofString "")])) p4 (.lst [.ref p1, .ref p2, .ref p3]) p = some (.lst (rowsV B')) ∧ Good B' = false ∧ Small B' := by
      generalize cell / 60 % 3 = kk at k0 k1
      have : kk = 0 ∨ kk = 1 ∨ kk = 2 := by omega
      rcases this with rfl | rfl | rfl
      · exact ⟨p1, [], rfl, s4 _ _ (s3 _ _ (s2 _ _ upd_same)), by decide, by decide, by decide, by decide⟩
      · exact ⟨p2, [[]], rfl, s4 _ _ (s3 _ _ upd_same), by decide, by decide, by decide, by decide⟩
      · exact ⟨p3, [[], []], rfl, s4 _ _ upd_same, by decide, by decide, by decide, by decide⟩
    obtain ⟨p, B', e1, e2, e3, e4⟩ := pick
    refine ⟨_, rfl, _, _, rfl, rfl, ⟨by decide, by decide⟩, _, _, rfl, rfl, (show (0 : Int) < 3 by decide), p4, _, _, _, rfl, rfl, SqL.of upd_same, e1, ?_⟩
    exact q B' p _ (s1.trans (s2.trans (s3.trans s4))) e2 e3 e4
  -- way 1
  refine ⟨_, rfl, rfl, _, rfl, iteD (fun _ => ?_) (fun _ => ?_)⟩
  · refine ⟨_, rfl, _, rfl, _, rfl, l, _, rfl, SqL.of hl, fun p1 h1 => ?_⟩
    have s1 := same_new h1 (.lst (cutV (rowsV B) none (some at_)))
    refine ⟨_, rfl, _, rfl, l, _, _, _, rfl, rfl, SqL.of (s1 _ _ hl), atr, _, _, rfl, rfl, ?_, sz1, fun p2 h2 => ?_⟩
    · rw [txt_len, lr]
      exact sz_le (by show w + 1 ≤ 1000000; omega)
    have s2 := same_new h2 (.lst [.str (txt r ++ Str.ofString "n")])
    have c1 := cutV_length (rowsV B) none (some at_)
    refine ⟨p1, p2, _, _, rfl, rfl, s2 _ _ upd_same, upd_same, sz_le (by show _ + 1 ≤ 1000000; omega), fun p3 h3 => ?_⟩
    have s3 := same_new h3 (.lst (cutV (rowsV B) none (some at_) ++ [.str (txt r ++ Str.ofString "n")]))
    refine ⟨_, rfl, _, rfl, _, _, rfl, rfl, _, rfl, l, _, rfl, SqL.of (s3 _ _ (s2 _ _ (s1 _ _ hl))), fun p4 h4 => ?_⟩
    have s4 := same_new h4 (.lst (cutV (rowsV B) (some (at_ + 1)) none))
    have c4 := cutV_length (rowsV B) (some (at_ + 1)) none
    refine ⟨p3, p4, _, _, rfl, rfl, s4 _ _ upd_same, upd_same, sz_le (by rw [List.length_append]; show _ + 1 + _ ≤ 1000000; omega), fun p5 h5 => ?_⟩
    have s5 := same_new h5 (.lst (cutV (rowsV B) none (some at_) ++ [.str (txt r ++ Str.ofString "n")] ++ cutV (rowsV B) (some (at_ + 1)) none))
    refine ⟨_, rfl, l, _, _, _, rfl, rfl, SqL.of (s5 _ _ (s4 _ _ (s3 _ _ (s2 _ _ (s1 _ _ hl))))), at0, _, rfl, sz_le (by rw [txt_len]; omega), _, _, rfl, rfl, ?_, ?_, ?_, sz1, fun p6 h6 => ?_⟩
    · decide
    · omega
    · rw [txt_len]
      omega
    have s6 := same_new h6 (.lst [.str (Txt.mul (Str.ofString "w") ((txt r0).length : Int))])
    refine ⟨p5, p6, _, _, rfl, rfl, s6 _ _ upd_same, upd_same, sz_le (by rw [List.length_append, List.length_append]; show _ + 1 + _ + 1 ≤ 1000000; omega), fun p7 h7 => ?_⟩
    refine q (B.take at_.toNat ++ [r ++ [110]] ++ B.drop (at_ + 1).toNat ++ [List.replicate w 119]) p7 _ (s1.trans (s2.trans (s3.trans (s4.trans (s5.trans (s6.trans (same_new h7 _))))))) ?_ ?_ ?_
    · rw [upd_same, cutV_to a0 (by omega), cutV_from (by omega) (by omega), s_n, s_w, txt_app, mul_txt, txt_len, lr0]
      unfold rowsV
      rw [List.map_append, List.map_append, List.map_append, List.map_take, List.map_drop]
      rfl
    · exact bad_len (r1 := r ++ [110]) (r2 := List.replicate w 119) (by simp) (by simp) (by simp [lr])
    · refine small_more (by simp [I.hh]; omega) (fun x hx => ?_)
      simp only [List.mem_append, List.mem_singleton] at hx
      rcases hx with ((hx | rfl) | hx) | rfl
      · exact rkB _ (List.mem_of_mem_take hx)
      · exact rk_app (rkr _ mr) (by decide) (by simp [lr]; omega)
      · exact rkB _ (List.mem_of_mem_drop hx)
      · exact rk_rep (by decide) (by omega)
  -- way 2
  refine ⟨_, rfl, rfl, _, rfl, iteD (fun _ => ?_) (fun _ => ?_)⟩
  · refine ⟨_, rfl, _, rfl, _, _, rfl, rfl, _, rfl, l, _, rfl, SqL.of hl, fun p1 h1 => ?_⟩
    have s1 := same_new h1 (.lst (cutV (rowsV B) none (some (at_ + 1))))
    have ecut : cutV (rowsV B) none (some (at_ + 1)) = rowsV (B.take (at_ + 1).toNat) := by
      rw [cutV_to (by omega) (by omega)]
      unfold rowsV
      rw [List.map_take]
    rw [ecut] at s1 ⊢
    have hp1 : upd H p1 (.lst (rowsV (B.take (at_ + 1).toNat))) p1 = some (.lst (rowsV (B.take (at_ + 1).toNat))) := upd_same
    have s01 : Same H (upd H p1 (.lst (rowsV (B.take (at_ + 1).toNat)))) := s1
    revert hp1 s01
    generalize upd H p1 (.lst (rowsV (B.take (at_ + 1).toNat))) = H1
    intro hp1 s01
    refine ⟨p1, rfl, ⟨_, SqL.of hp1⟩, fun D hD => lc_it walk_list (fun j H' => Same H1 H' ∧ H' D = some (.lst (rowsV (((B.take (at_ + 1).toNat).take j).map fun x => x ++ [46])))) ⟨same_new hD _, upd_same⟩ (fun i H' _ ⟨s, _⟩ => SqL.of (s _ _ hp1))
      (fun j x H2 H3 hj ⟨s2, h2⟩ ⟨e3, ex⟩ => ?_) (fun H2 ⟨s2, h2⟩ => ?_)⟩
    · subst e3
      obtain ⟨y, ey, rfl⟩ := rowsV_inv ex
      have my : y ∈ B := List.mem_of_mem_take (List.mem_of_getElem? ey)
      refine ⟨rfl, _, rfl, _, _, rfl, rfl, ?_, _, h2, ?_, same_mut s2 hD, ?_⟩
      · rw [txt_len, I.ww _ my]
        exact sz_le (by show w + 1 ≤ 1000000; omega)
      · rw [rowsV_len]
        refine sz_lt ?_
        rw [List.length_map, List.length_take, List.length_take, I.hh]
        omega
      · rw [upd_same, take_map_snoc ey]
        unfold rowsV
        rw [List.map_append, s_dot, txt_app]
        rfl
    · rw [rowsV_len, List.take_length] at h2
      have s3 := s01.trans s2
      refine ⟨_, rfl, l, _, _, _, rfl, rfl, SqL.of (s3 _ _ hl), at0, _, rfl, sz_le (by rw [txt_len]; omega), _, _, rfl, rfl, by decide, by omega, by rw [txt_len]; omega, sz1, fun p2 h5 => ?_⟩
      have s5 := same_new h5 (.lst [.str (Txt.mul (Str.ofString "n") ((txt r0).length : Int))])
      refine ⟨D, p2, _, _, rfl, rfl, s5 _ _ h2, upd_same, ?_, fun p3 h6 => ?_⟩
      · rw [rowsV_len, List.length_map, List.length_take, I.hh]
        exact sz_le (by show _ + 1 ≤ 1000000; omega)
      refine q ((B.take (at_ + 1).toNat).map (fun x => x ++ [46]) ++ [List.replicate w 110]) p3 _ (s3.trans (s5.trans (same_new h6 _))) ?_ ?_ ?_
      · rw [upd_same, s_n, mul_txt, txt_len, lr0]
        unfold rowsV
        rw [List.map_append]
        rfl
      · have m1 : r0 ++ [46] ∈ (B.take (at_ + 1).toNat).map fun x => x ++ [46] := by
          refine List.mem_map.mpr ⟨r0, ?_, rfl⟩
          refine List.mem_of_getElem? (i := 0) ?_
          rw [List.getElem?_take, if_pos (by omega)]
          exact er0
        exact bad_len (r1 := r0 ++ [46]) (r2 := List.replicate w 110) (List.mem_append_left _ m1) (by simp) (by simp [lr0])
      · refine small_more (by simp; omega) (fun x hx => ?_)
        simp only [List.mem_append, List.mem_singleton] at hx
        rcases hx with hx | rfl
        · obtain ⟨y, hy, rfl⟩ := List.mem_map.mp hx
          have my := List.mem_of_mem_take hy
          exact rk_app (rkr _ my) (by decide) (by simp [I.ww _ my]; omega)
        · exact rk_rep (by decide) (by omega)
  -- way 3
  refine ⟨_, rfl, rfl, _, rfl, iteD (fun _ => ?_) (fun _ => ?_)⟩
  · refine ⟨_, rfl, _, rfl, l, _, _, _, rfl, rfl, SqL.of hl, atr, sz1, fun p1 h1 => ?_⟩
    refine ⟨p1, _, _, rfl, rfl, upd_same, by decide, by decide, by show 1 * 10 ≤ sizeLine; decide, fun p2 h2 => ?_⟩
    refine q (List.replicate 10 r) p2 _ ((same_new h1 _).trans (same_new h2 _)) ?_ (bad_many (by simp)) (small_more (by simp) fun x hx => ?_)
    · rw [upd_same, replicate_flat]
      rfl
    · rw [List.eq_of_mem_replicate hx]
      exact rkB _ mr
  -- way 4
  refine ⟨_, rfl, rfl, _, rfl, iteD (fun _ => ?_) (fun _ => ?_)⟩
  · refine ⟨_, rfl, l, rfl, ⟨_, SqL.of hl⟩, fun D hD => lc_it walk_list (fun j H' => Same H H' ∧ H' D = some (.lst (rowsV ((B.take j).map fun x => x ++ List.replicate (10 - w) 119)))) ⟨same_new hD _, upd_same⟩ (fun i H' _ ⟨s, _⟩ => SqL.of (s _ _ hl))
      (fun j x H2 H3 hj ⟨s2, h2⟩ ⟨e3, ex⟩ => ?_) (fun H2 ⟨s2, h2⟩ => ?_)⟩
    · subst e3
      obtain ⟨y, ey, rfl⟩ := rowsV_inv ex
      have my : y ∈ B := List.mem_of_getElem? ey
      have ly : (txt y).length = w := by rw [txt_len, I.ww _ my]
      refine ⟨rfl, _, rfl, _, rfl, _, rfl, sz_le (by omega), _, _, rfl, rfl, _, _, rfl, rfl, by decide, ?_, ?_, _, _, rfl, rfl, ?_, _, h2, ?_, same_mut s2 hD, ?_⟩
      · show (-1000 : Int) ≤ 10 - ((txt y).length : Int)
        omega
      · show (10 : Int) - ((txt y).length : Int) ≤ 1000
        omega
      · show (txt y).length + (Txt.mul (Str.ofString "w") (10 - ((txt y).length : Int))).length ≤ sizeLine
        rw [s_w, mul_txt, txt_len, txt_len, List.length_replicate, I.ww _ my]
        exact sz_le (by omega)
      · rw [rowsV_len]
        refine sz_lt ?_
        rw [List.length_map, List.length_take, I.hh]
        omega
      · rw [upd_same, take_map_snoc ey]
        unfold rowsV
        rw [List.map_append]
        show some (HO.lst (_ ++ [V.str (txt y ++ Txt.mul (Str.ofString "w") (10 - ((txt y).length : Int)))])) = _
        rw [s_w, mul_txt, txt_app, ly, show ((10 : Int) - (w : Int)).toNat = 10 - w by omega]
        rfl
    · rw [rowsV_len, List.take_length] at h2
      refine q (B.map fun x => x ++ List.replicate (10 - w) 119) D _ s2 h2 ?_ (small_more (by simp [I.hh]; omega) fun x hx => ?_)
      · exact bad_wide (List.mem_map.mpr ⟨r0, m0, rfl⟩) (by simp [lr0]; omega)
      · obtain ⟨y, hy, rfl⟩ := List.mem_map.mp hx
        exact rk_app (rkr _ hy) (rk_rep (by decide) (by omega)).2 (by simp [I.ww _ hy]; omega)
  -- way 5
  have ltr : (txt r).length = w := by rw [txt_len, lr]
  refine tn ?_
  refine qa (fun v H1 => H = H1 ∧ ∃ pl : Int, v = .int pl ∧ 0 ≤ pl ∧ pl < w) (fun Q' k => ?_) (fun v H1 hv => ?_)
  · refine ⟨_, rfl, _, _, rfl, rfl, ⟨by decide, by decide⟩, _, rfl, _, rfl, l, _, _, _, rfl, rfl, SqL.of hl, atr, _, rfl, sz_le (by omega), _, _, rfl, rfl, (show (0 : Int) < ((txt r).length : Int) by omega), k _ _ ⟨rfl, _, rfl, Int.emod_nonneg _ (by omega), ?_⟩⟩
    have := Int.emod_lt_of_pos (cell / 60) (show (0 : Int) < ((txt r).length : Int) by omega)
    omega
  obtain ⟨rfl, pl, rfl, pl0, pl1⟩ := hv
  have hl' : (rowsV B).length = h := lB
  obtain ⟨c, ec, oc, cc⟩ := bad6_at (k := cell / 700 % 6) (Int.emod_nonneg _ (by decide)) (Int.emod_lt_of_pos _ (by decide))
  refine qa (fun v H1 => Same H H1 ∧ v = .str (txt (r.take pl.toNat ++ [c] ++ r.drop (pl + 1).toNat))) (fun Q' k => ?_) (fun v H1 hv => ?_)
  · refine ⟨_, rfl, _, rfl, l, _, _, _, rfl, rfl, SqL.of hl, atr, _, rfl, _, rfl, _, rfl, sz_le (by omega), ?_⟩
    rw [cutS_to pl0 (by omega)]
    refine ⟨by show 6 ≤ sizeLine; decide, fun p1 h1 => ?_⟩
    have s1 := same_new h1 (.lst [.str (Str.ofString "N"), .str (Str.ofString "W"), .str (Str.ofString " "), .str (Str.ofString "x"), .str (Str.ofString "o"), .str (Str.ofString "-")])
    refine ⟨_, rfl, _, _, rfl, rfl, ⟨by decide, by decide⟩, _, _, rfl, rfl, (show (0 : Int) < 6 by decide), p1, _, _, _, rfl, rfl, SqL.of upd_same, ec, _, _, rfl, rfl, ?_, ?_⟩
    · rw [txt_len, txt_len, List.length_take]
      exact sz_le (by show _ + 1 ≤ 1000000; omega)
    refine ⟨_, rfl, _, rfl, l, _, _, _, rfl, rfl, SqL.of (s1 _ _ hl), atr, _, rfl, _, _, rfl, rfl, _, rfl, _, rfl, sz_le (by omega), ?_⟩
    rw [cutS_from (by omega) (by omega), txt_app]
    refine ⟨_, _, rfl, rfl, ?_, ?_⟩
    · rw [txt_len, txt_len, List.length_append, List.length_take, List.length_drop]
      exact sz_le (by show _ + 1 + _ ≤ 1000000; omega)
    rw [txt_app]
    exact k _ _ ⟨s1, rfl⟩
  obtain ⟨s1, rfl⟩ := hv
  have hl1 := s1 _ _ hl
  refine ⟨_, rfl, _, rfl, _, rfl, l, _, rfl, SqL.of hl1, fun p1 h1 => ?_⟩
  have s2 := same_new h1 (.lst (cutV (rowsV B) none (some at_)))
  have c1 := cutV_length (rowsV B) none (some at_)
  refine ⟨_, rfl, sz1, fun p2 h2 => ?_⟩
  have s3 := same_new h2 (.lst [.str (txt (r.take pl.toNat ++ [c] ++ r.drop (pl + 1).toNat))])
  refine ⟨p1, p2, _, _, rfl, rfl, s3 _ _ upd_same, upd_same, sz_le (by show _ + 1 ≤ 1000000; omega), fun p3 h3 => ?_⟩
  have s4 := same_new h3 (.lst (cutV (rowsV B) none (some at_) ++ [.str (txt (r.take pl.toNat ++ [c] ++ r.drop (pl + 1).toNat))]))
  refine ⟨_, rfl, _, rfl, _, _, rfl, rfl, _, rfl, l, _, rfl, SqL.of (s4 _ _ (s3 _ _ (s2 _ _ hl1))), fun p4 h4 => ?_⟩
  have s5 := same_new h4 (.lst (cutV (rowsV B) (some (at_ + 1)) none))
  have c4 := cutV_length (rowsV B) (some (at_ + 1)) none
  refine ⟨p3, p4, _, _, rfl, rfl, s5 _ _ upd_same, upd_same, sz_le (by rw [List.length_append]; show _ + 1 + _ ≤ 1000000; omega), fun p5 h5 => ?_⟩
  refine q (B.take at_.toNat ++ [r.take pl.toNat ++ [c] ++ r.drop (pl + 1).toNat] ++ B.drop (at_ + 1).toNat) p5 _ (s1.trans (s2.trans (s3.trans (s4.trans (s5.trans (same_new h5 _)))))) ?_ ?_ ?_
  · rw [upd_same, cutV_to a0 (by omega), cutV_from (by omega) (by omega)]
    unfold rowsV
    rw [List.map_append, List.map_append, List.map_take, List.map_drop]
    rfl
  · exact bad_sign (r := r.take pl.toNat ++ [c] ++ r.drop (pl + 1).toNat) (c := c) (by simp) (by simp) oc
  · refine small_more (by simp [I.hh]; omega) (fun x hx => ?_)
    simp only [List.mem_append, List.mem_singleton] at hx
    rcases hx with (hx | rfl) | hx
    · exact rkB _ (List.mem_of_mem_take hx)
    · refine ⟨by simp [lr]; omega, fun y hy => ?_⟩
      simp only [List.mem_append, List.mem_singleton] at hy
      rcases hy with (hy | rfl) | hy
      · exact rkr _ mr _ (List.mem_of_mem_take hy)
      · exact cc
      · exact rkr _ mr _ (List.mem_of_mem_drop hy)
    · exact rkB _ (List.mem_of_mem_drop hx)
end
end Sw
namespace Sw
open PySem PySem.Spec PyProof.Rows L2
section
variable {P : Program} {w : World} {K : PySem.W.Frag} {mg : Str → Option Value} {base : Heap}
/-! the law -/
def sp__law_whole : Sp := fun vs H Q _ => ∃ i : Int, vs = [.int i] ∧ Q (.bl true) H
theorem kit_ii {K : PySem.W.Frag} : PySem.W.kitOne K (.type "int") (.type "int") = some true := kit_ty (by decide +kernel)
theorem kit_ib {K : PySem.W.Frag} : PySem.W.kitOne K (.type "int") (.type "bool") = some false := kit_ty (by decide +kernel)
theorem kit_ll {K : PySem.W.Frag} : PySem.W.kitOne K (.type "list") (.type "list") = some true := kit_ty (by decide +kernel)
theorem ok__law_whole (T : Top K mg) : FnOk P w K mg base CX0 1 T.a__law_whole T.d__law_whole ["found"] sp__law_whole := by
  refine T.F__law_whole.ok sc__law_whole (fun vs H Q E h => ?_) (fun cdv A outer s H vs Q E hr h => ?_)
  · obtain ⟨_, rfl, _⟩ := h
    rfl
  obtain ⟨i, rfl, q⟩ := h
  refine ⟨_, (pss_one (ps_ret (pe_and (pe_callB call_isi (by rfl) T.z_isinstance (by decide +kernel) (pa_cons (pv 0) (pa_cons (pe_bltn (v := .ty "int") (u := .type "int") (by rfl) T.z_int (by decide +kernel) rfl) pa_nil))) (pe_one (pe_not (pe_callB call_isi (by rfl) T.z_isinstance (by decide +kernel) (pa_cons (pv 0) (pa_cons (pe_bltn (v := .ty "bool") (u := .type "bool") (by rfl) T.z_bool (by decide +kernel) rfl) pa_nil)))))))), ?_⟩
  refine ⟨_, rfl, _, _, _, _, _, rfl, .ty _, .base (.int i), kit_ii, _, rfl, iteT ?_⟩
  exact ⟨_, rfl, _, _, _, _, _, rfl, .ty _, .base (.int i), kit_ib, _, rfl, q⟩
def sp_law (K : PySem.W.Frag) : Sp := fun vs H Q _ => ∃ (a : Addr) (ns : List Int), vs = [.ref a] ∧ SqL K H a (ns.map V.int) ∧ ns.length ≤ 63 ∧ ∀ H', Q (.bl true) H'
theorem ok_law (T : Top K mg) : FnOk P w K mg base CX0 6 T.a_law T.d_law ["script"] (sp_law K) := by
  refine T.F_law.ok sc_law (fun vs H Q E h => ?_) (fun cdv A outer s H vs Q E hr h => ?_)
  · obtain ⟨_, _, rfl, _⟩ := h
    rfl
  obtain ⟨a, ns, rfl, hS, hlen, q⟩ := h
  refine ⟨_, (pss_cons (ps_asg (pe_call (ok__law_size_by T) (hr.mono (by decide)) rfl T.m__law_size_by T.F__law_size_by.kp T.B__law_size_by .nil pass0 (pa_cons (pv 0) (pa_cons pe_int pa_nil))) (pg_tup rfl (pgs_cons (pg_name (i := 5) sc_law.nd rfl (Or.inl rfl)) (pgs_cons (pg_name (i := 6) sc_law.nd rfl (Or.inl rfl)) pgs_nil))))
      (pss_cons (ps_set (i := 1) sc_law.nd rfl (Or.inl rfl) (pe_call (ok__law_rows_by T) (hr.mono (by decide)) rfl T.m__law_rows_by T.F__law_rows_by.kp T.B__law_rows_by .nil pass0 (pa_cons (pv 0) (pa_cons (pv 5) (pa_cons (pv 6) (pa_cons pe_bl pa_nil))))))
      (pss_cons (ps_set (i := 2) sc_law.nd rfl (Or.inl rfl) (pe_cmpR op_eq (pe_op op_mod (pe_call (ok__law_cell_at T) (hr.mono (by decide)) rfl T.m__law_cell_at T.F__law_cell_at.kp T.B__law_cell_at .nil pass0 (pa_cons (pv 0) (pa_cons pe_int pa_nil))) pe_int) pe_int (nomark _)))
      (Evl.pss_cut (ps_if (pt_not (pt_val (pv 2)))
      (pss_one (ps_set (i := 1) sc_law.nd rfl (Or.inl rfl) (pe_call (ok__law_hurt T) (hr.mono (by decide)) rfl T.m__law_hurt T.F__law_hurt.kp T.B__law_hurt .nil pass0 (pa_cons (pv 1) (pa_cons (pe_op op_fdiv (pe_call (ok__law_cell_at T) (hr.mono (by decide)) rfl T.m__law_cell_at T.F__law_cell_at.kp T.B__law_cell_at .nil pass0 (pa_cons (pv 0) (pa_cons pe_int pa_nil))) pe_int) pa_nil))))) pss_nil)
      (pss_cons (ps_set (i := 3) sc_law.nd rfl (Or.inl rfl) (pe_callTy call_list_of (by rfl) T.z_list (by decide +kernel) (pa_cons (pv 1) pa_nil)))
      (pss_cons (ps_try_as (i := 4) (Wout := fun _ _ _ _ => False) rfl rfl sc_law.nd rfl rfl ⟨rfl, by decide, .inl T.mC_BadBoard⟩ takes0 (fun W pn xe tk po => (pss_one (ps_set (i := 7) sc_law.nd rfl (Or.inl rfl) (pe_makeS T.Mk_Board (ok_Board_init T) (hr.mono (by decide)) (by rfl) T.mC_Board T.B_Board___init__ (fun σ => passAt tk σ) (pa_cons (pv 3) pa_nil)))))
      (fun a oe cls d pn hz hf => (pss_one (ps_ret (pe_and (pe_not (pv 2)) (pe_and (pe_callB (call_isXK (K := K) rfl hz hf) (by rfl) T.z_isinstance (by decide +kernel) (pa_cons (pv 4) (pa_cons (pe_glob (v := .ref T.C_ShoreError) rfl T.mC_ShoreError rfl) pa_nil))) (pe_and (pe_callB (call_isXK (K := K) rfl hz hf) (by rfl) T.z_isinstance (by decide +kernel) (pa_cons (pv 4) (pa_cons (pe_bltn (v := .ty "ValueError") (u := .type "ValueError") (by rfl) T.z_ValueError (by decide +kernel) rfl) pa_nil))) (pe_one (pe_cmpR (op_eqDK (K := K) rfl hr.units) (pv 3) (pv 1) (nomark _))))))))))
      (pss_cons (ps_if (PW.pt (pw_or (pt_not (pt_val (pv 2))) (pw_or1 (pt_cmpR (op_neD hr.units) (pv 3) (pv 1) (nomark _)))))
      (pss_one (ps_ret pe_bl)) pss_nil)
      (pss_cons (ps_expr (pe_bm PySem.F.plainAttrs_list PySem.F.slot_list_append PySem.F.type_list_append mt_append (pv 3) (pa_cons (pe_op op_mul_str pe_str (pv 6)) pa_nil)))
      (pss_cons (ps_if (PW.pt (pw_or (pt_not (pt_val (pe_callB call_isi (by rfl) T.z_isinstance (by decide +kernel) (pa_cons (pe_fld (pv 7) rfl) (pa_cons (pe_bltn (v := .ty "list") (u := .type "list") (by rfl) T.z_list (by decide +kernel) rfl) pa_nil))))) (pw_or1 (pt_cmpR (op_neD hr.units) (pe_fld (pv 7) rfl) (pv 1) (nomark _)))))
      (pss_one (ps_ret pe_bl)) pss_nil)
      (pss_one (ps_ret (pe_and (pe_call (ok__law_whole T) (hr.mono (by decide)) rfl T.m__law_whole T.F__law_whole.kp T.B__law_whole .nil pass0 (pa_cons (pe_fld (pv 7) rfl) pa_nil)) (pe_and (pe_call (ok__law_whole T) (hr.mono (by decide)) rfl T.m__law_whole T.F__law_whole.kp T.B__law_whole .nil pass0 (pa_cons (pe_fld (pv 7) rfl) pa_nil)) (pe_one (pe_cmpR (op_eqD hr.units) (pe_tup (pa_cons (pe_fld (pv 7) rfl) (pa_cons (pe_fld (pv 7) rfl) pa_nil))) (pe_tup (pa_cons (pv 5) (pa_cons (pv 6) pa_nil))) (nomark _)))))))))))))))), ?_⟩
  -- height, width; rows
  refine ⟨_, rfl, a, ns, 9, rfl, hS, by decide, fun h w t H1 h1 h9 w1 w9 s1 ht => ?_⟩
  obtain ⟨h, rfl⟩ : ∃ n : Nat, h = (n : Int) := ⟨h.toNat, by omega⟩
  obtain ⟨w, rfl⟩ : ∃ n : Nat, w = (n : Int) := ⟨w.toNat, by omega⟩
  refine ⟨t, _, rfl, SqT.of ht, rfl, _, _, rfl, _, _, rfl, rfl, ?_⟩
  refine ⟨_, rfl, _, rfl, _, rfl, a, ns, h, w, false, rfl, s1.seq hS, by omega, by omega, by omega, by omega, fun B l H2 s2 nl hl I _ => ?_⟩
  have hS2 := (s1.trans s2).seq hS
  -- good
  refine gn ?_
  refine qa (fun v H3 => H2 = H3 ∧ ∃ g : Bool, v = .bl g) (fun Q' k => ⟨_, rfl, a, ns, 2, rfl, hS2, by decide, _, _, rfl, rfl, (show (0 : Int) < 3 by decide), rfl, k _ _ ⟨rfl, _, rfl⟩⟩) (fun v H3 hv => ?_)
  obtain ⟨rfl, g, rfl⟩ := hv
  -- rows, spoilt or not
  refine ⟨fun σ H' => ∃ (B' : Bd) (p : Addr), Small B' ∧ Same H2 H' ∧ H' p = some (.lst (rowsV B')) ∧ Good B' = g ∧ (g = true → B' = B) ∧ σ = [some (.ref a), some (.ref p), some (.bl g), none, none, some (.int h), some (.int w), none], ?_, ?_⟩
  · refine ⟨_, rfl, g, rfl, iteNB (fun e => ?_) (fun e => ?_)⟩
    · refine ⟨_, rfl, _, rfl, a, ns, 2, rfl, hS2, by decide, _, _, rfl, rfl, ⟨by decide, by decide⟩, l, B, _, h, w, rfl, hl, I, fun B' p H' s3 hp hb sm => ?_⟩
      exact ⟨B', p, sm, s3, hp, hb.trans e.symm, (fun z => by rw [e] at z; cases z), rfl⟩
    · exact ⟨B, l, I.small, .refl _, hl, I.good.trans e.symm, fun _ => rfl, rfl⟩
  rintro σ H3 ⟨B', p, sm, s3, hp, hg, hB, rfl⟩
  -- handed = list(rows)
  refine ⟨_, rfl, p, _, rfl, .inl (SqL.of hp), fun hd nh => ?_⟩
  have s4 := same_new nh (.lst (rowsV B'))
  have hp4 := s4 _ _ hp
  have hh4 : upd H3 hd (.lst (rowsV B')) hd = some (.lst (rowsV B')) := upd_same
  revert hh4 hp4 s4
  generalize upd H3 hd (.lst (rowsV B')) = H4
  intro s4 hp4 hh4
  -- try: board = Board(handed)
  refine ⟨_, rfl, fun o d no nd ndo => ?_⟩
  have so := ((same_new nd (.own o)).trans (same_new (by rw [upd_ne (Ne.symm ndo)]; exact no) (.ins T.C_Board d [])))
  refine ⟨o, d, hd, B', rfl, upd_same, so _ _ hh4, sm, fun hb H5 s5 => ?_, fun hb H5 l5 k5 n5 b5 => ⟨rfl, ?_⟩⟩
  · -- refused
    have s45 := so.trans s5
    have eg : g = false := by rw [← hg]; exact hb
    refine ⟨true, exm_of T.b_BadBoard T.i_BadBoard T.t_BadBoard T.s_BadBoard_BadBoard, (fun _ e ne => ?_), fun z => nomatch z⟩
    refine ⟨_, rfl, g, rfl, _, rfl, ?_⟩
    rw [eg]
    refine iteT ?_
    refine ⟨_, rfl, _, rfl, rfl, T.E_BadBoard, _, _, _, rfl, (fun u r => r), T.kit_BadBoard_ShoreError, _, rfl, iteT ?_⟩
    refine ⟨_, rfl, _, rfl, rfl, T.E_BadBoard, _, _, _, rfl, (fun u r => r), T.kit_BadBoard_ValueError, _, rfl, iteT ?_⟩
    refine ⟨_, rfl, _, rfl, _, _, rows_dp (s45 _ _ hh4), rows_dp (s45 _ _ hp4), shaped_rows sm, shaped_rows sm, ?_⟩
    rw [eqv_rows sm]
    exact q _
  · -- made
    have eg : g = true := by rw [← hg]; exact hb
    have eB := hB eg
    subst eB eg
    have s45 : Same H4 H5 := made_board no nd k5
    refine gn ?_
    refine ⟨_, rfl, _, rfl, iteF ?_⟩
    refine ⟨_, rfl, _, rfl, _, _, rows_dp (s45 _ _ hh4), rows_dp (s45 _ _ hp4), shaped_rows sm, shaped_rows sm, _, rfl, ?_⟩
    rw [eqv_rows sm]
    refine iteF ?_
    -- handed.append
    refine ⟨_, rfl, .inl ⟨rfl, _, SqL.of (s45 _ _ hh4)⟩, _, rfl, _, _, rfl, rfl, by decide, by omega, by omega, hd, _, _, rfl, rfl, s45 _ _ hh4, ?_, ?_⟩
    · rw [rowsV_len, I.hh]
      exact sz_lt (by omega)
    obtain ⟨⟨dx, ho⟩, hl5⟩ := b5
    have n1 : o ≠ hd := ne_of_none hh4 no |>.symm
    have n2 : l5 ≠ hd := fun z => by
      rw [z] at n5
      have := so _ _ hh4
      rw [n5] at this
      cases this
    have n3 : p ≠ hd := ne_of_none hp nh
    have e1 : ∀ u, upd H5 hd u o = some (.ins T.C_Board dx (bfl l5 B'.length (wid B'))) := fun u => by rw [upd_ne n1]; exact ho
    have e2 : ∀ u, upd H5 hd u l5 = some (.lst (rowsV B')) := fun u => by rw [upd_ne n2]; exact hl5
    have e3 : ∀ u, upd H5 hd u p = some (.lst (rowsV B')) := fun u => by rw [upd_ne n3]; exact s45 _ _ hp4
    refine ⟨_, rfl, o, _, dx, _, _, rfl, e1 _, T.cl_Board, T.n_Board_rows, bfl_rows _ _ _, _, _, _, _, _, rfl, .ty _, .base (.lst (e2 _)), kit_ll, _, rfl, iteF ?_⟩
    refine ⟨_, rfl, o, _, dx, _, _, rfl, e1 _, T.cl_Board, T.n_Board_rows, bfl_rows _ _ _, _, rfl, _, _, rows_dp (e2 _), rows_dp (e3 _), shaped_rows sm, shaped_rows sm, _, rfl, ?_⟩
    rw [eqv_rows sm]
    refine iteF ?_
    -- height, width
    refine ⟨_, rfl, o, _, dx, _, _, rfl, e1 _, T.cl_Board, T.n_Board_height, bfl_height _ _ _, _, rfl, _, rfl, iteT ?_⟩
    refine ⟨_, rfl, o, _, dx, _, _, rfl, e1 _, T.cl_Board, T.n_Board_width, bfl_width _ _ _, _, rfl, _, rfl, iteT ?_⟩
    refine ⟨_, rfl, o, _, dx, _, _, rfl, e1 _, T.cl_Board, T.n_Board_height, bfl_height _ _ _, _, rfl, o, _, dx, _, _, rfl, e1 _, T.cl_Board, T.n_Board_width, bfl_width _ _ _, sz2, fun t1 h1 => ?_⟩
    rw [I.hh, I.wid]
    refine ⟨_, rfl, _, rfl, sz2, fun t2 h2 => ?_⟩
    refine ⟨_, _, cell_dp (c := ((h : Int), (w : Int))) (same_new h2 _ _ _ upd_same), cell_dp (c := ((h : Int), (w : Int))) upd_same, shaped_cell _, shaped_cell _, ?_⟩
    rw [eqv_cell, decide_eq_true rfl]
    exact q _
end
end Sw
namespace Sw
open PySem PySem.Spec PyProof.Rows L2
/-! ### what the top has written, and the end -/
theorem all_mk {l : PySem.W.OpenLaw} {w : World} {K : PySem.W.Frag} {h : Heap} {mg : Str → Option Value} {fa : Addr} (X : K.In h) (G : h.Ns mainGlobals mg) (hfa : mg "law" = some (.ref fa))
    {C_Board C_ShoreError C_BadBoard : Addr}
    {od1 an1 : Option Addr} {sl1 : Array (Option Value)} {oc1 kV1 dc1 pm1 cd1 ct1 : Value} {f1 : Addr}
    {od2 an2 : Option Addr} {sl2 : Array (Option Value)} {oc2 kV2 dc2 pm2 cd2 ct2 : Value} {f2 : Addr}
    {od3 an3 : Option Addr} {sl3 : Array (Option Value)} {oc3 kV3 dc3 pm3 cd3 ct3 : Value} {f3 : Addr}
    {od4 an4 : Option Addr} {sl4 : Array (Option Value)} {oc4 kV4 dc4 pm4 cd4 ct4 : Value} {f4 : Addr}
    {od5 an5 : Option Addr} {sl5 : Array (Option Value)} {oc5 kV5 dc5 pm5 cd5 ct5 : Value} {f5 : Addr}
    {od6 an6 : Option Addr} {sl6 : Array (Option Value)} {oc6 kV6 dc6 pm6 cd6 ct6 : Value} {f6 : Addr}
    {od7 an7 : Option Addr} {sl7 : Array (Option Value)} {oc7 kV7 dc7 pm7 cd7 ct7 : Value} {f7 : Addr}
    {od8 an8 : Option Addr} {sl8 : Array (Option Value)} {oc8 kV8 dc8 pm8 cd8 ct8 : Value} {f8 : Addr}
    {od9 an9 : Option Addr} {sl9 : Array (Option Value)} {oc9 kV9 dc9 pm9 cd9 ct9 : Value} {f9 : Addr}
    (aC_Board : PySem.W.nsIn K mainGlobals "Board" = some (some (.ref C_Board)))
    (aC_ShoreError : PySem.W.nsIn K mainGlobals "ShoreError" = some (some (.ref C_ShoreError)))
    (aC_BadBoard : PySem.W.nsIn K mainGlobals "BadBoard" = some (some (.ref C_BadBoard)))
    (a1 : PySem.W.nsIn K mainGlobals "board_right" = some (some (.ref f1)))
    (l1 : K.lookup f1 = some ⟨oc1, od1, .func (PySem.W.fnOf "board_right" "board_right" (defArgs s_board_right) (defBody s_board_right) (defScope s_board_right) .none kV1 dc1 pm1 an1 cd1 ct1), sl1⟩)
    (c1 : PySem.W.codeIn K cd1 "board_right" = true)
    (k1 : PySem.W.keepIn K (.ref f1) = true)
    (a2 : PySem.W.findIn K (.ref C_Board) "__init__" = some (some (.ref f2)))
    (i2 : PySem.W.isFn K (.ref f2) = true)
    (l2 : K.lookup f2 = some ⟨oc2, od2, .func (PySem.W.fnOf "__init__" "Board.__init__" (defArgs s_Board___init__) (defBody s_Board___init__) (defScope s_Board___init__) .none kV2 dc2 pm2 an2 cd2 ct2), sl2⟩)
    (c2 : PySem.W.codeIn K cd2 "Board.__init__" = true)
    (k2 : PySem.W.keepIn K (.ref f2) = true)
    (a3 : PySem.W.nsIn K mainGlobals "_law_cell_at" = some (some (.ref f3)))
    (l3 : K.lookup f3 = some ⟨oc3, od3, .func (PySem.W.fnOf "_law_cell_at" "_law_cell_at" (defArgs s__law_cell_at) (defBody s__law_cell_at) (defScope s__law_cell_at) .none kV3 dc3 pm3 an3 cd3 ct3), sl3⟩)
    (c3 : PySem.W.codeIn K cd3 "_law_cell_at" = true)
    (k3 : PySem.W.keepIn K (.ref f3) = true)
    (a4 : PySem.W.nsIn K mainGlobals "_law_mix" = some (some (.ref f4)))
    (l4 : K.lookup f4 = some ⟨oc4, od4, .func (PySem.W.fnOf "_law_mix" "_law_mix" (defArgs s__law_mix) (defBody s__law_mix) (defScope s__law_mix) .none kV4 dc4 pm4 an4 cd4 ct4), sl4⟩)
    (c4 : PySem.W.codeIn K cd4 "_law_mix" = true)
    (k4 : PySem.W.keepIn K (.ref f4) = true)
    (a5 : PySem.W.nsIn K mainGlobals "_law_whole" = some (some (.ref f5)))
    (l5 : K.lookup f5 = some ⟨oc5, od5, .func (PySem.W.fnOf "_law_whole" "_law_whole" (defArgs s__law_whole) (defBody s__law_whole) (defScope s__law_whole) .none kV5 dc5 pm5 an5 cd5 ct5), sl5⟩)
    (c5 : PySem.W.codeIn K cd5 "_law_whole" = true)
    (k5 : PySem.W.keepIn K (.ref f5) = true)
    (a6 : PySem.W.nsIn K mainGlobals "_law_rows_by" = some (some (.ref f6)))
    (l6 : K.lookup f6 = some ⟨oc6, od6, .func (PySem.W.fnOf "_law_rows_by" "_law_rows_by" (defArgs s__law_rows_by) (defBody s__law_rows_by) (defScope s__law_rows_by) .none kV6 dc6 pm6 an6 cd6 ct6), sl6⟩)
    (c6 : PySem.W.codeIn K cd6 "_law_rows_by" = true)
    (k6 : PySem.W.keepIn K (.ref f6) = true)
    (a7 : PySem.W.nsIn K mainGlobals "_law_size_by" = some (some (.ref f7)))
    (l7 : K.lookup f7 = some ⟨oc7, od7, .func (PySem.W.fnOf "_law_size_by" "_law_size_by" (defArgs s__law_size_by) (defBody s__law_size_by) (defScope s__law_size_by) .none kV7 dc7 pm7 an7 cd7 ct7), sl7⟩)
    (c7 : PySem.W.codeIn K cd7 "_law_size_by" = true)
    (k7 : PySem.W.keepIn K (.ref f7) = true)
    (a8 : PySem.W.nsIn K mainGlobals "_law_hurt" = some (some (.ref f8)))
    (l8 : K.lookup f8 = some ⟨oc8, od8, .func (PySem.W.fnOf "_law_hurt" "_law_hurt" (defArgs s__law_hurt) (defBody s__law_hurt) (defScope s__law_hurt) .none kV8 dc8 pm8 an8 cd8 ct8), sl8⟩)
    (c8 : PySem.W.codeIn K cd8 "_law_hurt" = true)
    (k8 : PySem.W.keepIn K (.ref f8) = true)
    (a9 : PySem.W.nsIn K mainGlobals "law" = some (some (.ref f9)))
    (l9 : K.lookup f9 = some ⟨oc9, od9, .func (PySem.W.fnOf "law" "law" (defArgs s_law) (defBody s_law) (defScope s_law) .none kV9 dc9 pm9 an9 cd9 ct9), sl9⟩)
    (c9 : PySem.W.codeIn K cd9 "law" = true)
    (k9 : PySem.W.keepIn K (.ref f9) = true)
    (pg_Board : PySem.W.plainGet K C_Board Str.empty = true)
    (hd_Board : PySem.W.hasDictIn K C_Board = true)
    (po_Board : PySem.W.plainOver K C_Board = true)
    (sa_Board : PySem.W.findIn K (.ref C_Board) "__setattr__" = some (some (.builtin "object.__setattr__")))
    (mk_Board : PySem.W.makesIn K C_Board = true)
    (kc_Board : PySem.W.keepIn K (.ref C_Board) = true)
    (n_Board_rows : PySem.W.findIn K (.ref C_Board) "rows" = some none)
    (n_Board_height : PySem.W.findIn K (.ref C_Board) "height" = some none)
    (n_Board_width : PySem.W.findIn K (.ref C_Board) "width" = some none)
    (x_ShoreError : PySem.W.excIn K C_ShoreError [.type "ValueError", .type "Exception", .type "BaseException", .type "object"] "ValueError.__new__" = true)
    (k_ShoreError : PySem.W.keepIn K (.ref C_ShoreError) = true)
    (b_ShoreError : PySem.W.subIn K (.ref C_ShoreError) (.type "BaseException") = some true)
    (t_ShoreError : PySem.W.typeIn K (.ref C_ShoreError) = some (.type "type"))
    (i_ShoreError : PySem.W.isClsIn K C_ShoreError = true)
    (x_BadBoard : PySem.W.excIn K C_BadBoard [.type "ValueError", .type "Exception", .type "BaseException", .type "object"] "ValueError.__new__" = true)
    (k_BadBoard : PySem.W.keepIn K (.ref C_BadBoard) = true)
    (b_BadBoard : PySem.W.subIn K (.ref C_BadBoard) (.type "BaseException") = some true)
    (t_BadBoard : PySem.W.typeIn K (.ref C_BadBoard) = some (.type "type"))
    (i_BadBoard : PySem.W.isClsIn K C_BadBoard = true)
    (s_BadBoard_ShoreError : PySem.W.subIn K (.ref C_BadBoard) (.ref C_ShoreError) = some true)
    (s_BadBoard_BadBoard : PySem.W.subIn K (.ref C_BadBoard) (.ref C_BadBoard) = some true)
    (exn : PySem.W.specialIn K (.builtin "object.__class__") "__get__" = some (some (.builtin "getset_descriptor.__get__")))
    (ext : PySem.W.takesIn K (.builtin "object.__class__") = some true)
    (eg_BadBoard : PySem.W.findIn K (.ref C_BadBoard) "__getattribute__" = some (some (.builtin "BaseException.__getattribute__")))
    (ek_BadBoard : PySem.W.findIn K (.ref C_BadBoard) "__getattr__" = some none)
    (ed_BadBoard : PySem.W.hasDictIn K C_BadBoard = true)
    (ea_BadBoard : PySem.W.findIn K (.ref C_BadBoard) "__class__" = some (some (.builtin "object.__class__")))
    (em_BadBoard : PySem.W.mroIn K C_BadBoard (.type "object") = some true)
    (sv_BadBoard_ValueError : PySem.W.subIn K (.ref C_BadBoard) (.type "ValueError") = some true)
    {tk_MOST : Tok} (g_MOST : PySem.W.nsIn K mainGlobals "MOST" = some (some (.int 9 tk_MOST)))
    (z_len : PySem.W.nsIn K mainGlobals "len" = some none)
    (z_all : PySem.W.nsIn K mainGlobals "all" = some none)
    (z_list : PySem.W.nsIn K mainGlobals "list" = some none)
    (z_isinstance : PySem.W.nsIn K mainGlobals "isinstance" = some none)
    (z_int : PySem.W.nsIn K mainGlobals "int" = some none)
    (z_bool : PySem.W.nsIn K mainGlobals "bool" = some none)
    (z_range : PySem.W.nsIn K mainGlobals "range" = some none)
    (z_ValueError : PySem.W.nsIn K mainGlobals "ValueError" = some none) :
    ∃ fd : FuncData, (∀ (s : Shared) (v : Value), BindsTo s fd ⟨[v], []⟩ [("script", v)]) ∧ ∀ base : Heap, K.In base → base.Ns mainGlobals mg → FnOk l.prog w K mg base CX0 6 fa fd ["script"] (sp_law K) := by
  have e := hfa.symm.trans (PySem.W.mg_of X G a9)
  cases e
  let T : Top K mg := {
    a_board_right := f1,
    d_board_right := _,
    F_board_right := fun_mk (st := s_board_right) l1 c1 k1,
    B_board_right := (fun_mk (st := s_board_right) l1 c1 k1).binds (ps := ["rows"]) fun _ _ _ _ _ _ us hl => match us, hl with | [_], _ => rfl,
    m_board_right := PySem.W.mg_of X G a1,
    a_Board___init__ := f2,
    d_Board___init__ := _,
    F_Board___init__ := fun_mk (st := s_Board___init__) l2 c2 k2,
    B_Board___init__ := (fun_mk (st := s_Board___init__) l2 c2 k2).binds (ps := ["self", "rows"]) fun _ _ _ _ _ _ us hl => match us, hl with | [_, _], _ => rfl,
    a__law_cell_at := f3,
    d__law_cell_at := _,
    F__law_cell_at := fun_mk (st := s__law_cell_at) l3 c3 k3,
    B__law_cell_at := (fun_mk (st := s__law_cell_at) l3 c3 k3).binds (ps := ["script", "k"]) fun _ _ _ _ _ _ us hl => match us, hl with | [_, _], _ => rfl,
    m__law_cell_at := PySem.W.mg_of X G a3,
    a__law_mix := f4,
    d__law_mix := _,
    F__law_mix := fun_mk (st := s__law_mix) l4 c4 k4,
    B__law_mix := (fun_mk (st := s__law_mix) l4 c4 k4).binds (ps := ["cell", "k", "many"]) fun _ _ _ _ _ _ us hl => match us, hl with | [_, _, _], _ => rfl,
    m__law_mix := PySem.W.mg_of X G a4,
    a__law_whole := f5,
    d__law_whole := _,
    F__law_whole := fun_mk (st := s__law_whole) l5 c5 k5,
    B__law_whole := (fun_mk (st := s__law_whole) l5 c5 k5).binds (ps := ["found"]) fun _ _ _ _ _ _ us hl => match us, hl with | [_], _ => rfl,
    m__law_whole := PySem.W.mg_of X G a5,
    a__law_rows_by := f6,
    d__law_rows_by := _,
    F__law_rows_by := fun_mk (st := s__law_rows_by) l6 c6 k6,
    B__law_rows_by := (fun_mk (st := s__law_rows_by) l6 c6 k6).binds (ps := ["script", "height", "width", "full"]) fun _ _ _ _ _ _ us hl => match us, hl with | [_, _, _, _], _ => rfl,
    m__law_rows_by := PySem.W.mg_of X G a6,
    a__law_size_by := f7,
    d__law_size_by := _,
    F__law_size_by := fun_mk (st := s__law_size_by) l7 c7 k7,
    B__law_size_by := (fun_mk (st := s__law_size_by) l7 c7 k7).binds (ps := ["script", "most"]) fun _ _ _ _ _ _ us hl => match us, hl with | [_, _], _ => rfl,
    m__law_size_by := PySem.W.mg_of X G a7,
    a__law_hurt := f8,
    d__law_hurt := _,
    F__law_hurt := fun_mk (st := s__law_hurt) l8 c8 k8,
    B__law_hurt := (fun_mk (st := s__law_hurt) l8 c8 k8).binds (ps := ["rows", "cell"]) fun _ _ _ _ _ _ us hl => match us, hl with | [_, _], _ => rfl,
    m__law_hurt := PySem.W.mg_of X G a8,
    a_law := fa,
    d_law := _,
    F_law := fun_mk (st := s_law) l9 c9 k9,
    B_law := (fun_mk (st := s_law) l9 c9 k9).binds (ps := ["script"]) fun _ _ _ _ _ _ us hl => match us, hl with | [_], _ => rfl,
    m_law := PySem.W.mg_of X G a9,
    C_Board := C_Board,
    cl_Board := ⟨pg_Board, hd_Board, po_Board, sa_Board⟩,
    mC_Board := PySem.W.mg_of X G aC_Board,
    Mk_Board := ⟨mk_Board, a2, i2, kc_Board⟩,
    n_Board_rows := n_Board_rows,
    n_Board_height := n_Board_height,
    n_Board_width := n_Board_width,
    C_ShoreError := C_ShoreError,
    mC_ShoreError := PySem.W.mg_of X G aC_ShoreError,
    x_ShoreError := x_ShoreError,
    k_ShoreError := k_ShoreError,
    b_ShoreError := b_ShoreError,
    t_ShoreError := t_ShoreError,
    i_ShoreError := i_ShoreError,
    C_BadBoard := C_BadBoard,
    mC_BadBoard := PySem.W.mg_of X G aC_BadBoard,
    x_BadBoard := x_BadBoard,
    k_BadBoard := k_BadBoard,
    b_BadBoard := b_BadBoard,
    t_BadBoard := t_BadBoard,
    i_BadBoard := i_BadBoard,
    s_BadBoard_ShoreError := s_BadBoard_ShoreError,
    s_BadBoard_BadBoard := s_BadBoard_BadBoard,
    E_BadBoard := ⟨eg_BadBoard, ek_BadBoard, b_BadBoard, ed_BadBoard, ea_BadBoard, exn, ext, em_BadBoard⟩,
    kit_BadBoard_ShoreError := kit_ownT i_ShoreError t_ShoreError s_BadBoard_ShoreError,
    kit_BadBoard_ValueError := kit_typ (by decide +kernel) sv_BadBoard_ValueError,
    tk_MOST := tk_MOST,
    g_MOST := PySem.W.mg_of X G g_MOST,
    z_len := PySem.W.mg_none_of X G z_len,
    z_all := PySem.W.mg_none_of X G z_all,
    z_list := PySem.W.mg_none_of X G z_list,
    z_isinstance := PySem.W.mg_none_of X G z_isinstance,
    z_int := PySem.W.mg_none_of X G z_int,
    z_bool := PySem.W.mg_none_of X G z_bool,
    z_range := PySem.W.mg_none_of X G z_range,
    z_ValueError := PySem.W.mg_none_of X G z_ValueError }
  exact ⟨PySem.W.fnOf "law" "law" (defArgs s_law) (defBody s_law) (defScope s_law) .none kV9 dc9 pm9 an9 cd9 ct9, fun s v => .of_eq rfl, fun base _ _ => ok_law T⟩
theorem walk {l : PySem.W.OpenLaw} {q : Program} {loose : List Str} {XP : (Str → Option Value) → Heap → Prop} {YP : World → Heap → Prop} {d : DefRec} {K : Params → PySem.W.Frag} (hn : l.most = some 63) (hdf : d.params.defaults = [])
    (hY : ∀ (w : World) (h : Heap), YP w h → (K w.params).In h)
    (F : ∀ (w : World) (mg : Str → Option Value) (fa : Addr) (h : Heap), (K w.params).In h → h.Ns mainGlobals mg → mg d.name = some (.ref fa) →
      ∃ fd : FuncData, (∀ (s : Shared) (u : Value), BindsTo s fd ⟨[u], []⟩ [("script", u)]) ∧ ∀ base : Heap, (K w.params).In base → base.Ns mainGlobals mg → FnOk l.prog w (K w.params) mg base CX0 6 fa fd ["script"] (sp_law (K w.params))) :
    PySem.W.WalkO q loose XP YP l.row.toRowW d [] (fun f vs => PySem.call f vs) :=
  L2.walk_of (n := 63) (k := 6) (x := "script") (CX := fun _ => CX0) (sp := fun w => sp_law (K w.params)) hn (by decide) hdf ⟨rfl, by decide, by decide⟩ hY F (fun _ _ a ns hl _ hS => ⟨a, ns, rfl, hS, hl, fun _ => rfl⟩) fun _ _ _ _ _ z => z
end Sw
open PySem PySem.W PyProof.Rows in
set_option maxRecDepth 100000 in
set_option maxHeartbeats 0 in
theorem PySem.Challenge.cw_shoreways_k01_boards_holds : PySem.Challenge.rw_shoreways_k01_boards.Holds := by
  w_on; o_law; k_head; (case hw => w_witness2)
  k_fill
  refine Sw.walk (l := PySem.Challenge.rw_shoreways_k01_boards) rfl rfl (fun w h Y => PySem.W.kIn_of Y) ?F
  case F =>
    intro w mg fa h KX G hmg
    refine' Sw.all_mk KX G hmg ?aC_Board ?aC_ShoreError ?aC_BadBoard ?a1 ?l1 ?c1 ?k1 ?a2 ?i2 ?l2 ?c2 ?k2 ?a3 ?l3 ?c3 ?k3 ?a4 ?l4 ?c4 ?k4 ?a5 ?l5 ?c5 ?k5 ?a6 ?l6 ?c6 ?k6 ?a7 ?l7 ?c7 ?k7 ?a8 ?l8 ?c8 ?k8 ?a9 ?l9 ?c9 ?k9 ?pg_Board ?hd_Board ?po_Board ?sa_Board ?mk_Board ?kc_Board ?n_Board_rows ?n_Board_height ?n_Board_width ?x_ShoreError ?k_ShoreError ?b_ShoreError ?t_ShoreError ?i_ShoreError ?x_BadBoard ?k_BadBoard ?b_BadBoard ?t_BadBoard ?i_BadBoard ?s_BadBoard_ShoreError ?s_BadBoard_BadBoard ?exn ?ext ?eg_BadBoard ?ek_BadBoard ?ed_BadBoard ?ea_BadBoard ?em_BadBoard ?sv_BadBoard_ValueError ?g_MOST ?z_len ?z_all ?z_list ?z_isinstance ?z_int ?z_bool ?z_range ?z_ValueError
    (case aC_Board => k_is)
    (case aC_ShoreError => k_is)
    (case aC_BadBoard => k_is)
    (case a1 => k_is)
    (case l1 => k_is)
    (case c1 => k_is)
    (case k1 => k_is)
    (case a2 => k_is)
    (case i2 => k_is)
    (case l2 => k_is)
    (case c2 => k_is)
    (case k2 => k_is)
    (case a3 => k_is)
    (case l3 => k_is)
    (case c3 => k_is)
    (case k3 => k_is)
    (case a4 => k_is)
    (case l4 => k_is)
    (case c4 => k_is)
    (case k4 => k_is)
    (case a5 => k_is)
    (case l5 => k_is)
    (case c5 => k_is)
    (case k5 => k_is)
    (case a6 => k_is)
    (case l6 => k_is)
    (case c6 => k_is)
    (case k6 => k_is)
    (case a7 => k_is)
    (case l7 => k_is)
    (case c7 => k_is)
    (case k7 => k_is)
    (case a8 => k_is)
    (case l8 => k_is)
    (case c8 => k_is)
    (case k8 => k_is)
    (case a9 => k_is)
    (case l9 => k_is)
    (case c9 => k_is)
    (case k9 => k_is)
    (case pg_Board => k_is)
    (case hd_Board => k_is)
    (case po_Board => k_is)
    (case sa_Board => k_is)
    (case mk_Board => k_is)
    (case kc_Board => k_is)
    (case n_Board_rows => k_is)
    (case n_Board_height => k_is)
    (case n_Board_width => k_is)
    (case x_ShoreError => k_exc)
    (case k_ShoreError => k_is)
    (case b_ShoreError => k_is)
    (case t_ShoreError => k_is)
    (case i_ShoreError => k_is)
    (case x_BadBoard => k_exc)
    (case k_BadBoard => k_is)
    (case b_BadBoard => k_is)
    (case t_BadBoard => k_is)
    (case i_BadBoard => k_is)
    (case s_BadBoard_ShoreError => first | rfl | k_is)
    (case s_BadBoard_BadBoard => first | rfl | k_is)
    (case exn => k_is)
    (case ext => k_is)
    (case eg_BadBoard => k_is)
    (case ek_BadBoard => k_is)
    (case ed_BadBoard => k_is)
    (case ea_BadBoard => k_is)
    (case em_BadBoard => k_is)
    (case sv_BadBoard_ValueError => k_is)
    (case g_MOST => k_is)
    (case z_len => k_is)
    (case z_all => k_is)
    (case z_list => k_is)
    (case z_isinstance => k_is)
    (case z_int => k_is)
    (case z_bool => k_is)
    (case z_range => k_is)
    (case z_ValueError => k_is)
#print axioms PySem.Challenge.cw_shoreways_k01_boards_holds
