import PyProof.Rows.All
import Wide.All
import OpenK.AllK
import Wide.FinOn
import HandS.HotCalls
import HandS.Zip
import HandS.TupSets
import PyProof.Rows.CountFlat
import HandS.ForMost
import HandS.ForExc
import HandS.IsInst
import HandS.Deep
import HandS.Conv
import HandS.Wide
import HandS.Evl
import HandS.ExcIs
import HandS.Walk
import PyProof.StrBlock2
import PyProof.ListStr
import KE.KIsAll
import KE.GoesMore
import KE.GoesEnum
import HandS.Style
import KE.KDictKeyed
import PySem.Challenge.RW_shoreways_k09_whole_the_walk_tells
set_option Elab.async false
set_option linter.all false
set_option maxRecDepth 100000
set_option maxHeartbeats 4000000
/-! Never both: a north road and a west road of a board can't stand together (parity of crossings). Plain Lean. -/
namespace Sw
abbrev Cell := Int × Int
def near6 (p : Cell) : List Cell := [(p.1 - 1, p.2), (p.1 - 1, p.2 + 1), (p.1, p.2 + 1), (p.1 + 1, p.2), (p.1 + 1, p.2 - 1), (p.1, p.2 - 1)]
theorem near6_iff {p q : Cell} : q ∈ near6 p ↔ (q.1 = p.1 - 1 ∧ q.2 = p.2) ∨ (q.1 = p.1 - 1 ∧ q.2 = p.2 + 1) ∨ (q.1 = p.1 ∧ q.2 = p.2 + 1) ∨ (q.1 = p.1 + 1 ∧ q.2 = p.2) ∨ (q.1 = p.1 + 1 ∧ q.2 = p.2 - 1) ∨ (q.1 = p.1 ∧ q.2 = p.2 - 1) := by
  simp only [near6, List.mem_cons, List.not_mem_nil, or_false, Prod.ext_iff]
theorem near6_symm {p q : Cell} (h : q ∈ near6 p) : p ∈ near6 q := by
  rw [near6_iff] at h ⊢
  omega
/-- a hand's sign (false: the north hand's n; true: the west hand's w), its own coordinate, its extent -/
def lt (s : Bool) : Nat := if s then 119 else 110
def sd (s : Bool) (p : Cell) : Int := if s then p.2 else p.1
def ext (s : Bool) (h w : Nat) : Int := if s then (w : Int) else (h : Int)
inductive Reach (g : Cell → Nat) (s : Bool) : Cell → Prop
  | first {p : Cell} : g p = lt s → sd s p = 0 → Reach g s p
  | next {p q : Cell} : Reach g s p → q ∈ near6 p → g q = lt s → Reach g s q
theorem Reach.sign {g : Cell → Nat} {s : Bool} {p : Cell} (h : Reach g s p) : g p = lt s := by
  cases h with
  | first a _ => exact a
  | next _ _ a => exact a
def Joined (g : Cell → Nat) (h w : Nat) (s : Bool) : Prop := ∃ p, Reach g s p ∧ sd s p = ext s h w - 1
def Sup (g : Cell → Nat) (h w : Nat) : Prop := ∀ p, g p ≠ 0 → 0 ≤ p.1 ∧ p.1 < (h : Int) ∧ 0 ≤ p.2 ∧ p.2 < (w : Int)

/-! ### parity -/
def Chn : Cell → List Cell → Prop
  | _, [] => True
  | a, b :: l => a ∈ near6 b ∧ Chn b l
def lst : Cell → List Cell → Cell
  | a, [] => a
  | _, b :: l => lst b l
def cnt (e : Cell → Cell → Bool) : Cell → List Cell → Bool
  | _, [] => false
  | a, b :: l => xor (e a b) (cnt e b l)
def lf (x p : Cell) : Bool := decide (p.1 = x.1 ∧ p.2 < x.2)
/-- an edge between row x.1 and row x.1 + d whose end in row x.1 lies left of x -/
def ed (d : Int) (x a b : Cell) : Bool := (lf x a && decide (b.1 = x.1 + d)) || (lf x b && decide (a.1 = x.1 + d))
theorem ne_cell {a x : Cell} (h : a ≠ x) : ¬ (a.1 = x.1 ∧ a.2 = x.2) := fun e => h (Prod.ext e.1 e.2)
theorem xor_dec {p q : Prop} [Decidable p] [Decidable q] {b : Bool} (h : b = true ↔ ((p ∧ ¬ q) ∨ (¬ p ∧ q))) : b = xor (decide p) (decide q) := by
  by_cases hp : p <;> by_cases hq : q <;> cases b <;> simp_all
theorem ed_iff {d : Int} {x a b : Cell} : ed d x a b = true ↔ ((a.1 = x.1 ∧ a.2 < x.2) ∧ b.1 = x.1 + d) ∨ ((b.1 = x.1 ∧ b.2 < x.2) ∧ a.1 = x.1 + d) := by
  simp only [ed, lf, Bool.or_eq_true, Bool.and_eq_true, decide_eq_true_eq]
theorem ed_tog {x a b : Cell} (h : a ∈ near6 b) (ha : a ≠ x) (hb : b ≠ x) : xor (ed (-1) x a b) (ed 1 x a b) = xor (lf x a) (lf x b) := by
  rw [near6_iff] at h
  have ha' := ne_cell ha
  have hb' := ne_cell hb
  unfold lf
  refine xor_dec ?_
  have : (xor (ed (-1) x a b) (ed 1 x a b) = true) ↔ ((ed (-1) x a b = true ∧ ¬ ed 1 x a b = true) ∨ (¬ ed (-1) x a b = true ∧ ed 1 x a b = true)) := by
    cases ed (-1) x a b <;> cases ed 1 x a b <;> decide
  rw [this, ed_iff, ed_iff]
  rcases h with h | h | h | h | h | h <;> rw [h.1] <;> omega
theorem cnt_tog {x : Cell} : ∀ (l : List Cell) (a : Cell), Chn a l → (∀ q, q ∈ a :: l → q ≠ x) → xor (cnt (ed (-1) x) a l) (cnt (ed 1 x) a l) = xor (lf x a) (lf x (lst a l))
  | [], a, _, _ => by
    show xor false false = xor (lf x a) (lf x a)
    cases lf x a <;> rfl
  | b :: l, a, h, hx => by
    have ih := cnt_tog l b h.2 (fun q hq => hx q (List.mem_cons_of_mem _ hq))
    have e := ed_tog h.1 (hx a (List.mem_cons_self)) (hx b (List.mem_cons_of_mem _ List.mem_cons_self))
    show xor (xor (ed (-1) x a b) (cnt (ed (-1) x) b l)) (xor (ed 1 x a b) (cnt (ed 1 x) b l)) = xor (lf x a) (lf x (lst b l))
    revert e ih
    generalize ed (-1) x a b = p1
    generalize ed 1 x a b = p2
    generalize cnt (ed (-1) x) b l = p3
    generalize cnt (ed 1 x) b l = p4
    generalize lf x a = p5
    generalize lf x b = p6
    generalize lf x (lst b l) = p7
    cases p1 <;> cases p2 <;> cases p3 <;> cases p4 <;> cases p5 <;> cases p6 <;> cases p7 <;> decide
theorem cnt_congr {e e' : Cell → Cell → Bool} {P : Cell → Prop} (h : ∀ a b, a ∈ near6 b → P a → P b → e a b = e' a b) : ∀ (l : List Cell) (a : Cell), Chn a l → (∀ q, q ∈ a :: l → P q) → cnt e a l = cnt e' a l
  | [], _, _, _ => rfl
  | b :: l, a, c, hp => by
    show xor (e a b) (cnt e b l) = xor (e' a b) (cnt e' b l)
    rw [h a b c.1 (hp a List.mem_cons_self) (hp b (List.mem_cons_of_mem _ List.mem_cons_self)), cnt_congr h l b c.2 (fun q hq => hp q (List.mem_cons_of_mem _ hq))]
/-- crossing from rows ≤ r to rows > r -/
theorem cnt_rows {e : Cell → Cell → Bool} {r : Int} {P : Cell → Prop} (h : ∀ a b, a ∈ near6 b → P a → P b → e a b = xor (decide (a.1 ≤ r)) (decide (b.1 ≤ r))) : ∀ (l : List Cell) (a : Cell), Chn a l → (∀ q, q ∈ a :: l → P q) → cnt e a l = xor (decide (a.1 ≤ r)) (decide ((lst a l).1 ≤ r))
  | [], a, _, _ => by
    show false = xor (decide (a.1 ≤ r)) (decide (a.1 ≤ r))
    cases decide (a.1 ≤ r) <;> rfl
  | b :: l, a, c, hp => by
    have ih := cnt_rows h l b c.2 (fun q hq => hp q (List.mem_cons_of_mem _ hq))
    show xor (e a b) (cnt e b l) = xor (decide (a.1 ≤ r)) (decide ((lst b l).1 ≤ r))
    rw [ih, h a b c.1 (hp a List.mem_cons_self) (hp b (List.mem_cons_of_mem _ List.mem_cons_self))]
    cases decide (a.1 ≤ r) <;> cases decide (b.1 ≤ r) <;> cases decide ((lst b l).1 ≤ r) <;> rfl

theorem ed_side {x y : Cell} (h : (y.1 = x.1 ∧ y.2 = x.2 + 1) ∨ (y.1 = x.1 ∧ y.2 = x.2 - 1)) (a b : Cell) (_ : a ∈ near6 b) (ha : a ≠ x ∧ a ≠ y) (hb : b ≠ x ∧ b ≠ y) : ed 1 x a b = ed 1 y a b := by
  have a1 := ne_cell ha.1
  have a2 := ne_cell ha.2
  have b1 := ne_cell hb.1
  have b2 := ne_cell hb.2
  have e1 : lf x a = lf y a := decide_eq_decide.mpr (by omega)
  have e2 : lf x b = lf y b := decide_eq_decide.mpr (by omega)
  have e3 : y.1 = x.1 := by omega
  unfold ed
  rw [e1, e2, e3]
theorem ed_down {x y : Cell} (h : (y.1 = x.1 + 1 ∧ y.2 = x.2) ∨ (y.1 = x.1 + 1 ∧ y.2 = x.2 - 1)) (a b : Cell) (hab : a ∈ near6 b) (ha : a ≠ x ∧ a ≠ y) (hb : b ≠ x ∧ b ≠ y) : ed 1 x a b = ed (-1) y a b := by
  have a1 := ne_cell ha.1
  have a2 := ne_cell ha.2
  have b1 := ne_cell hb.1
  have b2 := ne_cell hb.2
  rw [near6_iff] at hab
  rw [Bool.eq_iff_iff, ed_iff, ed_iff]
  rcases hab with q | q | q | q | q | q <;> rcases h with k | k <;> rw [q.1, k.1] <;> omega
theorem ed_up {x y : Cell} (h : (y.1 = x.1 - 1 ∧ y.2 = x.2) ∨ (y.1 = x.1 - 1 ∧ y.2 = x.2 + 1)) (a b : Cell) (hab : a ∈ near6 b) (ha : a ≠ x ∧ a ≠ y) (hb : b ≠ x ∧ b ≠ y) : ed (-1) x a b = ed 1 y a b :=
  (ed_down (x := y) (y := x) (by omega) a b hab ⟨ha.2, ha.1⟩ ⟨hb.2, hb.1⟩).symm

theorem reach_chain {g : Cell → Nat} {p : Cell} (h : Reach g false p) : ∃ l, Chn p l ∧ (∀ q, q ∈ p :: l → g q = 110 ∨ q.1 = -1) ∧ (lst p l).1 = -1 := by
  induction h with
  | @first p a b =>
    refine ⟨[(-1, p.2)], ⟨?_, trivial⟩, ?_, rfl⟩
    · have : p.1 = 0 := b
      exact near6_iff.mpr (.inr (.inr (.inr (.inl ⟨by show p.1 = -1 + 1; omega, rfl⟩))))
    · intro q hq
      rcases List.mem_cons.mp hq with rfl | hq
      · exact .inl a
      · rcases List.mem_cons.mp hq with rfl | hq
        · exact .inr rfl
        · cases hq
  | @next p q _ hn hq ih =>
    obtain ⟨l, c, m, e⟩ := ih
    refine ⟨p :: l, ⟨hn, c⟩, ?_, e⟩
    intro z hz
    rcases List.mem_cons.mp hz with rfl | hz
    · exact .inl hq
    · exact m z hz

theorem never_both {g : Cell → Nat} {h w : Nat} (S : Sup g h w) (hn : Joined g h w false) (hw : Joined g h w true) : False := by
  obtain ⟨p, hp, pe⟩ := hn
  obtain ⟨l0, c0, m0, e0⟩ := reach_chain hp
  have pe' : p.1 = (h : Int) - 1 := pe
  -- the road, and a place below
  let top : Cell := ((h : Int), p.2)
  have cc : Chn top (p :: l0) := ⟨near6_iff.mpr (.inr (.inr (.inr (.inl ⟨by show (h : Int) = p.1 + 1; omega, rfl⟩)))), c0⟩
  have mm : ∀ q, q ∈ top :: p :: l0 → (g q = 110 ∧ 0 ≤ q.1 ∧ q.1 < (h : Int) ∧ 0 ≤ q.2 ∧ q.2 < (w : Int)) ∨ q.1 = -1 ∨ q.1 = (h : Int) := by
    intro q hq
    rcases List.mem_cons.mp hq with rfl | hq
    · exact .inr (.inr rfl)
    · rcases m0 q hq with e | e
      · exact .inl ⟨e, S q (by rw [e]; decide)⟩
      · exact .inr (.inl e)
  have el : (lst top (p :: l0)).1 = -1 := e0
  -- a west stone is on no north road
  have off : ∀ x : Cell, g x = 119 → ∀ q, q ∈ top :: p :: l0 → q ≠ x := by
    intro x hx q hq e
    have sx := S x (by rw [hx]; decide)
    subst e
    rcases mm q hq with z | z | z
    · rw [hx] at z
      exact absurd z.1 (by decide)
    · omega
    · omega
  have tog : ∀ x : Cell, g x = 119 → cnt (ed (-1) x) top (p :: l0) = cnt (ed 1 x) top (p :: l0) := by
    intro x hx
    have sx := S x (by rw [hx]; decide)
    have t := cnt_tog (p :: l0) top cc (off x hx)
    have f1 : lf x top = false := decide_eq_false (by simp only [top]; omega)
    have f2 : lf x (lst top (p :: l0)) = false := decide_eq_false (by rw [el]; omega)
    rw [f1, f2] at t
    revert t
    cases cnt (ed (-1) x) top (p :: l0) <;> cases cnt (ed 1 x) top (p :: l0) <;> decide
  -- nothing crosses left of a west stone that is reached
  have key : ∀ x, Reach g true x → cnt (ed 1 x) top (p :: l0) = false := by
    intro x hx
    induction hx with
    | @first x a b =>
      have b' : x.2 = 0 := b
      have sx := S x (by rw [a]; decide)
      have := cnt_rows (e := ed 1 x) (r := (h : Int) + 1) (P := fun q => q.1 ≤ (h : Int) ∧ ((0 ≤ q.2) ∨ q.1 = -1 ∨ q.1 = (h : Int))) (fun u v huv pu pv => by
        rw [near6_iff] at huv
        have q1 : lf x u = false := decide_eq_false (by omega)
        have q2 : lf x v = false := decide_eq_false (by omega)
        unfold ed
        rw [q1, q2]
        rw [decide_eq_true (show u.1 ≤ (h : Int) + 1 by omega), decide_eq_true (show v.1 ≤ (h : Int) + 1 by omega)]
        rfl) (p :: l0) top cc (fun q hq => by
        rcases mm q hq with z | z
        · exact ⟨by omega, .inl z.2.2.2.1⟩
        · exact ⟨by omega, .inr z⟩)
      rw [this, el]
      have k1 : top.1 ≤ (h : Int) + 1 := by simp only [top]; omega
      have k2 : (-1 : Int) ≤ (h : Int) + 1 := by omega
      rw [decide_eq_true k1, decide_eq_true k2]
      rfl
    | @next x y hx hn hy ih =>
      have gx := hx.sign
      have gx' : g x = 119 := gx
      have gy' : g y = 119 := hy
      have ox := off x gx'
      have oy := off y gy'
      have cg : ∀ (d d' : Int) (u v : Cell), (∀ a b : Cell, a ∈ near6 b → (a ≠ x ∧ a ≠ y) → (b ≠ x ∧ b ≠ y) → ed d u a b = ed d' v a b) → cnt (ed d u) top (p :: l0) = cnt (ed d' v) top (p :: l0) := fun d d' u v hh =>
        cnt_congr (P := fun q => q ≠ x ∧ q ≠ y) hh (p :: l0) top cc (fun q hq => ⟨ox q hq, oy q hq⟩)
      have hn' := hn
      rw [near6_iff] at hn'
      rcases hn' with e | e | e | e | e | e
      · rw [← cg (-1) 1 x y (ed_up (.inl e)), tog x gx', ih]
      · rw [← cg (-1) 1 x y (ed_up (.inr e)), tog x gx', ih]
      · rw [← cg 1 1 x y (ed_side (.inl e)), ih]
      · rw [← tog y gy', ← cg 1 (-1) x y (ed_down (.inl e)), ih]
      · rw [← tog y gy', ← cg 1 (-1) x y (ed_down (.inr e)), ih]
      · rw [← cg 1 1 x y (ed_side (.inr e)), ih]
  obtain ⟨x, hx, xe⟩ := hw
  have xe' : x.2 = (w : Int) - 1 := xe
  have gx' : g x = 119 := hx.sign
  have sx := S x (by rw [gx']; decide)
  have k0 := key x hx
  have := cnt_rows (e := ed 1 x) (r := x.1) (P := fun q => q ≠ x ∧ ((q.2 < (w : Int)) ∨ q.1 = -1 ∨ q.1 = (h : Int))) (fun u v huv pu pv => by
    rw [near6_iff] at huv
    have hu' := ne_cell pu.1
    have hv' := ne_cell pv.1
    have pu2 := pu.2
    have pv2 := pv.2
    refine xor_dec ?_
    rw [ed_iff]
    rcases huv with q | q | q | q | q | q <;> omega) (p :: l0) top cc (fun q hq => by
    refine ⟨off x gx' q hq, ?_⟩
    rcases mm q hq with z | z
    · exact .inl z.2.2.2.2
    · exact .inr z)
  rw [this, el] at k0
  have k1 : ¬ top.1 ≤ x.1 := by simp only [top]; omega
  have k2 : (-1 : Int) ≤ x.1 := by omega
  rw [decide_eq_false k1, decide_eq_true k2] at k0
  cases k0
end Sw
/-! Helpers over the hand layer. -/
namespace Sw
open PySem PySem.Spec PyProof.Rows L2

/-! ### heaps -/
theorem same_new {H : Hp} {p : Addr} (h : H p = none) (o : HO) : Same H (upd H p o) := fun b u q => by rw [upd_ne (ne_of_none q h)]; exact q
theorem same_mut {H H' : Hp} {p : Addr} {o : HO} (e : Same H H') (h : H p = none) : Same H (upd H' p o) := fun a u ha => by
  rw [upd_ne (ne_of_none ha h)]
  exact e a u ha
theorem same_seqT {K : PySem.W.Frag} {H H' : Hp} {a : Addr} {xs : List V} (e : Same H H') (h : SqT K H a xs) : SqT K H' a xs := by
  rcases h with (h | ⟨o, h⟩) | h
  · exact .inl (.inl (e _ _ h))
  · exact .inl (.inr ⟨o, e _ _ h⟩)
  · exact .inr h
/-- tuples stay -/
def Tps (H H' : Hp) : Prop := ∀ a xs, H a = some (.tup xs) → H' a = some (.tup xs)
theorem Tps.refl (H : Hp) : Tps H H := fun _ _ h => h
theorem Tps.trans {H H1 H2 : Hp} (a : Tps H H1) (b : Tps H1 H2) : Tps H H2 := fun x o h => b x o (a x o h)
theorem Tps.of {H H' : Hp} (s : Same H H') : Tps H H' := fun a xs h => s a _ h
theorem Tps.lst {H : Hp} {l : Addr} {ys : List V} {o : HO} (h : H l = some (.lst ys)) : Tps H (upd H l o) := fun a xs e => by
  rw [upd_ne (ne_of e h (by intro z; cases z))]
  exact e
theorem Tps.dT {H : Hp} {l : Addr} {ys : List (List Key × V)} {o : HO} (h : H l = some (.dT ys)) : Tps H (upd H l o) := fun a xs e => by
  rw [upd_ne (ne_of e h (by intro z; cases z))]
  exact e
mutual
theorem dp_same {K : PySem.W.Frag} {H H' : Hp} (s : Same H H') : ∀ {d : PyData} {v : V}, Dp K H v d → Dp K H' v d
  | _, _, .non => .non
  | _, _, .bl b => .bl b
  | _, _, .int i => .int i
  | _, _, .str x => .str x
  | _, _, .lst h a => .lst (s.seq h) (dpa_same s a)
  | _, _, .tup h a => .tup (same_seqT s h) (dpa_same s a)
theorem dpa_same {K : PySem.W.Frag} {H H' : Hp} (s : Same H H') : ∀ {ds : List PyData} {vs : List V}, DpAll K H vs ds → DpAll K H' vs ds
  | _, _, .nil => .nil
  | _, _, .cons h t => .cons (dp_same s h) (dpa_same s t)
end
theorem dpa_app {K : PySem.W.Frag} {H : Hp} : ∀ {vs ws : List V} {ds es : List PyData}, DpAll K H vs ds → DpAll K H ws es → DpAll K H (vs ++ ws) (ds ++ es)
  | _, _, _, _, .nil, h => h
  | _, _, _, _, .cons a b, h => .cons a (dpa_app b h)
theorem dpa_len {K : PySem.W.Frag} {H : Hp} : ∀ {vs : List V} {ds : List PyData}, DpAll K H vs ds → vs.length = ds.length
  | _, _, .nil => rfl
  | _, _, .cons _ b => by rw [List.length_cons, List.length_cons, dpa_len b]
theorem hu65 {k : Nat} {A : Around} (r : Room k A) : A.units + 65 < cLine := by have := r.un; omega

/-! ### cells: tuples of two ints -/
def cellV (c : Cell) : List V := [.int c.1, .int c.2]
def cellD (c : Cell) : PyData := .tuple [.int c.1, .int c.2]
inductive Cells (H : Hp) : List V → List Cell → Prop
  | nil : Cells H [] []
  | cons {a : Addr} {c : Cell} {vs : List V} {cs : List Cell} : H a = some (.tup (cellV c)) → Cells H vs cs → Cells H (.ref a :: vs) (c :: cs)
theorem Cells.tps {H H' : Hp} (s : Tps H H') : ∀ {vs : List V} {cs : List Cell}, Cells H vs cs → Cells H' vs cs
  | _, _, .nil => .nil
  | _, _, .cons h t => .cons (s _ _ h) (Cells.tps s t)
theorem Cells.same {H H' : Hp} (s : Same H H') {vs : List V} {cs : List Cell} (h : Cells H vs cs) : Cells H' vs cs := h.tps (.of s)
theorem Cells.len {H : Hp} : ∀ {vs : List V} {cs : List Cell}, Cells H vs cs → vs.length = cs.length
  | _, _, .nil => rfl
  | _, _, .cons _ t => by rw [List.length_cons, List.length_cons, Cells.len t]
theorem Cells.get {H : Hp} : ∀ {vs : List V} {cs : List Cell} {i : Nat} {x : V}, Cells H vs cs → vs[i]? = some x → ∃ a c, x = .ref a ∧ cs[i]? = some c ∧ H a = some (.tup (cellV c))
  | _, _, _, _, .nil, e => by simp at e
  | _, _, 0, _, .cons h _, e => by
    simp at e
    subst e
    exact ⟨_, _, rfl, rfl, h⟩
  | _, _, i + 1, _, .cons _ t, e => Cells.get (i := i) t (by simpa using e)
theorem Cells.at {H : Hp} : ∀ {vs : List V} {cs : List Cell} {i : Nat} {c : Cell}, Cells H vs cs → cs[i]? = some c → ∃ a, vs[i]? = some (.ref a) ∧ H a = some (.tup (cellV c))
  | _, _, _, _, .nil, e => by simp at e
  | _, _, 0, _, .cons h _, e => by
    simp at e
    subst e
    exact ⟨_, rfl, h⟩
  | _, _, i + 1, _, .cons _ t, e => Cells.at (i := i) t (by simpa using e)
theorem Cells.app {H : Hp} : ∀ {vs ws : List V} {cs ds : List Cell}, Cells H vs cs → Cells H ws ds → Cells H (vs ++ ws) (cs ++ ds)
  | _, _, _, _, .nil, h => h
  | _, _, _, _, .cons a b, h => .cons a (Cells.app b h)
theorem Cells.one {H : Hp} {a : Addr} {c : Cell} (h : H a = some (.tup (cellV c))) : Cells H [.ref a] [c] := .cons h .nil
theorem cell_dp {K : PySem.W.Frag} {H : Hp} {a : Addr} {c : Cell} (h : H a = some (.tup (cellV c))) : Dp K H (.ref a) (cellD c) := .tup (.inl (.inl h)) (.cons (.int _) (.cons (.int _) .nil))
theorem Cells.dp {K : PySem.W.Frag} {H : Hp} : ∀ {vs : List V} {cs : List Cell}, Cells H vs cs → DpAll K H vs (cs.map cellD)
  | _, _, .nil => .nil
  | _, _, .cons h t => .cons (cell_dp h) (Cells.dp t)
theorem can_cells : ∀ cs : List Cell, PyData.canLayAll0 (cs.map cellD) = true
  | [] => rfl
  | c :: cs => by
    rw [List.map_cons, PyData.canLayAll0, can_cells cs]
    rfl
theorem dep_cells : ∀ cs : List Cell, PyData.depthAll (cs.map cellD) ≤ 1
  | [] => by decide
  | c :: cs => by
    have h := dep_cells cs
    rw [List.map_cons, PyData.depthAll]
    have e : (cellD c).depth = 1 := rfl
    rw [e]
    omega
theorem shaped_cells (cs : List Cell) : SeqAt.shaped (.list (cs.map cellD)) = true := by
  unfold SeqAt.shaped
  have h := dep_cells cs
  rw [show (PyData.list (cs.map cellD)).canLay0 = PyData.canLayAll0 (cs.map cellD) from rfl, can_cells]
  have : (PyData.list (cs.map cellD)).depth ≤ 64 := by
    rw [PyData.depth]
    omega
  rw [decide_eq_true this]
  rfl
theorem shaped_cell (c : Cell) : SeqAt.shaped (cellD c) = true := rfl
theorem eqv_cells (cs : List Cell) : PyData.eqv (.list (cs.map cellD)) (.list (cs.map cellD)) = true := SeqAt.eqv_refl _ (can_cells cs)
theorem eqv_cell (c d : Cell) : PyData.eqv (cellD c) (cellD d) = decide (c = d) := by
  show (c.1 == d.1 && (c.2 == d.2 && true)) = decide (c = d)
  rw [Bool.eq_iff_iff]
  simp [Prod.ext_iff]
theorem any_cells (c : Cell) (cs : List Cell) : ((cs.map cellD).any fun z => PyData.eqv z (cellD c)) = decide (c ∈ cs) := by
  rw [Bool.eq_iff_iff, List.any_eq_true, decide_eq_true_eq]
  constructor
  · rintro ⟨x, hx, e⟩
    obtain ⟨d, hd, rfl⟩ := List.mem_map.mp hx
    rw [eqv_cell, decide_eq_true_eq] at e
    exact e ▸ hd
  · intro h
    exact ⟨cellD c, List.mem_map.mpr ⟨c, h, rfl⟩, by rw [eqv_cell, decide_eq_true rfl]⟩
/-- items of a mapped list -/
theorem map_get {α β : Type} {f : α → β} {l : List α} {i : Nat} {y : β} (h : (l.map f)[i]? = some y) : ∃ x, l[i]? = some x ∧ f x = y := by
  rw [List.getElem?_map] at h
  cases e : l[i]? with
  | none => rw [e] at h; cases h
  | some z => rw [e] at h; exact ⟨z, rfl, Option.some.inj h⟩
theorem get_lt {α : Type} {l : List α} {i : Nat} {y : α} (h : l[i]? = some y) : i < l.length := (List.getElem?_eq_some_iff.mp h).1
theorem atI_cps {α : Type} {l : List α} {k : Int} {v : α} (h0 : 0 ≤ k) (h : l[k.toNat]? = some v) : atI l k = some v := by
  have e : k = ((k.toNat : Nat) : Int) := by omega
  rw [e]
  exact atI_nat h
theorem at_int {l : List V} {k : Int} {v : V} (h0 : 0 ≤ k) (h : l[k.toNat]? = some v) : atI l k = some v := at_of (j := k.toNat) (by omega) h
theorem near6_get (r c : Int) (i : Nat) (p : Cell) (h : (near6 (r, c))[i]? = some p) : (r, c) ∈ near6 p := near6_symm (List.mem_of_getElem? h)
theorem sz0 : ([] : List V).length ≤ sizeLine := by show 0 ≤ sizeLine; decide
theorem sz1 {a : V} : [a].length ≤ sizeLine := by show 1 ≤ sizeLine; decide
theorem sz2 {a b : V} : [a, b].length ≤ sizeLine := by show 2 ≤ sizeLine; decide
theorem sz3 {a b c : V} : [a, b, c].length ≤ sizeLine := by show 3 ≤ sizeLine; decide
theorem sz4 {a b c d : V} : [a, b, c, d].length ≤ sizeLine := by show 4 ≤ sizeLine; decide
theorem sz5 {a b c d e : V} : [a, b, c, d, e].length ≤ sizeLine := by show 5 ≤ sizeLine; decide
theorem sz6 {a b c d e f : V} : [a, b, c, d, e, f].length ≤ sizeLine := by show 6 ≤ sizeLine; decide
theorem sz_le {n : Nat} (h : n ≤ 1000000) : n ≤ sizeLine := Nat.le_trans h (by decide)
theorem sz_lt {n : Nat} (h : n < 1000000) : n < sizeLine := Nat.lt_of_lt_of_le h (by decide)
theorem iteB {b : Bool} {A B : Prop} (h1 : b = true → A) (h2 : b = false → B) : if b = true then A else B := by
  cases b with
  | true => exact iteT (h1 rfl)
  | false => exact iteF (h2 rfl)
theorem iteD {p : Prop} [Decidable p] {A B : Prop} (h1 : p → A) (h2 : ¬ p → B) : if decide p = true then A else B :=
  iteB (fun h => h1 (of_decide_eq_true h)) (fun h => h2 (of_decide_eq_false h))
theorem iteN {p : Prop} [Decidable p] {A B : Prop} (h1 : ¬ p → A) (h2 : p → B) : if (!decide p) = true then A else B := by
  by_cases h : p
  · rw [decide_eq_true h]
    exact iteF (h2 h)
  · rw [decide_eq_false h]
    exact iteT (h1 h)
theorem iteNB {b : Bool} {A B : Prop} (h1 : b = false → A) (h2 : b = true → B) : if (!b) = true then A else B := by
  cases b with
  | true => exact iteF (h2 rfl)
  | false => exact iteT (h1 rfl)
theorem tn {f : L2.St → Hp → Prop} {r : VK} {b c : L2.St → Hp → Prop} {σ : L2.St} {H : Hp} (h : f σ H) : tNext ⟨f, r, b, c⟩ σ H := h
theorem gn {i : Nat} {v : V} {f : L2.St → Hp → Prop} {r : VK} {b c : L2.St → Hp → Prop} {σ : L2.St} {H : Hp} (h : f (σ.set i (some v)) H) : gName i v σ H (Ends.nx ⟨f, r, b, c⟩) := h
/-! ### cuts: what an expression is worth, said once -/
theorem qa {i : Nat} {te : TE} {tz : TS} {D : Ends} {σ : L2.St} {H : Hp} (Pr : V → Hp → Prop) (h : ∀ Q : VK, (∀ v H1, Pr v H1 → Q v H1) → te σ H Q) (k : ∀ v H1, Pr v H1 → tz D (σ.set i (some v)) H1) : tSeq (tAsg te (gName i)) tz D σ H := h _ k
theorem qe {te : TE} {σ : L2.St} {H : Hp} {Q : VK} (Pr : V → Hp → Prop) (h : ∀ Q : VK, (∀ v H1, Pr v H1 → Q v H1) → te σ H Q) (k : ∀ v H1, Pr v H1 → Q v H1) : te σ H Q := h _ k
/-- a new list of the cells cs stands at v -/
def NewCells (H : Hp) (cs : List Cell) (v : V) (H' : Hp) : Prop := ∃ (p : Addr) (ws : List V), v = .ref p ∧ H p = none ∧ Same H H' ∧ H' p = some (.lst ws) ∧ Cells H' ws cs
theorem new_six {H : Hp} {r c : Int} {t1 t2 t3 t4 t5 t6 p : Addr} {H1 H2 H3 H4 H5 H6 : Hp} (e1 : H1 = upd H t1 (.tup (cellV (r - 1, c)))) (e2 : H2 = upd H1 t2 (.tup (cellV (r - 1, c + 1)))) (e3 : H3 = upd H2 t3 (.tup (cellV (r, c + 1)))) (e4 : H4 = upd H3 t4 (.tup (cellV (r + 1, c))))
    (e5 : H5 = upd H4 t5 (.tup (cellV (r + 1, c - 1)))) (e6 : H6 = upd H5 t6 (.tup (cellV (r, c - 1)))) (h1 : H t1 = none) (h2 : H1 t2 = none) (h3 : H2 t3 = none) (h4 : H3 t4 = none) (h5 : H4 t5 = none) (h6 : H5 t6 = none) (hp : H6 p = none) :
    NewCells H (near6 (r, c)) (.ref p) (upd H6 p (.lst [.ref t1, .ref t2, .ref t3, .ref t4, .ref t5, .ref t6])) := by
  subst e1 e2 e3 e4 e5 e6
  have s1 := same_new h1 (.tup (cellV (r - 1, c)))
  have s2 := same_new h2 (.tup (cellV (r - 1, c + 1)))
  have s3 := same_new h3 (.tup (cellV (r, c + 1)))
  have s4 := same_new h4 (.tup (cellV (r + 1, c)))
  have s5 := same_new h5 (.tup (cellV (r + 1, c - 1)))
  have s6 := same_new h6 (.tup (cellV (r, c - 1)))
  have s7 := same_new hp (.lst [.ref t1, .ref t2, .ref t3, .ref t4, .ref t5, .ref t6])
  refine ⟨p, _, rfl, (s1.trans (s2.trans (s3.trans (s4.trans (s5.trans s6))))).free hp, s1.trans (s2.trans (s3.trans (s4.trans (s5.trans (s6.trans s7))))), upd_same, ?_⟩
  exact .cons (s7 _ _ (s6 _ _ (s5 _ _ (s4 _ _ (s3 _ _ (s2 _ _ upd_same)))))) (.cons (s7 _ _ (s6 _ _ (s5 _ _ (s4 _ _ (s3 _ _ upd_same))))) (.cons (s7 _ _ (s6 _ _ (s5 _ _ (s4 _ _ upd_same)))) (.cons (s7 _ _ (s6 _ _ (s5 _ _ upd_same))) (.cons (s7 _ _ (s6 _ _ upd_same)) (.cons (s7 _ _ upd_same) .nil)))))
end Sw
/-! Further rules over the hand layer: a text times a number, an own object made within a try, isinstance of what a suite holds, .. -/
namespace Sw
open PySem PySem.Spec PyProof.Rows L2
section
variable {X : Cx}
/-- text * number, both small -/
def rMulS : R2 := fun x y Hh Q => ∃ (z : Str) (k : Int), x = .str z ∧ y = .int k ∧ z.length ≤ 1000 ∧ -1000 ≤ k ∧ k ≤ 1000 ∧ Q (.str (Txt.mul z k)) Hh
theorem op_mul_str : OpR X (binaryOp .Mult) rMulS := by
  intro pins s σ Hh x y v u Q I rx ry hh
  obtain ⟨z, k, rfl, rfl, hz, h1, h2, q⟩ := hh
  obtain ⟨t, rfl⟩ := rx
  obtain ⟨t', rfl⟩ := ry
  refine SB.mul ⟨?_, fun a _ => ?_, fun a _ => ?_⟩ (fun t2 tk => ⟨.str (Txt.mul z k), Hh, I.tok _, ⟨_, rfl⟩, q⟩)
  · rw [decide_eq_false (show ¬ k < -(2 ^ 63 : Int) by omega), decide_eq_false (show ¬ k ≥ 2 ^ 63 by omega)]
    rfl
  · have : (1000 : Int) ≤ (2 ^ 63 - 1) / k := by
      rw [Int.le_ediv_iff_mul_le (by omega)]
      omega
    omega
  · have e : z.length * k.toNat ≤ 1000 * 1000 := Nat.mul_le_mul hz (by omega)
    show decide (z.length * k.toNat > sizeLine) = false
    refine decide_eq_false ?_
    have : (1000 * 1000 : Nat) ≤ sizeLine := by decide
    omega
/-- list(text) -/
def rListStr : List V → Hp → VK → Prop := fun xs Hh Q => ∃ z : Str, xs = [.str z] ∧ z.length ≤ 1000 ∧ ∀ l, Hh l = none → Q (.ref l) (upd Hh l (.lst (z.cps.toList.map fun c => V.str ⟨#[c]⟩)))
end

/-! ### C(e, ..) of an own class within a try: what __init__ raises is wished for at the slots as they stand -/
section
variable {X : Cx} {CX : CXT} {k : Nat} {f C : Addr} {fd : FuncData} {ps : List Str} {sp : Sp} {E : L2.St → XK} {x : Str} {p pos : Pos} {e : Expr} {es : List Expr} {t : TA}
theorem run_makeS {pins : List (Addr × Obj)} {σ : L2.St} {H : Hp} {s : Shared} {Q : VK} {us : List Value} {vs : List V}
    (M : Mk X.K C f) (F : FnOk X.prog X.w X.K X.mg X.base CX k f fd ps sp) (hr : Room (k + 1) X.A)
    (hb : Binds X.K fd ps []) (hx : PassesAt CX X σ (E σ)) (I : Inv X pins σ H s) (r : Vals vs us)
    (h : ∀ o d, H o = none → H d = none → d ≠ o → sp (.ref o :: vs) (upd (upd H d (.own o)) o (.ins C d [])) (fun v H2 => v = .non ∧ Q (.ref o) H2) (E σ)) :
    wpAny (model X.prog X.w) X.A (call (.ref C) us) (EP X pins σ Q) X.xe s := by
  have hq := h (s.heap.objs.size + 1) s.heap.objs.size (I.hok.fresh (Nat.le_succ _)) (I.hok.fresh (Nat.le_refl _)) (Nat.ne_of_lt (Nat.lt_succ_self _))
  have J := Inv.made (C := C) I
  have rr : Vals (V.ref (s.heap.objs.size + 1) :: vs) (Value.ref (s.heap.objs.size + 1) :: us) := .cons rfl r
  have hl : (Value.ref (s.heap.objs.size + 1) :: us).length = ps.length := by
    have e := rr.length
    rw [F.len _ _ _ _ hq] at e
    exact e.symm
  have bb := hb _ (Value.ref (s.heap.objs.size + 1) :: us) J.kIn (by rw [List.append_nil]; exact hl)
  rw [List.append_nil] at bb
  refine wpAny_call (make_map (f := f) I.kIn M.makes M.init (beq_iff_eq.mp M.fn) (codeAny_mono (F.run _ X.stack _ _ ⟨Value.ref (s.heap.objs.size + 1) :: us, []⟩ (Value.ref (s.heap.objs.size + 1) :: us) _ _ (E σ)
    (hr.make C us []) (J.env0.make C us []) bb rr hq) fun res s' g => ?_))
  cases res with
  | error e => exact hx pins _ _ e s' J g
  | ok fl =>
    cases fl with
    | ret u =>
      obtain ⟨v, H', J3, rv, ev, q3⟩ := J.after g
      subst ev
      exact ⟨rv, ⟨V.ref (s.heap.objs.size + 1), H', J3, rfl, q3⟩⟩
    | next => exact g.elim
    | brk => exact g.elim
    | cont => exact g.elim
def tMakeS (C : Addr) (sp : Sp) (E : L2.St → XK) (t : TA) : TE := fun σ H Q => t σ H fun vs H1 => ∀ o d, H1 o = none → H1 d = none → d ≠ o →
  sp (.ref o :: vs) (upd (upd H1 d (.own o)) o (.ins C d [])) (fun v H2 => v = .non ∧ Q (.ref o) H2) (E σ)
theorem pe_makeS (M : Mk X.K C f) (F : FnOk X.prog X.w X.K X.mg X.base CX k f fd ps sp) (hr : Room (k + 1) X.A) (hg : Gl X x) (hm : X.mg x = some (.ref C)) (hb : Binds X.K fd ps []) (hx : ∀ σ, PassesAt CX X σ (E σ))
    (ha : PA X (e :: es) t) (hdb : (x == ("__debug__" : Str)) = false := by decide) (hst : starEach (e :: es) X.env = (false, eval e X.env) :: starEach es X.env := by rfl) (hpl : (backTo pos (starEach es X.env)).any (·.1) = false := by rfl) :
    PE X (.Call (.Name x p) (e :: es) [] pos) (tMakeS C sp E t) := by
  refine ⟨fun pins s σ H Q I h => wpAny_Call_Name_kw (ld_glob I hg hm ?_ hdb)⟩
  refine PySem.W.callWith_K (h₀ := X.base) I.ok.mod.kin M.kp (thn (ha.run pos pins s σ H _ I h) fun us s1 ⟨vs, H1, I1, r, q⟩ => ⟨I1.kIn, run_makeS M F hr hb (hx σ) I1 r q⟩) hst hpl
end

/-! ### does an except clause of the class C take an error of the class cls -/
theorem exm_of {K : PySem.W.Frag} {C : Addr} {cls : Value} {b : Bool} (h1 : PySem.W.subIn K (.ref C) (.type "BaseException") = some true) (h2 : PySem.W.isClsIn K C = true)
    (h3 : PySem.W.typeIn K (.ref C) = some (.type "type")) (h4 : PySem.W.subIn K cls (.ref C) = some b) : PySem.W.exmOne K cls (.ref C) = some b := by
  have e2 : (PySem.W.clsIn K C).isSome = true := h2
  unfold PySem.W.exmOne PySem.W.kitCls
  simp only [h1, e2, h3, h4]
  rfl
/-! ### isinstance of an own error, by the classes' facts -/
theorem kit_ownT {K : PySem.W.Frag} {t : Value} {C : Addr} (h2 : PySem.W.isClsIn K C = true) (h3 : PySem.W.typeIn K (.ref C) = some (.type "type")) (h4 : PySem.W.subIn K t (.ref C) = some true) : PySem.W.kitOne K t (.ref C) = some true := by
  have e2 : (PySem.W.clsIn K C).isSome = true := h2
  unfold PySem.W.kitOne PySem.W.kitCls
  simp [e2, h3, h4]
theorem kit_ownF {K : PySem.W.Frag} {a C : Addr} (h2 : PySem.W.isClsIn K C = true) (h3 : PySem.W.typeIn K (.ref C) = some (.type "type")) (h4 : PySem.W.subIn K (.ref a) (.ref C) = some false) (h5 : PySem.W.subIn K (.ref C) (.ref C) = some true) :
    PySem.W.kitOne K (.ref a) (.ref C) = some false := by
  have e2 : (PySem.W.clsIn K C).isSome = true := h2
  have ne : a ≠ C := by
    intro z
    rw [z, h5] at h4
    cases h4
  have ne' : (Value.ref a == Value.ref C) = false := by
    rw [beq_eq_false_iff_ne]
    intro z
    exact ne (Value.ref.inj z)
  unfold PySem.W.kitOne PySem.W.kitCls
  simp [e2, h3, h4, ne']
theorem kit_self {K : PySem.W.Frag} {v : Value} : PySem.W.kitOne K v v = some true := by
  unfold PySem.W.kitOne
  rw [if_pos (beq_self_eq_true v)]
theorem kit_typ {K : PySem.W.Frag} {a : Addr} {T : String} {b : Bool} (h1 : PySem.W.kitMeta T = true) (h4 : PySem.W.subIn K (.ref a) (.type T) = some b) : PySem.W.kitOne K (.ref a) (.type T) = some b := by
  unfold PySem.W.kitOne PySem.W.kitCls
  have ne' : (Value.ref a == Value.type T) = false := by
    rw [beq_eq_false_iff_ne]
    intro z
    cases z
  simp [h1, h4, ne']
/-! ### isinstance of what an except suite holds -/
section
variable {X : Cx}
def rIsX (K : PySem.W.Frag) (a : Addr) (cls : Value) (d : Option Addr) : List V → Hp → VK → Prop := fun xs H Q => ∃ D : Addr, cls = .ref D ∧ d = none ∧ ExcC K D ∧ rIsE K D a xs H Q
theorem call_isX {a : Addr} {oe : Obj} {cls : Value} {d : Option Addr} {pn : List (Addr × Obj)} (hz : Zc cls d oe) (hf : ∃ vs, oe.data = .fields vs) :
    CallR (X.suite a ((a, oe) :: pn)) (.builtin "isinstance") (rIsX X.K a cls d) := by
  intro pins s σ H xs us Q I r h
  obtain ⟨D, rfl, rfl, C, h⟩ := h
  exact call_isE C hz hf pins s σ H xs us Q I r h
theorem call_isXK {K : PySem.W.Frag} {a : Addr} {oe : Obj} {cls : Value} {d : Option Addr} {pn : List (Addr × Obj)} (hK : X.K = K) (hz : Zc cls d oe) (hf : ∃ vs, oe.data = .fields vs) :
    CallR (X.suite a ((a, oe) :: pn)) (.builtin "isinstance") (rIsX K a cls d) := by
  subst hK
  exact call_isX hz hf
theorem pe_fldK {K : PySem.W.Frag} {e : Expr} {ta : TE} {f : Str} {pos : Pos} (hK : X.K = K) (he : PE X e ta) (hb : attributeBase e f X.env (eval e X.env) = eval e X.env) : PE X (.Attribute e f pos) (tFld K ta f) := by
  subst hK
  exact pe_fld he hb
theorem ix_listK {K : PySem.W.Frag} (hK : X.K = K) : IxR X (rIxL K) := by
  subst hK
  exact ix_list
theorem ix_tupK {K : PySem.W.Frag} (hK : X.K = K) : IxR X (rIxT K) := by
  subst hK
  exact ix_tup
theorem op_neDK {K : PySem.W.Frag} (hK : X.K = K) (hu : X.A.units + 64 < cLine) : OpR X (compareOp .NotEq) (rNeD K) := by
  subst hK
  exact op_neD hu
theorem op_inDK {K : PySem.W.Frag} (hK : X.K = K) (hu : X.A.units + 65 < cLine) : OpR X (compareOp .In) (rInD K) := by
  subst hK
  exact op_inD hu
theorem op_notInDK {K : PySem.W.Frag} (hK : X.K = K) (hu : X.A.units + 65 < cLine) : OpR X (compareOp .NotIn) (rNotInD K) := by
  subst hK
  exact op_notInD hu
theorem op_eqDK {K : PySem.W.Frag} (hK : X.K = K) (hu : X.A.units + 64 < cLine) : OpR X (compareOp .Eq) (rEqD K) := by
  subst hK
  exact op_eqD hu
end
end Sw
/-! Boards as lists of lists of signs' codes, and how they stand in the heap. -/
namespace Sw
open PySem PySem.Spec PyProof.Rows L2
/-! ### texts -/
def txt (l : List Nat) : Str := ⟨l.toArray⟩
theorem txt_cps (l : List Nat) : (txt l).cps.toList = l := rfl
theorem txt_len (l : List Nat) : (txt l).length = l.length := by
  show l.toArray.size = l.length
  rw [List.size_toArray]
theorem txt_app (a b : List Nat) : txt a ++ txt b = txt (a ++ b) := ext_toList (by
  show (a.toArray ++ b.toArray).toList = (a ++ b)
  rw [Array.toList_append])
theorem txt_inj {a b : List Nat} (h : txt a = txt b) : a = b := by
  have := congrArg (fun z : Str => z.cps.toList) h
  exact this
theorem s_n : (Str.ofString "n") = txt [110] := by decide +kernel
theorem s_w : (Str.ofString "w") = txt [119] := by decide +kernel
theorem s_dot : (Str.ofString ".") = txt [46] := by decide +kernel
theorem s_nw : (Str.ofString "nw") = txt [110, 119] := by decide +kernel
theorem s_wn : (Str.ofString "wn") = txt [119, 110] := by decide +kernel
theorem s_nwd : (Str.ofString "nw.") = txt [110, 119, 46] := by decide +kernel
theorem s_nil : (Str.ofString "") = txt [] := by decide +kernel
theorem mul_txt (c : Nat) (k : Int) : Txt.mul (txt [c]) k = txt (List.replicate k.toNat c) := by
  unfold Txt.mul
  by_cases h1 : k < 1
  · rw [if_pos h1]
    have : k.toNat = 0 := by omega
    rw [this]
    rfl
  · rw [if_neg h1]
    by_cases h2 : k = 1
    · subst h2
      rfl
    · have e : (k == 1 || (txt [c]).length == 0) = false := by
        rw [txt_len]
        simp [h2]
      rw [e, if_neg Bool.false_ne_true]
      refine ext_toList ?_
      show (List.foldl (fun a b => a ++ b) #[] (List.replicate k.toNat #[c])).toList = List.replicate k.toNat c
      have gen : ∀ (m : Nat) (acc : Array Nat), (List.foldl (fun a b => a ++ b) acc (List.replicate m #[c])).toList = acc.toList ++ List.replicate m c := by
        intro m
        induction m with
        | zero => intro acc; simp
        | succ m ih =>
          intro acc
          rw [List.replicate_succ, List.foldl_cons, ih, Array.toList_append, List.replicate_succ, List.append_assoc]
          rfl
      rw [gen]
      rfl
theorem cutS_to {l : List Nat} {k : Int} (h0 : 0 ≤ k) (h : k ≤ l.length) : cutS (txt l) none (some k) = txt (l.take k.toNat) := by
  refine ext_toList ?_
  show ((l.drop 0).take ((if k < 0 then (k + ((txt l).length : Int)).toNat else min k.toNat (txt l).length) - 0)) = l.take k.toNat
  rw [if_neg (by omega), txt_len, List.drop_zero, Nat.sub_zero, Nat.min_eq_left (by omega)]
theorem cutS_from {l : List Nat} {k : Int} (h0 : 0 ≤ k) (h : k ≤ l.length) : cutS (txt l) (some k) none = txt (l.drop k.toNat) := by
  refine ext_toList ?_
  show ((l.drop (if k < 0 then (k + ((txt l).length : Int)).toNat else min k.toNat (txt l).length)).take ((txt l).length - (if k < 0 then (k + ((txt l).length : Int)).toNat else min k.toNat (txt l).length))) = l.drop k.toNat
  rw [if_neg (by omega), txt_len, Nat.min_eq_left (by omega)]
  rw [List.take_of_length_le (by rw [List.length_drop]; omega)]
theorem cutV_to {l : List V} {k : Int} (h0 : 0 ≤ k) (h : k ≤ l.length) : cutV l none (some k) = l.take k.toNat := by
  show ((l.drop 0).take ((if k < 0 then (k + (l.length : Int)).toNat else min k.toNat l.length) - 0)) = l.take k.toNat
  rw [if_neg (by omega), List.drop_zero, Nat.sub_zero, Nat.min_eq_left (by omega)]
theorem cutV_from {l : List V} {k : Int} (h0 : 0 ≤ k) (h : k ≤ l.length) : cutV l (some k) none = l.drop k.toNat := by
  show ((l.drop (if k < 0 then (k + (l.length : Int)).toNat else min k.toNat l.length)).take (l.length - (if k < 0 then (k + (l.length : Int)).toNat else min k.toNat l.length))) = l.drop k.toNat
  rw [if_neg (by omega), Nat.min_eq_left (by omega), List.take_of_length_le (by rw [List.length_drop]; omega)]

/-! ### boards -/
abbrev Bd := List (List Nat)
def rowV (l : List Nat) : V := .str (txt l)
def rowsV (B : Bd) : List V := B.map rowV
theorem rowsV_len (B : Bd) : (rowsV B).length = B.length := List.length_map _
theorem rowsV_get {B : Bd} {i : Nat} {r : List Nat} (h : B[i]? = some r) : (rowsV B)[i]? = some (rowV r) := by
  unfold rowsV
  rw [List.getElem?_map, h]
  rfl
theorem rowsV_inv {B : Bd} {i : Nat} {x : V} (h : (rowsV B)[i]? = some x) : ∃ r, B[i]? = some r ∧ x = rowV r := by
  obtain ⟨r, h1, h2⟩ := map_get h
  exact ⟨r, h1, h2.symm⟩
def okc (c : Nat) : Bool := decide (c ∈ [110, 119, 46])
/-- how wide: the first row's length -/
def wid (B : Bd) : Nat := (B.headD []).length
def rowOk (w : Nat) (r : List Nat) : Bool := decide (r.length = w) && r.all okc
def Good (B : Bd) : Bool := decide (1 ≤ B.length ∧ B.length ≤ 9) && (decide (1 ≤ wid B ∧ wid B ≤ 9) && B.all (rowOk (wid B)))
structure IsB (B : Bd) (h w : Nat) : Prop where
  hh : B.length = h
  ww : ∀ r ∈ B, r.length = w
  ok : ∀ r ∈ B, ∀ c ∈ r, c = 110 ∨ c = 119 ∨ c = 46
  h1 : 1 ≤ h
  h9 : h ≤ 9
  w1 : 1 ≤ w
  w9 : w ≤ 9
theorem okc_iff (c : Nat) : okc c = true ↔ c = 110 ∨ c = 119 ∨ c = 46 := by
  unfold okc
  rw [decide_eq_true_eq]
  simp
theorem IsB.wid {B : Bd} {h w : Nat} (I : IsB B h w) : wid B = w := by
  cases B with
  | nil =>
    have := I.hh
    have := I.h1
    simp only [List.length_nil] at *
    omega
  | cons r B => exact I.ww r List.mem_cons_self
theorem IsB.good {B : Bd} {h w : Nat} (I : IsB B h w) : Good B = true := by
  unfold Good
  rw [I.wid, I.hh, decide_eq_true ⟨I.h1, I.h9⟩, decide_eq_true ⟨I.w1, I.w9⟩, Bool.true_and, Bool.true_and, List.all_eq_true]
  intro r hr
  unfold rowOk
  rw [decide_eq_true (I.ww r hr), Bool.true_and, List.all_eq_true]
  intro c hc
  exact (okc_iff c).mpr (I.ok r hr c hc)
theorem good_is {B : Bd} (h : Good B = true) : IsB B B.length (wid B) := by
  unfold Good at h
  rw [Bool.and_eq_true, Bool.and_eq_true, decide_eq_true_eq, decide_eq_true_eq, List.all_eq_true] at h
  obtain ⟨⟨a1, a2⟩, ⟨b1, b2⟩, c⟩ := h
  have c1 : ∀ r ∈ B, r.length = wid B ∧ ∀ x ∈ r, okc x = true := by
    intro r hr
    have := c r hr
    unfold rowOk at this
    rw [Bool.and_eq_true, decide_eq_true_eq, List.all_eq_true] at this
    exact this
  exact ⟨rfl, fun r hr => (c1 r hr).1, fun r hr x hx => (okc_iff x).mp ((c1 r hr).2 x hx), a1, a2, b1, b2⟩
/-- small enough for the heap's line -/
structure Small (B : Bd) : Prop where
  len : B.length ≤ 1000
  row : ∀ r ∈ B, r.length ≤ 1000
  cod : ∀ r ∈ B, ∀ c ∈ r, c < 1000
theorem IsB.small {B : Bd} {h w : Nat} (I : IsB B h w) : Small B := ⟨by have := I.hh; have := I.h9; omega, fun r hr => by have := I.ww r hr; have := I.w9; omega, fun r hr c hc => by have := I.ok r hr c hc; omega⟩
/-- a row of the board at place i -/
theorem IsB.row {B : Bd} {h w : Nat} (I : IsB B h w) {i : Nat} (hi : i < h) : ∃ r, B[i]? = some r ∧ r.length = w := by
  have : i < B.length := by rw [I.hh]; exact hi
  exact ⟨B[i], List.getElem?_eq_getElem this, I.ww _ (List.getElem_mem this)⟩

/-! ### data -/
def rowsD (B : Bd) : PyData := .list (B.map fun r => PyData.str (txt r))
theorem rows_dpa {K : PySem.W.Frag} {H : Hp} : ∀ B : Bd, DpAll K H (rowsV B) (B.map fun r => PyData.str (txt r))
  | [] => .nil
  | r :: B => .cons (.str _) (rows_dpa B)
theorem rows_dp {K : PySem.W.Frag} {H : Hp} {a : Addr} {B : Bd} (h : H a = some (.lst (rowsV B))) : Dp K H (.ref a) (rowsD B) := .lst (SqL.of h) (rows_dpa B)
theorem can_txt {r : List Nat} (h : ∀ c ∈ r, c < 1000) : (PyData.str (txt r)).canLay0 = true := by
  show (r.toArray.all fun c => decide (c < 0x110000)) = true
  rw [List.all_toArray, List.all_eq_true]
  intro c hc
  exact decide_eq_true (by have := h c hc; omega)
theorem can_rows : ∀ B : Bd, (∀ r ∈ B, ∀ c ∈ r, c < 1000) → PyData.canLayAll0 (B.map fun r => PyData.str (txt r)) = true
  | [], _ => rfl
  | r :: B, h => by
    rw [List.map_cons, PyData.canLayAll0, can_rows B (fun x hx => h x (List.mem_cons_of_mem _ hx)), can_txt (h r List.mem_cons_self)]
    rfl
theorem dep_rows : ∀ B : Bd, PyData.depthAll (B.map fun r => PyData.str (txt r)) ≤ 1
  | [] => by decide
  | r :: B => by
    have h := dep_rows B
    rw [List.map_cons, PyData.depthAll]
    have e : (PyData.str (txt r)).depth = 0 := rfl
    rw [e]
    omega
theorem shaped_rows {B : Bd} (hB : Small B) : SeqAt.shaped (rowsD B) = true := by
  unfold SeqAt.shaped rowsD
  have h := dep_rows B
  rw [show (PyData.list (B.map fun r => PyData.str (txt r))).canLay0 = PyData.canLayAll0 (B.map fun r => PyData.str (txt r)) from rfl, can_rows B hB.cod]
  have : (PyData.list (B.map fun r => PyData.str (txt r))).depth ≤ 64 := by
    rw [PyData.depth]
    omega
  rw [decide_eq_true this]
  rfl
theorem eqv_rows {B : Bd} (hB : Small B) : PyData.eqv (rowsD B) (rowsD B) = true := SeqAt.eqv_refl _ (can_rows B hB.cod)

/-! ### a Board in the heap -/
def bfl (l : Addr) (h w : Int) : List (Str × V) := [("rows", .ref l), ("height", .int h), ("width", .int w)]
theorem lk_h {k : Str} {v : V} {r : List (Str × V)} : List.lookup k ((k, v) :: r) = some v := by
  simp only [List.lookup, beq_self_eq_true k]
theorem lk_p {k g : Str} {v : V} {r : List (Str × V)} (h : (k == g) = false) : List.lookup k ((g, v) :: r) = List.lookup k r := by
  simp only [List.lookup, h]
theorem pt_p {f g : Str} {v x : V} {r : List (Str × V)} (h : ¬ g = f) : putF f v ((g, x) :: r) = (g, x) :: putF f v r := if_neg h
theorem bfl_rows (l : Addr) (h w : Int) : (bfl l h w).lookup ("rows" : Str) = some (.ref l) := lk_h
theorem bfl_height (l : Addr) (h w : Int) : (bfl l h w).lookup ("height" : Str) = some (.int h) := (lk_p (by decide +kernel)).trans lk_h
theorem bfl_width (l : Addr) (h w : Int) : (bfl l h w).lookup ("width" : Str) = some (.int w) := (lk_p (by decide +kernel)).trans ((lk_p (by decide +kernel)).trans lk_h)
theorem bfl_has (l : Addr) (h w : Int) : (bfl l h w).lookup ("has" : Str) = none := (lk_p (by decide +kernel)).trans ((lk_p (by decide +kernel)).trans ((lk_p (by decide +kernel)).trans rfl))
theorem bfl_new (l : Addr) (h w : Int) : putF "width" (.int w) (putF "height" (.int h) (putF "rows" (.ref l) [])) = bfl l h w := by
  show putF "width" (.int w) (putF "height" (.int h) [("rows", .ref l)]) = _
  rw [pt_p (by decide +kernel)]
  show putF "width" (.int w) [("rows", .ref l), ("height", .int h)] = _
  rw [pt_p (by decide +kernel), pt_p (by decide +kernel)]
  rfl
/-- a Board of the rows B stands at p, its list at l -/
structure BoardAt (C : Addr) (H : Hp) (p l : Addr) (B : Bd) : Prop where
  ob : ∃ dx, H p = some (.ins C dx (bfl l B.length (wid B)))
  ls : H l = some (.lst (rowsV B))
theorem BoardAt.same {C : Addr} {H H' : Hp} {p l : Addr} {B : Bd} (b : BoardAt C H p l B) (s : Same H H') : BoardAt C H' p l B := by
  obtain ⟨⟨dx, h1⟩, h2⟩ := b
  exact ⟨⟨dx, s _ _ h1⟩, s _ _ h2⟩
end Sw
/-! for i, c in enumerate(text): the turns, the rule. -/
namespace Sw
open PySem PySem.Spec PyProof.Rows L2
/-- the signs of x with their places, in new pairs -/
def ItEs (x : Str) : It := ⟨fun i _ => i < x.cps.size, fun i H v H' => ∃ (T : Addr) (c : Nat), v = .ref T ∧ H T = none ∧ H' = upd H T (.tup [.int (i : Nat), .str ⟨#[c]⟩]) ∧ x.cps[i]? = some c, fun i _ => i = x.cps.size⟩
theorem turn_enumS {P : Program} {w : World} {K : PySem.W.Frag} {elts : List Expr} {kk : Nat} {tpos : Pos} (x : Str) (t : Tok) (e it : Addr) :
    Turn P w K (.Tuple elts kk tpos) (ItEs x) [e, it] e (fun i h => (∃ old, IsEnum h e it ((i : Nat) : Int) old) ∧ h.IsStrIter it (strIterType x) x t i ∧ e ≠ it) where
  mem := List.mem_cons_self
  obj := fun i h st b hb => by
    obtain ⟨⟨old, he⟩, ⟨o, ho, hc, hd⟩, _⟩ := st
    rcases List.mem_cons.mp hb with z | z
    · rw [z]
      exact ⟨_, he, fun v q => nomatch q⟩
    · rw [List.mem_singleton.mp z]
      exact ⟨o, ho, fun v q => by rw [hd] at q; cases q⟩
  keep := fun i h h' st k => by
    obtain ⟨⟨old, he⟩, ⟨o, ho, r⟩, hne⟩ := st
    exact ⟨⟨old, k e List.mem_cons_self _ he⟩, ⟨o, k it (List.mem_cons_of_mem _ List.mem_cons_self) o ho, r⟩, hne⟩
  item := by
    intro X hP hw hK hc i pins s σ H E I hf st hg
    subst hP hw hK
    obtain ⟨⟨old, he⟩, hit, hne⟩ := st
    have hel : e < s.heap.objs.size := Heap.lt_size he
    have hil : it < s.heap.objs.size := by obtain ⟨_, q, _⟩ := hit; exact Heap.lt_size q
    have hef : e ∉ [it] := fun z => hne (List.mem_singleton.mp z)
    refine wpAny_pyNext_enum_itemD (fp := [it]) (Draws.text (A := X.A.in1) (prog := X.prog) (w := X.w) (I.ok.hd hc) it x t) he hit hg hne hef fun v h' tk hv ho hit' hT hsz hk => ?_
    obtain ⟨c, u, hcx, rfl⟩ := hv
    refine ⟨_, rfl, wpAny_letOwnedTupleGo_enum (s := { s with heap := h', toks := tk + 1 }) ho fun h'' he' sb => ?_⟩
    have hT2 : h''.get? s.heap.objs.size = some { cls := .type "tuple", data := .seq #[.int i tk, .str ⟨#[c]⟩ u] } := (sb.2 _ (Nat.ne_of_gt hel)).trans hT
    have new : ObjOk X.prog X.w (upd H s.heap.objs.size (.tup [.int (i : Nat), .str ⟨#[c]⟩])) h'' s.heap.objs.size (.tup [.int (i : Nat), .str ⟨#[c]⟩]) := by
      refine ⟨by show 2 ≤ sizeLine; decide, [.int i tk, .str ⟨#[c]⟩ u], .cons ⟨_, rfl⟩ (.cons ⟨_, rfl⟩ .nil), ?_⟩
      exact ⟨_, hT2, rfl, _, rfl⟩
    have same : ∀ b ob, b ∉ [e, it] → s.heap.get? b = some ob → h''.get? b = some ob := by
      intro b ob hb q
      have n1 : b ≠ e := fun z => hb (by rw [z]; exact List.mem_cons_self)
      have n2 : b ≠ it := fun z => hb (by rw [z]; exact List.mem_cons_of_mem _ List.mem_cons_self)
      exact (sb.2 b n1).trans (hk b ob n1 n2 q)
    have I1 : Inv X pins σ (upd H s.heap.objs.size (.tup [.int (i : Nat), .str ⟨#[c]⟩])) { s with heap := h'', toks := tk + 1 } := I.turnedNew (ch := [e, it]) same hf (Nat.le_refl _) new
    refine ⟨.ref s.heap.objs.size, _, I1, rfl, ⟨_, c, rfl, I.hok.fresh (Nat.le_refl _), rfl, hcx⟩, ⟨⟨.str ⟨#[c]⟩ u, ?_⟩, ?_, hne⟩, fun b hb => ?_⟩
    · have e1 : ((i + 1 : Nat) : Int) = (i : Int) + 1 := by omega
      rw [e1]
      exact he'
    · obtain ⟨o, q, r⟩ := hit'
      exact ⟨o, (sb.2 it (Ne.symm hne)).trans q, r⟩
    · have hb' : b < s.heap.objs.size := by
        rcases List.mem_cons.mp hb with z | z
        · rw [z]; exact hel
        · rw [List.mem_singleton.mp z]; exact hil
      rw [upd_ne (Nat.ne_of_lt hb')]
      exact (hf b hb).1
  done := by
    intro X hP hw hK hc i pins s σ H E I hf st hg
    subst hP hw hK
    obtain ⟨⟨old, he⟩, hit, hne⟩ := st
    obtain ⟨f0, f1, f2, f3, f4, f5⟩ := hf it (List.mem_cons_of_mem _ List.mem_cons_self)
    have hi : i = x.cps.size := hg
    subst hi
    exact wpAny_pyNext_enum_endD (fp := [it]) (Draws.text (A := X.A.in1) (prog := X.prog) (w := X.w) (I.ok.hd hc) it x t) he hit fun h' eb => ⟨rfl, I.turned (t' := s.toks) (fun b o hb q => eb b o hb q) f0 f1 f3 f4 f5⟩
  self := fun A i s Q E st h => by
    obtain ⟨⟨_, he⟩, _⟩ := st
    exact wpAny_pyIter_enum he h
def iEnumS (ta : TA) : TI := fun σ H R => ta σ H fun vs H1 => ∃ x, vs = [.str x] ∧ R (ItEs x) H1
theorem pi_enumS {X : Cx} {e : Expr} {ta : TA} {p pos tpos : Pos} {elts : List Expr} {kk : Nat} (hg : Gl X "enumerate") (hm : X.mg "enumerate" = none) (ha : PA X [e] ta)
    (hst : starEach [e] X.env = [(false, eval e X.env)] := by rfl) : PI X (.Tuple elts kk tpos) (.Call (.Name "enumerate" p) [e] [] pos) (iEnumS ta) := by
  refine ⟨fun pins s σ H R I h => ?_⟩
  refine Call_ (ld_blt I hg hm boot_enumerate (PyProof.Rows.callWith_type1 (thn (ha.run pos pins s σ H _ I h) fun us s1 ⟨vs, H1, I1, r1, q1⟩ => ?_) hst rfl))
  obtain ⟨x, ex, q⟩ := q1
  subst ex
  cases r1 with
  | cons r rr =>
    cases rr
    obtain ⟨t, rfl⟩ := r
    refine call_enumerate_str fun h' he hit hsz hk => wpAny_pyIter_enum he ?_
    have J : Inv X pins σ H1 { s1 with heap := h' } := I1.kept (t' := s1.toks) hk
    refine ⟨s1.heap.objs.size + 1, [s1.heap.objs.size + 1, s1.heap.objs.size], _, _, H1, rfl, J, turn_enumS x t (s1.heap.objs.size + 1) s1.heap.objs.size, ⟨⟨.none, he⟩, hit, Nat.succ_ne_self _⟩, fun b hb => ?_, q⟩
    have hle : s1.heap.objs.size ≤ b := by
      rcases List.mem_cons.mp hb with z | z
      · rw [z]; exact Nat.le_succ _
      · rw [List.mem_singleton.mp z]; exact Nat.le_refl _
    exact I1.fpOk hle (I1.hok.fresh hle)
theorem walk_enumS {x : Str} : Walk (ItEs x) x.cps.size (fun _ => True) (fun i H v H' => ∃ (T : Addr) (c : Nat), v = .ref T ∧ H T = none ∧ H' = upd H T (.tup [.int (i : Nat), .str ⟨#[c]⟩]) ∧ x.cps[i]? = some c) :=
  ⟨fun _ _ hi _ => hi, fun _ _ => rfl, fun _ _ _ _ _ _ y => y⟩
end Sw
/-! What lies on a cell; a stone laid; a board turned over; the empty cells. Plain lists. -/
namespace Sw
def cel (B : Bd) (p : Cell) : Nat := if 0 ≤ p.1 ∧ 0 ≤ p.2 then (((B[p.1.toNat]?).getD [])[p.2.toNat]?).getD 0 else 0
def Ins (h w : Nat) (p : Cell) : Prop := 0 ≤ p.1 ∧ p.1 < (h : Int) ∧ 0 ≤ p.2 ∧ p.2 < (w : Int)
instance (h w : Nat) (p : Cell) : Decidable (Ins h w p) := inferInstanceAs (Decidable (_ ∧ _))
theorem cel_row {B : Bd} {p : Cell} {r : List Nat} (h0 : 0 ≤ p.1) (h1 : 0 ≤ p.2) (hr : B[p.1.toNat]? = some r) : cel B p = (r[p.2.toNat]?).getD 0 := by
  unfold cel
  rw [if_pos ⟨h0, h1⟩, hr]
  rfl
/-- on the board -/
theorem IsB.at {B : Bd} {h w : Nat} (I : IsB B h w) {p : Cell} (hp : Ins h w p) : ∃ r, B[p.1.toNat]? = some r ∧ r ∈ B ∧ r.length = w ∧ r[p.2.toNat]? = some (cel B p) ∧ (cel B p = 110 ∨ cel B p = 119 ∨ cel B p = 46) := by
  obtain ⟨a, b, c, d⟩ := hp
  obtain ⟨r, er, lr⟩ := I.row (i := p.1.toNat) (by omega)
  have hl : p.2.toNat < r.length := by omega
  have mr : r ∈ B := List.mem_of_getElem? er
  have e : cel B p = r[p.2.toNat] := by
    rw [cel_row a c er, List.getElem?_eq_getElem hl]
    rfl
  refine ⟨r, er, mr, lr, ?_, ?_⟩
  · rw [e, List.getElem?_eq_getElem hl]
  · rw [e]
    exact I.ok r mr _ (List.getElem_mem hl)
/-- off the board nothing lies -/
theorem IsB.off {B : Bd} {h w : Nat} (I : IsB B h w) {p : Cell} (hp : ¬ Ins h w p) : cel B p = 0 := by
  unfold cel
  by_cases h0 : 0 ≤ p.1 ∧ 0 ≤ p.2
  · rw [if_pos h0]
    cases e : B[p.1.toNat]? with
    | none => rfl
    | some r =>
      have lr := I.ww r (List.mem_of_getElem? e)
      have h1 : p.1.toNat < B.length := (List.getElem?_eq_some_iff.mp e).1
      rw [I.hh] at h1
      show (r[p.2.toNat]?).getD 0 = 0
      rw [List.getElem?_eq_none (by
        rw [lr]
        unfold Ins at hp
        omega)]
      rfl
  · rw [if_neg h0]
theorem IsB.sup {B : Bd} {h w : Nat} (I : IsB B h w) : Sup (cel B) h w := fun p hp => by
  by_cases e : Ins h w p
  · exact ⟨e.1, e.2.1, e.2.2.1, e.2.2.2⟩
  · exact absurd (I.off e) hp
theorem IsB.ins {B : Bd} {h w : Nat} (I : IsB B h w) {p : Cell} (hp : cel B p ≠ 0) : Ins h w p := by
  by_cases e : Ins h w p
  · exact e
  · exact absurd (I.off e) hp

/-! ### a stone laid -/
def putB (B : Bd) (p : Cell) (x : Nat) : Bd := B.set p.1.toNat (((B[p.1.toNat]?).getD []).set p.2.toNat x)
theorem set_take_drop {α : Type} (l : List α) (i : Nat) (x : α) (h : i < l.length) : l.take i ++ [x] ++ l.drop (i + 1) = l.set i x := by
  rw [List.set_eq_take_append_cons_drop, if_pos h, List.append_assoc]
  rfl
theorem putB_eq {B : Bd} {p : Cell} {r : List Nat} {x : Nat} (hr : B[p.1.toNat]? = some r) : putB B p x = B.set p.1.toNat (r.set p.2.toNat x) := by
  unfold putB
  rw [hr]
  rfl
theorem putB_is {B : Bd} {h w : Nat} (I : IsB B h w) (p : Cell) {x : Nat} (hx : x = 110 ∨ x = 119 ∨ x = 46) : IsB (putB B p x) h w := by
  refine ⟨?_, fun r hr => ?_, fun r hr c hc => ?_, I.h1, I.h9, I.w1, I.w9⟩
  · unfold putB
    rw [List.length_set, I.hh]
  · rcases List.mem_or_eq_of_mem_set hr with hr | rfl
    · exact I.ww r hr
    · rw [List.length_set]
      cases e : B[p.1.toNat]? with
      | none =>
        have hl : B.length ≤ p.1.toNat := List.getElem?_eq_none_iff.mp e
        unfold putB at hr
        rw [List.set_eq_of_length_le hl, e] at hr
        have := I.ww _ hr
        rw [List.length_set] at this
        exact this
      | some r => exact I.ww r (List.mem_of_getElem? e)
  · rcases List.mem_or_eq_of_mem_set hr with hr | rfl
    · exact I.ok r hr c hc
    · rcases List.mem_or_eq_of_mem_set hc with hc | rfl
      · cases e : B[p.1.toNat]? with
        | none => rw [e] at hc; cases hc
        | some r => rw [e] at hc; exact I.ok r (List.mem_of_getElem? e) c hc
      · exact hx
theorem cel_put {B : Bd} {h w : Nat} (I : IsB B h w) {p : Cell} (hp : Ins h w p) (x : Nat) (q : Cell) : cel (putB B p x) q = if q = p then x else cel B q := by
  obtain ⟨r, er, mr, lr, el, _⟩ := I.at hp
  obtain ⟨a, b, c, d⟩ := hp
  have hl : p.1.toNat < B.length := by rw [I.hh]; omega
  rw [putB_eq er]
  unfold cel
  by_cases e0 : 0 ≤ q.1 ∧ 0 ≤ q.2
  · rw [if_pos e0, if_pos e0, List.getElem?_set]
    by_cases e1 : p.1.toNat = q.1.toNat
    · rw [if_pos e1, if_pos hl]
      show ((r.set p.2.toNat x)[q.2.toNat]?).getD 0 = _
      rw [List.getElem?_set]
      by_cases e2 : p.2.toNat = q.2.toNat
      · rw [if_pos e2, if_pos (by omega), if_pos (Prod.ext (by omega) (by omega))]
        rfl
      · rw [if_neg e2, if_neg (fun z => e2 (by rw [z])), ← e1, er]
        rfl
    · rw [if_neg e1, if_neg (fun z => e1 (by rw [z]))]
  · rw [if_neg e0, if_neg e0, if_neg (fun z => e0 (by rw [z]; exact ⟨a, c⟩))]

/-! ### turned over -/
def oth (c : Nat) : Nat := if c = 110 then 119 else if c = 119 then 110 else c
theorem oth_ok {c : Nat} (h : c = 110 ∨ c = 119 ∨ c = 46) : oth c = 110 ∨ oth c = 119 ∨ oth c = 46 := by
  rcases h with rfl | rfl | rfl <;> decide
theorem oth_oth {c : Nat} (h : c = 110 ∨ c = 119 ∨ c = 46) : oth (oth c) = c := by
  rcases h with rfl | rfl | rfl <;> decide
def tcol (B : Bd) (c : Nat) : List Nat := B.map fun r => oth (r.getD c 0)
def tov (B : Bd) (w : Nat) : Bd := (List.range w).map (tcol B)
theorem tcol_ok {B : Bd} {h w : Nat} (I : IsB B h w) {c : Nat} (hc : c < w) : ∀ x ∈ tcol B c, x = 110 ∨ x = 119 ∨ x = 46 := by
  intro x hx
  obtain ⟨r, hr, rfl⟩ := List.mem_map.mp hx
  have hl : c < r.length := by rw [I.ww r hr]; exact hc
  rw [List.getD_eq_getElem?_getD, List.getElem?_eq_getElem hl]
  exact oth_ok (I.ok r hr _ (List.getElem_mem hl))
theorem tov_is {B : Bd} {h w : Nat} (I : IsB B h w) : IsB (tov B w) w h := by
  refine ⟨by unfold tov; rw [List.length_map, List.length_range], fun r hr => ?_, fun r hr c hc => ?_, I.w1, I.w9, I.h1, I.h9⟩
  · obtain ⟨c, _, rfl⟩ := List.mem_map.mp hr
    unfold tcol
    rw [List.length_map, I.hh]
  · obtain ⟨k, hk, rfl⟩ := List.mem_map.mp hr
    exact tcol_ok I (List.mem_range.mp hk) c hc
theorem tov_get {B : Bd} {w c : Nat} (hc : c < w) : (tov B w)[c]? = some (tcol B c) := by
  unfold tov
  rw [List.getElem?_map, List.getElem?_range hc]
  rfl
theorem cel_tov {B : Bd} {h w : Nat} (I : IsB B h w) {p : Cell} (hp : Ins h w p) : cel (tov B w) (p.2, p.1) = oth (cel B p) := by
  obtain ⟨r, er, mr, lr, el, _⟩ := I.at hp
  obtain ⟨a, b, c, d⟩ := hp
  rw [cel_row (r := tcol B p.2.toNat) (p := (p.2, p.1)) c a (tov_get (by omega))]
  show ((tcol B p.2.toNat)[p.1.toNat]?).getD 0 = _
  unfold tcol
  rw [List.getElem?_map, er]
  show oth (r.getD p.2.toNat 0) = _
  rw [List.getD_eq_getElem?_getD, el]
  rfl

/-! ### the empty cells, by rows -/
def rowE (y : Nat) (r : List Nat) : List Cell := ((List.range r.length).filter fun c => decide (r.getD c 0 = 46)).map fun c : Nat => ((y : Int), (c : Int))
def rowEt (y : Nat) (r : List Nat) (j : Nat) : List Cell := ((List.range j).filter fun c => decide (r.getD c 0 = 46)).map fun c : Nat => ((y : Int), (c : Int))
theorem rowEt_yes {y : Nat} {r : List Nat} {j : Nat} (h : r.getD j 0 = 46) : rowEt y r (j + 1) = rowEt y r j ++ [((y : Int), (j : Int))] := by
  unfold rowEt
  rw [List.range_succ, List.filter_append, List.filter_cons, if_pos (decide_eq_true h), List.map_append]
  rfl
theorem rowEt_no {y : Nat} {r : List Nat} {j : Nat} (h : ¬ r.getD j 0 = 46) : rowEt y r (j + 1) = rowEt y r j := by
  unfold rowEt
  rw [List.range_succ, List.filter_append, List.filter_cons, if_neg (fun z => h (of_decide_eq_true z))]
  show ((_ ++ []).map _) = _
  rw [List.append_nil]
theorem rowEt_len (y : Nat) (r : List Nat) (j : Nat) : (rowEt y r j).length ≤ j := by
  unfold rowEt
  rw [List.length_map]
  have := List.length_filter_le (fun c => decide (r.getD c 0 = 46)) (List.range j)
  rw [List.length_range] at this
  exact this
def emptyTo (B : Bd) (n : Nat) : List Cell := (List.range n).flatMap fun y => rowE y (B.getD y [])
def emptyL (B : Bd) : List Cell := emptyTo B B.length
theorem emptyTo_succ (B : Bd) (n : Nat) : emptyTo B (n + 1) = emptyTo B n ++ rowE n (B.getD n []) := by
  unfold emptyTo
  rw [List.range_succ, List.flatMap_append]
  show _ ++ (rowE n (B.getD n []) ++ []) = _
  rw [List.append_nil]
theorem rowE_len (y : Nat) (r : List Nat) : (rowE y r).length ≤ r.length := by
  unfold rowE
  rw [List.length_map]
  have := List.length_filter_le (fun c => decide (r.getD c 0 = 46)) (List.range r.length)
  rw [List.length_range] at this
  exact this
theorem emptyTo_len {B : Bd} {h w : Nat} (I : IsB B h w) : ∀ n, n ≤ h → (emptyTo B n).length ≤ n * w
  | 0, _ => by
    show 0 ≤ _
    omega
  | n + 1, hn => by
    have ih := emptyTo_len I n (by omega)
    rw [emptyTo_succ, List.length_append]
    obtain ⟨r, er, lr⟩ := I.row (i := n) (by omega)
    have e : B.getD n [] = r := by rw [List.getD_eq_getElem?_getD, er]; rfl
    have := rowE_len n r
    rw [e, Nat.add_mul]
    omega
theorem mem_rowE {y : Nat} {r : List Nat} {p : Cell} : p ∈ rowE y r ↔ p.1 = (y : Int) ∧ 0 ≤ p.2 ∧ r[p.2.toNat]? = some 46 := by
  unfold rowE
  rw [List.mem_map]
  constructor
  · rintro ⟨c, hc, rfl⟩
    rw [List.mem_filter, List.mem_range, decide_eq_true_eq] at hc
    refine ⟨rfl, by show (0 : Int) ≤ (c : Int); omega, ?_⟩
    show r[((c : Nat) : Int).toNat]? = some 46
    rw [Int.toNat_natCast]
    have h2 := hc.2
    rw [List.getD_eq_getElem?_getD, List.getElem?_eq_getElem hc.1] at h2
    rw [List.getElem?_eq_getElem hc.1]
    exact congrArg some h2
  · rintro ⟨a, b, c⟩
    have hl : p.2.toNat < r.length := (List.getElem?_eq_some_iff.mp c).1
    refine ⟨p.2.toNat, ?_, Prod.ext (by show (y : Int) = p.1; omega) (by show ((p.2.toNat : Nat) : Int) = p.2; omega)⟩
    rw [List.mem_filter, List.mem_range, decide_eq_true_eq]
    refine ⟨hl, ?_⟩
    rw [List.getD_eq_getElem?_getD, c]
    rfl
theorem mem_emptyL {B : Bd} {p : Cell} : p ∈ emptyL B ↔ cel B p = 46 := by
  unfold emptyL emptyTo
  rw [List.mem_flatMap]
  constructor
  · rintro ⟨y, hy, hp⟩
    obtain ⟨a, b, c⟩ := mem_rowE.mp hp
    rw [List.mem_range] at hy
    have e : B[p.1.toNat]? = some (B.getD y []) := by
      rw [a, Int.toNat_natCast, List.getD_eq_getElem?_getD, List.getElem?_eq_getElem hy]
      rfl
    rw [cel_row (by omega) b e, c]
    rfl
  · intro h
    unfold cel at h
    by_cases e0 : 0 ≤ p.1 ∧ 0 ≤ p.2
    · rw [if_pos e0] at h
      cases e : B[p.1.toNat]? with
      | none => rw [e] at h; cases h
      | some r =>
        rw [e] at h
        have hl : p.1.toNat < B.length := (List.getElem?_eq_some_iff.mp e).1
        refine ⟨p.1.toNat, List.mem_range.mpr hl, mem_rowE.mpr ⟨by omega, e0.2, ?_⟩⟩
        rw [List.getD_eq_getElem?_getD, e]
        have h' : (r[p.2.toNat]?).getD 0 = 46 := h
        show r[p.2.toNat]? = some 46
        cases e2 : r[p.2.toNat]? with
        | none => rw [e2] at h'; cases h'
        | some c => rw [e2] at h'; exact congrArg some h'
    · rw [if_neg e0] at h
      cases h
end Sw
/-! Roads: what a search keeps true, when it has found one, when there is none. Plain lists. -/
namespace Sw
/-! ### counting -/
theorem nodup_lt : ∀ (n : Nat) (l : List Nat), l.Nodup → (∀ x ∈ l, x < n) → l.length ≤ n
  | 0, l, _, h => by
    cases l with
    | nil => exact Nat.le_refl _
    | cons a l => exact absurd (h a List.mem_cons_self) (Nat.not_lt_zero _)
  | n + 1, l, hn, h => by
    by_cases e : n ∈ l
    · have h1 := List.length_erase_of_mem e
      have ih := nodup_lt n (l.erase n) (hn.erase n) (fun x hx => by
        have hx' := (hn.mem_erase_iff).mp hx
        have := h x hx'.2
        have := hx'.1
        omega)
      have : 0 < l.length := List.length_pos_of_mem e
      omega
    · have := nodup_lt n l hn (fun x hx => by
        have := h x hx
        have : x ≠ n := fun z => e (z ▸ hx)
        omega)
      omega
theorem nodup_map {α β : Type} {f : α → β} : ∀ {l : List α}, l.Nodup → (∀ x ∈ l, ∀ y ∈ l, f x = f y → x = y) → (l.map f).Nodup
  | [], _, _ => List.nodup_nil
  | a :: l, h, k => by
    rw [List.map_cons, List.nodup_cons]
    rw [List.nodup_cons] at h
    refine ⟨fun hm => ?_, nodup_map h.2 (fun x hx y hy => k x (List.mem_cons_of_mem _ hx) y (List.mem_cons_of_mem _ hy))⟩
    obtain ⟨b, hb, e⟩ := List.mem_map.mp hm
    have := k b (List.mem_cons_of_mem _ hb) a List.mem_cons_self e
    exact h.1 (this ▸ hb)
theorem nodup_rect {h w : Nat} {l : List Cell} (hn : l.Nodup) (hi : ∀ c ∈ l, Ins h w c) : l.length ≤ h * w := by
  have key : ∀ c : Cell, Ins h w c → c.1.toNat * w + c.2.toNat < h * w := by
    intro c hc
    obtain ⟨a, b, d, e⟩ := hc
    have h1 : c.1.toNat + 1 ≤ h := by omega
    have h2 : (c.1.toNat + 1) * w ≤ h * w := Nat.mul_le_mul_right w h1
    rw [Nat.add_mul, Nat.one_mul] at h2
    omega
  have := nodup_lt (h * w) (l.map fun c => c.1.toNat * w + c.2.toNat) (nodup_map hn fun x hx y hy e => by
    obtain ⟨x1, x2, x3, x4⟩ := hi x hx
    obtain ⟨y1, y2, y3, y4⟩ := hi y hy
    have w0 : 0 < w := by omega
    have e1 : (x.1.toNat * w + x.2.toNat) / w = (y.1.toNat * w + y.2.toNat) / w := by rw [e]
    rw [Nat.mul_comm x.1.toNat w, Nat.mul_comm y.1.toNat w, Nat.mul_add_div w0, Nat.mul_add_div w0, Nat.div_eq_of_lt (by omega), Nat.div_eq_of_lt (by omega)] at e1
    have e2 : x.1.toNat = y.1.toNat := by omega
    rw [e2] at e
    exact Prod.ext (by omega) (by omega)) (fun x hx => by
    obtain ⟨c, hc, rfl⟩ := List.mem_map.mp hx
    exact key c (hi c hc))
  rw [List.length_map] at this
  exact this

/-! ### a way from the first shore to a cell -/
inductive Rd (g : Cell → Nat) (s : Bool) : List Cell → Cell → Prop
  | one {c : Cell} : g c = lt s → sd s c = 0 → Rd g s [c] c
  | snoc {l : List Cell} {c d : Cell} : Rd g s l c → d ∈ near6 c → g d = lt s → d ∉ l → Rd g s (l ++ [d]) d
section
variable {g : Cell → Nat} {s : Bool} {h w : Nat}
theorem Rd.reach {l : List Cell} {c : Cell} (r : Rd g s l c) : Reach g s c := by
  induction r with
  | one a b => exact .first a b
  | snoc _ n a _ ih => exact .next ih n a
theorem Rd.last {l : List Cell} {c : Cell} (r : Rd g s l c) : ∃ l', l = l' ++ [c] := by
  cases r with
  | one _ _ => exact ⟨[], rfl⟩
  | @snoc l' _ _ _ _ _ _ => exact ⟨l', rfl⟩
theorem Rd.pos {l : List Cell} {c : Cell} (r : Rd g s l c) : 0 < l.length := by
  obtain ⟨l', rfl⟩ := r.last
  rw [List.length_append]
  exact Nat.succ_pos _
theorem Rd.get_last {l : List Cell} {c : Cell} (r : Rd g s l c) : l[l.length - 1]? = some c := by
  obtain ⟨l', rfl⟩ := r.last
  rw [List.length_append, List.getElem?_append_right (by simp)]
  simp
theorem Rd.nodup {l : List Cell} {c : Cell} (r : Rd g s l c) : l.Nodup := by
  induction r with
  | one _ _ => exact List.nodup_cons.mpr ⟨by simp, List.nodup_nil⟩
  | snoc _ _ _ n ih =>
    rw [List.nodup_append]
    refine ⟨ih, List.nodup_cons.mpr ⟨by simp, List.nodup_nil⟩, ?_⟩
    intro a ha b hb
    rw [List.mem_singleton] at hb
    rw [hb]
    intro e
    exact n (e ▸ ha)
theorem Rd.signs {l : List Cell} {c : Cell} (r : Rd g s l c) : ∀ x ∈ l, g x = lt s := by
  induction r with
  | one a _ =>
    intro x hx
    rw [List.mem_singleton.mp hx]
    exact a
  | snoc _ _ a _ ih =>
    intro x hx
    rcases List.mem_append.mp hx with hx | hx
    · exact ih x hx
    · rw [List.mem_singleton.mp hx]
      exact a
theorem Rd.head {l : List Cell} {c : Cell} (r : Rd g s l c) : ∃ a, l[0]? = some a ∧ sd s a = 0 := by
  induction r with
  | one _ b => exact ⟨_, rfl, b⟩
  | snoc r _ _ _ ih =>
    obtain ⟨a, e, k⟩ := ih
    exact ⟨a, by rw [List.getElem?_append_left r.pos]; exact e, k⟩
theorem Rd.near {l : List Cell} {c : Cell} (r : Rd g s l c) : ∀ (k : Nat) (a b : Cell), l[k]? = some a → l[k + 1]? = some b → b ∈ near6 a := by
  induction r with
  | one _ _ =>
    intro k a b _ h2
    simp at h2
  | @snoc l c d r n _ _ ih =>
    intro k a b h1 h2
    by_cases hk : k + 1 < l.length
    · rw [List.getElem?_append_left hk] at h2
      rw [List.getElem?_append_left (by omega)] at h1
      exact ih k a b h1 h2
    · have hl : k + 1 = l.length := by
        have := (List.getElem?_eq_some_iff.mp h2).1
        rw [List.length_append] at this
        simp at this
        omega
      rw [List.getElem?_append_right (by omega)] at h2
      have e2 : b = d := by
        rw [hl, Nat.sub_self] at h2
        exact (Option.some.inj h2).symm
      rw [List.getElem?_append_left (by omega)] at h1
      have := r.get_last
      rw [← hl, Nat.add_sub_cancel, h1] at this
      rw [e2, Option.some.inj this]
      exact n
/-- no cell of it is near one further on than the next -/
def Thin (l : List Cell) : Prop := ∀ a b c, [a, b, c].Sublist l → c ∉ near6 a
/-- a road, without loops -/
def Road (g : Cell → Nat) (h w : Nat) (s : Bool) (l : List Cell) : Prop := ∃ c, Rd g s l c ∧ sd s c = ext s h w - 1 ∧ Thin l
theorem Road.joined {l : List Cell} (r : Road g h w s l) : Joined g h w s := by
  obtain ⟨c, a, b, _⟩ := r
  exact ⟨c, a.reach, b⟩

/-! ### the search that keeps its ways -/
structure Bfs (g : Cell → Nat) (s : Bool) (ways : List (List Cell)) (seen : List Cell) : Prop where
  len : ways.length = seen.length
  way : ∀ (i : Nat) (l : List Cell), ways[i]? = some l → ∃ c, seen[i]? = some c ∧ Rd g s l c ∧ ∀ x ∈ l, x ∈ seen
  nd : seen.Nodup
  sg : ∀ c ∈ seen, g c = lt s
  first : ∀ c, g c = lt s → sd s c = 0 → c ∈ seen
  pos : ∀ (i : Nat) (l : List Cell) (c : Cell), ways[i]? = some l → seen[i]? = some c → ∀ x ∈ l, x ≠ c → ∃ j, j < i ∧ seen[j]? = some x
  thin : ∀ (i : Nat) (l : List Cell), ways[i]? = some l → Thin l
/-- the cells seen ahead of place n are done: not at the end, all round them seen -/
def DoneTo (g : Cell → Nat) (h w : Nat) (s : Bool) (seen : List Cell) (n : Nat) : Prop :=
  ∀ (i : Nat) (c : Cell), i < n → seen[i]? = some c → sd s c ≠ ext s h w - 1 ∧ ∀ d ∈ near6 c, g d = lt s → d ∈ seen
theorem sub_snoc {α : Type} {s l : List α} {d : α} (h : s.Sublist (l ++ [d])) : s.Sublist l ∨ ∃ s', s = s' ++ [d] ∧ s'.Sublist l := by
  obtain ⟨s1, s2, e, h1, h2⟩ := List.sublist_append_iff.mp h
  rcases List.sublist_cons_iff.mp h2 with h3 | ⟨r, e2, h3⟩
  · rw [List.sublist_nil.mp h3, List.append_nil] at e
    rw [e]
    exact .inl h1
  · rw [List.sublist_nil.mp h3] at e2
    rw [e2] at e
    exact .inr ⟨s1, e, h1⟩
theorem thin_add {l : List Cell} {c d : Cell} (hn : l.Nodup) (hl : ∃ l', l = l' ++ [c]) (ht : Thin l) (k : ∀ x ∈ l, x ≠ c → d ∉ near6 x) : Thin (l ++ [d]) := by
  intro x y z h
  rcases sub_snoc h with h1 | ⟨s', e, h1⟩
  · exact ht x y z h1
  · have h3 : ([x, y] : List Cell) ++ [z] = s' ++ [d] := e
    have h4 := List.append_inj' h3 rfl
    have h5 : z = d := (List.cons.inj h4.2).1
    rw [← h4.1] at h1
    rw [h5]
    refine k x (h1.subset List.mem_cons_self) fun ex => ?_
    obtain ⟨l', el⟩ := hl
    rw [el, ← ex] at hn h1
    have hx : x ∉ l' := fun hm => (List.nodup_append.mp hn).2.2 x hm x List.mem_cons_self rfl
    rcases sub_snoc h1 with h6 | ⟨s2, e2, h6⟩
    · exact hx (h6.subset List.mem_cons_self)
    · have h7 : ([x] : List Cell) ++ [y] = s2 ++ [x] := e2
      have h8 := List.append_inj' h7 rfl
      rw [← h8.1] at h6
      exact hx (h6.subset List.mem_cons_self)
theorem Bfs.add {ways : List (List Cell)} {seen l : List Cell} {c d : Cell} {h w : Nat} (b : Bfs g s ways seen) {i : Nat} (dn : DoneTo g h w s seen i) (hl : ways[i]? = some l) (hc : seen[i]? = some c) (hd : d ∈ near6 c) (hg : g d = lt s) (hn : d ∉ seen) :
    Bfs g s (ways ++ [l ++ [d]]) (seen ++ [d]) := by
  obtain ⟨c', ec, r, sub⟩ := b.way i l hl
  have e : c' = c := by
    rw [hc] at ec
    exact (Option.some.inj ec).symm
  subst e
  have il : i < ways.length := (List.getElem?_eq_some_iff.mp hl).1
  refine ⟨by rw [List.length_append, List.length_append, b.len]; rfl, ?_, ?_, ?_, fun x a k => List.mem_append_left _ (b.first x a k), ?_, ?_⟩
  · intro j k hk
    by_cases hj : j < ways.length
    · rw [List.getElem?_append_left hj] at hk
      obtain ⟨x, e1, e2, e3⟩ := b.way j k hk
      refine ⟨x, ?_, e2, fun y hy => List.mem_append_left _ (e3 y hy)⟩
      rw [List.getElem?_append_left (by rw [← b.len]; exact hj)]
      exact e1
    · have hj2 : j = ways.length := by
        have := (List.getElem?_eq_some_iff.mp hk).1
        rw [List.length_append] at this
        simp at this
        omega
      subst hj2
      rw [List.getElem?_append_right (Nat.le_refl _), Nat.sub_self] at hk
      have ek : k = l ++ [d] := (Option.some.inj hk).symm
      subst ek
      refine ⟨d, ?_, .snoc r hd hg (fun z => hn (sub d z)), fun y hy => ?_⟩
      · rw [b.len, List.getElem?_append_right (Nat.le_refl _), Nat.sub_self]
        rfl
      · rcases List.mem_append.mp hy with hy | hy
        · exact List.mem_append_left _ (sub y hy)
        · exact List.mem_append_right _ hy
  · rw [List.nodup_append]
    refine ⟨b.nd, List.nodup_cons.mpr ⟨by simp, List.nodup_nil⟩, ?_⟩
    intro a ha y hy
    rw [List.mem_singleton] at hy
    rw [hy]
    intro e
    exact hn (e ▸ ha)
  · intro x hx
    rcases List.mem_append.mp hx with hx | hx
    · exact b.sg x hx
    · rw [List.mem_singleton.mp hx]
      exact hg
  · intro j k e hk he x hx hne
    by_cases hj : j < ways.length
    · rw [List.getElem?_append_left hj] at hk
      rw [List.getElem?_append_left (by rw [← b.len]; exact hj)] at he
      obtain ⟨m, m1, m2⟩ := b.pos j k e hk he x hx hne
      exact ⟨m, m1, by rw [List.getElem?_append_left (by rw [← b.len]; omega)]; exact m2⟩
    · have hj2 : j = ways.length := by
        have := (List.getElem?_eq_some_iff.mp hk).1
        rw [List.length_append] at this
        simp at this
        omega
      subst hj2
      rw [List.getElem?_append_right (Nat.le_refl _), Nat.sub_self] at hk
      have ek : k = l ++ [d] := (Option.some.inj hk).symm
      subst ek
      rw [b.len, List.getElem?_append_right (Nat.le_refl _), Nat.sub_self] at he
      have ee : e = d := (Option.some.inj he).symm
      subst ee
      rcases List.mem_append.mp hx with hx | hx
      · by_cases ex : x = c'
        · exact ⟨i, il, by rw [List.getElem?_append_left (by rw [← b.len]; exact il), ex]; exact hc⟩
        · obtain ⟨m, m1, m2⟩ := b.pos i l c' hl hc x hx ex
          exact ⟨m, by omega, by rw [List.getElem?_append_left (by rw [← b.len]; omega)]; exact m2⟩
      · exact absurd (List.mem_singleton.mp hx) hne
  · intro j k hk
    by_cases hj : j < ways.length
    · rw [List.getElem?_append_left hj] at hk
      exact b.thin j k hk
    · have hj2 : j = ways.length := by
        have := (List.getElem?_eq_some_iff.mp hk).1
        rw [List.length_append] at this
        simp at this
        omega
      subst hj2
      rw [List.getElem?_append_right (Nat.le_refl _), Nat.sub_self] at hk
      have ek : k = l ++ [d] := (Option.some.inj hk).symm
      subst ek
      refine thin_add r.nodup r.last (b.thin i l hl) fun x hx hne hm => ?_
      obtain ⟨m, m1, m2⟩ := b.pos i l c' hl hc x hx hne
      exact hn ((dn m x m1 m2).2 d hm hg)
theorem DoneTo.mono {seen : List Cell} {n : Nat} {d : Cell} (k : DoneTo g h w s seen n) (hn : n ≤ seen.length) : DoneTo g h w s (seen ++ [d]) n := by
  intro i c hi hc
  rw [List.getElem?_append_left (by omega)] at hc
  obtain ⟨a, b⟩ := k i c hi hc
  exact ⟨a, fun x hx hg => List.mem_append_left _ (b x hx hg)⟩
theorem DoneTo.none {seen : List Cell} (k : DoneTo g h w s seen seen.length) (first : ∀ c, g c = lt s → sd s c = 0 → c ∈ seen) : ¬ Joined g h w s := by
  have all : ∀ c, Reach g s c → c ∈ seen := by
    intro c r
    induction r with
    | first a b => exact first _ a b
    | next _ n a ih =>
      obtain ⟨i, hi, e⟩ := List.mem_iff_getElem.mp ih
      exact (k i _ hi (by rw [List.getElem?_eq_getElem hi, e])).2 _ n a
  rintro ⟨c, r, e⟩
  obtain ⟨i, hi, e1⟩ := List.mem_iff_getElem.mp (all c r)
  exact (k i _ hi (by rw [List.getElem?_eq_getElem hi, e1])).1 e

/-! ### the flood -/
structure Fld (g : Cell → Nat) (s : Bool) (seen left : List Cell) : Prop where
  nd : seen.Nodup
  sub : ∀ c ∈ left, c ∈ seen
  re : ∀ c ∈ seen, Reach g s c
  first : ∀ c, g c = lt s → sd s c = 0 → c ∈ seen
/-- whatever is seen and not left is done -/
def FDone (g : Cell → Nat) (s : Bool) (seen left : List Cell) : Prop := ∀ c ∈ seen, c ∉ left → ∀ d ∈ near6 c, g d = lt s → d ∈ seen
theorem flood_end {seen : List Cell} (f : Fld g s seen []) (k : FDone g s seen []) : Joined g h w s ↔ ∃ c ∈ seen, sd s c = ext s h w - 1 := by
  have all : ∀ c, Reach g s c → c ∈ seen := by
    intro c r
    induction r with
    | first a b => exact f.first _ a b
    | next _ n a ih => exact k _ ih (by simp) _ n a
  constructor
  · rintro ⟨c, r, e⟩
    exact ⟨c, all c r, e⟩
  · rintro ⟨c, hc, e⟩
    exact ⟨c, f.re c hc, e⟩
end

/-! ### with a rectangle under it -/
theorem Bfs.bound {B : Bd} {h w : Nat} {s : Bool} {ways : List (List Cell)} {seen : List Cell} (I : IsB B h w) (b : Bfs (cel B) s ways seen) : seen.length ≤ h * w :=
  nodup_rect b.nd fun c hc => I.ins (by rw [b.sg c hc]; cases s <;> decide)
theorem lt_ne (s : Bool) : lt s ≠ 0 := by cases s <;> decide
theorem Rd.bound {B : Bd} {h w : Nat} {s : Bool} {l : List Cell} {c : Cell} (I : IsB B h w) (r : Rd (cel B) s l c) : l.length ≤ h * w :=
  nodup_rect r.nodup fun x hx => I.ins (by rw [r.signs x hx]; exact lt_ne s)
theorem Fld.bound {B : Bd} {h w : Nat} {s : Bool} {seen left : List Cell} (I : IsB B h w) (f : Fld (cel B) s seen left) : seen.length ≤ h * w :=
  nodup_rect f.nd fun c hc => I.ins (by rw [(f.re c hc).sign]; exact lt_ne s)
theorem area {B : Bd} {h w : Nat} (I : IsB B h w) : h * w ≤ 81 := Nat.mul_le_mul I.h9 I.w9
/-! ### how long a road can be: fewer than 64 cells -/
def grp (r c : Nat) : Nat := if r < 8 then 2 * (3 * (r / 2) + c / 3) + (if r % 2 + c % 3 ≤ 1 then 0 else 1) else 24 + c
def nearN (r c r' c' : Nat) : Bool := (r' + 1 == r && (c' == c || c' == c + 1)) || (r' == r && (c' == c + 1 || c' + 1 == c)) || (r' == r + 1 && (c' == c || c' + 1 == c))
def grpAll : Bool := (List.range 9).all fun r => (List.range 9).all fun c => decide (grp r c < 33) && (List.range 9).all fun r' => (List.range 9).all fun c' => grp r c != grp r' c' || ((r == r' && c == c') || nearN r c r' c')
theorem grpAll_yes : grpAll = true := by decide +kernel
theorem grp_near (r : Nat) (hr : r < 9) (c : Nat) (hc : c < 9) (r' : Nat) (hr' : r' < 9) (c' : Nat) (hc' : c' < 9) (e : grp r c = grp r' c') : (r = r' ∧ c = c') ∨ nearN r c r' c' = true := by
  have h1 := List.all_eq_true.mp (List.all_eq_true.mp grpAll_yes r (List.mem_range.mpr hr)) c (List.mem_range.mpr hc)
  have h2 := List.all_eq_true.mp (List.all_eq_true.mp (Bool.and_eq_true _ _ ▸ h1).2 r' (List.mem_range.mpr hr')) c' (List.mem_range.mpr hc')
  simp only [Bool.or_eq_true, Bool.and_eq_true, bne_iff_ne, beq_iff_eq, ne_eq] at h2
  rcases h2 with h2 | h2
  · exact absurd e h2
  · exact h2
theorem grp_lt (r : Nat) (hr : r < 9) (c : Nat) (hc : c < 9) : grp r c < 33 := by
  have h1 := List.all_eq_true.mp (List.all_eq_true.mp grpAll_yes r (List.mem_range.mpr hr)) c (List.mem_range.mpr hc)
  exact of_decide_eq_true (Bool.and_eq_true _ _ ▸ h1).1
theorem filter_two {α : Type} (p : α → Bool) : ∀ l : List α, l.length = (l.filter p).length + (l.filter fun x => !p x).length
  | [] => rfl
  | a :: l => by
    have ih := filter_two p l
    cases e : p a <;> simp [List.filter_cons, e] <;> omega
theorem fiber_bound {α : Type} (f : α → Nat) (m : Nat) : ∀ (N : Nat) (l : List α), (∀ x ∈ l, f x < N) → (∀ n, (l.filter fun x => decide (f x = n)).length ≤ m) → l.length ≤ N * m
  | 0, l, h, _ => by
    cases l with
    | nil => exact Nat.zero_le _
    | cons a l => exact absurd (h a List.mem_cons_self) (Nat.not_lt_zero _)
  | N + 1, l, h, k => by
    have h1 := filter_two (fun x => decide (f x = N)) l
    have h2 := k N
    have h3 := fiber_bound f m N (l.filter fun x => !decide (f x = N)) (fun x hx => by
      obtain ⟨a, b⟩ := List.mem_filter.mp hx
      have c := h x a
      have d : f x ≠ N := fun z => by simp [z] at b
      omega) (fun n => by
      rw [List.filter_filter]
      refine Nat.le_trans ?_ (k n)
      have e : (l.filter fun x => decide (f x = n) && !decide (f x = N)).Sublist (l.filter fun x => decide (f x = n)) := by
        have e2 : (l.filter fun x => decide (f x = n) && !decide (f x = N)) = (l.filter fun x => decide (f x = n)).filter fun x => !decide (f x = N) := by
          rw [List.filter_filter]
          congr 1
          funext x
          exact Bool.and_comm _ _
        rw [e2]
        exact List.filter_sublist
      exact e.length_le)
    rw [Nat.add_mul, Nat.one_mul]
    omega
theorem thin_group {l : List Cell} (hn : l.Nodup) (hi : ∀ c ∈ l, Ins 9 9 c) (ht : Thin l) (n : Nat) : (l.filter fun x => decide (grp x.1.toNat x.2.toNat = n)).length ≤ 2 := by
  rcases e : l.filter (fun x => decide (grp x.1.toNat x.2.toNat = n)) with _ | ⟨a, _ | ⟨b, _ | ⟨c, rest⟩⟩⟩
  · rw [e]
    exact Nat.zero_le _
  · rw [e]
    exact Nat.le_succ _
  · rw [e]
    exact Nat.le_refl _
  · exfalso
    have sl : ([a, b, c] : List Cell).Sublist l := by
      have h1 : (a :: b :: c :: rest).Sublist l := by
        rw [← e]
        exact List.filter_sublist
      have h2 : ([a, b, c] : List Cell).Sublist (a :: b :: c :: rest) := .cons₂ _ (.cons₂ _ (.cons₂ _ (List.nil_sublist _)))
      exact h2.trans h1
    have nf : (l.filter fun x => decide (grp x.1.toNat x.2.toNat = n)).Nodup := List.Sublist.nodup List.filter_sublist hn
    rw [e] at nf
    have ne : a ≠ c := fun z => by
      rw [List.nodup_cons] at nf
      exact nf.1 (by rw [z]; simp)
    have ma : a ∈ l.filter fun x => decide (grp x.1.toNat x.2.toNat = n) := by rw [e]; simp
    have mc : c ∈ l.filter fun x => decide (grp x.1.toNat x.2.toNat = n) := by rw [e]; simp
    obtain ⟨a1, a2⟩ := List.mem_filter.mp ma
    obtain ⟨c1, c2⟩ := List.mem_filter.mp mc
    have ga := of_decide_eq_true a2
    have gc := of_decide_eq_true c2
    obtain ⟨p1, p2, p3, p4⟩ := hi a a1
    obtain ⟨q1, q2, q3, q4⟩ := hi c c1
    rcases grp_near a.1.toNat (by omega) a.2.toNat (by omega) c.1.toNat (by omega) c.2.toNat (by omega) (ga.trans gc.symm) with z | z
    · exact ne (Prod.ext (by omega) (by omega))
    · refine ht a b c sl (near6_iff.mpr ?_)
      unfold nearN at z
      simp only [Bool.or_eq_true, Bool.and_eq_true, beq_iff_eq] at z
      omega
theorem thin_group1 {l : List Cell} (hn : l.Nodup) (hi : ∀ c ∈ l, Ins 9 9 c) (n : Nat) (h24 : 24 ≤ n) : (l.filter fun x => decide (grp x.1.toNat x.2.toNat = n)).length ≤ 1 := by
  rcases e : l.filter (fun x => decide (grp x.1.toNat x.2.toNat = n)) with _ | ⟨a, _ | ⟨b, rest⟩⟩
  · rw [e]
    exact Nat.zero_le _
  · rw [e]
    exact Nat.le_refl _
  · exfalso
    have nf : (l.filter fun x => decide (grp x.1.toNat x.2.toNat = n)).Nodup := List.Sublist.nodup List.filter_sublist hn
    rw [e] at nf
    have ne : a ≠ b := fun z => by
      rw [List.nodup_cons] at nf
      exact nf.1 (by rw [z]; simp)
    have ma : a ∈ l.filter fun x => decide (grp x.1.toNat x.2.toNat = n) := by rw [e]; simp
    have mc : b ∈ l.filter fun x => decide (grp x.1.toNat x.2.toNat = n) := by rw [e]; simp
    obtain ⟨a1, a2⟩ := List.mem_filter.mp ma
    obtain ⟨c1, c2⟩ := List.mem_filter.mp mc
    have ga := of_decide_eq_true a2
    have gc := of_decide_eq_true c2
    obtain ⟨p1, p2, p3, p4⟩ := hi a a1
    obtain ⟨q1, q2, q3, q4⟩ := hi b c1
    unfold grp at ga gc
    have f1 : ¬ a.1.toNat < 8 := fun z => by rw [if_pos z] at ga; split at ga <;> omega
    have f2 : ¬ b.1.toNat < 8 := fun z => by rw [if_pos z] at gc; split at gc <;> omega
    rw [if_neg f1] at ga
    rw [if_neg f2] at gc
    exact ne (Prod.ext (by omega) (by omega))
theorem thin_bound {l : List Cell} (hn : l.Nodup) (hi : ∀ c ∈ l, Ins 9 9 c) (ht : Thin l) : l.length < 64 := by
  have h1 := filter_two (fun x : Cell => decide (grp x.1.toNat x.2.toNat < 24)) l
  have h2 := fiber_bound (fun x : Cell => grp x.1.toNat x.2.toNat) 2 24 (l.filter fun x => decide (grp x.1.toNat x.2.toNat < 24)) (fun x hx => of_decide_eq_true (List.mem_filter.mp hx).2) (fun n => by
    refine Nat.le_trans (List.Sublist.length_le (List.Sublist.filter _ List.filter_sublist)) (thin_group hn hi ht n))
  have h3 := fiber_bound (fun x : Cell => grp x.1.toNat x.2.toNat - 24) 1 9 (l.filter fun x => !decide (grp x.1.toNat x.2.toNat < 24)) (fun x hx => by
    obtain ⟨a, b⟩ := List.mem_filter.mp hx
    obtain ⟨p1, p2, p3, p4⟩ := hi x a
    have := grp_lt x.1.toNat (by omega) x.2.toNat (by omega)
    show grp x.1.toNat x.2.toNat - 24 < 9
    omega) (fun n => by
    refine Nat.le_trans ?_ (thin_group1 hn hi (n + 24) (by omega))
    rw [List.filter_filter]
    refine Nat.le_of_eq (congrArg List.length (List.filter_congr fun x _ => ?_))
    rw [Bool.eq_iff_iff]
    simp
    omega)
  omega
theorem Road.bound {B : Bd} {h w : Nat} {s : Bool} {l : List Cell} (I : IsB B h w) (r : Road (cel B) h w s l) : l.length < 64 := by
  obtain ⟨c, a, _, t⟩ := r
  refine thin_bound a.nodup (fun x hx => ?_) t
  have ix := I.ins (p := x) (by rw [a.signs x hx]; exact lt_ne s)
  have h9 := I.h9
  have w9 := I.w9
  obtain ⟨p1, p2, p3, p4⟩ := ix
  exact ⟨p1, by omega, p3, by omega⟩
/-- is a hand joined, as a Bool -/
noncomputable def jB (B : Bd) (s : Bool) : Bool := @decide (Joined (cel B) B.length (wid B) s) (Classical.propDecidable _)
theorem jB_iff {B : Bd} {h w : Nat} (I : IsB B h w) (s : Bool) : jB B s = true ↔ Joined (cel B) h w s := by
  unfold jB
  rw [I.hh, I.wid]
  exact @decide_eq_true_iff (Joined (cel B) h w s) (Classical.propDecidable _)
theorem jB_not {B : Bd} {h w : Nat} (I : IsB B h w) (s : Bool) : jB B s = false ↔ ¬ Joined (cel B) h w s := by
  rw [← jB_iff I, Bool.not_eq_true]
end Sw
/-! How a search's queue and its dict of cells stand in the heap. -/
namespace Sw
open PySem PySem.Spec PyProof.Rows L2
def keyOf (c : Cell) : List Key := [Sum.inl c.1, Sum.inl c.2]
theorem keyOf_inj {a b : Cell} (h : keyOf a = keyOf b) : a = b := by
  have h1 := (List.cons.inj h).1
  have h2 := (List.cons.inj (List.cons.inj h).2).1
  exact Prod.ext (Sum.inl.inj h1) (Sum.inl.inj h2)
/-- a dict with the cells cs for keys, in this order -/
def Seen (H : Hp) (d : Addr) (cs : List Cell) : Prop := ∃ kvs : List (List Key × V), H d = some (.dT kvs) ∧ kvs.map (·.1) = cs.map keyOf
theorem Seen.same {H H' : Hp} {d : Addr} {cs : List Cell} (s : Seen H d cs) (k : Same H H') : Seen H' d cs := by
  obtain ⟨kvs, e, m⟩ := s
  exact ⟨kvs, k _ _ e, m⟩
theorem Seen.updL {H : Hp} {d l : Addr} {cs : List Cell} {ys : List V} {o : HO} (s : Seen H d cs) (h : H l = some (.lst ys)) : Seen (upd H l o) d cs := by
  obtain ⟨kvs, e, m⟩ := s
  exact ⟨kvs, by rw [upd_ne (ne_of e h (by intro z; cases z))]; exact e, m⟩
theorem key_in {kvs : List (List Key × V)} {cs : List Cell} (m : kvs.map (·.1) = cs.map keyOf) (c : Cell) : keyOf c ∈ (kvs.map fun p : List Key × V => p.1) ↔ c ∈ cs := by
  rw [m, List.mem_map]
  constructor
  · rintro ⟨x, hx, e⟩
    rw [← keyOf_inj e]
    exact hx
  · intro h
    exact ⟨c, h, rfl⟩
theorem val_some {kvs : List (List Key × V)} {k : List Key} : (valV kvs k).isSome = true ↔ k ∈ kvs.map fun p : List Key × V => p.1 := by
  rw [← valV_any, List.any_eq_true, List.mem_map]
  constructor
  · rintro ⟨x, hx, e⟩
    exact ⟨x, hx, of_decide_eq_true e⟩
  · rintro ⟨x, hx, e⟩
    exact ⟨x, hx, decide_eq_true e⟩
theorem Seen.get {H : Hp} {d b : Addr} {cs : List Cell} {c : Cell} (s : Seen H d cs) (hb : H b = some (.tup (cellV c))) : ∃ o, DGet H d (.ref b) o ∧ o.isSome = decide (c ∈ cs) := by
  obtain ⟨kvs, e, m⟩ := s
  refine ⟨valV kvs (keyOf c), DGet.t (k := keyOf c) e hb, ?_⟩
  rw [Bool.eq_iff_iff, decide_eq_true_eq, val_some]
  exact key_in m c
theorem Seen.put {H : Hp} {d b : Addr} {cs : List Cell} {c : Cell} {v : V} (s : Seen H d cs) (hb : H b = some (.tup (cellV c))) (hn : c ∉ cs) (hl : cs.length ≤ 1000) :
    ∃ ys, DPut H d (.ref b) v (upd H d (.dT ys)) ∧ Seen (upd H d (.dT ys)) d (cs ++ [c]) ∧ Tps H (upd H d (.dT ys)) ∧ ∃ xs, H d = some (.dT xs) := by
  obtain ⟨kvs, e, m⟩ := s
  have el : kvs.length = cs.length := by
    have := congrArg List.length m
    rw [List.length_map, List.length_map] at this
    exact this
  have hv : valV kvs (keyOf c) = none := by
    cases h : valV kvs (keyOf c) with
    | none => rfl
    | some x => exact absurd ((key_in m c).mp (val_some.mp (by rw [h]; rfl))) hn
  refine ⟨putK kvs (keyOf c) v, DPut.t (k := keyOf c) e hb (sz_lt (by omega)), ⟨_, upd_same, ?_⟩, .dT e, kvs, e⟩
  rw [putK_new _ hv, List.map_append, List.map_append, m]
  rfl
theorem Seen.nil {H : Hp} {d : Addr} : Seen (upd H d (.dT [])) d [] := ⟨[], upd_same, rfl⟩

/-! ### a list of ways: each a list of cells of its own, unknown to H0, none of them the queue itself -/
inductive Ways (H0 : Hp) (q : Addr) (H : Hp) : List V → List (List Cell) → Prop
  | nil : Ways H0 q H [] []
  | cons {a : Addr} {vs ws : List V} {cs : List Cell} {css : List (List Cell)} : H0 a = none → a ≠ q → H a = some (.lst vs) → Cells H vs cs → Ways H0 q H ws css → Ways H0 q H (.ref a :: ws) (cs :: css)
section
variable {H0 H H' : Hp} {q d : Addr}
theorem Ways.keep (k : ∀ a vs, a ≠ q → H a = some (.lst vs) → H' a = some (.lst vs)) (t : Tps H H') : ∀ {ws : List V} {css : List (List Cell)}, Ways H0 q H ws css → Ways H0 q H' ws css
  | _, _, .nil => .nil
  | _, _, .cons a b c e r => .cons a b (k _ _ b c) (e.tps t) (Ways.keep k t r)
theorem Ways.same (s : Same H H') {ws : List V} {css : List (List Cell)} (w : Ways H0 q H ws css) : Ways H0 q H' ws css := w.keep (fun a vs _ e => s _ _ e) (.of s)
theorem Ways.updq {ys : List V} {o : HO} (h : H q = some (.lst ys)) {ws : List V} {css : List (List Cell)} (w : Ways H0 q H ws css) : Ways H0 q (upd H q o) ws css :=
  w.keep (fun a vs n e => by rw [upd_ne n]; exact e) (.lst h)
theorem Ways.updd {ys : List (List Key × V)} {o : HO} (h : H d = some (.dT ys)) {ws : List V} {css : List (List Cell)} (w : Ways H0 q H ws css) : Ways H0 q (upd H d o) ws css :=
  w.keep (fun a vs _ e => by rw [upd_ne (ne_of e h (by intro z; cases z))]; exact e) (.dT h)
theorem Ways.len : ∀ {ws : List V} {css : List (List Cell)}, Ways H0 q H ws css → ws.length = css.length
  | _, _, .nil => rfl
  | _, _, .cons _ _ _ _ r => by rw [List.length_cons, List.length_cons, Ways.len r]
theorem Ways.app : ∀ {ws ws' : List V} {css css' : List (List Cell)}, Ways H0 q H ws css → Ways H0 q H ws' css' → Ways H0 q H (ws ++ ws') (css ++ css')
  | _, _, _, _, .nil, h => h
  | _, _, _, _, .cons a b c e r, h => .cons a b c e (Ways.app r h)
theorem Ways.one {a : Addr} {vs : List V} {cs : List Cell} (h0 : H0 a = none) (n : a ≠ q) (h : H a = some (.lst vs)) (c : Cells H vs cs) : Ways H0 q H [.ref a] [cs] := .cons h0 n h c .nil
theorem Ways.get : ∀ {ws : List V} {css : List (List Cell)} {i : Nat} {x : V}, Ways H0 q H ws css → ws[i]? = some x → ∃ a vs cs, x = .ref a ∧ css[i]? = some cs ∧ H0 a = none ∧ a ≠ q ∧ H a = some (.lst vs) ∧ Cells H vs cs
  | _, _, _, _, .nil, e => by simp at e
  | _, _, 0, _, .cons a b c d r, e => by
    simp at e
    subst e
    exact ⟨_, _, _, rfl, rfl, a, b, c, d⟩
  | _, _, i + 1, _, .cons _ _ _ _ r, e => Ways.get (i := i) r (by simpa using e)
end
theorem atI_last1 {l : List V} {v : V} (h : l[l.length - 1]? = some v) : atI l (-1) = some v := by
  have hp : 0 < l.length := by
    have := (List.getElem?_eq_some_iff.mp h).1
    omega
  have e : l = l.dropLast ++ [v] := by
    have hne : l ≠ [] := by
      intro z
      rw [z] at hp
      exact absurd hp (Nat.lt_irrefl _)
    have h2 := List.dropLast_concat_getLast hne
    have h3 : l.getLast hne = v := by
      rw [List.getLast_eq_getElem]
      have := (List.getElem?_eq_some_iff.mp h).2
      exact this
    rw [h3] at h2
    exact h2.symm
  rw [e]
  exact atI_last _ _
theorem sgn_eq {x y : Nat} : V.str (txt [x]) = V.str (txt [y]) ↔ x = y := by
  constructor
  · intro h
    exact (List.cons.inj (txt_inj (V.str.inj h))).1
  · intro h
    rw [h]
theorem nodup_take {α : Type} {l : List α} (hn : l.Nodup) {i : Nat} {c : α} (h : l[i]? = some c) : c ∉ l.take i := by
  intro hm
  obtain ⟨j, hj, e⟩ := List.mem_take_iff_getElem.mp hm
  have hi := (List.getElem?_eq_some_iff.mp h)
  obtain ⟨hi, ei⟩ := hi
  have := (List.getElem_inj (h₀ := by omega) (h₁ := hi) hn).mp (e.trans ei.symm)
  omega
theorem take_snoc {α : Type} {l : List α} {i : Nat} {c : α} (h : l[i]? = some c) : l.take (i + 1) = l.take i ++ [c] := by
  rw [List.take_add_one, h]
  rfl
/-- a hand's text -/
theorem hand_n {s : Bool} : V.str (txt [lt s]) = V.str (Str.ofString "n") ↔ s = false := by
  rw [s_n]
  constructor
  · intro h
    have := (List.cons.inj (txt_inj (V.str.inj h))).1
    cases s
    · rfl
    · exact absurd this (by decide)
  · intro h
    rw [h]
    rfl
theorem hand_w {s : Bool} : V.str (txt [lt s]) = V.str (Str.ofString "w") ↔ s = true := by
  rw [s_w]
  constructor
  · intro h
    have := (List.cons.inj (txt_inj (V.str.inj h))).1
    cases s
    · exact absurd this (by decide)
    · rfl
  · intro h
    rw [h]
    rfl
theorem lt_ok (s : Bool) : lt s = 110 ∨ lt s = 119 := by cases s <;> decide
/-! ### the cells of a hand's first shore -/
def shoreL (h w : Nat) (s : Bool) : List Cell := if s then (List.range h).map fun r : Nat => ((r : Int), (0 : Int)) else (List.range w).map fun c : Nat => ((0 : Int), (c : Int))
def begs (B : Bd) (h w : Nat) (s : Bool) : List Cell := (shoreL h w s).filter fun p => decide (cel B p = lt s)
theorem begs_nodup (B : Bd) (h w : Nat) (s : Bool) : (begs B h w s).Nodup := by
  refine List.Sublist.nodup List.filter_sublist ?_
  unfold shoreL
  cases s
  · exact nodup_map List.nodup_range fun x _ y _ e => by
      have := (Prod.ext_iff.mp e).2
      exact Int.ofNat.inj this
  · exact nodup_map List.nodup_range fun x _ y _ e => by
      have := (Prod.ext_iff.mp e).1
      exact Int.ofNat.inj this
theorem mem_shore {h w : Nat} {s : Bool} {p : Cell} (hp : Ins h w p) (e : sd s p = 0) : p ∈ shoreL h w s := by
  obtain ⟨a, b, c, d⟩ := hp
  unfold shoreL
  cases s
  · have e' : p.1 = 0 := e
    exact List.mem_map.mpr ⟨p.2.toNat, List.mem_range.mpr (by omega), Prod.ext (by show (0 : Int) = p.1; omega) (by show ((p.2.toNat : Nat) : Int) = p.2; omega)⟩
  · have e' : p.2 = 0 := e
    exact List.mem_map.mpr ⟨p.1.toNat, List.mem_range.mpr (by omega), Prod.ext (by show ((p.1.toNat : Nat) : Int) = p.1; omega) (by show (0 : Int) = p.2; omega)⟩
theorem shore_sd {h w : Nat} {s : Bool} {p : Cell} (hp : p ∈ shoreL h w s) : sd s p = 0 := by
  unfold shoreL at hp
  cases s
  · obtain ⟨c, _, rfl⟩ := List.mem_map.mp hp
    rfl
  · obtain ⟨c, _, rfl⟩ := List.mem_map.mp hp
    rfl
theorem shore_ins {B : Bd} {h w : Nat} (I : IsB B h w) {s : Bool} {p : Cell} (hp : p ∈ shoreL h w s) : Ins h w p := by
  have h1 := I.h1
  have w1 := I.w1
  unfold shoreL at hp
  cases s
  · obtain ⟨c, hc, rfl⟩ := List.mem_map.mp hp
    have := List.mem_range.mp hc
    refine ⟨by show (0 : Int) ≤ 0; omega, by show (0 : Int) < h; omega, by show (0 : Int) ≤ (c : Int); omega, by show ((c : Nat) : Int) < w; omega⟩
  · obtain ⟨c, hc, rfl⟩ := List.mem_map.mp hp
    have := List.mem_range.mp hc
    refine ⟨by show (0 : Int) ≤ (c : Int); omega, by show ((c : Nat) : Int) < h; omega, by show (0 : Int) ≤ 0; omega, by show (0 : Int) < w; omega⟩
theorem mem_begs {B : Bd} {h w : Nat} (I : IsB B h w) {s : Bool} {p : Cell} : p ∈ begs B h w s ↔ cel B p = lt s ∧ sd s p = 0 := by
  unfold begs
  rw [List.mem_filter, decide_eq_true_eq]
  constructor
  · rintro ⟨a, b⟩
    exact ⟨b, shore_sd a⟩
  · rintro ⟨a, b⟩
    exact ⟨mem_shore (I.ins (by rw [a]; exact lt_ne s)) b, a⟩
theorem shoreL_len {h w : Nat} {s : Bool} : (shoreL h w s).length ≤ h + w := by
  unfold shoreL
  cases s
  · show ((List.range w).map _).length ≤ _
    rw [List.length_map, List.length_range]
    omega
  · show ((List.range h).map _).length ≤ _
    rw [List.length_map, List.length_range]
    omega
/-- the search as it begins -/
theorem bfs_start {B : Bd} {h w : Nat} (I : IsB B h w) (s : Bool) : Bfs (cel B) s ((begs B h w s).map fun c => [c]) (begs B h w s) := by
  refine ⟨by rw [List.length_map], ?_, begs_nodup B h w s, fun c hc => ((mem_begs I).mp hc).1, fun c a b => (mem_begs I).mpr ⟨a, b⟩, fun i l c hl hc x hx hne => ?_, fun i l hl => ?_⟩
  · intro i l hl
    obtain ⟨c, ec, rfl⟩ := map_get hl
    have hm := List.mem_of_getElem? ec
    have hc := (mem_begs I).mp hm
    refine ⟨c, ec, .one hc.1 hc.2, fun x hx => ?_⟩
    rw [List.mem_singleton.mp hx]
    exact hm
  · obtain ⟨c', ec, rfl⟩ := map_get hl
    rw [hc] at ec
    cases ec
    exact absurd (List.mem_singleton.mp hx) hne
  · obtain ⟨c', ec, rfl⟩ := map_get hl
    intro a b c hs
    have := hs.length_le
    exact absurd this (show ¬ (3 ≤ 1) by decide)
end Sw
/-! A text as a list of signs; boards as lists of lists of signs. -/
namespace Sw
open PySem PySem.Spec PyProof.Rows L2
def sgV (c : Nat) : V := .str (txt [c])
theorem vals_signs : ∀ (l : List Nat) (its : List Value), its.length = l.length → (∀ (j : Nat) (v : Value), its[j]? = some v → ∃ c u, l[j]? = some c ∧ v = .str ⟨#[c]⟩ u) → Vals (l.map sgV) its
  | [], [], _, _ => .nil
  | [], _ :: _, h, _ => by cases h
  | _ :: _, [], h, _ => by cases h
  | c :: l, v :: its, h, k => by
    obtain ⟨c', u, e1, e2⟩ := k 0 v rfl
    cases e1
    subst e2
    exact .cons ⟨u, rfl⟩ (vals_signs l its (Nat.succ.inj h) fun j x hx => k (j + 1) x hx)
/-- list(text): its signs, a new list -/
def rListSigns : List V → Hp → VK → Prop := fun xs Hh Q => ∃ z : List Nat, xs = [.str (txt z)] ∧ z.length ≤ 1000 ∧ ∀ l, Hh l = none → Q (.ref l) (upd Hh l (.lst (z.map sgV)))
theorem call_list_signs {X : Cx} (hc : X.calm = true) : CallR X (.type "list") rListSigns := by
  intro pins s σ H xs us Q I r h
  obtain ⟨z, rfl, hz, q⟩ := h
  obtain ⟨u, rfl, rx⟩ := vals1 r
  obtain ⟨t, rfl⟩ := rx
  have hn : (txt z).cps.size ≤ sizeLine := by
    have e : (txt z).cps.size = z.length := txt_len z
    rw [e]
    exact sz_le (by omega)
  refine PySem.call_list_str (hn := hn) (I.ok.hd hc) (txt z) t fun h' tk acc' c' k e it => ?_
  have hv : Vals (z.map sgV) acc'.toList := by
    refine vals_signs z acc'.toList ?_ fun j v hj => ?_
    · have e1 : acc'.size = (txt z).cps.size := it.1
      have e2 : (txt z).cps.size = z.length := txt_len z
      rw [Array.length_toList, e1, e2]
    · rw [Array.getElem?_toList] at hj
      obtain ⟨c, u, e1, e2⟩ := it.2 j v hj
      have e3 : (txt z).cps.toList[j]? = some c := by
        rw [Array.getElem?_toList]
        exact e1
      exact ⟨c, u, e3, e2⟩
  refine ⟨.ref s.heap.objs.size, _, I.laid (t' := tk) k (Nat.le_refl _) (show ObjOk X.prog X.w _ h' _ (.lst (z.map sgV)) from ⟨?_, acc'.toList, c', hv, ?_⟩), rfl, q _ (I.hok.fresh (Nat.le_refl _))⟩
  · rw [List.length_map]
    exact sz_le (by omega)
  · exact e

theorem pe_joinK {X : Cx} {K : PySem.W.Frag} {o e : Expr} {to te : TE} {apos pos : Pos} (hK : X.K = K) (ho : PE X o to) (he : PE X e te) (hs : starEach [e] X.env = [(false, eval e X.env)] := by rfl) (hbase : attributeBase o "join" X.env (eval o X.env) = eval o X.env := by rfl) (hline : (apos.endLine == pos.line) = true := by rfl) :
    PE X (.Call (.Attribute o "join" apos) [e] [] pos) (tM1 (fun x xs H Q => ∃ a p, ∃ ys : List Str, x = .str a ∧ xs = [.ref p] ∧ (SqL K H p (ys.map V.str) ∨ SqT K H p (ys.map V.str)) ∧
      (ys.map (·.length)).sum + ys.length * a.length ≤ 16777216 ∧ Q (.str (Txt.join a ys)) H) to te) := by
  subst hK
  exact pe_join ho he hs hbase hline

/-! ### a board as a list of lists of signs: each of its own, unknown to H0 -/
structure Rows2 (H0 H : Hp) (q : Addr) (as : List Addr) (B : Bd) : Prop where
  nd : as.Nodup
  len : as.length = B.length
  row : ∀ (i : Nat) (a : Addr) (r : List Nat), as[i]? = some a → B[i]? = some r → H0 a = none ∧ a ≠ q ∧ H a = some (.lst (r.map sgV))
theorem Rows2.same {H0 H H' : Hp} {q : Addr} {as : List Addr} {B : Bd} (R : Rows2 H0 H q as B) (s : Same H H') : Rows2 H0 H' q as B :=
  ⟨R.nd, R.len, fun i a r h1 h2 => by
    obtain ⟨x, y, z⟩ := R.row i a r h1 h2
    exact ⟨x, y, s _ _ z⟩⟩
theorem Rows2.updq {H0 H : Hp} {q : Addr} {as : List Addr} {B : Bd} (R : Rows2 H0 H q as B) (o : HO) : Rows2 H0 (upd H q o) q as B :=
  ⟨R.nd, R.len, fun i a r h1 h2 => by
    obtain ⟨x, y, z⟩ := R.row i a r h1 h2
    exact ⟨x, y, by rw [upd_ne y]; exact z⟩⟩
theorem Rows2.app {H0 H : Hp} {q : Addr} {as : List Addr} {B : Bd} (R : Rows2 H0 H q as B) {a : Addr} {r : List Nat} (hn : a ∉ as) (h0 : H0 a = none) (hq : a ≠ q) (ha : H a = some (.lst (r.map sgV))) : Rows2 H0 H q (as ++ [a]) (B ++ [r]) := by
  refine ⟨?_, by rw [List.length_append, List.length_append, R.len]; rfl, fun i b t h1 h2 => ?_⟩
  · rw [List.nodup_append]
    refine ⟨R.nd, List.nodup_cons.mpr ⟨by simp, List.nodup_nil⟩, fun x hx y hy => ?_⟩
    rw [List.mem_singleton.mp hy]
    exact fun z => hn (z ▸ hx)
  · by_cases hi : i < as.length
    · rw [List.getElem?_append_left hi] at h1
      rw [List.getElem?_append_left (by rw [← R.len]; exact hi)] at h2
      exact R.row i b t h1 h2
    · have hl := (List.getElem?_eq_some_iff.mp h1).1
      rw [List.length_append] at hl
      simp at hl
      have e : i = as.length := by omega
      subst e
      rw [List.getElem?_append_right (Nat.le_refl _), Nat.sub_self] at h1
      rw [R.len, List.getElem?_append_right (Nat.le_refl _), Nat.sub_self] at h2
      cases h1
      cases h2
      exact ⟨h0, hq, ha⟩
theorem Rows2.put {H0 H : Hp} {q : Addr} {as : List Addr} {B : Bd} (R : Rows2 H0 H q as B) {a : Addr} {p : Cell} {r : List Nat} {x : Nat} (ha : as[p.1.toNat]? = some a) (hr : B[p.1.toNat]? = some r) :
    Rows2 H0 (upd H a (.lst ((r.set p.2.toNat x).map sgV))) q as (putB B p x) := by
  have ia := (List.getElem?_eq_some_iff.mp ha)
  obtain ⟨il, ie⟩ := ia
  refine ⟨R.nd, by unfold putB; rw [List.length_set]; exact R.len, fun i b t h1 h2 => ?_⟩
  rw [putB_eq hr] at h2
  obtain ⟨jl, je⟩ := List.getElem?_eq_some_iff.mp h1
  by_cases e : i = p.1.toNat
  · subst e
    have eb : b = a := by
      rw [ha] at h1
      exact (Option.some.inj h1).symm
    subst eb
    rw [List.getElem?_set_self (by rw [← R.len]; exact il)] at h2
    cases h2
    obtain ⟨x1, x2, _⟩ := R.row _ _ _ ha hr
    exact ⟨x1, x2, upd_same⟩
  · rw [List.getElem?_set_ne (fun z => e z.symm)] at h2
    obtain ⟨x1, x2, x3⟩ := R.row _ _ _ h1 h2
    have ne : b ≠ a := fun z => by
      subst z
      exact e ((List.getElem_inj (h₀ := jl) (h₁ := il) R.nd).mp (je.trans ie.symm))
    exact ⟨x1, x2, by rw [upd_ne ne]; exact x3⟩
end Sw
/-! A board turned over; a stone more; boards with the same cells. Plain lists. -/
namespace Sw
def swp (p : Cell) : Cell := (p.2, p.1)
theorem near_swp {p q : Cell} (h : q ∈ near6 p) : swp q ∈ near6 (swp p) := by
  rw [near6_iff] at h ⊢
  show (q.2 = p.2 - 1 ∧ q.1 = p.1) ∨ (q.2 = p.2 - 1 ∧ q.1 = p.1 + 1) ∨ (q.2 = p.2 ∧ q.1 = p.1 + 1) ∨ (q.2 = p.2 + 1 ∧ q.1 = p.1) ∨ (q.2 = p.2 + 1 ∧ q.1 = p.1 - 1) ∨ (q.2 = p.2 ∧ q.1 = p.1 - 1)
  omega
theorem Reach.map {g g' : Cell → Nat} {s s' : Bool} (f : Cell → Cell) (hg : ∀ p, g p = lt s → g' (f p) = lt s') (hn : ∀ p q, q ∈ near6 p → f q ∈ near6 (f p)) (h0 : ∀ p, sd s p = 0 → sd s' (f p) = 0) {p : Cell} (r : Reach g s p) : Reach g' s' (f p) := by
  induction r with
  | first a b => exact .first (hg _ a) (h0 _ b)
  | next _ n a ih => exact .next ih (hn _ _ n) (hg _ a)
theorem lt_oth (s : Bool) : oth (lt s) = lt (!s) := by cases s <;> rfl
theorem lt_inj {s s' : Bool} (h : lt s = lt s') : s = s' := by
  cases s <;> cases s' <;> first | rfl | (exact absurd h (by decide))
theorem turn_one {B : Bd} {h w : Nat} (I : IsB B h w) {s : Bool} (j : Joined (cel B) h w s) : Joined (cel (tov B w)) w h (!s) := by
  obtain ⟨c, r, e⟩ := j
  refine ⟨swp c, r.map swp (fun p hp => ?_) (fun p q => near_swp) (fun p hp => ?_), ?_⟩
  · have := cel_tov I (I.ins (p := p) (by rw [hp]; exact lt_ne s))
    show cel (tov B w) (p.2, p.1) = _
    rw [this, hp, lt_oth]
  · cases s
    · exact hp
    · exact hp
  · cases s
    · exact e
    · exact e
/-- boards of one size with the same cells are one -/
theorem bd_ext {B B' : Bd} {h w : Nat} (I : IsB B h w) (I' : IsB B' h w) (k : ∀ p, Ins h w p → cel B p = cel B' p) : B = B' := by
  refine List.ext_getElem (by rw [I.hh, I'.hh]) fun i h1 h2 => ?_
  have hi : i < h := by rw [← I.hh]; exact h1
  refine List.ext_getElem (by rw [I.ww _ (List.getElem_mem h1), I'.ww _ (List.getElem_mem h2)]) fun j g1 g2 => ?_
  have hj : j < w := by rw [← I.ww _ (List.getElem_mem h1)]; exact g1
  have := k ((i : Int), (j : Int)) ⟨by show (0 : Int) ≤ (i : Int); omega, by show (i : Int) < h; omega, by show (0 : Int) ≤ (j : Int); omega, by show (j : Int) < w; omega⟩
  rw [cel_row (r := B[i]) (p := ((i : Int), (j : Int))) (by show (0 : Int) ≤ (i : Int); omega) (by show (0 : Int) ≤ (j : Int); omega) (by show B[((i : Nat) : Int).toNat]? = _; rw [Int.toNat_natCast]; exact List.getElem?_eq_getElem h1),
    cel_row (r := B'[i]) (p := ((i : Int), (j : Int))) (by show (0 : Int) ≤ (i : Int); omega) (by show (0 : Int) ≤ (j : Int); omega) (by show B'[((i : Nat) : Int).toNat]? = _; rw [Int.toNat_natCast]; exact List.getElem?_eq_getElem h2)] at this
  have e1 : (B[i][((i : Int), (j : Int)).2.toNat]?).getD 0 = B[i][j] := by
    show (B[i][((j : Nat) : Int).toNat]?).getD 0 = _
    rw [Int.toNat_natCast, List.getElem?_eq_getElem g1]
    rfl
  have e2 : (B'[i][((i : Int), (j : Int)).2.toNat]?).getD 0 = B'[i][j] := by
    show (B'[i][((j : Nat) : Int).toNat]?).getD 0 = _
    rw [Int.toNat_natCast, List.getElem?_eq_getElem g2]
    rfl
  rw [e1, e2] at this
  exact this
theorem tov_tov {B : Bd} {h w : Nat} (I : IsB B h w) : tov (tov B w) h = B := by
  have I1 := tov_is I
  have I2 := tov_is I1
  refine bd_ext I2 I fun p hp => ?_
  have hp' : Ins w h (p.2, p.1) := ⟨hp.2.2.1, hp.2.2.2, hp.1, hp.2.1⟩
  have e1 := cel_tov I1 hp'
  have e2 := cel_tov I hp
  have e3 : cel (tov (tov B w) h) p = oth (cel (tov B w) (p.2, p.1)) := e1
  rw [e3, e2, oth_oth]
  obtain ⟨_, _, _, _, _, ok⟩ := I.at hp
  exact ok
theorem jB_turn {B : Bd} {h w : Nat} (I : IsB B h w) (s : Bool) : jB (tov B w) (!s) = jB B s := by
  rw [Bool.eq_iff_iff, jB_iff (tov_is I), jB_iff I]
  constructor
  · intro j
    have := turn_one (tov_is I) j
    rw [tov_tov I, Bool.not_not] at this
    exact this
  · exact turn_one I
/-- more stones of a hand: what was joined stays so -/
theorem joined_more {g g' : Cell → Nat} {h w : Nat} {s : Bool} (k : ∀ p, g p = lt s → g' p = lt s) (j : Joined g h w s) : Joined g' h w s := by
  obtain ⟨c, r, e⟩ := j
  exact ⟨c, r.map id (fun p hp => k p hp) (fun p q hq => hq) (fun p hp => hp), e⟩
theorem jB_put {B : Bd} {h w : Nat} (I : IsB B h w) {p : Cell} (hp : Ins h w p) {s : Bool} (j : jB B s = true) : jB (putB B p (lt s)) s = true := by
  rw [jB_iff (putB_is I p (by cases s <;> simp [lt]))]
  rw [jB_iff I] at j
  refine joined_more (fun q hq => ?_) j
  rw [cel_put I hp]
  by_cases e : q = p
  · rw [if_pos e]
  · rw [if_neg e]
    exact hq
theorem jB_put_oth {B : Bd} {h w : Nat} (I : IsB B h w) {p : Cell} (hp : Ins h w p) {s : Bool} (j : jB (putB B p (lt s)) (!s) = true) : jB B (!s) = true := by
  rw [jB_iff (putB_is I p (by cases s <;> simp [lt]))] at j
  rw [jB_iff I]
  refine joined_more (fun q hq => ?_) j
  rw [cel_put I hp] at hq
  by_cases e : q = p
  · rw [if_pos e] at hq
    have := lt_inj hq
    cases s <;> cases this
  · rw [if_neg e] at hq
    exact hq
theorem jB_both {B : Bd} {h w : Nat} (I : IsB B h w) {s : Bool} (a : jB B s = true) (b : jB B (!s) = true) : False := by
  cases s
  · exact never_both I.sup ((jB_iff I _).mp a) ((jB_iff I _).mp b)
  · exact never_both I.sup ((jB_iff I _).mp b) ((jB_iff I _).mp a)
end Sw
/-! The walk along the border of the colours: it never comes back, it ends at one of two places, and what it has gone along joins a hand. Plain lists. -/
namespace Sw
/-- whose a place is: none, some false (the north hand's), some true -/
def own (g : Cell → Nat) (h w : Nat) (p : Cell) : Option Bool :=
  if Ins h w p then (if g p = 110 then some false else some true)
  else if (p.1 = -1 ∧ 0 ≤ p.2 ∧ p.2 ≤ (w : Int)) ∨ (p.1 = (h : Int) ∧ -1 ≤ p.2 ∧ p.2 < (w : Int)) then some false
  else if 0 ≤ p.1 ∧ p.1 < (h : Int) ∧ (p.2 = -1 ∨ p.2 = (w : Int)) then some true else none
def ahd (a b : Cell) : Cell := (a.1 + a.2 - b.2, b.1 + b.2 - a.1)
abbrev Pr := Cell × Cell
def st0 : Pr := ((-1, 0), (0, -1))
def stp (g : Cell → Nat) (h w : Nat) (x : Pr) : Option Pr := match own g h w (ahd x.1 x.2) with
  | none => none
  | some false => some (ahd x.1 x.2, x.2)
  | some true => some (x.1, ahd x.1 x.2)
section
variable {g : Cell → Nat} {h w : Nat}
/-- where a place of the north hand stands -/
def NAt (h w : Nat) (p : Cell) : Prop := Ins h w p ∨ (p.1 = -1 ∧ 0 ≤ p.2 ∧ p.2 ≤ (w : Int)) ∨ (p.1 = (h : Int) ∧ -1 ≤ p.2 ∧ p.2 < (w : Int))
def WAt (h w : Nat) (p : Cell) : Prop := Ins h w p ∨ (0 ≤ p.1 ∧ p.1 < (h : Int) ∧ (p.2 = -1 ∨ p.2 = (w : Int)))
theorem own_n {p : Cell} (e : own g h w p = some false) : (Ins h w p ∧ g p = 110) ∨ (p.1 = -1 ∧ 0 ≤ p.2 ∧ p.2 ≤ (w : Int)) ∨ (p.1 = (h : Int) ∧ -1 ≤ p.2 ∧ p.2 < (w : Int)) := by
  unfold own at e
  split at e
  · rename_i hi
    split at e
    · rename_i hg
      exact .inl ⟨hi, hg⟩
    · cases e
  · split at e
    · rename_i _ hs
      exact .inr hs
    · split at e <;> cases e
theorem own_w {p : Cell} (e : own g h w p = some true) : (Ins h w p ∧ g p ≠ 110) ∨ (0 ≤ p.1 ∧ p.1 < (h : Int) ∧ (p.2 = -1 ∨ p.2 = (w : Int))) := by
  unfold own at e
  split at e
  · rename_i hi
    split at e
    · cases e
    · rename_i hg
      exact .inl ⟨hi, hg⟩
  · split at e
    · cases e
    · split at e
      · rename_i hs
        exact .inr hs
      · cases e
theorem own_none {p : Cell} (e : own g h w p = none) : ¬ Ins h w p ∧ ¬ (p.1 = -1 ∧ 0 ≤ p.2 ∧ p.2 ≤ (w : Int)) ∧ ¬ (p.1 = (h : Int) ∧ -1 ≤ p.2 ∧ p.2 < (w : Int)) ∧ ¬ (0 ≤ p.1 ∧ p.1 < (h : Int) ∧ (p.2 = -1 ∨ p.2 = (w : Int))) := by
  unfold own at e
  split at e
  · split at e <;> cases e
  · rename_i hi
    split at e
    · cases e
    · rename_i hs
      split at e
      · cases e
      · rename_i ht
        exact ⟨hi, fun z => hs (.inl z), fun z => hs (.inr z), ht⟩
theorem ahd_near {a b : Cell} (k : b ∈ near6 a) : ahd a b ∈ near6 a ∧ ahd a b ∈ near6 b := by
  have e1 : (ahd a b).1 = a.1 + a.2 - b.2 := rfl
  have e2 : (ahd a b).2 = b.1 + b.2 - a.1 := rfl
  rcases near6_iff.mp k with ⟨x, y⟩ | ⟨x, y⟩ | ⟨x, y⟩ | ⟨x, y⟩ | ⟨x, y⟩ | ⟨x, y⟩
  · exact ⟨near6_iff.mpr (.inr (.inr (.inr (.inr (.inr ⟨by omega, by omega⟩))))), near6_iff.mpr (.inr (.inr (.inr (.inr (.inl ⟨by omega, by omega⟩)))))⟩
  · exact ⟨near6_iff.mpr (.inl ⟨by omega, by omega⟩), near6_iff.mpr (.inr (.inr (.inr (.inr (.inr ⟨by omega, by omega⟩)))))⟩
  · exact ⟨near6_iff.mpr (.inr (.inl ⟨by omega, by omega⟩)), near6_iff.mpr (.inl ⟨by omega, by omega⟩)⟩
  · exact ⟨near6_iff.mpr (.inr (.inr (.inl ⟨by omega, by omega⟩))), near6_iff.mpr (.inr (.inl ⟨by omega, by omega⟩))⟩
  · exact ⟨near6_iff.mpr (.inr (.inr (.inr (.inl ⟨by omega, by omega⟩)))), near6_iff.mpr (.inr (.inr (.inl ⟨by omega, by omega⟩)))⟩
  · exact ⟨near6_iff.mpr (.inr (.inr (.inr (.inr (.inl ⟨by omega, by omega⟩))))), near6_iff.mpr (.inr (.inr (.inr (.inl ⟨by omega, by omega⟩))))⟩
/-- round a cell of the board every place has an owner -/
theorem own_round {p q : Cell} (hp : Ins h w p) (k : q ∈ near6 p) (e : own g h w q = none) : False := by
  obtain ⟨a1, a2, a3, a4⟩ := own_none e
  obtain ⟨b1, b2, b3, b4⟩ := hp
  have c := near6_iff.mp k
  have d1 : -1 ≤ q.1 ∧ q.1 ≤ h ∧ -1 ≤ q.2 ∧ q.2 ≤ w := by omega
  by_cases r1 : 0 ≤ q.1
  · by_cases r2 : q.1 < h
    · by_cases r3 : 0 ≤ q.2
      · by_cases r4 : q.2 < w
        · exact a1 ⟨r1, r2, r3, r4⟩
        · exact a4 ⟨r1, r2, .inr (by omega)⟩
      · exact a4 ⟨r1, r2, .inl (by omega)⟩
    · exact a3 ⟨by omega, by omega, by omega⟩
  · exact a2 ⟨by omega, by omega, by omega⟩
structure Vld (g : Cell → Nat) (h w : Nat) (x : Pr) : Prop where
  n : own g h w x.1 = some false
  w : own g h w x.2 = some true
  nr : x.2 ∈ near6 x.1
theorem stp_n {x y : Pr} (e : stp g h w x = some y) : (own g h w (ahd x.1 x.2) = some false ∧ y = (ahd x.1 x.2, x.2)) ∨ (own g h w (ahd x.1 x.2) = some true ∧ y = (x.1, ahd x.1 x.2)) := by
  unfold stp at e
  split at e
  · cases e
  · rename_i k
    exact .inl ⟨k, (Option.some.inj e).symm⟩
  · rename_i k
    exact .inr ⟨k, (Option.some.inj e).symm⟩
theorem stp_none {x : Pr} (e : stp g h w x = none) : own g h w (ahd x.1 x.2) = none := by
  unfold stp at e
  split at e
  · assumption
  · cases e
  · cases e
theorem vld_stp {x y : Pr} (v : Vld g h w x) (e : stp g h w x = some y) : Vld g h w y := by
  obtain ⟨a1, a2⟩ := ahd_near v.nr
  rcases stp_n e with ⟨k, rfl⟩ | ⟨k, rfl⟩
  · exact ⟨k, v.w, near6_symm a2⟩
  · exact ⟨v.n, k, a1⟩
theorem vld_st0 (h1 : 1 ≤ h) : Vld g h w st0 := by
  refine ⟨?_, ?_, by decide⟩
  · show own g h w (-1, 0) = some false
    unfold own
    rw [if_neg (fun z : Ins h w (-1, 0) => absurd z.1 (by decide)), if_pos (.inl ⟨rfl, Int.le_refl _, by show (0 : Int) ≤ w; omega⟩)]
  · show own g h w (0, -1) = some true
    unfold own
    rw [if_neg (fun z : Ins h w (0, -1) => absurd z.2.2.1 (by decide)), if_neg (by
      show ¬ (((0 : Int) = -1 ∧ (0 : Int) ≤ -1 ∧ (-1 : Int) ≤ w) ∨ ((0 : Int) = h ∧ (-1 : Int) ≤ -1 ∧ (-1 : Int) < w))
      omega), if_pos ⟨Int.le_refl _, by show (0 : Int) < h; omega, .inl rfl⟩]
theorem stp_inj {x x' y : Pr} (v : Vld g h w x) (v' : Vld g h w x') (e : stp g h w x = some y) (e' : stp g h w x' = some y) : x = x' := by
  rcases stp_n e with ⟨k, ey⟩ | ⟨k, ey⟩ <;> rcases stp_n e' with ⟨k', ey'⟩ | ⟨k', ey'⟩
  · have e1 := (Prod.ext_iff.mp (ey.symm.trans ey'))
    obtain ⟨p, q⟩ := e1
    have p1 : x.1.1 + x.1.2 - x.2.2 = x'.1.1 + x'.1.2 - x'.2.2 := congrArg Prod.fst p
    have p2 : x.2.1 + x.2.2 - x.1.1 = x'.2.1 + x'.2.2 - x'.1.1 := congrArg Prod.snd p
    have q1 : x.2.1 = x'.2.1 := congrArg Prod.fst q
    have q2 : x.2.2 = x'.2.2 := congrArg Prod.snd q
    exact Prod.ext (Prod.ext (by omega) (by omega)) (Prod.ext q1 q2)
  · exfalso
    have e1 := (Prod.ext_iff.mp (ey.symm.trans ey'))
    obtain ⟨p, q⟩ := e1
    have p1 : x.1.1 + x.1.2 - x.2.2 = x'.1.1 := congrArg Prod.fst p
    have p2 : x.2.1 + x.2.2 - x.1.1 = x'.1.2 := congrArg Prod.snd p
    have q1 : x.2.1 = x'.1.1 + x'.1.2 - x'.2.2 := congrArg Prod.fst q
    have q2 : x.2.2 = x'.2.1 + x'.2.2 - x'.1.1 := congrArg Prod.snd q
    have : x.1 = x'.2 := Prod.ext (by omega) (by omega)
    have h1 := v.n
    rw [this, v'.w] at h1
    cases h1
  · exfalso
    have e1 := (Prod.ext_iff.mp (ey.symm.trans ey'))
    obtain ⟨p, q⟩ := e1
    have p1 : x.1.1 = x'.1.1 + x'.1.2 - x'.2.2 := congrArg Prod.fst p
    have p2 : x.1.2 = x'.2.1 + x'.2.2 - x'.1.1 := congrArg Prod.snd p
    have q1 : x.1.1 + x.1.2 - x.2.2 = x'.2.1 := congrArg Prod.fst q
    have q2 : x.2.1 + x.2.2 - x.1.1 = x'.2.2 := congrArg Prod.snd q
    have : x'.1 = x.2 := Prod.ext (by omega) (by omega)
    have h1 := v'.n
    rw [this, v.w] at h1
    cases h1
  · have e1 := (Prod.ext_iff.mp (ey.symm.trans ey'))
    obtain ⟨p, q⟩ := e1
    have p1 : x.1.1 = x'.1.1 := congrArg Prod.fst p
    have p2 : x.1.2 = x'.1.2 := congrArg Prod.snd p
    have q1 : x.1.1 + x.1.2 - x.2.2 = x'.1.1 + x'.1.2 - x'.2.2 := congrArg Prod.fst q
    have q2 : x.2.1 + x.2.2 - x.1.1 = x'.2.1 + x'.2.2 - x'.1.1 := congrArg Prod.snd q
    exact Prod.ext (Prod.ext p1 p2) (Prod.ext (by omega) (by omega))
theorem stp_st0 {x : Pr} (v : Vld g h w x) : stp g h w x ≠ some st0 := by
  intro e
  have v1 := own_n v.n
  have v2 := own_w v.w
  rcases stp_n e with ⟨k, ey⟩ | ⟨k, ey⟩
  · have e1 := Prod.ext_iff.mp ey
    have p1 : (-1 : Int) = x.1.1 + x.1.2 - x.2.2 := congrArg Prod.fst e1.1
    have p2 : (0 : Int) = x.2.1 + x.2.2 - x.1.1 := congrArg Prod.snd e1.1
    have q1 : (0 : Int) = x.2.1 := congrArg Prod.fst e1.2
    have q2 : (-1 : Int) = x.2.2 := congrArg Prod.snd e1.2
    unfold Ins at v1
    omega
  · have e1 := Prod.ext_iff.mp ey
    have p1 : (-1 : Int) = x.1.1 := congrArg Prod.fst e1.1
    have p2 : (0 : Int) = x.1.2 := congrArg Prod.snd e1.1
    have q1 : (0 : Int) = x.1.1 + x.1.2 - x.2.2 := congrArg Prod.fst e1.2
    have q2 : (-1 : Int) = x.2.1 + x.2.2 - x.1.1 := congrArg Prod.snd e1.2
    unfold Ins at v2
    omega
theorem stp_end {x : Pr} (h1 : 1 ≤ h) (w1 : 1 ≤ w) (v : Vld g h w x) (e : stp g h w x = none) : x = ((-1, (w : Int)), (0, (w : Int))) ∨ x = (((h : Int), -1), ((h : Int) - 1, -1)) := by
  have v4 := stp_none e
  obtain ⟨n1, n2⟩ := ahd_near v.nr
  have v3 := near6_iff.mp v.nr
  have inn : ¬ Ins h w (ahd x.1 x.2) := (own_none v4).1
  have e1 : (ahd x.1 x.2).1 = x.1.1 + x.1.2 - x.2.2 := rfl
  have e2 : (ahd x.1 x.2).2 = x.2.1 + x.2.2 - x.1.1 := rfl
  have key : (x.1.1 = -1 ∧ x.1.2 = w ∧ x.2.1 = 0 ∧ x.2.2 = w) ∨ (x.1.1 = h ∧ x.1.2 = -1 ∧ x.2.1 = (h : Int) - 1 ∧ x.2.2 = -1) := by
    rcases own_n v.n with ⟨i1, _⟩ | v1 | v1
    · exact (own_round i1 n1 v4).elim
    · rcases own_w v.w with ⟨i2, _⟩ | ⟨u1, u2, v2 | v2⟩
      · exact (own_round i2 n2 v4).elim
      · exfalso
        exact inn ⟨by omega, by omega, by omega, by omega⟩
      · left
        omega
    · rcases own_w v.w with ⟨i2, _⟩ | ⟨u1, u2, v2 | v2⟩
      · exact (own_round i2 n2 v4).elim
      · right
        omega
      · exfalso
        exact inn ⟨by omega, by omega, by omega, by omega⟩
  rcases key with ⟨a, b, c, d⟩ | ⟨a, b, c, d⟩
  · exact .inl (Prod.ext (Prod.ext a b) (Prod.ext c d))
  · exact .inr (Prod.ext (Prod.ext a b) (Prod.ext c d))

/-! ### the walk -/
inductive Wk (g : Cell → Nat) (h w : Nat) : List Pr → Pr → Prop
  | one : Wk g h w [st0] st0
  | snoc {ps : List Pr} {x y : Pr} : Wk g h w ps x → stp g h w x = some y → Wk g h w (ps ++ [y]) y
theorem Wk.vld (h1 : 1 ≤ h) {ps : List Pr} {x : Pr} (k : Wk g h w ps x) : Vld g h w x := by
  induction k with
  | one => exact vld_st0 h1
  | snoc _ e ih => exact vld_stp ih e
theorem Wk.all (h1 : 1 ≤ h) {ps : List Pr} {x : Pr} (k : Wk g h w ps x) : ∀ z ∈ ps, Vld g h w z := by
  induction k with
  | one =>
    intro z hz
    rw [List.mem_singleton.mp hz]
    exact vld_st0 h1
  | snoc k' e ih =>
    intro z hz
    rcases List.mem_append.mp hz with hz | hz
    · exact ih z hz
    · rw [List.mem_singleton.mp hz]
      exact vld_stp (k'.vld h1) e
theorem Wk.init {ps : List Pr} {x : Pr} (k : Wk g h w ps x) : ∃ l, ps = l ++ [x] ∧ ∀ z ∈ ps, z = st0 ∨ ∃ u ∈ l, stp g h w u = some z := by
  induction k with
  | one =>
    refine ⟨[], rfl, fun z hz => .inl (List.mem_singleton.mp hz)⟩
  | @snoc ps x y k' e ih =>
    obtain ⟨l, rfl, hl⟩ := ih
    refine ⟨l ++ [x], rfl, fun z hz => ?_⟩
    rcases List.mem_append.mp hz with hz | hz
    · rcases hl z hz with z0 | ⟨u, hu, eu⟩
      · exact .inl z0
      · exact .inr ⟨u, List.mem_append_left _ hu, eu⟩
    · rw [List.mem_singleton.mp hz]
      exact .inr ⟨x, List.mem_append_right _ List.mem_cons_self, e⟩
theorem Wk.nodup (h1 : 1 ≤ h) {ps : List Pr} {x : Pr} (k : Wk g h w ps x) : ps.Nodup := by
  induction k with
  | one => exact List.nodup_cons.mpr ⟨by simp, List.nodup_nil⟩
  | @snoc ps x y k' e ih =>
    have vx := k'.vld h1
    have va := k'.all h1
    obtain ⟨l, rfl, hl⟩ := k'.init
    rw [List.nodup_append]
    refine ⟨ih, List.nodup_cons.mpr ⟨by simp, List.nodup_nil⟩, fun a ha b hb => ?_⟩
    rw [List.mem_singleton.mp hb]
    rintro rfl
    rcases hl a ha with z0 | ⟨u, hu, eu⟩
    · rw [z0] at e
      exact stp_st0 vx e
    · have ex := stp_inj (va u (List.mem_append_left _ hu)) vx eu e
      rw [ex] at hu
      exact (List.nodup_append.mp ih).2.2 x hu x List.mem_cons_self rfl
/-- a pair's number -/
def dirN (d : Cell) : Nat := if 3 * d.1 + d.2 + 4 ≤ 3 then (3 * d.1 + d.2 + 3).toNat else (3 * d.1 + d.2 + 2).toNat
def codeP (w : Nat) (x : Pr) : Nat := ((x.1.1 + 1).toNat * (w + 2) + (x.1.2 + 1).toNat) * 6 + dirN (x.2.1 - x.1.1, x.2.2 - x.1.2)
theorem dir_is {a b : Cell} (n : b ∈ near6 a) : (1 ≤ 3 * (b.1 - a.1) + (b.2 - a.2) + 4 ∧ 3 * (b.1 - a.1) + (b.2 - a.2) + 4 ≤ 7 ∧ 3 * (b.1 - a.1) + (b.2 - a.2) + 4 ≠ 4) ∧ -1 ≤ b.2 - a.2 ∧ b.2 - a.2 ≤ 1 := by
  have n1 := near6_iff.mp n
  omega
theorem dirN_lt {a b : Cell} (n : b ∈ near6 a) : dirN (b.1 - a.1, b.2 - a.2) < 6 := by
  have := dir_is n
  unfold dirN
  dsimp only
  split <;> omega
theorem dirN_eq {a b c d : Cell} (n : b ∈ near6 a) (n' : d ∈ near6 c) (e : dirN (b.1 - a.1, b.2 - a.2) = dirN (d.1 - c.1, d.2 - c.2)) : b.1 - a.1 = d.1 - c.1 ∧ b.2 - a.2 = d.2 - c.2 := by
  have h1 := dir_is n
  have h2 := dir_is n'
  unfold dirN at e
  dsimp only at e
  split at e <;> split at e <;> omega
theorem nat_code {m a b a' b' : Nat} (h : a * m + b = a' * m + b') (hb : b < m) (hb' : b' < m) : a = a' ∧ b = b' := by
  have e1 : (a * m + b) / m = (a' * m + b') / m := by rw [h]
  have m0 : 0 < m := by omega
  rw [Nat.mul_comm a m, Nat.mul_comm a' m, Nat.mul_add_div m0, Nat.mul_add_div m0, Nat.div_eq_of_lt hb, Nat.div_eq_of_lt hb'] at e1
  have e2 : a = a' := by omega
  subst e2
  exact ⟨rfl, by omega⟩
theorem vld_in {x : Pr} (v : Vld g h w x) : -1 ≤ x.1.1 ∧ x.1.1 ≤ h ∧ -1 ≤ x.1.2 ∧ x.1.2 ≤ w := by
  have v1 := own_n v.n
  unfold Ins at v1
  omega
theorem codeP_inj {x y : Pr} (v : Vld g h w x) (v' : Vld g h w y) (e : codeP w x = codeP w y) : x = y := by
  unfold codeP at e
  obtain ⟨e1, e2⟩ := nat_code e (dirN_lt v.nr) (dirN_lt v'.nr)
  obtain ⟨a1, a2, a3, a4⟩ := vld_in v
  obtain ⟨b1, b2, b3, b4⟩ := vld_in v'
  obtain ⟨e3, e4⟩ := nat_code e1 (by omega) (by omega)
  have f1 : x.1.1 = y.1.1 := by omega
  have f2 : x.1.2 = y.1.2 := by omega
  obtain ⟨e5, e6⟩ := dirN_eq v.nr v'.nr e2
  have f3 : x.2.1 = y.2.1 ∧ x.2.2 = y.2.2 := by omega
  exact Prod.ext (Prod.ext f1 f2) (Prod.ext f3.1 f3.2)
theorem Wk.bound (h1 : 1 ≤ h) {ps : List Pr} {x : Pr} (k : Wk g h w ps x) : ps.length ≤ 6 * ((h + 2) * (w + 2)) := by
  have va := k.all h1
  have := nodup_lt (6 * ((h + 2) * (w + 2))) (ps.map (codeP w)) (nodup_map (k.nodup h1) fun a ha b hb e => codeP_inj (va a ha) (va b hb) e) (fun n hn => by
    obtain ⟨z, hz, rfl⟩ := List.mem_map.mp hn
    obtain ⟨a1, a2, a3, a4⟩ := vld_in (va z hz)
    have d := dirN_lt (va z hz).nr
    unfold codeP
    have m1 : (z.1.1 + 1).toNat + 1 ≤ h + 2 := by omega
    have m2 : ((z.1.1 + 1).toNat + 1) * (w + 2) ≤ (h + 2) * (w + 2) := Nat.mul_le_mul_right _ m1
    rw [Nat.add_mul, Nat.one_mul] at m2
    omega)
  rw [List.length_map] at this
  exact this
theorem walk_ends (h1 : 1 ≤ h) : ∃ ps x, Wk g h w ps x ∧ stp g h w x = none := by
  have gen : ∀ (n : Nat) (ps : List Pr) (x : Pr), Wk g h w ps x → 6 * ((h + 2) * (w + 2)) - ps.length ≤ n → ∃ ps x, Wk g h w ps x ∧ stp g h w x = none := by
    intro n
    induction n with
    | zero =>
      intro ps x k hn
      cases e : stp g h w x with
      | none => exact ⟨ps, x, k, e⟩
      | some y =>
        have := (Wk.snoc k e).bound h1
        rw [List.length_append] at this
        simp at this
        omega
    | succ n ih =>
      intro ps x k hn
      cases e : stp g h w x with
      | none => exact ⟨ps, x, k, e⟩
      | some y =>
        refine ih _ _ (Wk.snoc k e) ?_
        rw [List.length_append]
        simp
        omega
  exact gen _ _ _ .one (Nat.le_refl _)

/-! ### what it has gone along -/
def met (ps : List Pr) (c : Cell) : Prop := ∃ p ∈ ps, p.1 = c ∨ p.2 = c
/-- the cells that the hand's side of the walk has met -/
structure Vis (g g' : Cell → Nat) (s : Bool) (ps : List Pr) : Prop where
  yes : ∀ p ∈ ps, g' (if s then p.2 else p.1) = g (if s then p.2 else p.1)
def Gd (g' : Cell → Nat) (h w : Nat) (s : Bool) (x : Cell) : Prop := sd s x = -1 ∨ Reach g' s x ∨ Joined g' h w s
theorem gd_n {g' : Cell → Nat} {x c : Cell} (h1 : 1 ≤ h) (sup : Sup g' h w) (gx : Gd g' h w false x) (nr : c ∈ near6 x) (oc : own g h w c = some false) (ec : Ins h w c → g' c = g c) : Gd g' h w false c := by
  have v := near6_iff.mp nr
  rcases gx with gx | gx | gx
  · have gx' : x.1 = -1 := gx
    rcases own_n oc with ⟨hi, hg⟩ | k | k
    · refine .inr (.inl (.first (by rw [ec hi, hg]; rfl) ?_))
      show c.1 = 0
      have := hi.1
      omega
    · exact .inl k.1
    · exfalso
      have := k.1
      omega
  · rcases own_n oc with ⟨hi, hg⟩ | k | k
    · exact .inr (.inl (.next gx nr (by rw [ec hi, hg]; rfl)))
    · exact .inl k.1
    · refine .inr (.inr ⟨x, gx, ?_⟩)
      have ix := sup x (by rw [gx.sign]; exact lt_ne false)
      show x.1 = (h : Int) - 1
      have := k.1
      omega
  · exact .inr (.inr gx)
theorem gd_w {g' : Cell → Nat} {x c : Cell} (w1 : 1 ≤ w) (fl : ∀ p, Ins h w p → g p = 110 ∨ g p = 119) (sup : Sup g' h w) (gx : Gd g' h w true x) (nr : c ∈ near6 x) (oc : own g h w c = some true) (ec : Ins h w c → g' c = g c) : Gd g' h w true c := by
  have v := near6_iff.mp nr
  have g119 : Ins h w c → g c ≠ 110 → g' c = lt true := fun hi hg => by
    rw [ec hi]
    rcases fl c hi with z | z
    · exact absurd z hg
    · exact z
  rcases gx with gx | gx | gx
  · have gx' : x.2 = -1 := gx
    rcases own_w oc with ⟨hi, hg⟩ | ⟨k1, k2, k⟩
    · refine .inr (.inl (.first (g119 hi hg) ?_))
      show c.2 = 0
      have := hi.2.2.1
      omega
    · rcases k with k | k
      · exact .inl k
      · exfalso
        omega
  · rcases own_w oc with ⟨hi, hg⟩ | ⟨k1, k2, k⟩
    · exact .inr (.inl (.next gx nr (g119 hi hg)))
    · rcases k with k | k
      · exact .inl k
      · refine .inr (.inr ⟨x, gx, ?_⟩)
        have ix := sup x (by rw [gx.sign]; exact lt_ne true)
        show x.2 = (w : Int) - 1
        omega
  · exact .inr (.inr gx)
theorem Wk.good {gn gw : Cell → Nat} (h1 : 1 ≤ h) (w1 : 1 ≤ w) (fl : ∀ p, Ins h w p → g p = 110 ∨ g p = 119) (sn : Sup gn h w) (sw : Sup gw h w) {ps : List Pr} {x : Pr} (k : Wk g h w ps x)
    (vn : ∀ p ∈ ps, Ins h w p.1 → gn p.1 = g p.1) (vw : ∀ p ∈ ps, Ins h w p.2 → gw p.2 = g p.2) : Gd gn h w false x.1 ∧ Gd gw h w true x.2 := by
  induction k with
  | one => exact ⟨.inl rfl, .inl rfl⟩
  | @snoc ps x y k' e ih =>
    obtain ⟨i1, i2⟩ := ih (fun p hp => vn p (List.mem_append_left _ hp)) (fun p hp => vw p (List.mem_append_left _ hp))
    have v1 := vn y (List.mem_append_right _ List.mem_cons_self)
    have v2 := vw y (List.mem_append_right _ List.mem_cons_self)
    obtain ⟨a1, a2⟩ := ahd_near (k'.vld h1).nr
    rcases stp_n e with ⟨o, rfl⟩ | ⟨o, rfl⟩
    · exact ⟨gd_n h1 sn i1 a1 o v1, i2⟩
    · exact ⟨i1, gd_w w1 fl sw i2 a2 o v2⟩
/-- at the walk's end a hand is joined, through cells that the walk has met -/
theorem Wk.tells {gn gw : Cell → Nat} (h1 : 1 ≤ h) (w1 : 1 ≤ w) (fl : ∀ p, Ins h w p → g p = 110 ∨ g p = 119) (sn : Sup gn h w) (sw : Sup gw h w) {ps : List Pr} {x : Pr} (k : Wk g h w ps x) (e : stp g h w x = none)
    (vn : ∀ p ∈ ps, Ins h w p.1 → gn p.1 = g p.1) (vw : ∀ p ∈ ps, Ins h w p.2 → gw p.2 = g p.2) :
    (x = ((-1, (w : Int)), (0, (w : Int))) ∧ Joined gw h w true) ∨ (x = (((h : Int), -1), ((h : Int) - 1, -1)) ∧ Joined gn h w false) := by
  obtain ⟨i1, i2⟩ := k.good h1 w1 fl sn sw vn vw
  rcases stp_end h1 w1 (k.vld h1) e with rfl | rfl
  · refine .inl ⟨rfl, ?_⟩
    rcases i2 with z | z | z
    · exfalso
      have z' : (w : Int) = -1 := z
      omega
    · exfalso
      have ix := sw _ (by rw [z.sign]; exact lt_ne true)
      have : (w : Int) < w := ix.2.2.2
      omega
    · exact z
  · refine .inr ⟨rfl, ?_⟩
    rcases i1 with z | z | z
    · exfalso
      have z' : (h : Int) = -1 := z
      omega
    · exfalso
      have ix := sn _ (by rw [z.sign]; exact lt_ne false)
      have : (h : Int) < h := ix.2.1
      omega
    · exact z
end
/-- on a full board one of the hands is joined -/
theorem one_joined {B : Bd} {h w : Nat} (I : IsB B h w) (fl : ∀ p, cel B p ≠ 46) : Joined (cel B) h w false ∨ Joined (cel B) h w true := by
  obtain ⟨ps, x, k, e⟩ := walk_ends (g := cel B) (h := h) (w := w) I.h1
  have fl' : ∀ p, Ins h w p → cel B p = 110 ∨ cel B p = 119 := fun p hp => by
    obtain ⟨_, _, _, _, _, ok⟩ := I.at hp
    rcases ok with z | z | z
    · exact .inl z
    · exact .inr z
    · exact absurd z (fl p)
  rcases k.tells I.h1 I.w1 fl' I.sup I.sup e (fun _ _ _ => rfl) (fun _ _ _ => rfl) with z | z
  · exact .inr z.2
  · exact .inl z.2
theorem jB_full {B : Bd} {h w : Nat} (I : IsB B h w) (fl : ∀ p, cel B p ≠ 46) (s : Bool) : jB B (!s) = !jB B s := by
  have nb : ¬ (jB B s = true ∧ jB B (!s) = true) := fun ⟨a, b⟩ => jB_both I a b
  have ob : jB B s = true ∨ jB B (!s) = true := by
    rcases one_joined I fl with z | z
    · cases s
      · exact .inl ((jB_iff I _).mpr z)
      · exact .inr ((jB_iff I _).mpr z)
    · cases s
      · exact .inr ((jB_iff I _).mpr z)
      · exact .inl ((jB_iff I _).mpr z)
  cases e1 : jB B s <;> cases e2 : jB B (!s) <;> simp_all
end Sw
/-! Pairs of cells in the heap; the walk goes one way only. -/
namespace Sw
open PySem PySem.Spec PyProof.Rows L2
inductive Pairs (H : Hp) : List V → List Pr → Prop
  | nil : Pairs H [] []
  | cons {t a b : Addr} {p : Pr} {vs : List V} {ps : List Pr} : H t = some (.tup [.ref a, .ref b]) → H a = some (.tup (cellV p.1)) → H b = some (.tup (cellV p.2)) → Pairs H vs ps → Pairs H (.ref t :: vs) (p :: ps)
theorem Pairs.tps {H H' : Hp} (s : Tps H H') : ∀ {vs : List V} {ps : List Pr}, Pairs H vs ps → Pairs H' vs ps
  | _, _, .nil => .nil
  | _, _, .cons x y z t => .cons (s _ _ x) (s _ _ y) (s _ _ z) (Pairs.tps s t)
theorem Pairs.same {H H' : Hp} (s : Same H H') {vs : List V} {ps : List Pr} (h : Pairs H vs ps) : Pairs H' vs ps := h.tps (.of s)
theorem Pairs.len {H : Hp} : ∀ {vs : List V} {ps : List Pr}, Pairs H vs ps → vs.length = ps.length
  | _, _, .nil => rfl
  | _, _, .cons _ _ _ t => by rw [List.length_cons, List.length_cons, Pairs.len t]
theorem Pairs.app {H : Hp} : ∀ {vs ws : List V} {ps qs : List Pr}, Pairs H vs ps → Pairs H ws qs → Pairs H (vs ++ ws) (ps ++ qs)
  | _, _, _, _, .nil, h => h
  | _, _, _, _, .cons x y z t, h => .cons x y z (Pairs.app t h)
theorem Pairs.get {H : Hp} : ∀ {vs : List V} {ps : List Pr} {i : Nat} {x : V}, Pairs H vs ps → vs[i]? = some x → ∃ t a b p, x = .ref t ∧ ps[i]? = some p ∧ H t = some (.tup [.ref a, .ref b]) ∧ H a = some (.tup (cellV p.1)) ∧ H b = some (.tup (cellV p.2))
  | _, _, _, _, .nil, e => by simp at e
  | _, _, 0, _, .cons x y z _, e => by
    simp at e
    subst e
    exact ⟨_, _, _, _, rfl, rfl, x, y, z⟩
  | _, _, i + 1, _, .cons _ _ _ t, e => Pairs.get (i := i) t (by simpa using e)
def pairD (p : Pr) : PyData := .tuple [cellD p.1, cellD p.2]
theorem pair_dp {K : PySem.W.Frag} {H : Hp} {t a b : Addr} {p : Pr} (x : H t = some (.tup [.ref a, .ref b])) (y : H a = some (.tup (cellV p.1))) (z : H b = some (.tup (cellV p.2))) : Dp K H (.ref t) (pairD p) :=
  .tup (.inl (.inl x)) (.cons (cell_dp y) (.cons (cell_dp z) .nil))
theorem Pairs.dp {K : PySem.W.Frag} {H : Hp} : ∀ {vs : List V} {ps : List Pr}, Pairs H vs ps → DpAll K H vs (ps.map pairD)
  | _, _, .nil => .nil
  | _, _, .cons x y z t => .cons (pair_dp x y z) (Pairs.dp t)
theorem can_pairs : ∀ ps : List Pr, PyData.canLayAll0 (ps.map pairD) = true
  | [] => rfl
  | p :: ps => by
    rw [List.map_cons, PyData.canLayAll0, can_pairs ps]
    rfl
theorem dep_pairs : ∀ ps : List Pr, PyData.depthAll (ps.map pairD) ≤ 2
  | [] => by decide
  | p :: ps => by
    have h := dep_pairs ps
    rw [List.map_cons, PyData.depthAll]
    have e : (pairD p).depth = 2 := rfl
    rw [e]
    omega
theorem shaped_pairs (ps : List Pr) : SeqAt.shaped (.list (ps.map pairD)) = true := by
  unfold SeqAt.shaped
  have h := dep_pairs ps
  rw [show (PyData.list (ps.map pairD)).canLay0 = PyData.canLayAll0 (ps.map pairD) from rfl, can_pairs]
  have : (PyData.list (ps.map pairD)).depth ≤ 64 := by
    rw [PyData.depth]
    omega
  rw [decide_eq_true this]
  rfl
theorem eqv_pairs (ps : List Pr) : PyData.eqv (.list (ps.map pairD)) (.list (ps.map pairD)) = true := SeqAt.eqv_refl _ (can_pairs ps)
/-- the place next to one, round two -/
theorem near_next {a b : Cell} (k : b ∈ near6 a) : ∃ j : Nat, j < 6 ∧ (near6 b)[j]? = some a ∧ (near6 b)[(j + 1) % 6]? = some (ahd a b) ∧ ∀ (m : Nat) (z : Cell), m < j → (near6 b)[m]? = some z → z ≠ a := by
  have nd : (near6 b).Nodup := by
    have e : near6 b = [(b.1 - 1, b.2), (b.1 - 1, b.2 + 1), (b.1, b.2 + 1), (b.1 + 1, b.2), (b.1 + 1, b.2 - 1), (b.1, b.2 - 1)] := rfl
    rw [e]
    simp only [List.nodup_cons, List.mem_cons, Prod.mk.injEq, List.not_mem_nil, or_false, not_or, not_false_eq_true, List.nodup_nil, and_true]
    omega
  have fin : ∀ j : Nat, j < 6 → (near6 b)[j]? = some a → (near6 b)[(j + 1) % 6]? = some (ahd a b) → ∃ j : Nat, j < 6 ∧ (near6 b)[j]? = some a ∧ (near6 b)[(j + 1) % 6]? = some (ahd a b) ∧ ∀ (m : Nat) (z : Cell), m < j → (near6 b)[m]? = some z → z ≠ a := by
    intro j hj e1 e2
    refine ⟨j, hj, e1, e2, fun m z hm ez ea => ?_⟩
    subst ea
    obtain ⟨h1, g1⟩ := List.getElem?_eq_some_iff.mp e1
    obtain ⟨h2, g2⟩ := List.getElem?_eq_some_iff.mp ez
    have := (List.getElem_inj (h₀ := h2) (h₁ := h1) nd).mp (g2.trans g1.symm)
    omega
  have pr : ∀ {x y u v : Int}, x = u → y = v → some ((x, y) : Cell) = some (u, v) := fun p q => by rw [p, q]
  rcases near6_iff.mp k with ⟨x, y⟩ | ⟨x, y⟩ | ⟨x, y⟩ | ⟨x, y⟩ | ⟨x, y⟩ | ⟨x, y⟩
  · exact fin 3 (by decide) (pr (by omega) (by omega)) (pr (by omega) (by omega))
  · exact fin 4 (by decide) (pr (by omega) (by omega)) (pr (by omega) (by omega))
  · exact fin 5 (by decide) (pr (by omega) (by omega)) (pr (by omega) (by omega))
  · exact fin 0 (by decide) (pr (by omega) (by omega)) (pr (by omega) (by omega))
  · exact fin 1 (by decide) (pr (by omega) (by omega)) (pr (by omega) (by omega))
  · exact fin 2 (by decide) (pr (by omega) (by omega)) (pr (by omega) (by omega))
/-! ### the walk, place by place -/
section
variable {g : Cell → Nat} {h w : Nat}
def itW (g : Cell → Nat) (h w : Nat) : Nat → Option Pr
  | 0 => some st0
  | n + 1 => (itW g h w n).bind (stp g h w)
theorem Wk.it {ps : List Pr} {x : Pr} (k : Wk g h w ps x) : 0 < ps.length ∧ itW g h w (ps.length - 1) = some x ∧ ∀ i, i < ps.length → ps[i]? = itW g h w i := by
  induction k with
  | one =>
    refine ⟨Nat.succ_pos _, rfl, fun i hi => ?_⟩
    have : i = 0 := Nat.lt_one_iff.mp hi
    subst this
    rfl
  | @snoc ps x y k' e ih =>
    obtain ⟨p0, e1, al⟩ := ih
    have ll : (ps ++ [y]).length = ps.length + 1 := by rw [List.length_append]; rfl
    have ey : itW g h w ps.length = some y := by
      obtain ⟨m, em⟩ : ∃ m, ps.length = m + 1 := ⟨ps.length - 1, by omega⟩
      rw [em, Nat.add_sub_cancel] at e1
      rw [em]
      show (itW g h w m).bind (stp g h w) = some y
      rw [e1]
      exact e
    refine ⟨by omega, by rw [ll, Nat.add_sub_cancel]; exact ey, fun i hi => ?_⟩
    by_cases hp : i < ps.length
    · rw [List.getElem?_append_left hp]
      exact al i hp
    · have : i = ps.length := by omega
      subst this
      rw [List.getElem?_append_right (Nat.le_refl _), Nat.sub_self, ey]
      rfl
theorem Wk.stop {ps : List Pr} {x : Pr} (k : Wk g h w ps x) (e : stp g h w x = none) : itW g h w ps.length = none := by
  obtain ⟨p0, e1, _⟩ := k.it
  obtain ⟨m, em⟩ : ∃ m, ps.length = m + 1 := ⟨ps.length - 1, by omega⟩
  rw [em, Nat.add_sub_cancel] at e1
  rw [em]
  show (itW g h w m).bind (stp g h w) = none
  rw [e1]
  exact e
theorem Wk.det {ps qs : List Pr} {x y : Pr} (k : Wk g h w ps x) (e : stp g h w x = none) (k' : Wk g h w qs y) (e' : stp g h w y = none) : ps = qs := by
  have s1 := k.stop e
  have s2 := k'.stop e'
  obtain ⟨_, _, a1⟩ := k.it
  obtain ⟨_, _, a2⟩ := k'.it
  have le : ∀ {l m : List Pr}, itW g h w l.length = none → (∀ i, i < m.length → m[i]? = itW g h w i) → m.length ≤ l.length := fun {l m} s a => by
    refine Nat.le_of_not_lt fun hlt => ?_
    have := a l.length hlt
    rw [s, List.getElem?_eq_getElem hlt] at this
    cases this
  have el : ps.length = qs.length := Nat.le_antisymm (le s2 a1) (le s1 a2)
  refine List.ext_getElem? fun i => ?_
  by_cases hi : i < ps.length
  · rw [a1 i hi, a2 i (by omega)]
  · rw [List.getElem?_eq_none (by omega), List.getElem?_eq_none (by omega)]
end
end Sw
/-! The table of a set that gets many items, no two of them of one hash: it has always a free slot, and is laid anew in time. -/
namespace Sw
open PySem PySem.Spec PyProof.Rows L2
/-- the sizes, less one, that a set grows through -/
def Msk (m : Nat) : Prop := m = 7 ∨ m = 31 ∨ m = 127 ∨ m = 511 ∨ m = 2047
/-- n steps from x on never meet 0 -/
def noz (m : Nat) : Nat → Nat → Bool
  | 0, _ => true
  | n + 1, x => !(x == 0) && noz m n ((x * 5 + 1) % (m + 1))
theorem orb_front (m x : Nat) : ∀ d, lcgI m ((x * 5 + 1) % (m + 1)) d = lcgI m x (d + 1)
  | 0 => rfl
  | d + 1 => congrArg (fun y => (y * 5 + 1) % (m + 1)) (orb_front m x d)
theorem noz_at {m : Nat} : ∀ {n x : Nat}, noz m n x = true → ∀ d, d < n → lcgI m x d ≠ 0
  | 0, _, _, _, h => absurd h (Nat.not_lt_zero _)
  | n + 1, x, e, d, h => by
    unfold noz at e
    rw [Bool.and_eq_true] at e
    cases d with
    | zero =>
      intro z
      have z' : x = 0 := z
      rw [z'] at e
      exact absurd e.1 (by decide)
    | succ d =>
      rw [← orb_front]
      exact noz_at e.2 d (by omega)
theorem orb_add (m x a : Nat) : ∀ b, lcgI m x (a + b) = lcgI m (lcgI m x a) b
  | 0 => rfl
  | b + 1 => congrArg (fun y => (y * 5 + 1) % (m + 1)) (orb_add m x a b)
theorem orb_le {m x : Nat} (h : x ≤ m) : ∀ d, lcgI m x d ≤ m
  | 0 => h
  | d + 1 => Nat.le_of_lt_succ (Nat.mod_lt _ (Nat.succ_pos m))
theorem one_step {m : Nat} (hm : Msk m) {x y : Nat} (hx : x ≤ m) (hy : y ≤ m) (e : (x * 5 + 1) % (m + 1) = (y * 5 + 1) % (m + 1)) : x = y := by
  rcases hm with rfl | rfl | rfl | rfl | rfl <;> omega
theorem orb_cancel {m : Nat} (hm : Msk m) {x y : Nat} (hx : x ≤ m) (hy : y ≤ m) : ∀ d, lcgI m x d = lcgI m y d → x = y
  | 0, e => e
  | d + 1, e => orb_cancel hm hx hy d (one_step hm (orb_le hx d) (orb_le hy d) e)
/-- where nothing comes back too soon, all is met -/
theorem orb_all {m : Nat} (hm : Msk m) {x : Nat} (hx : x ≤ m) (nb : ∀ d, 0 < d → d ≤ m → lcgI m x d ≠ x) {j : Nat} (hj : j ≤ m) : ∃ k, k ≤ m ∧ lcgI m x k = j := by
  rcases Classical.em (∃ k, k ≤ m ∧ lcgI m x k = j) with c | c
  · exact c
  exfalso
  have diff : ∀ a b, a < b → b ≤ m → lcgI m x a ≠ lcgI m x b := fun a b ab bm e => by
    have e2 : lcgI m x b = lcgI m (lcgI m x (b - a)) a := by
      rw [← orb_add, show b - a + a = b by omega]
    rw [e2] at e
    exact nb (b - a) (by omega) (by omega) (orb_cancel hm hx (orb_le hx _) a e).symm
  have nd : (j :: (List.range (m + 1)).map (lcgI m x)).Nodup := by
    rw [List.nodup_cons]
    refine ⟨fun z => ?_, ?_⟩
    · obtain ⟨k, hk, e⟩ := List.mem_map.mp z
      exact c ⟨k, Nat.le_of_lt_succ (List.mem_range.mp hk), e⟩
    · refine List.pairwise_map.mpr (List.Pairwise.imp_of_mem (fun {a b} _ hb ab => ?_) (List.pairwise_lt_range (n := m + 1)))
      exact diff a b ab (Nat.le_of_lt_succ (List.mem_range.mp hb))
  have len := nat_nodup_len _ (List.range (m + 1)) nd (fun y hy => by
    rcases List.mem_cons.mp hy with e | hy
    · rw [e]
      exact List.mem_range.mpr (by omega)
    · obtain ⟨k, _, e⟩ := List.mem_map.mp hy
      rw [← e]
      exact List.mem_range.mpr (Nat.lt_succ_of_le (orb_le hx k)))
  rw [List.length_cons, List.length_map, List.length_range] at len
  omega
theorem noz_7 : noz 7 7 1 = true := by decide +kernel
theorem noz_31 : noz 31 31 1 = true := by decide +kernel
theorem noz_127 : noz 127 127 1 = true := by decide +kernel
theorem noz_511 : noz 511 511 1 = true := by decide +kernel
theorem noz_2047 : noz 2047 2047 1 = true := by decide +kernel
theorem no_back {m : Nat} (hm : Msk m) : ∀ d, 0 < d → d ≤ m → lcgI m 0 d ≠ 0 := fun d h0 h1 => by
  have k : noz m m 1 = true := by
    rcases hm with rfl | rfl | rfl | rfl | rfl
    · exact noz_7
    · exact noz_31
    · exact noz_127
    · exact noz_511
    · exact noz_2047
  obtain ⟨d, rfl⟩ : ∃ e, d = e + 1 := ⟨d - 1, by omega⟩
  rw [← orb_front]
  have e1 : (0 * 5 + 1) % (m + 1) = 1 := by
    rcases hm with rfl | rfl | rfl | rfl | rfl <;> rfl
  rw [e1]
  exact noz_at k d (by omega)
theorem orb_meets {m : Nat} (hm : Msk m) {x j : Nat} (hx : x ≤ m) (hj : j ≤ m) : ∃ k, k ≤ m ∧ lcgI m x k = j := by
  obtain ⟨a, ha, ea⟩ := orb_all hm (Nat.zero_le m) (no_back hm) hx
  refine orb_all hm hx (fun d h0 h1 e => ?_) hj
  rw [← ea, ← orb_add, Nat.add_comm, orb_add] at e
  exact no_back hm d h0 h1 (orb_cancel hm (orb_le (Nat.zero_le m) d) (Nat.zero_le m) a e)
theorem starts {m : Nat} (hm : Msk m) (h : Int) {j : Nat} (hj : j ≤ m) : ∃ n, n ≤ m + 12 ∧ runI m (SetTable.bits h) n = j := by
  obtain ⟨k, hk, e⟩ := orb_meets hm (runI_le m (SetTable.bits h) 12) hj
  refine ⟨12 + k, by omega, ?_⟩
  rw [runI_tail (bits_lt h) k, e]

/-! ### a search that meets no equal hash -/
theorem probe_free {t : SetTable} (r : Ris t.place.toList) (hd : t.dummies = #[]) (hm : Msk t.mask) (hl : t.place.size ≤ t.mask) {ha : Nat → Int} {h : Int} (nh : ∀ i j, t.place.toList[i]? = some j → ha i ≠ h) :
    ∃ j, t.probe ha h (t.probeStart h) = some (.empty j none) ∧ j ∉ t.place.toList := by
  obtain ⟨j0, h0, n0⟩ := st_missing t.place.toList (t.mask + 1) (by rw [Array.length_toList]; omega)
  obtain ⟨n, hn, en⟩ := starts hm h (Nat.le_of_lt_succ h0)
  obtain ⟨k, hk, ek⟩ := run_nth t.mask (SetTable.bits h) n
  have hit : (nth t.mask (t.probeStart h) k).j ∉ t.place.toList := by
    rw [start_run, ek]
    show runI t.mask (SetTable.bits h) n ∉ _
    rw [en]
    exact n0
  obtain ⟨K, hK, kout, kin⟩ := st_least (p := fun k => (nth t.mask (t.probeStart h) k).j ∉ t.place.toList) k hit
  have lt : K < 10 * SetTable.turns t.mask := by
    unfold SetTable.turns
    omega
  have inn : ∀ c, c < K → (nth t.mask (t.probeStart h) c).j ∈ t.place.toList := fun c hc => Classical.byContradiction (kin c hc)
  rcases go_spec t r hd ha h _ K (t.probeStart h) rfl lt inn kout with ⟨c, i, _, hi, e, _⟩ | ⟨_, e⟩
  · exact absurd e (nh i _ hi)
  · exact ⟨_, e, kout⟩
/-- a stone put into the free slot -/
theorem put_free {t : SetTable} (r : Ris t.place.toList) (hd : t.dummies = #[]) {j : Nat} (n : j ∉ t.place.toList) :
    Ris (t.put j).1.place.toList ∧ (t.put j).1.dummies = #[] ∧ (t.put j).1.place.size = t.place.size + 1 ∧ (t.put j).1.mask = t.mask ∧ (t.put j).2 ≤ t.place.size := by
  have cut := (below_cut r j).1
  refine ⟨ris_insert r fun e => n ?_, put_dm hd j, ?_, rfl, cut⟩
  · have e' : t.place.toList[SetTable.below t.place j]? = some j := by rw [Array.getElem?_toList]; exact e
    exact List.mem_of_getElem? e'
  · have e := congrArg List.length (put_place t j)
    rw [len_ins _ (by rw [Array.length_toList]; exact cut), Array.length_toList, Array.length_toList] at e
    exact e

/-! ### the table laid anew -/
theorem gap_found {m : Nat} {owner : Array (Option Nat)} {j : Nat} (free : oAt owner j = none) : ∀ (f n i b : Nat), n < f → i ≤ m → (itL m i b n).1 = j →
    ∃ x, SetTable.layClean.free m owner f i b = some x ∧ oAt owner x = none ∧ x ≤ m
  | 0, _, _, _, h, _, _ => absurd h (Nat.not_lt_zero _)
  | f + 1, n, i, b, hn, hi, e => by
    obtain ⟨re, ri, _⟩ := runEnd_bd hi
    rw [free_succ]
    cases g : (List.range (SetTable.runEnd m i + 1 - i)).find? fun k => (oAt owner (i + k)).isNone with
    | some k =>
      have h1 := List.find?_some g
      have h2 := List.mem_range.mp (List.mem_of_find?_eq_some g)
      exact ⟨i + k, rfl, Option.isNone_iff_eq_none.mp h1, by omega⟩
    | none =>
      cases n with
      | zero =>
        have e0 : i = j := e
        have := List.find?_eq_none.mp g 0 (List.mem_range.mpr (by omega))
        rw [Nat.add_zero, e0, free] at this
        exact absurd rfl this
      | succ n => exact gap_found free f n _ _ (by omega) (leap_le m i b) e
theorem fm_set : ∀ (l : List (Option Nat)) (j k : Nat), l[j]? = some none → ((l.set j (some k)).filterMap id).length = (l.filterMap id).length + 1
  | [], j, k, e => by simp at e
  | x :: l, 0, k, e => by
    simp at e
    subst e
    simp
  | x :: l, j + 1, k, e => by
    have ih := fm_set l j k (by simpa using e)
    cases x with
    | none => simpa using ih
    | some y => simpa using ih
theorem fm_gap : ∀ l : List (Option Nat), (l.filterMap id).length < l.length → ∃ j : Nat, l[j]? = some none
  | [], h => absurd h (Nat.not_lt_zero _)
  | none :: l, _ => ⟨0, rfl⟩
  | some y :: l, h => by
    obtain ⟨j, e⟩ := fm_gap l (by simpa using h)
    exact ⟨j + 1, e⟩
/-- n of the slots are taken, by the first n -/
structure Ow (m n : Nat) (owner : Array (Option Nat)) : Prop where
  sz : owner.size = m + 1
  few : (owner.toList.filterMap id).length = n
  lt : ∀ k, some k ∈ owner.toList → k < n
theorem Ow.new (m : Nat) : Ow m 0 (Array.replicate (m + 1) none) where
  sz := by simp
  few := by simp
  lt := fun k h => by simp at h
theorem oAt_get {owner : Array (Option Nat)} {j : Nat} {x : Option Nat} (h : owner.toList[j]? = some x) : oAt owner j = x := by
  rw [Array.getElem?_toList] at h
  show owner.getD j (some 0) = x
  rw [Array.getD_eq_getD_getElem?, h]
  rfl
theorem get_oAt {owner : Array (Option Nat)} {j : Nat} (h : j < owner.size) : owner.toList[j]? = some (oAt owner j) := by
  rw [Array.getElem?_toList, Array.getElem?_eq_getElem h]
  have : owner.getD j (some 0) = owner[j] := by simp [Array.getD, h]
  rw [show oAt owner j = owner[j] from this]
theorem Ow.next {m n : Nat} (hm : Msk m) {owner : Array (Option Nat)} (W : Ow m n owner) (hn : n ≤ m) (h : Int) :
    ∃ j, SetTable.layClean.free m owner (SetTable.turns m) (SetTable.bits h % (m + 1)) (SetTable.bits h) = some j ∧ Ow m (n + 1) (owner.setIfInBounds j (some n)) := by
  obtain ⟨j0, e0⟩ := fm_gap owner.toList (by rw [W.few, Array.length_toList, W.sz]; omega)
  have hj0 : j0 < m + 1 := by
    have := (List.getElem?_eq_some_iff.mp e0).1
    rw [Array.length_toList, W.sz] at this
    exact this
  obtain ⟨q, hq, eq⟩ := starts hm h (Nat.le_of_lt_succ hj0)
  obtain ⟨j, ej, fj, jm⟩ := gap_found (m := m) (oAt_get e0) (SetTable.turns m) q (SetTable.bits h % (m + 1)) (SetTable.bits h) (by unfold SetTable.turns; omega)
    (Nat.le_of_lt_succ (Nat.mod_lt _ (Nat.succ_pos m))) (by rw [itL_run]; exact eq)
  refine ⟨j, ej, ⟨by rw [Array.size_setIfInBounds]; exact W.sz, ?_, fun k hk => ?_⟩⟩
  · rw [Array.toList_setIfInBounds, fm_set _ _ _ (by rw [get_oAt (by rw [W.sz]; omega), fj]), W.few]
  · rw [Array.toList_setIfInBounds] at hk
    rcases List.mem_or_eq_of_mem_set hk with hk | hk
    · have := W.lt k hk
      omega
    · injection hk with hk
      omega
theorem Ow.rest {m : Nat} (hm : Msk m) : ∀ (hs : List Int) (n : Nat) (owner : Array (Option Nat)), Ow m n owner → n + hs.length ≤ m →
    ∃ o', hs.foldl (stepF m) (some (owner, n)) = some (o', n + hs.length) ∧ Ow m (n + hs.length) o'
  | [], n, owner, W, _ => ⟨owner, rfl, W⟩
  | h :: hs, n, owner, W, hl => by
    rw [List.length_cons] at hl
    obtain ⟨j, e, W'⟩ := W.next hm (by omega) h
    obtain ⟨o', f, W2⟩ := Ow.rest hm hs (n + 1) _ W' (by omega)
    have z : n + 1 + hs.length = n + (h :: hs).length := by
      rw [List.length_cons]
      omega
    rw [z] at f W2
    refine ⟨o', ?_, W2⟩
    rw [List.foldl_cons, stepF_some e, f]
theorem range_fm {α β : Type} (a : Array α) (d : α) (f : α → Option β) : (List.range a.size).filterMap (fun j => f (a.getD j d)) = a.toList.filterMap f := by
  have e : a.toList = (List.range a.size).map fun j => a.getD j d := by
    refine List.ext_getElem? fun i => ?_
    rw [List.getElem?_map, Array.getElem?_toList]
    by_cases h : i < a.size
    · rw [Array.getElem?_eq_getElem h, List.getElem?_range h]
      simp [Array.getD, h]
    · rw [Array.getElem?_eq_none (by omega), List.getElem?_eq_none (by rw [List.length_range]; omega)]
      rfl
  rw [e, List.filterMap_map]
  rfl
theorem relaid_free (t : SetTable) {hs : Array Int} {wanted M : Nat} (hw : SetTable.sizeAbove wanted - 1 = M) (hM : Msk M) (hn : hs.size ≤ M) :
    ∃ t' order, t.relaid hs wanted = some (t', order) ∧ order.size = hs.size ∧ (∀ i ∈ order.toList, i < hs.size) ∧ Ris t'.place.toList ∧ t'.place.size = hs.size ∧ t'.mask = M ∧ t'.dummies = #[] := by
  obtain ⟨owner, f, W⟩ := Ow.rest hM hs.toList 0 _ (Ow.new M) (by rw [Array.length_toList]; omega)
  have hz : 0 + hs.toList.length = hs.size := by rw [Array.length_toList]; omega
  rw [hz] at f W
  have lay : SetTable.layClean M hs = some owner := by
    rw [layClean_eq, f]
    rfl
  have hr : t.relaid hs wanted = some (tabOf t M owner, ((liveOf M owner).map (·.2)).toArray) := by
    rw [relaid_eq, hw, lay]
    rfl
  have l2 : (liveOf M owner).map (·.2) = owner.toList.filterMap id := by
    unfold liveOf
    rw [List.map_filterMap, ← W.sz, ← range_fm owner none id]
    refine congrArg (fun f => List.filterMap f _) (funext fun j => ?_)
    cases owner.getD j none <;> rfl
  have len : (liveOf M owner).length = hs.size := by
    have := congrArg List.length l2
    rw [List.length_map, W.few] at this
    exact this
  have ris := ris_live (fun j => owner.getD j none) (List.range (M + 1)) List.pairwise_lt_range
  refine ⟨_, _, hr, ?_, fun i hi => ?_, ris.1, ?_, rfl, rfl⟩
  · rw [List.size_toArray, List.length_map, len]
  · have hi' : i ∈ (liveOf M owner).map (·.2) := hi
    rw [l2] at hi'
    obtain ⟨x, hx, ex⟩ := List.mem_filterMap.mp hi'
    rw [show x = some i from ex] at hx
    exact W.lt i hx
  · show ((liveOf M owner).map (·.1)).toArray.size = _
    rw [List.size_toArray, List.length_map, len]
theorem grow_5 : SetTable.sizeAbove (SetTable.grown 5) - 1 = 31 := by decide +kernel
theorem grow_19 : SetTable.sizeAbove (SetTable.grown 19) - 1 = 127 := by decide +kernel
theorem grow_77 : SetTable.sizeAbove (SetTable.grown 77) - 1 = 511 := by decide +kernel
theorem grow_307 : SetTable.sizeAbove (SetTable.grown 307) - 1 = 2047 := by decide +kernel
/-- full is the table at four counts alone -/
theorem grow_at {m n : Nat} (hm : Msk m) (h1 : n * 5 < m * 3) (h2 : (n + 1) * 5 ≥ m * 3) (h3 : n + 1 ≤ 1200) :
    ∃ M, SetTable.sizeAbove (SetTable.grown (n + 1)) - 1 = M ∧ Msk M ∧ (n + 1) * 5 < M * 3 ∧ SetTable.sizeAbove (SetTable.grown (n + 1)) ≤ 2048 := by
  have c : n + 1 = 5 ∨ n + 1 = 19 ∨ n + 1 = 77 ∨ n + 1 = 307 := by
    rcases hm with rfl | rfl | rfl | rfl | rfl <;> omega
  rcases c with c | c | c | c <;> rw [c]
  · exact ⟨31, grow_5, .inr (.inl rfl), by decide, by have := grow_5; omega⟩
  · exact ⟨127, grow_19, .inr (.inr (.inl rfl)), by decide, by have := grow_19; omega⟩
  · exact ⟨511, grow_77, .inr (.inr (.inr (.inl rfl))), by decide, by have := grow_77; omega⟩
  · exact ⟨2047, grow_307, .inr (.inr (.inr (.inr rfl))), by decide, by have := grow_307; omega⟩
end Sw
/-! set(xs) of a list of nested tuples, no two of one hash. -/
namespace Sw
open PySem PySem.Spec PyProof.Rows L2
section
variable {P : Program} {w : World} {A : Around} {E : Value → Shared → Prop} {s : Shared}
/-- told by its value alone -/
def ByVal (P : Program) (w : World) (A : Around) (E : Value → Shared → Prop) (s : Shared) (f : Nat) (v : Value) : Prop := ∀ Q : Bool → Shared → Prop, Q true s → wpAny (model P w) A (hashByValue f v) Q E s
theorem byVal_tup {f : Nat} {b : Addr} {o : Obj} {vs : Array Value} {n : Nat} (ho : s.heap.get? b = some o) (hc : o.cls = .type "tuple") (hd : o.data = .seq vs n) (ha : ∀ v ∈ vs.toList, ByVal P w A E s f v) : ByVal P w A E s (f + 1) (.ref b) := fun Q q => by
  have T : s.TypeIs (.ref b) "tuple" := ⟨o, ho, hc⟩
  unfold hashByValue
  refine wpAny_bind (wpAny_specialOf T F.slot_tuple_hash.lookup ?_)
  refine (show wpAny _ _ (seqItems? (.ref b) >>= _) _ _ s from wpAny_bind (wpAny_seqItems ho hd (wpAny_bind ?_)))
  show wpAny _ _ (forIn vs _ _) _ _ s
  rw [← Array.forIn_toList]
  refine wpAny_forIn_list _ (fun rest r s' => r.1 = none ∧ s' = s ∧ ∀ v ∈ rest, ByVal P w A E s f v) _ (fun v rest r s' => ?_) (fun r s' => ?_) _ _ ⟨rfl, rfl, ha⟩
  · rintro ⟨hr, rfl, hall⟩
    refine wpAny_bind (hall v List.mem_cons_self _ ?_)
    simp only [Bool.not_true, Bool.false_eq_true, if_false]
    exact wpAny_pure ⟨rfl, rfl, fun u hu => hall u (List.mem_cons_of_mem _ hu)⟩
  · obtain ⟨r1, r2⟩ := r
    rintro ⟨hr, rfl, _⟩
    obtain rfl : r1 = none := hr
    exact wpAny_pure q
/-- a key of numbers alone -/
inductive Nums : NestedKey → Prop
  | num (i : Int) : Nums (.num i)
def nums (k : NestedKey) : Bool := match k with | .num _ => true | _ => false
theorem byVal_num {f : Nat} {k : NestedKey} {v : Value} (hk : nums k = true) (x : NestedIs s.heap k v) : ByVal P w A E s f v := fun Q q => by
  cases x with
  | int i t => cases f <;> exact wpAny_pure q
  | bool e => cases f <;> exact wpAny_pure q
  | none => cases hk
  | text => cases hk
  | tup => cases hk
def flat (k : NestedKey) : Bool := match k with | .tup ks => ks.all nums | _ => false
theorem all_mem {h : Heap} {p : NestedKey → Bool} : ∀ {ks : List NestedKey} {vs : List Value}, NestedAll h ks vs → ks.all p = true → ∀ v ∈ vs, ∃ k, p k = true ∧ NestedIs h k v
  | _, _, .nil, _, v, m => absurd m List.not_mem_nil
  | _, _, .cons x t, e, v, m => by
    rw [List.all_cons, Bool.and_eq_true] at e
    rcases List.mem_cons.mp m with rfl | m
    · exact ⟨_, e.1, x⟩
    · exact all_mem t e.2 v m
theorem byVal_flat {f : Nat} {k : NestedKey} {v : Value} (hk : flat k = true) (x : NestedIs s.heap k v) : ByVal P w A E s (f + 1) v := by
  cases x with
  | tup h1 h2 h3 h4 =>
    refine byVal_tup h1 h2 h3 fun u hu => ?_
    obtain ⟨k, e, z⟩ := all_mem (p := nums) h4 hk u hu
    exact byVal_num e z
  | int => cases hk
  | bool => cases hk
  | none => cases hk
  | text => cases hk
def deep (k : NestedKey) : Bool := match k with | .tup ks => ks.all flat | _ => false
theorem byVal_deep {f : Nat} {k : NestedKey} {v : Value} (hk : deep k = true) (x : NestedIs s.heap k v) : ByVal P w A E s (f + 2) v := by
  cases x with
  | tup h1 h2 h3 h4 =>
    refine byVal_tup h1 h2 h3 fun u hu => ?_
    obtain ⟨k, e, z⟩ := all_mem (p := flat) h4 hk u hu
    exact byVal_flat e z
  | int => cases hk
  | bool => cases hk
  | none => cases hk
  | text => cases hk

/-! ### the set -/
/-- at a stands a set whose entries have these hashes, in some order -/
structure SetQ (h : Heap) (a : Addr) (hs : List Int) : Prop where
  ex : ∃ (o : Obj) (es : Array (Int × Value)) (ep : Nat) (t : SetTable), h.get? a = some o ∧ o.ExactSet ∧ o.data = .set es ep t ∧ es.size = hs.length ∧ (∀ e ∈ es.toList, e.1 ∈ hs) ∧
    Ris t.place.toList ∧ t.place.size = es.size ∧ t.dummies = #[] ∧ Msk t.mask ∧ es.size * 5 < t.mask * 3
theorem fits_q {t : SetTable} {n : Nat} (h1 : t.place.size = n) (h2 : t.dummies = #[]) (h3 : n ≤ t.mask) : t.fits n = true := by
  unfold SetTable.fits SetTable.fill
  rw [h2, h1]
  simp
  exact h3
theorem gave_q {t : SetTable} (m : Msk t.mask) : ¬ t.gaveWay = true := by
  unfold SetTable.gaveWay
  rcases m with e | e | e | e | e <;> rw [e] <;> decide
theorem SetQ.keep {h h' : Heap} {a : Addr} {hs : List Int} (q : SetQ h a hs) (k : ∀ o, h.get? a = some o → h'.get? a = some o) : SetQ h' a hs := by
  obtain ⟨o, es, ep, t, ho, r⟩ := q.ex
  exact ⟨o, es, ep, t, k o ho, r⟩
variable {a : Addr} {o : Obj} {es : Array (Int × Value)} {ep : Nat} {t : SetTable}
theorem search_q {x : Value} {k : Int} {Q : SetFound → Shared → Prop} (ho : s.heap.get? a = some o) (hd : o.data = .set es ep t) (r : Ris t.place.toList) (hz : t.place.size = es.size) (dm : t.dummies = #[]) (hm : Msk t.mask) (few : es.size * 5 < t.mask * 3)
    (nh : ∀ e ∈ es.toList, e.1 ≠ k) (q : ∀ j, j ∉ t.place.toList → Q (.free j false) s) : wpAny (model P w) A (setSearch a x k true) Q E s := by
  have le : es.size ≤ t.mask := by omega
  obtain ⟨j, ej, nj⟩ := probe_free (h := k) (ha := fun i => (es[i]?.map (·.1)).getD 0) r dm hm (by omega) (fun i j hij => by
    have hi : i < es.size := by
      have := (List.getElem?_eq_some_iff.mp hij).1
      rw [Array.length_toList] at this
      omega
    show (es[i]?.map (·.1)).getD 0 ≠ k
    rw [Array.getElem?_eq_getElem hi]
    exact nh _ (Array.getElem_mem_toList hi))
  unfold setSearch
  rw [show (100000 : Nat) = Nat.succ 99999 from rfl, setSearchFrom_succ]
  refine wpAny_bind (wpAny_setState_of ho hd (fits_q hz dm le) ?_)
  dsimp only
  refine wp_if_neg (gave_q hm) ?_
  rw [show (none : Option SetTable.Probe).getD (t.probeStart k) = t.probeStart k from rfl, ej]
  exact wpAny_pure (q j nj)
/-- elements taken by their places -/
theorem took_all (es : Array (Int × Value)) : ∀ l : List Nat, (∀ i ∈ l, i < es.size) → (l.filterMap fun i => es[i]?).length = l.length ∧ ∀ e ∈ l.filterMap (fun i => es[i]?), e ∈ es.toList
  | [], _ => ⟨rfl, fun e h => absurd h List.not_mem_nil⟩
  | i :: l, h => by
    have hi := h i List.mem_cons_self
    obtain ⟨h1, h2⟩ := took_all es l fun j hj => h j (List.mem_cons_of_mem _ hj)
    rw [List.filterMap_cons_some (Array.getElem?_eq_getElem hi)]
    refine ⟨by rw [List.length_cons, h1, List.length_cons], fun e he => ?_⟩
    rcases List.mem_cons.mp he with rfl | he
    · exact Array.getElem_mem_toList hi
    · exact h2 e he
theorem relay_q {wanted M : Nat} {Q : Unit → Shared → Prop} {hs : List Int} (ho : s.heap.get? a = some o) (hex : o.ExactSet) (hd : o.data = .set es ep t) (hz : t.place.size = es.size) (dm : t.dummies = #[]) (le : es.size ≤ t.mask) (hl : es.size = hs.length) (hh : ∀ e ∈ es.toList, e.1 ∈ hs)
    (hw : SetTable.sizeAbove wanted - 1 = M) (hM : Msk M) (big : SetTable.sizeAbove wanted ≤ 2048) (few : es.size * 5 < M * 3) (q : ∀ h', Heap.SameBut a s.heap h' → SetQ h' a hs → Q () { s with heap := h' }) :
    wpAny (model P w) A (setRelay a wanted) Q E s := by
  obtain ⟨t', order, e, n1, n2, r2, z2, m2, d2⟩ := relaid_free t (hs := es.map (·.1)) hw hM (by rw [Array.size_map]; omega)
  rw [Array.size_map] at n1 n2 z2
  obtain ⟨c1, c2⟩ := took_all es order.toList n2
  have tl : (order.filterMap (es[·]?)).toList = order.toList.filterMap fun i => es[i]? := by simp
  have sz : (order.filterMap (es[·]?)).size = es.size := by
    rw [← Array.length_toList, tl, c1, Array.length_toList, n1]
  rw [setRelay_eq]
  refine wpAny_bind (wpAny_setState_of ho hd (fits_q hz dm le) ?_)
  dsimp only
  refine wp_if_neg (by rw [sizeLine_eq]; omega) ?_
  rw [e]
  refine wpAny_bind ?_
  dsimp only
  refine wp_if_neg (by rw [sz]; simp) ?_
  refine wpAny_pure ?_
  refine wpAny_storeSet_of ho hd (q _ (Heap.SameBut.update _ _ _) ⟨_, order.filterMap (es[·]?), ep + 1, t', store_at ho hd, ⟨hex.1, hex.2.1, hex.2.2⟩, rfl, sz.trans hl, fun e he => ?_, r2, z2.trans sz.symm, d2, by rw [m2]; exact hM, by rw [sz, m2]; exact few⟩) (by rw [sz, sizeLine_eq]; omega)
  rw [tl] at he
  exact hh e (c2 e he)
/-- one more is put in -/
theorem add_q {x : Addr} {k : Int} {hs : List Int} {Q : Bool → Shared → Prop} (S : SetQ s.heap a hs) (nk : k ∉ hs) (few : hs.length + 1 ≤ 1200) (bv : ∀ s', s'.heap = s.heap → ByVal P w A E s' 8 (.ref x))
    (q : ∀ h', Heap.SameBut a s.heap h' → SetQ h' a (k :: hs) → Q true { s with heap := h' }) : wpAny (model P w) A (setAddHashed a (.ref x) k) Q E s := by
  obtain ⟨o, es, ep, t, ho, hex, hd, hl, hh, r, hz, dm, hm, room⟩ := S.ex
  have ft : t.fits es.size = true := fits_q hz dm (by omega)
  unfold setAddHashed
  refine wpAny_holding ?_
  rw [show (100000 : Nat) = Nat.succ 99999 from rfl, setAddHashedIn_succ]
  refine wpAny_bind (wpAny_setState_of ho hd ft ?_)
  dsimp only
  refine wp_if_neg (show ¬ byScan (.ref x) es = true from fun z => by cases z) ?_
  refine wpAny_bind (search_q ho hd r hz dm hm room (fun e he z => nk (by rw [← z]; exact hh e he)) fun j nj => ?_)
  dsimp only
  refine wpAny_bind (wpAny_setState_of ho hd ft ?_)
  dsimp only
  obtain ⟨p1, p2, p3, p4, p5⟩ := put_free r dm nj
  generalize t.put j = pt at p1 p2 p3 p4 p5 ⊢
  obtain ⟨t1, p⟩ := pt
  dsimp only at p1 p2 p3 p4 p5 ⊢
  have fin : ∀ t2 : SetTable, t2.place = t1.place → t2.dummies = t1.dummies → t2.mask = t1.mask →
      wpAny (model P w) A (do
        storeSet a (SetTable.insertAt es p (k, Value.ref x)) t2
        if (!false && t2.tooFull) = true then do
            setRelay a (SetTable.grown (es.size + 1))
            pure true
          else pure true) Q E s := fun t2 g1 g2 g3 => by
    have tl := SetTable.toList_insertAt es p (k, Value.ref x)
    have sz : (SetTable.insertAt es p (k, Value.ref x)).size = es.size + 1 := by
      rw [← Array.length_toList, tl, len_ins _ (by rw [Array.length_toList, ← hz]; exact p5), Array.length_toList]
    have hm' : ∀ e ∈ (SetTable.insertAt es p (k, Value.ref x)).toList, e.1 ∈ k :: hs := fun e he => by
      rw [tl] at he
      rcases mem_ins.mp he with rfl | he
      · exact List.mem_cons_self
      · exact List.mem_cons_of_mem _ (hh e he)
    generalize SetTable.insertAt es p (k, Value.ref x) = es1 at sz hm' ⊢
    refine wpAny_bind (wpAny_storeSet_of ho hd ?_ (by rw [sz, sizeLine_eq]; omega))
    have sb := Heap.SameBut.update s.heap a (Obj.putSet es1 t2)
    have h1 := store_at (es' := es1) (t' := t2) ho hd
    generalize s.heap.update a (Obj.putSet es1 t2) = hp at sb h1 ⊢
    have zp : t2.place.size = es1.size := by rw [g1, p3, hz, sz]
    have d2 : t2.dummies = #[] := by rw [g2, p2]
    have m2 : Msk t2.mask := by rw [g3, p4]; exact hm
    have r2 : Ris t2.place.toList := by rw [g1]; exact p1
    have l2 : es1.size = (k :: hs).length := by rw [sz, hl, List.length_cons]
    by_cases full : t2.tooFull = true
    · have fl : (es.size + 1) * 5 ≥ t.mask * 3 := by
        have := full
        unfold SetTable.tooFull SetTable.fill at this
        rw [decide_eq_true_eq, d2, zp, sz, g3, p4] at this
        exact this
      obtain ⟨M, e1, e2, e3, e4⟩ := grow_at hm room fl (by omega)
      refine wp_if_pos (by rw [full]; rfl) (wpAny_bind ?_)
      refine relay_q (s := { s with heap := hp }) (hs := k :: hs) h1 ⟨hex.1, hex.2.1, hex.2.2⟩ rfl zp d2 (by rw [g3, p4]; omega) l2 hm' e1 e2 e4 (by rw [sz]; exact e3) fun h2 sb2 S2 => ?_
      exact wpAny_pure (q h2 (sb.trans sb2) S2)
    · refine wp_if_neg (by rw [Bool.not_eq_true] at full; rw [full]; decide) (wpAny_pure (q hp sb ⟨_, es1, _, t2, h1, ⟨hex.1, hex.2.1, hex.2.2⟩, rfl, l2, hm', r2, zp, d2, m2, ?_⟩))
      unfold SetTable.tooFull SetTable.fill at full
      rw [decide_eq_true_eq, d2, zp] at full
      have : es1.size + (#[] : Array Nat).size = es1.size := Nat.add_zero _
      omega
  by_cases pl : t1.plain = true
  · refine wp_if_pos pl (wpAny_bind (bv s rfl _ ?_))
    exact fin _ rfl rfl rfl
  · refine wp_if_neg pl (wpAny_bind (wpAny_pure ?_))
    exact fin _ rfl rfl rfl
end
end Sw
/-! set(xs), xs a list of nested tuples of numbers, no two of one hash. -/
namespace Sw
open PySem PySem.Spec PyProof.Rows L2
/-- a new set -/
abbrev eSet (w : World) : Obj := { cls := .type "set", dict := none, data := .set #[] 0 (.fresh 0 0 (!w.params.followText "set-order")) }
/-- what is put in: where it stands, and which key it is -/
abbrev KL := List (Addr × NestedKey)
def hsK (w : World) (ks : KL) : List Int := ks.reverse.map fun p => p.2.hash w
theorem hsK_next {w : World} {ks : KL} {i : Nat} {p : Addr × NestedKey} (h : ks[i]? = some p) : hsK w (ks.take (i + 1)) = p.2.hash w :: hsK w (ks.take i) := by
  unfold hsK
  rw [List.take_add_one, h]
  simp
theorem hsK_new {w : World} {ks : KL} (nd : (ks.map fun p => p.2.hash w).Nodup) {i : Nat} {p : Addr × NestedKey} (h : ks[i]? = some p) : p.2.hash w ∉ hsK w (ks.take i) := fun z => by
  unfold hsK at z
  obtain ⟨q, hq, e⟩ := List.mem_map.mp z
  obtain ⟨j, hj, ej⟩ := List.getElem_of_mem (List.mem_reverse.mp hq)
  rw [List.length_take] at hj
  rw [List.getElem_take] at ej
  obtain ⟨hi, ei⟩ := List.getElem?_eq_some_iff.mp h
  have := List.pairwise_iff_getElem.mp nd j i (by rw [List.length_map]; omega) (by rw [List.length_map]; omega) (by omega)
  rw [List.getElem_map, List.getElem_map, ej, ei] at this
  exact this e
structure Keys (P : Program) (w : World) (h : Heap) (ks : KL) : Prop where
  key : ∀ p ∈ ks, NestedIs h p.2 (.ref p.1) ∧ p.2.depth ≤ 8 ∧ deep p.2 = true
  nd : (ks.map fun p => p.2.hash w).Nodup
  few : ks.length ≤ 1200
section
variable {P : Program} {w : World} {A : Around} {E : Value → Shared → Prop} {s : Shared}
theorem new_q {h : Heap} {a : Addr} (ho : h.get? a = some (eSet w)) : SetQ h a [] :=
  ⟨_, #[], 0, _, ho, ⟨rfl, rfl, rfl⟩, rfl, rfl, fun e he => absurd he List.not_mem_nil, List.Pairwise.nil, rfl, rfl, .inl rfl, (show 0 * 5 < 7 * 3 by decide)⟩
theorem key_on {h h' : Heap} {k : NestedKey} {v : Value} (x : NestedIs h k v) (up : ∀ b o, h.get? b = some o → h'.get? b = some o) : NestedIs h' k v := NestedIs.at (fun a o _ _ e _ => up a o e) k v x
/-- the loop of set.update, over what a walk gives -/
theorem loop_q {I : Addr} {fp wr : List Addr} {G : Array GenState → Array GenState → Prop} {n : Nat} {Pv : Nat → Value → Prop} {St : Nat → Shared → Prop} {R : Result → Shared → Prop}
    (W : WalksS P w A.in1 I fp wr G n Pv St) (S : Addr) (out : S ∉ fp) (ks : KL) (len : n = ks.length) (val : ∀ i v, Pv i v → ∃ p, ks[i]? = some p ∧ v = .ref p.1)
    (h0 : Heap) (kk : Keys P w h0 ks) (n0 : h0.get? S = none) (nw : ∀ b ∈ wr, h0.get? b = none) (room : A.in1.units + 8 < cLine) :
    ∀ (d i : Nat) (s : Shared), n = i + d → St i s → (∀ b o, h0.get? b = some o → s.heap.get? b = some o) → SetQ s.heap S (hsK w (ks.take i)) →
      (∀ s', Moved (S :: wr) G s s' → SetQ s'.heap S (hsK w ks) → (∀ b o, h0.get? b = some o → s'.heap.get? b = some o) → R (.ok (.ret .none)) s') →
      codeAny (model P w) A (.builtin "set.update.loop" ⟨[.ref S, .ref I], []⟩) R s := by
  have far : S ∉ wr := fun z => out (W.sub S z)
  have wider : ∀ b ∈ wr, b ∈ S :: wr := fun b => List.mem_cons_of_mem S
  have stays : ∀ {u u' : Shared}, Moved wr G u u' → (∀ b o, h0.get? b = some o → u.heap.get? b = some o) → ∀ b o, h0.get? b = some o → u'.heap.get? b = some o :=
    fun {u u'} mv up b o e => mv.heap b o (fun z => by rw [nw b z] at e; cases e) (up b o e)
  intro d
  induction d with
  | zero =>
    intro i s en st up q fin
    obtain rfl : i = n := by omega
    apply codeAny_builtin F.entry_set_update_loop
    rw [Around.under_plainId (F.plain_set_update_loop) _]
    refine (show wpAny _ A.in1 (pyNext (.ref I) >>= _) _ _ s from wpAny_bind (W.done s _ _ st fun s' mv => ?_))
    rw [len, List.take_length] at q
    exact (show wpAny _ A.in1 (ret Value.none) _ _ s' from wpAny_pure (fin s' (mv.mono wider) (q.keep fun o e => mv.heap S o far e) (stays mv up)))
  | succ d ih =>
    intro i s en st up q fin
    have lt : i < n := by omega
    apply codeAny_builtin F.entry_set_update_loop
    rw [Around.under_plainId (F.plain_set_update_loop) _]
    refine (show wpAny _ A.in1 (pyNext (.ref I) >>= _) _ _ s from wpAny_bind (W.item i s _ _ lt st fun v s' pv st' mv => ?_))
    obtain ⟨p, hp, rfl⟩ := val i v pv
    have up' := stays mv up
    have q' : SetQ s'.heap S (hsK w (ks.take i)) := q.keep fun o e => mv.heap S o far e
    obtain ⟨x0, dp, dq⟩ := kk.key p (List.mem_of_getElem? hp)
    have x : NestedIs s'.heap p.2 (.ref p.1) := key_on x0 up'
    have lk : (hsK w (ks.take i)).length = i := by
      unfold hsK
      rw [List.length_map, List.length_reverse, List.length_take]
      omega
    have few := kk.few
    refine (show wpAny _ A.in1 (holding [Value.ref p.1] (setAdd S (.ref p.1)) >>= _) _ _ s' from wpAny_bind (wpAny_holding ?_))
    unfold setAdd
    refine wpAny_holding (wpAny_bind ((nestedKind P w).pyHash (k := p.2) (a := p.1) room ⟨x, dp⟩ ?_))
    refine add_q (s := { s' with toks := s'.toks + (nestedKind P w).draws p.2 }) q' (hsK_new kk.nd hp) (by rw [lk]; omega) (fun u eu => byVal_deep (f := 6) dq (by rw [eu]; exact x)) fun h' sb q2 => ?_
    have up2 : ∀ b o, h0.get? b = some o → h'.get? b = some o := fun b o e => (sb.2 b (fun z => by rw [z, n0] at e; cases e)).trans (up' b o e)
    have q3 : SetQ h' S (hsK w (ks.take (i + 1))) := by rw [hsK_next hp]; exact q2
    have fr : ∀ b ∈ fp, ∀ o, s'.heap.get? b = some o → h'.get? b = some o := fun b hb o e => (sb.2 b (fun z : b = S => out (z ▸ hb))).trans e
    refine wpAny_pure ⟨plainId_quiet F.plain_set_update_loop _, ih (i + 1) _ (by omega) (W.frame _ s' _ _ st' (Nat.le_add_right _ _) fr) up2 q3 fun s2 mv2 q4 up4 => fin s2 (Moved.trans W.gtrans ((mv.mono wider).then_heap (Nat.le_add_right _ _) fun b o hb e => ?_) mv2) q4 up4⟩
    exact (sb.2 b (fun z : b = S => hb (z ▸ List.mem_cons_self))).trans e
end
end Sw
/-! set(xs), the call. -/
namespace Sw
open PySem PySem.Spec PyProof.Rows L2
section
variable {P : Program} {w : World} {A : Around} {E : Value → Shared → Prop} {s : Shared}
theorem none_past {h : Heap} {b : Addr} (hb : h.objs.size ≤ b) : h.get? b = none := by
  cases e : h.get? b with
  | none => rfl
  | some o => exact absurd (Heap.lt_size e) (Nat.not_lt.mpr hb)
theorem call_set_q {l : Addr} {items : Array Value} (ks : KL) {Q : Value → Shared → Prop} (calm : A.handled = none) (hl : s.heap.IsList l items) (it : items.toList = ks.map fun p => Value.ref p.1)
    (kk : Keys P w s.heap ks) (room : A.units + 11 < cLine)
    (q : ∀ (h' : Heap) (tk : Nat), SetQ h' s.heap.objs.size (hsK w ks) → (∀ b o, s.heap.get? b = some o → h'.get? b = some o) → Q (.ref s.heap.objs.size) { s with heap := h', toks := tk }) :
    wpAny (model P w) A (call (.type "set") [.ref l]) Q E s := by
  have sz : items.size = ks.length := by
    rw [← Array.length_toList, it, List.length_map]
  obtain ⟨_, _, mro⟩ := F.called_set.mro
  have made := F.called_set.made
  have sub := F.called_set.sub
  apply wpAny_call
  apply codeAny_of_tree
  refine (show wpAny _ _ (callAny (.type "set") _) _ _ _ from wpAny_pure ⟨Code.quiet_builtin _ (by decide +kernel), codeAny_builtin F.entry_type_call ?_⟩)
  rw [Around.under_plain (weight_type_call_type "set" [Value.ref l] []) rfl]
  have nt := F.called_set.notType
  have cc := F.called_set.canCreate
  have ct := F.typeCall_set_1 (.ref l)
  repeat any_goals first | assumption | wp_step
  refine codeAny_mono (code_set_led1 (Value.ref l) (E := E) (Q₁ := fun v s1 => v = .ref s.heap.objs.size ∧ s1 = { s with heap := s.heap.push (eSet w) }) ⟨rfl, rfl⟩) fun r s1 hr => ?_
  rcases r with _ | fl
  · exact hr
  cases fl with
  | ret v =>
    obtain ⟨rfl, rfl⟩ := hr
    have S1 : (s.heap.push (eSet w)).get? s.heap.objs.size = some (eSet w) := Heap.get?_push_size _ rfl
    have T1 : Shared.TypeIs { s with heap := s.heap.push (eSet w) } (.ref s.heap.objs.size) "set" := ⟨_, S1, rfl⟩
    have il := F.called_set.init.lookup
    have ib := F.called_set.init.bind (Value.ref s.heap.objs.size)
    repeat any_goals first | assumption | wp_step
    refine codeAny_mono (codeAny_call_builtin (R := wants (fun v s2 => v = .none ∧ ∃ h' tk, s2 = { s with heap := h', toks := tk } ∧ SetQ h' s.heap.objs.size (hsK w ks) ∧ ∀ b o, s.heap.get? b = some o → h'.get? b = some o) E)
      F.called_set.init.plain F.entry_set_init (check_set_init_1 T1 ?_)) fun r2 s2 hr2 => ?_
    · obtain ⟨⟨lc, ldict, ldata, lslots⟩, lo, lcl, ln, ld⟩ := hl
      obtain rfl : lc = .type "list" := lcl
      obtain rfl : ldata = .seq items ln := ld
      have lo1 : (s.heap.push (eSet w)).get? l = some { cls := .type "list", dict := ldict, data := .seq items ln, slots := lslots } := Heap.get?_push_of_some _ lo
      have n1 := F.sub_list_set
      have n2 := F.sub_list_frozenset
      have n3 : (Value.type "list" == Value.type "dict") = false := by decide
      have il1 : (s.heap.push (eSet w)).IsList l items := ⟨_, lo1, rfl, ln, rfl⟩
      unfold Builtin.«set.__init__» noKeywords Builtin.Frozenset.updateFrom
      generalize PI_ : pyIter = PI
      wp_walk
      subst PI_
      refine wpAny_pyIter_list il1 (wpAny_bind (wpAny_runValue ?_))
      have ll : l < s.heap.objs.size := Heap.lt_size lo
      have size1 : (s.heap.push (eSet w)).objs.size = s.heap.objs.size + 1 := Heap.size_push ..
      have far : l ≠ (s.heap.push (eSet w)).objs.size := by
        rw [size1]
        exact Nat.ne_of_lt (Nat.lt_succ_of_lt ll)
      refine loop_q ((Walks.list (by simp [calm]) _ l far items).toS) s.heap.objs.size (fun z => ?_) ks sz (fun i v e => ?_) s.heap kk (none_past (Nat.le_refl _)) (fun b hb => ?_) (by simp only [Around.in1_units]; omega)
        items.size 0 _ (by omega) ⟨⟨_, Heap.get?_push_size _ rfl, rfl, rfl⟩, il1.push _⟩ (fun b o e => Heap.get?_push_of_some _ (Heap.get?_push_of_some _ e)) (new_q (Heap.get?_push_of_some _ S1)) fun s3 mv q3 up => ?_
      · rcases List.mem_cons.mp z with z | z
        · rw [size1] at z
          exact absurd z (Nat.ne_of_lt (Nat.lt_succ_self _))
        · exact absurd (List.mem_singleton.mp z) (Nat.ne_of_gt ll)
      · have e' : items.toList[i]? = some v := by rw [Array.getElem?_toList]; exact e
        rw [it, List.getElem?_map] at e'
        obtain ⟨p, hp, ep⟩ := Option.map_eq_some_iff.mp e'
        exact ⟨p, hp, ep.symm⟩
      · rw [List.mem_singleton.mp hb, size1]
        exact none_past (Nat.le_succ _)
      · obtain ⟨h3, g3, d3, k3, o3⟩ := s3
        obtain rfl : g3 = s.gens := mv.gens
        obtain rfl : d3 = s.drawn := mv.drawn
        obtain rfl : o3 = s.os := mv.os
        apply wpAny_pure
        exact (show wpAny _ _ (ret Value.none) _ _ _ from wpAny_pure ⟨rfl, h3, k3, rfl, q3, up⟩)
    · rcases r2 with _ | fl2
      · exact hr2
      cases fl2 with
      | ret v =>
        obtain ⟨rfl, h3, k3, rfl, q3, up⟩ := hr2
        repeat any_goals first | assumption | wp_step
        exact q _ _ q3 up
      | _ => exact hr2.elim
  | _ => exact hr.elim
end
end Sw
/-! How many different pairs the walk has. -/
namespace Sw
open PySem PySem.Spec PyProof.Rows L2
/-- a pair of cells as a key -/
def kP (p : Pr) : NestedKey := .tup [.tup [.num p.1.1, .num p.1.2], .tup [.num p.2.1, .num p.2.2]]
def hC (c : Cell) : Int := reduceHash (Builtin.Tuple.tupleHashOf [hashInt c.1, hashInt c.2])
def hP (p : Pr) : Int := reduceHash (Builtin.Tuple.tupleHashOf [hC p.1, hC p.2])
theorem hash_kP (w : World) (p : Pr) : (kP p).hash w = hP p := by
  unfold kP hP hC
  simp only [NestedKey.hash, NestedKey.hashes]
theorem hash_list (w : World) : ∀ qs : List (Addr × Pr), (qs.map fun q => (q.1, kP q.2)).map (fun p : Addr × NestedKey => p.2.hash w) = (qs.map fun q => q.2).map hP
  | [] => rfl
  | q :: qs => by
    rw [List.map_cons, List.map_cons, List.map_cons, List.map_cons, hash_list w qs, ← hash_kP w q.2]
theorem depth_kP (p : Pr) : (kP p).depth ≤ 8 := by
  unfold kP
  simp only [NestedKey.depth, NestedKey.depthAll]
  decide
theorem deep_kP (p : Pr) : deep (kP p) = true := rfl
/-- at t stands the pair -/
def PairAt (H : Hp) (t : Addr) (p : Pr) : Prop := ∃ a b, H t = some (.tup [.ref a, .ref b]) ∧ H a = some (.tup (cellV p.1)) ∧ H b = some (.tup (cellV p.2))
theorem Pairs.split {H : Hp} : ∀ {ws : List V} {ps : List Pr}, Pairs H ws ps → ∃ qs : List (Addr × Pr), ws = qs.map (fun q => V.ref q.1) ∧ qs.map (·.2) = ps ∧ ∀ q ∈ qs, PairAt H q.1 q.2
  | _, _, .nil => ⟨[], rfl, rfl, fun q hq => nomatch hq⟩
  | _, _, .cons (t := t) (a := a) (b := b) (p := p) x y z k => by
    obtain ⟨qs, e1, e2, e3⟩ := Pairs.split k
    refine ⟨(t, p) :: qs, by rw [e1]; rfl, by rw [List.map_cons, e2], fun q hq => ?_⟩
    rcases List.mem_cons.mp hq with rfl | hq
    · exact ⟨a, b, x, y, z⟩
    · exact e3 q hq
theorem cell_is {P : Program} {w : World} {H : Hp} {h : Heap} {a : Addr} {c : Cell} (ok : HOk P w H h) (k : H a = some (.tup (cellV c))) : NestedIs h (.tup [.num c.1, .num c.2]) (.ref a) := by
  obtain ⟨_, its, v, o, g1, g2, n, g3⟩ := (show ObjOk P w H h a (.tup _) from ok a _ k)
  refine .tup g1 g2 g3 ?_
  cases v with
  | cons e1 v => cases v with
    | cons e2 v => cases v with
      | nil =>
        obtain ⟨t1, rfl⟩ := (show ∃ t, _ = Value.int c.1 t from e1)
        obtain ⟨t2, rfl⟩ := (show ∃ t, _ = Value.int c.2 t from e2)
        exact .cons (.int _ _) (.cons (.int _ _) .nil)
theorem PairAt.is {P : Program} {w : World} {H : Hp} {h : Heap} {t : Addr} {p : Pr} (ok : HOk P w H h) (k : PairAt H t p) : NestedIs h (kP p) (.ref t) := by
  obtain ⟨a, b, x, y, z⟩ := k
  obtain ⟨_, its, v, o, g1, g2, n, g3⟩ := (show ObjOk P w H h t (.tup _) from ok t _ x)
  refine .tup g1 g2 g3 ?_
  cases v with
  | cons e1 v => cases v with
    | cons e2 v => cases v with
      | nil =>
        obtain rfl := (show _ = Value.ref a from e1)
        obtain rfl := (show _ = Value.ref b from e2)
        exact .cons (cell_is ok y) (.cons (cell_is ok z) .nil)
def tLenSetP (ta : TE) : TE := fun σ H Q => ta σ H fun x H1 => ∃ (l : Addr) (ws : List V) (ps : List Pr), x = .ref l ∧ H1 l = some (.lst ws) ∧ Pairs H1 ws ps ∧ (ps.map hP).Nodup ∧ ps.length ≤ 1200 ∧ Q (.int ((ps.length : Nat) : Int)) H1
theorem pe_lenSetP {X : Cx} {a : Expr} {ta : TE} {p p2 q pos : Pos} (hg : Gl X "len") (hm : X.mg "len" = none) (hg2 : Gl X "set") (hm2 : X.mg "set" = none) (hu : X.A.units + 65 < cLine) (ha : PE X a ta) (hc : X.calm = true := by rfl)
    (na : starEach [a] X.env = (false, eval a X.env) :: starEach [] X.env := by rfl) : PE X (.Call (.Name "len" p) [.Call (.Name "set" p2) [a] [] q] [] pos) (tLenSetP ta) := by
  refine ⟨fun pins s σ H Q I h => ?_⟩
  refine Call_ (ld_blt I hg hm boot_len ?_)
  refine PyProof.Rows.callWith_builtin1 (PyProof.Rows.args_cons ?_ rfl) rfl rfl
  refine Call_ (ld_blt I hg2 hm2 boot_set ?_)
  refine PyProof.Rows.callWith_type1 (PyProof.Rows.args_cons (thn (ha.run pins s σ H _ I h) fun v s1 ⟨x, H1, I1, r1, q1⟩ => PyProof.Rows.args_nil ?_) na) na rfl
  obtain ⟨l, ws, ps, rfl, hq, hps, hnd, few, q1⟩ := q1
  cases r1
  obtain ⟨qs, rfl, rfl, e3⟩ := hps.split
  obtain ⟨its, r, pl, hz⟩ := I1.list (SqL.of (K := X.K) hq)
  have ev : its = (qs.map fun q => (q.1, kP q.2)).map fun p => Value.ref p.1 := by
    have := refs_of_vals (ks := qs.map fun q => (q.1, ([] : List Int))) (us := its) (by rw [List.map_map]; exact r)
    rw [this, List.map_map, List.map_map]
    rfl
  have kk : Keys X.prog X.w s1.heap (qs.map fun q => (q.1, kP q.2)) := by
    refine ⟨fun p hp => ?_, ?_, by rw [List.length_map] at few ⊢; exact few⟩
    · obtain ⟨q, hq, rfl⟩ := List.mem_map.mp hp
      exact ⟨(e3 q hq).is I1.hok, depth_kP _, deep_kP _⟩
    · rw [hash_list]
      exact hnd
  refine call_set_q (P := X.prog) (w := X.w) (qs.map fun q => (q.1, kP q.2)) (I1.ok.hd hc) pl.isList (by simpa using ev) kk (by omega) fun h' tk S k => ?_
  refine PyProof.Rows.args_nil ?_
  obtain ⟨o, es, ep, t, ho, hex, hd, hl, _, _, hz2, dm, hm3, room⟩ := S.ex
  have le : es.size = (qs.map (·.2)).length := by
    rw [hl]
    unfold hsK
    rw [List.length_map, List.length_reverse, List.length_map, List.length_map]
  have I2 : Inv X pins σ H1 { s1 with heap := h', toks := tk } := I1.kept k
  exact call_len_set ho hex hd (fits_q hz2 dm (by omega)) (by omega) ⟨.int (((qs.map (·.2)).length : Nat) : Int), H1, I2.tok _, ⟨_, by rw [le]⟩, q1⟩

/-! ### no two pairs of a walk have one hash -/
def rng (r : Nat) : Int := (r : Int) - 1
def inW (p : Pr) : Bool := decide (-1 ≤ p.2.1) && decide (p.2.1 ≤ 9) && decide (-1 ≤ p.2.2) && decide (p.2.2 ≤ 9)
def allP : List Pr := (List.range 11).flatMap fun r => (List.range 11).flatMap fun c => ((near6 (rng r, rng c)).map fun b => ((rng r, rng c), b)).filter inW
def hN (p : Pr) : Nat := (hP p % 18446744073709551616).toNat
def dupFree : List Nat → Bool
  | [] => true
  | x :: l => !(l.any fun y => Nat.beq x y) && dupFree l
theorem dup_nodup : ∀ {l : List Nat}, dupFree l = true → l.Nodup
  | [], _ => List.nodup_nil
  | x :: l, e => by
    unfold dupFree at e
    rw [Bool.and_eq_true, Bool.not_eq_true'] at e
    rw [List.nodup_cons]
    refine ⟨fun m => ?_, dup_nodup e.2⟩
    rw [List.any_eq_true.mpr ⟨x, m, Nat.beq_refl x⟩] at e
    cases e.1
def hLits : List Nat := [11677129832156884151, 2103407007758341827, 8003533332253050138, 17417516289383979309, 5538599275048661393, 17281791775837069289, 2270554097818016493, 3345063042036334817,
  17456209211320815059, 3750300236309344676, 16970027375045462015, 7937266258466839570, 2308223629764014174, 3029439827238582, 5262475506097583899, 24350586124112949,
  14135496755408593191, 429587780397122808, 15169610397785002455, 9931485477811531505, 5595887573386460131, 3290693383449684539, 13231267359955120305, 3465110818933430309,
  9970178399748367255, 3870348013206440168, 645914289280397066, 13854533443016477732, 15831569402783195632, 2125660427771725249, 4822473983159992920, 7190427651656065266,
  13695495232471002212, 11390301042534226620, 8913994282271177723, 3675869362297706773, 6386300746507492224, 18129493247295900120, 9298970069641928052, 15804037650456864998,
  9100486077535721278, 2771189853608686657, 14650106867944004573, 14307629152230291468, 15721045789280654161, 6211950086418004017, 6149190607858707263, 12852742180779850983,
  7761091237015276730, 9930560913405142302, 3684256550654318518, 5345063702710134221, 10974106331412959617, 6233271232714878384, 14500283441776950230, 6956964331866703688,
  7713017371206206567, 9937266919140638974, 2828478151946485395, 9532029724867629115, 10753012645294844136, 13463444029504629587, 11011775863358957298, 14311557745502546098,
  3408132781703241024, 13906320551229536239, 8814669607464961986, 17837734855866536711, 12281154031014250316, 2604005876554667982, 18340318566054434147, 6597126065266026251,
  15553861812226635486, 3612185319332020816, 8766595741655891823, 4132893664783775139, 9158215107107383902, 11463409297044159494, 17082749600455742643, 1346436910955976478,
  12943155435535487677, 10966778732967863226, 4461711152152926280, 11165262725074070000, 12386245645501285021, 444569152606670351, 12645008863565398183, 8701030324591818888,
  13036628229016890262, 8295793130318809029, 3204142186554234776, 16625564817940177629, 3462905404618347938, 13564719138691771794, 7059651557876834848, 13763203130797978568,
  8067831000654187682, 15176619767848341261, 15932672807187844140, 11298970730315727456, 5802082592278143344, 12307150173093080290, 6060845810342256506, 5201240961344958085,
  10034128687045419176, 9278075647705916297, 3040992309750510900, 13469320954335738742, 17804918858760810116, 1809842951196930789, 11309072302741291557, 13478541979131157129,
  14882737591386101435, 17645880648215334596, 16228893988283303167, 17387117430151221434, 16175355534519424800, 11150034092195816037, 12554229704450760343, 10597447322953266828,
  10534687844393970074, 2732605516419610370, 4038841288374451515, 10543908869189388461, 417715458305787058, 3122184539710729207, 14460139846226127244, 2863421321646616045,
  12362650673190976813, 15073082057400762264, 4343167460137944228, 5983290142763290938, 17924966635657905608, 12770556213334034601, 28405294563692258, 6533472875378629204,
  891639198998716685, 6562944772520046567, 11588266214843655330, 13350210843090790230, 4402696120925599382, 67098216500528008, 1471293828755472314, 15827585387282547938,
  9322517806467610992, 4168107384143739985, 13667336735688100753, 4243657910380123862, 5647853522635068168, 3242232316607824699, 7577830221032896073, 13824134583783719857,
  1081983665013377514, 7587051245828314460, 11509244525669896545, 7616523142969731823, 8157484850789651702, 14403789213540475486, 5456274491375284638, 8166705875585070089,
  9570901487840014395, 952417351609319357, 17238912773724423788, 5297236280829809118, 6701431893084753424, 8370937215672452827, 6201467539282587255, 4797271927027642949,
  2940378579075834205, 4809340046391443524, 12352659156301690066, 8430465876460107981, 68504947693362291, 1548251086184690474, 5574614110526364790, 10670731049426271901,
  3561942282232118322, 14291856879494936358, 16770561435968198988, 12434963531543127614, 15771603017986264541, 7801261454671010930, 12826582896994619693, 4420029882649348724,
  14504813027592154650, 2563136534697539980, 6589499559039214296, 12022455991846046651, 5517388411031109705, 11159222087411022224, 279263491057638755, 9302328739459213480,
  17727049146785255924, 17645556699190267930, 3534410529905787688, 2130214917650843382, 5902364198401860034, 12407431779216796980, 4299684594040708954, 4062501439580669220,
  16004177932475283890, 12081984652633701805, 3720023723866956115, 6430455108076741566, 2721065305885021668, 8591674627792043023, 13616996070115651786, 12212800457860707480,
  14691505014333970110, 10355907109908898736, 13692546596352035663, 741788983668447352, 16478101673168213517, 3673191275838574420, 7445340556589591072, 1816297927886765676,
  10241018335212808120, 5116079810030354476, 17057756302924969146, 15653560690670024840, 11819631382951498196, 7484033478526426822, 10820672964969563749, 2850331401654310138,
  5155525591591085730, 11660593172406022676, 7951203370214302778, 13465165572157707939, 11295695895767842367, 7959056409324705440, 1721973071369300043, 2408700289712091857,
  14480051020670557445, 3407658707694026304, 4713894479648867449, 18327750827657957974, 7597836230395139938, 14518743942607393195, 8013676361792456249, 3987313337450781933,
  9088185306010774573, 16196974073204928152, 13202812302475504330, 12252995534231348857, 12190236055672052103, 13251953952213283304, 14558189724168124449, 13327504478449667181,
  14731700090704611487, 10508307948796633938, 18051627058706880480, 666600881538560065, 12813502138733409530, 12876261617292706284, 2146347020029888248, 3844202157436221472,
  1133770773226436021, 4843160575418155919, 14342389926962516687, 17052821311172302138, 11410987634792389619, 8218492983798128596, 13243814426121737359, 9217451401780063043,
  14922044556719272316, 2980368063824657646, 11990642264549145248, 18170262718780987019, 264480352891355282, 15374584940157769971, 2028712835008210995, 15450135466394153848,
  16854331078649098154, 4897780527885906728, 9233378432310978102, 5896738945867841175, 11601332100807050448, 18106399681621987394, 7376485084359169358, 9761469341985859634,
  3256401761170922688, 6965791563362642586, 16465020914907003354, 12129423010481931980, 13533618622736876286, 7495720933609815296, 9800915123546590888, 2257596013636344346,
  10664149027981615315, 5484393237665859458, 4004647099174531275, 2600451486919586969, 4013868123969949662, 3041481983480482713, 331050599270697262, 5972884275650609781,
  881233331886035528, 3050703008275901100, 8205113430599772107, 13146348007650212539, 6641280426835275593, 17371195024098093629, 10986099356055765354, 6650501451630693980,
  404197088879870196, 18320609890464683864, 4899187259078741011, 14939378318443021658, 5449369991694079277, 4218684745975622009, 9373095168299493016, 4095060353930167969,
  16036736846824782639, 7026462646100295037, 1934811702335720784, 16045957871620201026, 9799653508869377242, 10405290181494746300, 14740888085919817674, 13336692473664873368,
  8245041529900299115, 14750109110715236061, 15506162150054738940, 14581849875374342154, 11871418491164556703, 4154589014717823123, 5375571935145038144, 8086003319354823595,
  5634335153209151306, 5791133001304770410, 11420175630007595806, 10015980017752651500, 4924329073988077247, 17742030518994803467, 11495726156243979683, 11261137419462120286,
  8550706035252334835, 14192539711632247354, 9100888767867673101, 4765290863442601727, 2313622697296929438, 15635428245824027410, 9130360665009090464, 7726165052754146158,
  13475179594229580225, 9139581689804508851, 2893277327053685067, 13369679837447983072, 6811073802869167759, 17714498766668472833, 23807732298424096, 16768127129925268499,
  7552628164900546102, 2398217742576675095, 541324394624866351, 1762143289025034243, 6097741193450105617, 12344045556200929401, 16116194836951946053, 17595940975443274236,
  3175559926075396936, 5293614288301532575, 17925014319094684634, 17168961279755181755, 8807000350988436065, 15312067931803373011, 14250350035262141810, 16888174906822363991,
  2777028737537883749, 9023333100288707533, 7707401460156818668, 7770160938716115422, 10503079238780035716, 9861750948109576324, 7151319563899790873, 9602987730045463162,
  12081692286518725792, 12144451765078022546, 4770100004345002071, 6992281353354315353, 487213772539378407, 18177904806909427144, 17551696704676075668, 16321011458957618400,
  1900630409589741100, 5413662065198628067, 10438983507522236830, 5888294271577582456, 1320969539415988261, 4031400923625773712, 322011121434053814, 3671568897442093485,
  15613245390336708155, 14857192350997205276, 6495231422230459586, 13000299003045396532, 16336938489488533459, 9981798725006671816, 14317396629431743190, 2116956918473015358,
  801025278341126493, 863784756900423247, 4890147781242097563, 13513269724283170148, 7008202143468233202, 13254506506219056986, 5022219815516162214, 11397613158267248242,
  8421618780518595895, 6849163932922757682, 2756471407140117876, 9261538987955054822, 5552149185763334924, 11066111387706740085, 1850612422682017688, 5560002224873737586,
  17769662960627883805, 14058032795986307491, 18393630700411378865, 15660712400347458571, 2314840295197899595, 8882667354572133295, 5198782045944172084, 4186205799140719857,
  5416891044859177125, 12791242805592197600, 17892114774152190240, 6554159467636792203, 3559997696907368381, 5455583966796012875, 9791181871221084249, 5764818846879409933,
  25025330199394253, 10928450293998699327, 15540367111738818801, 8987054966072511207, 2481987385257574261, 17592091972523988950, 8644577250358798102, 17667642498760372827,
  625094037305765517, 1445147972985253618, 17181460662485019783, 2444106390967188065, 15151056947996724001, 7607737838086477459, 15324567314533211039, 5819438799347160742,
  7050124045065618010, 14424475805798638485, 8124632989283936334, 8187392467843233088, 5193230697113809266, 11289443217504510618, 4180654450310357039, 154291425968682723,
  9653520777513043491, 12363952161722828942, 6722118485342916423, 9107102742969606699, 13442700647394678073, 10106061160951541146, 15810654315890750419, 10181611687187925023,
  7791171102837717834, 15251264273255157397, 8746196692440220451, 5409557205997083524, 14908786557541444292, 17619217941751229743, 6889303344488411707, 12985515864879113059,
  8244680766181031826, 701361656270785284, 16153943959250913078, 17133725743940075092, 15653979605448746909, 201397302468619115, 16791248028226361987, 1485247626114923651,
  2026209333934843530, 4416649918285050719, 8188799199036067371, 9668545337527395554, 13694908361869069870, 6952657626594093190, 18290612933109491227, 2838030630129363433,
  13052488013136020277, 8716890108710948903, 12053529595154085830, 4083188031838832219, 8418785936263903593, 701956459817170013, 10786739604759975939, 17291807185574912885,
  13582417383383192987, 8008640033670989389, 13637682662373814785, 12233487050118870479, 14712191606592133109, 17422622990801918560, 13713233188610198662, 762475575926610351,
  5098073480351681725, 3693877868096737419, 7466027148847754071, 1836984520144928675, 10261704927470971119, 12182795690923374300, 5677728110108437354, 8068168694458644543,
  11840317975209661195, 14550749359419446646, 10841359557227726748, 5716421032045273104, 10052018936470344478, 2335189460023610898, 11816251418587200191, 478296112071802154,
  15215650383589633872, 15174717099202941706, 6151651850801366981, 11793485527181279500, 3431524598414533810, 9936592179229470756, 6227202377037750858, 13236374061373059556,
  6731306480558122610, 5327110868303178304, 15541568251309835148, 3470217520351369560, 14542609833327900701, 6572268270012647090, 13275819842933790810, 1334143350039176140,
  16071497621557007858, 3138715749790861403, 12369960858475690622, 16079350660667410520, 16154901186903794397, 6130637158070428809, 10466235062495500183, 7129595576052363256,
  12834188730991572529, 14313934869482900712, 8672101193102988193, 10504927984432335933, 11045889692252255812, 7709250205809118885, 17208479557353479653, 1472166867853713488,
  14277077265183352585, 8239179576056291595, 1863786233305205567, 9238137994038226042, 10544373765993067187, 3001054656082820645, 6892885353396823, 6790234525964455227,
  14333553635874701769, 15395271532415932970, 9095428715901230819, 15470822058652316847, 16875017670907261153, 11964496408778926552, 4855707641584772973, 12963454826760860999,
  18064326795320853639, 18127086273880150393, 7397171676617332357, 9782155934244022633, 14117753838669094007, 10781114352225957080, 16485707507165166353, 4544031014270551683,
  13554305214995039285, 2755731975531234966, 15387132006324387025, 11360768981982712709, 2413254259817521861, 5123685644027307312, 17928596041356946409, 1179707105053728017,
  5515305009478799391, 2178665523035662464, 7883258677974871737, 2254216049272046341, 3658411661526990647, 17881763593328564714, 11376696012513627768, 8040056526070490841,
  17539285877614851609, 1802973188115085444, 9519802664561819024, 11217657801968152248, 10875180086254439143, 17380247667069376089, 337699205614768779, 1766319814833680747,
  286573676342352564, 17329122137796959874, 16892351432631010495, 9783562665436856916, 1377009651091585947, 16967901958867394372, 2819898185283366003, 10363217295193612545,
  13357379065923036367, 4126133957238207148, 14602536467632505153, 491390298348024911, 11221304895610842947, 5655021745467314305, 12857848882197790234, 7042504839281390677,
  2430588021541271203, 11516412748502142682, 78840359127899764, 16080880568603010, 3010242651298026832, 5179712327687892404, 15656114838082190409, 1544968668797710167,
  140773056542765861, 9356272021567488258, 2073059578472591699, 14014736071367206369, 6297906594920472789, 7777652733411800972, 7247321461287063024, 16671000286595039915,
  15266804674340095609, 16746550812831423792, 11039553621265003576, 136128657465698502, 3130290428195122324, 12345789393219844721, 4375447829904591110, 13874677181448951878]
def eqL : List Pr → List Nat → Bool
  | [], [] => true
  | p :: ps, n :: ns => Nat.beq (hN p) n && eqL ps ns
  | [], _ :: _ => false
  | _ :: _, [] => false
theorem eqL_map : ∀ {ps : List Pr} {ns : List Nat}, eqL ps ns = true → ps.map hN = ns
  | [], [], _ => rfl
  | p :: ps, n :: ns, e => by
    unfold eqL at e
    rw [Bool.and_eq_true] at e
    rw [List.map_cons, eqL_map e.2, Nat.eq_of_beq_eq_true e.1]
theorem all_lits : eqL allP hLits = true := by decide +kernel
theorem lits_free : dupFree hLits = true := by decide +kernel
theorem all_free : dupFree (allP.map hN) = true := by
  rw [eqL_map all_lits]
  exact lits_free
theorem inj_map {α β : Type} {f : α → β} : ∀ {l : List α}, (l.map f).Nodup → ∀ x ∈ l, ∀ y ∈ l, f x = f y → x = y
  | [], _, x, hx, _, _, _ => nomatch hx
  | a :: l, nd, x, hx, y, hy, e => by
    rw [List.map_cons, List.nodup_cons] at nd
    rcases List.mem_cons.mp hx with ex | mx
    · rcases List.mem_cons.mp hy with ey | my
      · exact ex.trans ey.symm
      · exact absurd (List.mem_map.mpr ⟨y, my, e.symm.trans (congrArg f ex)⟩) nd.1
    · rcases List.mem_cons.mp hy with ey | my
      · exact absurd (List.mem_map.mpr ⟨x, mx, e.trans (congrArg f ey)⟩) nd.1
      · exact inj_map nd.2 x mx y my e
theorem mem_all {p : Pr} (a : -1 ≤ p.1.1 ∧ p.1.1 ≤ 9 ∧ -1 ≤ p.1.2 ∧ p.1.2 ≤ 9) (b : -1 ≤ p.2.1 ∧ p.2.1 ≤ 9 ∧ -1 ≤ p.2.2 ∧ p.2.2 ≤ 9) (n : p.2 ∈ near6 p.1) : p ∈ allP := by
  have e1 : rng (p.1.1 + 1).toNat = p.1.1 := by unfold rng; omega
  have e2 : rng (p.1.2 + 1).toNat = p.1.2 := by unfold rng; omega
  refine List.mem_flatMap.mpr ⟨(p.1.1 + 1).toNat, List.mem_range.mpr (by omega), List.mem_flatMap.mpr ⟨(p.1.2 + 1).toNat, List.mem_range.mpr (by omega), List.mem_filter.mpr ⟨?_, ?_⟩⟩⟩
  · rw [e1, e2]
    exact List.mem_map.mpr ⟨p.2, n, rfl⟩
  · unfold inW
    simp only [Bool.and_eq_true, decide_eq_true_eq]
    exact ⟨⟨⟨b.1, b.2.1⟩, b.2.2.1⟩, b.2.2.2⟩
theorem Vld.all {g : Cell → Nat} {h w : Nat} (h9 : h ≤ 9) (w9 : w ≤ 9) {x : Pr} (v : Vld g h w x) : x ∈ allP := by
  refine mem_all ?_ ?_ v.nr
  · rcases own_n v.n with ⟨⟨a, b, c, d⟩, _⟩ | ⟨a, b, c⟩ | ⟨a, b, c⟩ <;> omega
  · rcases own_w v.w with ⟨⟨a, b, c, d⟩, _⟩ | ⟨a, b, c⟩ <;> omega
theorem Wk.hashes {g : Cell → Nat} {h w : Nat} (h1 : 1 ≤ h) (h9 : h ≤ 9) (w9 : w ≤ 9) {ps : List Pr} {x : Pr} (k : Wk g h w ps x) : (ps.map hP).Nodup := by
  have v := k.all h1
  refine List.pairwise_map.mpr (List.Pairwise.imp_of_mem (fun {p q} hp hq ne e => ?_) (k.nodup h1))
  exact ne (inj_map (dup_nodup all_free) p ((v p hp).all h9 w9) q ((v q hq).all h9 w9) (by unfold hN; rw [e]))
end Sw
namespace Sw
open PySem PySem.Spec PyProof.Rows L2
/-! ### the text by places -/
def top (i : Nat) : Stmt := PySem.Challenge.pw_shoreways_k09_whole_the_walk_tells.main.body.getD i (.Pass ⟨0, 0, 0, 0⟩)
abbrev s_board_right : Stmt := top 6
abbrev N_board_right : List Str := ["rows", "row", "letter"]
theorem sc_board_right : FnScope N_board_right ["rows"] (defScope s_board_right) := ⟨rfl, rfl, rfl, by decide +kernel, rfl, by decide +kernel, by decide +kernel⟩
abbrev s_Board___init__ : Stmt := inClass (top 7) 0
abbrev N_Board___init__ : List Str := ["self", "rows"]
theorem sc_Board___init__ : FnScope N_Board___init__ ["self", "rows"] (defScope s_Board___init__) := ⟨rfl, rfl, rfl, by decide +kernel, rfl, by decide +kernel, by decide +kernel⟩
abbrev s_Board_has : Stmt := inClass (top 7) 1
abbrev N_Board_has : List Str := ["self", "r", "c"]
theorem sc_Board_has : FnScope N_Board_has ["self", "r", "c"] (defScope s_Board_has) := ⟨rfl, rfl, rfl, by decide +kernel, rfl, by decide +kernel, by decide +kernel⟩
abbrev s_near : Stmt := top 8
abbrev N_near : List Str := ["r", "c"]
theorem sc_near : FnScope N_near ["r", "c"] (defScope s_near) := ⟨rfl, rfl, rfl, by decide +kernel, rfl, by decide +kernel, by decide +kernel⟩
abbrev s_empty : Stmt := top 9
abbrev N_empty : List Str := ["board", "found", "r", "row", "c", "letter"]
theorem sc_empty : FnScope N_empty ["board"] (defScope s_empty) := ⟨rfl, rfl, rfl, by decide +kernel, rfl, by decide +kernel, by decide +kernel⟩
abbrev s_owner : Stmt := top 11
abbrev N_owner : List Str := ["board", "place", "r", "c"]
theorem sc_owner : FnScope N_owner ["board", "place"] (defScope s_owner) := ⟨rfl, rfl, rfl, by decide +kernel, rfl, by decide +kernel, by decide +kernel⟩
abbrev s_walk : Stmt := top 12
abbrev N_walk : List Str := ["board", "found", "one", "two", "around", "ahead", "hand"]
theorem sc_walk : FnScope N_walk ["board"] (defScope s_walk) := ⟨rfl, rfl, rfl, by decide +kernel, rfl, by decide +kernel, by decide +kernel⟩
abbrev s__law_cell_at : Stmt := top 14
abbrev N__law_cell_at : List Str := ["script", "k"]
theorem sc__law_cell_at : FnScope N__law_cell_at ["script", "k"] (defScope s__law_cell_at) := ⟨rfl, rfl, rfl, by decide +kernel, rfl, by decide +kernel, by decide +kernel⟩
abbrev s__law_mix : Stmt := top 15
abbrev N__law_mix : List Str := ["cell", "k", "many", "some", "number"]
theorem sc__law_mix : FnScope N__law_mix ["cell", "k", "many"] (defScope s__law_mix) := ⟨rfl, rfl, rfl, by decide +kernel, rfl, by decide +kernel, by decide +kernel⟩
abbrev s__law_rows_by : Stmt := top 16
abbrev N__law_rows_by : List Str := ["script", "height", "width", "full", "rows", "r", "cell", "row", "c", "kind"]
theorem sc__law_rows_by : FnScope N__law_rows_by ["script", "height", "width", "full"] (defScope s__law_rows_by) := ⟨rfl, rfl, rfl, by decide +kernel, rfl, by decide +kernel, by decide +kernel⟩
abbrev s__law_size_by : Stmt := top 17
abbrev N__law_size_by : List Str := ["script", "most"]
theorem sc__law_size_by : FnScope N__law_size_by ["script", "most"] (defScope s__law_size_by) := ⟨rfl, rfl, rfl, by decide +kernel, rfl, by decide +kernel, by decide +kernel⟩
abbrev s__law_long_way : Stmt := top 18
abbrev N__law_long_way : List Str := ["rows", "hand", "cell", "side", "found", "turn", "long", "wide", "i", "j", "row", "step", "r", "c"]
theorem sc__law_long_way : FnScope N__law_long_way ["rows", "hand", "cell"] (defScope s__law_long_way) := ⟨rfl, rfl, rfl, by decide +kernel, rfl, by decide +kernel, by decide +kernel⟩
abbrev s__law_flood : Stmt := top 19
abbrev N__law_flood : List Str := ["rows", "hand", "seen", "left", "r", "ends", "height", "width", "c", "dr", "dc", "cell"]
theorem sc__law_flood : FnScope N__law_flood ["rows", "hand"] (defScope s__law_flood) := ⟨rfl, rfl, rfl, by decide +kernel, rfl, by decide +kernel, by decide +kernel⟩
abbrev s__law_only : Stmt := top 20
abbrev N__law_only : List Str := ["rows", "cells", "found", "r", "c", "row"]
theorem sc__law_only : FnScope N__law_only ["rows", "cells"] (defScope s__law_only) := ⟨rfl, rfl, rfl, by decide +kernel, rfl, by decide +kernel, by decide +kernel⟩
abbrev s_law : Stmt := top 21
abbrev N_law : List Str := ["script", "rows", "found", "side", "hand", "height", "width", "pair"]
theorem sc_law : FnScope N_law ["script"] (defScope s_law) := ⟨rfl, rfl, rfl, by decide +kernel, rfl, by decide +kernel, by decide +kernel⟩
/-- what the top has laid -/
structure Top (K : PySem.W.Frag) (mg : Str → Option Value) where
  a_board_right : Addr
  d_board_right : FuncData
  F_board_right : Fun K "board_right" "board_right" s_board_right a_board_right d_board_right
  B_board_right : Binds K d_board_right ["rows"] []
  m_board_right : mg "board_right" = some (.ref a_board_right)
  a_Board___init__ : Addr
  d_Board___init__ : FuncData
  F_Board___init__ : Fun K "__init__" "Board.__init__" s_Board___init__ a_Board___init__ d_Board___init__
  B_Board___init__ : Binds K d_Board___init__ ["self", "rows"] []
  a_Board_has : Addr
  d_Board_has : FuncData
  F_Board_has : Fun K "has" "Board.has" s_Board_has a_Board_has d_Board_has
  B_Board_has : Binds K d_Board_has ["self", "r", "c"] []
  a_near : Addr
  d_near : FuncData
  F_near : Fun K "near" "near" s_near a_near d_near
  B_near : Binds K d_near ["r", "c"] []
  m_near : mg "near" = some (.ref a_near)
  a_empty : Addr
  d_empty : FuncData
  F_empty : Fun K "empty" "empty" s_empty a_empty d_empty
  B_empty : Binds K d_empty ["board"] []
  m_empty : mg "empty" = some (.ref a_empty)
  a_owner : Addr
  d_owner : FuncData
  F_owner : Fun K "owner" "owner" s_owner a_owner d_owner
  B_owner : Binds K d_owner ["board", "place"] []
  m_owner : mg "owner" = some (.ref a_owner)
  a_walk : Addr
  d_walk : FuncData
  F_walk : Fun K "walk" "walk" s_walk a_walk d_walk
  B_walk : Binds K d_walk ["board"] []
  m_walk : mg "walk" = some (.ref a_walk)
  a__law_cell_at : Addr
  d__law_cell_at : FuncData
  F__law_cell_at : Fun K "_law_cell_at" "_law_cell_at" s__law_cell_at a__law_cell_at d__law_cell_at
  B__law_cell_at : Binds K d__law_cell_at ["script", "k"] []
  m__law_cell_at : mg "_law_cell_at" = some (.ref a__law_cell_at)
  a__law_mix : Addr
  d__law_mix : FuncData
  F__law_mix : Fun K "_law_mix" "_law_mix" s__law_mix a__law_mix d__law_mix
  B__law_mix : Binds K d__law_mix ["cell", "k", "many"] []
  m__law_mix : mg "_law_mix" = some (.ref a__law_mix)
  a__law_rows_by : Addr
  d__law_rows_by : FuncData
  F__law_rows_by : Fun K "_law_rows_by" "_law_rows_by" s__law_rows_by a__law_rows_by d__law_rows_by
  B__law_rows_by : Binds K d__law_rows_by ["script", "height", "width", "full"] []
  m__law_rows_by : mg "_law_rows_by" = some (.ref a__law_rows_by)
  a__law_size_by : Addr
  d__law_size_by : FuncData
  F__law_size_by : Fun K "_law_size_by" "_law_size_by" s__law_size_by a__law_size_by d__law_size_by
  B__law_size_by : Binds K d__law_size_by ["script", "most"] []
  m__law_size_by : mg "_law_size_by" = some (.ref a__law_size_by)
  a__law_long_way : Addr
  d__law_long_way : FuncData
  F__law_long_way : Fun K "_law_long_way" "_law_long_way" s__law_long_way a__law_long_way d__law_long_way
  B__law_long_way : Binds K d__law_long_way ["rows", "hand", "cell"] []
  m__law_long_way : mg "_law_long_way" = some (.ref a__law_long_way)
  a__law_flood : Addr
  d__law_flood : FuncData
  F__law_flood : Fun K "_law_flood" "_law_flood" s__law_flood a__law_flood d__law_flood
  B__law_flood : Binds K d__law_flood ["rows", "hand"] []
  m__law_flood : mg "_law_flood" = some (.ref a__law_flood)
  a__law_only : Addr
  d__law_only : FuncData
  F__law_only : Fun K "_law_only" "_law_only" s__law_only a__law_only d__law_only
  B__law_only : Binds K d__law_only ["rows", "cells"] []
  m__law_only : mg "_law_only" = some (.ref a__law_only)
  a_law : Addr
  d_law : FuncData
  F_law : Fun K "law" "law" s_law a_law d_law
  B_law : Binds K d_law ["script"] []
  m_law : mg "law" = some (.ref a_law)
  C_Board : Addr
  cl_Board : Cls K C_Board
  mC_Board : mg "Board" = some (.ref C_Board)
  Mk_Board : Mk K C_Board a_Board___init__
  n_Board_rows : NoAttr K C_Board "rows"
  n_Board_height : NoAttr K C_Board "height"
  n_Board_width : NoAttr K C_Board "width"
  M_Board_has : Meth K C_Board "has" a_Board_has
  C_BadBoard : Addr
  mC_BadBoard : mg "BadBoard" = some (.ref C_BadBoard)
  x_BadBoard : PySem.W.excIn K C_BadBoard [.type "ValueError", .type "Exception", .type "BaseException", .type "object"] "ValueError.__new__" = true
  k_BadBoard : PySem.W.keepIn K (.ref C_BadBoard) = true
  b_BadBoard : PySem.W.subIn K (.ref C_BadBoard) (.type "BaseException") = some true
  t_BadBoard : PySem.W.typeIn K (.ref C_BadBoard) = some (.type "type")
  i_BadBoard : PySem.W.isClsIn K C_BadBoard = true
  C_NotFull : Addr
  mC_NotFull : mg "NotFull" = some (.ref C_NotFull)
  x_NotFull : PySem.W.excIn K C_NotFull [.type "ValueError", .type "Exception", .type "BaseException", .type "object"] "ValueError.__new__" = true
  k_NotFull : PySem.W.keepIn K (.ref C_NotFull) = true
  b_NotFull : PySem.W.subIn K (.ref C_NotFull) (.type "BaseException") = some true
  t_NotFull : PySem.W.typeIn K (.ref C_NotFull) = some (.type "type")
  i_NotFull : PySem.W.isClsIn K C_NotFull = true
  tk_MOST : Tok
  g_MOST : mg "MOST" = some (.int 9 tk_MOST)
  z_len : mg "len" = none
  z_all : mg "all" = none
  z_list : mg "list" = none
  z_enumerate : mg "enumerate" = none
  z_range : mg "range" = none
  z_int : mg "int" = none
  z_isinstance : mg "isinstance" = none
  z_set : mg "set" = none
end Sw
namespace Sw
open PySem PySem.Spec PyProof.Rows L2
section
variable {P : Program} {w : World} {K : PySem.W.Frag} {mg : Str → Option Value} {base : Heap}
/-! near -/
def sp_near : Sp := fun vs H Q _ => ∃ r c : Int, vs = [.int r, .int c] ∧ ∀ (p : Addr) (H' : Hp) (ws : List V), Same H H' → H p = none → H' p = some (.lst ws) → Cells H' ws (near6 (r, c)) → Q (.ref p) H'
theorem ok_near (T : Top K mg) : FnOk P w K mg base CX0 1 T.a_near T.d_near ["r", "c"] sp_near := by
  refine T.F_near.ok sc_near (fun vs H Q E h => ?_) (fun cdv A outer s H vs Q E hr h => ?_)
  · obtain ⟨_, _, rfl, _⟩ := h
    rfl
  obtain ⟨r, c, rfl, k⟩ := h
  refine ⟨_, (pss_one (ps_ret (pe_lst (pa_cons (pe_tup (pa_cons (pe_op op_sub (pv 0) pe_int) (pa_cons (pv 1) pa_nil))) (pa_cons (pe_tup (pa_cons (pe_op op_sub (pv 0) pe_int) (pa_cons (pe_op op_add (pv 1) pe_int) pa_nil))) (pa_cons (pe_tup (pa_cons (pv 0) (pa_cons (pe_op op_add (pv 1) pe_int) pa_nil))) (pa_cons (pe_tup (pa_cons (pe_op op_add (pv 0) pe_int) (pa_cons (pv 1) pa_nil))) (pa_cons (pe_tup (pa_cons (pe_op op_add (pv 0) pe_int) (pa_cons (pe_op op_sub (pv 1) pe_int) pa_nil))) (pa_cons (pe_tup (pa_cons (pv 0) (pa_cons (pe_op op_sub (pv 1) pe_int) pa_nil))) pa_nil))))))))), ?_⟩
  refine ⟨_, rfl, _, _, rfl, rfl, _, rfl, sz2, fun t1 h1 => ?_⟩
  refine ⟨_, rfl, _, _, rfl, rfl, _, rfl, _, _, rfl, rfl, sz2, fun t2 h2 => ?_⟩
  refine ⟨_, rfl, _, rfl, _, _, rfl, rfl, sz2, fun t3 h3 => ?_⟩
  refine ⟨_, rfl, _, _, rfl, rfl, _, rfl, sz2, fun t4 h4 => ?_⟩
  refine ⟨_, rfl, _, _, rfl, rfl, _, rfl, _, _, rfl, rfl, sz2, fun t5 h5 => ?_⟩
  refine ⟨_, rfl, _, rfl, _, _, rfl, rfl, sz2, fun t6 h6 => ?_⟩
  refine ⟨sz6, fun p hp => ?_⟩
  obtain ⟨_, ws, e, n, s, hl, hc⟩ := new_six (H := H) (r := r) (c := c) rfl rfl rfl rfl rfl rfl h1 h2 h3 h4 h5 h6 hp
  cases e
  exact k p _ ws s n hl hc
end
end Sw
namespace Sw
open PySem PySem.Spec PyProof.Rows L2
section
variable {P : Program} {w : World} {K : PySem.W.Frag} {mg : Str → Option Value} {base : Heap}
/-! board_right, Board -/
def sp_board_right : Sp := fun vs H Q _ => ∃ (a : Addr) (B : Bd), vs = [.ref a] ∧ H a = some (.lst (rowsV B)) ∧ Small B ∧ ∀ H', Same H H' → Q (.bl (Good B)) H'
theorem head_at {B : Bd} (h : B ≠ []) : ∃ r, B[0]? = some r ∧ r.length = wid B ∧ r ∈ B := by
  cases B with
  | nil => exact absurd rfl h
  | cons r B => exact ⟨r, rfl, rfl, List.mem_cons_self⟩
theorem all_take {α : Type} {p : α → Bool} {l : List α} {i : Nat} {x : α} (h : (l.take i).all p = true) (hx : l[i]? = some x) (hp : p x = true) : (l.take (i + 1)).all p = true := by
  rw [List.take_add_one, hx, List.all_append, h]
  simp [hp]
theorem get_txt {l : List Nat} {i : Nat} {c : Nat} (h : (txt l).cps[i]? = some c) : l[i]? = some c := by
  have : l.toArray[i]? = some c := h
  rw [List.getElem?_toArray] at this
  exact this
theorem txt_size (l : List Nat) : (txt l).cps.size = l.length := by show l.toArray.size = l.length; exact List.size_toArray
theorem take_map_snoc {α β : Type} {f : α → β} {l : List α} {i : Nat} {x : α} (h : l[i]? = some x) : (l.take (i + 1)).map f = (l.take i).map f ++ [f x] := by
  rw [List.take_add_one, h, List.map_append]
  rfl
theorem len_take_lt {α β : Type} {f : α → β} {l : List α} {i n : Nat} (h : l.length ≤ n) : ((l.take i).map f).length ≤ n := by
  rw [List.length_map, List.length_take]
  omega
theorem ok_board_right (T : Top K mg) : FnOk P w K mg base CX0 1 T.a_board_right T.d_board_right ["rows"] sp_board_right := by
  refine T.F_board_right.ok sc_board_right (fun vs H Q E h => ?_) (fun cdv A outer s H vs Q E hr h => ?_)
  · obtain ⟨_, _, rfl, _⟩ := h
    rfl
  obtain ⟨a, B, rfl, ha, hB, q⟩ := h
  refine ⟨_, (pss_cons (ps_if (PW.pt (pw_or (pt_not (pt_chain op_le op_le pe_int (pe_callB call_len_seq (by rfl) T.z_len PySem.boot_len (pa_cons (pv 0) pa_nil)) (pe_glob (v := .int 9) rfl T.g_MOST ⟨_, rfl⟩))) (pw_or1 (pt_not (pt_chain op_le op_le pe_int (pe_callB call_len_str (by rfl) T.z_len PySem.boot_len (pa_cons (pe_ix ix_list (pv 0) pe_int (fun _ _ => rfl)) pa_nil)) (pe_glob (v := .int 9) rfl T.g_MOST ⟨_, rfl⟩))))))
      (pss_one (ps_ret pe_bl)) pss_nil)
      (pss_cons (ps_for PassesOwn.never rfl (pi_list (pv 0)) (pg_name (i := 1) sc_board_right.nd rfl (Or.inl rfl))
      (pss_one (ps_if (PW.pt (pw_or (pt_cmpR op_ne (pe_callB call_len_str (by rfl) T.z_len PySem.boot_len (pa_cons (pv 1) pa_nil)) (pe_callB call_len_str (by rfl) T.z_len PySem.boot_len (pa_cons (pe_ix ix_list (pv 0) pe_int (fun _ _ => rfl)) pa_nil)) (nomark _)) (pw_or1 (pt_not (pt_val (pe_callB (cr_all rfl) (by rfl) T.z_all (by decide +kernel) (pa_cons (pe_lc (own := [("letter", 2)]) (g := gName 2) (tt := tYes) rfl sc_board_right.nd (pi_str (pv 1)) (blkOk_by (own := [("letter", 2)]) (N := N_board_right) (sc := defScope s_board_right) (by decide +kernel)) (fun _ _ _ _ _ => (pg_name (i := 2) sc_board_right.nd rfl (Or.inl rfl))) (fun _ _ _ _ _ => pts_nil) (fun _ _ _ _ _ => (pe_cmpR op_in_sign (pv 2) pe_str rfl))) pa_nil)))))))
      (pss_one (ps_ret pe_bl)) pss_nil)))
      (pss_one (ps_ret pe_bl)))), ?_⟩
  have hl := rowsV_len B
  have no : ¬ (1 ≤ B.length ∧ B.length ≤ 9) → Good B = false := fun z => by
    unfold Good
    rw [decide_eq_false z]
    rfl
  -- 1 <= len(rows) <= 9
  refine ⟨_, rfl, a, _, rfl, .inl (SqL.of ha), _, _, rfl, rfl, _, rfl, ?_⟩
  refine iteD (fun c1 => ?_) (fun c1 => ?_)
  rotate_left
  · refine ⟨_, rfl, iteT ?_⟩
    have q' := q _ (.refl _)
    rw [no (by omega)] at q'
    exact q'
  refine ⟨_, _, rfl, rfl, _, rfl, ?_⟩
  refine iteN (fun c2 => ?_) (fun c2 => ?_)
  · have q' := q _ (.refl _)
    rw [no (by omega)] at q'
    exact q'
  -- 1 <= len(rows[0]) <= 9
  obtain ⟨r0, e0, l0, m0⟩ := head_at (B := B) (by intro z; have : B.length = 0 := (by rw [z]; rfl); omega)
  have s0 := hB.row _ m0
  have no2 : ¬ (1 ≤ wid B ∧ wid B ≤ 9) → Good B = false := fun z => by
    unfold Good
    rw [decide_eq_false z, Bool.false_and, Bool.and_false]
  have tl : (txt r0).length = wid B := by rw [txt_len, l0]
  refine ⟨_, rfl, a, _, _, _, rfl, rfl, SqL.of ha, atI_nat (j := 0) (rowsV_get e0), _, rfl, sz_le (by rw [txt_len]; omega), _, _, rfl, rfl, _, rfl, ?_⟩
  refine iteD (fun c3 => ?_) (fun c3 => ?_)
  rotate_left
  · refine ⟨_, rfl, iteT ?_⟩
    have q' := q _ (.refl _)
    rw [no2 (by omega)] at q'
    exact q'
  refine ⟨_, _, rfl, rfl, _, rfl, ?_⟩
  refine iteN (fun c4 => ?_) (fun c4 => ?_)
  · have q' := q _ (.refl _)
    rw [no2 (by omega)] at q'
    exact q'
  have yes : Good B = B.all (rowOk (wid B)) := by
    unfold Good
    rw [decide_eq_true (show 1 ≤ B.length ∧ B.length ≤ 9 by omega), decide_eq_true (show 1 ≤ wid B ∧ wid B ≤ 9 by omega), Bool.true_and, Bool.true_and]
  -- the rows
  refine ⟨_, rfl, a, rfl, ⟨_, SqL.of ha⟩, for_list (K := K) (a := a) (xs := rowsV B) (fun i σ H' => Same H H' ∧ (B.take i).all (rowOk (wid B)) = true ∧ ∃ v w, σ = [some (.ref a), v, w])
    ⟨.refl _, rfl, none, none, rfl⟩ (fun i σ H' _ ⟨e, _⟩ => SqL.of (e _ _ ha)) ?_ ?_⟩
  · rintro i x σ H1 hi ⟨s1, al, v, w, rfl⟩
    obtain ⟨r, er, rfl⟩ := rowsV_inv hi
    have mr : r ∈ B := List.mem_of_getElem? er
    have sr := hB.row _ mr
    have bad : rowOk (wid B) r = false → Good B = false := fun z => by
      rw [yes]
      rw [Bool.eq_false_iff]
      intro t
      rw [List.all_eq_true] at t
      rw [t r mr] at z
      cases z
    refine ⟨_, rfl, _, rfl, sz_le (by rw [txt_len]; omega), _, rfl, a, _, _, _, rfl, rfl, SqL.of (s1 _ _ ha), atI_nat (j := 0) (rowsV_get e0), _, rfl, sz_le (by rw [txt_len]; omega), rfl, _, rfl, ?_⟩
    refine iteN (fun c5 => ?_) (fun c5 => ?_)
    · refine iteT ?_
      have q' := q _ s1
      rw [bad (by
        unfold rowOk
        rw [decide_eq_false (fun z => c5 (by rw [txt_len, txt_len, z, l0])), Bool.false_and])] at q'
      exact q'
    have c5' : r.length = wid B := by
      have e : (((txt r).length : Nat) : Int) = (((txt r0).length : Nat) : Int) := V.int.inj c5
      rw [txt_len, txt_len] at e
      omega
    -- all([letter in 'nw.' for letter in row])
    refine ⟨_, rfl, _, rfl, fun D hD => lc_it walk_str (fun j H' => Same H1 H' ∧ H' D = some (.lst (((r.take j).map okc).map V.bl))) ⟨same_new hD _, upd_same⟩ (fun _ _ _ _ => trivial) (fun j x H2 H3 hj ⟨s2, h2⟩ ⟨e3, c, ec, ex⟩ => ?_) (fun H2 ⟨s2, h2⟩ => ?_)⟩
    · subst e3 ex
      have ec' := get_txt ec
      refine ⟨rfl, _, rfl, c, _, rfl, rfl, _, h2, sz_lt (by rw [List.length_map, List.length_map, List.length_take]; omega), same_mut s2 hD, ?_⟩
      have ek : decide (c ∈ (Str.ofString "nw.").cps.toList) = okc c := by
        rw [s_nwd]
        rfl
      rw [ek, upd_same, take_map_snoc ec', List.map_append]
      rfl
    · rw [txt_size, List.take_length] at h2
      refine ⟨_, _, rfl, SqL.of h2, _, rfl, ?_⟩
      have ea : (r.map okc).all id = r.all okc := by rw [List.all_map]; rfl
      rw [ea]
      refine iteNB (fun c6 => ?_) (fun c6 => ?_)
      · have q' := q _ (s1.trans s2)
        rw [bad (by
          unfold rowOk
          rw [c6, Bool.and_false])] at q'
        exact q'
      · refine ⟨s1.trans s2, all_take al er ?_, _, _, rfl⟩
        unfold rowOk
        rw [decide_eq_true c5', c6]
        rfl
  · rintro σ H1 ⟨s1, al, v, w, rfl⟩
    have q' := q _ s1
    rw [rowsV_len, List.take_length] at al
    rw [yes, al] at q'
    exact q'
/-- Board(rows): the rows are looked at, then kept in a new list -/
def sp_Board_init (C CB : Addr) : Sp := fun vs H Q E => ∃ (p dx a : Addr) (B : Bd), vs = [.ref p, .ref a] ∧ H p = some (.ins C dx []) ∧ H a = some (.lst (rowsV B)) ∧ Small B ∧
  (Good B = false → ∀ H', Same H H' → E (.ref CB) none H') ∧
  (Good B = true → ∀ (H' : Hp) (l : Addr), (∀ b o, H b = some o → b ≠ p → H' b = some o) → H l = none → BoardAt C H' p l B → Q .non H')
theorem ok_Board_init (T : Top K mg) : FnOk P w K mg base (L2.CX P w) 2 T.a_Board___init__ T.d_Board___init__ ["self", "rows"] (sp_Board_init T.C_Board T.C_BadBoard) := by
  refine T.F_Board___init__.okX sc_Board___init__ (fun vs H Q E h => ?_) (fun cdv A outer s H vs Q E hr h => ?_)
  · obtain ⟨_, _, _, _, rfl, _⟩ := h
    rfl
  obtain ⟨p, dx, a, B, rfl, hp, ha, hB, qb, qg⟩ := h
  refine ⟨_, (pss_cons (ps_if (pt_not (pt_val (pe_call (ok_board_right T) (hr.mono (by decide)) rfl T.m_board_right T.F_board_right.kp T.B_board_right .nil pass0 (pa_cons (pv 1) pa_nil))))
      (pss_one (ps_raise rfl (takes_of rfl rfl rfl rfl) (pmk_own PySem.F.excBase_ValueError T.x_BadBoard T.mC_BadBoard T.k_BadBoard (raises_own T.b_BadBoard T.t_BadBoard) rfl))) pss_nil)
      (pss_cons (ps_fld (pv 0) (pe_callTy call_list_of (by rfl) T.z_list (by decide +kernel) (pa_cons (pv 1) pa_nil)) rfl)
      (pss_cons (ps_fld (pv 0) (pe_callB call_len_seq (by rfl) T.z_len PySem.boot_len (pa_cons (pv 1) pa_nil)) rfl)
      (pss_one (ps_fld (pv 0) (pe_callB call_len_str (by rfl) T.z_len PySem.boot_len (pa_cons (pe_ix ix_list (pv 1) pe_int (fun _ _ => rfl)) pa_nil)) rfl))))), ?_⟩
  refine ⟨_, rfl, a, B, rfl, ha, hB, fun H1 s1 => ?_⟩
  refine ⟨_, rfl, iteNB (fun c => ?_) (fun c => ?_)⟩
  · exact qb c _ s1
  -- self.rows = list(rows)
  obtain ⟨r0, e0, l0, m0⟩ := head_at (B := B) (by
    have := (good_is c).h1
    intro z
    rw [z] at this
    exact absurd this (by decide))
  have hp1 := s1 _ _ hp
  have ha1 := s1 _ _ ha
  refine ⟨_, rfl, a, _, rfl, .inl (SqL.of ha1), fun l hl => ?_⟩
  have npl : p ≠ l := ne_of_none hp1 hl
  have nal : a ≠ l := ne_of_none ha1 hl
  have npa : a ≠ p := ne_of ha1 hp1 (by intro z; cases z)
  refine ⟨_, rfl, p, T.C_Board, dx, [], rfl, (by rw [upd_ne npl]; exact hp1), T.cl_Board, T.n_Board_rows, (by show 0 < 1000; decide), ?_⟩
  have ha2 : ∀ o, upd (upd H1 l (.lst (rowsV B))) p o a = some (.lst (rowsV B)) := fun o => by rw [upd_ne npa, upd_ne nal]; exact ha1
  have ha3 : ∀ o u, upd (upd (upd H1 l (.lst (rowsV B))) p o) p u a = some (.lst (rowsV B)) := fun o u => by rw [upd_ne npa]; exact ha2 o
  -- self.height = len(rows); self.width = len(rows[0])
  refine ⟨_, rfl, a, _, rfl, .inl (SqL.of (ha2 _)), _, rfl, p, T.C_Board, dx, _, rfl, upd_same, T.cl_Board, T.n_Board_height, (by show 1 < 1000; decide), ?_⟩
  refine ⟨_, rfl, a, _, _, _, rfl, rfl, SqL.of (ha3 _ _), atI_nat (j := 0) (rowsV_get e0), _, rfl, sz_le (by rw [txt_len]; have := hB.row _ m0; omega), _, rfl, p, T.C_Board, dx, _, rfl, upd_same, T.cl_Board, T.n_Board_width, ?_, ?_⟩
  · show List.length (putF "height" (.int ((rowsV B).length : Int)) [("rows", .ref l)]) < 1000
    rw [pt_p (by decide +kernel)]
    show 2 < 1000
    decide
  refine qg c _ l (fun b o hb nb => ?_) (s1.free hl) ⟨⟨dx, ?_⟩, ?_⟩
  · rw [upd_ne nb, upd_ne nb, upd_ne nb, upd_ne (ne_of_none (s1 _ _ hb) hl)]
    exact s1 _ _ hb
  · rw [upd_same]
    refine congrArg (fun z => some (HO.ins T.C_Board dx z)) ?_
    rw [rowsV_len, txt_len, l0]
    exact bfl_new l B.length (wid B)
  · rw [upd_ne npl.symm, upd_ne npl.symm, upd_ne npl.symm, upd_same]
/-- what follows of Board(..): the new board, all else as it was -/
theorem made_board {C p dx : Addr} {H H' : Hp} (hp : H p = none) (hd : H dx = none) (k : ∀ b o, upd (upd H dx (.own p)) p (.ins C dx []) b = some o → b ≠ p → H' b = some o) : Same H H' := fun b o e =>
  k b o (by rw [upd_ne (ne_of_none e hp), upd_ne (ne_of_none e hd)]; exact e) (ne_of_none e hp)
/-- Board(e) where e is worth a list of good rows -/
theorem make_board {C CB : Addr} {t : TA} {σ : L2.St} {H : Hp} {Q : VK} {B : Bd} {h w : Nat} (I : IsB B h w)
    (ht : ∀ R : List V → Hp → Prop, (∀ (n : Addr) (H1 : Hp), Same H H1 → H1 n = some (.lst (rowsV B)) → R [.ref n] H1) → t σ H R)
    (k : ∀ (o l : Addr) (H' : Hp), Same H H' → H o = none → H l = none → BoardAt C H' o l B → Q (.ref o) H') : tMake C (sp_Board_init C CB) [] E0 t σ H Q := by
  refine ht _ fun n H1 s1 hn o d no nd ndo => ?_
  have so := ((same_new nd (.own o)).trans (same_new (by rw [upd_ne (Ne.symm ndo)]; exact no) (.ins C d [])))
  refine ⟨o, d, n, _, rfl, upd_same, so _ _ hn, I.small, fun hb => ?_, fun _ H5 l5 k5 n5 b5 => ⟨rfl, ?_⟩⟩
  · rw [I.good] at hb
    cases hb
  · exact k o l5 H5 (s1.trans (made_board no nd k5)) (s1.free no) ((s1.trans so).free n5) b5
theorem q_make {C CB : Addr} {i : Nat} {t : TA} {tz : TS} {D : Ends} {σ : L2.St} {H : Hp} {B : Bd} {h w : Nat} (I : IsB B h w)
    (ht : ∀ R : List V → Hp → Prop, (∀ (n : Addr) (H1 : Hp), Same H H1 → H1 n = some (.lst (rowsV B)) → R [.ref n] H1) → t σ H R)
    (k : ∀ (o l : Addr) (H' : Hp), Same H H' → H o = none → H l = none → BoardAt C H' o l B → tz D (σ.set i (some (.ref o))) H') : tSeq (tAsg (tMake C (sp_Board_init C CB) [] E0 t) (gName i)) tz D σ H :=
  make_board (Q := fun v H1 => tz D (σ.set i (some v)) H1) I ht k
end
end Sw
namespace Sw
open PySem PySem.Spec PyProof.Rows L2
section
variable {P : Program} {w : World} {K : PySem.W.Frag} {mg : Str → Option Value} {base : Heap}
/-! has, sign, laid, other, turned_over, empty -/
theorem join_txt : ∀ l : List Nat, Txt.join (txt []) (l.map fun c => txt [c]) = txt l := by
  intro l
  show Builtin.Str.glued _ _ = _
  rw [PySem.StrLaws.glued_eq_join]
  induction l with
  | nil => rfl
  | cons a l ih =>
    cases l with
    | nil => rfl
    | cons b l =>
      rw [List.map_cons, List.map_cons]
      show txt [a] ++ txt [] ++ Str.join (txt []) (txt [b] :: l.map fun c => txt [c]) = _
      rw [← List.map_cons (f := fun c => txt [c]), ih, txt_app, txt_app]
      rfl
def sp_has (C : Addr) : Sp := fun vs H Q _ => ∃ (p l : Addr) (B : Bd) (h w : Nat) (r c : Int), vs = [.ref p, .int r, .int c] ∧ BoardAt C H p l B ∧ IsB B h w ∧ Q (.bl (decide (Ins h w (r, c)))) H
theorem ok_Board_has (T : Top K mg) : FnOk P w K mg base CX0 1 T.a_Board_has T.d_Board_has ["self", "r", "c"] (sp_has T.C_Board) := by
  refine T.F_Board_has.ok sc_Board_has (fun vs H Q E h => ?_) (fun cdv A outer s H vs Q E hr h => ?_)
  · obtain ⟨_, _, _, _, _, _, _, rfl, _⟩ := h
    rfl
  obtain ⟨p, l, B, h, w, r, c, rfl, ⟨⟨dx, hp⟩, hl⟩, I, q⟩ := h
  rw [I.hh, I.wid] at hp
  refine ⟨_, (pss_one (ps_ret (pe_and (pe_chain op_le op_lt pe_int (pv 1) (pe_fld (pv 0) rfl)) (pe_one (pe_chain op_le op_lt pe_int (pv 2) (pe_fld (pv 0) rfl)))))), ?_⟩
  have no : ¬ Ins h w (r, c) → Q (.bl false) H := fun z => by
    rw [decide_eq_false z] at q
    exact q
  refine ⟨_, rfl, _, _, rfl, rfl, _, rfl, ?_⟩
  refine iteD (fun c1 => ?_) (fun c1 => ⟨_, rfl, iteF (no fun z => c1 z.1)⟩)
  refine ⟨_, rfl, p, _, dx, _, _, rfl, hp, T.cl_Board, T.n_Board_height, bfl_height _ _ _, _, _, rfl, rfl, _, rfl, ?_⟩
  refine iteD (fun c2 => ?_) (fun c2 => no fun z => c2 z.2.1)
  refine ⟨_, rfl, _, _, rfl, rfl, _, rfl, ?_⟩
  refine iteD (fun c3 => ?_) (fun c3 => no fun z => c3 z.2.2.1)
  refine ⟨_, rfl, p, _, dx, _, _, rfl, hp, T.cl_Board, T.n_Board_width, bfl_width _ _ _, _, _, rfl, rfl, ?_⟩
  by_cases c4 : c < (w : Int)
  · rw [decide_eq_true (show Ins h w (r, c) from ⟨c1, c2, c3, c4⟩)] at q
    show Q (.bl (decide (c < (w : Int)))) H
    rw [decide_eq_true c4]
    exact q
  · show Q (.bl (decide (c < (w : Int)))) H
    rw [decide_eq_false c4]
    exact no fun z => c4 z.2.2.2
end
end Sw
namespace Sw
open PySem PySem.Spec PyProof.Rows L2
section
variable {P : Program} {w : World} {K : PySem.W.Frag} {mg : Str → Option Value} {base : Heap}
theorem sg_eq {x y : Nat} : V.str (txt [x]) = V.str (txt [y]) ↔ x = y := by
  constructor
  · intro h
    have := txt_inj (V.str.inj h)
    exact (List.cons.inj this).1
  · intro h
    rw [h]
def sp_empty (C : Addr) : Sp := fun vs H Q _ => ∃ (p l : Addr) (B : Bd) (h w : Nat), vs = [.ref p] ∧ BoardAt C H p l B ∧ IsB B h w ∧ ∀ v H', NewCells H (emptyL B) v H' → Q v H'
theorem ok_empty (T : Top K mg) : FnOk P w K mg base CX0 1 T.a_empty T.d_empty ["board"] (sp_empty T.C_Board) := by
  refine T.F_empty.ok sc_empty (fun vs H Q E h => ?_) (fun cdv A outer s H vs Q E hr h => ?_)
  · obtain ⟨_, _, _, _, _, rfl, _⟩ := h
    rfl
  obtain ⟨p, l, B, h, w, rfl, ⟨⟨dx, hp⟩, hl⟩, I, q⟩ := h
  rw [I.hh, I.wid] at hp
  refine ⟨_, (pss_cons (ps_set (i := 1) sc_empty.nd rfl (Or.inl rfl) (pe_lst pa_nil))
      (pss_cons (ps_for PassesOwn.never rfl (pi_enum (by rfl) T.z_enumerate (pa_cons (pe_fld (pv 0) rfl) pa_nil)) (pg_tup rfl (pgs_cons (pg_name (i := 2) sc_empty.nd rfl (Or.inr rfl)) (pgs_cons (pg_name (i := 3) sc_empty.nd rfl (Or.inl rfl)) pgs_nil)))
      (pss_one (ps_expr (pe_bm PySem.F.plainAttrs_list PySem.F.slot_list_extend PySem.F.type_list_extend mt_extend (pv 1) (pa_cons (pe_lc (own := [("c", 4), ("letter", 5)]) (g := gTup K 2 (gCons (gName 4) (gCons (gName 5) gNil))) rfl sc_empty.nd (pi_enumS (by rfl) T.z_enumerate (pa_cons (pv 3) pa_nil)) (blkOk_by (own := [("c", 4), ("letter", 5)]) (N := N_empty) (sc := defScope s_empty) (by decide +kernel)) (fun _ _ _ _ _ => (pg_tup rfl (pgs_cons (pg_name (i := 4) sc_empty.nd rfl (Or.inl rfl)) (pgs_cons (pg_name (i := 5) sc_empty.nd rfl (Or.inl rfl)) pgs_nil)))) (fun _ _ _ _ _ => pts_one (pt_cmpR op_eq (pv 5) pe_str (nomark _))) (fun _ _ _ _ _ => (pe_tup (pa_cons (pv 2) (pa_cons (pv 4) pa_nil))))) pa_nil)))))
      (pss_one (ps_ret (pv 1))))), ?_⟩
  have h9 := I.h9
  have w9 := I.w9
  refine ⟨sz0, fun n hn => ?_⟩
  have s1 := same_new hn (.lst [])
  refine ⟨_, rfl, p, _, dx, _, _, rfl, s1 _ _ hp, T.cl_Board, T.n_Board_rows, bfl_rows _ _ _, l, _, rfl, SqL.of (s1 _ _ hl),
    for_it walk_enum (fun i σ H' => Same H H' ∧ ∃ ws, H' n = some (.lst ws) ∧ Cells H' ws (emptyTo B i) ∧ ∃ v1 v2 v3 v4, σ = [some (.ref p), some (.ref n), v1, v2, v3, v4]) ⟨s1, [], upd_same, .nil, _, _, _, _, rfl⟩ (fun i σ H' _ ⟨s, _⟩ => SqL.of (s _ _ hl)) ?_ ?_⟩
  · rintro i x σ H1 H2 hi ⟨s1, ws, hn1, hc, v1, v2, v3, v4, rfl⟩ ⟨t, x1, x2, rfl, ht, rfl, ex1, ex2⟩
    cases ex1
    obtain ⟨row, ey, rfl⟩ := rowsV_inv ex2
    have s2 := same_new ht (.tup [.int (i : Int), rowV row])
    have ht2 : upd H1 t (.tup [.int (i : Int), rowV row]) t = some (.tup [.int (i : Int), rowV row]) := upd_same
    revert s2 ht2
    generalize upd H1 t (.tup [.int (i : Int), rowV row]) = H2
    intro s2 ht2
    have lrow := I.ww _ (List.mem_of_getElem? ey)
    have hi' : i < h := by
      rw [rowsV_len, I.hh] at hi
      exact hi
    have lc := hc.len
    have le := emptyTo_len I i (by omega)
    have lm : i * w ≤ 9 * 9 := Nat.mul_le_mul (by omega) w9
    refine ⟨t, _, rfl, SqT.of ht2, rfl, _, _, rfl, _, _, rfl, rfl, ?_⟩
    refine ⟨_, rfl, .inl ⟨rfl, _, SqL.of (s2 _ _ hn1)⟩, _, rfl, txt row, rfl, fun D hD =>
      lc_it walk_enumS (fun j H' => Same H2 H' ∧ ∃ ws2, H' D = some (.lst ws2) ∧ Cells H' ws2 (rowEt i row j)) ⟨same_new hD _, [], upd_same, .nil⟩ (fun _ _ _ _ => trivial)
        (fun j x H3 H4 hj ⟨s3, ws2, hD2, hc2⟩ ⟨T, c, e1, hT, e2, ec⟩ => ?_) (fun H3 ⟨s3, ws2, hD2, hc2⟩ => ?_)⟩
    · subst e1 e2
      rw [txt_size] at hj
      have ec' := get_txt ec
      have eg : row.getD j 0 = c := by
        rw [List.getD_eq_getElem?_getD, ec']
        rfl
      have s4 := same_new hT (.tup [.int (j : Int), .str ⟨#[c]⟩])
      refine ⟨T, _, rfl, SqT.of upd_same, rfl, _, _, rfl, _, _, rfl, rfl, rfl, _, rfl, rfl, _, rfl, ?_⟩
      refine iteD (fun z => ?_) (fun z => ?_)
      · rw [s_dot] at z
        have ez : row.getD j 0 = 46 := by
          rw [eg]
          exact sg_eq.mp z
        refine ⟨_, rfl, _, rfl, sz2, fun t2 ht2' => ?_⟩
        have s5 := s4.trans (same_new ht2' (.tup (cellV ((i : Int), (j : Int)))))
        have lw := hc2.len
        have lw2 := rowEt_len i row j
        have hD5 := s5 _ _ hD2
        refine ⟨ws2, hD5, sz_lt (by omega), same_mut (s3.trans s5) hD, ws2 ++ [.ref t2], upd_same, ?_⟩
        rw [rowEt_yes ez]
        refine ((hc2.same s5).app (.one ?_)).tps (.lst hD5)
        exact upd_same
      · rw [s_dot] at z
        refine ⟨s3.trans s4, ws2, s4 _ _ hD2, ?_⟩
        rw [rowEt_no (fun e => z (by rw [eg] at e; rw [e]; rfl))]
        exact hc2.same s4
    · rw [txt_size] at hc2
      have s6 := s2.trans s3
      have lw := hc2.len
      have lw2 := rowEt_len i row row.length
      have hn3 := s6 _ _ hn1
      refine ⟨n, D, ws, ws2, rfl, rfl, hn3, hD2, sz_le (by omega), ?_⟩
      refine ⟨same_mut (s1.trans s6) hn, ws ++ ws2, upd_same, ?_, _, _, _, _, rfl⟩
      have eg : B.getD i [] = row := by
        rw [List.getD_eq_getElem?_getD, ey]
        rfl
      rw [emptyTo_succ, eg]
      exact ((hc.same s6).app hc2).tps (.lst hn3)
  · rintro σ H1 ⟨s1, ws, hn1, hc, v1, v2, v3, v4, rfl⟩
    rw [rowsV_len] at hc
    exact ⟨_, rfl, q _ _ ⟨n, ws, rfl, hn, s1, hn1, hc⟩⟩
end
end Sw
namespace Sw
open PySem PySem.Spec PyProof.Rows L2
section
variable {P : Program} {w : World} {K : PySem.W.Frag} {mg : Str → Option Value} {base : Heap}
/-! owner, walk -/
def ownV : Option Bool → V
  | none => .non
  | some s => .str (txt [lt s])
theorem own_in {B : Bd} {h w : Nat} {q : Cell} (I : IsB B h w) (fc : ∀ x, cel B x ≠ 46) (z : Ins h w q) : ∃ s, own (cel B) h w q = some s ∧ cel B q = lt s := by
  obtain ⟨_, _, _, _, _, ok⟩ := I.at z
  unfold own
  rw [if_pos z]
  rcases ok with e | e | e
  · exact ⟨false, by rw [if_pos e], e⟩
  · exact ⟨true, by rw [if_neg (by rw [e]; decide)], e⟩
  · exact absurd e (fc q)
def sp_owner (C : Addr) : Sp := fun vs H Q _ => ∃ (p l : Addr) (B : Bd) (h w : Nat) (t : Addr) (x : Cell), vs = [.ref p, .ref t] ∧ BoardAt C H p l B ∧ IsB B h w ∧ (∀ y, cel B y ≠ 46) ∧ H t = some (.tup (cellV x)) ∧ Q (ownV (own (cel B) h w x)) H
theorem ok_owner (T : Top K mg) : FnOk P w K mg base CX0 2 T.a_owner T.d_owner ["board", "place"] (sp_owner T.C_Board) := by
  refine T.F_owner.ok sc_owner (fun vs H Q E h => ?_) (fun cdv A outer s H vs Q E hr h => ?_)
  · obtain ⟨_, _, _, _, _, _, _, rfl, _⟩ := h
    rfl
  obtain ⟨p, l, B, h, w, t, x, rfl, bt, I, fc, ht, q⟩ := h
  obtain ⟨⟨dx, hp⟩, hl⟩ := id bt
  rw [I.hh, I.wid] at hp
  have w9 := I.w9
  refine ⟨_, (pss_cons (ps_asg (pv 1) (pg_tup rfl (pgs_cons (pg_name (i := 2) sc_owner.nd rfl (Or.inl rfl)) (pgs_cons (pg_name (i := 3) sc_owner.nd rfl (Or.inl rfl)) pgs_nil))))
      (pss_cons (ps_if (pt_val (pe_meth (pv 0) T.cl_Board T.M_Board_has (ok_Board_has T) (hr.mono (by decide)) T.B_Board_has .nil pass0 (pa_cons (pv 2) (pa_cons (pv 3) pa_nil))))
      (pss_one (ps_ret (pe_ix ix_str (pe_ix ix_list (pe_fld (pv 0) rfl) (pv 2) (fun _ _ => rfl)) (pv 3) (fun _ _ => rfl)))) pss_nil)
      (Evl.pss_cut (ps_if (PW.pt (pw_or (PW.pt (pw_and (pt_cmpR op_eq (pv 2) (pe_un un_neg pe_int) (nomark _)) (pw_and1 (pt_chain op_le op_le pe_int (pv 3) (pe_fld (pv 0) rfl))))) (pw_or1 (PW.pt (pw_and (pt_cmpR op_eq (pv 2) (pe_fld (pv 0) rfl) (nomark _)) (pw_and1 (pt_chain op_le op_lt (pe_un un_neg pe_int) (pv 3) (pe_fld (pv 0) rfl))))))))
      (pss_one (ps_ret pe_str)) pss_nil)
      (pss_cons (ps_if (PW.pt (pw_and (pt_chain op_le op_lt pe_int (pv 2) (pe_fld (pv 0) rfl)) (pw_and1 (PW.pt (pw_or (pt_cmpR op_eq (pv 3) (pe_un un_neg pe_int) (nomark _)) (pw_or1 (pt_cmpR op_eq (pv 3) (pe_fld (pv 0) rfl) (nomark _))))))))
      (pss_one (ps_ret pe_str)) pss_nil)
      (pss_one (ps_ret pe_non)))))), ?_⟩
  refine ⟨_, rfl, t, _, rfl, SqT.of ht, rfl, _, _, rfl, _, _, rfl, rfl, ?_⟩
  refine ⟨_, rfl, p, dx, _, rfl, hp, bfl_has _ _ _, _, rfl, _, rfl, p, l, B, h, w, x.1, x.2, rfl, bt, I, _, rfl, iteD (fun z => ?_) (fun z => ?_)⟩
  · obtain ⟨s, eo, ec⟩ := own_in I fc (q := x) z
    obtain ⟨row, er, mr, lr, ecel, _⟩ := I.at (p := x) z
    rw [ec] at ecel
    rw [eo] at q
    exact ⟨_, rfl, p, _, dx, _, _, rfl, hp, T.cl_Board, T.n_Board_rows, bfl_rows _ _ _, _, rfl, l, _, _, _, rfl, rfl, SqL.of hl, at_int z.1 (rowsV_get er), _, rfl, _, _, _, rfl, rfl, sz_le (by rw [txt_len, lr]; omega), atI_cps z.2.2.1 ecel, q⟩
  have z' : ¬ Ins h w x := z
  have yn : (x.1 = -1 ∧ 0 ≤ x.2 ∧ x.2 ≤ (w : Int)) ∨ (x.1 = (h : Int) ∧ -1 ≤ x.2 ∧ x.2 < (w : Int)) → Q (.str (Str.ofString "n")) H := fun k => by
    have eo : own (cel B) h w x = some false := by
      unfold own
      rw [if_neg z', if_pos k]
    rw [eo] at q
    rw [s_n]
    exact q
  have yw : ¬ ((x.1 = -1 ∧ 0 ≤ x.2 ∧ x.2 ≤ (w : Int)) ∨ (x.1 = (h : Int) ∧ -1 ≤ x.2 ∧ x.2 < (w : Int))) → (0 ≤ x.1 ∧ x.1 < (h : Int) ∧ (x.2 = -1 ∨ x.2 = (w : Int))) → Q (.str (Str.ofString "w")) H := fun k m => by
    have eo : own (cel B) h w x = some true := by
      unfold own
      rw [if_neg z', if_neg k, if_pos m]
    rw [eo] at q
    rw [s_w]
    exact q
  have yo : ¬ ((x.1 = -1 ∧ 0 ≤ x.2 ∧ x.2 ≤ (w : Int)) ∨ (x.1 = (h : Int) ∧ -1 ≤ x.2 ∧ x.2 < (w : Int))) → ¬ (0 ≤ x.1 ∧ x.1 < (h : Int) ∧ (x.2 = -1 ∨ x.2 = (w : Int))) → Q .non H := fun k m => by
    have eo : own (cel B) h w x = none := by
      unfold own
      rw [if_neg z', if_neg k, if_neg m]
    rw [eo] at q
    exact q
  refine ⟨fun σ H' => H = H' ∧ ¬ ((x.1 = -1 ∧ 0 ≤ x.2 ∧ x.2 ≤ (w : Int)) ∨ (x.1 = (h : Int) ∧ -1 ≤ x.2 ∧ x.2 < (w : Int))) ∧ σ = [some (.ref p), some (.ref t), some (.int x.1), some (.int x.2)], ?_, ?_⟩
  · by_cases c1 : x.1 = -1
    · refine ⟨_, rfl, _, rfl, rfl, _, rfl, iteD (fun _ => ?_) (fun y => absurd (congrArg V.int c1) y)⟩
      by_cases c2 : 0 ≤ x.2
      · refine ⟨_, rfl, _, _, rfl, rfl, _, rfl, iteD (fun _ => ?_) (fun y => absurd c2 y)⟩
        refine ⟨_, rfl, p, _, dx, _, _, rfl, hp, T.cl_Board, T.n_Board_width, bfl_width _ _ _, _, _, rfl, rfl, _, rfl, iteD (fun c3 => yn (.inl ⟨c1, c2, c3⟩)) (fun c3 => ?_)⟩
        refine ⟨_, rfl, _, rfl, p, _, dx, _, _, rfl, hp, T.cl_Board, T.n_Board_height, bfl_height _ _ _, rfl, _, rfl, iteD (fun d1 => ?_) (fun d1 => iteF ⟨rfl, by omega, rfl⟩)⟩
        exfalso
        have := V.int.inj d1
        omega
      · refine ⟨_, rfl, _, _, rfl, rfl, _, rfl, iteD (fun y => absurd y c2) (fun _ => ⟨_, rfl, iteF ?_⟩)⟩
        refine ⟨_, rfl, _, rfl, p, _, dx, _, _, rfl, hp, T.cl_Board, T.n_Board_height, bfl_height _ _ _, rfl, _, rfl, iteD (fun d1 => ?_) (fun d1 => iteF ⟨rfl, by omega, rfl⟩)⟩
        exfalso
        have := V.int.inj d1
        omega
    · refine ⟨_, rfl, _, rfl, rfl, _, rfl, iteD (fun y => absurd (V.int.inj y) c1) (fun _ => iteF ?_)⟩
      by_cases d1 : x.1 = (h : Int)
      · refine ⟨_, rfl, _, rfl, p, _, dx, _, _, rfl, hp, T.cl_Board, T.n_Board_height, bfl_height _ _ _, rfl, _, rfl, iteD (fun _ => ?_) (fun y => absurd (congrArg V.int d1) y)⟩
        by_cases d2 : -1 ≤ x.2
        · refine ⟨_, rfl, _, rfl, _, _, rfl, rfl, _, rfl, iteD (fun _ => ?_) (fun y => absurd d2 y)⟩
          exact ⟨_, rfl, p, _, dx, _, _, rfl, hp, T.cl_Board, T.n_Board_width, bfl_width _ _ _, _, _, rfl, rfl, _, rfl, iteD (fun d3 => yn (.inr ⟨d1, d2, d3⟩)) (fun d3 => ⟨rfl, (fun k => k.elim (fun k => c1 k.1) (fun k => d3 k.2.2)), rfl⟩)⟩
        · exact ⟨_, rfl, _, rfl, _, _, rfl, rfl, _, rfl, iteD (fun y => absurd y d2) (fun _ => ⟨_, rfl, iteF ⟨rfl, (fun k => k.elim (fun k => c1 k.1) (fun k => d2 k.2.1)), rfl⟩⟩)⟩
      · exact ⟨_, rfl, _, rfl, p, _, dx, _, _, rfl, hp, T.cl_Board, T.n_Board_height, bfl_height _ _ _, rfl, _, rfl, iteD (fun y => absurd (V.int.inj y) d1) (fun _ => iteF ⟨rfl, (fun k => k.elim (fun k => c1 k.1) (fun k => d1 k.1)), rfl⟩)⟩
  rintro σ H' ⟨rfl, nn, rfl⟩
  by_cases c1 : 0 ≤ x.1
  · refine ⟨_, rfl, _, _, rfl, rfl, _, rfl, iteD (fun _ => ?_) (fun y => absurd c1 y)⟩
    refine ⟨_, rfl, p, _, dx, _, _, rfl, hp, T.cl_Board, T.n_Board_height, bfl_height _ _ _, _, _, rfl, rfl, _, rfl, iteD (fun c2 => ?_) (fun c2 => yo nn fun k => c2 k.2.1)⟩
    refine ⟨_, rfl, _, rfl, rfl, _, rfl, iteD (fun c3 => yw nn ⟨c1, c2, .inl (V.int.inj c3)⟩) (fun c3 => ?_)⟩
    refine ⟨_, rfl, _, rfl, p, _, dx, _, _, rfl, hp, T.cl_Board, T.n_Board_width, bfl_width _ _ _, rfl, _, rfl, iteD (fun c4 => yw nn ⟨c1, c2, .inr (V.int.inj c4)⟩) (fun c4 => yo nn fun k => ?_)⟩
    rcases k.2.2 with k | k
    · exact c3 (congrArg V.int k)
    · exact c4 (congrArg V.int k)
  · exact ⟨_, rfl, _, _, rfl, rfl, _, rfl, iteD (fun y => absurd y c1) (fun _ => ⟨_, rfl, iteF (yo nn fun k => c1 k.1)⟩)⟩
theorem area2 {B : Bd} {h w : Nat} (I : IsB B h w) : 6 * ((h + 2) * (w + 2)) ≤ 726 := by
  have h9 := I.h9
  have w9 := I.w9
  have : (h + 2) * (w + 2) ≤ 11 * 11 := Nat.mul_le_mul (by omega) (by omega)
  omega
/-- what walk tells -/
def WalkIs (H : Hp) (B : Bd) (h w : Nat) (v : V) (H' : Hp) : Prop := ∃ (f : Addr) (ws : List V) (ps : List Pr) (x : Pr), v = .ref f ∧ H f = none ∧ Same H H' ∧ H' f = some (.lst ws) ∧ Pairs H' ws ps ∧ Wk (cel B) h w ps x ∧ stp (cel B) h w x = none
def sp_walk (C CN : Addr) : Sp := fun vs H Q E => ∃ (p l : Addr) (B : Bd) (h w : Nat), vs = [.ref p] ∧ BoardAt C H p l B ∧ IsB B h w ∧ (emptyL B ≠ [] → ∀ H', Same H H' → E (.ref CN) none H') ∧
  (emptyL B = [] → ∀ v H', WalkIs H B h w v H' → Q v H')
theorem ok_walk (T : Top K mg) : FnOk P w K mg base (L2.CX P w) 4 T.a_walk T.d_walk ["board"] (sp_walk T.C_Board T.C_NotFull) := by
  refine T.F_walk.okX sc_walk (fun vs H Q E h => ?_) (fun cdv A outer s H vs Q E hr h => ?_)
  · obtain ⟨_, _, _, _, _, rfl, _⟩ := h
    rfl
  obtain ⟨p, l, B, h, w, rfl, bt, I, qe, qs⟩ := h
  refine ⟨_, (pss_cons (ps_if (pt_cmpR op_gt (pe_callB call_len_seq (by rfl) T.z_len PySem.boot_len (pa_cons (pe_call (ok_empty T) (hr.mono (by decide)) rfl T.m_empty T.F_empty.kp T.B_empty .nil pass0 (pa_cons (pv 0) pa_nil)) pa_nil)) pe_int (nomark _))
      (pss_one (ps_raise rfl (takes_of rfl rfl rfl rfl) (pmk_own PySem.F.excBase_ValueError T.x_NotFull T.mC_NotFull T.k_NotFull (raises_own T.b_NotFull T.t_NotFull) rfl))) pss_nil)
      (pss_cons (ps_asg (pe_tup (pa_cons (pe_tup (pa_cons (pe_un un_neg pe_int) (pa_cons pe_int pa_nil))) (pa_cons (pe_tup (pa_cons pe_int (pa_cons (pe_un un_neg pe_int) pa_nil))) pa_nil))) (pg_tup rfl (pgs_cons (pg_name (i := 2) sc_walk.nd rfl (Or.inl rfl)) (pgs_cons (pg_name (i := 3) sc_walk.nd rfl (Or.inl rfl)) pgs_nil))))
      (pss_cons (ps_set (i := 1) sc_walk.nd rfl (Or.inl rfl) (pe_lst pa_nil))
      (pss_one (ps_while (passes_of rfl) (pt_val pe_bl)
      (pss_cons (ps_expr (pe_bm PySem.F.plainAttrs_list PySem.F.slot_list_append PySem.F.type_list_append mt_append (pv 1) (pa_cons (pe_tup (pa_cons (pv 2) (pa_cons (pv 3) pa_nil))) pa_nil)))
      (pss_cons (ps_set (i := 4) sc_walk.nd rfl (Or.inl rfl) (pe_call (ok_near T) (hr.mono (by decide)) rfl T.m_near T.F_near.kp T.B_near .nil pass0 (pa_cons (pe_ix ix_tup (pv 3) pe_int (fun _ _ => rfl)) (pa_cons (pe_ix ix_tup (pv 3) pe_int (fun _ _ => rfl)) pa_nil))))
      (pss_cons (ps_set (i := 5) sc_walk.nd rfl (Or.inl rfl) (pe_ix ix_list (pv 4) (pe_op op_mod (pe_op op_add (pe_bm PySem.F.plainAttrs_list PySem.F.slot_list_index PySem.F.type_list_index (mt_indexD (hu65 hr)) (pv 4) (pa_cons (pv 2) pa_nil)) pe_int) pe_int) (fun _ _ => rfl)))
      (pss_cons (ps_set (i := 6) sc_walk.nd rfl (Or.inl rfl) (pe_call (ok_owner T) (hr.mono (by decide)) rfl T.m_owner T.F_owner.kp T.B_owner .nil pass0 (pa_cons (pv 0) (pa_cons (pv 5) pa_nil))))
      (pss_cons (ps_if (pt_cmpR op_isN (pv 6) pe_non (nomark _))
      (pss_one (ps_ret (pv 1))) pss_nil)
      (pss_one (ps_if (pt_cmpR op_eq (pv 6) pe_str (nomark _))
      (pss_one (ps_set (i := 2) sc_walk.nd rfl (Or.inl rfl) (pv 5))) (pss_one (ps_set (i := 3) sc_walk.nd rfl (Or.inl rfl) (pv 5))))))))))))))), ?_⟩
  refine ⟨_, rfl, p, l, B, h, w, rfl, bt, I, fun v H1 ⟨n, ws, ev, nn, s1, hn, hc⟩ => ?_⟩
  subst ev
  have lw := hc.len
  refine ⟨n, _, rfl, .inl (SqL.of hn), _, _, rfl, rfl, _, rfl, iteD (fun c => ?_) (fun c => ?_)⟩
  · refine qe (fun z => ?_) _ s1
    rw [z] at lw
    have : ws.length = 0 := lw
    omega
  have z : emptyL B = [] := by
    cases e : emptyL B with
    | nil => rfl
    | cons a as =>
      exfalso
      rw [e, List.length_cons] at lw
      omega
  have fc : ∀ y, cel B y ≠ 46 := fun y e => by
    have := mem_emptyL.mpr e
    rw [z] at this
    cases this
  have hq := qs z
  have a2 := area2 I
  -- one, two; found
  refine ⟨_, rfl, sz2, fun a ha => ?_⟩
  have sa := same_new ha (.tup (cellV st0.1))
  have ha1 : upd H1 a (.tup (cellV st0.1)) a = some (.tup (cellV st0.1)) := upd_same
  refine ⟨_, rfl, sz2, fun b hb => ?_⟩
  have sb := same_new hb (.tup (cellV st0.2))
  have ha2 := sb _ _ ha1
  have hb2 : upd (upd H1 a (.tup (cellV st0.1))) b (.tup (cellV st0.2)) b = some (.tup (cellV st0.2)) := upd_same
  refine ⟨sz2, fun tt htt => ?_⟩
  have stt := same_new htt (.tup [V.ref a, V.ref b])
  refine ⟨tt, _, rfl, SqT.of upd_same, rfl, _, _, rfl, _, _, rfl, rfl, ?_⟩
  refine ⟨sz0, fun f hf => ?_⟩
  have s2 := s1.trans (sa.trans (sb.trans stt))
  replace ha2 := stt _ _ ha2
  replace hb2 := stt _ _ hb2
  have nf : H f = none := s2.free hf
  have sf := same_new hf (.lst [])
  -- the loop
  refine ⟨fun m σ H' => ∃ (ps : List Pr) (x : Pr) (ws : List V) (a b : Addr) (v1 v2 v3 : Option V), m = 800 - ps.length ∧ Same H H' ∧ H' f = some (.lst ws) ∧ Pairs H' ws ps ∧ Wk (cel B) h w (ps ++ [x]) x ∧ H' a = some (.tup (cellV x.1)) ∧ H' b = some (.tup (cellV x.2)) ∧
    σ = [some (.ref p), some (.ref f), some (.ref a), some (.ref b), v1, v2, v3], ⟨800, [], st0, [], a, b, _, _, _, rfl, s2.trans sf, upd_same, .nil, .one, sf _ _ ha2, sf _ _ hb2, rfl⟩, ?_⟩
  rintro m σ H4 ⟨ps, x, ws, a, b, v1, v2, v3, rfl, s4, hf4, hp4, wk, ha4, hb4, rfl⟩
  have bd := wk.bound I.h1
  have vl := wk.vld I.h1
  rw [List.length_append] at bd
  have bd' : ps.length + 1 ≤ 726 := Nat.le_trans bd a2
  have lp := hp4.len
  refine ⟨_, rfl, iteT ⟨fun σ' H' => ∃ (ps' : List Pr) (x : Pr) (ws : List V) (a b : Addr) (v1 v2 v3 : Option V), ps'.length = ps.length + 1 ∧ Same H H' ∧ H' f = some (.lst ws) ∧ Pairs H' ws ps' ∧ Wk (cel B) h w (ps' ++ [x]) x ∧ H' a = some (.tup (cellV x.1)) ∧ H' b = some (.tup (cellV x.2)) ∧
    σ' = [some (.ref p), some (.ref f), some (.ref a), some (.ref b), v1, v2, v3], ?_, ?_⟩⟩
  · rintro σ' H' ⟨ps', x', ws', a', b', u1, u2, u3, l', r'⟩
    exact ⟨800 - ps'.length, by omega, ps', x', ws', a', b', u1, u2, u3, rfl, r'⟩
  -- found.append
  refine ⟨_, rfl, .inl ⟨rfl, _, SqL.of hf4⟩, _, rfl, _, rfl, sz2, fun t ht => ?_⟩
  have st := same_new ht (.tup [V.ref a, V.ref b])
  have hf5 := st _ _ hf4
  refine ⟨f, ws, _, rfl, rfl, hf5, sz_lt (by omega), ?_⟩
  have hp6 : Pairs (upd (upd H4 t (.tup [V.ref a, V.ref b])) f (.lst (ws ++ [V.ref t]))) (ws ++ [V.ref t]) (ps ++ [x]) := ((hp4.same st).app (.cons upd_same (st _ _ ha4) (st _ _ hb4) .nil)).tps (.lst hf5)
  have ha6 := (Tps.lst (o := .lst (ws ++ [V.ref t])) hf5) _ _ (st _ _ ha4)
  have hb6 := (Tps.lst (o := .lst (ws ++ [V.ref t])) hf5) _ _ (st _ _ hb4)
  have s6 := same_mut (o := .lst (ws ++ [V.ref t])) (s4.trans st) nf
  have hf6 : upd (upd H4 t (.tup [V.ref a, V.ref b])) f (.lst (ws ++ [V.ref t])) f = some (.lst (ws ++ [V.ref t])) := upd_same
  revert hp6 ha6 hb6 s6 hf6
  generalize upd (upd H4 t (.tup [V.ref a, V.ref b])) f (.lst (ws ++ [V.ref t])) = H6
  intro hp6 ha6 hb6 s6 hf6
  -- around, ahead
  refine ⟨_, rfl, b, _, _, _, rfl, rfl, SqT.of hb6, atI_nat (j := 0) rfl, _, rfl, b, _, _, _, rfl, rfl, SqT.of hb6, atI_nat (j := 1) rfl, x.2.1, x.2.2, rfl, fun r H7 rs s7 nr hr7 cr => ?_⟩
  refine gn ?_
  obtain ⟨j, j6, ej, en, no⟩ := near_next vl.nr
  obtain ⟨ac, eac, hac⟩ := cr.at en
  have ha7 := s7 _ _ ha6
  have hb7 := s7 _ _ hb6
  refine ⟨_, rfl, _, rfl, .inl ⟨rfl, _, SqL.of hr7⟩, _, rfl, r, .ref a, cellD x.1, (near6 x.2).map cellD, j, cellD x.1, rfl, rfl, .lst (SqL.of hr7) cr.dp, cell_dp ha7, shaped_cells _, shaped_cell _, ?_, by rw [eqv_cell, decide_eq_true rfl], fun k z' hk ez => ?_, _, _, rfl, rfl, _, _, rfl, rfl, (show (0 : Int) < 6 by decide), r, _, _, V.ref ac, rfl, rfl, SqL.of hr7, ?_, ?_⟩
  · rw [List.getElem?_map, ej]
    rfl
  · obtain ⟨c, ec, rfl⟩ := map_get ez
    rw [eqv_cell, decide_eq_false (no k c hk ec)]
  · have e1 : ((j : Int) + 1) % 6 = (((j + 1) % 6 : Nat) : Int) := by omega
    show atI rs (((j : Int) + 1) % 6) = some (.ref ac)
    rw [e1]
    exact atI_nat eac
  refine gn ?_
  refine ⟨_, rfl, _, rfl, p, l, B, h, w, ac, ahd x.1 x.2, rfl, bt.same (s6.trans s7), I, fc, hac, ?_⟩
  cases eo : own (cel B) h w (ahd x.1 x.2) with
  | none =>
    have es : stp (cel B) h w x = none := by
      unfold stp
      rw [eo]
    refine ⟨_, rfl, rfl, _, rfl, iteD (fun _ => ?_) (fun y => absurd rfl y)⟩
    exact ⟨_, rfl, hq _ _ ⟨f, _, _, x, rfl, nf, s6.trans s7, s7 _ _ hf6, hp6.same s7, wk, es⟩⟩
  | some s =>
    refine ⟨_, rfl, rfl, _, rfl, iteD (fun y => by cases y) (fun _ => ?_)⟩
    have ll : (ps ++ [x]).length = ps.length + 1 := by rw [List.length_append]; rfl
    cases s with
    | false =>
      have es : stp (cel B) h w x = some (ahd x.1 x.2, x.2) := by
        unfold stp
        rw [eo]
      refine ⟨_, rfl, rfl, _, rfl, iteD (fun _ => ?_) (fun y => absurd (by rw [s_n]; rfl) y)⟩
      exact ⟨_, rfl, ps ++ [x], _, _, _, _, _, _, _, ll, s6.trans s7, s7 _ _ hf6, hp6.same s7, .snoc wk es, hac, hb7, rfl⟩
    | true =>
      have es : stp (cel B) h w x = some (x.1, ahd x.1 x.2) := by
        unfold stp
        rw [eo]
      refine ⟨_, rfl, rfl, _, rfl, iteD (fun y => absurd (hand_n.mp y) (by decide)) (fun _ => ?_)⟩
      exact ⟨_, rfl, ps ++ [x], _, _, _, _, _, _, _, ll, s6.trans s7, s7 _ _ hf6, hp6.same s7, .snoc wk es, ha7, hac, rfl⟩
end
end Sw
namespace Sw
open PySem PySem.Spec PyProof.Rows L2
section
variable {P : Program} {w : World} {K : PySem.W.Frag} {mg : Str → Option Value} {base : Heap}
/-! the law's reader of the script -/
def sAt (ns : List Int) (k : Int) : Int := ns.getD k.toNat 0
def sp__law_cell_at (K : PySem.W.Frag) : Sp := fun vs H Q _ => ∃ (a : Addr) (ns : List Int) (k : Int), vs = [.ref a, .int k] ∧ SqL K H a (ns.map V.int) ∧ 0 ≤ k ∧ Q (.int (sAt ns k)) H
theorem ok__law_cell_at (T : Top K mg) : FnOk P w K mg base CX0 1 T.a__law_cell_at T.d__law_cell_at ["script", "k"] (sp__law_cell_at K) := by
  refine T.F__law_cell_at.ok sc__law_cell_at (fun vs H Q E h => ?_) (fun cdv A outer s H vs Q E hr h => ?_)
  · obtain ⟨_, _, _, rfl, _⟩ := h
    rfl
  obtain ⟨a, ns, k, rfl, hS, hk, q⟩ := h
  refine ⟨_, (pss_cons (ps_if (pt_cmpR op_lt (pv 1) (pe_callB call_len_seq (by rfl) T.z_len PySem.boot_len (pa_cons (pv 0) pa_nil)) (nomark _))
      (pss_one (ps_ret (pe_ix ix_list (pv 0) (pv 1) (fun _ _ => rfl)))) pss_nil)
      (pss_one (ps_ret pe_int))), ?_⟩
  refine ⟨_, rfl, _, rfl, a, _, rfl, .inl hS, _, _, rfl, rfl, _, rfl, ?_⟩
  refine ite2 (fun c => ?_) (fun c => ?_)
  · have c' : k < ((ns.map V.int).length : Int) := of_decide_eq_true c
    rw [List.length_map] at c'
    have hl : k.toNat < ns.length := by omega
    have e : (ns.map V.int)[k.toNat]? = some (.int ns[k.toNat]) := by rw [List.getElem?_map, List.getElem?_eq_getElem hl] <;> rfl
    refine ⟨_, rfl, _, rfl, a, _, _, _, rfl, rfl, hS, at_int hk e, ?_⟩
    have : sAt ns k = ns[k.toNat] := by
      unfold sAt
      rw [List.getD_eq_getElem?_getD, List.getElem?_eq_getElem hl] <;> rfl
    rw [← this]
    exact q
  · have c' : ¬ k < ((ns.map V.int).length : Int) := of_decide_eq_false (Bool.eq_false_iff.mpr c)
    rw [List.length_map] at c'
    have : sAt ns k = 0 := by
      unfold sAt
      rw [List.getD_eq_getElem?_getD, List.getElem?_eq_none (by omega)] <;> rfl
    have q' : Q (.int 0) H := by
      rw [← this]
      exact q
    exact q'
end
end Sw
namespace Sw
open PySem PySem.Spec PyProof.Rows L2
section
variable {P : Program} {w : World} {K : PySem.W.Frag} {mg : Str → Option Value} {base : Heap}
/-! the law's draws: a number below many, a size, rows -/
def some13 : List Int := [48271, 69621, 16807, 39373, 30269, 40014, 40692, 50021, 61687, 71993, 83869, 95561, 30307]
theorem some13_at {k : Int} (h0 : 0 ≤ k) (h1 : k < 13) : ∃ c : Int, atI (some13.map V.int) k = some (.int c) ∧ 0 ≤ c ∧ c ≤ 95561 := by
  have hl : k.toNat < some13.length := by show k.toNat < 13; omega
  have all : ∀ x ∈ some13, 0 ≤ x ∧ x ≤ 95561 := by decide
  have hm := all _ (List.getElem_mem hl)
  refine ⟨some13[k.toNat], at_int h0 ?_, hm.1, hm.2⟩
  rw [List.getElem?_map, List.getElem?_eq_getElem hl]
  rfl
def sp__law_mix : Sp := fun vs H Q _ => ∃ (cell k many : Int), vs = [.int cell, .int k, .int many] ∧ 0 ≤ k ∧ k ≤ 1000000 ∧ 0 < many ∧ ∀ (m : Int) (H' : Hp), Same H H' → 0 ≤ m → m < many → Q (.int m) H'
theorem ok__law_mix (T : Top K mg) : FnOk P w K mg base CX0 1 T.a__law_mix T.d__law_mix ["cell", "k", "many"] sp__law_mix := by
  refine T.F__law_mix.ok sc__law_mix (fun vs H Q E h => ?_) (fun cdv A outer s H vs Q E hr h => ?_)
  · obtain ⟨_, _, _, rfl, _⟩ := h
    rfl
  obtain ⟨cell, k, many, rfl, k0, k1, hm, q⟩ := h
  refine ⟨_, (pss_cons (ps_set (i := 3) sc__law_mix.nd rfl (Or.inl rfl) (pe_lst (pa_cons pe_int (pa_cons pe_int (pa_cons pe_int (pa_cons pe_int (pa_cons pe_int (pa_cons pe_int (pa_cons pe_int (pa_cons pe_int (pa_cons pe_int (pa_cons pe_int (pa_cons pe_int (pa_cons pe_int (pa_cons pe_int pa_nil)))))))))))))))
      (pss_cons (ps_set (i := 4) sc__law_mix.nd rfl (Or.inl rfl) (pe_op op_mul (pe_op op_add (pe_op op_mod (pv 0) pe_int) pe_int) (pe_ix ix_list (pv 3) (pe_op op_mod (pv 1) pe_int) (fun _ _ => rfl))))
      (pss_cons (ps_set (i := 4) sc__law_mix.nd rfl (Or.inl rfl) (pe_op op_add (pe_op op_mul (pv 4) (pe_op op_add (pe_op op_mul pe_int (pe_op op_fdiv (pv 1) pe_int)) pe_int)) (pe_op op_mul pe_int (pv 1))))
      (pss_one (ps_ret (pe_op op_mod (pe_op op_fdiv (pe_op op_mod (pv 4) pe_int) pe_int) (pv 2))))))), ?_⟩
  refine ⟨by show 13 ≤ sizeLine; decide, fun l hl => ?_⟩
  obtain ⟨c, ec, c0, c1⟩ := some13_at (k := k % 13) (Int.emod_nonneg _ (by decide)) (Int.emod_lt_of_pos _ (by decide))
  have e0 : 0 ≤ cell % 2147483647 := Int.emod_nonneg _ (by decide)
  have e1 : cell % 2147483647 < 2147483647 := Int.emod_lt_of_pos _ (by decide)
  refine ⟨_, rfl, _, _, rfl, rfl, (show (0 : Int) < 2147483647 by decide), _, _, rfl, rfl, _, rfl, _, rfl, _, _, rfl, rfl, (show (0 : Int) < 13 by decide), l, some13.map V.int, _, _, rfl, rfl, SqL.of upd_same, ec, _, _, rfl, rfl, .inl ⟨?_, ?_⟩, ?_⟩
  · show -(2 ^ 64 : Int) < cell % 2147483647 + 12345
    omega
  · show cell % 2147483647 + 12345 < (2 ^ 64 : Int)
    omega
  have b0 : 0 ≤ (cell % 2147483647 + 12345) * c := Int.mul_nonneg (by omega) c0
  have b1 : (cell % 2147483647 + 12345) * c ≤ 2147495992 * 95561 := Int.mul_le_mul (by omega) c1 c0 (by decide)
  refine ⟨_, rfl, _, rfl, _, _, rfl, rfl, ⟨by decide, by decide⟩, _, _, rfl, rfl, .inl ⟨by decide, by decide⟩, _, _, rfl, rfl, _, _, rfl, rfl, .inl ⟨?_, ?_⟩, ?_⟩
  · show -(2 ^ 64 : Int) < (cell % 2147483647 + 12345) * c
    omega
  · show (cell % 2147483647 + 12345) * c < (2 ^ 64 : Int)
    omega
  refine ⟨_, rfl, _, _, rfl, rfl, .inl ⟨by decide, by decide⟩, _, _, rfl, rfl, ?_⟩
  refine ⟨_, rfl, _, _, rfl, rfl, (show (0 : Int) < 1000000007 by decide), _, _, rfl, rfl, ⟨by decide, by decide⟩, _, rfl, _, _, rfl, rfl, hm, ?_⟩
  exact q _ _ (same_new hl _) (Int.emod_nonneg _ (by omega)) (Int.emod_lt_of_pos _ hm)

def sp__law_size_by (K : PySem.W.Frag) : Sp := fun vs H Q _ => ∃ (a : Addr) (ns : List Int) (most : Int), vs = [.ref a, .int most] ∧ SqL K H a (ns.map V.int) ∧ 0 < most ∧
  ∀ (h w : Int) (t : Addr) (H' : Hp), 1 ≤ h → h ≤ most → 1 ≤ w → w ≤ most → Same H H' → H' t = some (.tup [.int h, .int w]) → Q (.ref t) H'
theorem ok__law_size_by (T : Top K mg) : FnOk P w K mg base CX0 2 T.a__law_size_by T.d__law_size_by ["script", "most"] (sp__law_size_by K) := by
  refine T.F__law_size_by.ok sc__law_size_by (fun vs H Q E h => ?_) (fun cdv A outer s H vs Q E hr h => ?_)
  · obtain ⟨_, _, _, rfl, _⟩ := h
    rfl
  obtain ⟨a, ns, most, rfl, hS, hm, q⟩ := h
  refine ⟨_, (pss_one (ps_ret (pe_tup (pa_cons (pe_op op_add pe_int (pe_op op_mod (pe_call (ok__law_cell_at T) (hr.mono (by decide)) rfl T.m__law_cell_at T.F__law_cell_at.kp T.B__law_cell_at .nil pass0 (pa_cons (pv 0) (pa_cons pe_int pa_nil))) (pv 1))) (pa_cons (pe_op op_add pe_int (pe_op op_mod (pe_call (ok__law_cell_at T) (hr.mono (by decide)) rfl T.m__law_cell_at T.F__law_cell_at.kp T.B__law_cell_at .nil pass0 (pa_cons (pv 0) (pa_cons pe_int pa_nil))) (pv 1))) pa_nil))))), ?_⟩
  refine ⟨_, rfl, a, ns, 0, rfl, hS, by decide, _, rfl, _, _, rfl, rfl, hm, _, _, rfl, rfl, _, rfl, a, ns, 1, rfl, hS, by decide, _, rfl, _, _, rfl, rfl, hm, _, _, rfl, rfl, sz2, fun t ht => ?_⟩
  have m0 := Int.emod_nonneg (sAt ns 0) (show most ≠ 0 by omega)
  have m1 := Int.emod_lt_of_pos (sAt ns 0) hm
  have m2 := Int.emod_nonneg (sAt ns 1) (show most ≠ 0 by omega)
  have m3 := Int.emod_lt_of_pos (sAt ns 1) hm
  exact q (1 + sAt ns 0 % most) (1 + sAt ns 1 % most) t _ (by omega) (by omega) (by omega) (by omega) (same_new ht _) upd_same

/-- a sign that may be drawn -/
def LetOk (full : Bool) (c : Nat) : Prop := (c = 110 ∨ c = 119 ∨ c = 46) ∧ (full = true → c ≠ 46)
def kinds5 : List Nat := [110, 119, 110, 119, 46]
theorem kinds_at {full : Bool} {k : Int} (h0 : 0 ≤ k) (h1 : k < if full then 4 else 5) : ∃ c : Nat, atI [V.str (txt [110]), .str (txt [119]), .str (txt [110]), .str (txt [119]), .str (txt [46])] k = some (.str (txt [c])) ∧ LetOk full c := by
  have h5 : k < 5 := by cases full <;> simp at h1 <;> omega
  have hl : k.toNat < kinds5.length := by show k.toNat < 5; omega
  refine ⟨kinds5[k.toNat], at_int h0 ?_, ?_⟩
  · show (kinds5.map fun c => V.str (txt [c]))[k.toNat]? = _
    rw [List.getElem?_map, List.getElem?_eq_getElem hl]
    rfl
  · have a5 : ∀ x ∈ kinds5, x = 110 ∨ x = 119 ∨ x = 46 := by decide
    refine ⟨a5 _ (List.getElem_mem hl), fun e => ?_⟩
    subst e
    have h4 : k.toNat < 4 := by simp at h1; omega
    have a4 : ∀ i : Nat, i < 4 → ∀ h : i < kinds5.length, kinds5[i] ≠ 46 := by decide
    exact a4 _ h4 hl
def sp__law_rows_by (K : PySem.W.Frag) : Sp := fun vs H Q _ => ∃ (a : Addr) (ns : List Int) (h w : Nat) (full : Bool), vs = [.ref a, .int (h : Int), .int (w : Int), .bl full] ∧ SqL K H a (ns.map V.int) ∧ 1 ≤ h ∧ h ≤ 9 ∧ 1 ≤ w ∧ w ≤ 9 ∧
  ∀ (B : Bd) (p : Addr) (H' : Hp), Same H H' → H p = none → H' p = some (.lst (rowsV B)) → IsB B h w → (full = true → ∀ r ∈ B, ∀ c ∈ r, c ≠ 46) → Q (.ref p) H'
theorem ok__law_rows_by (T : Top K mg) : FnOk P w K mg base CX0 2 T.a__law_rows_by T.d__law_rows_by ["script", "height", "width", "full"] (sp__law_rows_by K) := by
  refine T.F__law_rows_by.ok sc__law_rows_by (fun vs H Q E h => ?_) (fun cdv A outer s H vs Q E hr h => ?_)
  · obtain ⟨_, _, _, _, _, rfl, _⟩ := h
    rfl
  obtain ⟨a, ns, h, w, full, rfl, hS, h1, h9, w1, w9, q⟩ := h
  refine ⟨_, (pss_cons (ps_set (i := 4) sc__law_rows_by.nd rfl (Or.inl rfl) (pe_lst pa_nil))
      (pss_cons (ps_for PassesOwn.never rfl (pi_range1 rfl T.z_range (pa_cons (pv 1) pa_nil)) (pg_name (i := 5) sc__law_rows_by.nd rfl (Or.inl rfl))
      (pss_cons (ps_set (i := 6) sc__law_rows_by.nd rfl (Or.inl rfl) (pe_call (ok__law_cell_at T) (hr.mono (by decide)) rfl T.m__law_cell_at T.F__law_cell_at.kp T.B__law_cell_at .nil pass0 (pa_cons (pv 0) (pa_cons (pe_op op_add pe_int (pv 5)) pa_nil))))
      (pss_cons (ps_set (i := 7) sc__law_rows_by.nd rfl (Or.inl rfl) pe_str)
      (pss_cons (ps_for PassesOwn.never rfl (pi_range1 rfl T.z_range (pa_cons (pv 2) pa_nil)) (pg_name (i := 8) sc__law_rows_by.nd rfl (Or.inl rfl))
      (pss_cons (ps_set (i := 9) sc__law_rows_by.nd rfl (Or.inl rfl) (pe_call (ok__law_mix T) (hr.mono (by decide)) rfl T.m__law_mix T.F__law_mix.kp T.B__law_mix .nil pass0 (pa_cons (pv 6) (pa_cons (pe_op op_add (pe_op op_mul pe_int (pv 5)) (pv 8)) (pa_cons (pe_ix ix_list (pe_lst (pa_cons pe_int (pa_cons pe_int pa_nil))) (pe_callTy call_int1 (by rfl) T.z_int (by decide +kernel) (pa_cons (pv 3) pa_nil)) (fun _ _ => rfl)) pa_nil)))))
      (pss_one (ps_set (i := 7) sc__law_rows_by.nd rfl (Or.inl rfl) (pe_op op_add_str (pv 7) (pe_ix ix_list (pe_lst (pa_cons pe_str (pa_cons pe_str (pa_cons pe_str (pa_cons pe_str (pa_cons pe_str pa_nil)))))) (pv 9) (fun _ _ => rfl)))))))
      (pss_one (ps_expr (pe_bm PySem.F.plainAttrs_list PySem.F.slot_list_append PySem.F.type_list_append mt_append (pv 4) (pa_cons (pv 7) pa_nil))))))))
      (pss_one (ps_ret (pv 4))))), ?_⟩
  refine ⟨sz0, fun l hl => ?_⟩
  refine ⟨_, rfl, (h : Int), rfl, by omega, by omega, for_range (lo := 0) (n := h) (fun i σ H' => Same H H' ∧ ∃ B : Bd, H' l = some (.lst (rowsV B)) ∧ B.length = i ∧ (∀ r ∈ B, r.length = w ∧ ∀ c ∈ r, LetOk full c) ∧
    ∃ v1 v2 v3 v4 v5, σ = [some (.ref a), some (.int h), some (.int w), some (.bl full), some (.ref l), v1, v2, v3, v4, v5]) ⟨same_new hl _, [], upd_same, rfl, (fun r hr => nomatch hr), _, _, _, _, _, rfl⟩ ?_ ?_⟩
  · rintro i σ H1 hi ⟨s1, B, hB, lB, aB, v1, v2, v3, v4, v5, rfl⟩
    refine ⟨_, rfl, _, rfl, _, _, rfl, rfl, a, ns, _, rfl, s1.seq hS, by omega, ?_⟩
    refine ⟨_, rfl, (w : Int), rfl, by omega, by omega, for_range (lo := 0) (n := w) (fun j σ H' => Same H H' ∧ H' l = some (.lst (rowsV B)) ∧ ∃ rr : List Nat, rr.length = j ∧ (∀ c ∈ rr, LetOk full c) ∧
      ∃ u1 u3 u4, σ = [some (.ref a), some (.int h), some (.int w), some (.bl full), some (.ref l), some (.int ((0 : Int) + (i : Int))), some (.int u1), some (.str (txt rr)), u4, u3]) ⟨s1, hB, [], rfl, (fun c hc => nomatch hc), sAt ns (3 + (0 + (i : Int))), v5, v4, by rw [s_nil]; rfl⟩ ?_ ?_⟩
    · rintro j σ H2 hj ⟨s2, hB2, rr, lr, ar, u1, u3, u4, rfl⟩
      refine ⟨_, rfl, _, rfl, _, _, rfl, rfl, .inl ⟨by decide, by decide⟩, _, rfl, _, _, rfl, rfl, sz2, fun l5 h5 => ?_⟩
      refine ⟨_, rfl, .inr ⟨full, rfl, ?_⟩⟩
      have i5 : atI [V.int 5, V.int 4] (if full = true then 1 else 0) = some (.int (if full = true then 4 else 5)) := by
        cases full <;> rfl
      refine ⟨l5, _, _, _, rfl, rfl, SqL.of upd_same, i5, ?_⟩
      refine ⟨u1, _, _, rfl, by omega, by omega, by cases full <;> decide, fun kd H3 s3 k0 k1 => ?_⟩
      have s4 : Same H2 H3 := (same_new h5 _).trans s3
      refine ⟨_, rfl, ?_⟩
      refine ⟨by show 5 ≤ sizeLine; decide, fun l6 h6 => ?_⟩
      obtain ⟨c, ec, oc⟩ := kinds_at k0 k1
      rw [s_n, s_w, s_dot]
      refine ⟨_, rfl, l6, _, _, _, rfl, rfl, SqL.of upd_same, ec, _, _, rfl, rfl, ?_, ?_⟩
      · rw [txt_len, txt_len]
        exact sz_le (by rw [lr]; show j + 1 ≤ 1000000; omega)
      have s5 := s4.trans (same_new h6 (.lst [V.str (txt [110]), .str (txt [119]), .str (txt [110]), .str (txt [119]), .str (txt [46])]))
      refine ⟨s2.trans s5, s5 _ _ hB2, rr ++ [c], by rw [List.length_append, lr]; rfl, fun x hx => ?_, u1, some (.int kd), some (.int ((0 : Int) + (j : Int))), ?_⟩
      · rcases List.mem_append.mp hx with hx | hx
        · exact ar x hx
        · rw [List.mem_singleton.mp hx]
          exact oc
      · rw [txt_app]
        rfl
    · rintro σ H2 ⟨s2, hB2, rr, lr, ar, u1, u3, u4, rfl⟩
      refine ⟨_, rfl, .inl ⟨rfl, _, SqL.of hB2⟩, _, rfl, l, _, _, rfl, rfl, hB2, sz_lt (by rw [rowsV_len]; omega), ?_⟩
      refine ⟨same_mut s2 hl, B ++ [rr], ?_, by rw [List.length_append, lB]; rfl, fun r hr => ?_, _, _, _, _, _, rfl⟩
      · rw [upd_same]
        show _ = some (HO.lst ((B ++ [rr]).map rowV))
        rw [List.map_append]
        rfl
      · rcases List.mem_append.mp hr with hr | hr
        · exact aB r hr
        · rw [List.mem_singleton.mp hr]
          exact ⟨lr, ar⟩
  · rintro σ H1 ⟨s1, B, hB, lB, aB, v1, v2, v3, v4, v5, rfl⟩
    exact ⟨_, rfl, q B l _ s1 hl hB ⟨lB, fun r hr => (aB r hr).1, fun r hr c hc => ((aB r hr).2 c hc).1, h1, h9, w1, w9⟩ fun e r hr c hc => ((aB r hr).2 c hc).2 e⟩
end
end Sw
namespace Sw
open PySem PySem.Spec PyProof.Rows L2
section
variable {P : Program} {w : World} {K : PySem.W.Frag} {mg : Str → Option Value} {base : Heap}
/-! a winding row of stones of one hand laid into rows -/
def lng (s : Bool) (h w : Nat) : Nat := if s then w else h
def wde (s : Bool) (h w : Nat) : Nat := if s then h else w
def plc (s : Bool) (i j : Int) : Cell := if s then (j, i) else (i, j)
def sp__law_long_way : Sp := fun vs H Q _ => ∃ (l : Addr) (B : Bd) (h w : Nat) (s : Bool) (k : Int), vs = [.ref l, .str (txt [lt s]), .int k] ∧ H l = some (.lst (rowsV B)) ∧ IsB B h w ∧
  ∀ (B' : Bd) (p : Addr) (H' : Hp), Same H H' → H p = none → H' p = some (.lst (rowsV B')) → IsB B' h w → (∀ x, cel B' x = cel B x ∨ cel B' x = lt s) → Q (.ref p) H'
theorem ok__law_long_way (T : Top K mg) : FnOk P w K mg base CX0 2 T.a__law_long_way T.d__law_long_way ["rows", "hand", "cell"] sp__law_long_way := by
  refine T.F__law_long_way.ok sc__law_long_way (fun vs H Q E h => ?_) (fun cdv A outer s H vs Q E hr h => ?_)
  · obtain ⟨_, _, _, _, _, _, rfl, _⟩ := h
    rfl
  obtain ⟨l, B, h, w, s, k, rfl, hl, I, q⟩ := h
  refine ⟨_, (pss_cons (ps_set (i := 3) sc__law_long_way.nd rfl (Or.inl rfl) (pe_callTy call_int1 (by rfl) T.z_int (by decide +kernel) (pa_cons (pe_cmpR op_eq (pv 1) pe_str (nomark _)) pa_nil)))
      (pss_cons (ps_asg (pe_ix ix_list (pe_lst (pa_cons (pe_tup (pa_cons (pe_callB call_len_seq (by rfl) T.z_len PySem.boot_len (pa_cons (pv 0) pa_nil)) (pa_cons (pe_callB call_len_str (by rfl) T.z_len PySem.boot_len (pa_cons (pe_ix ix_list (pv 0) pe_int (fun _ _ => rfl)) pa_nil)) pa_nil))) (pa_cons (pe_tup (pa_cons (pe_callB call_len_str (by rfl) T.z_len PySem.boot_len (pa_cons (pe_ix ix_list (pv 0) pe_int (fun _ _ => rfl)) pa_nil)) (pa_cons (pe_callB call_len_seq (by rfl) T.z_len PySem.boot_len (pa_cons (pv 0) pa_nil)) pa_nil))) pa_nil))) (pv 3) (fun _ _ => rfl)) (pg_tup rfl (pgs_cons (pg_name (i := 6) sc__law_long_way.nd rfl (Or.inl rfl)) (pgs_cons (pg_name (i := 7) sc__law_long_way.nd rfl (Or.inl rfl)) pgs_nil))))
      (pss_cons (ps_setLc (i := 4) (own := [("row", 10)]) (g := gName 10) (tt := tYes) rfl sc__law_long_way.nd rfl rfl (sw_true rfl rfl rfl (by decide +kernel)) (pi_list (pv 0)) (blkOk_by (own := [("row", 10)]) (N := N__law_long_way) (sc := defScope s__law_long_way) (by decide +kernel)) (fun _ _ _ _ _ => (pg_name (i := 10) sc__law_long_way.nd rfl (Or.inl rfl))) (fun _ _ _ _ _ => pts_nil) (fun _ _ _ _ _ => (pe_callTy (call_list_signs (by rfl)) (by rfl) T.z_list (by decide +kernel) (pa_cons (pv 10) pa_nil))))
      (pss_cons (ps_par (i := 8) (j := 9) (by rfl) sc__law_long_way.nd rfl rfl (by decide) rfl rfl (pa_cons pe_int (pa_cons (pe_op op_mod (pv 2) (pv 7)) pa_nil)) (by rfl))
      (pss_cons (ps_for PassesOwn.never rfl (pi_range1 rfl T.z_range (pa_cons (pe_op op_mul (pv 6) pe_int) pa_nil)) (pg_name (i := 5) sc__law_long_way.nd rfl (Or.inl rfl))
      (pss_one (ps_if (pt_cmpR op_lt (pv 8) (pv 6) (nomark _))
      (pss_cons (ps_asg (pe_ix ix_list (pe_lst (pa_cons (pe_tup (pa_cons (pv 8) (pa_cons (pv 9) pa_nil))) (pa_cons (pe_tup (pa_cons (pv 9) (pa_cons (pv 8) pa_nil))) pa_nil))) (pv 3) (fun _ _ => rfl)) (pg_tup rfl (pgs_cons (pg_name (i := 12) sc__law_long_way.nd rfl (Or.inl rfl)) (pgs_cons (pg_name (i := 13) sc__law_long_way.nd rfl (Or.inl rfl)) pgs_nil))))
      (pss_cons (ps_asg (pv 1) (pg_sub (pe_ix ix_list (pv 4) (pv 12) (fun _ _ => rfl)) (pv 13) set_list))
      (pss_cons (ps_set (i := 11) sc__law_long_way.nd rfl (Or.inl rfl) (pe_call (ok__law_mix T) (hr.mono (by decide)) rfl T.m__law_mix T.F__law_mix.kp T.B__law_mix .nil pass0 (pa_cons (pv 2) (pa_cons (pv 5) (pa_cons pe_int pa_nil)))))
      (pss_one (ps_if (PW.pt (pw_and (pt_cmpR op_eq (pv 11) pe_int (nomark _)) (pw_and1 (pt_cmpR op_gt (pv 9) pe_int (nomark _)))))
      (pss_one (ps_par (i := 8) (j := 9) (by rfl) sc__law_long_way.nd rfl rfl (by decide) rfl rfl (pa_cons (pe_op op_add (pv 8) pe_int) (pa_cons (pe_op op_sub (pv 9) pe_int) pa_nil)) (by rfl))) (pss_one (ps_if (PW.pt (pw_and (pt_cmpR op_eq (pv 11) pe_int (nomark _)) (pw_and1 (pt_cmpR op_lt (pe_op op_add (pv 9) pe_int) (pv 7) (nomark _)))))
      (pss_one (ps_set (i := 9) sc__law_long_way.nd rfl (Or.inl rfl) (pe_op op_add (pv 9) pe_int))) (pss_one (ps_set (i := 8) sc__law_long_way.nd rfl (Or.inl rfl) (pe_op op_add (pv 8) pe_int)))))))))) pss_nil)))
      (pss_one (ps_ret (pe_lc (own := [("row", 10)]) (g := gName 10) (tt := tYes) rfl sc__law_long_way.nd (pi_list (pv 4)) (blkOk_by (own := [("row", 10)]) (N := N__law_long_way) (sc := defScope s__law_long_way) (by decide +kernel)) (fun _ _ _ _ _ => (pg_name (i := 10) sc__law_long_way.nd rfl (Or.inl rfl))) (fun _ _ _ _ _ => pts_nil) (fun _ _ _ _ _ => (pe_joinK (K := K) rfl pe_str (pv 10))))))))))), ?_⟩
  have h9 := I.h9
  have w9 := I.w9
  have h1 := I.h1
  have w1 := I.w1
  have nwi : 1 ≤ wde s h w ∧ wde s h w ≤ 9 := by unfold wde; cases s <;> simp <;> omega
  have nhi : 1 ≤ lng s h w ∧ lng s h w ≤ 9 := by unfold lng; cases s <;> simp <;> omega
  obtain ⟨r0, er0, lr0⟩ := I.row (i := 0) I.h1
  -- side; long, wide
  have eside : decide (V.str (txt [lt s]) = V.str (Str.ofString "w")) = s := by
    rw [Bool.eq_iff_iff, decide_eq_true_eq, hand_w]
  refine ⟨_, rfl, rfl, .inr ⟨s, congrArg (fun b => [V.bl b]) eside, ?_⟩⟩
  refine ⟨_, rfl, l, _, rfl, .inl (SqL.of hl), _, rfl, l, _, _, _, rfl, rfl, SqL.of hl, atI_nat (j := 0) (rowsV_get er0), _, rfl, sz_le (by rw [txt_len]; omega), sz2, fun t1 ht1 => ?_⟩
  rw [txt_len, lr0, rowsV_len, I.hh]
  have s1 := same_new ht1 (.tup [.int (h : Int), .int (w : Int)])
  refine ⟨_, rfl, l, _, _, _, rfl, rfl, SqL.of (s1 _ _ hl), atI_nat (j := 0) (rowsV_get er0), _, rfl, sz_le (by rw [txt_len]; omega), _, rfl, l, _, rfl, .inl (SqL.of (s1 _ _ hl)), sz2, fun t2 ht2 => ?_⟩
  rw [txt_len, lr0, rowsV_len, I.hh]
  have s2 := s1.trans (same_new ht2 (.tup [.int (w : Int), .int (h : Int)]))
  have e1 : upd (upd H t1 (.tup [.int (h : Int), .int (w : Int)])) t2 (.tup [.int (w : Int), .int (h : Int)]) t1 = some (.tup [.int (h : Int), .int (w : Int)]) := same_new ht2 _ _ _ upd_same
  have e2 : upd (upd H t1 (.tup [.int (h : Int), .int (w : Int)])) t2 (.tup [.int (w : Int), .int (h : Int)]) t2 = some (.tup [.int (w : Int), .int (h : Int)]) := upd_same
  revert s2 e1 e2
  generalize upd (upd H t1 (.tup [.int (h : Int), .int (w : Int)])) t2 (.tup [.int (w : Int), .int (h : Int)]) = H2
  intro s2 e1 e2
  refine ⟨sz2, fun t3 ht3 => ?_⟩
  have s3 := s2.trans (same_new ht3 (.lst [V.ref t1, V.ref t2]))
  have e3 : upd H2 t3 (.lst [V.ref t1, V.ref t2]) t3 = some (.lst [V.ref t1, V.ref t2]) := upd_same
  have e1' : upd H2 t3 (.lst [V.ref t1, V.ref t2]) t1 = some (.tup [.int (h : Int), .int (w : Int)]) := same_new ht3 _ _ _ e1
  have e2' : upd H2 t3 (.lst [V.ref t1, V.ref t2]) t2 = some (.tup [.int (w : Int), .int (h : Int)]) := same_new ht3 _ _ _ e2
  revert s3 e3 e1' e2'
  generalize upd H2 t3 (.lst [V.ref t1, V.ref t2]) = H3
  intro s3 e3 e1 e2
  have pick : ∃ t, atI [V.ref t1, V.ref t2] (if s = true then 1 else 0) = some (.ref t) ∧ H3 t = some (.tup [.int (lng s h w : Nat), .int (wde s h w : Nat)]) := by
    cases s
    · exact ⟨t1, rfl, e1⟩
    · exact ⟨t2, rfl, e2⟩
  obtain ⟨t, et, ht⟩ := pick
  refine ⟨_, rfl, t3, _, _, _, rfl, rfl, SqL.of e3, et, ?_⟩
  refine ⟨t, _, rfl, SqT.of ht, rfl, _, _, rfl, _, _, rfl, rfl, ?_⟩
  -- found
  have hl3 := s3 _ _ hl
  refine ⟨_, rfl, l, rfl, ⟨_, SqL.of hl3⟩, fun D hD =>
    lc_it walk_list (fun j H' => Same H3 H' ∧ ∃ as, H' D = some (.lst (as.map V.ref)) ∧ Rows2 H H' D as (B.take j)) ⟨same_new hD _, [], upd_same, ⟨List.nodup_nil, rfl, fun i a r h1 => by simp at h1⟩⟩ (fun _ H' _ ⟨s4, _⟩ => SqL.of (s4 _ _ hl3))
      (fun j x H4 H5 hj ⟨s4, as, h4, R⟩ ⟨e5, ex⟩ => ?_) (fun H4 ⟨s4, as, h4, R⟩ => ?_)⟩
  · subst e5
    obtain ⟨row, ey, rfl⟩ := rowsV_inv ex
    have lrow := I.ww _ (List.mem_of_getElem? ey)
    have la := R.len
    have lt2 := List.length_take_le' j B
    have hh := I.hh
    refine ⟨rfl, _, rfl, row, rfl, by omega, fun a ha => ?_⟩
    have sa := same_new ha (.lst (row.map sgV))
    have na : a ≠ D := fun z => by rw [z, h4] at ha; cases ha
    refine ⟨_, sa _ _ h4, sz_lt (by rw [List.length_map]; omega), same_mut (s4.trans sa) hD, as ++ [a], by rw [List.map_append]; exact upd_same, ?_⟩
    rw [take_snoc ey]
    refine (((R.same sa).updq _).app (fun hm => ?_) ((s3.trans s4).free ha) na ?_)
    · obtain ⟨i, hi, e⟩ := List.mem_iff_getElem.mp hm
      obtain ⟨_, _, z⟩ := R.row i a (B.take j)[i] (by rw [List.getElem?_eq_getElem hi, e]) (List.getElem?_eq_getElem _)
      rw [z] at ha
      cases ha
    · rw [upd_ne na]
      exact upd_same
  rw [rowsV_len, List.take_length] at R
  have nD : H D = none := s3.free hD
  have s5 := s3.trans s4
  -- i, j
  refine ⟨_, rfl, _, rfl, _, _, rfl, rfl, (show (0 : Int) < (wde s h w : Nat) by omega), _, _, rfl, ?_⟩
  have o0 := Int.emod_nonneg k (show ((wde s h w : Nat) : Int) ≠ 0 by omega)
  have o1 := Int.emod_lt_of_pos k (show (0 : Int) < (wde s h w : Nat) by omega)
  refine ⟨_, rfl, _, _, rfl, rfl, .inl ⟨?_, ?_⟩, ((lng s h w : Nat) : Int) * 3, rfl, ?_, ?_, for_range (lo := 0) (n := lng s h w * 3) (fun n σ H' => ∃ (B' : Bd) (as : List Addr) (i j : Int) (v1 v2 v3 v4 : Option V), Same H H' ∧ H' D = some (.lst (as.map V.ref)) ∧ Rows2 H H' D as B' ∧ IsB B' h w ∧
    (∀ x, cel B' x = cel B x ∨ cel B' x = lt s) ∧ 0 ≤ i ∧ i ≤ n ∧ 0 ≤ j ∧ j < (wde s h w : Nat) ∧
    σ = [some (.ref l), some (.str (txt [lt s])), some (.int k), some (.int (if s = true then 1 else 0)), some (.ref D), v1, some (.int (lng s h w : Nat)), some (.int (wde s h w : Nat)), some (.int i), some (.int j), none, v2, v3, v4])
    ⟨B, as, 0, _, _, _, _, _, s5, h4, R, I, fun x => .inl rfl, Int.le_refl _, by omega, o0, o1, rfl⟩ ?_ ?_⟩
  · show -(2 ^ 64 : Int) < ((lng s h w : Nat) : Int)
    omega
  · show ((lng s h w : Nat) : Int) < (2 ^ 64 : Int)
    omega
  · omega
  · omega
  · rintro n σ H6 hn ⟨B', as, i, j, v1, v2, v3, v4, s6, h6, R6, I6, kp, i0, i1, j0, j1, rfl⟩
    refine ⟨_, rfl, _, rfl, _, _, rfl, rfl, _, rfl, ?_⟩
    refine iteD (fun c1 => ?_) (fun c1 => ⟨B', as, i, j, _, _, _, _, s6, h6, R6, I6, kp, i0, by omega, j0, j1, rfl⟩)
    -- r, c
    refine ⟨_, rfl, _, rfl, sz2, fun u1 hu1 => ?_⟩
    have w1' := same_new hu1 (.tup [.int i, .int j])
    refine ⟨_, rfl, _, rfl, sz2, fun u2 hu2 => ?_⟩
    have w2' := w1'.trans (same_new hu2 (.tup [.int j, .int i]))
    have f1 : upd (upd H6 u1 (.tup [.int i, .int j])) u2 (.tup [.int j, .int i]) u1 = some (.tup [.int i, .int j]) := same_new hu2 _ _ _ upd_same
    have f2 : upd (upd H6 u1 (.tup [.int i, .int j])) u2 (.tup [.int j, .int i]) u2 = some (.tup [.int j, .int i]) := upd_same
    revert w2' f1 f2
    generalize upd (upd H6 u1 (.tup [.int i, .int j])) u2 (.tup [.int j, .int i]) = H7
    intro s7 f1 f2
    refine ⟨sz2, fun u3 hu3 => ?_⟩
    have w3' := s7.trans (same_new hu3 (.lst [V.ref u1, V.ref u2]))
    have f3 : upd H7 u3 (.lst [V.ref u1, V.ref u2]) u3 = some (.lst [V.ref u1, V.ref u2]) := upd_same
    have f1' : upd H7 u3 (.lst [V.ref u1, V.ref u2]) u1 = some (.tup [.int i, .int j]) := same_new hu3 _ _ _ f1
    have f2' : upd H7 u3 (.lst [V.ref u1, V.ref u2]) u2 = some (.tup [.int j, .int i]) := same_new hu3 _ _ _ f2
    revert w3' f3 f1' f2'
    generalize upd H7 u3 (.lst [V.ref u1, V.ref u2]) = H8
    intro s8 f3 f1 f2
    have pick : ∃ u, atI [V.ref u1, V.ref u2] (if s = true then 1 else 0) = some (.ref u) ∧ H8 u = some (.tup (cellV (plc s i j))) := by
      cases s
      · exact ⟨u1, rfl, f1⟩
      · exact ⟨u2, rfl, f2⟩
    obtain ⟨u, eu, hu⟩ := pick
    refine ⟨_, rfl, u3, _, _, _, rfl, rfl, SqL.of f3, eu, ?_⟩
    refine ⟨u, _, rfl, SqT.of hu, rfl, _, _, rfl, _, _, rfl, rfl, ?_⟩
    -- found[r][c] = hand
    have ins : Ins h w (plc s i j) := by
      unfold plc
      unfold lng at c1
      unfold wde at j1
      cases s
      · exact ⟨i0, c1, j0, j1⟩
      · exact ⟨j0, j1, i0, c1⟩
    have la := R6.len
    have hh := I6.hh
    obtain ⟨row, er, mr, lr, _, _⟩ := I6.at ins
    have z1 := ins.1
    have z2 := ins.2.1
    have z3 := ins.2.2.1
    have z4 := ins.2.2.2
    have il : (plc s i j).1.toNat < as.length := by omega
    obtain ⟨a, ea⟩ : ∃ a, as[(plc s i j).1.toNat]? = some a := ⟨_, List.getElem?_eq_getElem il⟩
    have R8 := R6.same s8
    obtain ⟨na, naD, ha⟩ := R8.row _ _ _ ea er
    have h8 := s8 _ _ h6
    refine ⟨_, rfl, _, rfl, _, rfl, D, _, _, _, rfl, rfl, SqL.of h8, at_int z1 (by rw [List.getElem?_map, ea]; rfl), _, rfl, a, _, _, (plc s i j).2.toNat, rfl, rfl, ha, ?_, ?_⟩
    · show ixN (row.map sgV).length (plc s i j).2 = some (plc s i j).2.toNat
      unfold ixN
      rw [if_pos z3, if_pos (by rw [List.length_map, lr]; exact z4)]
    have eset : (row.map sgV).set (plc s i j).2.toNat (.str (txt [lt s])) = (row.set (plc s i j).2.toNat (lt s)).map sgV := by
      rw [List.map_set]
      rfl
    rw [eset]
    have s9 := same_mut (o := .lst ((row.set (plc s i j).2.toNat (lt s)).map sgV)) (s6.trans s8) na
    have R9 := R8.put (p := plc s i j) (x := lt s) ea er
    have h9' : upd H8 a (.lst ((row.set (plc s i j).2.toNat (lt s)).map sgV)) D = some (.lst (as.map V.ref)) := by
      rw [upd_ne (Ne.symm naD)]
      exact h8
    revert s9 R9 h9'
    generalize upd H8 a (.lst ((row.set (plc s i j).2.toNat (lt s)).map sgV)) = H9
    intro s9 R9 h9'
    have I9 := putB_is I6 (plc s i j) (x := lt s) (by cases s <;> simp [lt])
    have kp9 : ∀ x, cel (putB B' (plc s i j) (lt s)) x = cel B x ∨ cel (putB B' (plc s i j) (lt s)) x = lt s := fun x => by
      rw [cel_put I6 ins]
      by_cases e : x = plc s i j
      · rw [if_pos e]
        exact .inr rfl
      · rw [if_neg e]
        exact kp x
    -- step
    refine ⟨_, rfl, _, rfl, k, _, 3, rfl, by omega, by omega, by decide, fun m H10 s10 m0 m1 => ?_⟩
    have fin : ∀ (i' j' : Int) (v1 v2 v3 v4 : Option V), 0 ≤ i' → i' ≤ ((n + 1 : Nat) : Int) → 0 ≤ j' → j' < (wde s h w : Nat) →
        ∃ (B' : Bd) (as : List Addr) (i j : Int) (u1 u2 u3 u4 : Option V), Same H H10 ∧ H10 D = some (.lst (as.map V.ref)) ∧ Rows2 H H10 D as B' ∧ IsB B' h w ∧
        (∀ x, cel B' x = cel B x ∨ cel B' x = lt s) ∧ 0 ≤ i ∧ i ≤ ((n + 1 : Nat) : Int) ∧ 0 ≤ j ∧ j < (wde s h w : Nat) ∧
        [some (.ref l), some (.str (txt [lt s])), some (.int k), some (.int (if s = true then 1 else 0)), some (.ref D), v1, some (.int (lng s h w : Nat)), some (.int (wde s h w : Nat)), some (.int i'), some (.int j'), none, v2, v3, v4] =
        [some (.ref l), some (.str (txt [lt s])), some (.int k), some (.int (if s = true then 1 else 0)), some (.ref D), u1, some (.int (lng s h w : Nat)), some (.int (wde s h w : Nat)), some (.int i), some (.int j), none, u2, u3, u4] :=
      fun i' j' v1 v2 v3 v4 a b c d => ⟨_, as, i', j', _, _, _, _, s9.trans s10, s10 _ _ h9', R9.same s10, I9, kp9, a, b, c, d, rfl⟩
    refine ⟨_, rfl, rfl, _, rfl, ?_⟩
    refine iteD (fun c2 => ?_) (fun c2 => ?_)
    · refine ⟨_, rfl, _, _, rfl, rfl, _, rfl, ?_⟩
      refine iteD (fun c3 => ?_) (fun c3 => ?_)
      · exact ⟨_, rfl, _, _, rfl, rfl, _, rfl, _, _, rfl, rfl, _, _, rfl, fin (i + 1) (j - 1) _ _ _ _ (by omega) (by omega) (by omega) (by omega)⟩
      · refine ⟨_, rfl, rfl, _, rfl, iteD (fun c4 => ?_) (fun c4 => ?_)⟩
        · refine ⟨_, rfl, _, _, rfl, rfl, _, rfl, _, _, rfl, rfl, _, rfl, iteD (fun c5 => ?_) (fun c5 => ?_)⟩
          · exact ⟨_, rfl, _, _, rfl, rfl, fin i (j + 1) _ _ _ _ (by omega) (by omega) (by omega) (by omega)⟩
          · exact ⟨_, rfl, _, _, rfl, rfl, fin (i + 1) j _ _ _ _ (by omega) (by omega) (by omega) (by omega)⟩
        · exact ⟨_, rfl, _, _, rfl, rfl, fin (i + 1) j _ _ _ _ (by omega) (by omega) (by omega) (by omega)⟩
    · refine ⟨_, rfl, rfl, _, rfl, iteD (fun c4 => ?_) (fun c4 => ?_)⟩
      · refine ⟨_, rfl, _, _, rfl, rfl, _, rfl, _, _, rfl, rfl, _, rfl, iteD (fun c5 => ?_) (fun c5 => ?_)⟩
        · exact ⟨_, rfl, _, _, rfl, rfl, fin i (j + 1) _ _ _ _ (by omega) (by omega) (by omega) (by omega)⟩
        · exact ⟨_, rfl, _, _, rfl, rfl, fin (i + 1) j _ _ _ _ (by omega) (by omega) (by omega) (by omega)⟩
      · exact ⟨_, rfl, _, _, rfl, rfl, fin (i + 1) j _ _ _ _ (by omega) (by omega) (by omega) (by omega)⟩
  · rintro σ H6 ⟨B', as, i, j, v1, v2, v3, v4, s6, h6, R6, I6, kp, _, _, _, _, rfl⟩
    have la := R6.len
    have hh := I6.hh
    refine ⟨_, rfl, D, rfl, ⟨_, SqL.of h6⟩, fun F hF => lc_it walk_list (fun n H' => Same H6 H' ∧ H' F = some (.lst (rowsV (B'.take n)))) ⟨same_new hF _, upd_same⟩ (fun _ H' _ ⟨s7, _⟩ => SqL.of (s7 _ _ h6)) (fun n x H7 H8 hn ⟨s7, h7⟩ ⟨e8, ex⟩ => ?_) (fun H7 ⟨s7, h7⟩ => ?_)⟩
    · subst e8
      obtain ⟨a, ea, rfl⟩ := map_get ex
      have il : n < B'.length := by
        have := (List.getElem?_eq_some_iff.mp ea).1
        omega
      obtain ⟨row, er⟩ : ∃ row, B'[n]? = some row := ⟨_, List.getElem?_eq_getElem il⟩
      obtain ⟨_, _, ha⟩ := R6.row _ _ _ ea er
      have lrow := I6.ww _ (List.mem_of_getElem? er)
      have h3 : H8 a = some (.lst ((row.map fun c => txt [c]).map V.str)) := by
        rw [s7 _ _ ha, List.map_map]
        rfl
      have len1 : ∀ l : List Nat, ((l.map fun c => txt [c]).map fun x : Str => x.length).sum = l.length := by
        intro l
        induction l with
        | nil => rfl
        | cons a l ih =>
          rw [List.map_cons, List.map_cons, List.sum_cons, ih, List.length_cons]
          show 1 + l.length = l.length + 1
          omega
      refine ⟨rfl, ⟨_, rfl⟩, _, rfl, _, a, row.map fun c => txt [c], rfl, rfl, .inl (SqL.of h3), ?_, ?_⟩
      · rw [s_nil, len1, List.length_map, lrow]
        show w + w * 0 ≤ 16777216
        omega
      rw [s_nil, join_txt]
      have lt2 := List.length_take_le' n B'
      refine ⟨_, h7, sz_lt (by rw [rowsV_len]; omega), same_mut s7 hF, ?_⟩
      rw [upd_same, take_snoc er]
      unfold rowsV
      rw [List.map_append]
      rfl
    · rw [List.length_map, la, List.take_length] at h7
      exact q B' F H7 (s6.trans s7) (s6.free hF) h7 I6 kp
end
end Sw
namespace Sw
open PySem PySem.Spec PyProof.Rows L2
section
variable {P : Program} {w : World} {K : PySem.W.Frag} {mg : Str → Option Value} {base : Heap}
/-! hands -/
/-- a list of the hands in some order -/
theorem hand_at {hs : List Bool} {i : Nat} {x : V} (h : (hs.map fun s => V.str (txt [lt s]))[i]? = some x) : ∃ s : Bool, x = .str (txt [lt s]) := by
  obtain ⟨s, _, e⟩ := map_get h
  exact ⟨s, e.symm⟩
theorem nw_hand {k : Int} (h0 : 0 ≤ k) (h1 : k < 2) : ∃ s : Bool, atI (Str.ofString "nw").cps.toList k = some (lt s) := by
  rw [s_nw]
  have : k = 0 ∨ k = 1 := by omega
  rcases this with rfl | rfl
  · exact ⟨false, rfl⟩
  · exact ⟨true, rfl⟩
end
end Sw
namespace Sw
open PySem PySem.Spec PyProof.Rows L2
section
variable {P : Program} {w : World} {K : PySem.W.Frag} {mg : Str → Option Value} {base : Heap}
/-! the flood that the law goes through -/
theorem near_shift (r c : Int) : near6 (r, c) = (near6 (0, 0)).map fun d : Cell => (r + d.1, c + d.2) := by
  show [(r - 1, c), (r - 1, c + 1), (r, c + 1), (r + 1, c), (r + 1, c - 1), (r, c - 1)] = [(r + (0 - 1), c + 0), (r + (0 - 1), c + (0 + 1)), (r + 0, c + (0 + 1)), (r + (0 + 1), c + 0), (r + (0 + 1), c + (0 - 1)), (r + 0, c + (0 - 1))]
  simp only [Int.zero_add, Int.add_zero, Int.zero_sub, Int.add_neg_one]
theorem shift_at {r c : Int} {j : Nat} {d : Cell} (h : (near6 (0, 0))[j]? = some d) : (near6 (r, c))[j]? = some (r + d.1, c + d.2) := by
  rw [near_shift, List.getElem?_map, h]
  rfl
/-- the first shore's stones ahead of the place (r, c), row by row -/
structure Ahead (B : Bd) (s : Bool) (r c : Nat) (l : List Cell) : Prop where
  nd : l.Nodup
  mem : ∀ x : Cell, x ∈ l ↔ cel B x = lt s ∧ sd s x = 0 ∧ (x.1 < (r : Int) ∨ (x.1 = (r : Int) ∧ x.2 < (c : Int)))
def sp__law_flood : Sp := fun vs H Q _ => ∃ (l : Addr) (B : Bd) (h w : Nat) (s : Bool), vs = [.ref l, .str (txt [lt s])] ∧ H l = some (.lst (rowsV B)) ∧ IsB B h w ∧ ∀ H', Same H H' → Q (.bl (jB B s)) H'
theorem ok__law_flood (T : Top K mg) : FnOk P w K mg base CX0 1 T.a__law_flood T.d__law_flood ["rows", "hand"] sp__law_flood := by
  refine T.F__law_flood.ok sc__law_flood (fun vs H Q E h => ?_) (fun cdv A outer s H vs Q E hr h => ?_)
  · obtain ⟨_, _, _, _, _, rfl, _⟩ := h
    rfl
  obtain ⟨l, B, h, w, s, rfl, hl, I, q⟩ := h
  have hu := hu_of hr
  refine ⟨_, (pss_cons (ps_asg (pe_tup (pa_cons (pe_callB call_len_seq (by rfl) T.z_len PySem.boot_len (pa_cons (pv 0) pa_nil)) (pa_cons (pe_callB call_len_str (by rfl) T.z_len PySem.boot_len (pa_cons (pe_ix ix_list (pv 0) pe_int (fun _ _ => rfl)) pa_nil)) pa_nil))) (pg_tup rfl (pgs_cons (pg_name (i := 6) sc__law_flood.nd rfl (Or.inr rfl)) (pgs_cons (pg_name (i := 7) sc__law_flood.nd rfl (Or.inr rfl)) pgs_nil))))
      (pss_cons (ps_set (i := 2) sc__law_flood.nd rfl (Or.inl rfl) pe_dnewT)
      (pss_cons (ps_set (i := 3) sc__law_flood.nd rfl (Or.inl rfl) (pe_lst pa_nil))
      (pss_cons (ps_for PassesOwn.never rfl (pi_range1 rfl T.z_range (pa_cons (pv 6) pa_nil)) (pg_name (i := 4) sc__law_flood.nd rfl (Or.inl rfl))
      (pss_one (ps_for PassesOwn.never rfl (pi_range1 rfl T.z_range (pa_cons (pv 7) pa_nil)) (pg_name (i := 8) sc__law_flood.nd rfl (Or.inl rfl))
      (pss_one (ps_if (PW.pt (pw_and (pt_cmpR op_eq (pe_ix ix_str (pe_ix ix_list (pv 0) (pv 4) (fun _ _ => rfl)) (pv 8) (fun _ _ => rfl)) (pv 1) (nomark _)) (pw_and1 (pt_cmpR op_eq (pe_ix ix_list (pe_lst (pa_cons (pv 4) (pa_cons (pv 8) pa_nil))) (pe_callTy call_int1 (by rfl) T.z_int (by decide +kernel) (pa_cons (pe_cmpR op_eq (pv 1) pe_str (nomark _)) pa_nil)) (fun _ _ => rfl)) pe_int (nomark _)))))
      (pss_cons (ps_dput hu (pv 2) (pe_tup (pa_cons (pv 4) (pa_cons (pv 8) pa_nil))) pe_bl rfl)
      (pss_one (ps_expr (pe_bm PySem.F.plainAttrs_list PySem.F.slot_list_append PySem.F.type_list_append mt_append (pv 3) (pa_cons (pe_tup (pa_cons (pv 4) (pa_cons (pv 8) pa_nil))) pa_nil))))) pss_nil)))))
      (pss_cons (ps_while PassesOwn.never (pt_cmpR op_gt (pe_callB call_len_seq (by rfl) T.z_len PySem.boot_len (pa_cons (pv 3) pa_nil)) pe_int (nomark _))
      (pss_cons (ps_asg (pe_bm0 PySem.F.plainAttrs_list PySem.F.slot_list_pop PySem.F.type_list_pop mt_pop (pv 3)) (pg_tup rfl (pgs_cons (pg_name (i := 4) sc__law_flood.nd rfl (Or.inl rfl)) (pgs_cons (pg_name (i := 8) sc__law_flood.nd rfl (Or.inl rfl)) pgs_nil))))
      (pss_one (ps_for PassesOwn.never rfl (pi_list (pe_lst (pa_cons (pe_tup (pa_cons (pe_un un_neg pe_int) (pa_cons pe_int pa_nil))) (pa_cons (pe_tup (pa_cons (pe_un un_neg pe_int) (pa_cons pe_int pa_nil))) (pa_cons (pe_tup (pa_cons pe_int (pa_cons pe_int pa_nil))) (pa_cons (pe_tup (pa_cons pe_int (pa_cons pe_int pa_nil))) (pa_cons (pe_tup (pa_cons pe_int (pa_cons (pe_un un_neg pe_int) pa_nil))) (pa_cons (pe_tup (pa_cons pe_int (pa_cons (pe_un un_neg pe_int) pa_nil))) pa_nil)))))))) (pg_tup rfl (pgs_cons (pg_name (i := 9) sc__law_flood.nd rfl (Or.inl rfl)) (pgs_cons (pg_name (i := 10) sc__law_flood.nd rfl (Or.inl rfl)) pgs_nil)))
      (pss_cons (ps_set (i := 11) sc__law_flood.nd rfl (Or.inl rfl) (pe_tup (pa_cons (pe_op op_add (pv 4) (pv 9)) (pa_cons (pe_op op_add (pv 8) (pv 10)) pa_nil))))
      (pss_one (ps_if (PW.pt (pw_and (pt_chain op_le op_lt pe_int (pe_ix ix_tup (pv 11) pe_int (fun _ _ => rfl)) (pv 6)) (pw_and (pt_chain op_le op_lt pe_int (pe_ix ix_tup (pv 11) pe_int (fun _ _ => rfl)) (pv 7)) (pw_and1 (pt_cmp (pc_dnotin hu (pv 11) (pv 2)))))))
      (pss_one (ps_if (pt_cmpR op_eq (pe_ix ix_str (pe_ix ix_list (pv 0) (pe_ix ix_tup (pv 11) pe_int (fun _ _ => rfl)) (fun _ _ => rfl)) (pe_ix ix_tup (pv 11) pe_int (fun _ _ => rfl)) (fun _ _ => rfl)) (pv 1) (nomark _))
      (pss_cons (ps_dput hu (pv 2) (pv 11) pe_bl rfl)
      (pss_one (ps_expr (pe_bm PySem.F.plainAttrs_list PySem.F.slot_list_append PySem.F.type_list_append mt_append (pv 3) (pa_cons (pv 11) pa_nil))))) pss_nil)) pss_nil)))))))
      (pss_cons (ps_lock (ps_setLc (i := 5) (own := [("cell", 11)]) (g := gName 11) rfl sc__law_flood.nd rfl rfl (sw_true rfl rfl rfl (by decide +kernel)) (pi_keys (pv 2)) (blkOk_by (own := [("cell", 11)]) (N := N__law_flood) (sc := defScope s__law_flood) (by decide +kernel)) (fun _ _ _ _ _ => (pg_name (i := 11) sc__law_flood.nd rfl (Or.inl rfl))) (fun _ _ _ _ _ => pts_one (pt_cmpR op_eq (pe_ix (ix_listK (K := K) rfl) (pe_lst (pa_cons (pe_op op_sub (pe_ix (ix_tupK (K := K) rfl) (pv 11) pe_int (fun _ _ => rfl)) (pv 6)) (pa_cons (pe_op op_sub (pe_ix (ix_tupK (K := K) rfl) (pv 11) pe_int (fun _ _ => rfl)) (pv 7)) pa_nil))) (pe_callTy call_int1 (by rfl) T.z_int (by decide +kernel) (pa_cons (pe_cmpR op_eq (pv 1) pe_str (nomark _)) pa_nil)) (fun _ _ => rfl)) (pe_un un_neg pe_int) (nomark _))) (fun _ _ _ _ _ => (pv 11))))
      (pss_one (ps_ret (pe_cmpR op_gt (pe_callB call_len_seq (by rfl) T.z_len PySem.boot_len (pa_cons (pv 5) pa_nil)) pe_int (nomark _)))))))))), ?_⟩
  have h9 := I.h9
  have w9 := I.w9
  have h1 := I.h1
  have w1 := I.w1
  have arx := area I
  obtain ⟨r0, er0, lr0⟩ := I.row (i := 0) I.h1
  refine ⟨_, rfl, l, _, rfl, .inl (SqL.of hl), _, rfl, l, _, _, _, rfl, rfl, SqL.of hl, atI_nat (j := 0) (rowsV_get er0), _, rfl, sz_le (by rw [txt_len]; omega), sz2, fun t0 ht0 => ?_⟩
  rw [txt_len, lr0, rowsV_len, I.hh]
  have s0 := same_new ht0 (.tup [.int (h : Int), .int (w : Int)])
  have ht0' : upd H t0 (.tup [.int (h : Int), .int (w : Int)]) t0 = some (.tup [.int (h : Int), .int (w : Int)]) := upd_same
  revert s0 ht0'
  generalize upd H t0 (.tup [.int (h : Int), .int (w : Int)]) = H0
  intro s0 ht0'
  refine ⟨t0, _, rfl, SqT.of ht0', rfl, _, _, rfl, _, _, rfl, rfl, ?_⟩
  refine fun d hd' => ?_
  have hd := s0.free hd'
  have s1 := s0.trans (same_new hd' (.dT []))
  have see : Seen (upd H0 d (.dT [])) d [] := Seen.nil
  revert s1 see
  generalize upd H0 d (.dT []) = H1
  intro s1 see
  refine ⟨sz0, fun f hf => ?_⟩
  have nf : H f = none := s1.free hf
  have s2 := s1.trans (same_new hf (.lst []))
  have hf2 : upd H1 f (.lst []) f = some (.lst []) := upd_same
  have see2 : Seen (upd H1 f (.lst [])) d [] := see.same (same_new hf (.lst []))
  revert s2 hf2 see2
  generalize upd H1 f (.lst []) = H2
  intro s2 hf2 see2
  -- the first shore
  refine ⟨_, rfl, (h : Int), rfl, by omega, by omega, for_range (lo := 0) (n := h) (fun r σ H' => ∃ (ws : List V) (cs : List Cell) (v1 v2 : Option V), Same H H' ∧ H' f = some (.lst ws) ∧ Cells H' ws cs ∧ Seen H' d cs ∧ Ahead B s r 0 cs ∧
    σ = [some (.ref l), some (.str (txt [lt s])), some (.ref d), some (.ref f), v1, none, some (.int h), some (.int w), v2, none, none, none])
    ⟨[], [], none, none, s2, hf2, .nil, see2, ⟨List.nodup_nil, fun x => ⟨(fun z => nomatch z), fun ⟨a, _, b⟩ => ?_⟩⟩, rfl⟩ ?_ ?_⟩
  · have ix := I.ins (p := x) (by rw [a]; exact lt_ne s)
    have i1 := ix.1
    have i2 := ix.2.2.1
    omega
  · rintro r σ H3 hr' ⟨ws, cs, v1, v2, s3, hf3, hc3, see3, ah, rfl⟩
    refine ⟨_, rfl, (w : Int), rfl, by omega, by omega, for_range (lo := 0) (n := w) (fun c σ H' => ∃ (ws : List V) (cs : List Cell) (v2 : Option V), Same H H' ∧ H' f = some (.lst ws) ∧ Cells H' ws cs ∧ Seen H' d cs ∧ Ahead B s r c cs ∧
      σ = [some (.ref l), some (.str (txt [lt s])), some (.ref d), some (.ref f), some (.int ((0 : Int) + (r : Int))), none, some (.int h), some (.int w), v2, none, none, none])
      ⟨ws, cs, v2, s3, hf3, hc3, see3, ah, rfl⟩ ?_ ?_⟩
    · rintro c σ H4 hc' ⟨ws, cs, v2, s4, hf4, hc4, see4, ah, rfl⟩
      have e0 : (0 : Int) + (r : Int) = r := Int.zero_add _
      have e1 : (0 : Int) + (c : Int) = c := Int.zero_add _
      have ic : Ins h w ((0 : Int) + (r : Int), (0 : Int) + (c : Int)) := ⟨by show (0 : Int) ≤ 0 + r; omega, by show (0 : Int) + r < h; omega, by show (0 : Int) ≤ 0 + c; omega, by show (0 : Int) + c < w; omega⟩
      obtain ⟨row, er, mr, lr, ecel, _⟩ := I.at ic
      have lc4 := hc4.len
      have bnd : cs.length ≤ h * w := nodup_rect ah.nd fun x hx => I.ins (by rw [((ah.mem x).mp hx).1]; exact lt_ne s)
      have stay : ¬ (cel B ((0 : Int) + (r : Int), (0 : Int) + (c : Int)) = lt s ∧ sd s ((0 : Int) + (r : Int), (0 : Int) + (c : Int)) = 0) → Ahead B s r (c + 1) cs := fun z => by
        refine ⟨ah.nd, fun x => ⟨fun hx => ?_, fun ⟨a, b, k⟩ => ?_⟩⟩
        · obtain ⟨a, b, k⟩ := (ah.mem x).mp hx
          exact ⟨a, b, by omega⟩
        · refine (ah.mem x).mpr ⟨a, b, ?_⟩
          by_cases e : x.1 = (r : Int) ∧ x.2 = (c : Int)
          · exfalso
            have ex : x = ((0 : Int) + (r : Int), (0 : Int) + (c : Int)) := Prod.ext (by show x.1 = 0 + (r : Int); omega) (by show x.2 = 0 + (c : Int); omega)
            exact z ⟨ex ▸ a, ex ▸ b⟩
          · omega
      refine ⟨_, rfl, _, rfl, l, _, _, _, rfl, rfl, SqL.of (s4 _ _ hl), at_int ic.1 (rowsV_get er), _, rfl, _, _, _, rfl, rfl, sz_le (by rw [txt_len, lr]; omega), atI_cps ic.2.2.1 ecel, _, rfl, rfl, _, rfl, ?_⟩
      refine iteD (fun c1 => ?_) (fun c1 => ⟨ws, cs, _, s4, hf4, hc4, see4, stay fun z => c1 (sgn_eq.mpr z.1), rfl⟩)
      have c1' := sgn_eq.mp c1
      have eside : decide (V.str (txt [lt s]) = V.str (Str.ofString "w")) = s := by
        rw [Bool.eq_iff_iff, decide_eq_true_eq, hand_w]
      refine ⟨_, rfl, _, rfl, sz2, fun t ht => ?_⟩
      have st := same_new ht (.lst [V.int ((0 : Int) + (r : Int)), V.int ((0 : Int) + (c : Int))])
      have ht5 : upd H4 t (.lst [V.int ((0 : Int) + (r : Int)), V.int ((0 : Int) + (c : Int))]) t = some (.lst [V.int ((0 : Int) + (r : Int)), V.int ((0 : Int) + (c : Int))]) := upd_same
      revert st ht5
      generalize upd H4 t (.lst [V.int ((0 : Int) + (r : Int)), V.int ((0 : Int) + (c : Int))]) = H5
      intro st ht5
      have pick : atI [V.int ((0 : Int) + (r : Int)), V.int ((0 : Int) + (c : Int))] (if s = true then 1 else 0) = some (.int (sd s ((0 : Int) + (r : Int), (0 : Int) + (c : Int)))) := by cases s <;> rfl
      refine ⟨_, rfl, rfl, .inr ⟨s, congrArg (fun b => [V.bl b]) eside, t, _, _, _, rfl, rfl, SqL.of ht5, pick, rfl, _, rfl, ?_⟩⟩
      refine iteD (fun c2 => ?_) (fun c2 => ⟨ws, cs, _, s4.trans st, st _ _ hf4, hc4.same st, see4.same st, stay fun z => c2 (by rw [z.2]), rfl⟩)
      have c2' := V.int.inj c2
      have hn : ((0 : Int) + (r : Int), (0 : Int) + (c : Int)) ∉ cs := fun hm => by
        obtain ⟨_, _, k⟩ := (ah.mem _).mp hm
        rcases k with k | k
        · have k' : (0 : Int) + (r : Int) < r := k
          omega
        · have k' : (0 : Int) + (c : Int) < c := k.2
          omega
      have s5 := s4.trans st
      have hf5 := st _ _ hf4
      have hc5 := hc4.same st
      have see5 := see4.same st
      -- seen[(r, c)] = True; left.append((r, c))
      refine ⟨_, rfl, _, rfl, _, rfl, sz2, fun u hu' => ?_⟩
      have su := same_new hu' (.tup (cellV ((0 : Int) + (r : Int), (0 : Int) + (c : Int))))
      obtain ⟨ys, put, see6, tp, xs0, hd6⟩ := (see5.same su).put (v := .bl true) (c := ((0 : Int) + (r : Int), (0 : Int) + (c : Int))) upd_same hn (by omega)
      refine ⟨d, _, rfl, put, ?_⟩
      have s6 := s5.trans su
      have nd : H d = none := hd
      have s7 := same_mut (o := .dT ys) s6 nd
      have hf7 : upd (upd H5 u (.tup (cellV ((0 : Int) + (r : Int), (0 : Int) + (c : Int))))) d (.dT ys) f = some (.lst ws) := by
        rw [upd_ne (ne_of (su _ _ hf5) hd6 (by intro z; cases z))]
        exact su _ _ hf5
      have hc7 := (hc5.same su).tps tp
      revert s7 hf7 hc7 see6
      generalize upd (upd H5 u (.tup (cellV ((0 : Int) + (r : Int), (0 : Int) + (c : Int))))) d (.dT ys) = H7
      intro see7 s7 hf7 hc7
      refine ⟨_, rfl, .inl ⟨rfl, _, SqL.of hf7⟩, _, rfl, _, rfl, sz2, fun v hv => ?_⟩
      have sv := same_new hv (.tup (cellV ((0 : Int) + (r : Int), (0 : Int) + (c : Int))))
      have hv8 : upd H7 v (.tup (cellV ((0 : Int) + (r : Int), (0 : Int) + (c : Int)))) v = some (.tup (cellV ((0 : Int) + (r : Int), (0 : Int) + (c : Int)))) := upd_same
      have s8 := s7.trans sv
      have hf8 := sv _ _ hf7
      have hc8 := hc7.same sv
      have see8 := see7.same sv
      refine ⟨f, ws, _, rfl, rfl, hf8, sz_lt (by omega), ?_⟩
      refine ⟨ws ++ [V.ref v], cs ++ [((0 : Int) + (r : Int), (0 : Int) + (c : Int))], _, same_mut s8 nf, upd_same, (hc8.app (.one hv8)).tps (.lst (o := .lst (ws ++ [V.ref v])) hf8), see8.updL hf8, ⟨?_, fun x => ?_⟩, rfl⟩
      · rw [List.nodup_append]
        refine ⟨ah.nd, List.nodup_cons.mpr ⟨by simp, List.nodup_nil⟩, fun x hx y hy => ?_⟩
        rw [List.mem_singleton.mp hy]
        exact fun z => hn (z ▸ hx)
      · rw [List.mem_append, List.mem_singleton, ah.mem x]
        constructor
        · rintro (⟨a, b, k⟩ | rfl)
          · exact ⟨a, b, by omega⟩
          · exact ⟨c1', c2', .inr ⟨e0, by show (0 : Int) + (c : Int) < ((c + 1 : Nat) : Int); omega⟩⟩
        · rintro ⟨a, b, k⟩
          by_cases e : x.1 = (r : Int) ∧ x.2 = (c : Int)
          · exact .inr (Prod.ext (by show x.1 = 0 + (r : Int); omega) (by show x.2 = 0 + (c : Int); omega))
          · exact .inl ⟨a, b, by omega⟩
    · rintro σ H4 ⟨ws, cs, v2, s4, hf4, hc4, see4, ah, rfl⟩
      refine ⟨ws, cs, _, _, s4, hf4, hc4, see4, ⟨ah.nd, fun x => ?_⟩, rfl⟩
      rw [ah.mem x]
      constructor
      · rintro ⟨a, b, k⟩
        exact ⟨a, b, by omega⟩
      · rintro ⟨a, b, k⟩
        have i := I.ins (p := x) (by rw [a]; exact lt_ne s)
        have := i.2.2.1
        have := i.2.2.2
        exact ⟨a, b, by omega⟩
  rintro σ H3 ⟨ws, cs, v1, v2, s3, hf3, hc3, see3, ah, rfl⟩
  have fl0 : Fld (cel B) s cs cs := by
    refine ⟨ah.nd, fun c hc => hc, fun c hc => ?_, fun c a b => ?_⟩
    · obtain ⟨a, b, _⟩ := (ah.mem c).mp hc
      exact .first a b
    · refine (ah.mem c).mpr ⟨a, b, .inl ?_⟩
      exact (I.ins (p := c) (by rw [a]; exact lt_ne s)).2.1
  -- the flood
  refine ⟨fun m σ H' => ∃ (ws : List V) (seen left : List Cell) (v1 v2 v3 v4 v5 : Option V), m = 2 * (81 - seen.length) + left.length ∧ Same H H' ∧ H' f = some (.lst ws) ∧ Cells H' ws left ∧ Seen H' d seen ∧
    Fld (cel B) s seen left ∧ FDone (cel B) s seen left ∧ left.length ≤ seen.length ∧ σ = [some (.ref l), some (.str (txt [lt s])), some (.ref d), some (.ref f), v1, none, some (.int h), some (.int w), v2, v3, v4, v5],
    ⟨_, ws, cs, cs, v1, v2, none, none, none, rfl, s3, hf3, hc3, see3, fl0, (fun c a b => absurd a b), Nat.le_refl _, rfl⟩, ?_⟩
  rintro m σ H4 ⟨ws, seen, left, v1, v2, v3, v4, v5, rfl, s4, hf4, hc4, see4, fl, dn, lle, rfl⟩
  have lw := hc4.len
  have bs := fl.bound I
  refine ⟨_, rfl, f, _, rfl, .inl (SqL.of hf4), _, _, rfl, rfl, _, rfl, iteD (fun hlt => ?_) (fun hge => ?_)⟩
  · refine ⟨fun σ' H' => ∃ (ws : List V) (seen' left' : List Cell) (v1 v2 v3 v4 v5 : Option V), 2 * (81 - seen'.length) + left'.length < 2 * (81 - seen.length) + left.length ∧ Same H H' ∧ H' f = some (.lst ws) ∧ Cells H' ws left' ∧ Seen H' d seen' ∧
      Fld (cel B) s seen' left' ∧ FDone (cel B) s seen' left' ∧ left'.length ≤ seen'.length ∧ σ' = [some (.ref l), some (.str (txt [lt s])), some (.ref d), some (.ref f), v1, none, some (.int h), some (.int w), v2, v3, v4, v5], ?_, ?_⟩
    · rintro σ' H' ⟨ws', seen', left', u1, u2, u3, u4, u5, lt', a1⟩
      exact ⟨_, lt', ws', seen', left', u1, u2, u3, u4, u5, rfl, a1⟩
    have pos : 0 < ws.length := by omega
    have hne : left ≠ [] := by
      intro z
      rw [z] at lw
      rw [lw] at pos
      exact absurd pos (Nat.lt_irrefl _)
    obtain ⟨lf0, c, rfl⟩ : ∃ l0 c, left = l0 ++ [c] := ⟨left.dropLast, left.getLast hne, (List.dropLast_concat_getLast hne).symm⟩
    have lw' : ws.length = lf0.length + 1 := by rw [lw, List.length_append]; rfl
    obtain ⟨y, ey⟩ : ∃ y, ws[ws.length - 1]? = some y := ⟨_, List.getElem?_eq_getElem (by omega)⟩
    obtain ⟨b, c', rfl, ec, hb⟩ := hc4.get ey
    have ecc : c' = c := by
      rw [lw', Nat.add_sub_cancel, List.getElem?_append_right (Nat.le_refl _), Nat.sub_self] at ec
      exact (Option.some.inj ec).symm
    subst ecc
    have hdrop : Cells H4 ws.dropLast lf0 := by
      have gen : ∀ (lf : List Cell) (ws : List V), Cells H4 ws (lf ++ [c']) → Cells H4 ws.dropLast lf := by
        intro lf
        induction lf with
        | nil =>
          intro ws hws
          cases hws with
          | cons _ t =>
            cases t
            exact .nil
        | cons x lf ih =>
          intro ws hws
          cases hws with
          | @cons a1 _ vs1 _ e t =>
            have := ih vs1 t
            cases vs1 with
            | nil =>
              have := t.len
              have e2 : (lf ++ [c']).length = lf.length + 1 := by rw [List.length_append]; rfl
              have e3 : ([] : List V).length = (lf ++ [c']).length := this
              rw [e2] at e3
              cases e3
            | cons v vs2 =>
              rw [List.dropLast_cons₂]
              exact .cons e this
      exact gen lf0 ws hc4
    refine ⟨_, rfl, .inl ⟨rfl, _, SqL.of hf4⟩, f, ws, _, rfl, rfl, hf4, ey, ?_⟩
    have tp5 : Tps H4 (upd H4 f (.lst ws.dropLast)) := .lst hf4
    have s5 := same_mut (o := .lst ws.dropLast) s4 nf
    have hf5 : upd H4 f (.lst ws.dropLast) f = some (.lst ws.dropLast) := upd_same
    have see5 := see4.updL (o := .lst ws.dropLast) hf4
    revert tp5 s5 hf5 see5
    generalize upd H4 f (.lst ws.dropLast) = H5
    intro tp5 s5 hf5 see5
    have hc5 := hdrop.tps tp5
    have hb5 := tp5 _ _ hb
    refine ⟨b, _, rfl, SqT.of hb5, rfl, _, _, rfl, _, _, rfl, rfl, ?_⟩
    -- the six
    refine ⟨_, rfl, sz2, fun t1 g1 => ?_⟩
    refine ⟨_, rfl, sz2, fun t2 g2 => ?_⟩
    refine ⟨sz2, fun t3 g3 => ?_⟩
    refine ⟨sz2, fun t4 g4 => ?_⟩
    refine ⟨_, rfl, sz2, fun t5 g5 => ?_⟩
    refine ⟨_, rfl, sz2, fun t6 g6 => ?_⟩
    refine ⟨sz6, fun p hp => ?_⟩
    obtain ⟨_, ws6, e6, _, s6, hp6, hc6⟩ := new_six (H := H5) (r := 0) (c := 0) rfl rfl rfl rfl rfl rfl g1 g2 g3 g4 g5 g6 hp
    cases e6
    have np5 : H5 p = none := by
      exact (((same_new g1 _).trans (same_new g2 _)).trans ((same_new g3 _).trans (same_new g4 _))).trans ((same_new g5 _).trans (same_new g6 _)) |>.free hp
    have npf : p ≠ f := fun z => by rw [z, hf5] at np5; cases np5
    have npd : p ≠ d := fun z => by
      obtain ⟨kvs, ek, _⟩ := see5
      rw [z, ek] at np5
      cases np5
    have cin : c' ∈ seen := fl.sub c' (List.mem_append_right _ List.mem_cons_self)
    have ll : (lf0 ++ [c']).length = lf0.length + 1 := by rw [List.length_append]; rfl
    refine ⟨p, rfl, ⟨_, SqL.of hp6⟩, for_list (K := K) (a := p) (xs := ws6) (fun j σ H' => ∃ (ws : List V) (seen' left' : List Cell) (v3 v4 v5 : Option V), Same H H' ∧ H' p = some (.lst ws6) ∧ Cells H' ws6 (near6 (0, 0)) ∧ H' f = some (.lst ws) ∧ Cells H' ws left' ∧ Seen H' d seen' ∧
      Fld (cel B) s seen' left' ∧ (∀ x ∈ seen', x ∉ left' → x = c' ∨ ∀ y ∈ near6 x, cel B y = lt s → y ∈ seen') ∧ c' ∈ seen' ∧ (∀ y ∈ (near6 c').take j, cel B y = lt s → y ∈ seen') ∧ 2 * (81 - seen'.length) + left'.length ≤ 2 * (81 - seen.length) + lf0.length ∧ left'.length ≤ seen'.length ∧
      σ = [some (.ref l), some (.str (txt [lt s])), some (.ref d), some (.ref f), some (.int c'.1), none, some (.int h), some (.int w), some (.int c'.2), v3, v4, v5])
      ⟨_, seen, lf0, _, _, _, s5.trans s6, hp6, hc6, s6 _ _ hf5, hc5.same s6, see5.same s6, ⟨fl.nd, fun x hx => fl.sub x (List.mem_append_left _ hx), fl.re, fl.first⟩, ?_, cin, (fun y hy => nomatch hy), Nat.le_refl _, by omega, rfl⟩ (fun i σ H' _ ⟨_, _, _, _, _, _, _, e, _⟩ => SqL.of e) ?_ ?_⟩
    · intro x hx hn
      by_cases e : x = c'
      · exact .inl e
      · refine .inr (dn x hx fun hm => ?_)
        rcases List.mem_append.mp hm with hm | hm
        · exact hn hm
        · exact e (List.mem_singleton.mp hm)
    · rintro j x σ H7 hj ⟨ws, seen', left', v3, v4, v5, s7, hp7, hc7, hf7, hl7, see7, fl7, dn7, ci7, al7, me7, le7, rfl⟩
      obtain ⟨g, e, rfl, ee, hg⟩ := hc7.get hj
      have ey : (near6 c')[j]? = some (c'.1 + e.1, c'.2 + e.2) := shift_at ee
      have yn := List.mem_of_getElem? ey
      have bs7 := fl7.bound I
      have ll7 := hl7.len
      refine ⟨g, _, rfl, SqT.of hg, rfl, _, _, rfl, _, _, rfl, rfl, ?_⟩
      refine ⟨_, rfl, _, rfl, _, _, rfl, rfl, _, rfl, _, rfl, _, _, rfl, rfl, sz2, fun t ht => ?_⟩
      have st := same_new ht (.tup (cellV (c'.1 + e.1, c'.2 + e.2)))
      have ht8 : upd H7 t (.tup (cellV (c'.1 + e.1, c'.2 + e.2))) t = some (.tup (cellV (c'.1 + e.1, c'.2 + e.2))) := upd_same
      have s8 := s7.trans st
      have hp8 := st _ _ hp7
      have hc8 := hc7.same st
      have hf8 := st _ _ hf7
      have hl8 := hl7.same st
      have see8 := see7.same st
      have stay : (cel B (c'.1 + e.1, c'.2 + e.2) = lt s → (c'.1 + e.1, c'.2 + e.2) ∈ seen') → ∃ (ws : List V) (seen' left' : List Cell) (v3 v4 v5 : Option V), Same H (upd H7 t (.tup (cellV (c'.1 + e.1, c'.2 + e.2)))) ∧ upd H7 t (.tup (cellV (c'.1 + e.1, c'.2 + e.2))) p = some (.lst ws6) ∧
          Cells (upd H7 t (.tup (cellV (c'.1 + e.1, c'.2 + e.2)))) ws6 (near6 (0, 0)) ∧ upd H7 t (.tup (cellV (c'.1 + e.1, c'.2 + e.2))) f = some (.lst ws) ∧ Cells (upd H7 t (.tup (cellV (c'.1 + e.1, c'.2 + e.2)))) ws left' ∧ Seen (upd H7 t (.tup (cellV (c'.1 + e.1, c'.2 + e.2)))) d seen' ∧
          Fld (cel B) s seen' left' ∧ (∀ x ∈ seen', x ∉ left' → x = c' ∨ ∀ y ∈ near6 x, cel B y = lt s → y ∈ seen') ∧ c' ∈ seen' ∧ (∀ y ∈ (near6 c').take (j + 1), cel B y = lt s → y ∈ seen') ∧ 2 * (81 - seen'.length) + left'.length ≤ 2 * (81 - seen.length) + lf0.length ∧ left'.length ≤ seen'.length ∧
          [some (.ref l), some (.str (txt [lt s])), some (.ref d), some (.ref f), some (.int c'.1), none, some (.int h), some (.int w), some (.int c'.2), some (V.int e.1), some (V.int e.2), some (V.ref t)] = [some (.ref l), some (.str (txt [lt s])), some (.ref d), some (.ref f), some (.int c'.1), none, some (.int h), some (.int w), some (.int c'.2), v3, v4, v5] := fun k => by
        refine ⟨ws, seen', left', _, _, _, s8, hp8, hc8, hf8, hl8, see8, fl7, dn7, ci7, fun y hy hs => ?_, me7, le7, rfl⟩
        rw [take_snoc ey] at hy
        rcases List.mem_append.mp hy with hy | hy
        · exact al7 y hy hs
        · rw [List.mem_singleton.mp hy] at hs ⊢
          exact k hs
      have off : ¬ Ins h w (c'.1 + e.1, c'.2 + e.2) → cel B (c'.1 + e.1, c'.2 + e.2) = lt s → (c'.1 + e.1, c'.2 + e.2) ∈ seen' := fun z k => absurd (I.ins (by rw [k]; exact lt_ne s)) z
      refine ⟨_, rfl, t, _, _, _, rfl, rfl, SqT.of ht8, atI_nat (j := 0) rfl, _, _, rfl, rfl, _, rfl, ?_⟩
      refine iteD (fun a1 => ?_) (fun a1 => ⟨_, rfl, iteF (stay (off fun z => a1 z.1))⟩)
      refine ⟨_, rfl, _, _, rfl, rfl, _, rfl, ?_⟩
      refine iteD (fun a2 => ?_) (fun a2 => stay (off fun z => a2 z.2.1))
      refine ⟨_, rfl, t, _, _, _, rfl, rfl, SqT.of ht8, atI_nat (j := 1) rfl, _, _, rfl, rfl, _, rfl, ?_⟩
      refine iteD (fun a3 => ?_) (fun a3 => ⟨_, rfl, iteF (stay (off fun z => a3 z.2.2.1))⟩)
      refine ⟨_, rfl, _, _, rfl, rfl, _, rfl, ?_⟩
      refine iteD (fun a4 => ?_) (fun a4 => stay (off fun z => a4 z.2.2.2))
      have ins : Ins h w (c'.1 + e.1, c'.2 + e.2) := ⟨a1, a2, a3, a4⟩
      obtain ⟨o, og, eo⟩ := see8.get ht8
      refine ⟨_, rfl, _, rfl, d, o, rfl, og, ?_⟩
      rw [eo]
      refine ⟨_, rfl, iteN (fun c1 => ?_) (fun c1 => stay fun _ => c1)⟩
      obtain ⟨row, er, mr, lr, ecel, _⟩ := I.at ins
      refine ⟨_, rfl, _, rfl, t, _, _, _, rfl, rfl, SqT.of ht8, atI_nat (j := 0) rfl, l, _, _, _, rfl, rfl, SqL.of (s8 _ _ hl), at_int ins.1 (rowsV_get er), _, rfl, t, _, _, _, rfl, rfl, SqT.of ht8, atI_nat (j := 1) rfl, _, _, _, rfl, rfl, sz_le (by rw [txt_len, lr]; omega), atI_cps ins.2.2.1 ecel, _, rfl, rfl, _, rfl, ?_⟩
      refine iteD (fun c3 => ?_) (fun c3 => stay fun z => absurd (sgn_eq.mpr z) c3)
      have c3' := sgn_eq.mp c3
      obtain ⟨ys, put, see9, tp9, xs0, hd8⟩ := see8.put (v := .bl true) ht8 c1 (by omega)
      refine ⟨_, rfl, _, rfl, d, _, rfl, put, ?_⟩
      have s9 := same_mut (o := .dT ys) s8 hd
      have kl : ∀ (a : Addr) (us : List V), upd H7 t (.tup (cellV (c'.1 + e.1, c'.2 + e.2))) a = some (.lst us) → upd (upd H7 t (.tup (cellV (c'.1 + e.1, c'.2 + e.2)))) d (.dT ys) a = some (.lst us) := fun a us ha => by
        rw [upd_ne (ne_of ha hd8 (by intro z; cases z))]
        exact ha
      have hp9 := kl _ _ hp8
      have hf9 := kl _ _ hf8
      have hc9 := hc8.tps tp9
      have hl9 := hl8.tps tp9
      have ht9 := tp9 _ _ ht8
      refine ⟨_, rfl, .inl ⟨rfl, _, SqL.of hf9⟩, _, rfl, f, ws, _, rfl, rfl, hf9, ?_, ?_⟩
      · exact sz_lt (by omega)
      have tp10 : Tps _ (upd (upd (upd H7 t (.tup (cellV (c'.1 + e.1, c'.2 + e.2)))) d (.dT ys)) f (.lst (ws ++ [.ref t]))) := .lst hf9
      have fl9 : Fld (cel B) s (seen' ++ [(c'.1 + e.1, c'.2 + e.2)]) (left' ++ [(c'.1 + e.1, c'.2 + e.2)]) := by
        refine ⟨?_, fun x hx => ?_, fun x hx => ?_, fun x a b => List.mem_append_left _ (fl7.first x a b)⟩
        · rw [List.nodup_append]
          refine ⟨fl7.nd, List.nodup_cons.mpr ⟨by simp, List.nodup_nil⟩, fun x hx y hy => ?_⟩
          rw [List.mem_singleton.mp hy]
          exact fun z => c1 (z ▸ hx)
        · rcases List.mem_append.mp hx with hx | hx
          · exact List.mem_append_left _ (fl7.sub x hx)
          · exact List.mem_append_right _ hx
        · rcases List.mem_append.mp hx with hx | hx
          · exact fl7.re x hx
          · rw [List.mem_singleton.mp hx]
            exact .next (fl7.re c' ci7) yn c3'
      have bs9 := fl9.bound I
      have la : (seen' ++ [(c'.1 + e.1, c'.2 + e.2)]).length = seen'.length + 1 := by rw [List.length_append]; rfl
      have lb : (left' ++ [(c'.1 + e.1, c'.2 + e.2)]).length = left'.length + 1 := by rw [List.length_append]; rfl
      have me9 : 2 * (81 - (seen' ++ [(c'.1 + e.1, c'.2 + e.2)]).length) + (left' ++ [(c'.1 + e.1, c'.2 + e.2)]).length ≤ 2 * (81 - seen.length) + lf0.length := by
        rw [la] at bs9
        rw [la, lb]
        clear stay off
        omega
      refine ⟨ws ++ [.ref t], seen' ++ [(c'.1 + e.1, c'.2 + e.2)], left' ++ [(c'.1 + e.1, c'.2 + e.2)], _, _, _, same_mut s9 nf, ?_, hc9.tps tp10, upd_same, (hl9.app (.one ht9)).tps tp10, see9.updL hf9, fl9, fun x hx hn => ?_, List.mem_append_left _ ci7, fun y hy hs => ?_, me9, by rw [la, lb]; exact Nat.succ_le_succ le7, rfl⟩
      · rw [upd_ne npf]
        exact hp9
      · rcases List.mem_append.mp hx with hx | hx
        · rcases dn7 x hx (fun z => hn (List.mem_append_left _ z)) with z | z
          · exact .inl z
          · exact .inr fun y a b => List.mem_append_left _ (z y a b)
        · exact absurd (List.mem_append_right _ hx) hn
      · rw [take_snoc ey] at hy
        rcases List.mem_append.mp hy with hy | hy
        · exact List.mem_append_left _ (al7 y hy hs)
        · exact List.mem_append_right _ hy
    · rintro σ H7 ⟨ws, seen', left', v3, v4, v5, s7, hp7, hc7, hf7, hl7, see7, fl7, dn7, ci7, al7, me7, le7, rfl⟩
      have l6 := hc7.len
      rw [l6] at al7
      refine ⟨ws, seen', left', _, _, _, _, _, by omega, s7, hf7, hl7, see7, fl7, fun x hx hn => ?_, le7, rfl⟩
      rcases dn7 x hx hn with z | z
      · rw [z]
        exact al7
      · exact z
  · have hz : left = [] := by
      cases left with
      | nil => rfl
      | cons a as =>
        exfalso
        rw [List.length_cons] at lw
        omega
    subst hz
    have fe := flood_end (h := h) (w := w) fl dn
    obtain ⟨kvs, ek, mk⟩ := see4
    have lkv : kvs.length = seen.length := by
      have := congrArg List.length mk
      rw [List.length_map, List.length_map] at this
      exact this
    refine ⟨d, _, ek, trivial, fun od => ⟨_, rfl, d, od, rfl, .inr ⟨kvs, upd_same, fun D hD =>
      lc_it walk_keysT (fun j H' => Same (upd H4 d (.frz od (.dT kvs))) H' ∧ ∃ us, H' D = some (.lst us) ∧ us.length = ((seen.take j).filter fun x => decide (sd s x = ext s h w - 1)).length) ⟨same_new hD _, [], upd_same, rfl⟩ (fun _ H' _ ⟨s5, _⟩ => s5 _ _ upd_same)
        (fun j x H5 H6 hj ⟨s5, us, h5, lu⟩ ⟨e6, kk, vv, qq, ekv, ex, hq⟩ => ?_) (fun H5 ⟨s5, us, h5, lu⟩ => ?_)⟩⟩⟩
    · subst e6 ex
      obtain ⟨c, ec, ekc⟩ : ∃ c, seen[j]? = some c ∧ kk = keyOf c := by
        have e1 : (kvs.map (·.1))[j]? = some kk := by
          rw [List.getElem?_map, ekv]
          rfl
        rw [mk] at e1
        obtain ⟨c, ec, e2⟩ := map_get e1
        exact ⟨c, ec, e2.symm⟩
      subst ekc
      have hq' : H6 qq = some (.tup (cellV c)) := hq
      have eside : decide (V.str (txt [lt s]) = V.str (Str.ofString "w")) = s := by
        rw [Bool.eq_iff_iff, decide_eq_true_eq, hand_w]
      refine ⟨rfl, _, rfl, qq, _, _, _, rfl, rfl, SqT.of hq', atI_nat (j := 0) rfl, _, rfl, _, _, rfl, rfl, _, rfl, qq, _, _, _, rfl, rfl, SqT.of hq', atI_nat (j := 1) rfl, _, rfl, _, _, rfl, rfl, sz2, fun t ht => ?_⟩
      have st := same_new ht (.lst [V.int (c.1 - (h : Int)), V.int (c.2 - (w : Int))])
      have pick : atI [V.int (c.1 - (h : Int)), V.int (c.2 - (w : Int))] (if s = true then 1 else 0) = some (.int (sd s c - ext s h w)) := by cases s <;> rfl
      have lf := List.length_filter_le (fun x => decide (sd s x = ext s h w - 1)) (seen.take j)
      have lt2 := List.length_take_le' j seen
      refine ⟨_, rfl, rfl, .inr ⟨s, congrArg (fun b => [V.bl b]) eside, t, _, _, _, rfl, rfl, SqL.of upd_same, pick, _, rfl, rfl, _, rfl, ?_⟩⟩
      rw [take_snoc ec, List.filter_append]
      refine iteD (fun z => ?_) (fun z => ?_)
      · have z' := V.int.inj z
        refine ⟨_, rfl, us, st _ _ h5, sz_lt (by omega), same_mut (s5.trans st) hD, us ++ [.ref qq], upd_same, ?_⟩
        rw [List.length_append, List.length_append, lu, List.filter_cons, if_pos (decide_eq_true (by omega))]
        rfl
      · refine ⟨s5.trans st, us, st _ _ h5, ?_⟩
        rw [List.filter_cons, if_neg (by rw [decide_eq_true_eq]; exact fun y => z (congrArg V.int (by omega))), List.length_append, lu]
        rfl
    · refine ⟨s5 _ _ upd_same, ?_⟩
      rw [lkv, List.take_length] at lu
      have s6 : Same H (upd H5 d (.dT kvs)) := same_mut ((same_mut s4 hd).trans s5) hd
      have nDd : D ≠ d := fun z => by rw [z, upd_same] at hD; cases hD
      have h6 : upd H5 d (.dT kvs) D = some (.lst us) := by rw [upd_ne nDd]; exact h5
      have qq := q _ s6
      have ej : jB B s = decide (((us.length : Nat) : Int) > 0) := by
        rw [Bool.eq_iff_iff, jB_iff I, fe, decide_eq_true_eq, lu]
        constructor
        · rintro ⟨c, hc, e⟩
          have := List.length_pos_of_mem (List.mem_filter (p := fun x => decide (sd s x = ext s h w - 1)) |>.mpr ⟨hc, decide_eq_true e⟩)
          omega
        · intro hp
          obtain ⟨c, hc⟩ := List.exists_mem_of_length_pos (show 0 < _ by exact Int.ofNat_lt.mp hp)
          obtain ⟨a, b⟩ := List.mem_filter.mp hc
          exact ⟨c, a, of_decide_eq_true b⟩
      rw [ej] at qq
      exact ⟨_, rfl, D, us, rfl, .inl (SqL.of h6), _, _, rfl, rfl, qq⟩
end
end Sw
namespace Sw
open PySem PySem.Spec PyProof.Rows L2
section
variable {P : Program} {w : World} {K : PySem.W.Frag} {mg : Str → Option Value} {base : Heap}
/-! a board's stones on some cells alone -/
def dotB (h w : Nat) : Bd := (List.range h).map fun _ => List.replicate w 46
theorem dot_is {h w : Nat} (h1 : 1 ≤ h) (h9 : h ≤ 9) (w1 : 1 ≤ w) (w9 : w ≤ 9) : IsB (dotB h w) h w := by
  refine ⟨by unfold dotB; rw [List.length_map, List.length_range], fun r hr => ?_, fun r hr c hc => ?_, h1, h9, w1, w9⟩
  · obtain ⟨_, _, rfl⟩ := List.mem_map.mp hr
    exact List.length_replicate
  · obtain ⟨_, _, rfl⟩ := List.mem_map.mp hr
    exact .inr (.inr (List.eq_of_mem_replicate hc))
def sp__law_only : Sp := fun vs H Q _ => ∃ (l f : Addr) (B : Bd) (h w : Nat) (ws : List V) (cs : List Cell), vs = [.ref l, .ref f] ∧ H l = some (.lst (rowsV B)) ∧ IsB B h w ∧ H f = some (.lst ws) ∧ Cells H ws cs ∧
  ∀ (B' : Bd) (p : Addr) (H' : Hp), Same H H' → H' p = some (.lst (rowsV B')) → IsB B' h w → (∀ x ∈ cs, Ins h w x → cel B' x = cel B x) → Q (.ref p) H'
theorem ok__law_only (T : Top K mg) : FnOk P w K mg base CX0 2 T.a__law_only T.d__law_only ["rows", "cells"] sp__law_only := by
  refine T.F__law_only.ok sc__law_only (fun vs H Q E h => ?_) (fun cdv A outer s H vs Q E hr h => ?_)
  · obtain ⟨_, _, _, _, _, _, _, rfl, _⟩ := h
    rfl
  obtain ⟨l, f, B, h, wd, ws, cs, rfl, hl, I, hf, hc, q⟩ := h
  refine ⟨_, (pss_cons (ps_setLc (i := 2) (own := [("row", 5)]) (g := gName 5) (tt := tYes) rfl sc__law_only.nd rfl rfl (sw_true rfl rfl rfl (by decide +kernel)) (pi_list (pv 0)) (blkOk_by (own := [("row", 5)]) (N := N__law_only) (sc := defScope s__law_only) (by decide +kernel)) (fun _ _ _ _ _ => (pg_name (i := 5) sc__law_only.nd rfl (Or.inl rfl))) (fun _ _ _ _ _ => pts_nil) (fun _ _ _ _ _ => (pe_op op_rep (pe_lst (pa_cons pe_str pa_nil)) (pe_callB call_len_str (by rfl) T.z_len PySem.boot_len (pa_cons (pe_ix (ix_listK (K := K) rfl) (pv 0) pe_int (fun _ _ => rfl)) pa_nil)))))
      (pss_cons (ps_for PassesOwn.never rfl (pi_list (pv 1)) (pg_tup rfl (pgs_cons (pg_name (i := 3) sc__law_only.nd rfl (Or.inl rfl)) (pgs_cons (pg_name (i := 4) sc__law_only.nd rfl (Or.inl rfl)) pgs_nil)))
      (pss_one (ps_if (PW.pt (pw_and (pt_chain op_le op_lt pe_int (pv 3) (pe_callB call_len_seq (by rfl) T.z_len PySem.boot_len (pa_cons (pv 0) pa_nil))) (pw_and1 (pt_chain op_le op_lt pe_int (pv 4) (pe_callB call_len_str (by rfl) T.z_len PySem.boot_len (pa_cons (pe_ix ix_list (pv 0) pe_int (fun _ _ => rfl)) pa_nil))))))
      (pss_one (ps_asg (pe_ix ix_str (pe_ix ix_list (pv 0) (pv 3) (fun _ _ => rfl)) (pv 4) (fun _ _ => rfl)) (pg_sub (pe_ix ix_list (pv 2) (pv 3) (fun _ _ => rfl)) (pv 4) set_list))) pss_nil)))
      (pss_one (ps_ret (pe_lc (own := [("row", 5)]) (g := gName 5) (tt := tYes) rfl sc__law_only.nd (pi_list (pv 2)) (blkOk_by (own := [("row", 5)]) (N := N__law_only) (sc := defScope s__law_only) (by decide +kernel)) (fun _ _ _ _ _ => (pg_name (i := 5) sc__law_only.nd rfl (Or.inl rfl))) (fun _ _ _ _ _ => pts_nil) (fun _ _ _ _ _ => (pe_joinK (K := K) rfl pe_str (pv 5)))))))), ?_⟩
  have h9 := I.h9
  have w9 := I.w9
  have h1 := I.h1
  have w1 := I.w1
  have hh := I.hh
  obtain ⟨r0, er0, lr0⟩ := I.row (i := 0) I.h1
  -- found
  refine ⟨_, rfl, l, rfl, ⟨_, SqL.of hl⟩, fun D hD =>
    lc_it walk_list (fun j H' => Same H H' ∧ ∃ as, H' D = some (.lst (as.map V.ref)) ∧ Rows2 H H' D as ((List.range j).map fun _ => List.replicate wd 46)) ⟨same_new hD _, [], upd_same, ⟨List.nodup_nil, rfl, fun i a r h1 => by simp at h1⟩⟩ (fun _ H' _ ⟨s4, _⟩ => SqL.of (s4 _ _ hl))
      (fun j x H4 H5 hj ⟨s4, as, h4, R⟩ ⟨e5, ex⟩ => ?_) (fun H4 ⟨s4, as, h4, R⟩ => ?_)⟩
  · subst e5
    have la := R.len
    rw [List.length_map, List.length_range] at la
    rw [rowsV_len] at hj
    refine ⟨rfl, sz1, fun b hb => ?_⟩
    have sb := same_new hb (.lst [V.str (Str.ofString ".")])
    refine ⟨_, rfl, l, _, _, _, rfl, rfl, SqL.of (sb _ _ (s4 _ _ hl)), atI_nat (j := 0) (rowsV_get er0), _, rfl, sz_le (by rw [txt_len]; omega), ?_⟩
    rw [txt_len, lr0]
    refine ⟨b, _, _, rfl, rfl, upd_same, by omega, by omega, sz_le (by show 1 * _ ≤ 1000000; omega), fun a ha => ?_⟩
    have sa := same_new ha (.lst ((List.replicate (wd : Int).toNat [V.str (Str.ofString ".")]).flatten))
    have na : a ≠ D := fun z => by rw [z, sb _ _ h4] at ha; cases ha
    have s5 := sb.trans sa
    refine ⟨_, s5 _ _ h4, sz_lt (by rw [List.length_map]; omega), same_mut (s4.trans s5) hD, as ++ [a], by rw [List.map_append]; exact upd_same, ?_⟩
    rw [List.range_succ, List.map_append]
    refine (((R.same s5).updq _).app (fun hm => ?_) ((s4.trans sb).free ha) na ?_)
    · obtain ⟨i, hi, e⟩ := List.mem_iff_getElem.mp hm
      have hi2 : i < ((List.range j).map fun _ => List.replicate wd 46).length := by rw [← R.len]; exact hi
      obtain ⟨_, _, z⟩ := R.row i a _ (by rw [List.getElem?_eq_getElem hi, e]) (List.getElem?_eq_getElem hi2)
      rw [sb _ _ z] at ha
      cases ha
    · rw [upd_ne na, upd_same]
      have er : ∀ n : Nat, (List.replicate n [V.str (Str.ofString ".")]).flatten = (List.replicate n 46).map sgV := fun n => by
        rw [s_dot]
        induction n with
        | zero => rfl
        | succ n ih =>
          rw [List.replicate_succ, List.flatten_cons, ih, List.replicate_succ, List.map_cons]
          rfl
      rw [Int.toNat_natCast, er]
  rw [rowsV_len, hh] at R
  have nD : H D = none := hD
  -- the stones
  refine gn ?_
  refine ⟨_, rfl, f, rfl, ⟨_, SqL.of (s4 _ _ hf)⟩, for_list (K := K) (a := f) (xs := ws) (fun i σ H' => Same H H' ∧ ∃ (B' : Bd) (v3 v4 : Option V), H' D = some (.lst (as.map V.ref)) ∧ Rows2 H H' D as B' ∧ IsB B' h wd ∧ (∀ x ∈ cs.take i, Ins h wd x → cel B' x = cel B x) ∧
    σ = [some (.ref l), some (.ref f), some (.ref D), v3, v4, none]) ⟨s4, dotB h wd, _, _, h4, R, dot_is h1 h9 w1 w9, fun x hx => by simp at hx, rfl⟩ (fun i σ H' _ ⟨e, _⟩ => SqL.of (e _ _ hf)) ?_ ?_⟩
  · rintro i x σ H6 hi ⟨s6, B', v3, v4, h6, R6, I6, kp, rfl⟩
    obtain ⟨a, c, rfl, ec, ha⟩ := (hc.same s6).get hi
    have tk := take_snoc ec
    have hl6 := s6 _ _ hl
    refine ⟨a, _, rfl, SqT.of ha, rfl, _, _, rfl, _, _, rfl, rfl, ?_⟩
    have off : ¬ Ins h wd c → ∀ x ∈ cs.take (i + 1), Ins h wd x → cel B' x = cel B x := fun n x hx ix => by
      rw [tk] at hx
      rcases List.mem_append.mp hx with hx | hx
      · exact kp x hx ix
      · rw [List.mem_singleton.mp hx] at ix
        exact absurd ix n
    have no : ¬ Ins h wd c → Same H H6 ∧ ∃ (B' : Bd) (u3 u4 : Option V), H6 D = some (.lst (as.map V.ref)) ∧ Rows2 H H6 D as B' ∧ IsB B' h wd ∧ (∀ x ∈ cs.take (i + 1), Ins h wd x → cel B' x = cel B x) ∧
        [some (.ref l), some (.ref f), some (.ref D), some (.int c.1), some (.int c.2), none] = [some (.ref l), some (.ref f), some (.ref D), u3, u4, none] := fun n => ⟨s6, B', _, _, h6, R6, I6, off n, rfl⟩
    refine ⟨_, rfl, _, _, rfl, rfl, _, rfl, iteD (fun c1 => ?_) (fun c1 => ⟨_, rfl, iteF (no fun z => c1 z.1)⟩)⟩
    refine ⟨_, rfl, l, _, rfl, .inl (SqL.of hl6), _, _, rfl, rfl, _, rfl, iteD (fun c2 => ?_) (fun c2 => no fun z => c2 (by rw [rowsV_len, hh]; exact z.2.1))⟩
    refine ⟨_, rfl, _, _, rfl, rfl, _, rfl, iteD (fun c3 => ?_) (fun c3 => ⟨_, rfl, iteF (no fun z => c3 z.2.2.1)⟩)⟩
    refine ⟨_, rfl, l, _, _, _, rfl, rfl, SqL.of hl6, atI_nat (j := 0) (rowsV_get er0), _, rfl, sz_le (by rw [txt_len]; omega), _, _, rfl, rfl, _, rfl, iteD (fun c4 => ?_) (fun c4 => no fun z => c4 (by rw [txt_len, lr0]; exact z.2.2.2))⟩
    rw [rowsV_len, hh] at c2
    rw [txt_len, lr0] at c4
    have ins : Ins h wd c := ⟨c1, c2, c3, c4⟩
    obtain ⟨rb, erb, mrb, lrb, ecb, okb⟩ := I.at ins
    obtain ⟨row, er, mr, lr, _, _⟩ := I6.at ins
    have la := R6.len
    have hh6 := I6.hh
    have il : c.1.toNat < as.length := by omega
    obtain ⟨b, eb⟩ : ∃ b, as[c.1.toNat]? = some b := ⟨_, List.getElem?_eq_getElem il⟩
    obtain ⟨nb, nbD, hb⟩ := R6.row _ _ _ eb er
    refine ⟨_, rfl, _, rfl, l, _, _, _, rfl, rfl, SqL.of hl6, at_int c1 (rowsV_get erb), _, rfl, _, _, _, rfl, rfl, sz_le (by rw [txt_len, lrb]; omega), atI_cps c3 ecb, ?_⟩
    refine ⟨_, rfl, _, rfl, D, _, _, _, rfl, rfl, SqL.of h6, at_int c1 (by rw [List.getElem?_map, eb]; rfl), _, rfl, b, _, _, c.2.toNat, rfl, rfl, hb, ?_, ?_⟩
    · show ixN (row.map sgV).length c.2 = some c.2.toNat
      unfold ixN
      rw [if_pos c3, if_pos (by rw [List.length_map, lr]; exact c4)]
    have eset : (row.map sgV).set c.2.toNat (.str ⟨#[cel B c]⟩) = (row.set c.2.toNat (cel B c)).map sgV := by
      rw [List.map_set]
      rfl
    have R7 := R6.put (p := c) (x := cel B c) eb er
    have s7 := same_mut (o := .lst ((row.set c.2.toNat (cel B c)).map sgV)) s6 nb
    refine ⟨?_, putB B' c (cel B c), _, _, ?_, ?_, putB_is I6 c (x := cel B c) okb, fun x hx ix => ?_, rfl⟩
    · rw [eset]
      exact s7
    · rw [eset, upd_ne (Ne.symm nbD)]
      exact h6
    · rw [eset]
      exact R7
    · rw [cel_put I6 ins]
      by_cases e : x = c
      · rw [if_pos e, e]
      · rw [if_neg e]
        rw [tk] at hx
        rcases List.mem_append.mp hx with hx | hx
        · exact kp x hx ix
        · exact absurd (List.mem_singleton.mp hx) e
  · rintro σ H6 ⟨s6, B', v3, v4, h6, R6, I6, kp, rfl⟩
    have la := R6.len
    have hh6 := I6.hh
    rw [hc.len, List.take_length] at kp
    refine ⟨_, rfl, D, rfl, ⟨_, SqL.of h6⟩, fun F hF => lc_it walk_list (fun n H' => Same H6 H' ∧ H' F = some (.lst (rowsV (B'.take n)))) ⟨same_new hF _, upd_same⟩ (fun _ H' _ ⟨s7, _⟩ => SqL.of (s7 _ _ h6)) (fun n x H7 H8 hn ⟨s7, h7⟩ ⟨e8, ex⟩ => ?_) (fun H7 ⟨s7, h7⟩ => ?_)⟩
    · subst e8
      obtain ⟨a, ea, rfl⟩ := map_get ex
      have il : n < B'.length := by
        have := (List.getElem?_eq_some_iff.mp ea).1
        omega
      obtain ⟨row, er⟩ : ∃ row, B'[n]? = some row := ⟨_, List.getElem?_eq_getElem il⟩
      obtain ⟨_, _, ha⟩ := R6.row _ _ _ ea er
      have lrow := I6.ww _ (List.mem_of_getElem? er)
      have h3 : H8 a = some (.lst ((row.map fun c => txt [c]).map V.str)) := by
        rw [s7 _ _ ha, List.map_map]
        rfl
      have len1 : ∀ l : List Nat, ((l.map fun c => txt [c]).map fun x : Str => x.length).sum = l.length := by
        intro l
        induction l with
        | nil => rfl
        | cons a l ih =>
          rw [List.map_cons, List.map_cons, List.sum_cons, ih, List.length_cons]
          show 1 + l.length = l.length + 1
          omega
      refine ⟨rfl, ⟨_, rfl⟩, _, rfl, _, a, row.map fun c => txt [c], rfl, rfl, .inl (SqL.of h3), ?_, ?_⟩
      · rw [s_nil, len1, List.length_map, lrow]
        show wd + wd * 0 ≤ 16777216
        omega
      rw [s_nil, join_txt]
      have lt2 := List.length_take_le' n B'
      refine ⟨_, h7, sz_lt (by rw [rowsV_len]; omega), same_mut s7 hF, ?_⟩
      rw [upd_same, take_snoc er]
      unfold rowsV
      rw [List.map_append]
      rfl
    · rw [List.length_map, la, List.take_length] at h7
      exact q B' F H7 (s6.trans s7) h7 I6 kp
end
end Sw
namespace Sw
open PySem PySem.Spec PyProof.Rows L2
section
variable {P : Program} {w : World} {K : PySem.W.Frag} {mg : Str → Option Value} {base : Heap}
/-! the law -/
theorem kit_ll {K : PySem.W.Frag} : PySem.W.kitOne K (.type "list") (.type "list") = some true := kit_ty (by decide +kernel)
theorem eqv_pair (p q : Pr) : PyData.eqv (pairD p) (pairD q) = decide (p = q) := by
  show (PyData.eqv (cellD p.1) (cellD q.1) && (PyData.eqv (cellD p.2) (cellD q.2) && true)) = decide (p = q)
  rw [eqv_cell, eqv_cell, Bool.eq_iff_iff]
  simp [Prod.ext_iff]
theorem shaped_pair (p : Pr) : SeqAt.shaped (pairD p) = true := rfl
theorem full_cel {B : Bd} {h w : Nat} (I : IsB B h w) (f : ∀ r ∈ B, ∀ c ∈ r, c ≠ 46) (p : Cell) : cel B p ≠ 46 := by
  intro e
  obtain ⟨r, _, mr, _, er, _⟩ := I.at (I.ins (p := p) (by rw [e]; decide))
  rw [e] at er
  exact f r mr 46 (List.mem_of_getElem? er) rfl
theorem full_empty {B : Bd} (f : ∀ p, cel B p ≠ 46) : emptyL B = [] := by
  cases e : emptyL B with
  | nil => rfl
  | cons a as =>
    have : a ∈ emptyL B := by rw [e]; exact List.mem_cons_self
    exact absurd (mem_emptyL.mp this) (f a)
/-- the pair's cell on the hand's side -/
def sideP (s : Bool) (p : Pr) : Cell := if s then p.2 else p.1
/-- where the walk ends for a hand -/
def endP (h w : Nat) (s : Bool) : Pr := if s then ((-1, (w : Int)), (0, (w : Int))) else (((h : Int), -1), ((h : Int) - 1, -1))
theorem Wk.says {B B' : Bd} {h w : Nat} (I : IsB B h w) (I' : IsB B' h w) (fc : ∀ p, cel B p ≠ 46) {ps : List Pr} {x : Pr} (k : Wk (cel B) h w ps x) (e : stp (cel B) h w x = none) {s : Bool}
    (kp : ∀ c ∈ ps.map (sideP s), Ins h w c → cel B' c = cel B c) (ex : x = endP h w s) : jB B' s = true := by
  have fl' : ∀ p, Ins h w p → cel B p = 110 ∨ cel B p = 119 := fun p hp => by
    obtain ⟨_, _, _, _, _, ok⟩ := I.at hp
    rcases ok with z | z | z
    · exact .inl z
    · exact .inr z
    · exact absurd z (fc p)
  rw [jB_iff I']
  have h1 := I.h1
  cases s with
  | false =>
    rcases k.tells (gn := cel B') (gw := cel B) I.h1 I.w1 fl' I'.sup I.sup e (fun p hp i => kp p.1 (List.mem_map.mpr ⟨p, hp, rfl⟩) i) (fun _ _ _ => rfl) with z | z
    · have : endP h w false = ((-1, (w : Int)), (0, (w : Int))) := ex.symm.trans z.1
      have := congrArg (fun p : Pr => p.1.1) this
      have : (h : Int) = -1 := this
      omega
    · exact z.2
  | true =>
    rcases k.tells (gn := cel B) (gw := cel B') I.h1 I.w1 fl' I.sup I'.sup e (fun _ _ _ => rfl) (fun p hp i => kp p.2 (List.mem_map.mpr ⟨p, hp, rfl⟩) i) with z | z
    · exact z.2
    · have : endP h w true = (((h : Int), -1), ((h : Int) - 1, -1)) := ex.symm.trans z.1
      have := congrArg (fun p : Pr => p.1.1) this
      have : (-1 : Int) = h := this
      omega
theorem nw_b (s : Bool) : atI (Str.ofString "nw").cps.toList (if s = true then 1 else 0) = some (lt s) := by
  rw [s_nw]
  cases s <;> rfl
theorem wn_b (s : Bool) : atI (Str.ofString "wn").cps.toList (if s = true then 1 else 0) = some (lt (!s)) := by
  rw [s_wn]
  cases s <;> rfl
def sp_law (K : PySem.W.Frag) : Sp := fun vs H Q _ => ∃ (a : Addr) (ns : List Int), vs = [.ref a] ∧ SqL K H a (ns.map V.int) ∧ ns.length ≤ 63 ∧ ∀ H', Q (.bl true) H'
theorem ok_law (T : Top K mg) : FnOk P w K mg base CX0 9 T.a_law T.d_law ["script"] (sp_law K) := by
  refine T.F_law.ok sc_law (fun vs H Q E h => ?_) (fun cdv A outer s H vs Q E hr h => ?_)
  · obtain ⟨_, _, rfl, _⟩ := h
    rfl
  obtain ⟨a, ns, rfl, hS, hlen, q⟩ := h
  refine ⟨_, (pss_cons (ps_asg (pe_call (ok__law_size_by T) (hr.mono (by decide)) rfl T.m__law_size_by T.F__law_size_by.kp T.B__law_size_by .nil pass0 (pa_cons (pv 0) (pa_cons pe_int pa_nil))) (pg_tup rfl (pgs_cons (pg_name (i := 5) sc_law.nd rfl (Or.inl rfl)) (pgs_cons (pg_name (i := 6) sc_law.nd rfl (Or.inl rfl)) pgs_nil))))
      (pss_cons (ps_set (i := 1) sc_law.nd rfl (Or.inl rfl) (pe_call (ok__law_rows_by T) (hr.mono (by decide)) rfl T.m__law_rows_by T.F__law_rows_by.kp T.B__law_rows_by .nil pass0 (pa_cons (pv 0) (pa_cons (pv 5) (pa_cons (pv 6) (pa_cons pe_bl pa_nil))))))
      (Evl.pss_cut (ps_if (pt_cmpR op_eq (pe_op op_mod (pe_call (ok__law_cell_at T) (hr.mono (by decide)) rfl T.m__law_cell_at T.F__law_cell_at.kp T.B__law_cell_at .nil pass0 (pa_cons (pv 0) (pa_cons pe_int pa_nil))) pe_int) pe_int (nomark _))
      (pss_one (ps_set (i := 1) sc_law.nd rfl (Or.inl rfl) (pe_call (ok__law_long_way T) (hr.mono (by decide)) rfl T.m__law_long_way T.F__law_long_way.kp T.B__law_long_way .nil pass0 (pa_cons (pv 1) (pa_cons (pe_ix ix_str pe_str (pe_op op_mod (pe_op op_fdiv (pe_call (ok__law_cell_at T) (hr.mono (by decide)) rfl T.m__law_cell_at T.F__law_cell_at.kp T.B__law_cell_at .nil pass0 (pa_cons (pv 0) (pa_cons pe_int pa_nil))) pe_int) pe_int) (fun _ _ => rfl)) (pa_cons (pe_call (ok__law_cell_at T) (hr.mono (by decide)) rfl T.m__law_cell_at T.F__law_cell_at.kp T.B__law_cell_at .nil pass0 (pa_cons (pv 0) (pa_cons pe_int pa_nil))) pa_nil)))))) pss_nil)
      (pss_cons (ps_set (i := 2) sc_law.nd rfl (Or.inl rfl) (pe_call (ok_walk T) (hr.mono (by decide)) rfl T.m_walk T.F_walk.kp T.B_walk .nil passL (pa_cons (pe_make T.Mk_Board (ok_Board_init T) (hr.mono (by decide)) (by rfl) T.mC_Board T.B_Board___init__ .nil passL (pa_cons (pe_callTy call_list_of (by rfl) T.z_list (by decide +kernel) (pa_cons (pv 1) pa_nil)) pa_nil)) pa_nil)))
      (pss_cons (ps_if (PW.pt (pw_or (pt_not (pt_val (pe_callB call_isi (by rfl) T.z_isinstance (by decide +kernel) (pa_cons (pv 2) (pa_cons (pe_bltn (v := .ty "list") (u := .type "list") (by rfl) T.z_list (by decide +kernel) rfl) pa_nil))))) (pw_or (pt_cmpR op_ne (pe_lenSetP (by rfl) T.z_len (by rfl) T.z_set (hu65 hr) (pv 2)) (pe_callB call_len_seq (by rfl) T.z_len PySem.boot_len (pa_cons (pv 2) pa_nil)) (nomark _)) (pw_or1 (pt_cmpR op_eq (pe_callB call_len_seq (by rfl) T.z_len PySem.boot_len (pa_cons (pv 2) pa_nil)) pe_int (nomark _))))))
      (pss_one (ps_ret pe_bl)) pss_nil)
      (pss_cons (ps_set (i := 3) sc_law.nd rfl (Or.inr rfl) pe_int)
      (Evl.pss_cut (ps_if (pt_cmpR (op_eqD hr.units) (pe_ix ix_list (pv 2) (pe_un un_neg pe_int) (fun _ _ => rfl)) (pe_tup (pa_cons (pe_tup (pa_cons (pe_un un_neg pe_int) (pa_cons (pv 6) pa_nil))) (pa_cons (pe_tup (pa_cons pe_int (pa_cons (pv 6) pa_nil))) pa_nil))) (nomark _))
      (pss_one (ps_set (i := 3) sc_law.nd rfl (Or.inr rfl) pe_int)) (pss_one (ps_if (pt_cmpR (op_neD hr.units) (pe_ix ix_list (pv 2) (pe_un un_neg pe_int) (fun _ _ => rfl)) (pe_tup (pa_cons (pe_tup (pa_cons (pv 5) (pa_cons (pe_un un_neg pe_int) pa_nil))) (pa_cons (pe_tup (pa_cons (pe_op op_sub (pv 5) pe_int) (pa_cons (pe_un un_neg pe_int) pa_nil))) pa_nil))) (nomark _))
      (pss_one (ps_ret pe_bl)) pss_nil)))
      (pss_cons (ps_set (i := 4) sc_law.nd rfl (Or.inl rfl) (pe_ix ix_str pe_str (pv 3) (fun _ _ => rfl)))
      (pss_cons (ps_if (PW.pt (pw_or (pt_not (pt_val (pe_call (ok__law_flood T) (hr.mono (by decide)) rfl T.m__law_flood T.F__law_flood.kp T.B__law_flood .nil pass0 (pa_cons (pv 1) (pa_cons (pv 4) pa_nil))))) (pw_or1 (pt_val (pe_call (ok__law_flood T) (hr.mono (by decide)) rfl T.m__law_flood T.F__law_flood.kp T.B__law_flood .nil pass0 (pa_cons (pv 1) (pa_cons (pe_ix ix_str pe_str (pv 3) (fun _ _ => rfl)) pa_nil)))))))
      (pss_one (ps_ret pe_bl)) pss_nil)
      (pss_one (ps_ret (pe_call (ok__law_flood T) (hr.mono (by decide)) rfl T.m__law_flood T.F__law_flood.kp T.B__law_flood .nil pass0 (pa_cons (pe_call (ok__law_only T) (hr.mono (by decide)) rfl T.m__law_only T.F__law_only.kp T.B__law_only .nil pass0 (pa_cons (pv 1) (pa_cons (pe_lc (own := [("pair", 7)]) (g := gName 7) (tt := tYes) rfl sc_law.nd (pi_list (pv 2)) (blkOk_by (own := [("pair", 7)]) (N := N_law) (sc := defScope s_law) (by decide +kernel)) (fun _ _ _ _ _ => (pg_name (i := 7) sc_law.nd rfl (Or.inl rfl))) (fun _ _ _ _ _ => pts_nil) (fun _ _ _ _ _ => (pe_ix (ix_tupK (K := K) rfl) (pv 7) (pv 3) (fun _ _ => rfl)))) pa_nil))) (pa_cons (pv 4) pa_nil)))))))))))))), ?_⟩
  -- height, width; rows
  refine ⟨_, rfl, a, ns, 9, rfl, hS, by decide, fun h w t H1 h1 h9 w1 w9 s1 ht => ?_⟩
  obtain ⟨h, rfl⟩ : ∃ n : Nat, h = (n : Int) := ⟨h.toNat, by omega⟩
  obtain ⟨w, rfl⟩ : ∃ n : Nat, w = (n : Int) := ⟨w.toNat, by omega⟩
  refine ⟨t, _, rfl, SqT.of ht, rfl, _, _, rfl, _, _, rfl, rfl, ?_⟩
  have hS1 := s1.seq hS
  refine ⟨_, rfl, _, rfl, _, rfl, a, ns, h, w, true, rfl, hS1, by omega, by omega, by omega, by omega, fun B l H2 s2 nl hl I fu => ?_⟩
  have hS2 := s2.seq hS1
  refine ⟨fun σ H' => Same H1 H' ∧ ∃ (l : Addr) (B : Bd), H' l = some (.lst (rowsV B)) ∧ IsB B h w ∧ (∀ p, cel B p ≠ 46) ∧ σ = [some (.ref a), some (.ref l), none, none, none, some (.int h), some (.int w), none], ?_, ?_⟩
  · have fc := full_cel I (fu rfl)
    refine ⟨_, rfl, a, ns, 2, rfl, hS2, by decide, _, _, rfl, rfl, (show (0 : Int) < 3 by decide), rfl, _, rfl, iteD (fun _ => ?_) (fun _ => ⟨s2, l, B, hl, I, fc, rfl⟩)⟩
    obtain ⟨s, es⟩ := nw_hand (Int.emod_nonneg (sAt ns 2 / 3) (show (2 : Int) ≠ 0 by decide)) (Int.emod_lt_of_pos (sAt ns 2 / 3) (show (0 : Int) < 2 by decide))
    refine ⟨_, rfl, _, rfl, a, ns, 2, rfl, hS2, by decide, _, _, rfl, rfl, ⟨by decide, by decide⟩, _, _, rfl, rfl, (show (0 : Int) < 2 by decide), _, _, _, rfl, rfl, (show (2 : Nat) ≤ sizeLine by decide), es, ?_⟩
    refine ⟨_, rfl, a, ns, 12, rfl, hS2, by decide, l, B, h, w, s, _, rfl, hl, I, fun B2 l2 H3 s3 nl2 hl2 I2 kp => ?_⟩
    refine ⟨s2.trans s3, l2, B2, hl2, I2, fun p => ?_, rfl⟩
    rcases kp p with e | e
    · rw [e]
      exact fc p
    · rw [e]
      cases s <;> decide
  clear fu
  rintro σ H3 ⟨s3, l, B, hl, I, fc, rfl⟩
  -- found = walk(Board(list(rows)))
  refine ⟨_, rfl, l, _, rfl, .inl (SqL.of hl), fun n hn o d no nd ndo => ?_⟩
  have s4 := same_new hn (.lst (rowsV B))
  have so := ((same_new nd (.own o)).trans (same_new (by rw [upd_ne (Ne.symm ndo)]; exact no) (.ins T.C_Board d [])))
  refine ⟨o, d, n, _, rfl, upd_same, so _ _ upd_same, I.small, fun hb => ?_, fun _ H5 l5 k5 n5 b5 => ⟨rfl, ?_⟩⟩
  · rw [I.good] at hb
    cases hb
  have s45 := s4.trans (made_board no nd k5)
  refine ⟨o, l5, B, h, w, rfl, b5, I, (fun z => absurd (full_empty fc) z), fun _ v H6 ⟨f, ws, ps, x, ev, nf, s6, hf, hps, wk, es⟩ => ?_⟩
  subst ev
  refine gn ?_
  have hl6 := (s45.trans s6) _ _ hl
  have a2 := area2 I
  have bd := wk.bound I.h1
  have lw := hps.len
  obtain ⟨l0, el0, _⟩ := wk.init
  have lp : ps.length = l0.length + 1 := by
    rw [el0, List.length_append]
    rfl
  -- told apart
  refine ⟨_, rfl, _, _, _, _, _, rfl, .ty _, .base (.lst hf), kit_ll, _, rfl, iteF ?_⟩
  refine ⟨_, rfl, f, ws, ps, rfl, hf, hps, wk.hashes I.h1 I.h9 I.w9, by omega, _, rfl, f, _, rfl, .inl (SqL.of hf), rfl, _, rfl, iteN (fun z => absurd (congrArg V.int (by omega)) z) (fun _ => ?_)⟩
  refine ⟨_, rfl, f, _, rfl, .inl (SqL.of hf), rfl, _, rfl, iteD (fun z => ?_) (fun _ => ?_)⟩
  · have := V.int.inj z
    omega
  refine tn ?_
  have hlast : ∀ (H' : Hp), Same H6 H' → ∃ t ta tb, atI ws (-1) = some (.ref t) ∧ H' t = some (.tup [.ref ta, .ref tb]) ∧ H' ta = some (.tup (cellV x.1)) ∧ H' tb = some (.tup (cellV x.2)) := fun H' k => by
    obtain ⟨y, ey⟩ : ∃ y, ws[ws.length - 1]? = some y := ⟨_, List.getElem?_eq_getElem (by omega)⟩
    obtain ⟨t, ta, tb, p, rfl, ep, e1, e2, e3⟩ := hps.get ey
    have : p = x := by
      rw [lw, lp, Nat.add_sub_cancel, el0, List.getElem?_append_right (Nat.le_refl _), Nat.sub_self] at ep
      exact (Option.some.inj ep).symm
    subst this
    exact ⟨t, ta, tb, atI_last1 ey, k _ _ e1, k _ _ e2, k _ _ e3⟩
  have dir : x = endP h w true ∨ x = endP h w false := by
    rcases stp_end I.h1 I.w1 (wk.vld I.h1) es with z | z
    · exact .inl z
    · exact .inr z
  have ne : endP h w true ≠ endP h w false := fun z => by
    have := congrArg (fun p : Pr => p.1.1) z
    have : (-1 : Int) = h := this
    omega
  refine ⟨fun σ H' => Same H6 H' ∧ ∃ s : Bool, x = endP h w s ∧ σ = [some (.ref a), some (.ref l), some (.ref f), some (.int (if s = true then 1 else 0)), none, some (.int h), some (.int w), none], ?_, ?_⟩
  · obtain ⟨t, ta, tb, e0, e1, e2, e3⟩ := hlast H6 (.refl _)
    refine ⟨_, rfl, _, rfl, f, ws, _, _, rfl, rfl, SqL.of hf, e0, _, rfl, _, rfl, sz2, fun u1 g1 => ?_⟩
    have v1 := same_new g1 (.tup (cellV ((-1, (w : Int)) : Cell)))
    refine ⟨_, rfl, sz2, fun u2 g2 => ?_⟩
    have v2 := same_new g2 (.tup (cellV ((0, (w : Int)) : Cell)))
    refine ⟨sz2, fun u3 g3 => ?_⟩
    have v3 := same_new g3 (.tup [V.ref u1, V.ref u2])
    have v := v1.trans (v2.trans v3)
    refine ⟨pairD x, pairD (endP h w true), pair_dp (v _ _ e1) (v _ _ e2) (v _ _ e3), pair_dp upd_same (v3 _ _ (v2 _ _ upd_same)) (v3 _ _ upd_same), shaped_pair _, shaped_pair _, _, rfl, ?_⟩
    rw [eqv_pair]
    refine iteD (fun z => ⟨v, true, z, rfl⟩) (fun z => ?_)
    obtain ⟨t, ta, tb, e0, e1, e2, e3⟩ := hlast _ v
    have hf2 := v _ _ hf
    refine ⟨_, rfl, _, rfl, f, ws, _, _, rfl, rfl, SqL.of hf2, e0, _, rfl, _, rfl, sz2, fun u4 g4 => ?_⟩
    have v4 := same_new g4 (.tup (cellV (((h : Int), -1) : Cell)))
    refine ⟨_, rfl, _, _, rfl, rfl, _, rfl, sz2, fun u5 g5 => ?_⟩
    have v5 := same_new g5 (.tup (cellV (((h : Int) - 1, -1) : Cell)))
    refine ⟨sz2, fun u6 g6 => ?_⟩
    have v6 := same_new g6 (.tup [V.ref u4, V.ref u5])
    have y := v4.trans (v5.trans v6)
    refine ⟨pairD x, pairD (endP h w false), pair_dp (y _ _ e1) (y _ _ e2) (y _ _ e3), pair_dp upd_same (v6 _ _ (v5 _ _ upd_same)) (v6 _ _ upd_same), shaped_pair _, shaped_pair _, _, rfl, ?_⟩
    rw [eqv_pair]
    exact iteN (fun k => absurd (dir.resolve_left z) k) (fun k => ⟨v.trans y, false, k, rfl⟩)
  rintro σ H7 ⟨s7, s, exs, rfl⟩
  have jt : jB B s = true := wk.says I I fc es (fun _ _ _ => rfl) exs
  have jf : jB B (!s) = false := by
    rw [jB_full I fc s, jt]
    rfl
  have hl7 := s7 _ _ hl6
  refine ⟨_, rfl, _, _, _, rfl, rfl, (show (2 : Nat) ≤ sizeLine by decide), nw_b s, ?_⟩
  refine gn ?_
  refine ⟨_, rfl, _, rfl, l, B, h, w, s, rfl, hl7, I, fun H8 s8 => ?_⟩
  rw [jt]
  refine ⟨_, rfl, iteF ?_⟩
  refine ⟨_, rfl, _, rfl, _, _, _, rfl, rfl, (show (2 : Nat) ≤ sizeLine by decide), wn_b s, l, B, h, w, !s, rfl, s8 _ _ hl7, I, fun H9 s9 => ?_⟩
  rw [jf]
  refine ⟨_, rfl, iteF ?_⟩
  refine tn ?_
  have s89 := s8.trans s9
  have hl9 := s89 _ _ hl7
  have hf9 := (s7.trans s89) _ _ hf
  have hps9 := hps.same (s7.trans s89)
  refine ⟨_, rfl, _, rfl, f, rfl, ⟨_, SqL.of hf9⟩, fun D hD => lc_it walk_list (fun j H' => Same H9 H' ∧ ∃ us, H' D = some (.lst us) ∧ Cells H' us ((ps.take j).map (sideP s))) ⟨same_new hD _, [], upd_same, .nil⟩ (fun _ H' _ ⟨k, _⟩ => SqL.of (k _ _ hf9))
    (fun j y H10 H11 hj ⟨s10, us, hD10, hc10⟩ ⟨e11, ey⟩ => ?_) (fun H10 ⟨s10, us, hD10, hc10⟩ => ?_)⟩
  · subst e11
    obtain ⟨t, ta, tb, p, rfl, ep, e1, e2, e3⟩ := (hps9.same s10).get ey
    have pick : ∃ u, atI [V.ref ta, V.ref tb] (if s = true then 1 else 0) = some (.ref u) ∧ H11 u = some (.tup (cellV (sideP s p))) := by
      cases s
      · exact ⟨ta, rfl, e2⟩
      · exact ⟨tb, rfl, e3⟩
    obtain ⟨u, eu, hu⟩ := pick
    have lc := hc10.len
    rw [List.length_map, List.length_take] at lc
    refine ⟨rfl, _, rfl, _, rfl, t, _, _, _, rfl, rfl, SqT.of e1, eu, us, hD10, sz_lt (by omega), same_mut s10 hD, us ++ [.ref u], upd_same, ?_⟩
    rw [take_snoc ep, List.map_append]
    exact (hc10.app (.one hu)).tps (.lst hD10)
  · rw [lw, List.take_length] at hc10
    refine ⟨l, D, B, h, w, us, _, rfl, s10 _ _ hl9, I, hD10, hc10, fun B' p H11 s11 hp I' kp => ?_⟩
    refine ⟨_, rfl, p, B', h, w, s, rfl, hp, I', fun H12 s12 => ?_⟩
    rw [wk.says I I' fc es kp exs]
    exact q _
end
end Sw
namespace Sw
open PySem PySem.Spec PyProof.Rows L2
/-! ### what the top has written, and the end -/
theorem all_mk {l : PySem.W.OpenLaw} {w : World} {K : PySem.W.Frag} {h : Heap} {mg : Str → Option Value} {fa : Addr} (X : K.In h) (G : h.Ns mainGlobals mg) (hfa : mg "law" = some (.ref fa))
    {C_Board C_BadBoard C_NotFull : Addr}
    {od1 an1 : Option Addr} {sl1 : Array (Option Value)} {oc1 kV1 dc1 pm1 cd1 ct1 : Value} {f1 : Addr}
    {od2 an2 : Option Addr} {sl2 : Array (Option Value)} {oc2 kV2 dc2 pm2 cd2 ct2 : Value} {f2 : Addr}
    {od3 an3 : Option Addr} {sl3 : Array (Option Value)} {oc3 kV3 dc3 pm3 cd3 ct3 : Value} {f3 : Addr}
    {od4 an4 : Option Addr} {sl4 : Array (Option Value)} {oc4 kV4 dc4 pm4 cd4 ct4 : Value} {f4 : Addr}
    {od5 an5 : Option Addr} {sl5 : Array (Option Value)} {oc5 kV5 dc5 pm5 cd5 ct5 : Value} {f5 : Addr}
    {od6 an6 : Option Addr} {sl6 : Array (Option Value)} {oc6 kV6 dc6 pm6 cd6 ct6 : Value} {f6 : Addr}
    {od7 an7 : Option Addr} {sl7 : Array (Option Value)} {oc7 kV7 dc7 pm7 cd7 ct7 : Value} {f7 : Addr}
    {od8 an8 : Option Addr} {sl8 : Array (Option Value)} {oc8 kV8 dc8 pm8 cd8 ct8 : Value} {f8 : Addr}
    {od9 an9 : Option Addr} {sl9 : Array (Option Value)} {oc9 kV9 dc9 pm9 cd9 ct9 : Value} {f9 : Addr}
    {od10 an10 : Option Addr} {sl10 : Array (Option Value)} {oc10 kV10 dc10 pm10 cd10 ct10 : Value} {f10 : Addr}
    {od11 an11 : Option Addr} {sl11 : Array (Option Value)} {oc11 kV11 dc11 pm11 cd11 ct11 : Value} {f11 : Addr}
    {od12 an12 : Option Addr} {sl12 : Array (Option Value)} {oc12 kV12 dc12 pm12 cd12 ct12 : Value} {f12 : Addr}
    {od13 an13 : Option Addr} {sl13 : Array (Option Value)} {oc13 kV13 dc13 pm13 cd13 ct13 : Value} {f13 : Addr}
    {od14 an14 : Option Addr} {sl14 : Array (Option Value)} {oc14 kV14 dc14 pm14 cd14 ct14 : Value} {f14 : Addr}
    {od15 an15 : Option Addr} {sl15 : Array (Option Value)} {oc15 kV15 dc15 pm15 cd15 ct15 : Value} {f15 : Addr}
    (aC_Board : PySem.W.nsIn K mainGlobals "Board" = some (some (.ref C_Board)))
    (aC_BadBoard : PySem.W.nsIn K mainGlobals "BadBoard" = some (some (.ref C_BadBoard)))
    (aC_NotFull : PySem.W.nsIn K mainGlobals "NotFull" = some (some (.ref C_NotFull)))
    (a1 : PySem.W.nsIn K mainGlobals "board_right" = some (some (.ref f1)))
    (l1 : K.lookup f1 = some ⟨oc1, od1, .func (PySem.W.fnOf "board_right" "board_right" (defArgs s_board_right) (defBody s_board_right) (defScope s_board_right) .none kV1 dc1 pm1 an1 cd1 ct1), sl1⟩)
    (c1 : PySem.W.codeIn K cd1 "board_right" = true)
    (k1 : PySem.W.keepIn K (.ref f1) = true)
    (a2 : PySem.W.findIn K (.ref C_Board) "__init__" = some (some (.ref f2)))
    (i2 : PySem.W.isFn K (.ref f2) = true)
    (l2 : K.lookup f2 = some ⟨oc2, od2, .func (PySem.W.fnOf "__init__" "Board.__init__" (defArgs s_Board___init__) (defBody s_Board___init__) (defScope s_Board___init__) .none kV2 dc2 pm2 an2 cd2 ct2), sl2⟩)
    (c2 : PySem.W.codeIn K cd2 "Board.__init__" = true)
    (k2 : PySem.W.keepIn K (.ref f2) = true)
    (a3 : PySem.W.findIn K (.ref C_Board) "has" = some (some (.ref f3)))
    (i3 : PySem.W.isFn K (.ref f3) = true)
    (l3 : K.lookup f3 = some ⟨oc3, od3, .func (PySem.W.fnOf "has" "Board.has" (defArgs s_Board_has) (defBody s_Board_has) (defScope s_Board_has) .none kV3 dc3 pm3 an3 cd3 ct3), sl3⟩)
    (c3 : PySem.W.codeIn K cd3 "Board.has" = true)
    (k3 : PySem.W.keepIn K (.ref f3) = true)
    (a4 : PySem.W.nsIn K mainGlobals "near" = some (some (.ref f4)))
    (l4 : K.lookup f4 = some ⟨oc4, od4, .func (PySem.W.fnOf "near" "near" (defArgs s_near) (defBody s_near) (defScope s_near) .none kV4 dc4 pm4 an4 cd4 ct4), sl4⟩)
    (c4 : PySem.W.codeIn K cd4 "near" = true)
    (k4 : PySem.W.keepIn K (.ref f4) = true)
    (a5 : PySem.W.nsIn K mainGlobals "empty" = some (some (.ref f5)))
    (l5 : K.lookup f5 = some ⟨oc5, od5, .func (PySem.W.fnOf "empty" "empty" (defArgs s_empty) (defBody s_empty) (defScope s_empty) .none kV5 dc5 pm5 an5 cd5 ct5), sl5⟩)
    (c5 : PySem.W.codeIn K cd5 "empty" = true)
    (k5 : PySem.W.keepIn K (.ref f5) = true)
    (a6 : PySem.W.nsIn K mainGlobals "owner" = some (some (.ref f6)))
    (l6 : K.lookup f6 = some ⟨oc6, od6, .func (PySem.W.fnOf "owner" "owner" (defArgs s_owner) (defBody s_owner) (defScope s_owner) .none kV6 dc6 pm6 an6 cd6 ct6), sl6⟩)
    (c6 : PySem.W.codeIn K cd6 "owner" = true)
    (k6 : PySem.W.keepIn K (.ref f6) = true)
    (a7 : PySem.W.nsIn K mainGlobals "walk" = some (some (.ref f7)))
    (l7 : K.lookup f7 = some ⟨oc7, od7, .func (PySem.W.fnOf "walk" "walk" (defArgs s_walk) (defBody s_walk) (defScope s_walk) .none kV7 dc7 pm7 an7 cd7 ct7), sl7⟩)
    (c7 : PySem.W.codeIn K cd7 "walk" = true)
    (k7 : PySem.W.keepIn K (.ref f7) = true)
    (a8 : PySem.W.nsIn K mainGlobals "_law_cell_at" = some (some (.ref f8)))
    (l8 : K.lookup f8 = some ⟨oc8, od8, .func (PySem.W.fnOf "_law_cell_at" "_law_cell_at" (defArgs s__law_cell_at) (defBody s__law_cell_at) (defScope s__law_cell_at) .none kV8 dc8 pm8 an8 cd8 ct8), sl8⟩)
    (c8 : PySem.W.codeIn K cd8 "_law_cell_at" = true)
    (k8 : PySem.W.keepIn K (.ref f8) = true)
    (a9 : PySem.W.nsIn K mainGlobals "_law_mix" = some (some (.ref f9)))
    (l9 : K.lookup f9 = some ⟨oc9, od9, .func (PySem.W.fnOf "_law_mix" "_law_mix" (defArgs s__law_mix) (defBody s__law_mix) (defScope s__law_mix) .none kV9 dc9 pm9 an9 cd9 ct9), sl9⟩)
    (c9 : PySem.W.codeIn K cd9 "_law_mix" = true)
    (k9 : PySem.W.keepIn K (.ref f9) = true)
    (a10 : PySem.W.nsIn K mainGlobals "_law_rows_by" = some (some (.ref f10)))
    (l10 : K.lookup f10 = some ⟨oc10, od10, .func (PySem.W.fnOf "_law_rows_by" "_law_rows_by" (defArgs s__law_rows_by) (defBody s__law_rows_by) (defScope s__law_rows_by) .none kV10 dc10 pm10 an10 cd10 ct10), sl10⟩)
    (c10 : PySem.W.codeIn K cd10 "_law_rows_by" = true)
    (k10 : PySem.W.keepIn K (.ref f10) = true)
    (a11 : PySem.W.nsIn K mainGlobals "_law_size_by" = some (some (.ref f11)))
    (l11 : K.lookup f11 = some ⟨oc11, od11, .func (PySem.W.fnOf "_law_size_by" "_law_size_by" (defArgs s__law_size_by) (defBody s__law_size_by) (defScope s__law_size_by) .none kV11 dc11 pm11 an11 cd11 ct11), sl11⟩)
    (c11 : PySem.W.codeIn K cd11 "_law_size_by" = true)
    (k11 : PySem.W.keepIn K (.ref f11) = true)
    (a12 : PySem.W.nsIn K mainGlobals "_law_long_way" = some (some (.ref f12)))
    (l12 : K.lookup f12 = some ⟨oc12, od12, .func (PySem.W.fnOf "_law_long_way" "_law_long_way" (defArgs s__law_long_way) (defBody s__law_long_way) (defScope s__law_long_way) .none kV12 dc12 pm12 an12 cd12 ct12), sl12⟩)
    (c12 : PySem.W.codeIn K cd12 "_law_long_way" = true)
    (k12 : PySem.W.keepIn K (.ref f12) = true)
    (a13 : PySem.W.nsIn K mainGlobals "_law_flood" = some (some (.ref f13)))
    (l13 : K.lookup f13 = some ⟨oc13, od13, .func (PySem.W.fnOf "_law_flood" "_law_flood" (defArgs s__law_flood) (defBody s__law_flood) (defScope s__law_flood) .none kV13 dc13 pm13 an13 cd13 ct13), sl13⟩)
    (c13 : PySem.W.codeIn K cd13 "_law_flood" = true)
    (k13 : PySem.W.keepIn K (.ref f13) = true)
    (a14 : PySem.W.nsIn K mainGlobals "_law_only" = some (some (.ref f14)))
    (l14 : K.lookup f14 = some ⟨oc14, od14, .func (PySem.W.fnOf "_law_only" "_law_only" (defArgs s__law_only) (defBody s__law_only) (defScope s__law_only) .none kV14 dc14 pm14 an14 cd14 ct14), sl14⟩)
    (c14 : PySem.W.codeIn K cd14 "_law_only" = true)
    (k14 : PySem.W.keepIn K (.ref f14) = true)
    (a15 : PySem.W.nsIn K mainGlobals "law" = some (some (.ref f15)))
    (l15 : K.lookup f15 = some ⟨oc15, od15, .func (PySem.W.fnOf "law" "law" (defArgs s_law) (defBody s_law) (defScope s_law) .none kV15 dc15 pm15 an15 cd15 ct15), sl15⟩)
    (c15 : PySem.W.codeIn K cd15 "law" = true)
    (k15 : PySem.W.keepIn K (.ref f15) = true)
    (pg_Board : PySem.W.plainGet K C_Board Str.empty = true)
    (hd_Board : PySem.W.hasDictIn K C_Board = true)
    (po_Board : PySem.W.plainOver K C_Board = true)
    (sa_Board : PySem.W.findIn K (.ref C_Board) "__setattr__" = some (some (.builtin "object.__setattr__")))
    (mk_Board : PySem.W.makesIn K C_Board = true)
    (kc_Board : PySem.W.keepIn K (.ref C_Board) = true)
    (n_Board_rows : PySem.W.findIn K (.ref C_Board) "rows" = some none)
    (n_Board_height : PySem.W.findIn K (.ref C_Board) "height" = some none)
    (n_Board_width : PySem.W.findIn K (.ref C_Board) "width" = some none)
    (x_BadBoard : PySem.W.excIn K C_BadBoard [.type "ValueError", .type "Exception", .type "BaseException", .type "object"] "ValueError.__new__" = true)
    (k_BadBoard : PySem.W.keepIn K (.ref C_BadBoard) = true)
    (b_BadBoard : PySem.W.subIn K (.ref C_BadBoard) (.type "BaseException") = some true)
    (t_BadBoard : PySem.W.typeIn K (.ref C_BadBoard) = some (.type "type"))
    (i_BadBoard : PySem.W.isClsIn K C_BadBoard = true)
    (x_NotFull : PySem.W.excIn K C_NotFull [.type "ValueError", .type "Exception", .type "BaseException", .type "object"] "ValueError.__new__" = true)
    (k_NotFull : PySem.W.keepIn K (.ref C_NotFull) = true)
    (b_NotFull : PySem.W.subIn K (.ref C_NotFull) (.type "BaseException") = some true)
    (t_NotFull : PySem.W.typeIn K (.ref C_NotFull) = some (.type "type"))
    (i_NotFull : PySem.W.isClsIn K C_NotFull = true)
    {tk_MOST : Tok} (g_MOST : PySem.W.nsIn K mainGlobals "MOST" = some (some (.int 9 tk_MOST)))
    (z_len : PySem.W.nsIn K mainGlobals "len" = some none)
    (z_all : PySem.W.nsIn K mainGlobals "all" = some none)
    (z_list : PySem.W.nsIn K mainGlobals "list" = some none)
    (z_enumerate : PySem.W.nsIn K mainGlobals "enumerate" = some none)
    (z_range : PySem.W.nsIn K mainGlobals "range" = some none)
    (z_int : PySem.W.nsIn K mainGlobals "int" = some none)
    (z_isinstance : PySem.W.nsIn K mainGlobals "isinstance" = some none)
    (z_set : PySem.W.nsIn K mainGlobals "set" = some none) :
    ∃ fd : FuncData, (∀ (s : Shared) (v : Value), BindsTo s fd ⟨[v], []⟩ [("script", v)]) ∧ ∀ base : Heap, K.In base → base.Ns mainGlobals mg → FnOk l.prog w K mg base CX0 9 fa fd ["script"] (sp_law K) := by
  have e := hfa.symm.trans (PySem.W.mg_of X G a15)
  cases e
  let T : Top K mg := {
    a_board_right := f1,
    d_board_right := _,
    F_board_right := fun_mk (st := s_board_right) l1 c1 k1,
    B_board_right := (fun_mk (st := s_board_right) l1 c1 k1).binds (ps := ["rows"]) fun _ _ _ _ _ _ us hl => match us, hl with | [_], _ => rfl,
    m_board_right := PySem.W.mg_of X G a1,
    a_Board___init__ := f2,
    d_Board___init__ := _,
    F_Board___init__ := fun_mk (st := s_Board___init__) l2 c2 k2,
    B_Board___init__ := (fun_mk (st := s_Board___init__) l2 c2 k2).binds (ps := ["self", "rows"]) fun _ _ _ _ _ _ us hl => match us, hl with | [_, _], _ => rfl,
    a_Board_has := f3,
    d_Board_has := _,
    F_Board_has := fun_mk (st := s_Board_has) l3 c3 k3,
    B_Board_has := (fun_mk (st := s_Board_has) l3 c3 k3).binds (ps := ["self", "r", "c"]) fun _ _ _ _ _ _ us hl => match us, hl with | [_, _, _], _ => rfl,
    a_near := f4,
    d_near := _,
    F_near := fun_mk (st := s_near) l4 c4 k4,
    B_near := (fun_mk (st := s_near) l4 c4 k4).binds (ps := ["r", "c"]) fun _ _ _ _ _ _ us hl => match us, hl with | [_, _], _ => rfl,
    m_near := PySem.W.mg_of X G a4,
    a_empty := f5,
    d_empty := _,
    F_empty := fun_mk (st := s_empty) l5 c5 k5,
    B_empty := (fun_mk (st := s_empty) l5 c5 k5).binds (ps := ["board"]) fun _ _ _ _ _ _ us hl => match us, hl with | [_], _ => rfl,
    m_empty := PySem.W.mg_of X G a5,
    a_owner := f6,
    d_owner := _,
    F_owner := fun_mk (st := s_owner) l6 c6 k6,
    B_owner := (fun_mk (st := s_owner) l6 c6 k6).binds (ps := ["board", "place"]) fun _ _ _ _ _ _ us hl => match us, hl with | [_, _], _ => rfl,
    m_owner := PySem.W.mg_of X G a6,
    a_walk := f7,
    d_walk := _,
    F_walk := fun_mk (st := s_walk) l7 c7 k7,
    B_walk := (fun_mk (st := s_walk) l7 c7 k7).binds (ps := ["board"]) fun _ _ _ _ _ _ us hl => match us, hl with | [_], _ => rfl,
    m_walk := PySem.W.mg_of X G a7,
    a__law_cell_at := f8,
    d__law_cell_at := _,
    F__law_cell_at := fun_mk (st := s__law_cell_at) l8 c8 k8,
    B__law_cell_at := (fun_mk (st := s__law_cell_at) l8 c8 k8).binds (ps := ["script", "k"]) fun _ _ _ _ _ _ us hl => match us, hl with | [_, _], _ => rfl,
    m__law_cell_at := PySem.W.mg_of X G a8,
    a__law_mix := f9,
    d__law_mix := _,
    F__law_mix := fun_mk (st := s__law_mix) l9 c9 k9,
    B__law_mix := (fun_mk (st := s__law_mix) l9 c9 k9).binds (ps := ["cell", "k", "many"]) fun _ _ _ _ _ _ us hl => match us, hl with | [_, _, _], _ => rfl,
    m__law_mix := PySem.W.mg_of X G a9,
    a__law_rows_by := f10,
    d__law_rows_by := _,
    F__law_rows_by := fun_mk (st := s__law_rows_by) l10 c10 k10,
    B__law_rows_by := (fun_mk (st := s__law_rows_by) l10 c10 k10).binds (ps := ["script", "height", "width", "full"]) fun _ _ _ _ _ _ us hl => match us, hl with | [_, _, _, _], _ => rfl,
    m__law_rows_by := PySem.W.mg_of X G a10,
    a__law_size_by := f11,
    d__law_size_by := _,
    F__law_size_by := fun_mk (st := s__law_size_by) l11 c11 k11,
    B__law_size_by := (fun_mk (st := s__law_size_by) l11 c11 k11).binds (ps := ["script", "most"]) fun _ _ _ _ _ _ us hl => match us, hl with | [_, _], _ => rfl,
    m__law_size_by := PySem.W.mg_of X G a11,
    a__law_long_way := f12,
    d__law_long_way := _,
    F__law_long_way := fun_mk (st := s__law_long_way) l12 c12 k12,
    B__law_long_way := (fun_mk (st := s__law_long_way) l12 c12 k12).binds (ps := ["rows", "hand", "cell"]) fun _ _ _ _ _ _ us hl => match us, hl with | [_, _, _], _ => rfl,
    m__law_long_way := PySem.W.mg_of X G a12,
    a__law_flood := f13,
    d__law_flood := _,
    F__law_flood := fun_mk (st := s__law_flood) l13 c13 k13,
    B__law_flood := (fun_mk (st := s__law_flood) l13 c13 k13).binds (ps := ["rows", "hand"]) fun _ _ _ _ _ _ us hl => match us, hl with | [_, _], _ => rfl,
    m__law_flood := PySem.W.mg_of X G a13,
    a__law_only := f14,
    d__law_only := _,
    F__law_only := fun_mk (st := s__law_only) l14 c14 k14,
    B__law_only := (fun_mk (st := s__law_only) l14 c14 k14).binds (ps := ["rows", "cells"]) fun _ _ _ _ _ _ us hl => match us, hl with | [_, _], _ => rfl,
    m__law_only := PySem.W.mg_of X G a14,
    a_law := fa,
    d_law := _,
    F_law := fun_mk (st := s_law) l15 c15 k15,
    B_law := (fun_mk (st := s_law) l15 c15 k15).binds (ps := ["script"]) fun _ _ _ _ _ _ us hl => match us, hl with | [_], _ => rfl,
    m_law := PySem.W.mg_of X G a15,
    C_Board := C_Board,
    cl_Board := ⟨pg_Board, hd_Board, po_Board, sa_Board⟩,
    mC_Board := PySem.W.mg_of X G aC_Board,
    Mk_Board := ⟨mk_Board, a2, i2, kc_Board⟩,
    n_Board_rows := n_Board_rows,
    n_Board_height := n_Board_height,
    n_Board_width := n_Board_width,
    M_Board_has := ⟨a3, i3, k3⟩,
    C_BadBoard := C_BadBoard,
    mC_BadBoard := PySem.W.mg_of X G aC_BadBoard,
    x_BadBoard := x_BadBoard,
    k_BadBoard := k_BadBoard,
    b_BadBoard := b_BadBoard,
    t_BadBoard := t_BadBoard,
    i_BadBoard := i_BadBoard,
    C_NotFull := C_NotFull,
    mC_NotFull := PySem.W.mg_of X G aC_NotFull,
    x_NotFull := x_NotFull,
    k_NotFull := k_NotFull,
    b_NotFull := b_NotFull,
    t_NotFull := t_NotFull,
    i_NotFull := i_NotFull,
    tk_MOST := tk_MOST,
    g_MOST := PySem.W.mg_of X G g_MOST,
    z_len := PySem.W.mg_none_of X G z_len,
    z_all := PySem.W.mg_none_of X G z_all,
    z_list := PySem.W.mg_none_of X G z_list,
    z_enumerate := PySem.W.mg_none_of X G z_enumerate,
    z_range := PySem.W.mg_none_of X G z_range,
    z_int := PySem.W.mg_none_of X G z_int,
    z_isinstance := PySem.W.mg_none_of X G z_isinstance,
    z_set := PySem.W.mg_none_of X G z_set }
  exact ⟨PySem.W.fnOf "law" "law" (defArgs s_law) (defBody s_law) (defScope s_law) .none kV15 dc15 pm15 an15 cd15 ct15, fun s v => .of_eq rfl, fun base _ _ => ok_law T⟩
theorem walk {l : PySem.W.OpenLaw} {q : Program} {loose : List Str} {XP : (Str → Option Value) → Heap → Prop} {YP : World → Heap → Prop} {d : DefRec} {K : Params → PySem.W.Frag} (hn : l.most = some 63) (hdf : d.params.defaults = [])
    (hY : ∀ (w : World) (h : Heap), YP w h → (K w.params).In h)
    (F : ∀ (w : World) (mg : Str → Option Value) (fa : Addr) (h : Heap), (K w.params).In h → h.Ns mainGlobals mg → mg d.name = some (.ref fa) →
      ∃ fd : FuncData, (∀ (s : Shared) (u : Value), BindsTo s fd ⟨[u], []⟩ [("script", u)]) ∧ ∀ base : Heap, (K w.params).In base → base.Ns mainGlobals mg → FnOk l.prog w (K w.params) mg base CX0 9 fa fd ["script"] (sp_law (K w.params))) :
    PySem.W.WalkO q loose XP YP l.row.toRowW d [] (fun f vs => PySem.call f vs) :=
  L2.walk_of (n := 63) (k := 9) (x := "script") (CX := fun _ => CX0) (sp := fun w => sp_law (K w.params)) hn (by decide) hdf ⟨rfl, by decide, by decide⟩ hY F (fun _ _ a ns hl _ hS => ⟨a, ns, rfl, hS, hl, fun _ => rfl⟩) fun _ _ _ _ _ z => z
end Sw
open PySem PySem.W PyProof.Rows in
set_option maxRecDepth 100000 in
set_option maxHeartbeats 0 in
theorem PySem.Challenge.cw_shoreways_k09_whole_the_walk_tells_holds : PySem.Challenge.rw_shoreways_k09_whole_the_walk_tells.Holds := by
  w_on; o_law; k_head; (case hw => w_witness2)
  k_fill
  refine Sw.walk (l := PySem.Challenge.rw_shoreways_k09_whole_the_walk_tells) rfl rfl (fun w h Y => PySem.W.kIn_of Y) ?F
  case F =>
    intro w mg fa h KX G hmg
    refine' Sw.all_mk KX G hmg ?aC_Board ?aC_BadBoard ?aC_NotFull ?a1 ?l1 ?c1 ?k1 ?a2 ?i2 ?l2 ?c2 ?k2 ?a3 ?i3 ?l3 ?c3 ?k3 ?a4 ?l4 ?c4 ?k4 ?a5 ?l5 ?c5 ?k5 ?a6 ?l6 ?c6 ?k6 ?a7 ?l7 ?c7 ?k7 ?a8 ?l8 ?c8 ?k8 ?a9 ?l9 ?c9 ?k9 ?a10 ?l10 ?c10 ?k10 ?a11 ?l11 ?c11 ?k11 ?a12 ?l12 ?c12 ?k12 ?a13 ?l13 ?c13 ?k13 ?a14 ?l14 ?c14 ?k14 ?a15 ?l15 ?c15 ?k15 ?pg_Board ?hd_Board ?po_Board ?sa_Board ?mk_Board ?kc_Board ?n_Board_rows ?n_Board_height ?n_Board_width ?x_BadBoard ?k_BadBoard ?b_BadBoard ?t_BadBoard ?i_BadBoard ?x_NotFull ?k_NotFull ?b_NotFull ?t_NotFull ?i_NotFull ?g_MOST ?z_len ?z_all ?z_list ?z_enumerate ?z_range ?z_int ?z_isinstance ?z_set
    (case aC_Board => k_is)
    (case aC_BadBoard => k_is)
    (case aC_NotFull => k_is)
    (case a1 => k_is)
    (case l1 => k_is)
    (case c1 => k_is)
    (case k1 => k_is)
    (case a2 => k_is)
    (case i2 => k_is)
    (case l2 => k_is)
    (case c2 => k_is)
    (case k2 => k_is)
    (case a3 => k_is)
    (case i3 => k_is)
    (case l3 => k_is)
    (case c3 => k_is)
    (case k3 => k_is)
    (case a4 => k_is)
    (case l4 => k_is)
    (case c4 => k_is)
    (case k4 => k_is)
    (case a5 => k_is)
    (case l5 => k_is)
    (case c5 => k_is)
    (case k5 => k_is)
    (case a6 => k_is)
    (case l6 => k_is)
    (case c6 => k_is)
    (case k6 => k_is)
    (case a7 => k_is)
    (case l7 => k_is)
    (case c7 => k_is)
    (case k7 => k_is)
    (case a8 => k_is)
    (case l8 => k_is)
    (case c8 => k_is)
    (case k8 => k_is)
    (case a9 => k_is)
    (case l9 => k_is)
    (case c9 => k_is)
    (case k9 => k_is)
    (case a10 => k_is)
    (case l10 => k_is)
    (case c10 => k_is)
    (case k10 => k_is)
    (case a11 => k_is)
    (case l11 => k_is)
    (case c11 => k_is)
    (case k11 => k_is)
    (case a12 => k_is)
    (case l12 => k_is)
    (case c12 => k_is)
    (case k12 => k_is)
    (case a13 => k_is)
    (case l13 => k_is)
    (case c13 => k_is)
    (case k13 => k_is)
    (case a14 => k_is)
    (case l14 => k_is)
    (case c14 => k_is)
    (case k14 => k_is)
    (case a15 => k_is)
    (case l15 => k_is)
    (case c15 => k_is)
    (case k15 => k_is)
    (case pg_Board => k_is)
    (case hd_Board => k_is)
    (case po_Board => k_is)
    (case sa_Board => k_is)
    (case mk_Board => k_is)
    (case kc_Board => k_is)
    (case n_Board_rows => k_is)
    (case n_Board_height => k_is)
    (case n_Board_width => k_is)
    (case x_BadBoard => k_exc)
    (case k_BadBoard => k_is)
    (case b_BadBoard => k_is)
    (case t_BadBoard => k_is)
    (case i_BadBoard => k_is)
    (case x_NotFull => k_exc)
    (case k_NotFull => k_is)
    (case b_NotFull => k_is)
    (case t_NotFull => k_is)
    (case i_NotFull => k_is)
    (case g_MOST => k_is)
    (case z_len => k_is)
    (case z_all => k_is)
    (case z_list => k_is)
    (case z_enumerate => k_is)
    (case z_range => k_is)
    (case z_int => k_is)
    (case z_isinstance => k_is)
    (case z_set => k_is)
#print axioms PySem.Challenge.cw_shoreways_k09_whole_the_walk_tells_holds
