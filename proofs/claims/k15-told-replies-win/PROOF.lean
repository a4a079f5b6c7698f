import PyProof.Rows.All
import Wide.All
import OpenK.AllK
import Wide.FinOn
import HandS.HotCalls
import HandS.Zip
import HandS.TupSets
import PyProof.Rows.CountFlat
import HandS.ForMost
import HandS.ForExc
import HandS.IsInst
import HandS.Deep
import HandS.Conv
import HandS.Wide
import HandS.Evl
import HandS.ExcIs
import HandS.Walk
import PyProof.StrBlock2
import PyProof.ListStr
import KE.KIsAll
import KE.GoesMore
import KE.GoesEnum
import HandS.Style
import KE.KDictKeyed
import PySem.Challenge.RW_shoreways_k15_whole_told_replies_win
set_option Elab.async false
set_option linter.all false
set_option maxRecDepth 100000
set_option maxHeartbeats 4000000
/-! Never both: a north road and a west road of a board can't stand together (parity of crossings). Plain Lean. -/
namespace Sw
abbrev Cell := Int × Int
def near6 (p : Cell) : List Cell := [(p.1 - 1, p.2), (p.1 - 1, p.2 + 1), (p.1, p.2 + 1), (p.1 + 1, p.2), (p.1 + 1, p.2 - 1), (p.1, p.2 - 1)]
theorem near6_iff {p q : Cell} : q ∈ near6 p ↔ (q.1 = p.1 - 1 ∧ q.2 = p.2) ∨ (q.1 = p.1 - 1 ∧ q.2 = p.2 + 1) ∨ (q.1 = p.1 ∧ q.2 = p.2 + 1) ∨ (q.1 = p.1 + 1 ∧ q.2 = p.2) ∨ (q.1 = p.1 + 1 ∧ q.2 = p.2 - 1) ∨ (q.1 = p.1 ∧ q.2 = p.2 - 1) := by
  simp only [near6, List.mem_cons, List.not_mem_nil, or_false, Prod.ext_iff]
theorem near6_symm {p q : Cell} (h : q ∈ near6 p) : p ∈ near6 q := by
  rw [near6_iff] at h ⊢
  omega
/-- a hand's sign (false: the north hand's n; true: the west hand's w), its own coordinate, its extent -/
def lt (s : Bool) : Nat := if s then 119 else 110
def sd (s : Bool) (p : Cell) : Int := if s then p.2 else p.1
def ext (s : Bool) (h w : Nat) : Int := if s then (w : Int) else (h : Int)
inductive Reach (g : Cell → Nat) (s : Bool) : Cell → Prop
  | first {p : Cell} : g p = lt s → sd s p = 0 → Reach g s p
  | next {p q : Cell} : Reach g s p → q ∈ near6 p → g q = lt s → Reach g s q
theorem Reach.sign {g : Cell → Nat} {s : Bool} {p : Cell} (h : Reach g s p) : g p = lt s := by
  cases h with
  | first a _ => exact a
  | next _ _ a => exact a
def Joined (g : Cell → Nat) (h w : Nat) (s : Bool) : Prop := ∃ p, Reach g s p ∧ sd s p = ext s h w - 1
def Sup (g : Cell → Nat) (h w : Nat) : Prop := ∀ p, g p ≠ 0 → 0 ≤ p.1 ∧ p.1 < (h : Int) ∧ 0 ≤ p.2 ∧ p.2 < (w : Int)

/-! ### parity -/
def Chn : Cell → List Cell → Prop
  | _, [] => True
  | a, b :: l => a ∈ near6 b ∧ Chn b l
def lst : Cell → List Cell → Cell
  | a, [] => a
  | _, b :: l => lst b l
def cnt (e : Cell → Cell → Bool) : Cell → List Cell → Bool
  | _, [] => false
  | a, b :: l => xor (e a b) (cnt e b l)
def lf (x p : Cell) : Bool := decide (p.1 = x.1 ∧ p.2 < x.2)
/-- an edge between row x.1 and row x.1 + d whose end in row x.1 lies left of x -/
def ed (d : Int) (x a b : Cell) : Bool := (lf x a && decide (b.1 = x.1 + d)) || (lf x b && decide (a.1 = x.1 + d))
theorem ne_cell {a x : Cell} (h : a ≠ x) : ¬ (a.1 = x.1 ∧ a.2 = x.2) := fun e => h (Prod.ext e.1 e.2)
theorem xor_dec {p q : Prop} [Decidable p] [Decidable q] {b : Bool} (h : b = true ↔ ((p ∧ ¬ q) ∨ (¬ p ∧ q))) : b = xor (decide p) (decide q) := by
  by_cases hp : p <;> by_cases hq : q <;> cases b <;> simp_all
theorem ed_iff {d : Int} {x a b : Cell} : ed d x a b = true ↔ ((a.1 = x.1 ∧ a.2 < x.2) ∧ b.1 = x.1 + d) ∨ ((b.1 = x.1 ∧ b.2 < x.2) ∧ a.1 = x.1 + d) := by
  simp only [ed, lf, Bool.or_eq_true, Bool.and_eq_true, decide_eq_true_eq]
theorem ed_tog {x a b : Cell} (h : a ∈ near6 b) (ha : a ≠ x) (hb : b ≠ x) : xor (ed (-1) x a b) (ed 1 x a b) = xor (lf x a) (lf x b) := by
  rw [near6_iff] at h
  have ha' := ne_cell ha
  have hb' := ne_cell hb
  unfold lf
  refine xor_dec ?_
  have : (xor (ed (-1) x a b) (ed 1 x a b) = true) ↔ ((ed (-1) x a b = true ∧ ¬ ed 1 x a b = true) ∨ (¬ ed (-1) x a b = true ∧ ed 1 x a b = true)) := by
    cases ed (-1) x a b <;> cases ed 1 x a b <;> decide
  rw [this, ed_iff, ed_iff]
  rcases h with h | h | h | h | h | h <;> rw [h.1] <;> omega
theorem cnt_tog {x : Cell} : ∀ (l : List Cell) (a : Cell), Chn a l → (∀ q, q ∈ a :: l → q ≠ x) → xor (cnt (ed (-1) x) a l) (cnt (ed 1 x) a l) = xor (lf x a) (lf x (lst a l))
  | [], a, _, _ => by
    show xor false false = xor (lf x a) (lf x a)
    cases lf x a <;> rfl
  | b :: l, a, h, hx => by
    have ih := cnt_tog l b h.2 (fun q hq => hx q (List.mem_cons_of_mem _ hq))
    have e := ed_tog h.1 (hx a (List.mem_cons_self)) (hx b (List.mem_cons_of_mem _ List.mem_cons_self))
    show xor (xor (ed (-1) x a b) (cnt (ed (-1) x) b l)) (xor (ed 1 x a b) (cnt (ed 1 x) b l)) = xor (lf x a) (lf x (lst b l))
    revert e ih
    generalize ed (-1) x a b = p1
    generalize ed 1 x a b = p2
    generalize cnt (ed (-1) x) b l = p3
    generalize cnt (ed 1 x) b l = p4
    generalize lf x a = p5
    generalize lf x b = p6
    generalize lf x (lst b l) = p7
    cases p1 <;> cases p2 <;> cases p3 <;> cases p4 <;> cases p5 <;> cases p6 <;> cases p7 <;> decide
theorem cnt_congr {e e' : Cell → Cell → Bool} {P : Cell → Prop} (h : ∀ a b, a ∈ near6 b → P a → P b → e a b = e' a b) : ∀ (l : List Cell) (a : Cell), Chn a l → (∀ q, q ∈ a :: l → P q) → cnt e a l = cnt e' a l
  | [], _, _, _ => rfl
  | b :: l, a, c, hp => by
    show xor (e a b) (cnt e b l) = xor (e' a b) (cnt e' b l)
    rw [h a b c.1 (hp a List.mem_cons_self) (hp b (List.mem_cons_of_mem _ List.mem_cons_self)), cnt_congr h l b c.2 (fun q hq => hp q (List.mem_cons_of_mem _ hq))]
/-- crossing from rows ≤ r to rows > r -/
theorem cnt_rows {e : Cell → Cell → Bool} {r : Int} {P : Cell → Prop} (h : ∀ a b, a ∈ near6 b → P a → P b → e a b = xor (decide (a.1 ≤ r)) (decide (b.1 ≤ r))) : ∀ (l : List Cell) (a : Cell), Chn a l → (∀ q, q ∈ a :: l → P q) → cnt e a l = xor (decide (a.1 ≤ r)) (decide ((lst a l).1 ≤ r))
  | [], a, _, _ => by
    show false = xor (decide (a.1 ≤ r)) (decide (a.1 ≤ r))
    cases decide (a.1 ≤ r) <;> rfl
  | b :: l, a, c, hp => by
    have ih := cnt_rows h l b c.2 (fun q hq => hp q (List.mem_cons_of_mem _ hq))
    show xor (e a b) (cnt e b l) = xor (decide (a.1 ≤ r)) (decide ((lst b l).1 ≤ r))
    rw [ih, h a b c.1 (hp a List.mem_cons_self) (hp b (List.mem_cons_of_mem _ List.mem_cons_self))]
    cases decide (a.1 ≤ r) <;> cases decide (b.1 ≤ r) <;> cases decide ((lst b l).1 ≤ r) <;> rfl

theorem ed_side {x y : Cell} (h : (y.1 = x.1 ∧ y.2 = x.2 + 1) ∨ (y.1 = x.1 ∧ y.2 = x.2 - 1)) (a b : Cell) (_ : a ∈ near6 b) (ha : a ≠ x ∧ a ≠ y) (hb : b ≠ x ∧ b ≠ y) : ed 1 x a b = ed 1 y a b := by
  have a1 := ne_cell ha.1
  have a2 := ne_cell ha.2
  have b1 := ne_cell hb.1
  have b2 := ne_cell hb.2
  have e1 : lf x a = lf y a := decide_eq_decide.mpr (by omega)
  have e2 : lf x b = lf y b := decide_eq_decide.mpr (by omega)
  have e3 : y.1 = x.1 := by omega
  unfold ed
  rw [e1, e2, e3]
theorem ed_down {x y : Cell} (h : (y.1 = x.1 + 1 ∧ y.2 = x.2) ∨ (y.1 = x.1 + 1 ∧ y.2 = x.2 - 1)) (a b : Cell) (hab : a ∈ near6 b) (ha : a ≠ x ∧ a ≠ y) (hb : b ≠ x ∧ b ≠ y) : ed 1 x a b = ed (-1) y a b := by
  have a1 := ne_cell ha.1
  have a2 := ne_cell ha.2
  have b1 := ne_cell hb.1
  have b2 := ne_cell hb.2
  rw [near6_iff] at hab
  rw [Bool.eq_iff_iff, ed_iff, ed_iff]
  rcases hab with q | q | q | q | q | q <;> rcases h with k | k <;> rw [q.1, k.1] <;> omega
theorem ed_up {x y : Cell} (h : (y.1 = x.1 - 1 ∧ y.2 = x.2) ∨ (y.1 = x.1 - 1 ∧ y.2 = x.2 + 1)) (a b : Cell) (hab : a ∈ near6 b) (ha : a ≠ x ∧ a ≠ y) (hb : b ≠ x ∧ b ≠ y) : ed (-1) x a b = ed 1 y a b :=
  (ed_down (x := y) (y := x) (by omega) a b hab ⟨ha.2, ha.1⟩ ⟨hb.2, hb.1⟩).symm

theorem reach_chain {g : Cell → Nat} {p : Cell} (h : Reach g false p) : ∃ l, Chn p l ∧ (∀ q, q ∈ p :: l → g q = 110 ∨ q.1 = -1) ∧ (lst p l).1 = -1 := by
  induction h with
  | @first p a b =>
    refine ⟨[(-1, p.2)], ⟨?_, trivial⟩, ?_, rfl⟩
    · have : p.1 = 0 := b
      exact near6_iff.mpr (.inr (.inr (.inr (.inl ⟨by show p.1 = -1 + 1; omega, rfl⟩))))
    · intro q hq
      rcases List.mem_cons.mp hq with rfl | hq
      · exact .inl a
      · rcases List.mem_cons.mp hq with rfl | hq
        · exact .inr rfl
        · cases hq
  | @next p q _ hn hq ih =>
    obtain ⟨l, c, m, e⟩ := ih
    refine ⟨p :: l, ⟨hn, c⟩, ?_, e⟩
    intro z hz
    rcases List.mem_cons.mp hz with rfl | hz
    · exact .inl hq
    · exact m z hz

theorem never_both {g : Cell → Nat} {h w : Nat} (S : Sup g h w) (hn : Joined g h w false) (hw : Joined g h w true) : False := by
  obtain ⟨p, hp, pe⟩ := hn
  obtain ⟨l0, c0, m0, e0⟩ := reach_chain hp
  have pe' : p.1 = (h : Int) - 1 := pe
  -- the road, and a place below
  let top : Cell := ((h : Int), p.2)
  have cc : Chn top (p :: l0) := ⟨near6_iff.mpr (.inr (.inr (.inr (.inl ⟨by show (h : Int) = p.1 + 1; omega, rfl⟩)))), c0⟩
  have mm : ∀ q, q ∈ top :: p :: l0 → (g q = 110 ∧ 0 ≤ q.1 ∧ q.1 < (h : Int) ∧ 0 ≤ q.2 ∧ q.2 < (w : Int)) ∨ q.1 = -1 ∨ q.1 = (h : Int) := by
    intro q hq
    rcases List.mem_cons.mp hq with rfl | hq
    · exact .inr (.inr rfl)
    · rcases m0 q hq with e | e
      · exact .inl ⟨e, S q (by rw [e]; decide)⟩
      · exact .inr (.inl e)
  have el : (lst top (p :: l0)).1 = -1 := e0
  -- a west stone is on no north road
  have off : ∀ x : Cell, g x = 119 → ∀ q, q ∈ top :: p :: l0 → q ≠ x := by
    intro x hx q hq e
    have sx := S x (by rw [hx]; decide)
    subst e
    rcases mm q hq with z | z | z
    · rw [hx] at z
      exact absurd z.1 (by decide)
    · omega
    · omega
  have tog : ∀ x : Cell, g x = 119 → cnt (ed (-1) x) top (p :: l0) = cnt (ed 1 x) top (p :: l0) := by
    intro x hx
    have sx := S x (by rw [hx]; decide)
    have t := cnt_tog (p :: l0) top cc (off x hx)
    have f1 : lf x top = false := decide_eq_false (by simp only [top]; omega)
    have f2 : lf x (lst top (p :: l0)) = false := decide_eq_false (by rw [el]; omega)
    rw [f1, f2] at t
    revert t
    cases cnt (ed (-1) x) top (p :: l0) <;> cases cnt (ed 1 x) top (p :: l0) <;> decide
  -- nothing crosses left of a west stone that is reached
  have key : ∀ x, Reach g true x → cnt (ed 1 x) top (p :: l0) = false := by
    intro x hx
    induction hx with
    | @first x a b =>
      have b' : x.2 = 0 := b
      have sx := S x (by rw [a]; decide)
      have := cnt_rows (e := ed 1 x) (r := (h : Int) + 1) (P := fun q => q.1 ≤ (h : Int) ∧ ((0 ≤ q.2) ∨ q.1 = -1 ∨ q.1 = (h : Int))) (fun u v huv pu pv => by
        rw [near6_iff] at huv
        have q1 : lf x u = false := decide_eq_false (by omega)
        have q2 : lf x v = false := decide_eq_false (by omega)
        unfold ed
        rw [q1, q2]
        rw [decide_eq_true (show u.1 ≤ (h : Int) + 1 by omega), decide_eq_true (show v.1 ≤ (h : Int) + 1 by omega)]
        rfl) (p :: l0) top cc (fun q hq => by
        rcases mm q hq with z | z
        · exact ⟨by omega, .inl z.2.2.2.1⟩
        · exact ⟨by omega, .inr z⟩)
      rw [this, el]
      have k1 : top.1 ≤ (h : Int) + 1 := by simp only [top]; omega
      have k2 : (-1 : Int) ≤ (h : Int) + 1 := by omega
      rw [decide_eq_true k1, decide_eq_true k2]
      rfl
    | @next x y hx hn hy ih =>
      have gx := hx.sign
      have gx' : g x = 119 := gx
      have gy' : g y = 119 := hy
      have ox := off x gx'
      have oy := off y gy'
      have cg : ∀ (d d' : Int) (u v : Cell), (∀ a b : Cell, a ∈ near6 b → (a ≠ x ∧ a ≠ y) → (b ≠ x ∧ b ≠ y) → ed d u a b = ed d' v a b) → cnt (ed d u) top (p :: l0) = cnt (ed d' v) top (p :: l0) := fun d d' u v hh =>
        cnt_congr (P := fun q => q ≠ x ∧ q ≠ y) hh (p :: l0) top cc (fun q hq => ⟨ox q hq, oy q hq⟩)
      have hn' := hn
      rw [near6_iff] at hn'
      rcases hn' with e | e | e | e | e | e
      · rw [← cg (-1) 1 x y (ed_up (.inl e)), tog x gx', ih]
      · rw [← cg (-1) 1 x y (ed_up (.inr e)), tog x gx', ih]
      · rw [← cg 1 1 x y (ed_side (.inl e)), ih]
      · rw [← tog y gy', ← cg 1 (-1) x y (ed_down (.inl e)), ih]
      · rw [← tog y gy', ← cg 1 (-1) x y (ed_down (.inr e)), ih]
      · rw [← cg 1 1 x y (ed_side (.inr e)), ih]
  obtain ⟨x, hx, xe⟩ := hw
  have xe' : x.2 = (w : Int) - 1 := xe
  have gx' : g x = 119 := hx.sign
  have sx := S x (by rw [gx']; decide)
  have k0 := key x hx
  have := cnt_rows (e := ed 1 x) (r := x.1) (P := fun q => q ≠ x ∧ ((q.2 < (w : Int)) ∨ q.1 = -1 ∨ q.1 = (h : Int))) (fun u v huv pu pv => by
    rw [near6_iff] at huv
    have hu' := ne_cell pu.1
    have hv' := ne_cell pv.1
    have pu2 := pu.2
    have pv2 := pv.2
    refine xor_dec ?_
    rw [ed_iff]
    rcases huv with q | q | q | q | q | q <;> omega) (p :: l0) top cc (fun q hq => by
    refine ⟨off x gx' q hq, ?_⟩
    rcases mm q hq with z | z
    · exact .inl z.2.2.2.2
    · exact .inr z)
  rw [this, el] at k0
  have k1 : ¬ top.1 ≤ x.1 := by simp only [top]; omega
  have k2 : (-1 : Int) ≤ x.1 := by omega
  rw [decide_eq_false k1, decide_eq_true k2] at k0
  cases k0
end Sw
/-! Helpers over the hand layer. -/
namespace Sw
open PySem PySem.Spec PyProof.Rows L2

/-! ### heaps -/
theorem same_new {H : Hp} {p : Addr} (h : H p = none) (o : HO) : Same H (upd H p o) := fun b u q => by rw [upd_ne (ne_of_none q h)]; exact q
theorem same_mut {H H' : Hp} {p : Addr} {o : HO} (e : Same H H') (h : H p = none) : Same H (upd H' p o) := fun a u ha => by
  rw [upd_ne (ne_of_none ha h)]
  exact e a u ha
theorem same_seqT {K : PySem.W.Frag} {H H' : Hp} {a : Addr} {xs : List V} (e : Same H H') (h : SqT K H a xs) : SqT K H' a xs := by
  rcases h with (h | ⟨o, h⟩) | h
  · exact .inl (.inl (e _ _ h))
  · exact .inl (.inr ⟨o, e _ _ h⟩)
  · exact .inr h
/-- tuples stay -/
def Tps (H H' : Hp) : Prop := ∀ a xs, H a = some (.tup xs) → H' a = some (.tup xs)
theorem Tps.refl (H : Hp) : Tps H H := fun _ _ h => h
theorem Tps.trans {H H1 H2 : Hp} (a : Tps H H1) (b : Tps H1 H2) : Tps H H2 := fun x o h => b x o (a x o h)
theorem Tps.of {H H' : Hp} (s : Same H H') : Tps H H' := fun a xs h => s a _ h
theorem Tps.lst {H : Hp} {l : Addr} {ys : List V} {o : HO} (h : H l = some (.lst ys)) : Tps H (upd H l o) := fun a xs e => by
  rw [upd_ne (ne_of e h (by intro z; cases z))]
  exact e
theorem Tps.dT {H : Hp} {l : Addr} {ys : List (List Key × V)} {o : HO} (h : H l = some (.dT ys)) : Tps H (upd H l o) := fun a xs e => by
  rw [upd_ne (ne_of e h (by intro z; cases z))]
  exact e
mutual
theorem dp_same {K : PySem.W.Frag} {H H' : Hp} (s : Same H H') : ∀ {d : PyData} {v : V}, Dp K H v d → Dp K H' v d
  | _, _, .non => .non
  | _, _, .bl b => .bl b
  | _, _, .int i => .int i
  | _, _, .str x => .str x
  | _, _, .lst h a => .lst (s.seq h) (dpa_same s a)
  | _, _, .tup h a => .tup (same_seqT s h) (dpa_same s a)
theorem dpa_same {K : PySem.W.Frag} {H H' : Hp} (s : Same H H') : ∀ {ds : List PyData} {vs : List V}, DpAll K H vs ds → DpAll K H' vs ds
  | _, _, .nil => .nil
  | _, _, .cons h t => .cons (dp_same s h) (dpa_same s t)
end
theorem dpa_app {K : PySem.W.Frag} {H : Hp} : ∀ {vs ws : List V} {ds es : List PyData}, DpAll K H vs ds → DpAll K H ws es → DpAll K H (vs ++ ws) (ds ++ es)
  | _, _, _, _, .nil, h => h
  | _, _, _, _, .cons a b, h => .cons a (dpa_app b h)
theorem dpa_len {K : PySem.W.Frag} {H : Hp} : ∀ {vs : List V} {ds : List PyData}, DpAll K H vs ds → vs.length = ds.length
  | _, _, .nil => rfl
  | _, _, .cons _ b => by rw [List.length_cons, List.length_cons, dpa_len b]
theorem hu65 {k : Nat} {A : Around} (r : Room k A) : A.units + 65 < cLine := by have := r.un; omega

/-! ### cells: tuples of two ints -/
def cellV (c : Cell) : List V := [.int c.1, .int c.2]
def cellD (c : Cell) : PyData := .tuple [.int c.1, .int c.2]
inductive Cells (H : Hp) : List V → List Cell → Prop
  | nil : Cells H [] []
  | cons {a : Addr} {c : Cell} {vs : List V} {cs : List Cell} : H a = some (.tup (cellV c)) → Cells H vs cs → Cells H (.ref a :: vs) (c :: cs)
theorem Cells.tps {H H' : Hp} (s : Tps H H') : ∀ {vs : List V} {cs : List Cell}, Cells H vs cs → Cells H' vs cs
  | _, _, .nil => .nil
  | _, _, .cons h t => .cons (s _ _ h) (Cells.tps s t)
theorem Cells.same {H H' : Hp} (s : Same H H') {vs : List V} {cs : List Cell} (h : Cells H vs cs) : Cells H' vs cs := h.tps (.of s)
theorem Cells.len {H : Hp} : ∀ {vs : List V} {cs : List Cell}, Cells H vs cs → vs.length = cs.length
  | _, _, .nil => rfl
  | _, _, .cons _ t => by rw [List.length_cons, List.length_cons, Cells.len t]
theorem Cells.get {H : Hp} : ∀ {vs : List V} {cs : List Cell} {i : Nat} {x : V}, Cells H vs cs → vs[i]? = some x → ∃ a c, x = .ref a ∧ cs[i]? = some c ∧ H a = some (.tup (cellV c))
  | _, _, _, _, .nil, e => by simp at e
  | _, _, 0, _, .cons h _, e => by
    simp at e
    subst e
    exact ⟨_, _, rfl, rfl, h⟩
  | _, _, i + 1, _, .cons _ t, e => Cells.get (i := i) t (by simpa using e)
theorem Cells.at {H : Hp} : ∀ {vs : List V} {cs : List Cell} {i : Nat} {c : Cell}, Cells H vs cs → cs[i]? = some c → ∃ a, vs[i]? = some (.ref a) ∧ H a = some (.tup (cellV c))
  | _, _, _, _, .nil, e => by simp at e
  | _, _, 0, _, .cons h _, e => by
    simp at e
    subst e
    exact ⟨_, rfl, h⟩
  | _, _, i + 1, _, .cons _ t, e => Cells.at (i := i) t (by simpa using e)
theorem Cells.app {H : Hp} : ∀ {vs ws : List V} {cs ds : List Cell}, Cells H vs cs → Cells H ws ds → Cells H (vs ++ ws) (cs ++ ds)
  | _, _, _, _, .nil, h => h
  | _, _, _, _, .cons a b, h => .cons a (Cells.app b h)
theorem Cells.one {H : Hp} {a : Addr} {c : Cell} (h : H a = some (.tup (cellV c))) : Cells H [.ref a] [c] := .cons h .nil
theorem cell_dp {K : PySem.W.Frag} {H : Hp} {a : Addr} {c : Cell} (h : H a = some (.tup (cellV c))) : Dp K H (.ref a) (cellD c) := .tup (.inl (.inl h)) (.cons (.int _) (.cons (.int _) .nil))
theorem Cells.dp {K : PySem.W.Frag} {H : Hp} : ∀ {vs : List V} {cs : List Cell}, Cells H vs cs → DpAll K H vs (cs.map cellD)
  | _, _, .nil => .nil
  | _, _, .cons h t => .cons (cell_dp h) (Cells.dp t)
theorem can_cells : ∀ cs : List Cell, PyData.canLayAll0 (cs.map cellD) = true
  | [] => rfl
  | c :: cs => by
    rw [List.map_cons, PyData.canLayAll0, can_cells cs]
    rfl
theorem dep_cells : ∀ cs : List Cell, PyData.depthAll (cs.map cellD) ≤ 1
  | [] => by decide
  | c :: cs => by
    have h := dep_cells cs
    rw [List.map_cons, PyData.depthAll]
    have e : (cellD c).depth = 1 := rfl
    rw [e]
    omega
theorem shaped_cells (cs : List Cell) : SeqAt.shaped (.list (cs.map cellD)) = true := by
  unfold SeqAt.shaped
  have h := dep_cells cs
  rw [show (PyData.list (cs.map cellD)).canLay0 = PyData.canLayAll0 (cs.map cellD) from rfl, can_cells]
  have : (PyData.list (cs.map cellD)).depth ≤ 64 := by
    rw [PyData.depth]
    omega
  rw [decide_eq_true this]
  rfl
theorem shaped_cell (c : Cell) : SeqAt.shaped (cellD c) = true := rfl
theorem eqv_cells (cs : List Cell) : PyData.eqv (.list (cs.map cellD)) (.list (cs.map cellD)) = true := SeqAt.eqv_refl _ (can_cells cs)
theorem eqv_cell (c d : Cell) : PyData.eqv (cellD c) (cellD d) = decide (c = d) := by
  show (c.1 == d.1 && (c.2 == d.2 && true)) = decide (c = d)
  rw [Bool.eq_iff_iff]
  simp [Prod.ext_iff]
theorem any_cells (c : Cell) (cs : List Cell) : ((cs.map cellD).any fun z => PyData.eqv z (cellD c)) = decide (c ∈ cs) := by
  rw [Bool.eq_iff_iff, List.any_eq_true, decide_eq_true_eq]
  constructor
  · rintro ⟨x, hx, e⟩
    obtain ⟨d, hd, rfl⟩ := List.mem_map.mp hx
    rw [eqv_cell, decide_eq_true_eq] at e
    exact e ▸ hd
  · intro h
    exact ⟨cellD c, List.mem_map.mpr ⟨c, h, rfl⟩, by rw [eqv_cell, decide_eq_true rfl]⟩
/-- items of a mapped list -/
theorem map_get {α β : Type} {f : α → β} {l : List α} {i : Nat} {y : β} (h : (l.map f)[i]? = some y) : ∃ x, l[i]? = some x ∧ f x = y := by
  rw [List.getElem?_map] at h
  cases e : l[i]? with
  | none => rw [e] at h; cases h
  | some z => rw [e] at h; exact ⟨z, rfl, Option.some.inj h⟩
theorem get_lt {α : Type} {l : List α} {i : Nat} {y : α} (h : l[i]? = some y) : i < l.length := (List.getElem?_eq_some_iff.mp h).1
theorem atI_cps {α : Type} {l : List α} {k : Int} {v : α} (h0 : 0 ≤ k) (h : l[k.toNat]? = some v) : atI l k = some v := by
  have e : k = ((k.toNat : Nat) : Int) := by omega
  rw [e]
  exact atI_nat h
theorem at_int {l : List V} {k : Int} {v : V} (h0 : 0 ≤ k) (h : l[k.toNat]? = some v) : atI l k = some v := at_of (j := k.toNat) (by omega) h
theorem near6_get (r c : Int) (i : Nat) (p : Cell) (h : (near6 (r, c))[i]? = some p) : (r, c) ∈ near6 p := near6_symm (List.mem_of_getElem? h)
theorem sz0 : ([] : List V).length ≤ sizeLine := by show 0 ≤ sizeLine; decide
theorem sz1 {a : V} : [a].length ≤ sizeLine := by show 1 ≤ sizeLine; decide
theorem sz2 {a b : V} : [a, b].length ≤ sizeLine := by show 2 ≤ sizeLine; decide
theorem sz3 {a b c : V} : [a, b, c].length ≤ sizeLine := by show 3 ≤ sizeLine; decide
theorem sz4 {a b c d : V} : [a, b, c, d].length ≤ sizeLine := by show 4 ≤ sizeLine; decide
theorem sz5 {a b c d e : V} : [a, b, c, d, e].length ≤ sizeLine := by show 5 ≤ sizeLine; decide
theorem sz6 {a b c d e f : V} : [a, b, c, d, e, f].length ≤ sizeLine := by show 6 ≤ sizeLine; decide
theorem sz_le {n : Nat} (h : n ≤ 1000000) : n ≤ sizeLine := Nat.le_trans h (by decide)
theorem sz_lt {n : Nat} (h : n < 1000000) : n < sizeLine := Nat.lt_of_lt_of_le h (by decide)
theorem iteB {b : Bool} {A B : Prop} (h1 : b = true → A) (h2 : b = false → B) : if b = true then A else B := by
  cases b with
  | true => exact iteT (h1 rfl)
  | false => exact iteF (h2 rfl)
theorem iteD {p : Prop} [Decidable p] {A B : Prop} (h1 : p → A) (h2 : ¬ p → B) : if decide p = true then A else B :=
  iteB (fun h => h1 (of_decide_eq_true h)) (fun h => h2 (of_decide_eq_false h))
theorem iteN {p : Prop} [Decidable p] {A B : Prop} (h1 : ¬ p → A) (h2 : p → B) : if (!decide p) = true then A else B := by
  by_cases h : p
  · rw [decide_eq_true h]
    exact iteF (h2 h)
  · rw [decide_eq_false h]
    exact iteT (h1 h)
theorem iteNB {b : Bool} {A B : Prop} (h1 : b = false → A) (h2 : b = true → B) : if (!b) = true then A else B := by
  cases b with
  | true => exact iteF (h2 rfl)
  | false => exact iteT (h1 rfl)
theorem tn {f : L2.St → Hp → Prop} {r : VK} {b c : L2.St → Hp → Prop} {σ : L2.St} {H : Hp} (h : f σ H) : tNext ⟨f, r, b, c⟩ σ H := h
theorem gn {i : Nat} {v : V} {f : L2.St → Hp → Prop} {r : VK} {b c : L2.St → Hp → Prop} {σ : L2.St} {H : Hp} (h : f (σ.set i (some v)) H) : gName i v σ H (Ends.nx ⟨f, r, b, c⟩) := h
/-! ### cuts: what an expression is worth, said once -/
theorem qa {i : Nat} {te : TE} {tz : TS} {D : Ends} {σ : L2.St} {H : Hp} (Pr : V → Hp → Prop) (h : ∀ Q : VK, (∀ v H1, Pr v H1 → Q v H1) → te σ H Q) (k : ∀ v H1, Pr v H1 → tz D (σ.set i (some v)) H1) : tSeq (tAsg te (gName i)) tz D σ H := h _ k
theorem qe {te : TE} {σ : L2.St} {H : Hp} {Q : VK} (Pr : V → Hp → Prop) (h : ∀ Q : VK, (∀ v H1, Pr v H1 → Q v H1) → te σ H Q) (k : ∀ v H1, Pr v H1 → Q v H1) : te σ H Q := h _ k
/-- a new list of the cells cs stands at v -/
def NewCells (H : Hp) (cs : List Cell) (v : V) (H' : Hp) : Prop := ∃ (p : Addr) (ws : List V), v = .ref p ∧ H p = none ∧ Same H H' ∧ H' p = some (.lst ws) ∧ Cells H' ws cs
theorem new_six {H : Hp} {r c : Int} {t1 t2 t3 t4 t5 t6 p : Addr} {H1 H2 H3 H4 H5 H6 : Hp} (e1 : H1 = upd H t1 (.tup (cellV (r - 1, c)))) (e2 : H2 = upd H1 t2 (.tup (cellV (r - 1, c + 1)))) (e3 : H3 = upd H2 t3 (.tup (cellV (r, c + 1)))) (e4 : H4 = upd H3 t4 (.tup (cellV (r + 1, c))))
    (e5 : H5 = upd H4 t5 (.tup (cellV (r + 1, c - 1)))) (e6 : H6 = upd H5 t6 (.tup (cellV (r, c - 1)))) (h1 : H t1 = none) (h2 : H1 t2 = none) (h3 : H2 t3 = none) (h4 : H3 t4 = none) (h5 : H4 t5 = none) (h6 : H5 t6 = none) (hp : H6 p = none) :
    NewCells H (near6 (r, c)) (.ref p) (upd H6 p (.lst [.ref t1, .ref t2, .ref t3, .ref t4, .ref t5, .ref t6])) := by
  subst e1 e2 e3 e4 e5 e6
  have s1 := same_new h1 (.tup (cellV (r - 1, c)))
  have s2 := same_new h2 (.tup (cellV (r - 1, c + 1)))
  have s3 := same_new h3 (.tup (cellV (r, c + 1)))
  have s4 := same_new h4 (.tup (cellV (r + 1, c)))
  have s5 := same_new h5 (.tup (cellV (r + 1, c - 1)))
  have s6 := same_new h6 (.tup (cellV (r, c - 1)))
  have s7 := same_new hp (.lst [.ref t1, .ref t2, .ref t3, .ref t4, .ref t5, .ref t6])
  refine ⟨p, _, rfl, (s1.trans (s2.trans (s3.trans (s4.trans (s5.trans s6))))).free hp, s1.trans (s2.trans (s3.trans (s4.trans (s5.trans (s6.trans s7))))), upd_same, ?_⟩
  exact .cons (s7 _ _ (s6 _ _ (s5 _ _ (s4 _ _ (s3 _ _ (s2 _ _ upd_same)))))) (.cons (s7 _ _ (s6 _ _ (s5 _ _ (s4 _ _ (s3 _ _ upd_same))))) (.cons (s7 _ _ (s6 _ _ (s5 _ _ (s4 _ _ upd_same)))) (.cons (s7 _ _ (s6 _ _ (s5 _ _ upd_same))) (.cons (s7 _ _ (s6 _ _ upd_same)) (.cons (s7 _ _ upd_same) .nil)))))
end Sw
/-! Further rules over the hand layer: a text times a number, an own object made within a try, isinstance of what a suite holds, .. -/
namespace Sw
open PySem PySem.Spec PyProof.Rows L2
section
variable {X : Cx}
/-- text * number, both small -/
def rMulS : R2 := fun x y Hh Q => ∃ (z : Str) (k : Int), x = .str z ∧ y = .int k ∧ z.length ≤ 1000 ∧ -1000 ≤ k ∧ k ≤ 1000 ∧ Q (.str (Txt.mul z k)) Hh
theorem op_mul_str : OpR X (binaryOp .Mult) rMulS := by
  intro pins s σ Hh x y v u Q I rx ry hh
  obtain ⟨z, k, rfl, rfl, hz, h1, h2, q⟩ := hh
  obtain ⟨t, rfl⟩ := rx
  obtain ⟨t', rfl⟩ := ry
  refine SB.mul ⟨?_, fun a _ => ?_, fun a _ => ?_⟩ (fun t2 tk => ⟨.str (Txt.mul z k), Hh, I.tok _, ⟨_, rfl⟩, q⟩)
  · rw [decide_eq_false (show ¬ k < -(2 ^ 63 : Int) by omega), decide_eq_false (show ¬ k ≥ 2 ^ 63 by omega)]
    rfl
  · have : (1000 : Int) ≤ (2 ^ 63 - 1) / k := by
      rw [Int.le_ediv_iff_mul_le (by omega)]
      omega
    omega
  · have e : z.length * k.toNat ≤ 1000 * 1000 := Nat.mul_le_mul hz (by omega)
    show decide (z.length * k.toNat > sizeLine) = false
    refine decide_eq_false ?_
    have : (1000 * 1000 : Nat) ≤ sizeLine := by decide
    omega
/-- list(text) -/
def rListStr : List V → Hp → VK → Prop := fun xs Hh Q => ∃ z : Str, xs = [.str z] ∧ z.length ≤ 1000 ∧ ∀ l, Hh l = none → Q (.ref l) (upd Hh l (.lst (z.cps.toList.map fun c => V.str ⟨#[c]⟩)))
end

/-! ### C(e, ..) of an own class within a try: what __init__ raises is wished for at the slots as they stand -/
section
variable {X : Cx} {CX : CXT} {k : Nat} {f C : Addr} {fd : FuncData} {ps : List Str} {sp : Sp} {E : L2.St → XK} {x : Str} {p pos : Pos} {e : Expr} {es : List Expr} {t : TA}
theorem run_makeS {pins : List (Addr × Obj)} {σ : L2.St} {H : Hp} {s : Shared} {Q : VK} {us : List Value} {vs : List V}
    (M : Mk X.K C f) (F : FnOk X.prog X.w X.K X.mg X.base CX k f fd ps sp) (hr : Room (k + 1) X.A)
    (hb : Binds X.K fd ps []) (hx : PassesAt CX X σ (E σ)) (I : Inv X pins σ H s) (r : Vals vs us)
    (h : ∀ o d, H o = none → H d = none → d ≠ o → sp (.ref o :: vs) (upd (upd H d (.own o)) o (.ins C d [])) (fun v H2 => v = .non ∧ Q (.ref o) H2) (E σ)) :
    wpAny (model X.prog X.w) X.A (call (.ref C) us) (EP X pins σ Q) X.xe s := by
  have hq := h (s.heap.objs.size + 1) s.heap.objs.size (I.hok.fresh (Nat.le_succ _)) (I.hok.fresh (Nat.le_refl _)) (Nat.ne_of_lt (Nat.lt_succ_self _))
  have J := Inv.made (C := C) I
  have rr : Vals (V.ref (s.heap.objs.size + 1) :: vs) (Value.ref (s.heap.objs.size + 1) :: us) := .cons rfl r
  have hl : (Value.ref (s.heap.objs.size + 1) :: us).length = ps.length := by
    have e := rr.length
    rw [F.len _ _ _ _ hq] at e
    exact e.symm
  have bb := hb _ (Value.ref (s.heap.objs.size + 1) :: us) J.kIn (by rw [List.append_nil]; exact hl)
  rw [List.append_nil] at bb
  refine wpAny_call (make_map (f := f) I.kIn M.makes M.init (beq_iff_eq.mp M.fn) (codeAny_mono (F.run _ X.stack _ _ ⟨Value.ref (s.heap.objs.size + 1) :: us, []⟩ (Value.ref (s.heap.objs.size + 1) :: us) _ _ (E σ)
    (hr.make C us []) (J.env0.make C us []) bb rr hq) fun res s' g => ?_))
  cases res with
  | error e => exact hx pins _ _ e s' J g
  | ok fl =>
    cases fl with
    | ret u =>
      obtain ⟨v, H', J3, rv, ev, q3⟩ := J.after g
      subst ev
      exact ⟨rv, ⟨V.ref (s.heap.objs.size + 1), H', J3, rfl, q3⟩⟩
    | next => exact g.elim
    | brk => exact g.elim
    | cont => exact g.elim
def tMakeS (C : Addr) (sp : Sp) (E : L2.St → XK) (t : TA) : TE := fun σ H Q => t σ H fun vs H1 => ∀ o d, H1 o = none → H1 d = none → d ≠ o →
  sp (.ref o :: vs) (upd (upd H1 d (.own o)) o (.ins C d [])) (fun v H2 => v = .non ∧ Q (.ref o) H2) (E σ)
theorem pe_makeS (M : Mk X.K C f) (F : FnOk X.prog X.w X.K X.mg X.base CX k f fd ps sp) (hr : Room (k + 1) X.A) (hg : Gl X x) (hm : X.mg x = some (.ref C)) (hb : Binds X.K fd ps []) (hx : ∀ σ, PassesAt CX X σ (E σ))
    (ha : PA X (e :: es) t) (hdb : (x == ("__debug__" : Str)) = false := by decide) (hst : starEach (e :: es) X.env = (false, eval e X.env) :: starEach es X.env := by rfl) (hpl : (backTo pos (starEach es X.env)).any (·.1) = false := by rfl) :
    PE X (.Call (.Name x p) (e :: es) [] pos) (tMakeS C sp E t) := by
  refine ⟨fun pins s σ H Q I h => wpAny_Call_Name_kw (ld_glob I hg hm ?_ hdb)⟩
  refine PySem.W.callWith_K (h₀ := X.base) I.ok.mod.kin M.kp (thn (ha.run pos pins s σ H _ I h) fun us s1 ⟨vs, H1, I1, r, q⟩ => ⟨I1.kIn, run_makeS M F hr hb (hx σ) I1 r q⟩) hst hpl
end

/-! ### does an except clause of the class C take an error of the class cls -/
theorem exm_of {K : PySem.W.Frag} {C : Addr} {cls : Value} {b : Bool} (h1 : PySem.W.subIn K (.ref C) (.type "BaseException") = some true) (h2 : PySem.W.isClsIn K C = true)
    (h3 : PySem.W.typeIn K (.ref C) = some (.type "type")) (h4 : PySem.W.subIn K cls (.ref C) = some b) : PySem.W.exmOne K cls (.ref C) = some b := by
  have e2 : (PySem.W.clsIn K C).isSome = true := h2
  unfold PySem.W.exmOne PySem.W.kitCls
  simp only [h1, e2, h3, h4]
  rfl
/-! ### isinstance of an own error, by the classes' facts -/
theorem kit_ownT {K : PySem.W.Frag} {t : Value} {C : Addr} (h2 : PySem.W.isClsIn K C = true) (h3 : PySem.W.typeIn K (.ref C) = some (.type "type")) (h4 : PySem.W.subIn K t (.ref C) = some true) : PySem.W.kitOne K t (.ref C) = some true := by
  have e2 : (PySem.W.clsIn K C).isSome = true := h2
  unfold PySem.W.kitOne PySem.W.kitCls
  simp [e2, h3, h4]
theorem kit_ownF {K : PySem.W.Frag} {a C : Addr} (h2 : PySem.W.isClsIn K C = true) (h3 : PySem.W.typeIn K (.ref C) = some (.type "type")) (h4 : PySem.W.subIn K (.ref a) (.ref C) = some false) (h5 : PySem.W.subIn K (.ref C) (.ref C) = some true) :
    PySem.W.kitOne K (.ref a) (.ref C) = some false := by
  have e2 : (PySem.W.clsIn K C).isSome = true := h2
  have ne : a ≠ C := by
    intro z
    rw [z, h5] at h4
    cases h4
  have ne' : (Value.ref a == Value.ref C) = false := by
    rw [beq_eq_false_iff_ne]
    intro z
    exact ne (Value.ref.inj z)
  unfold PySem.W.kitOne PySem.W.kitCls
  simp [e2, h3, h4, ne']
theorem kit_self {K : PySem.W.Frag} {v : Value} : PySem.W.kitOne K v v = some true := by
  unfold PySem.W.kitOne
  rw [if_pos (beq_self_eq_true v)]
theorem kit_typ {K : PySem.W.Frag} {a : Addr} {T : String} {b : Bool} (h1 : PySem.W.kitMeta T = true) (h4 : PySem.W.subIn K (.ref a) (.type T) = some b) : PySem.W.kitOne K (.ref a) (.type T) = some b := by
  unfold PySem.W.kitOne PySem.W.kitCls
  have ne' : (Value.ref a == Value.type T) = false := by
    rw [beq_eq_false_iff_ne]
    intro z
    cases z
  simp [h1, h4, ne']
/-! ### isinstance of what an except suite holds -/
section
variable {X : Cx}
def rIsX (K : PySem.W.Frag) (a : Addr) (cls : Value) (d : Option Addr) : List V → Hp → VK → Prop := fun xs H Q => ∃ D : Addr, cls = .ref D ∧ d = none ∧ ExcC K D ∧ rIsE K D a xs H Q
theorem call_isX {a : Addr} {oe : Obj} {cls : Value} {d : Option Addr} {pn : List (Addr × Obj)} (hz : Zc cls d oe) (hf : ∃ vs, oe.data = .fields vs) :
    CallR (X.suite a ((a, oe) :: pn)) (.builtin "isinstance") (rIsX X.K a cls d) := by
  intro pins s σ H xs us Q I r h
  obtain ⟨D, rfl, rfl, C, h⟩ := h
  exact call_isE C hz hf pins s σ H xs us Q I r h
theorem call_isXK {K : PySem.W.Frag} {a : Addr} {oe : Obj} {cls : Value} {d : Option Addr} {pn : List (Addr × Obj)} (hK : X.K = K) (hz : Zc cls d oe) (hf : ∃ vs, oe.data = .fields vs) :
    CallR (X.suite a ((a, oe) :: pn)) (.builtin "isinstance") (rIsX K a cls d) := by
  subst hK
  exact call_isX hz hf
theorem pe_fldK {K : PySem.W.Frag} {e : Expr} {ta : TE} {f : Str} {pos : Pos} (hK : X.K = K) (he : PE X e ta) (hb : attributeBase e f X.env (eval e X.env) = eval e X.env) : PE X (.Attribute e f pos) (tFld K ta f) := by
  subst hK
  exact pe_fld he hb
theorem ix_listK {K : PySem.W.Frag} (hK : X.K = K) : IxR X (rIxL K) := by
  subst hK
  exact ix_list
theorem ix_tupK {K : PySem.W.Frag} (hK : X.K = K) : IxR X (rIxT K) := by
  subst hK
  exact ix_tup
theorem op_neDK {K : PySem.W.Frag} (hK : X.K = K) (hu : X.A.units + 64 < cLine) : OpR X (compareOp .NotEq) (rNeD K) := by
  subst hK
  exact op_neD hu
theorem op_inDK {K : PySem.W.Frag} (hK : X.K = K) (hu : X.A.units + 65 < cLine) : OpR X (compareOp .In) (rInD K) := by
  subst hK
  exact op_inD hu
theorem op_notInDK {K : PySem.W.Frag} (hK : X.K = K) (hu : X.A.units + 65 < cLine) : OpR X (compareOp .NotIn) (rNotInD K) := by
  subst hK
  exact op_notInD hu
theorem op_eqDK {K : PySem.W.Frag} (hK : X.K = K) (hu : X.A.units + 64 < cLine) : OpR X (compareOp .Eq) (rEqD K) := by
  subst hK
  exact op_eqD hu
end
end Sw
/-! Boards as lists of lists of signs' codes, and how they stand in the heap. -/
namespace Sw
open PySem PySem.Spec PyProof.Rows L2
/-! ### texts -/
def txt (l : List Nat) : Str := ⟨l.toArray⟩
theorem txt_cps (l : List Nat) : (txt l).cps.toList = l := rfl
theorem txt_len (l : List Nat) : (txt l).length = l.length := by
  show l.toArray.size = l.length
  rw [List.size_toArray]
theorem txt_app (a b : List Nat) : txt a ++ txt b = txt (a ++ b) := ext_toList (by
  show (a.toArray ++ b.toArray).toList = (a ++ b)
  rw [Array.toList_append])
theorem txt_inj {a b : List Nat} (h : txt a = txt b) : a = b := by
  have := congrArg (fun z : Str => z.cps.toList) h
  exact this
theorem s_n : (Str.ofString "n") = txt [110] := by decide +kernel
theorem s_w : (Str.ofString "w") = txt [119] := by decide +kernel
theorem s_dot : (Str.ofString ".") = txt [46] := by decide +kernel
theorem s_nw : (Str.ofString "nw") = txt [110, 119] := by decide +kernel
theorem s_wn : (Str.ofString "wn") = txt [119, 110] := by decide +kernel
theorem s_nwd : (Str.ofString "nw.") = txt [110, 119, 46] := by decide +kernel
theorem s_nil : (Str.ofString "") = txt [] := by decide +kernel
theorem mul_txt (c : Nat) (k : Int) : Txt.mul (txt [c]) k = txt (List.replicate k.toNat c) := by
  unfold Txt.mul
  by_cases h1 : k < 1
  · rw [if_pos h1]
    have : k.toNat = 0 := by omega
    rw [this]
    rfl
  · rw [if_neg h1]
    by_cases h2 : k = 1
    · subst h2
      rfl
    · have e : (k == 1 || (txt [c]).length == 0) = false := by
        rw [txt_len]
        simp [h2]
      rw [e, if_neg Bool.false_ne_true]
      refine ext_toList ?_
      show (List.foldl (fun a b => a ++ b) #[] (List.replicate k.toNat #[c])).toList = List.replicate k.toNat c
      have gen : ∀ (m : Nat) (acc : Array Nat), (List.foldl (fun a b => a ++ b) acc (List.replicate m #[c])).toList = acc.toList ++ List.replicate m c := by
        intro m
        induction m with
        | zero => intro acc; simp
        | succ m ih =>
          intro acc
          rw [List.replicate_succ, List.foldl_cons, ih, Array.toList_append, List.replicate_succ, List.append_assoc]
          rfl
      rw [gen]
      rfl
theorem cutS_to {l : List Nat} {k : Int} (h0 : 0 ≤ k) (h : k ≤ l.length) : cutS (txt l) none (some k) = txt (l.take k.toNat) := by
  refine ext_toList ?_
  show ((l.drop 0).take ((if k < 0 then (k + ((txt l).length : Int)).toNat else min k.toNat (txt l).length) - 0)) = l.take k.toNat
  rw [if_neg (by omega), txt_len, List.drop_zero, Nat.sub_zero, Nat.min_eq_left (by omega)]
theorem cutS_from {l : List Nat} {k : Int} (h0 : 0 ≤ k) (h : k ≤ l.length) : cutS (txt l) (some k) none = txt (l.drop k.toNat) := by
  refine ext_toList ?_
  show ((l.drop (if k < 0 then (k + ((txt l).length : Int)).toNat else min k.toNat (txt l).length)).take ((txt l).length - (if k < 0 then (k + ((txt l).length : Int)).toNat else min k.toNat (txt l).length))) = l.drop k.toNat
  rw [if_neg (by omega), txt_len, Nat.min_eq_left (by omega)]
  rw [List.take_of_length_le (by rw [List.length_drop]; omega)]
theorem cutV_to {l : List V} {k : Int} (h0 : 0 ≤ k) (h : k ≤ l.length) : cutV l none (some k) = l.take k.toNat := by
  show ((l.drop 0).take ((if k < 0 then (k + (l.length : Int)).toNat else min k.toNat l.length) - 0)) = l.take k.toNat
  rw [if_neg (by omega), List.drop_zero, Nat.sub_zero, Nat.min_eq_left (by omega)]
theorem cutV_from {l : List V} {k : Int} (h0 : 0 ≤ k) (h : k ≤ l.length) : cutV l (some k) none = l.drop k.toNat := by
  show ((l.drop (if k < 0 then (k + (l.length : Int)).toNat else min k.toNat l.length)).take (l.length - (if k < 0 then (k + (l.length : Int)).toNat else min k.toNat l.length))) = l.drop k.toNat
  rw [if_neg (by omega), Nat.min_eq_left (by omega), List.take_of_length_le (by rw [List.length_drop]; omega)]

/-! ### boards -/
abbrev Bd := List (List Nat)
def rowV (l : List Nat) : V := .str (txt l)
def rowsV (B : Bd) : List V := B.map rowV
theorem rowsV_len (B : Bd) : (rowsV B).length = B.length := List.length_map _
theorem rowsV_get {B : Bd} {i : Nat} {r : List Nat} (h : B[i]? = some r) : (rowsV B)[i]? = some (rowV r) := by
  unfold rowsV
  rw [List.getElem?_map, h]
  rfl
theorem rowsV_inv {B : Bd} {i : Nat} {x : V} (h : (rowsV B)[i]? = some x) : ∃ r, B[i]? = some r ∧ x = rowV r := by
  obtain ⟨r, h1, h2⟩ := map_get h
  exact ⟨r, h1, h2.symm⟩
def okc (c : Nat) : Bool := decide (c ∈ [110, 119, 46])
/-- how wide: the first row's length -/
def wid (B : Bd) : Nat := (B.headD []).length
def rowOk (w : Nat) (r : List Nat) : Bool := decide (r.length = w) && r.all okc
def Good (B : Bd) : Bool := decide (1 ≤ B.length ∧ B.length ≤ 9) && (decide (1 ≤ wid B ∧ wid B ≤ 9) && B.all (rowOk (wid B)))
structure IsB (B : Bd) (h w : Nat) : Prop where
  hh : B.length = h
  ww : ∀ r ∈ B, r.length = w
  ok : ∀ r ∈ B, ∀ c ∈ r, c = 110 ∨ c = 119 ∨ c = 46
  h1 : 1 ≤ h
  h9 : h ≤ 9
  w1 : 1 ≤ w
  w9 : w ≤ 9
theorem okc_iff (c : Nat) : okc c = true ↔ c = 110 ∨ c = 119 ∨ c = 46 := by
  unfold okc
  rw [decide_eq_true_eq]
  simp
theorem IsB.wid {B : Bd} {h w : Nat} (I : IsB B h w) : wid B = w := by
  cases B with
  | nil =>
    have := I.hh
    have := I.h1
    simp only [List.length_nil] at *
    omega
  | cons r B => exact I.ww r List.mem_cons_self
theorem IsB.good {B : Bd} {h w : Nat} (I : IsB B h w) : Good B = true := by
  unfold Good
  rw [I.wid, I.hh, decide_eq_true ⟨I.h1, I.h9⟩, decide_eq_true ⟨I.w1, I.w9⟩, Bool.true_and, Bool.true_and, List.all_eq_true]
  intro r hr
  unfold rowOk
  rw [decide_eq_true (I.ww r hr), Bool.true_and, List.all_eq_true]
  intro c hc
  exact (okc_iff c).mpr (I.ok r hr c hc)
theorem good_is {B : Bd} (h : Good B = true) : IsB B B.length (wid B) := by
  unfold Good at h
  rw [Bool.and_eq_true, Bool.and_eq_true, decide_eq_true_eq, decide_eq_true_eq, List.all_eq_true] at h
  obtain ⟨⟨a1, a2⟩, ⟨b1, b2⟩, c⟩ := h
  have c1 : ∀ r ∈ B, r.length = wid B ∧ ∀ x ∈ r, okc x = true := by
    intro r hr
    have := c r hr
    unfold rowOk at this
    rw [Bool.and_eq_true, decide_eq_true_eq, List.all_eq_true] at this
    exact this
  exact ⟨rfl, fun r hr => (c1 r hr).1, fun r hr x hx => (okc_iff x).mp ((c1 r hr).2 x hx), a1, a2, b1, b2⟩
/-- small enough for the heap's line -/
structure Small (B : Bd) : Prop where
  len : B.length ≤ 1000
  row : ∀ r ∈ B, r.length ≤ 1000
  cod : ∀ r ∈ B, ∀ c ∈ r, c < 1000
theorem IsB.small {B : Bd} {h w : Nat} (I : IsB B h w) : Small B := ⟨by have := I.hh; have := I.h9; omega, fun r hr => by have := I.ww r hr; have := I.w9; omega, fun r hr c hc => by have := I.ok r hr c hc; omega⟩
/-- a row of the board at place i -/
theorem IsB.row {B : Bd} {h w : Nat} (I : IsB B h w) {i : Nat} (hi : i < h) : ∃ r, B[i]? = some r ∧ r.length = w := by
  have : i < B.length := by rw [I.hh]; exact hi
  exact ⟨B[i], List.getElem?_eq_getElem this, I.ww _ (List.getElem_mem this)⟩

/-! ### data -/
def rowsD (B : Bd) : PyData := .list (B.map fun r => PyData.str (txt r))
theorem rows_dpa {K : PySem.W.Frag} {H : Hp} : ∀ B : Bd, DpAll K H (rowsV B) (B.map fun r => PyData.str (txt r))
  | [] => .nil
  | r :: B => .cons (.str _) (rows_dpa B)
theorem rows_dp {K : PySem.W.Frag} {H : Hp} {a : Addr} {B : Bd} (h : H a = some (.lst (rowsV B))) : Dp K H (.ref a) (rowsD B) := .lst (SqL.of h) (rows_dpa B)
theorem can_txt {r : List Nat} (h : ∀ c ∈ r, c < 1000) : (PyData.str (txt r)).canLay0 = true := by
  show (r.toArray.all fun c => decide (c < 0x110000)) = true
  rw [List.all_toArray, List.all_eq_true]
  intro c hc
  exact decide_eq_true (by have := h c hc; omega)
theorem can_rows : ∀ B : Bd, (∀ r ∈ B, ∀ c ∈ r, c < 1000) → PyData.canLayAll0 (B.map fun r => PyData.str (txt r)) = true
  | [], _ => rfl
  | r :: B, h => by
    rw [List.map_cons, PyData.canLayAll0, can_rows B (fun x hx => h x (List.mem_cons_of_mem _ hx)), can_txt (h r List.mem_cons_self)]
    rfl
theorem dep_rows : ∀ B : Bd, PyData.depthAll (B.map fun r => PyData.str (txt r)) ≤ 1
  | [] => by decide
  | r :: B => by
    have h := dep_rows B
    rw [List.map_cons, PyData.depthAll]
    have e : (PyData.str (txt r)).depth = 0 := rfl
    rw [e]
    omega
theorem shaped_rows {B : Bd} (hB : Small B) : SeqAt.shaped (rowsD B) = true := by
  unfold SeqAt.shaped rowsD
  have h := dep_rows B
  rw [show (PyData.list (B.map fun r => PyData.str (txt r))).canLay0 = PyData.canLayAll0 (B.map fun r => PyData.str (txt r)) from rfl, can_rows B hB.cod]
  have : (PyData.list (B.map fun r => PyData.str (txt r))).depth ≤ 64 := by
    rw [PyData.depth]
    omega
  rw [decide_eq_true this]
  rfl
theorem eqv_rows {B : Bd} (hB : Small B) : PyData.eqv (rowsD B) (rowsD B) = true := SeqAt.eqv_refl _ (can_rows B hB.cod)

/-! ### a Board in the heap -/
def bfl (l : Addr) (h w : Int) : List (Str × V) := [("rows", .ref l), ("height", .int h), ("width", .int w)]
theorem lk_h {k : Str} {v : V} {r : List (Str × V)} : List.lookup k ((k, v) :: r) = some v := by
  simp only [List.lookup, beq_self_eq_true k]
theorem lk_p {k g : Str} {v : V} {r : List (Str × V)} (h : (k == g) = false) : List.lookup k ((g, v) :: r) = List.lookup k r := by
  simp only [List.lookup, h]
theorem pt_p {f g : Str} {v x : V} {r : List (Str × V)} (h : ¬ g = f) : putF f v ((g, x) :: r) = (g, x) :: putF f v r := if_neg h
theorem bfl_rows (l : Addr) (h w : Int) : (bfl l h w).lookup ("rows" : Str) = some (.ref l) := lk_h
theorem bfl_height (l : Addr) (h w : Int) : (bfl l h w).lookup ("height" : Str) = some (.int h) := (lk_p (by decide +kernel)).trans lk_h
theorem bfl_width (l : Addr) (h w : Int) : (bfl l h w).lookup ("width" : Str) = some (.int w) := (lk_p (by decide +kernel)).trans ((lk_p (by decide +kernel)).trans lk_h)
theorem bfl_has (l : Addr) (h w : Int) : (bfl l h w).lookup ("has" : Str) = none := (lk_p (by decide +kernel)).trans ((lk_p (by decide +kernel)).trans ((lk_p (by decide +kernel)).trans rfl))
theorem bfl_new (l : Addr) (h w : Int) : putF "width" (.int w) (putF "height" (.int h) (putF "rows" (.ref l) [])) = bfl l h w := by
  show putF "width" (.int w) (putF "height" (.int h) [("rows", .ref l)]) = _
  rw [pt_p (by decide +kernel)]
  show putF "width" (.int w) [("rows", .ref l), ("height", .int h)] = _
  rw [pt_p (by decide +kernel), pt_p (by decide +kernel)]
  rfl
/-- a Board of the rows B stands at p, its list at l -/
structure BoardAt (C : Addr) (H : Hp) (p l : Addr) (B : Bd) : Prop where
  ob : ∃ dx, H p = some (.ins C dx (bfl l B.length (wid B)))
  ls : H l = some (.lst (rowsV B))
theorem BoardAt.same {C : Addr} {H H' : Hp} {p l : Addr} {B : Bd} (b : BoardAt C H p l B) (s : Same H H') : BoardAt C H' p l B := by
  obtain ⟨⟨dx, h1⟩, h2⟩ := b
  exact ⟨⟨dx, s _ _ h1⟩, s _ _ h2⟩
end Sw
/-! for i, c in enumerate(text): the turns, the rule. -/
namespace Sw
open PySem PySem.Spec PyProof.Rows L2
/-- the signs of x with their places, in new pairs -/
def ItEs (x : Str) : It := ⟨fun i _ => i < x.cps.size, fun i H v H' => ∃ (T : Addr) (c : Nat), v = .ref T ∧ H T = none ∧ H' = upd H T (.tup [.int (i : Nat), .str ⟨#[c]⟩]) ∧ x.cps[i]? = some c, fun i _ => i = x.cps.size⟩
theorem turn_enumS {P : Program} {w : World} {K : PySem.W.Frag} {elts : List Expr} {kk : Nat} {tpos : Pos} (x : Str) (t : Tok) (e it : Addr) :
    Turn P w K (.Tuple elts kk tpos) (ItEs x) [e, it] e (fun i h => (∃ old, IsEnum h e it ((i : Nat) : Int) old) ∧ h.IsStrIter it (strIterType x) x t i ∧ e ≠ it) where
  mem := List.mem_cons_self
  obj := fun i h st b hb => by
    obtain ⟨⟨old, he⟩, ⟨o, ho, hc, hd⟩, _⟩ := st
    rcases List.mem_cons.mp hb with z | z
    · rw [z]
      exact ⟨_, he, fun v q => nomatch q⟩
    · rw [List.mem_singleton.mp z]
      exact ⟨o, ho, fun v q => by rw [hd] at q; cases q⟩
  keep := fun i h h' st k => by
    obtain ⟨⟨old, he⟩, ⟨o, ho, r⟩, hne⟩ := st
    exact ⟨⟨old, k e List.mem_cons_self _ he⟩, ⟨o, k it (List.mem_cons_of_mem _ List.mem_cons_self) o ho, r⟩, hne⟩
  item := by
    intro X hP hw hK hc i pins s σ H E I hf st hg
    subst hP hw hK
    obtain ⟨⟨old, he⟩, hit, hne⟩ := st
    have hel : e < s.heap.objs.size := Heap.lt_size he
    have hil : it < s.heap.objs.size := by obtain ⟨_, q, _⟩ := hit; exact Heap.lt_size q
    have hef : e ∉ [it] := fun z => hne (List.mem_singleton.mp z)
    refine wpAny_pyNext_enum_itemD (fp := [it]) (Draws.text (A := X.A.in1) (prog := X.prog) (w := X.w) (I.ok.hd hc) it x t) he hit hg hne hef fun v h' tk hv ho hit' hT hsz hk => ?_
    obtain ⟨c, u, hcx, rfl⟩ := hv
    refine ⟨_, rfl, wpAny_letOwnedTupleGo_enum (s := { s with heap := h', toks := tk + 1 }) ho fun h'' he' sb => ?_⟩
    have hT2 : h''.get? s.heap.objs.size = some { cls := .type "tuple", data := .seq #[.int i tk, .str ⟨#[c]⟩ u] } := (sb.2 _ (Nat.ne_of_gt hel)).trans hT
    have new : ObjOk X.prog X.w (upd H s.heap.objs.size (.tup [.int (i : Nat), .str ⟨#[c]⟩])) h'' s.heap.objs.size (.tup [.int (i : Nat), .str ⟨#[c]⟩]) := by
      refine ⟨by show 2 ≤ sizeLine; decide, [.int i tk, .str ⟨#[c]⟩ u], .cons ⟨_, rfl⟩ (.cons ⟨_, rfl⟩ .nil), ?_⟩
      exact ⟨_, hT2, rfl, _, rfl⟩
    have same : ∀ b ob, b ∉ [e, it] → s.heap.get? b = some ob → h''.get? b = some ob := by
      intro b ob hb q
      have n1 : b ≠ e := fun z => hb (by rw [z]; exact List.mem_cons_self)
      have n2 : b ≠ it := fun z => hb (by rw [z]; exact List.mem_cons_of_mem _ List.mem_cons_self)
      exact (sb.2 b n1).trans (hk b ob n1 n2 q)
    have I1 : Inv X pins σ (upd H s.heap.objs.size (.tup [.int (i : Nat), .str ⟨#[c]⟩])) { s with heap := h'', toks := tk + 1 } := I.turnedNew (ch := [e, it]) same hf (Nat.le_refl _) new
    refine ⟨.ref s.heap.objs.size, _, I1, rfl, ⟨_, c, rfl, I.hok.fresh (Nat.le_refl _), rfl, hcx⟩, ⟨⟨.str ⟨#[c]⟩ u, ?_⟩, ?_, hne⟩, fun b hb => ?_⟩
    · have e1 : ((i + 1 : Nat) : Int) = (i : Int) + 1 := by omega
      rw [e1]
      exact he'
    · obtain ⟨o, q, r⟩ := hit'
      exact ⟨o, (sb.2 it (Ne.symm hne)).trans q, r⟩
    · have hb' : b < s.heap.objs.size := by
        rcases List.mem_cons.mp hb with z | z
        · rw [z]; exact hel
        · rw [List.mem_singleton.mp z]; exact hil
      rw [upd_ne (Nat.ne_of_lt hb')]
      exact (hf b hb).1
  done := by
    intro X hP hw hK hc i pins s σ H E I hf st hg
    subst hP hw hK
    obtain ⟨⟨old, he⟩, hit, hne⟩ := st
    obtain ⟨f0, f1, f2, f3, f4, f5⟩ := hf it (List.mem_cons_of_mem _ List.mem_cons_self)
    have hi : i = x.cps.size := hg
    subst hi
    exact wpAny_pyNext_enum_endD (fp := [it]) (Draws.text (A := X.A.in1) (prog := X.prog) (w := X.w) (I.ok.hd hc) it x t) he hit fun h' eb => ⟨rfl, I.turned (t' := s.toks) (fun b o hb q => eb b o hb q) f0 f1 f3 f4 f5⟩
  self := fun A i s Q E st h => by
    obtain ⟨⟨_, he⟩, _⟩ := st
    exact wpAny_pyIter_enum he h
def iEnumS (ta : TA) : TI := fun σ H R => ta σ H fun vs H1 => ∃ x, vs = [.str x] ∧ R (ItEs x) H1
theorem pi_enumS {X : Cx} {e : Expr} {ta : TA} {p pos tpos : Pos} {elts : List Expr} {kk : Nat} (hg : Gl X "enumerate") (hm : X.mg "enumerate" = none) (ha : PA X [e] ta)
    (hst : starEach [e] X.env = [(false, eval e X.env)] := by rfl) : PI X (.Tuple elts kk tpos) (.Call (.Name "enumerate" p) [e] [] pos) (iEnumS ta) := by
  refine ⟨fun pins s σ H R I h => ?_⟩
  refine Call_ (ld_blt I hg hm boot_enumerate (PyProof.Rows.callWith_type1 (thn (ha.run pos pins s σ H _ I h) fun us s1 ⟨vs, H1, I1, r1, q1⟩ => ?_) hst rfl))
  obtain ⟨x, ex, q⟩ := q1
  subst ex
  cases r1 with
  | cons r rr =>
    cases rr
    obtain ⟨t, rfl⟩ := r
    refine call_enumerate_str fun h' he hit hsz hk => wpAny_pyIter_enum he ?_
    have J : Inv X pins σ H1 { s1 with heap := h' } := I1.kept (t' := s1.toks) hk
    refine ⟨s1.heap.objs.size + 1, [s1.heap.objs.size + 1, s1.heap.objs.size], _, _, H1, rfl, J, turn_enumS x t (s1.heap.objs.size + 1) s1.heap.objs.size, ⟨⟨.none, he⟩, hit, Nat.succ_ne_self _⟩, fun b hb => ?_, q⟩
    have hle : s1.heap.objs.size ≤ b := by
      rcases List.mem_cons.mp hb with z | z
      · rw [z]; exact Nat.le_succ _
      · rw [List.mem_singleton.mp z]; exact Nat.le_refl _
    exact I1.fpOk hle (I1.hok.fresh hle)
theorem walk_enumS {x : Str} : Walk (ItEs x) x.cps.size (fun _ => True) (fun i H v H' => ∃ (T : Addr) (c : Nat), v = .ref T ∧ H T = none ∧ H' = upd H T (.tup [.int (i : Nat), .str ⟨#[c]⟩]) ∧ x.cps[i]? = some c) :=
  ⟨fun _ _ hi _ => hi, fun _ _ => rfl, fun _ _ _ _ _ _ y => y⟩
end Sw
/-! What lies on a cell; a stone laid; a board turned over; the empty cells. Plain lists. -/
namespace Sw
def cel (B : Bd) (p : Cell) : Nat := if 0 ≤ p.1 ∧ 0 ≤ p.2 then (((B[p.1.toNat]?).getD [])[p.2.toNat]?).getD 0 else 0
def Ins (h w : Nat) (p : Cell) : Prop := 0 ≤ p.1 ∧ p.1 < (h : Int) ∧ 0 ≤ p.2 ∧ p.2 < (w : Int)
instance (h w : Nat) (p : Cell) : Decidable (Ins h w p) := inferInstanceAs (Decidable (_ ∧ _))
theorem cel_row {B : Bd} {p : Cell} {r : List Nat} (h0 : 0 ≤ p.1) (h1 : 0 ≤ p.2) (hr : B[p.1.toNat]? = some r) : cel B p = (r[p.2.toNat]?).getD 0 := by
  unfold cel
  rw [if_pos ⟨h0, h1⟩, hr]
  rfl
/-- on the board -/
theorem IsB.at {B : Bd} {h w : Nat} (I : IsB B h w) {p : Cell} (hp : Ins h w p) : ∃ r, B[p.1.toNat]? = some r ∧ r ∈ B ∧ r.length = w ∧ r[p.2.toNat]? = some (cel B p) ∧ (cel B p = 110 ∨ cel B p = 119 ∨ cel B p = 46) := by
  obtain ⟨a, b, c, d⟩ := hp
  obtain ⟨r, er, lr⟩ := I.row (i := p.1.toNat) (by omega)
  have hl : p.2.toNat < r.length := by omega
  have mr : r ∈ B := List.mem_of_getElem? er
  have e : cel B p = r[p.2.toNat] := by
    rw [cel_row a c er, List.getElem?_eq_getElem hl]
    rfl
  refine ⟨r, er, mr, lr, ?_, ?_⟩
  · rw [e, List.getElem?_eq_getElem hl]
  · rw [e]
    exact I.ok r mr _ (List.getElem_mem hl)
/-- off the board nothing lies -/
theorem IsB.off {B : Bd} {h w : Nat} (I : IsB B h w) {p : Cell} (hp : ¬ Ins h w p) : cel B p = 0 := by
  unfold cel
  by_cases h0 : 0 ≤ p.1 ∧ 0 ≤ p.2
  · rw [if_pos h0]
    cases e : B[p.1.toNat]? with
    | none => rfl
    | some r =>
      have lr := I.ww r (List.mem_of_getElem? e)
      have h1 : p.1.toNat < B.length := (List.getElem?_eq_some_iff.mp e).1
      rw [I.hh] at h1
      show (r[p.2.toNat]?).getD 0 = 0
      rw [List.getElem?_eq_none (by
        rw [lr]
        unfold Ins at hp
        omega)]
      rfl
  · rw [if_neg h0]
theorem IsB.sup {B : Bd} {h w : Nat} (I : IsB B h w) : Sup (cel B) h w := fun p hp => by
  by_cases e : Ins h w p
  · exact ⟨e.1, e.2.1, e.2.2.1, e.2.2.2⟩
  · exact absurd (I.off e) hp
theorem IsB.ins {B : Bd} {h w : Nat} (I : IsB B h w) {p : Cell} (hp : cel B p ≠ 0) : Ins h w p := by
  by_cases e : Ins h w p
  · exact e
  · exact absurd (I.off e) hp

/-! ### a stone laid -/
def putB (B : Bd) (p : Cell) (x : Nat) : Bd := B.set p.1.toNat (((B[p.1.toNat]?).getD []).set p.2.toNat x)
theorem set_take_drop {α : Type} (l : List α) (i : Nat) (x : α) (h : i < l.length) : l.take i ++ [x] ++ l.drop (i + 1) = l.set i x := by
  rw [List.set_eq_take_append_cons_drop, if_pos h, List.append_assoc]
  rfl
theorem putB_eq {B : Bd} {p : Cell} {r : List Nat} {x : Nat} (hr : B[p.1.toNat]? = some r) : putB B p x = B.set p.1.toNat (r.set p.2.toNat x) := by
  unfold putB
  rw [hr]
  rfl
theorem putB_is {B : Bd} {h w : Nat} (I : IsB B h w) (p : Cell) {x : Nat} (hx : x = 110 ∨ x = 119 ∨ x = 46) : IsB (putB B p x) h w := by
  refine ⟨?_, fun r hr => ?_, fun r hr c hc => ?_, I.h1, I.h9, I.w1, I.w9⟩
  · unfold putB
    rw [List.length_set, I.hh]
  · rcases List.mem_or_eq_of_mem_set hr with hr | rfl
    · exact I.ww r hr
    · rw [List.length_set]
      cases e : B[p.1.toNat]? with
      | none =>
        have hl : B.length ≤ p.1.toNat := List.getElem?_eq_none_iff.mp e
        unfold putB at hr
        rw [List.set_eq_of_length_le hl, e] at hr
        have := I.ww _ hr
        rw [List.length_set] at this
        exact this
      | some r => exact I.ww r (List.mem_of_getElem? e)
  · rcases List.mem_or_eq_of_mem_set hr with hr | rfl
    · exact I.ok r hr c hc
    · rcases List.mem_or_eq_of_mem_set hc with hc | rfl
      · cases e : B[p.1.toNat]? with
        | none => rw [e] at hc; cases hc
        | some r => rw [e] at hc; exact I.ok r (List.mem_of_getElem? e) c hc
      · exact hx
theorem cel_put {B : Bd} {h w : Nat} (I : IsB B h w) {p : Cell} (hp : Ins h w p) (x : Nat) (q : Cell) : cel (putB B p x) q = if q = p then x else cel B q := by
  obtain ⟨r, er, mr, lr, el, _⟩ := I.at hp
  obtain ⟨a, b, c, d⟩ := hp
  have hl : p.1.toNat < B.length := by rw [I.hh]; omega
  rw [putB_eq er]
  unfold cel
  by_cases e0 : 0 ≤ q.1 ∧ 0 ≤ q.2
  · rw [if_pos e0, if_pos e0, List.getElem?_set]
    by_cases e1 : p.1.toNat = q.1.toNat
    · rw [if_pos e1, if_pos hl]
      show ((r.set p.2.toNat x)[q.2.toNat]?).getD 0 = _
      rw [List.getElem?_set]
      by_cases e2 : p.2.toNat = q.2.toNat
      · rw [if_pos e2, if_pos (by omega), if_pos (Prod.ext (by omega) (by omega))]
        rfl
      · rw [if_neg e2, if_neg (fun z => e2 (by rw [z])), ← e1, er]
        rfl
    · rw [if_neg e1, if_neg (fun z => e1 (by rw [z]))]
  · rw [if_neg e0, if_neg e0, if_neg (fun z => e0 (by rw [z]; exact ⟨a, c⟩))]

/-! ### turned over -/
def oth (c : Nat) : Nat := if c = 110 then 119 else if c = 119 then 110 else c
theorem oth_ok {c : Nat} (h : c = 110 ∨ c = 119 ∨ c = 46) : oth c = 110 ∨ oth c = 119 ∨ oth c = 46 := by
  rcases h with rfl | rfl | rfl <;> decide
theorem oth_oth {c : Nat} (h : c = 110 ∨ c = 119 ∨ c = 46) : oth (oth c) = c := by
  rcases h with rfl | rfl | rfl <;> decide
def tcol (B : Bd) (c : Nat) : List Nat := B.map fun r => oth (r.getD c 0)
def tov (B : Bd) (w : Nat) : Bd := (List.range w).map (tcol B)
theorem tcol_ok {B : Bd} {h w : Nat} (I : IsB B h w) {c : Nat} (hc : c < w) : ∀ x ∈ tcol B c, x = 110 ∨ x = 119 ∨ x = 46 := by
  intro x hx
  obtain ⟨r, hr, rfl⟩ := List.mem_map.mp hx
  have hl : c < r.length := by rw [I.ww r hr]; exact hc
  rw [List.getD_eq_getElem?_getD, List.getElem?_eq_getElem hl]
  exact oth_ok (I.ok r hr _ (List.getElem_mem hl))
theorem tov_is {B : Bd} {h w : Nat} (I : IsB B h w) : IsB (tov B w) w h := by
  refine ⟨by unfold tov; rw [List.length_map, List.length_range], fun r hr => ?_, fun r hr c hc => ?_, I.w1, I.w9, I.h1, I.h9⟩
  · obtain ⟨c, _, rfl⟩ := List.mem_map.mp hr
    unfold tcol
    rw [List.length_map, I.hh]
  · obtain ⟨k, hk, rfl⟩ := List.mem_map.mp hr
    exact tcol_ok I (List.mem_range.mp hk) c hc
theorem tov_get {B : Bd} {w c : Nat} (hc : c < w) : (tov B w)[c]? = some (tcol B c) := by
  unfold tov
  rw [List.getElem?_map, List.getElem?_range hc]
  rfl
theorem cel_tov {B : Bd} {h w : Nat} (I : IsB B h w) {p : Cell} (hp : Ins h w p) : cel (tov B w) (p.2, p.1) = oth (cel B p) := by
  obtain ⟨r, er, mr, lr, el, _⟩ := I.at hp
  obtain ⟨a, b, c, d⟩ := hp
  rw [cel_row (r := tcol B p.2.toNat) (p := (p.2, p.1)) c a (tov_get (by omega))]
  show ((tcol B p.2.toNat)[p.1.toNat]?).getD 0 = _
  unfold tcol
  rw [List.getElem?_map, er]
  show oth (r.getD p.2.toNat 0) = _
  rw [List.getD_eq_getElem?_getD, el]
  rfl

/-! ### the empty cells, by rows -/
def rowE (y : Nat) (r : List Nat) : List Cell := ((List.range r.length).filter fun c => decide (r.getD c 0 = 46)).map fun c : Nat => ((y : Int), (c : Int))
def rowEt (y : Nat) (r : List Nat) (j : Nat) : List Cell := ((List.range j).filter fun c => decide (r.getD c 0 = 46)).map fun c : Nat => ((y : Int), (c : Int))
theorem rowEt_yes {y : Nat} {r : List Nat} {j : Nat} (h : r.getD j 0 = 46) : rowEt y r (j + 1) = rowEt y r j ++ [((y : Int), (j : Int))] := by
  unfold rowEt
  rw [List.range_succ, List.filter_append, List.filter_cons, if_pos (decide_eq_true h), List.map_append]
  rfl
theorem rowEt_no {y : Nat} {r : List Nat} {j : Nat} (h : ¬ r.getD j 0 = 46) : rowEt y r (j + 1) = rowEt y r j := by
  unfold rowEt
  rw [List.range_succ, List.filter_append, List.filter_cons, if_neg (fun z => h (of_decide_eq_true z))]
  show ((_ ++ []).map _) = _
  rw [List.append_nil]
theorem rowEt_len (y : Nat) (r : List Nat) (j : Nat) : (rowEt y r j).length ≤ j := by
  unfold rowEt
  rw [List.length_map]
  have := List.length_filter_le (fun c => decide (r.getD c 0 = 46)) (List.range j)
  rw [List.length_range] at this
  exact this
def emptyTo (B : Bd) (n : Nat) : List Cell := (List.range n).flatMap fun y => rowE y (B.getD y [])
def emptyL (B : Bd) : List Cell := emptyTo B B.length
theorem emptyTo_succ (B : Bd) (n : Nat) : emptyTo B (n + 1) = emptyTo B n ++ rowE n (B.getD n []) := by
  unfold emptyTo
  rw [List.range_succ, List.flatMap_append]
  show _ ++ (rowE n (B.getD n []) ++ []) = _
  rw [List.append_nil]
theorem rowE_len (y : Nat) (r : List Nat) : (rowE y r).length ≤ r.length := by
  unfold rowE
  rw [List.length_map]
  have := List.length_filter_le (fun c => decide (r.getD c 0 = 46)) (List.range r.length)
  rw [List.length_range] at this
  exact this
theorem emptyTo_len {B : Bd} {h w : Nat} (I : IsB B h w) : ∀ n, n ≤ h → (emptyTo B n).length ≤ n * w
  | 0, _ => by
    show 0 ≤ _
    omega
  | n + 1, hn => by
    have ih := emptyTo_len I n (by omega)
    rw [emptyTo_succ, List.length_append]
    obtain ⟨r, er, lr⟩ := I.row (i := n) (by omega)
    have e : B.getD n [] = r := by rw [List.getD_eq_getElem?_getD, er]; rfl
    have := rowE_len n r
    rw [e, Nat.add_mul]
    omega
theorem mem_rowE {y : Nat} {r : List Nat} {p : Cell} : p ∈ rowE y r ↔ p.1 = (y : Int) ∧ 0 ≤ p.2 ∧ r[p.2.toNat]? = some 46 := by
  unfold rowE
  rw [List.mem_map]
  constructor
  · rintro ⟨c, hc, rfl⟩
    rw [List.mem_filter, List.mem_range, decide_eq_true_eq] at hc
    refine ⟨rfl, by show (0 : Int) ≤ (c : Int); omega, ?_⟩
    show r[((c : Nat) : Int).toNat]? = some 46
    rw [Int.toNat_natCast]
    have h2 := hc.2
    rw [List.getD_eq_getElem?_getD, List.getElem?_eq_getElem hc.1] at h2
    rw [List.getElem?_eq_getElem hc.1]
    exact congrArg some h2
  · rintro ⟨a, b, c⟩
    have hl : p.2.toNat < r.length := (List.getElem?_eq_some_iff.mp c).1
    refine ⟨p.2.toNat, ?_, Prod.ext (by show (y : Int) = p.1; omega) (by show ((p.2.toNat : Nat) : Int) = p.2; omega)⟩
    rw [List.mem_filter, List.mem_range, decide_eq_true_eq]
    refine ⟨hl, ?_⟩
    rw [List.getD_eq_getElem?_getD, c]
    rfl
theorem mem_emptyL {B : Bd} {p : Cell} : p ∈ emptyL B ↔ cel B p = 46 := by
  unfold emptyL emptyTo
  rw [List.mem_flatMap]
  constructor
  · rintro ⟨y, hy, hp⟩
    obtain ⟨a, b, c⟩ := mem_rowE.mp hp
    rw [List.mem_range] at hy
    have e : B[p.1.toNat]? = some (B.getD y []) := by
      rw [a, Int.toNat_natCast, List.getD_eq_getElem?_getD, List.getElem?_eq_getElem hy]
      rfl
    rw [cel_row (by omega) b e, c]
    rfl
  · intro h
    unfold cel at h
    by_cases e0 : 0 ≤ p.1 ∧ 0 ≤ p.2
    · rw [if_pos e0] at h
      cases e : B[p.1.toNat]? with
      | none => rw [e] at h; cases h
      | some r =>
        rw [e] at h
        have hl : p.1.toNat < B.length := (List.getElem?_eq_some_iff.mp e).1
        refine ⟨p.1.toNat, List.mem_range.mpr hl, mem_rowE.mpr ⟨by omega, e0.2, ?_⟩⟩
        rw [List.getD_eq_getElem?_getD, e]
        have h' : (r[p.2.toNat]?).getD 0 = 46 := h
        show r[p.2.toNat]? = some 46
        cases e2 : r[p.2.toNat]? with
        | none => rw [e2] at h'; cases h'
        | some c => rw [e2] at h'; exact congrArg some h'
    · rw [if_neg e0] at h
      cases h
end Sw
/-! Roads: what a search keeps true, when it has found one, when there is none. Plain lists. -/
namespace Sw
/-! ### counting -/
theorem nodup_lt : ∀ (n : Nat) (l : List Nat), l.Nodup → (∀ x ∈ l, x < n) → l.length ≤ n
  | 0, l, _, h => by
    cases l with
    | nil => exact Nat.le_refl _
    | cons a l => exact absurd (h a List.mem_cons_self) (Nat.not_lt_zero _)
  | n + 1, l, hn, h => by
    by_cases e : n ∈ l
    · have h1 := List.length_erase_of_mem e
      have ih := nodup_lt n (l.erase n) (hn.erase n) (fun x hx => by
        have hx' := (hn.mem_erase_iff).mp hx
        have := h x hx'.2
        have := hx'.1
        omega)
      have : 0 < l.length := List.length_pos_of_mem e
      omega
    · have := nodup_lt n l hn (fun x hx => by
        have := h x hx
        have : x ≠ n := fun z => e (z ▸ hx)
        omega)
      omega
theorem nodup_map {α β : Type} {f : α → β} : ∀ {l : List α}, l.Nodup → (∀ x ∈ l, ∀ y ∈ l, f x = f y → x = y) → (l.map f).Nodup
  | [], _, _ => List.nodup_nil
  | a :: l, h, k => by
    rw [List.map_cons, List.nodup_cons]
    rw [List.nodup_cons] at h
    refine ⟨fun hm => ?_, nodup_map h.2 (fun x hx y hy => k x (List.mem_cons_of_mem _ hx) y (List.mem_cons_of_mem _ hy))⟩
    obtain ⟨b, hb, e⟩ := List.mem_map.mp hm
    have := k b (List.mem_cons_of_mem _ hb) a List.mem_cons_self e
    exact h.1 (this ▸ hb)
theorem nodup_rect {h w : Nat} {l : List Cell} (hn : l.Nodup) (hi : ∀ c ∈ l, Ins h w c) : l.length ≤ h * w := by
  have key : ∀ c : Cell, Ins h w c → c.1.toNat * w + c.2.toNat < h * w := by
    intro c hc
    obtain ⟨a, b, d, e⟩ := hc
    have h1 : c.1.toNat + 1 ≤ h := by omega
    have h2 : (c.1.toNat + 1) * w ≤ h * w := Nat.mul_le_mul_right w h1
    rw [Nat.add_mul, Nat.one_mul] at h2
    omega
  have := nodup_lt (h * w) (l.map fun c => c.1.toNat * w + c.2.toNat) (nodup_map hn fun x hx y hy e => by
    obtain ⟨x1, x2, x3, x4⟩ := hi x hx
    obtain ⟨y1, y2, y3, y4⟩ := hi y hy
    have w0 : 0 < w := by omega
    have e1 : (x.1.toNat * w + x.2.toNat) / w = (y.1.toNat * w + y.2.toNat) / w := by rw [e]
    rw [Nat.mul_comm x.1.toNat w, Nat.mul_comm y.1.toNat w, Nat.mul_add_div w0, Nat.mul_add_div w0, Nat.div_eq_of_lt (by omega), Nat.div_eq_of_lt (by omega)] at e1
    have e2 : x.1.toNat = y.1.toNat := by omega
    rw [e2] at e
    exact Prod.ext (by omega) (by omega)) (fun x hx => by
    obtain ⟨c, hc, rfl⟩ := List.mem_map.mp hx
    exact key c (hi c hc))
  rw [List.length_map] at this
  exact this

/-! ### a way from the first shore to a cell -/
inductive Rd (g : Cell → Nat) (s : Bool) : List Cell → Cell → Prop
  | one {c : Cell} : g c = lt s → sd s c = 0 → Rd g s [c] c
  | snoc {l : List Cell} {c d : Cell} : Rd g s l c → d ∈ near6 c → g d = lt s → d ∉ l → Rd g s (l ++ [d]) d
section
variable {g : Cell → Nat} {s : Bool} {h w : Nat}
theorem Rd.reach {l : List Cell} {c : Cell} (r : Rd g s l c) : Reach g s c := by
  induction r with
  | one a b => exact .first a b
  | snoc _ n a _ ih => exact .next ih n a
theorem Rd.last {l : List Cell} {c : Cell} (r : Rd g s l c) : ∃ l', l = l' ++ [c] := by
  cases r with
  | one _ _ => exact ⟨[], rfl⟩
  | @snoc l' _ _ _ _ _ _ => exact ⟨l', rfl⟩
theorem Rd.pos {l : List Cell} {c : Cell} (r : Rd g s l c) : 0 < l.length := by
  obtain ⟨l', rfl⟩ := r.last
  rw [List.length_append]
  exact Nat.succ_pos _
theorem Rd.get_last {l : List Cell} {c : Cell} (r : Rd g s l c) : l[l.length - 1]? = some c := by
  obtain ⟨l', rfl⟩ := r.last
  rw [List.length_append, List.getElem?_append_right (by simp)]
  simp
theorem Rd.nodup {l : List Cell} {c : Cell} (r : Rd g s l c) : l.Nodup := by
  induction r with
  | one _ _ => exact List.nodup_cons.mpr ⟨by simp, List.nodup_nil⟩
  | snoc _ _ _ n ih =>
    rw [List.nodup_append]
    refine ⟨ih, List.nodup_cons.mpr ⟨by simp, List.nodup_nil⟩, ?_⟩
    intro a ha b hb
    rw [List.mem_singleton] at hb
    rw [hb]
    intro e
    exact n (e ▸ ha)
theorem Rd.signs {l : List Cell} {c : Cell} (r : Rd g s l c) : ∀ x ∈ l, g x = lt s := by
  induction r with
  | one a _ =>
    intro x hx
    rw [List.mem_singleton.mp hx]
    exact a
  | snoc _ _ a _ ih =>
    intro x hx
    rcases List.mem_append.mp hx with hx | hx
    · exact ih x hx
    · rw [List.mem_singleton.mp hx]
      exact a
theorem Rd.head {l : List Cell} {c : Cell} (r : Rd g s l c) : ∃ a, l[0]? = some a ∧ sd s a = 0 := by
  induction r with
  | one _ b => exact ⟨_, rfl, b⟩
  | snoc r _ _ _ ih =>
    obtain ⟨a, e, k⟩ := ih
    exact ⟨a, by rw [List.getElem?_append_left r.pos]; exact e, k⟩
theorem Rd.near {l : List Cell} {c : Cell} (r : Rd g s l c) : ∀ (k : Nat) (a b : Cell), l[k]? = some a → l[k + 1]? = some b → b ∈ near6 a := by
  induction r with
  | one _ _ =>
    intro k a b _ h2
    simp at h2
  | @snoc l c d r n _ _ ih =>
    intro k a b h1 h2
    by_cases hk : k + 1 < l.length
    · rw [List.getElem?_append_left hk] at h2
      rw [List.getElem?_append_left (by omega)] at h1
      exact ih k a b h1 h2
    · have hl : k + 1 = l.length := by
        have := (List.getElem?_eq_some_iff.mp h2).1
        rw [List.length_append] at this
        simp at this
        omega
      rw [List.getElem?_append_right (by omega)] at h2
      have e2 : b = d := by
        rw [hl, Nat.sub_self] at h2
        exact (Option.some.inj h2).symm
      rw [List.getElem?_append_left (by omega)] at h1
      have := r.get_last
      rw [← hl, Nat.add_sub_cancel, h1] at this
      rw [e2, Option.some.inj this]
      exact n
/-- no cell of it is near one further on than the next -/
def Thin (l : List Cell) : Prop := ∀ a b c, [a, b, c].Sublist l → c ∉ near6 a
/-- a road, without loops -/
def Road (g : Cell → Nat) (h w : Nat) (s : Bool) (l : List Cell) : Prop := ∃ c, Rd g s l c ∧ sd s c = ext s h w - 1 ∧ Thin l
theorem Road.joined {l : List Cell} (r : Road g h w s l) : Joined g h w s := by
  obtain ⟨c, a, b, _⟩ := r
  exact ⟨c, a.reach, b⟩

/-! ### the search that keeps its ways -/
structure Bfs (g : Cell → Nat) (s : Bool) (ways : List (List Cell)) (seen : List Cell) : Prop where
  len : ways.length = seen.length
  way : ∀ (i : Nat) (l : List Cell), ways[i]? = some l → ∃ c, seen[i]? = some c ∧ Rd g s l c ∧ ∀ x ∈ l, x ∈ seen
  nd : seen.Nodup
  sg : ∀ c ∈ seen, g c = lt s
  first : ∀ c, g c = lt s → sd s c = 0 → c ∈ seen
  pos : ∀ (i : Nat) (l : List Cell) (c : Cell), ways[i]? = some l → seen[i]? = some c → ∀ x ∈ l, x ≠ c → ∃ j, j < i ∧ seen[j]? = some x
  thin : ∀ (i : Nat) (l : List Cell), ways[i]? = some l → Thin l
/-- the cells seen ahead of place n are done: not at the end, all round them seen -/
def DoneTo (g : Cell → Nat) (h w : Nat) (s : Bool) (seen : List Cell) (n : Nat) : Prop :=
  ∀ (i : Nat) (c : Cell), i < n → seen[i]? = some c → sd s c ≠ ext s h w - 1 ∧ ∀ d ∈ near6 c, g d = lt s → d ∈ seen
theorem sub_snoc {α : Type} {s l : List α} {d : α} (h : s.Sublist (l ++ [d])) : s.Sublist l ∨ ∃ s', s = s' ++ [d] ∧ s'.Sublist l := by
  obtain ⟨s1, s2, e, h1, h2⟩ := List.sublist_append_iff.mp h
  rcases List.sublist_cons_iff.mp h2 with h3 | ⟨r, e2, h3⟩
  · rw [List.sublist_nil.mp h3, List.append_nil] at e
    rw [e]
    exact .inl h1
  · rw [List.sublist_nil.mp h3] at e2
    rw [e2] at e
    exact .inr ⟨s1, e, h1⟩
theorem thin_add {l : List Cell} {c d : Cell} (hn : l.Nodup) (hl : ∃ l', l = l' ++ [c]) (ht : Thin l) (k : ∀ x ∈ l, x ≠ c → d ∉ near6 x) : Thin (l ++ [d]) := by
  intro x y z h
  rcases sub_snoc h with h1 | ⟨s', e, h1⟩
  · exact ht x y z h1
  · have h3 : ([x, y] : List Cell) ++ [z] = s' ++ [d] := e
    have h4 := List.append_inj' h3 rfl
    have h5 : z = d := (List.cons.inj h4.2).1
    rw [← h4.1] at h1
    rw [h5]
    refine k x (h1.subset List.mem_cons_self) fun ex => ?_
    obtain ⟨l', el⟩ := hl
    rw [el, ← ex] at hn h1
    have hx : x ∉ l' := fun hm => (List.nodup_append.mp hn).2.2 x hm x List.mem_cons_self rfl
    rcases sub_snoc h1 with h6 | ⟨s2, e2, h6⟩
    · exact hx (h6.subset List.mem_cons_self)
    · have h7 : ([x] : List Cell) ++ [y] = s2 ++ [x] := e2
      have h8 := List.append_inj' h7 rfl
      rw [← h8.1] at h6
      exact hx (h6.subset List.mem_cons_self)
theorem Bfs.add {ways : List (List Cell)} {seen l : List Cell} {c d : Cell} {h w : Nat} (b : Bfs g s ways seen) {i : Nat} (dn : DoneTo g h w s seen i) (hl : ways[i]? = some l) (hc : seen[i]? = some c) (hd : d ∈ near6 c) (hg : g d = lt s) (hn : d ∉ seen) :
    Bfs g s (ways ++ [l ++ [d]]) (seen ++ [d]) := by
  obtain ⟨c', ec, r, sub⟩ := b.way i l hl
  have e : c' = c := by
    rw [hc] at ec
    exact (Option.some.inj ec).symm
  subst e
  have il : i < ways.length := (List.getElem?_eq_some_iff.mp hl).1
  refine ⟨by rw [List.length_append, List.length_append, b.len]; rfl, ?_, ?_, ?_, fun x a k => List.mem_append_left _ (b.first x a k), ?_, ?_⟩
  · intro j k hk
    by_cases hj : j < ways.length
    · rw [List.getElem?_append_left hj] at hk
      obtain ⟨x, e1, e2, e3⟩ := b.way j k hk
      refine ⟨x, ?_, e2, fun y hy => List.mem_append_left _ (e3 y hy)⟩
      rw [List.getElem?_append_left (by rw [← b.len]; exact hj)]
      exact e1
    · have hj2 : j = ways.length := by
        have := (List.getElem?_eq_some_iff.mp hk).1
        rw [List.length_append] at this
        simp at this
        omega
      subst hj2
      rw [List.getElem?_append_right (Nat.le_refl _), Nat.sub_self] at hk
      have ek : k = l ++ [d] := (Option.some.inj hk).symm
      subst ek
      refine ⟨d, ?_, .snoc r hd hg (fun z => hn (sub d z)), fun y hy => ?_⟩
      · rw [b.len, List.getElem?_append_right (Nat.le_refl _), Nat.sub_self]
        rfl
      · rcases List.mem_append.mp hy with hy | hy
        · exact List.mem_append_left _ (sub y hy)
        · exact List.mem_append_right _ hy
  · rw [List.nodup_append]
    refine ⟨b.nd, List.nodup_cons.mpr ⟨by simp, List.nodup_nil⟩, ?_⟩
    intro a ha y hy
    rw [List.mem_singleton] at hy
    rw [hy]
    intro e
    exact hn (e ▸ ha)
  · intro x hx
    rcases List.mem_append.mp hx with hx | hx
    · exact b.sg x hx
    · rw [List.mem_singleton.mp hx]
      exact hg
  · intro j k e hk he x hx hne
    by_cases hj : j < ways.length
    · rw [List.getElem?_append_left hj] at hk
      rw [List.getElem?_append_left (by rw [← b.len]; exact hj)] at he
      obtain ⟨m, m1, m2⟩ := b.pos j k e hk he x hx hne
      exact ⟨m, m1, by rw [List.getElem?_append_left (by rw [← b.len]; omega)]; exact m2⟩
    · have hj2 : j = ways.length := by
        have := (List.getElem?_eq_some_iff.mp hk).1
        rw [List.length_append] at this
        simp at this
        omega
      subst hj2
      rw [List.getElem?_append_right (Nat.le_refl _), Nat.sub_self] at hk
      have ek : k = l ++ [d] := (Option.some.inj hk).symm
      subst ek
      rw [b.len, List.getElem?_append_right (Nat.le_refl _), Nat.sub_self] at he
      have ee : e = d := (Option.some.inj he).symm
      subst ee
      rcases List.mem_append.mp hx with hx | hx
      · by_cases ex : x = c'
        · exact ⟨i, il, by rw [List.getElem?_append_left (by rw [← b.len]; exact il), ex]; exact hc⟩
        · obtain ⟨m, m1, m2⟩ := b.pos i l c' hl hc x hx ex
          exact ⟨m, by omega, by rw [List.getElem?_append_left (by rw [← b.len]; omega)]; exact m2⟩
      · exact absurd (List.mem_singleton.mp hx) hne
  · intro j k hk
    by_cases hj : j < ways.length
    · rw [List.getElem?_append_left hj] at hk
      exact b.thin j k hk
    · have hj2 : j = ways.length := by
        have := (List.getElem?_eq_some_iff.mp hk).1
        rw [List.length_append] at this
        simp at this
        omega
      subst hj2
      rw [List.getElem?_append_right (Nat.le_refl _), Nat.sub_self] at hk
      have ek : k = l ++ [d] := (Option.some.inj hk).symm
      subst ek
      refine thin_add r.nodup r.last (b.thin i l hl) fun x hx hne hm => ?_
      obtain ⟨m, m1, m2⟩ := b.pos i l c' hl hc x hx hne
      exact hn ((dn m x m1 m2).2 d hm hg)
theorem DoneTo.mono {seen : List Cell} {n : Nat} {d : Cell} (k : DoneTo g h w s seen n) (hn : n ≤ seen.length) : DoneTo g h w s (seen ++ [d]) n := by
  intro i c hi hc
  rw [List.getElem?_append_left (by omega)] at hc
  obtain ⟨a, b⟩ := k i c hi hc
  exact ⟨a, fun x hx hg => List.mem_append_left _ (b x hx hg)⟩
theorem DoneTo.none {seen : List Cell} (k : DoneTo g h w s seen seen.length) (first : ∀ c, g c = lt s → sd s c = 0 → c ∈ seen) : ¬ Joined g h w s := by
  have all : ∀ c, Reach g s c → c ∈ seen := by
    intro c r
    induction r with
    | first a b => exact first _ a b
    | next _ n a ih =>
      obtain ⟨i, hi, e⟩ := List.mem_iff_getElem.mp ih
      exact (k i _ hi (by rw [List.getElem?_eq_getElem hi, e])).2 _ n a
  rintro ⟨c, r, e⟩
  obtain ⟨i, hi, e1⟩ := List.mem_iff_getElem.mp (all c r)
  exact (k i _ hi (by rw [List.getElem?_eq_getElem hi, e1])).1 e

/-! ### the flood -/
structure Fld (g : Cell → Nat) (s : Bool) (seen left : List Cell) : Prop where
  nd : seen.Nodup
  sub : ∀ c ∈ left, c ∈ seen
  re : ∀ c ∈ seen, Reach g s c
  first : ∀ c, g c = lt s → sd s c = 0 → c ∈ seen
/-- whatever is seen and not left is done -/
def FDone (g : Cell → Nat) (s : Bool) (seen left : List Cell) : Prop := ∀ c ∈ seen, c ∉ left → ∀ d ∈ near6 c, g d = lt s → d ∈ seen
theorem flood_end {seen : List Cell} (f : Fld g s seen []) (k : FDone g s seen []) : Joined g h w s ↔ ∃ c ∈ seen, sd s c = ext s h w - 1 := by
  have all : ∀ c, Reach g s c → c ∈ seen := by
    intro c r
    induction r with
    | first a b => exact f.first _ a b
    | next _ n a ih => exact k _ ih (by simp) _ n a
  constructor
  · rintro ⟨c, r, e⟩
    exact ⟨c, all c r, e⟩
  · rintro ⟨c, hc, e⟩
    exact ⟨c, f.re c hc, e⟩
end

/-! ### with a rectangle under it -/
theorem Bfs.bound {B : Bd} {h w : Nat} {s : Bool} {ways : List (List Cell)} {seen : List Cell} (I : IsB B h w) (b : Bfs (cel B) s ways seen) : seen.length ≤ h * w :=
  nodup_rect b.nd fun c hc => I.ins (by rw [b.sg c hc]; cases s <;> decide)
theorem lt_ne (s : Bool) : lt s ≠ 0 := by cases s <;> decide
theorem Rd.bound {B : Bd} {h w : Nat} {s : Bool} {l : List Cell} {c : Cell} (I : IsB B h w) (r : Rd (cel B) s l c) : l.length ≤ h * w :=
  nodup_rect r.nodup fun x hx => I.ins (by rw [r.signs x hx]; exact lt_ne s)
theorem Fld.bound {B : Bd} {h w : Nat} {s : Bool} {seen left : List Cell} (I : IsB B h w) (f : Fld (cel B) s seen left) : seen.length ≤ h * w :=
  nodup_rect f.nd fun c hc => I.ins (by rw [(f.re c hc).sign]; exact lt_ne s)
theorem area {B : Bd} {h w : Nat} (I : IsB B h w) : h * w ≤ 81 := Nat.mul_le_mul I.h9 I.w9
/-! ### how long a road can be: fewer than 64 cells -/
def grp (r c : Nat) : Nat := if r < 8 then 2 * (3 * (r / 2) + c / 3) + (if r % 2 + c % 3 ≤ 1 then 0 else 1) else 24 + c
def nearN (r c r' c' : Nat) : Bool := (r' + 1 == r && (c' == c || c' == c + 1)) || (r' == r && (c' == c + 1 || c' + 1 == c)) || (r' == r + 1 && (c' == c || c' + 1 == c))
def grpAll : Bool := (List.range 9).all fun r => (List.range 9).all fun c => decide (grp r c < 33) && (List.range 9).all fun r' => (List.range 9).all fun c' => grp r c != grp r' c' || ((r == r' && c == c') || nearN r c r' c')
theorem grpAll_yes : grpAll = true := by decide +kernel
theorem grp_near (r : Nat) (hr : r < 9) (c : Nat) (hc : c < 9) (r' : Nat) (hr' : r' < 9) (c' : Nat) (hc' : c' < 9) (e : grp r c = grp r' c') : (r = r' ∧ c = c') ∨ nearN r c r' c' = true := by
  have h1 := List.all_eq_true.mp (List.all_eq_true.mp grpAll_yes r (List.mem_range.mpr hr)) c (List.mem_range.mpr hc)
  have h2 := List.all_eq_true.mp (List.all_eq_true.mp (Bool.and_eq_true _ _ ▸ h1).2 r' (List.mem_range.mpr hr')) c' (List.mem_range.mpr hc')
  simp only [Bool.or_eq_true, Bool.and_eq_true, bne_iff_ne, beq_iff_eq, ne_eq] at h2
  rcases h2 with h2 | h2
  · exact absurd e h2
  · exact h2
theorem grp_lt (r : Nat) (hr : r < 9) (c : Nat) (hc : c < 9) : grp r c < 33 := by
  have h1 := List.all_eq_true.mp (List.all_eq_true.mp grpAll_yes r (List.mem_range.mpr hr)) c (List.mem_range.mpr hc)
  exact of_decide_eq_true (Bool.and_eq_true _ _ ▸ h1).1
theorem filter_two {α : Type} (p : α → Bool) : ∀ l : List α, l.length = (l.filter p).length + (l.filter fun x => !p x).length
  | [] => rfl
  | a :: l => by
    have ih := filter_two p l
    cases e : p a <;> simp [List.filter_cons, e] <;> omega
theorem fiber_bound {α : Type} (f : α → Nat) (m : Nat) : ∀ (N : Nat) (l : List α), (∀ x ∈ l, f x < N) → (∀ n, (l.filter fun x => decide (f x = n)).length ≤ m) → l.length ≤ N * m
  | 0, l, h, _ => by
    cases l with
    | nil => exact Nat.zero_le _
    | cons a l => exact absurd (h a List.mem_cons_self) (Nat.not_lt_zero _)
  | N + 1, l, h, k => by
    have h1 := filter_two (fun x => decide (f x = N)) l
    have h2 := k N
    have h3 := fiber_bound f m N (l.filter fun x => !decide (f x = N)) (fun x hx => by
      obtain ⟨a, b⟩ := List.mem_filter.mp hx
      have c := h x a
      have d : f x ≠ N := fun z => by simp [z] at b
      omega) (fun n => by
      rw [List.filter_filter]
      refine Nat.le_trans ?_ (k n)
      have e : (l.filter fun x => decide (f x = n) && !decide (f x = N)).Sublist (l.filter fun x => decide (f x = n)) := by
        have e2 : (l.filter fun x => decide (f x = n) && !decide (f x = N)) = (l.filter fun x => decide (f x = n)).filter fun x => !decide (f x = N) := by
          rw [List.filter_filter]
          congr 1
          funext x
          exact Bool.and_comm _ _
        rw [e2]
        exact List.filter_sublist
      exact e.length_le)
    rw [Nat.add_mul, Nat.one_mul]
    omega
theorem thin_group {l : List Cell} (hn : l.Nodup) (hi : ∀ c ∈ l, Ins 9 9 c) (ht : Thin l) (n : Nat) : (l.filter fun x => decide (grp x.1.toNat x.2.toNat = n)).length ≤ 2 := by
  rcases e : l.filter (fun x => decide (grp x.1.toNat x.2.toNat = n)) with _ | ⟨a, _ | ⟨b, _ | ⟨c, rest⟩⟩⟩
  · rw [e]
    exact Nat.zero_le _
  · rw [e]
    exact Nat.le_succ _
  · rw [e]
    exact Nat.le_refl _
  · exfalso
    have sl : ([a, b, c] : List Cell).Sublist l := by
      have h1 : (a :: b :: c :: rest).Sublist l := by
        rw [← e]
        exact List.filter_sublist
      have h2 : ([a, b, c] : List Cell).Sublist (a :: b :: c :: rest) := .cons₂ _ (.cons₂ _ (.cons₂ _ (List.nil_sublist _)))
      exact h2.trans h1
    have nf : (l.filter fun x => decide (grp x.1.toNat x.2.toNat = n)).Nodup := List.Sublist.nodup List.filter_sublist hn
    rw [e] at nf
    have ne : a ≠ c := fun z => by
      rw [List.nodup_cons] at nf
      exact nf.1 (by rw [z]; simp)
    have ma : a ∈ l.filter fun x => decide (grp x.1.toNat x.2.toNat = n) := by rw [e]; simp
    have mc : c ∈ l.filter fun x => decide (grp x.1.toNat x.2.toNat = n) := by rw [e]; simp
    obtain ⟨a1, a2⟩ := List.mem_filter.mp ma
    obtain ⟨c1, c2⟩ := List.mem_filter.mp mc
    have ga := of_decide_eq_true a2
    have gc := of_decide_eq_true c2
    obtain ⟨p1, p2, p3, p4⟩ := hi a a1
    obtain ⟨q1, q2, q3, q4⟩ := hi c c1
    rcases grp_near a.1.toNat (by omega) a.2.toNat (by omega) c.1.toNat (by omega) c.2.toNat (by omega) (ga.trans gc.symm) with z | z
    · exact ne (Prod.ext (by omega) (by omega))
    · refine ht a b c sl (near6_iff.mpr ?_)
      unfold nearN at z
      simp only [Bool.or_eq_true, Bool.and_eq_true, beq_iff_eq] at z
      omega
theorem thin_group1 {l : List Cell} (hn : l.Nodup) (hi : ∀ c ∈ l, Ins 9 9 c) (n : Nat) (h24 : 24 ≤ n) : (l.filter fun x => decide (grp x.1.toNat x.2.toNat = n)).length ≤ 1 := by
  rcases e : l.filter (fun x => decide (grp x.1.toNat x.2.toNat = n)) with _ | ⟨a, _ | ⟨b, rest⟩⟩
  · rw [e]
    exact Nat.zero_le _
  · rw [e]
    exact Nat.le_refl _
  · exfalso
    have nf : (l.filter fun x => decide (grp x.1.toNat x.2.toNat = n)).Nodup := List.Sublist.nodup List.filter_sublist hn
    rw [e] at nf
    have ne : a ≠ b := fun z => by
      rw [List.nodup_cons] at nf
      exact nf.1 (by rw [z]; simp)
    have ma : a ∈ l.filter fun x => decide (grp x.1.toNat x.2.toNat = n) := by rw [e]; simp
    have mc : b ∈ l.filter fun x => decide (grp x.1.toNat x.2.toNat = n) := by rw [e]; simp
    obtain ⟨a1, a2⟩ := List.mem_filter.mp ma
    obtain ⟨c1, c2⟩ := List.mem_filter.mp mc
    have ga := of_decide_eq_true a2
    have gc := of_decide_eq_true c2
    obtain ⟨p1, p2, p3, p4⟩ := hi a a1
    obtain ⟨q1, q2, q3, q4⟩ := hi b c1
    unfold grp at ga gc
    have f1 : ¬ a.1.toNat < 8 := fun z => by rw [if_pos z] at ga; split at ga <;> omega
    have f2 : ¬ b.1.toNat < 8 := fun z => by rw [if_pos z] at gc; split at gc <;> omega
    rw [if_neg f1] at ga
    rw [if_neg f2] at gc
    exact ne (Prod.ext (by omega) (by omega))
theorem thin_bound {l : List Cell} (hn : l.Nodup) (hi : ∀ c ∈ l, Ins 9 9 c) (ht : Thin l) : l.length < 64 := by
  have h1 := filter_two (fun x : Cell => decide (grp x.1.toNat x.2.toNat < 24)) l
  have h2 := fiber_bound (fun x : Cell => grp x.1.toNat x.2.toNat) 2 24 (l.filter fun x => decide (grp x.1.toNat x.2.toNat < 24)) (fun x hx => of_decide_eq_true (List.mem_filter.mp hx).2) (fun n => by
    refine Nat.le_trans (List.Sublist.length_le (List.Sublist.filter _ List.filter_sublist)) (thin_group hn hi ht n))
  have h3 := fiber_bound (fun x : Cell => grp x.1.toNat x.2.toNat - 24) 1 9 (l.filter fun x => !decide (grp x.1.toNat x.2.toNat < 24)) (fun x hx => by
    obtain ⟨a, b⟩ := List.mem_filter.mp hx
    obtain ⟨p1, p2, p3, p4⟩ := hi x a
    have := grp_lt x.1.toNat (by omega) x.2.toNat (by omega)
    show grp x.1.toNat x.2.toNat - 24 < 9
    omega) (fun n => by
    refine Nat.le_trans ?_ (thin_group1 hn hi (n + 24) (by omega))
    rw [List.filter_filter]
    refine Nat.le_of_eq (congrArg List.length (List.filter_congr fun x _ => ?_))
    rw [Bool.eq_iff_iff]
    simp
    omega)
  omega
theorem Road.bound {B : Bd} {h w : Nat} {s : Bool} {l : List Cell} (I : IsB B h w) (r : Road (cel B) h w s l) : l.length < 64 := by
  obtain ⟨c, a, _, t⟩ := r
  refine thin_bound a.nodup (fun x hx => ?_) t
  have ix := I.ins (p := x) (by rw [a.signs x hx]; exact lt_ne s)
  have h9 := I.h9
  have w9 := I.w9
  obtain ⟨p1, p2, p3, p4⟩ := ix
  exact ⟨p1, by omega, p3, by omega⟩
/-- is a hand joined, as a Bool -/
noncomputable def jB (B : Bd) (s : Bool) : Bool := @decide (Joined (cel B) B.length (wid B) s) (Classical.propDecidable _)
theorem jB_iff {B : Bd} {h w : Nat} (I : IsB B h w) (s : Bool) : jB B s = true ↔ Joined (cel B) h w s := by
  unfold jB
  rw [I.hh, I.wid]
  exact @decide_eq_true_iff (Joined (cel B) h w s) (Classical.propDecidable _)
theorem jB_not {B : Bd} {h w : Nat} (I : IsB B h w) (s : Bool) : jB B s = false ↔ ¬ Joined (cel B) h w s := by
  rw [← jB_iff I, Bool.not_eq_true]
end Sw
/-! How a search's queue and its dict of cells stand in the heap. -/
namespace Sw
open PySem PySem.Spec PyProof.Rows L2
def keyOf (c : Cell) : List Key := [Sum.inl c.1, Sum.inl c.2]
theorem keyOf_inj {a b : Cell} (h : keyOf a = keyOf b) : a = b := by
  have h1 := (List.cons.inj h).1
  have h2 := (List.cons.inj (List.cons.inj h).2).1
  exact Prod.ext (Sum.inl.inj h1) (Sum.inl.inj h2)
/-- a dict with the cells cs for keys, in this order -/
def Seen (H : Hp) (d : Addr) (cs : List Cell) : Prop := ∃ kvs : List (List Key × V), H d = some (.dT kvs) ∧ kvs.map (·.1) = cs.map keyOf
theorem Seen.same {H H' : Hp} {d : Addr} {cs : List Cell} (s : Seen H d cs) (k : Same H H') : Seen H' d cs := by
  obtain ⟨kvs, e, m⟩ := s
  exact ⟨kvs, k _ _ e, m⟩
theorem Seen.updL {H : Hp} {d l : Addr} {cs : List Cell} {ys : List V} {o : HO} (s : Seen H d cs) (h : H l = some (.lst ys)) : Seen (upd H l o) d cs := by
  obtain ⟨kvs, e, m⟩ := s
  exact ⟨kvs, by rw [upd_ne (ne_of e h (by intro z; cases z))]; exact e, m⟩
theorem key_in {kvs : List (List Key × V)} {cs : List Cell} (m : kvs.map (·.1) = cs.map keyOf) (c : Cell) : keyOf c ∈ (kvs.map fun p : List Key × V => p.1) ↔ c ∈ cs := by
  rw [m, List.mem_map]
  constructor
  · rintro ⟨x, hx, e⟩
    rw [← keyOf_inj e]
    exact hx
  · intro h
    exact ⟨c, h, rfl⟩
theorem val_some {kvs : List (List Key × V)} {k : List Key} : (valV kvs k).isSome = true ↔ k ∈ kvs.map fun p : List Key × V => p.1 := by
  rw [← valV_any, List.any_eq_true, List.mem_map]
  constructor
  · rintro ⟨x, hx, e⟩
    exact ⟨x, hx, of_decide_eq_true e⟩
  · rintro ⟨x, hx, e⟩
    exact ⟨x, hx, decide_eq_true e⟩
theorem Seen.get {H : Hp} {d b : Addr} {cs : List Cell} {c : Cell} (s : Seen H d cs) (hb : H b = some (.tup (cellV c))) : ∃ o, DGet H d (.ref b) o ∧ o.isSome = decide (c ∈ cs) := by
  obtain ⟨kvs, e, m⟩ := s
  refine ⟨valV kvs (keyOf c), DGet.t (k := keyOf c) e hb, ?_⟩
  rw [Bool.eq_iff_iff, decide_eq_true_eq, val_some]
  exact key_in m c
theorem Seen.put {H : Hp} {d b : Addr} {cs : List Cell} {c : Cell} {v : V} (s : Seen H d cs) (hb : H b = some (.tup (cellV c))) (hn : c ∉ cs) (hl : cs.length ≤ 1000) :
    ∃ ys, DPut H d (.ref b) v (upd H d (.dT ys)) ∧ Seen (upd H d (.dT ys)) d (cs ++ [c]) ∧ Tps H (upd H d (.dT ys)) ∧ ∃ xs, H d = some (.dT xs) := by
  obtain ⟨kvs, e, m⟩ := s
  have el : kvs.length = cs.length := by
    have := congrArg List.length m
    rw [List.length_map, List.length_map] at this
    exact this
  have hv : valV kvs (keyOf c) = none := by
    cases h : valV kvs (keyOf c) with
    | none => rfl
    | some x => exact absurd ((key_in m c).mp (val_some.mp (by rw [h]; rfl))) hn
  refine ⟨putK kvs (keyOf c) v, DPut.t (k := keyOf c) e hb (sz_lt (by omega)), ⟨_, upd_same, ?_⟩, .dT e, kvs, e⟩
  rw [putK_new _ hv, List.map_append, List.map_append, m]
  rfl
theorem Seen.nil {H : Hp} {d : Addr} : Seen (upd H d (.dT [])) d [] := ⟨[], upd_same, rfl⟩

/-! ### a list of ways: each a list of cells of its own, unknown to H0, none of them the queue itself -/
inductive Ways (H0 : Hp) (q : Addr) (H : Hp) : List V → List (List Cell) → Prop
  | nil : Ways H0 q H [] []
  | cons {a : Addr} {vs ws : List V} {cs : List Cell} {css : List (List Cell)} : H0 a = none → a ≠ q → H a = some (.lst vs) → Cells H vs cs → Ways H0 q H ws css → Ways H0 q H (.ref a :: ws) (cs :: css)
section
variable {H0 H H' : Hp} {q d : Addr}
theorem Ways.keep (k : ∀ a vs, a ≠ q → H a = some (.lst vs) → H' a = some (.lst vs)) (t : Tps H H') : ∀ {ws : List V} {css : List (List Cell)}, Ways H0 q H ws css → Ways H0 q H' ws css
  | _, _, .nil => .nil
  | _, _, .cons a b c e r => .cons a b (k _ _ b c) (e.tps t) (Ways.keep k t r)
theorem Ways.same (s : Same H H') {ws : List V} {css : List (List Cell)} (w : Ways H0 q H ws css) : Ways H0 q H' ws css := w.keep (fun a vs _ e => s _ _ e) (.of s)
theorem Ways.updq {ys : List V} {o : HO} (h : H q = some (.lst ys)) {ws : List V} {css : List (List Cell)} (w : Ways H0 q H ws css) : Ways H0 q (upd H q o) ws css :=
  w.keep (fun a vs n e => by rw [upd_ne n]; exact e) (.lst h)
theorem Ways.updd {ys : List (List Key × V)} {o : HO} (h : H d = some (.dT ys)) {ws : List V} {css : List (List Cell)} (w : Ways H0 q H ws css) : Ways H0 q (upd H d o) ws css :=
  w.keep (fun a vs _ e => by rw [upd_ne (ne_of e h (by intro z; cases z))]; exact e) (.dT h)
theorem Ways.len : ∀ {ws : List V} {css : List (List Cell)}, Ways H0 q H ws css → ws.length = css.length
  | _, _, .nil => rfl
  | _, _, .cons _ _ _ _ r => by rw [List.length_cons, List.length_cons, Ways.len r]
theorem Ways.app : ∀ {ws ws' : List V} {css css' : List (List Cell)}, Ways H0 q H ws css → Ways H0 q H ws' css' → Ways H0 q H (ws ++ ws') (css ++ css')
  | _, _, _, _, .nil, h => h
  | _, _, _, _, .cons a b c e r, h => .cons a b c e (Ways.app r h)
theorem Ways.one {a : Addr} {vs : List V} {cs : List Cell} (h0 : H0 a = none) (n : a ≠ q) (h : H a = some (.lst vs)) (c : Cells H vs cs) : Ways H0 q H [.ref a] [cs] := .cons h0 n h c .nil
theorem Ways.get : ∀ {ws : List V} {css : List (List Cell)} {i : Nat} {x : V}, Ways H0 q H ws css → ws[i]? = some x → ∃ a vs cs, x = .ref a ∧ css[i]? = some cs ∧ H0 a = none ∧ a ≠ q ∧ H a = some (.lst vs) ∧ Cells H vs cs
  | _, _, _, _, .nil, e => by simp at e
  | _, _, 0, _, .cons a b c d r, e => by
    simp at e
    subst e
    exact ⟨_, _, _, rfl, rfl, a, b, c, d⟩
  | _, _, i + 1, _, .cons _ _ _ _ r, e => Ways.get (i := i) r (by simpa using e)
end
theorem atI_last1 {l : List V} {v : V} (h : l[l.length - 1]? = some v) : atI l (-1) = some v := by
  have hp : 0 < l.length := by
    have := (List.getElem?_eq_some_iff.mp h).1
    omega
  have e : l = l.dropLast ++ [v] := by
    have hne : l ≠ [] := by
      intro z
      rw [z] at hp
      exact absurd hp (Nat.lt_irrefl _)
    have h2 := List.dropLast_concat_getLast hne
    have h3 : l.getLast hne = v := by
      rw [List.getLast_eq_getElem]
      have := (List.getElem?_eq_some_iff.mp h).2
      exact this
    rw [h3] at h2
    exact h2.symm
  rw [e]
  exact atI_last _ _
theorem sgn_eq {x y : Nat} : V.str (txt [x]) = V.str (txt [y]) ↔ x = y := by
  constructor
  · intro h
    exact (List.cons.inj (txt_inj (V.str.inj h))).1
  · intro h
    rw [h]
theorem nodup_take {α : Type} {l : List α} (hn : l.Nodup) {i : Nat} {c : α} (h : l[i]? = some c) : c ∉ l.take i := by
  intro hm
  obtain ⟨j, hj, e⟩ := List.mem_take_iff_getElem.mp hm
  have hi := (List.getElem?_eq_some_iff.mp h)
  obtain ⟨hi, ei⟩ := hi
  have := (List.getElem_inj (h₀ := by omega) (h₁ := hi) hn).mp (e.trans ei.symm)
  omega
theorem take_snoc {α : Type} {l : List α} {i : Nat} {c : α} (h : l[i]? = some c) : l.take (i + 1) = l.take i ++ [c] := by
  rw [List.take_add_one, h]
  rfl
/-- a hand's text -/
theorem hand_n {s : Bool} : V.str (txt [lt s]) = V.str (Str.ofString "n") ↔ s = false := by
  rw [s_n]
  constructor
  · intro h
    have := (List.cons.inj (txt_inj (V.str.inj h))).1
    cases s
    · rfl
    · exact absurd this (by decide)
  · intro h
    rw [h]
    rfl
theorem hand_w {s : Bool} : V.str (txt [lt s]) = V.str (Str.ofString "w") ↔ s = true := by
  rw [s_w]
  constructor
  · intro h
    have := (List.cons.inj (txt_inj (V.str.inj h))).1
    cases s
    · exact absurd this (by decide)
    · rfl
  · intro h
    rw [h]
    rfl
theorem lt_ok (s : Bool) : lt s = 110 ∨ lt s = 119 := by cases s <;> decide
/-! ### the cells of a hand's first shore -/
def shoreL (h w : Nat) (s : Bool) : List Cell := if s then (List.range h).map fun r : Nat => ((r : Int), (0 : Int)) else (List.range w).map fun c : Nat => ((0 : Int), (c : Int))
def begs (B : Bd) (h w : Nat) (s : Bool) : List Cell := (shoreL h w s).filter fun p => decide (cel B p = lt s)
theorem begs_nodup (B : Bd) (h w : Nat) (s : Bool) : (begs B h w s).Nodup := by
  refine List.Sublist.nodup List.filter_sublist ?_
  unfold shoreL
  cases s
  · exact nodup_map List.nodup_range fun x _ y _ e => by
      have := (Prod.ext_iff.mp e).2
      exact Int.ofNat.inj this
  · exact nodup_map List.nodup_range fun x _ y _ e => by
      have := (Prod.ext_iff.mp e).1
      exact Int.ofNat.inj this
theorem mem_shore {h w : Nat} {s : Bool} {p : Cell} (hp : Ins h w p) (e : sd s p = 0) : p ∈ shoreL h w s := by
  obtain ⟨a, b, c, d⟩ := hp
  unfold shoreL
  cases s
  · have e' : p.1 = 0 := e
    exact List.mem_map.mpr ⟨p.2.toNat, List.mem_range.mpr (by omega), Prod.ext (by show (0 : Int) = p.1; omega) (by show ((p.2.toNat : Nat) : Int) = p.2; omega)⟩
  · have e' : p.2 = 0 := e
    exact List.mem_map.mpr ⟨p.1.toNat, List.mem_range.mpr (by omega), Prod.ext (by show ((p.1.toNat : Nat) : Int) = p.1; omega) (by show (0 : Int) = p.2; omega)⟩
theorem shore_sd {h w : Nat} {s : Bool} {p : Cell} (hp : p ∈ shoreL h w s) : sd s p = 0 := by
  unfold shoreL at hp
  cases s
  · obtain ⟨c, _, rfl⟩ := List.mem_map.mp hp
    rfl
  · obtain ⟨c, _, rfl⟩ := List.mem_map.mp hp
    rfl
theorem shore_ins {B : Bd} {h w : Nat} (I : IsB B h w) {s : Bool} {p : Cell} (hp : p ∈ shoreL h w s) : Ins h w p := by
  have h1 := I.h1
  have w1 := I.w1
  unfold shoreL at hp
  cases s
  · obtain ⟨c, hc, rfl⟩ := List.mem_map.mp hp
    have := List.mem_range.mp hc
    refine ⟨by show (0 : Int) ≤ 0; omega, by show (0 : Int) < h; omega, by show (0 : Int) ≤ (c : Int); omega, by show ((c : Nat) : Int) < w; omega⟩
  · obtain ⟨c, hc, rfl⟩ := List.mem_map.mp hp
    have := List.mem_range.mp hc
    refine ⟨by show (0 : Int) ≤ (c : Int); omega, by show ((c : Nat) : Int) < h; omega, by show (0 : Int) ≤ 0; omega, by show (0 : Int) < w; omega⟩
theorem mem_begs {B : Bd} {h w : Nat} (I : IsB B h w) {s : Bool} {p : Cell} : p ∈ begs B h w s ↔ cel B p = lt s ∧ sd s p = 0 := by
  unfold begs
  rw [List.mem_filter, decide_eq_true_eq]
  constructor
  · rintro ⟨a, b⟩
    exact ⟨b, shore_sd a⟩
  · rintro ⟨a, b⟩
    exact ⟨mem_shore (I.ins (by rw [a]; exact lt_ne s)) b, a⟩
theorem shoreL_len {h w : Nat} {s : Bool} : (shoreL h w s).length ≤ h + w := by
  unfold shoreL
  cases s
  · show ((List.range w).map _).length ≤ _
    rw [List.length_map, List.length_range]
    omega
  · show ((List.range h).map _).length ≤ _
    rw [List.length_map, List.length_range]
    omega
/-- the search as it begins -/
theorem bfs_start {B : Bd} {h w : Nat} (I : IsB B h w) (s : Bool) : Bfs (cel B) s ((begs B h w s).map fun c => [c]) (begs B h w s) := by
  refine ⟨by rw [List.length_map], ?_, begs_nodup B h w s, fun c hc => ((mem_begs I).mp hc).1, fun c a b => (mem_begs I).mpr ⟨a, b⟩, fun i l c hl hc x hx hne => ?_, fun i l hl => ?_⟩
  · intro i l hl
    obtain ⟨c, ec, rfl⟩ := map_get hl
    have hm := List.mem_of_getElem? ec
    have hc := (mem_begs I).mp hm
    refine ⟨c, ec, .one hc.1 hc.2, fun x hx => ?_⟩
    rw [List.mem_singleton.mp hx]
    exact hm
  · obtain ⟨c', ec, rfl⟩ := map_get hl
    rw [hc] at ec
    cases ec
    exact absurd (List.mem_singleton.mp hx) hne
  · obtain ⟨c', ec, rfl⟩ := map_get hl
    intro a b c hs
    have := hs.length_le
    exact absurd this (show ¬ (3 ≤ 1) by decide)
end Sw
/-! A text as a list of signs; boards as lists of lists of signs. -/
namespace Sw
open PySem PySem.Spec PyProof.Rows L2
def sgV (c : Nat) : V := .str (txt [c])
theorem vals_signs : ∀ (l : List Nat) (its : List Value), its.length = l.length → (∀ (j : Nat) (v : Value), its[j]? = some v → ∃ c u, l[j]? = some c ∧ v = .str ⟨#[c]⟩ u) → Vals (l.map sgV) its
  | [], [], _, _ => .nil
  | [], _ :: _, h, _ => by cases h
  | _ :: _, [], h, _ => by cases h
  | c :: l, v :: its, h, k => by
    obtain ⟨c', u, e1, e2⟩ := k 0 v rfl
    cases e1
    subst e2
    exact .cons ⟨u, rfl⟩ (vals_signs l its (Nat.succ.inj h) fun j x hx => k (j + 1) x hx)
/-- list(text): its signs, a new list -/
def rListSigns : List V → Hp → VK → Prop := fun xs Hh Q => ∃ z : List Nat, xs = [.str (txt z)] ∧ z.length ≤ 1000 ∧ ∀ l, Hh l = none → Q (.ref l) (upd Hh l (.lst (z.map sgV)))
theorem call_list_signs {X : Cx} (hc : X.calm = true) : CallR X (.type "list") rListSigns := by
  intro pins s σ H xs us Q I r h
  obtain ⟨z, rfl, hz, q⟩ := h
  obtain ⟨u, rfl, rx⟩ := vals1 r
  obtain ⟨t, rfl⟩ := rx
  have hn : (txt z).cps.size ≤ sizeLine := by
    have e : (txt z).cps.size = z.length := txt_len z
    rw [e]
    exact sz_le (by omega)
  refine PySem.call_list_str (hn := hn) (I.ok.hd hc) (txt z) t fun h' tk acc' c' k e it => ?_
  have hv : Vals (z.map sgV) acc'.toList := by
    refine vals_signs z acc'.toList ?_ fun j v hj => ?_
    · have e1 : acc'.size = (txt z).cps.size := it.1
      have e2 : (txt z).cps.size = z.length := txt_len z
      rw [Array.length_toList, e1, e2]
    · rw [Array.getElem?_toList] at hj
      obtain ⟨c, u, e1, e2⟩ := it.2 j v hj
      have e3 : (txt z).cps.toList[j]? = some c := by
        rw [Array.getElem?_toList]
        exact e1
      exact ⟨c, u, e3, e2⟩
  refine ⟨.ref s.heap.objs.size, _, I.laid (t' := tk) k (Nat.le_refl _) (show ObjOk X.prog X.w _ h' _ (.lst (z.map sgV)) from ⟨?_, acc'.toList, c', hv, ?_⟩), rfl, q _ (I.hok.fresh (Nat.le_refl _))⟩
  · rw [List.length_map]
    exact sz_le (by omega)
  · exact e

theorem pe_joinK {X : Cx} {K : PySem.W.Frag} {o e : Expr} {to te : TE} {apos pos : Pos} (hK : X.K = K) (ho : PE X o to) (he : PE X e te) (hs : starEach [e] X.env = [(false, eval e X.env)] := by rfl) (hbase : attributeBase o "join" X.env (eval o X.env) = eval o X.env := by rfl) (hline : (apos.endLine == pos.line) = true := by rfl) :
    PE X (.Call (.Attribute o "join" apos) [e] [] pos) (tM1 (fun x xs H Q => ∃ a p, ∃ ys : List Str, x = .str a ∧ xs = [.ref p] ∧ (SqL K H p (ys.map V.str) ∨ SqT K H p (ys.map V.str)) ∧
      (ys.map (·.length)).sum + ys.length * a.length ≤ 16777216 ∧ Q (.str (Txt.join a ys)) H) to te) := by
  subst hK
  exact pe_join ho he hs hbase hline

/-! ### a board as a list of lists of signs: each of its own, unknown to H0 -/
structure Rows2 (H0 H : Hp) (q : Addr) (as : List Addr) (B : Bd) : Prop where
  nd : as.Nodup
  len : as.length = B.length
  row : ∀ (i : Nat) (a : Addr) (r : List Nat), as[i]? = some a → B[i]? = some r → H0 a = none ∧ a ≠ q ∧ H a = some (.lst (r.map sgV))
theorem Rows2.same {H0 H H' : Hp} {q : Addr} {as : List Addr} {B : Bd} (R : Rows2 H0 H q as B) (s : Same H H') : Rows2 H0 H' q as B :=
  ⟨R.nd, R.len, fun i a r h1 h2 => by
    obtain ⟨x, y, z⟩ := R.row i a r h1 h2
    exact ⟨x, y, s _ _ z⟩⟩
theorem Rows2.updq {H0 H : Hp} {q : Addr} {as : List Addr} {B : Bd} (R : Rows2 H0 H q as B) (o : HO) : Rows2 H0 (upd H q o) q as B :=
  ⟨R.nd, R.len, fun i a r h1 h2 => by
    obtain ⟨x, y, z⟩ := R.row i a r h1 h2
    exact ⟨x, y, by rw [upd_ne y]; exact z⟩⟩
theorem Rows2.app {H0 H : Hp} {q : Addr} {as : List Addr} {B : Bd} (R : Rows2 H0 H q as B) {a : Addr} {r : List Nat} (hn : a ∉ as) (h0 : H0 a = none) (hq : a ≠ q) (ha : H a = some (.lst (r.map sgV))) : Rows2 H0 H q (as ++ [a]) (B ++ [r]) := by
  refine ⟨?_, by rw [List.length_append, List.length_append, R.len]; rfl, fun i b t h1 h2 => ?_⟩
  · rw [List.nodup_append]
    refine ⟨R.nd, List.nodup_cons.mpr ⟨by simp, List.nodup_nil⟩, fun x hx y hy => ?_⟩
    rw [List.mem_singleton.mp hy]
    exact fun z => hn (z ▸ hx)
  · by_cases hi : i < as.length
    · rw [List.getElem?_append_left hi] at h1
      rw [List.getElem?_append_left (by rw [← R.len]; exact hi)] at h2
      exact R.row i b t h1 h2
    · have hl := (List.getElem?_eq_some_iff.mp h1).1
      rw [List.length_append] at hl
      simp at hl
      have e : i = as.length := by omega
      subst e
      rw [List.getElem?_append_right (Nat.le_refl _), Nat.sub_self] at h1
      rw [R.len, List.getElem?_append_right (Nat.le_refl _), Nat.sub_self] at h2
      cases h1
      cases h2
      exact ⟨h0, hq, ha⟩
theorem Rows2.put {H0 H : Hp} {q : Addr} {as : List Addr} {B : Bd} (R : Rows2 H0 H q as B) {a : Addr} {p : Cell} {r : List Nat} {x : Nat} (ha : as[p.1.toNat]? = some a) (hr : B[p.1.toNat]? = some r) :
    Rows2 H0 (upd H a (.lst ((r.set p.2.toNat x).map sgV))) q as (putB B p x) := by
  have ia := (List.getElem?_eq_some_iff.mp ha)
  obtain ⟨il, ie⟩ := ia
  refine ⟨R.nd, by unfold putB; rw [List.length_set]; exact R.len, fun i b t h1 h2 => ?_⟩
  rw [putB_eq hr] at h2
  obtain ⟨jl, je⟩ := List.getElem?_eq_some_iff.mp h1
  by_cases e : i = p.1.toNat
  · subst e
    have eb : b = a := by
      rw [ha] at h1
      exact (Option.some.inj h1).symm
    subst eb
    rw [List.getElem?_set_self (by rw [← R.len]; exact il)] at h2
    cases h2
    obtain ⟨x1, x2, _⟩ := R.row _ _ _ ha hr
    exact ⟨x1, x2, upd_same⟩
  · rw [List.getElem?_set_ne (fun z => e z.symm)] at h2
    obtain ⟨x1, x2, x3⟩ := R.row _ _ _ h1 h2
    have ne : b ≠ a := fun z => by
      subst z
      exact e ((List.getElem_inj (h₀ := jl) (h₁ := il) R.nd).mp (je.trans ie.symm))
    exact ⟨x1, x2, by rw [upd_ne ne]; exact x3⟩
end Sw
/-! Lists of truths: counted, compared. -/
namespace Sw
open PySem PySem.Spec PyProof.Rows L2
theorem countIn_bools (k : Bool) : ∀ bs : List Bool, countIn (.bool k) (bs.map PyData.bool) = ((bs.count k : Nat) : Int)
  | [] => rfl
  | b :: bs => by
    rw [List.map_cons, countIn, countIn_bools k bs, List.count_cons]
    simp only [same]
    rcases Bool.eq_false_or_eq_true (b == k) with hb | hb <;> simp only [hb, Bool.false_eq_true, if_true, if_false] <;> push_cast <;> omega
theorem bools_dpa {K : PySem.W.Frag} {H : Hp} : ∀ bs : List Bool, DpAll K H (bs.map V.bl) (bs.map PyData.bool)
  | [] => .nil
  | b :: bs => .cons (.bl b) (bools_dpa bs)
theorem bools_dp {K : PySem.W.Frag} {H : Hp} {a : Addr} {bs : List Bool} (h : H a = some (.lst (bs.map V.bl))) : Dp K H (.ref a) (.list (bs.map PyData.bool)) := .lst (SqL.of h) (bools_dpa bs)
theorem can_bools : ∀ bs : List Bool, PyData.canLayAll0 (bs.map PyData.bool) = true
  | [] => rfl
  | b :: bs => by
    rw [List.map_cons, PyData.canLayAll0, can_bools bs]
    rfl
theorem dep_bools : ∀ bs : List Bool, PyData.depthAll (bs.map PyData.bool) ≤ 1
  | [] => by decide
  | b :: bs => by
    have h := dep_bools bs
    rw [List.map_cons, PyData.depthAll]
    have e : (PyData.bool b).depth = 0 := rfl
    rw [e]
    omega
theorem shaped_bools (bs : List Bool) : SeqAt.shaped (.list (bs.map PyData.bool)) = true := by
  unfold SeqAt.shaped
  have h := dep_bools bs
  rw [show (PyData.list (bs.map PyData.bool)).canLay0 = PyData.canLayAll0 (bs.map PyData.bool) from rfl, can_bools]
  have : (PyData.list (bs.map PyData.bool)).depth ≤ 64 := by
    rw [PyData.depth]
    omega
  rw [decide_eq_true this]
  rfl
theorem eqv_bools (bs : List Bool) : PyData.eqv (.list (bs.map PyData.bool)) (.list (bs.map PyData.bool)) = true := SeqAt.eqv_refl _ (can_bools bs)
/-- l.count(truth) -/
def rCountB (K : PySem.W.Frag) : V → List V → Hp → VK → Prop := fun x xs H Q => ∃ (a : Addr) (bs : List Bool) (k : Bool), x = .ref a ∧ xs = [.bl k] ∧ SqL K H a (bs.map V.bl) ∧ Q (.int ((bs.count k : Nat) : Int)) H
theorem mt_countB {X : Cx} : MtR X "list.count" (rCountB X.K) := by
  intro pins s σ H x xs v us Q I rx rxs h
  obtain ⟨a, bs, k, rfl, rfl, hl, q⟩ := h
  cases rx
  cases rxs with
  | cons ry rt =>
    rename_i uy ut
    cases rt
    cases ry
    obtain ⟨its, rv, pl, hlen⟩ := I.list hl
    obtain ⟨as, h4⟩ := Dp.readsAll I (bs.map PyData.bool) _ its (bools_dpa bs) rv
    refine PyProof.Rows.count_list_bools (xs := bs.map PyData.bool) pl.isList h4 ?_ ?_
    · rw [List.all_eq_true]
      intro d hd
      obtain ⟨b, _, rfl⟩ := List.mem_map.mp hd
      rfl
    · rw [countIn_bools]
      exact ⟨.int ((bs.count k : Nat) : Int), H, I.tok _, ⟨_, rfl⟩, q⟩
theorem mt_countBK {X : Cx} {K : PySem.W.Frag} (hK : X.K = K) : MtR X "list.count" (rCountB K) := by
  subst hK
  exact mt_countB
theorem mt_indexDK {X : Cx} {K : PySem.W.Frag} (hK : X.K = K) (hu : X.A.units + 65 < cLine) : MtR X "list.index" (rIndexD K) := by
  subst hK
  exact mt_indexD hu
theorem pe_bmK {X : Cx} {K : PySem.W.Frag} {T id : String} {name : Str} {r : V → List V → Hp → VK → Prop} {o e : Expr} {es : List Expr} {to : TE} {t : TA} {apos cpos : Pos} (hK : X.K = K) (pa : PlainAttrs T) (slot : Slot T name id) (hty : typeOf (.builtin id) = pure (.type "method_descriptor")) (hm : MtR X id r) (ho : PE X o to) (ha : PA X (e :: es) t)
    (hbase : attributeBase o name X.env (eval o X.env) = eval o X.env := by rfl)
    (hfew : ((backTo cpos (starEach (e :: es) X.env)).all (fun x => !x.1) && (backToKw cpos (keywordEach [] X.env)).all (fun x => x.1.isSome)
      && decide ((e :: es).length + ([] : List Keyword).length + (if ([] : List Keyword).isEmpty then 0 else 1) < 30)) = true := by rfl)
    (hline : (apos.endLine == cpos.line) = true := by rfl) (hs : starEach (e :: es) X.env = (false, eval e X.env) :: starEach es X.env := by rfl) (hplain : (backTo cpos (starEach es X.env)).any (·.1) = false := by rfl) :
    PE X (.Call (.Attribute o name apos) (e :: es) [] cpos) (tBM K T r to t) := by
  subst hK
  exact pe_bm pa slot hty hm ho ha hbase hfew hline hs hplain
theorem count_two (a b : Bool) : ([a, b].count true : Nat) + ([a, b].count false : Nat) = 2 := by cases a <;> cases b <;> rfl
theorem count_not_both {a b : Bool} (h : ¬ (a = true ∧ b = true)) : [a, b].count true ≤ 1 := by cases a <;> cases b <;> simp_all
end Sw
/-! A board turned over; a stone more; boards with the same cells. Plain lists. -/
namespace Sw
def swp (p : Cell) : Cell := (p.2, p.1)
theorem near_swp {p q : Cell} (h : q ∈ near6 p) : swp q ∈ near6 (swp p) := by
  rw [near6_iff] at h ⊢
  show (q.2 = p.2 - 1 ∧ q.1 = p.1) ∨ (q.2 = p.2 - 1 ∧ q.1 = p.1 + 1) ∨ (q.2 = p.2 ∧ q.1 = p.1 + 1) ∨ (q.2 = p.2 + 1 ∧ q.1 = p.1) ∨ (q.2 = p.2 + 1 ∧ q.1 = p.1 - 1) ∨ (q.2 = p.2 ∧ q.1 = p.1 - 1)
  omega
theorem Reach.map {g g' : Cell → Nat} {s s' : Bool} (f : Cell → Cell) (hg : ∀ p, g p = lt s → g' (f p) = lt s') (hn : ∀ p q, q ∈ near6 p → f q ∈ near6 (f p)) (h0 : ∀ p, sd s p = 0 → sd s' (f p) = 0) {p : Cell} (r : Reach g s p) : Reach g' s' (f p) := by
  induction r with
  | first a b => exact .first (hg _ a) (h0 _ b)
  | next _ n a ih => exact .next ih (hn _ _ n) (hg _ a)
theorem lt_oth (s : Bool) : oth (lt s) = lt (!s) := by cases s <;> rfl
theorem lt_inj {s s' : Bool} (h : lt s = lt s') : s = s' := by
  cases s <;> cases s' <;> first | rfl | (exact absurd h (by decide))
theorem turn_one {B : Bd} {h w : Nat} (I : IsB B h w) {s : Bool} (j : Joined (cel B) h w s) : Joined (cel (tov B w)) w h (!s) := by
  obtain ⟨c, r, e⟩ := j
  refine ⟨swp c, r.map swp (fun p hp => ?_) (fun p q => near_swp) (fun p hp => ?_), ?_⟩
  · have := cel_tov I (I.ins (p := p) (by rw [hp]; exact lt_ne s))
    show cel (tov B w) (p.2, p.1) = _
    rw [this, hp, lt_oth]
  · cases s
    · exact hp
    · exact hp
  · cases s
    · exact e
    · exact e
/-- boards of one size with the same cells are one -/
theorem bd_ext {B B' : Bd} {h w : Nat} (I : IsB B h w) (I' : IsB B' h w) (k : ∀ p, Ins h w p → cel B p = cel B' p) : B = B' := by
  refine List.ext_getElem (by rw [I.hh, I'.hh]) fun i h1 h2 => ?_
  have hi : i < h := by rw [← I.hh]; exact h1
  refine List.ext_getElem (by rw [I.ww _ (List.getElem_mem h1), I'.ww _ (List.getElem_mem h2)]) fun j g1 g2 => ?_
  have hj : j < w := by rw [← I.ww _ (List.getElem_mem h1)]; exact g1
  have := k ((i : Int), (j : Int)) ⟨by show (0 : Int) ≤ (i : Int); omega, by show (i : Int) < h; omega, by show (0 : Int) ≤ (j : Int); omega, by show (j : Int) < w; omega⟩
  rw [cel_row (r := B[i]) (p := ((i : Int), (j : Int))) (by show (0 : Int) ≤ (i : Int); omega) (by show (0 : Int) ≤ (j : Int); omega) (by show B[((i : Nat) : Int).toNat]? = _; rw [Int.toNat_natCast]; exact List.getElem?_eq_getElem h1),
    cel_row (r := B'[i]) (p := ((i : Int), (j : Int))) (by show (0 : Int) ≤ (i : Int); omega) (by show (0 : Int) ≤ (j : Int); omega) (by show B'[((i : Nat) : Int).toNat]? = _; rw [Int.toNat_natCast]; exact List.getElem?_eq_getElem h2)] at this
  have e1 : (B[i][((i : Int), (j : Int)).2.toNat]?).getD 0 = B[i][j] := by
    show (B[i][((j : Nat) : Int).toNat]?).getD 0 = _
    rw [Int.toNat_natCast, List.getElem?_eq_getElem g1]
    rfl
  have e2 : (B'[i][((i : Int), (j : Int)).2.toNat]?).getD 0 = B'[i][j] := by
    show (B'[i][((j : Nat) : Int).toNat]?).getD 0 = _
    rw [Int.toNat_natCast, List.getElem?_eq_getElem g2]
    rfl
  rw [e1, e2] at this
  exact this
theorem tov_tov {B : Bd} {h w : Nat} (I : IsB B h w) : tov (tov B w) h = B := by
  have I1 := tov_is I
  have I2 := tov_is I1
  refine bd_ext I2 I fun p hp => ?_
  have hp' : Ins w h (p.2, p.1) := ⟨hp.2.2.1, hp.2.2.2, hp.1, hp.2.1⟩
  have e1 := cel_tov I1 hp'
  have e2 := cel_tov I hp
  have e3 : cel (tov (tov B w) h) p = oth (cel (tov B w) (p.2, p.1)) := e1
  rw [e3, e2, oth_oth]
  obtain ⟨_, _, _, _, _, ok⟩ := I.at hp
  exact ok
theorem jB_turn {B : Bd} {h w : Nat} (I : IsB B h w) (s : Bool) : jB (tov B w) (!s) = jB B s := by
  rw [Bool.eq_iff_iff, jB_iff (tov_is I), jB_iff I]
  constructor
  · intro j
    have := turn_one (tov_is I) j
    rw [tov_tov I, Bool.not_not] at this
    exact this
  · exact turn_one I
/-- more stones of a hand: what was joined stays so -/
theorem joined_more {g g' : Cell → Nat} {h w : Nat} {s : Bool} (k : ∀ p, g p = lt s → g' p = lt s) (j : Joined g h w s) : Joined g' h w s := by
  obtain ⟨c, r, e⟩ := j
  exact ⟨c, r.map id (fun p hp => k p hp) (fun p q hq => hq) (fun p hp => hp), e⟩
theorem jB_put {B : Bd} {h w : Nat} (I : IsB B h w) {p : Cell} (hp : Ins h w p) {s : Bool} (j : jB B s = true) : jB (putB B p (lt s)) s = true := by
  rw [jB_iff (putB_is I p (by cases s <;> simp [lt]))]
  rw [jB_iff I] at j
  refine joined_more (fun q hq => ?_) j
  rw [cel_put I hp]
  by_cases e : q = p
  · rw [if_pos e]
  · rw [if_neg e]
    exact hq
theorem jB_put_oth {B : Bd} {h w : Nat} (I : IsB B h w) {p : Cell} (hp : Ins h w p) {s : Bool} (j : jB (putB B p (lt s)) (!s) = true) : jB B (!s) = true := by
  rw [jB_iff (putB_is I p (by cases s <;> simp [lt]))] at j
  rw [jB_iff I]
  refine joined_more (fun q hq => ?_) j
  rw [cel_put I hp] at hq
  by_cases e : q = p
  · rw [if_pos e] at hq
    have := lt_inj hq
    cases s <;> cases this
  · rw [if_neg e] at hq
    exact hq
theorem jB_both {B : Bd} {h w : Nat} (I : IsB B h w) {s : Bool} (a : jB B s = true) (b : jB B (!s) = true) : False := by
  cases s
  · exact never_both I.sup ((jB_iff I _).mp a) ((jB_iff I _).mp b)
  · exact never_both I.sup ((jB_iff I _).mp b) ((jB_iff I _).mp a)
end Sw
/-! How many different cells a list has. -/
namespace Sw
open PySem PySem.Spec PyProof.Rows L2
theorem sub_len {α : Type} [DecidableEq α] : ∀ {l m : List α}, l.Nodup → (∀ x ∈ l, x ∈ m) → l.length ≤ m.length
  | [], _, _, _ => Nat.zero_le _
  | a :: l, m, hn, hs => by
    rw [List.nodup_cons] at hn
    have h1 : l.length ≤ (m.erase a).length := sub_len hn.2 fun x hx => by
      have ne : x ≠ a := fun z => hn.1 (z ▸ hx)
      exact (List.mem_erase_of_ne ne).mpr (hs x (List.mem_cons_of_mem _ hx))
    have h2 := List.length_erase_of_mem (hs a List.mem_cons_self)
    have h3 : 0 < m.length := List.length_pos_of_mem (hs a List.mem_cons_self)
    rw [List.length_cons]
    omega
def cellI (c : Cell) : List Int := [c.1, c.2]
theorem cellI_inj {a b : Cell} (h : cellI a = cellI b) : a = b := Prod.ext (List.cons.inj h).1 (List.cons.inj (List.cons.inj h).2).1
/-- the cells with their addresses -/
theorem Cells.keys {H : Hp} : ∀ {ws : List V} {cs : List Cell}, Cells H ws cs → ∃ ks : List (Addr × List Int), ws = ks.map (fun p => V.ref p.1) ∧ ks.map (·.2) = cs.map cellI ∧ ∀ p ∈ ks, H p.1 = some (.tup (p.2.map V.int))
  | _, _, .nil => ⟨[], rfl, rfl, fun p hp => nomatch hp⟩
  | _, _, .cons (a := a) (c := c) h t => by
    obtain ⟨ks, e1, e2, e3⟩ := Cells.keys t
    refine ⟨(a, cellI c) :: ks, by rw [e1]; rfl, by rw [List.map_cons, List.map_cons, e2], fun p hp => ?_⟩
    rcases List.mem_cons.mp hp with rfl | hp
    · exact h
    · exact e3 p hp
def tLenSetC (ta : TE) : TE := fun σ H Q => ta σ H fun x H1 => ∃ (l : Addr) (ws : List V) (cs : List Cell), x = .ref l ∧ H1 l = some (.lst ws) ∧ Cells H1 ws cs ∧ cs.Nodup ∧ cs.length < 64 ∧ Q (.int ((cs.length : Nat) : Int)) H1
theorem pe_lenSetC {X : Cx} {a : Expr} {ta : TE} {p p2 q pos : Pos} (hg : Gl X "len") (hm : X.mg "len" = none) (hg2 : Gl X "set") (hm2 : X.mg "set" = none) (hu : X.A.units + 65 < cLine) (ha : PE X a ta) (hc : X.calm = true := by rfl)
    (na : starEach [a] X.env = (false, eval a X.env) :: starEach [] X.env := by rfl) : PE X (.Call (.Name "len" p) [.Call (.Name "set" p2) [a] [] q] [] pos) (tLenSetC ta) := by
  refine ⟨fun pins s σ H Q I h => ?_⟩
  refine Call_ (ld_blt I hg hm boot_len ?_)
  refine PyProof.Rows.callWith_builtin1 (PyProof.Rows.args_cons ?_ rfl) rfl rfl
  refine Call_ (ld_blt I hg2 hm2 boot_set ?_)
  refine PyProof.Rows.callWith_type1 (PyProof.Rows.args_cons (thn (ha.run pins s σ H _ I h) fun v s1 ⟨x, H1, I1, r1, q1⟩ => PyProof.Rows.args_nil ?_) na) na rfl
  obtain ⟨l, ws, cs, rfl, hq, hcs, hnd, hl, q1⟩ := q1
  cases r1
  obtain ⟨ks, rfl, e2, e3⟩ := hcs.keys
  have lks : ks.length = cs.length := by
    have := congrArg List.length e2
    rw [List.length_map, List.length_map] at this
    exact this
  obtain ⟨its, r, pl, hz⟩ := I1.list (SqL.of (K := X.K) hq)
  refine call_set_tups (P := X.prog) (w := X.w) ks (I1.ok.hd hc) pl.isList (by simpa using refs_of_vals r) (fun p hp => Inv.isT I1 (SqT.of (e3 p hp))) (by omega) (by omega) fun h' tk L es ep t R g k => ?_
  refine PyProof.Rows.args_nil ?_
  have ndk : (ks.map (·.2)).Nodup := by
    rw [e2]
    have gen : ∀ {l : List Cell}, l.Nodup → (l.map cellI).Nodup := by
      intro l
      induction l with
      | nil => exact fun _ => List.nodup_nil
      | cons a l ih =>
        intro h
        rw [List.nodup_cons] at h
        rw [List.map_cons, List.nodup_cons]
        refine ⟨fun hm => ?_, ih h.2⟩
        obtain ⟨b, hb, e⟩ := List.mem_map.mp hm
        exact h.1 (cellI_inj e ▸ hb)
    exact gen hnd
  have l1 := sub_len ndk (m := L.map (·.2)) fun x hx => by
    obtain ⟨p, hp, rfl⟩ := List.mem_map.mp hx
    exact g.all p (by rw [List.take_length]; exact hp)
  rw [List.length_map, List.length_map] at l1
  have l2 := g.len
  have lL : es.size = cs.length := by
    have := R.size (s := { s1 with heap := h', toks := tk })
    omega
  obtain ⟨o, ho, hex, hd⟩ := R.ob
  have I2 : Inv X pins σ H1 { s1 with heap := h', toks := tk } := I1.kept k
  exact call_len_set ho hex hd (R.fits (s := { s1 with heap := h', toks := tk })) (by omega) ⟨.int ((cs.length : Nat) : Int), H1, I2.tok _, ⟨_, by rw [lL]⟩, q1⟩
end Sw
/-! A dict whose keys are pairs of a board's rows and a hand. -/
namespace Sw
open PySem PySem.Spec PyProof.Rows L2
/-- the key of a board and a hand -/
def kB (B : Bd) (s : Bool) : NestedKey := .tup [.tup (B.map fun r => .text (txt r)), .text (txt [lt s])]
theorem kB_inj {B C : Bd} {s t : Bool} (h : kB B s = kB C t) : B = C ∧ s = t := by
  unfold kB at h
  injection h with h
  injection h with h1 h2
  injection h1 with h1
  injection h2 with h2 _
  injection h2 with h2
  have e := (List.cons.inj (txt_inj h2)).1
  refine ⟨?_, by cases s <;> cases t <;> first | rfl | exact absurd e (by decide)⟩
  revert C
  induction B with
  | nil => intro C h; cases C with
    | nil => rfl
    | cons _ _ => exact nomatch h
  | cons r B ih => intro C h; cases C with
    | nil => exact nomatch h
    | cons q C =>
      rw [List.map_cons, List.map_cons] at h
      injection h with a b
      injection a with a
      rw [txt_inj a, ih b]
abbrev MX := List (NestedKey × Addr × Value)
/-- the entries of the dict at d -/
def rawM (w : World) (d : Addr) (xs : MX) : Heap → Prop := fun h =>
  ∃ o es ep, h.get? d = some o ∧ o.ExactDict ∧ o.data = .dict es ep ∧ es.toList = xs.map (fun z => (⟨z.1.hash w, .ref z.2.1, z.2.2⟩ : DictEntry)) ∧ (xs.map (·.1)).Nodup
abbrev MO (w : World) (d : Addr) (xs : MX) : HO := .ext (rawM w d xs)
/-- at b stands the key of B and s -/
def KeyAt (H : Hp) (b : Addr) (B : Bd) (s : Bool) : Prop := ∃ r, H b = some (.tup [.ref r, .str (txt [lt s])]) ∧ H r = some (.tup (rowsV B))
/-- a memo stands at d -/
structure MemoAt (w : World) (H : Hp) (d : Addr) (xs : MX) : Prop where
  sys : (d == sysModules) = false
  ob : H d = some (MO w d xs)
  keys : ∀ z ∈ xs, ∃ B s, z.1 = kB B s ∧ KeyAt H z.2.1 B s
theorem KeyAt.keeps {H H' : Hp} {b : Addr} {B : Bd} {s : Bool} (k : KeyAt H b B s) (ht : ∀ b ys, H b = some (.tup ys) → H' b = some (.tup ys)) : KeyAt H' b B s := by
  obtain ⟨r, h1, h2⟩ := k
  exact ⟨r, ht _ _ h1, ht _ _ h2⟩
theorem MemoAt.same {w : World} {H H' : Hp} {d : Addr} {xs : MX} (m : MemoAt w H d xs) (s : Same H H') : MemoAt w H' d xs :=
  ⟨m.sys, s _ _ m.ob, fun z hz => by
    obtain ⟨B, t, e, k⟩ := m.keys z hz
    exact ⟨B, t, e, k.keeps fun b ys h => s _ _ h⟩⟩
theorem rows_all {h : Heap} : ∀ {B : Bd} {its : List Value}, Vals (rowsV B) its → NestedAll h (B.map fun r => .text (txt r)) its
  | [], _, .nil => .nil
  | r :: B, _, .cons e t => by
    obtain ⟨n, rfl⟩ := (show ∃ n, _ = Value.str (txt r) n from e)
    exact .cons (.text _ _) (rows_all t)
theorem depth_rows : ∀ B : Bd, NestedKey.depthAll (B.map fun r => .text (txt r)) = 0
  | [] => rfl
  | r :: B => by
    rw [List.map_cons]
    show max 0 (NestedKey.depthAll (B.map fun r => .text (txt r))) = 0
    rw [depth_rows B]
    rfl
theorem depth_kB (B : Bd) (s : Bool) : (kB B s).depth ≤ 8 := by
  unfold kB
  simp only [NestedKey.depth, NestedKey.depthAll, depth_rows]
  decide
theorem KeyAt.is {P : Program} {w : World} {H : Hp} {h : Heap} {b : Addr} {B : Bd} {s : Bool} (ok : HOk P w H h) (k : KeyAt H b B s) : (nestedKind P w).is h (kB B s) b := by
  obtain ⟨r, h1, h2⟩ := k
  obtain ⟨_, its, v1, o, g1, g2, n, g3⟩ := (show ObjOk P w H h b (.tup _) from ok b _ h1)
  obtain ⟨_, its2, v2, o2, k1, k2, n2, k3⟩ := (show ObjOk P w H h r (.tup _) from ok r _ h2)
  refine ⟨.tup g1 g2 g3 ?_, depth_kB B s⟩
  cases v1 with
  | cons e1 t1 => cases t1 with
    | cons e2 t2 => cases t2 with
      | nil =>
        obtain rfl := (show _ = Value.ref r from e1)
        obtain ⟨n3, rfl⟩ := (show ∃ n, _ = Value.str (txt [lt s]) n from e2)
        exact .cons (.tup k1 k2 k3 (by simpa using rows_all v2)) (.cons (.text _ _) .nil)
theorem MemoAt.dict {P : Program} {w : World} {H : Hp} {h : Heap} {d : Addr} {xs : MX} (ok : HOk P w H h) (m : MemoAt w H d xs) : h.DictOfH (nestedKind P w) d xs := by
  obtain ⟨⟨o, es, ep, h1, h2, h3, h4, h5⟩, _, _⟩ := (show ObjOk P w H h d (MO w d xs) from ok d _ m.ob)
  refine ⟨o, es, ep, h1, h2, h3, h4, fun z hz => ?_, h5⟩
  obtain ⟨B, s, e, k⟩ := m.keys z hz
  rw [e]
  exact k.is ok
theorem rawM_stays {w : World} {d : Addr} {xs : MX} : ∀ h1 h2 : Heap, rawM w d xs h1 → (∀ o, h1.get? d = some o → h2.get? d = some o) → rawM w d xs h2 :=
  fun h1 h2 ⟨o, es, ep, g, c⟩ k => ⟨o, es, ep, k _ g, c⟩
theorem mo_ok {P : Program} {w : World} {H : Hp} {h : Heap} {d : Addr} {xs : MX} (r : rawM w d xs h) : ObjOk P w H h d (MO w d xs) :=
  ⟨r, by obtain ⟨o, _, _, g, _⟩ := r; exact ⟨o, g⟩, rawM_stays⟩
theorem mem_storedH {xs : MX} {k : NestedKey} {b : Addr} {v : Value} {z : NestedKey × Addr × Value} (h : z ∈ storedH xs k b v) : (z ∈ xs ∧ z.1 ≠ k) ∨ (z.1 = k ∧ z.2.2 = v ∧ (z.2.1 = b ∨ ∃ q ∈ xs, q.1 = k ∧ q.2.1 = z.2.1)) := by
  unfold storedH at h
  by_cases q : (atKey xs k).isSome = true
  · rw [if_pos q] at h
    obtain ⟨y, hy, e⟩ := List.mem_map.mp h
    unfold putAt at e
    by_cases ek : y.1 = k
    · rw [if_pos ek] at e
      subst e
      exact .inr ⟨ek, rfl, .inr ⟨y, hy, ek, rfl⟩⟩
    · rw [if_neg ek] at e
      subst e
      exact .inl ⟨hy, ek⟩
  · rw [if_neg q] at h
    rcases List.mem_append.mp h with h | h
    · refine .inl ⟨h, fun e => q ?_⟩
      unfold atKey
      rw [Option.isSome_map]
      rw [List.find?_isSome]
      exact ⟨z, h, by simpa using e⟩
    · rw [List.mem_singleton] at h
      subst h
      exact .inr ⟨rfl, rfl, .inl rfl⟩
theorem len_storedH {xs : MX} {k : NestedKey} {b : Addr} {v : Value} : (storedH xs k b v).length ≤ xs.length + 1 := by
  unfold storedH
  split
  · rw [List.length_map]; omega
  · rw [List.length_append]; exact Nat.le_refl _
theorem tups_upd {w : World} {H : Hp} {d : Addr} {xs : MX} {o : HO} (h : H d = some (MO w d xs)) : ∀ b ys, H b = some (.tup ys) → upd H d o b = some (.tup ys) := fun b ys e => by
  rw [upd_ne (ne_of e h (fun z => nomatch z))]
  exact e
theorem MemoAt.put {w : World} {H : Hp} {d : Addr} {xs : MX} {b : Addr} {B : Bd} {s : Bool} {v : Value} (m : MemoAt w H d xs) (k : KeyAt H b B s) :
    MemoAt w (upd H d (MO w d (storedH xs (kB B s) b v))) d (storedH xs (kB B s) b v) := by
  refine ⟨m.sys, upd_same, fun z hz => ?_⟩
  rcases mem_storedH hz with ⟨hz, _⟩ | ⟨e, _, hz⟩
  · obtain ⟨C, t, e, k2⟩ := m.keys z hz
    exact ⟨C, t, e, k2.keeps (tups_upd m.ob)⟩
  · rcases hz with hz | ⟨q, hq, eq, ez⟩
    · rw [hz]
      exact ⟨B, s, e, k.keeps (tups_upd m.ob)⟩
    · obtain ⟨C, t, e2, k2⟩ := m.keys q hq
      refine ⟨C, t, e.trans (eq.symm.trans e2), ?_⟩
      rw [← ez]
      exact k2.keeps (tups_upd m.ob)
theorem at_mem {xs : MX} {k : NestedKey} {p : Addr × Value} (h : atKey xs k = some p) : (k, p) ∈ xs := by
  unfold atKey at h
  obtain ⟨z, hz, e⟩ := Option.map_eq_some_iff.mp h
  have h1 := List.mem_of_find?_eq_some hz
  have h2 := List.find?_some hz
  have h3 : z.1 = k := by simpa using h2
  subst e h3
  exact h1
theorem at_map {k : NestedKey} {v : Value} : ∀ {xs : MX}, (atKey xs k).isSome = true → ∃ c, atKey (xs.map (putAt k v)) k = some (c, v)
  | [], q => by simp [atKey] at q
  | y :: r, q => by
    rw [List.map_cons]
    by_cases e : y.1 = k
    · refine ⟨y.2.1, ?_⟩
      have : putAt k v y = (y.1, y.2.1, v) := if_pos e
      rw [this]
      simp [atKey, List.find?_cons, e]
    · have e1 : putAt k v y = y := if_neg e
      rw [e1]
      have e2 : ∀ l : MX, atKey (y :: l) k = atKey l k := fun l => by simp [atKey, List.find?_cons, e]
      rw [e2] at q
      rw [e2]
      exact at_map q
theorem at_stored {xs : MX} {k : NestedKey} {b : Addr} {v : Value} : ∃ c, atKey (storedH xs k b v) k = some (c, v) := by
  unfold storedH
  by_cases q : (atKey xs k).isSome = true
  · rw [if_pos q]
    exact at_map q
  · rw [if_neg q]
    refine ⟨b, ?_⟩
    have : xs.find? (fun x => decide (x.1 = k)) = none := by
      cases g : xs.find? (fun x => decide (x.1 = k)) with
      | none => rfl
      | some y => exact absurd (by unfold atKey; rw [g]; rfl) q
    unfold atKey
    rw [List.find?_append, this]
    simp

/-! ### readings and rules -/
def tNNew (w : World) : TE := fun _ H Q => ∀ p, H p = none → (p == sysModules) = false → Q (.ref p) (upd H p (MO w p []))
def tNIn (w : World) (ty td : TE) : TE := fun σ H Q => ty σ H fun y H1 => td σ H1 fun x H2 => ∃ (b : Addr) (B : Bd) (s : Bool) (d : Addr) (xs : MX), y = .ref b ∧ x = .ref d ∧ KeyAt H2 b B s ∧ MemoAt w H2 d xs ∧ Q (.bl (atKey xs (kB B s)).isSome) H2
def tNNotIn (w : World) (ty td : TE) : TE := fun σ H Q => ty σ H fun y H1 => td σ H1 fun x H2 => ∃ (b : Addr) (B : Bd) (s : Bool) (d : Addr) (xs : MX), y = .ref b ∧ x = .ref d ∧ KeyAt H2 b B s ∧ MemoAt w H2 d xs ∧ Q (.bl (!(atKey xs (kB B s)).isSome)) H2
def tNGet (w : World) (td ty : TE) : TE := fun σ H Q => td σ H fun x H1 => ty σ H1 fun y H2 => ∃ (b : Addr) (B : Bd) (s : Bool) (d : Addr) (xs : MX) (c : Addr) (v : Bool), y = .ref b ∧ x = .ref d ∧ KeyAt H2 b B s ∧ MemoAt w H2 d xs ∧ atKey xs (kB B s) = some (c, .bool v) ∧ Q (.bl v) H2
def sNPut (w : World) (td ty tv : TE) : TS := fun D σ H => tv σ H fun v H1 => td σ H1 fun x H2 => ty σ H2 fun y H3 => ∃ (b : Addr) (B : Bd) (s : Bool) (d : Addr) (xs : MX) (u : Bool), v = .bl u ∧ y = .ref b ∧ x = .ref d ∧ KeyAt H3 b B s ∧ MemoAt w H3 d xs ∧ xs.length ≤ sizeLine ∧ D.nx σ (upd H3 d (MO w d (storedH xs (kB B s) b (.bool u))))
section
variable {X : Cx} {o i e value : Expr} {pos pos' tpos : Pos} {td ty tv : TE}
theorem pe_dnewN : PE X (.Dict [] [] pos) (tNNew X.w) := ⟨fun pins s σ H Q I h => by
  have ns : (s.heap.objs.size == sysModules) = false := beq_eq_false_iff_ne.mpr (Ne.symm (Nat.ne_of_lt I.big))
  exact wpAny_Dict_empty ⟨.ref s.heap.objs.size, _, I.laid (a := s.heap.objs.size) (o := MO X.w s.heap.objs.size []) (t' := s.toks) (fun _ _ q => Heap.get?_push_of_some _ q) (Nat.le_refl _)
    (mo_ok ⟨_, #[], 0, Heap.get?_push_size _ rfl, ⟨rfl, rfl, rfl⟩, rfl, rfl, List.nodup_nil⟩), rfl, h _ (I.hok.fresh (Nat.le_refl _)) ns⟩⟩
theorem room8 {A : Around} (hu : A.units + 65 < cLine) {P : Program} {w : World} : (nestedKind P w).room A.in1 := by
  show A.in1.units + 8 < cLine
  rw [Around.in1_units]
  omega
theorem pc_nin (hu : X.A.units + 65 < cLine) (hi : PE X i ty) (ho : PE X o td) : PC X .In i o (tNIn X.w ty td) := by
  refine ⟨fun pins s σ H Q I h => ?_⟩
  refine thn (hi.run pins s σ H _ I h) fun iv s1 ⟨y, H1, I1, ry, q1⟩ => thn (ho.run pins s1 σ H1 _ I1 q1) fun u s2 ⟨x, H2, I2, rx, b, B, t, d, xs, ey, ex, k, m, q2⟩ => ?_
  subst ex ey
  obtain rfl : u = Value.ref d := rx
  obtain rfl : iv = Value.ref b := ry
  exact wpAny_in_heap (room8 hu) (k.is I2.hok) m.sys (m.dict I2.hok) ⟨.bl (atKey xs (kB B t)).isSome, H2, I2.tok _, rfl, q2⟩
theorem pc_nnotin (hu : X.A.units + 65 < cLine) (hi : PE X i ty) (ho : PE X o td) : PC X .NotIn i o (tNNotIn X.w ty td) := by
  refine ⟨fun pins s σ H Q I h => ?_⟩
  refine thn (hi.run pins s σ H _ I h) fun iv s1 ⟨y, H1, I1, ry, q1⟩ => thn (ho.run pins s1 σ H1 _ I1 q1) fun u s2 ⟨x, H2, I2, rx, b, B, t, d, xs, ey, ex, k, m, q2⟩ => ?_
  subst ex ey
  obtain rfl : u = Value.ref d := rx
  obtain rfl : iv = Value.ref b := ry
  exact wpAny_notIn_heap (room8 hu) (k.is I2.hok) m.sys (m.dict I2.hok) ⟨.bl (!(atKey xs (kB B t)).isSome), H2, I2.tok _, rfl, q2⟩
theorem pe_nget (hu : X.A.units + 65 < cLine) (ho : PE X o td) (hi : PE X i ty) (hs : NoSl i) : PE X (.Subscript o i pos) (tNGet X.w td ty) := by
  refine ⟨fun pins s σ H Q I h => ?_⟩
  refine subD_of PySem.F.slot_dict_getitem.lookup hs (thn (ho.run pins s σ H _ I h) fun u s1 ⟨x, H1, I1, rx, q1⟩ => thn (hi.run pins s1 σ H1 _ I1 q1) fun iv s2 ⟨y, H2, I2, ry, b, B, t, d, xs, c, v, ey, ex, k, m, g, q2⟩ => ?_)
  subst ex ey
  obtain rfl : u = Value.ref d := rx
  obtain rfl : iv = Value.ref b := ry
  refine ⟨(m.dict I2.hok).typeIs, wpAny_getItem_heap (room8 hu) (k.is I2.hok) (m.dict I2.hok) g ?_⟩
  exact ⟨.bl v, H2, I2.tok _, rfl, q2⟩
theorem ps_nput (hu : X.A.units + 65 < cLine) (ho : PE X o td) (hi : PE X i ty) (hv : PE X value tv) (hs : swapsWith value (some (.Subscript o i pos')) pos.line X.env = pure false) :
    PS X (.Assign [.Subscript o i pos'] value pos) (sNPut X.w td ty tv) := by
  refine ⟨fun pins s σ H D I h => ?_⟩
  refine wpAny_Assign_Subscript (thn (hv.run pins s σ H _ I h) fun r s1 ⟨v, H1, I1, rv, q1⟩ => thn (ho.run pins s1 σ H1 _ I1 q1) fun u s2 ⟨x, H2, I2, rx, q2⟩ => thn (hi.run pins s2 σ H2 _ I2 q2) fun iv s3 ⟨y, H3, I3, ry, b, B, t, d, xs, ub, ev, ey, ex, k, m, hl, q3⟩ => ?_) hs
  subst ev ex ey
  obtain rfl : u = Value.ref d := rx
  obtain rfl : iv = Value.ref b := ry
  obtain rfl : r = Value.bool ub := rv
  refine wpAny_setItem_heap (hsz := hl) (room8 hu) (k.is I3.hok) (m.dict I3.hok) fun h' dd' hs => ?_
  obtain ⟨q, es, ep, hq, h2, h3, h4, _, h5⟩ := dd'
  exact ⟨σ, _, d_write I3 (by rw [m.ob]; exact True.intro) hs ⟨q, hq⟩ (mo_ok ⟨q, es, ep, hq, h2, h3, h4, h5⟩), q3⟩
end
end Sw
/-! Who can win, by all replies. -/
namespace Sw
open PySem PySem.Spec PyProof.Rows L2
/-! ### the empty cells come once -/
theorem rowE_nodup (y : Nat) (r : List Nat) : (rowE y r).Nodup := by
  unfold rowE
  refine nodup_map (List.filter_sublist.nodup List.nodup_range) (fun a _ b _ e => ?_)
  have := congrArg Prod.snd e
  exact Int.ofNat.inj this
theorem emptyTo_lt {B : Bd} : ∀ {n : Nat} {p : Cell}, p ∈ emptyTo B n → p.1 < n
  | 0, _, h => nomatch h
  | n + 1, p, h => by
    rw [emptyTo_succ] at h
    rcases List.mem_append.mp h with h | h
    · have := emptyTo_lt h
      omega
    · have := (mem_rowE.mp h).1
      omega
theorem emptyTo_nodup (B : Bd) : ∀ n, (emptyTo B n).Nodup
  | 0 => List.nodup_nil
  | n + 1 => by
    rw [emptyTo_succ]
    refine List.nodup_append.mpr ⟨emptyTo_nodup B n, rowE_nodup _ _, fun a ha b hb e => ?_⟩
    subst e
    have h1 := emptyTo_lt ha
    have h2 := (mem_rowE.mp hb).1
    omega
theorem emptyL_nodup (B : Bd) : (emptyL B).Nodup := emptyTo_nodup B _
theorem lt_ne46 (s : Bool) : lt s ≠ 46 := by cases s <;> decide
theorem empty_ins {B : Bd} {h w : Nat} (I : IsB B h w) {c : Cell} (hc : c ∈ emptyL B) : Ins h w c := I.ins (by rw [mem_emptyL.mp hc]; decide)
theorem empty_put {B : Bd} {h w : Nat} (I : IsB B h w) {c : Cell} (hc : c ∈ emptyL B) (s : Bool) : (emptyL (putB B c (lt s))).length + 1 ≤ (emptyL B).length := by
  have ins := empty_ins I hc
  have nd : (c :: emptyL (putB B c (lt s))).Nodup := by
    refine List.nodup_cons.mpr ⟨fun z => ?_, emptyL_nodup _⟩
    have := mem_emptyL.mp z
    rw [cel_put I ins, if_pos rfl] at this
    exact lt_ne46 s this
  refine sub_len (m := emptyL B) nd (fun x hx => ?_)
  rcases List.mem_cons.mp hx with rfl | hx
  · exact hc
  · have := mem_emptyL.mp hx
    rw [cel_put I ins] at this
    by_cases e : x = c
    · rw [e]
      exact hc
    · rw [if_neg e] at this
      exact mem_emptyL.mpr this
/-! ### who can win -/
noncomputable def winsN : Nat → Bd → Bool → Bool
  | 0, _, _ => false
  | n + 1, B, s => (emptyL B).any fun c => jB (putB B c (lt s)) s || !winsN n (putB B c (lt s)) (!s)
noncomputable def wins (B : Bd) (s : Bool) : Bool := winsN (emptyL B).length B s
/-- a stone on c wins -/
noncomputable def winsBy (B : Bd) (s : Bool) (c : Cell) : Bool := jB (putB B c (lt s)) s || !wins (putB B c (lt s)) (!s)
theorem any_cong {α : Type} {f g : α → Bool} : ∀ {l : List α}, (∀ x ∈ l, f x = g x) → l.any f = l.any g
  | [], _ => rfl
  | a :: l, h => by rw [List.any_cons, List.any_cons, h a List.mem_cons_self, any_cong fun x hx => h x (List.mem_cons_of_mem _ hx)]
theorem winsN_stab : ∀ (n m : Nat) {B : Bd} {h w : Nat} (s : Bool), IsB B h w → (emptyL B).length ≤ n → (emptyL B).length ≤ m → winsN n B s = winsN m B s
  | 0, 0, _, _, _, _, _, _, _ => rfl
  | 0, m + 1, B, _, _, s, _, h0, _ => by
    have : emptyL B = [] := List.length_eq_zero_iff.mp (by omega)
    unfold winsN
    rw [this]
    rfl
  | n + 1, 0, B, _, _, s, _, _, h0 => by
    have : emptyL B = [] := List.length_eq_zero_iff.mp (by omega)
    unfold winsN
    rw [this]
    rfl
  | n + 1, m + 1, B, h, w, s, I, h1, h2 => by
    unfold winsN
    refine any_cong fun c hc => ?_
    have := empty_put I hc s
    rw [winsN_stab n m (!s) (putB_is I c (by have := lt_ok s; omega)) (by omega) (by omega)]
theorem wins_eq {B : Bd} {h w : Nat} (I : IsB B h w) (s : Bool) : wins B s = (emptyL B).any (winsBy B s) := by
  have e1 : wins B s = winsN ((emptyL B).length + 1) B s := winsN_stab _ _ s I (Nat.le_refl _) (by omega)
  rw [e1]
  unfold winsN
  refine any_cong fun c hc => ?_
  have := empty_put I hc s
  unfold winsBy
  have e2 : winsN (emptyL B).length (putB B c (lt s)) (!s) = wins (putB B c (lt s)) (!s) := winsN_stab _ _ (!s) (putB_is I c (by have := lt_ok s; omega)) (by omega) (Nat.le_refl _)
  rw [e2]
/-- how many entries it may lay down -/
def pn : Nat → Nat
  | 0 => 1
  | n + 1 => 1 + (n + 1) * pn n
theorem pn_pos (n : Nat) : 1 ≤ pn n := by
  cases n with
  | zero => exact Nat.le_refl _
  | succ n => unfold pn; omega
theorem pn_mono (n : Nat) : pn n ≤ pn (n + 1) := by
  show pn n ≤ 1 + (n + 1) * pn n
  rw [Nat.add_mul]
  omega
/-! ### the memo tells the truth -/
/-- all but d stays -/
def SameX (d : Addr) (H H' : Hp) : Prop := ∀ b o, b ≠ d → H b = some o → H' b = some o
theorem SameX.of {d : Addr} {H H' : Hp} (s : Same H H') : SameX d H H' := fun b o _ h => s b o h
theorem SameX.trans {d : Addr} {H H' H'' : Hp} (a : SameX d H H') (b : SameX d H' H'') : SameX d H H'' := fun x o n h => b x o n (a x o n h)
theorem SameX.upd {d : Addr} {H H' : Hp} (a : SameX d H H') (o : HO) : SameX d H (upd H' d o) := fun b u n h => by
  rw [upd_ne n]
  exact a b u n h
theorem SameX.same {d : Addr} {H0 H H' : Hp} (k : SameX d H H') (s : Same H0 H) (n : H0 d = none) : Same H0 H' := fun b o e => k b o (ne_of_none e n) (s b o e)
structure MemoW (wd : World) (H : Hp) (d : Addr) (xs : MX) : Prop where
  m : MemoAt wd H d xs
  t : ∀ z ∈ xs, ∀ B s, z.1 = kB B s → z.2.2 = .bool (wins B s)
theorem MemoW.same {wd : World} {H H' : Hp} {d : Addr} {xs : MX} (m : MemoW wd H d xs) (s : Same H H') : MemoW wd H' d xs := ⟨m.m.same s, m.t⟩
theorem MemoW.put {wd : World} {H : Hp} {d : Addr} {xs : MX} {b : Addr} {B : Bd} {s : Bool} (m : MemoW wd H d xs) (k : KeyAt H b B s) :
    MemoW wd (upd H d (MO wd d (storedH xs (kB B s) b (.bool (wins B s))))) d (storedH xs (kB B s) b (.bool (wins B s))) := by
  refine ⟨m.m.put k, fun z hz C t e => ?_⟩
  rcases mem_storedH hz with ⟨hz, _⟩ | ⟨e2, e3, _⟩
  · exact m.t z hz C t e
  · obtain ⟨rfl, rfl⟩ := kB_inj (e2.symm.trans e)
    exact e3
theorem MemoW.at {wd : World} {H : Hp} {d : Addr} {xs : MX} {B : Bd} {s : Bool} (m : MemoW wd H d xs) (h : (atKey xs (kB B s)).isSome = true) : ∃ c, atKey xs (kB B s) = some (c, .bool (wins B s)) := by
  obtain ⟨⟨c, v⟩, e⟩ := Option.isSome_iff_exists.mp h
  have := m.t _ (at_mem e) B s rfl
  have e2 : v = .bool (wins B s) := this
  exact ⟨c, by rw [e, e2]⟩
theorem MemoW.new {wd : World} {H : Hp} {p : Addr} (n : (p == sysModules) = false) : MemoW wd (upd H p (MO wd p [])) p [] :=
  ⟨⟨n, upd_same, fun z hz => nomatch hz⟩, fun z hz => nomatch hz⟩
theorem memo_tup {wd : World} {H : Hp} {d b : Addr} {xs : MX} {o : HO} (m : MemoW wd H d xs) (h : H b = some o) (n : ∀ φ, o ≠ .ext φ) : b ≠ d := ne_of h m.m.ob (n _)
theorem BoardAt.sameX {C : Addr} {wd : World} {H H' : Hp} {p l d : Addr} {B : Bd} {xs : MX} (b : BoardAt C H p l B) (s : SameX d H H') (m : MemoW wd H d xs) : BoardAt C H' p l B := by
  obtain ⟨⟨dx, h1⟩, h2⟩ := b
  exact ⟨⟨dx, s _ _ (memo_tup m h1 (fun _ z => nomatch z)) h1⟩, s _ _ (memo_tup m h2 (fun _ z => nomatch z)) h2⟩
theorem SameX.mut {d p : Addr} {H H' : Hp} {o : HO} (a : SameX d H H') (h : H p = none) : SameX d H (L2.upd H' p o) := fun b u n e => by
  show L2.upd H' p o b = some u
  rw [upd_ne (ne_of_none e h)]
  exact a b u n e
theorem MemoW.mut {wd : World} {H : Hp} {d p : Addr} {xs : MX} {o u : HO} (m : MemoW wd H d xs) (h : H p = some u) (nt : ∀ ys, u ≠ .tup ys) (nd : p ≠ d) : MemoW wd (upd H p o) d xs :=
  ⟨⟨m.m.sys, by rw [upd_ne (Ne.symm nd)]; exact m.m.ob, fun z hz => by
    obtain ⟨B, s, e, k⟩ := m.m.keys z hz
    exact ⟨B, s, e, k.keeps fun b ys hb => by rw [upd_ne (ne_of hb h (fun q => nt ys q.symm))]; exact hb⟩⟩, m.t⟩
theorem emptyL_len {B : Bd} {h w : Nat} (I : IsB B h w) : (emptyL B).length ≤ 81 := by
  have h1 := emptyTo_len I h (Nat.le_refl _)
  have h2 : h * w ≤ 9 * 9 := Nat.mul_le_mul I.h9 I.w9
  unfold emptyL
  rw [I.hh]
  omega
/-- from a heap in which the new thing at d was laid -/
theorem SameX.same' {d : Addr} {H H' : Hp} {o : HO} (k : SameX d (L2.upd H d o) H') (_ : Same H (L2.upd H d o)) (n : H d = none) : Same H H' := k.same (same_new n o) n
end Sw
/-! The walk along the border of the colours: it never comes back, it ends at one of two places, and what it has gone along joins a hand. Plain lists. -/
namespace Sw
/-- whose a place is: none, some false (the north hand's), some true -/
def own (g : Cell → Nat) (h w : Nat) (p : Cell) : Option Bool :=
  if Ins h w p then (if g p = 110 then some false else some true)
  else if (p.1 = -1 ∧ 0 ≤ p.2 ∧ p.2 ≤ (w : Int)) ∨ (p.1 = (h : Int) ∧ -1 ≤ p.2 ∧ p.2 < (w : Int)) then some false
  else if 0 ≤ p.1 ∧ p.1 < (h : Int) ∧ (p.2 = -1 ∨ p.2 = (w : Int)) then some true else none
def ahd (a b : Cell) : Cell := (a.1 + a.2 - b.2, b.1 + b.2 - a.1)
abbrev Pr := Cell × Cell
def st0 : Pr := ((-1, 0), (0, -1))
def stp (g : Cell → Nat) (h w : Nat) (x : Pr) : Option Pr := match own g h w (ahd x.1 x.2) with
  | none => none
  | some false => some (ahd x.1 x.2, x.2)
  | some true => some (x.1, ahd x.1 x.2)
section
variable {g : Cell → Nat} {h w : Nat}
/-- where a place of the north hand stands -/
def NAt (h w : Nat) (p : Cell) : Prop := Ins h w p ∨ (p.1 = -1 ∧ 0 ≤ p.2 ∧ p.2 ≤ (w : Int)) ∨ (p.1 = (h : Int) ∧ -1 ≤ p.2 ∧ p.2 < (w : Int))
def WAt (h w : Nat) (p : Cell) : Prop := Ins h w p ∨ (0 ≤ p.1 ∧ p.1 < (h : Int) ∧ (p.2 = -1 ∨ p.2 = (w : Int)))
theorem own_n {p : Cell} (e : own g h w p = some false) : (Ins h w p ∧ g p = 110) ∨ (p.1 = -1 ∧ 0 ≤ p.2 ∧ p.2 ≤ (w : Int)) ∨ (p.1 = (h : Int) ∧ -1 ≤ p.2 ∧ p.2 < (w : Int)) := by
  unfold own at e
  split at e
  · rename_i hi
    split at e
    · rename_i hg
      exact .inl ⟨hi, hg⟩
    · cases e
  · split at e
    · rename_i _ hs
      exact .inr hs
    · split at e <;> cases e
theorem own_w {p : Cell} (e : own g h w p = some true) : (Ins h w p ∧ g p ≠ 110) ∨ (0 ≤ p.1 ∧ p.1 < (h : Int) ∧ (p.2 = -1 ∨ p.2 = (w : Int))) := by
  unfold own at e
  split at e
  · rename_i hi
    split at e
    · cases e
    · rename_i hg
      exact .inl ⟨hi, hg⟩
  · split at e
    · cases e
    · split at e
      · rename_i hs
        exact .inr hs
      · cases e
theorem own_none {p : Cell} (e : own g h w p = none) : ¬ Ins h w p ∧ ¬ (p.1 = -1 ∧ 0 ≤ p.2 ∧ p.2 ≤ (w : Int)) ∧ ¬ (p.1 = (h : Int) ∧ -1 ≤ p.2 ∧ p.2 < (w : Int)) ∧ ¬ (0 ≤ p.1 ∧ p.1 < (h : Int) ∧ (p.2 = -1 ∨ p.2 = (w : Int))) := by
  unfold own at e
  split at e
  · split at e <;> cases e
  · rename_i hi
    split at e
    · cases e
    · rename_i hs
      split at e
      · cases e
      · rename_i ht
        exact ⟨hi, fun z => hs (.inl z), fun z => hs (.inr z), ht⟩
theorem ahd_near {a b : Cell} (k : b ∈ near6 a) : ahd a b ∈ near6 a ∧ ahd a b ∈ near6 b := by
  have e1 : (ahd a b).1 = a.1 + a.2 - b.2 := rfl
  have e2 : (ahd a b).2 = b.1 + b.2 - a.1 := rfl
  rcases near6_iff.mp k with ⟨x, y⟩ | ⟨x, y⟩ | ⟨x, y⟩ | ⟨x, y⟩ | ⟨x, y⟩ | ⟨x, y⟩
  · exact ⟨near6_iff.mpr (.inr (.inr (.inr (.inr (.inr ⟨by omega, by omega⟩))))), near6_iff.mpr (.inr (.inr (.inr (.inr (.inl ⟨by omega, by omega⟩)))))⟩
  · exact ⟨near6_iff.mpr (.inl ⟨by omega, by omega⟩), near6_iff.mpr (.inr (.inr (.inr (.inr (.inr ⟨by omega, by omega⟩)))))⟩
  · exact ⟨near6_iff.mpr (.inr (.inl ⟨by omega, by omega⟩)), near6_iff.mpr (.inl ⟨by omega, by omega⟩)⟩
  · exact ⟨near6_iff.mpr (.inr (.inr (.inl ⟨by omega, by omega⟩))), near6_iff.mpr (.inr (.inl ⟨by omega, by omega⟩))⟩
  · exact ⟨near6_iff.mpr (.inr (.inr (.inr (.inl ⟨by omega, by omega⟩)))), near6_iff.mpr (.inr (.inr (.inl ⟨by omega, by omega⟩)))⟩
  · exact ⟨near6_iff.mpr (.inr (.inr (.inr (.inr (.inl ⟨by omega, by omega⟩))))), near6_iff.mpr (.inr (.inr (.inr (.inl ⟨by omega, by omega⟩))))⟩
/-- round a cell of the board every place has an owner -/
theorem own_round {p q : Cell} (hp : Ins h w p) (k : q ∈ near6 p) (e : own g h w q = none) : False := by
  obtain ⟨a1, a2, a3, a4⟩ := own_none e
  obtain ⟨b1, b2, b3, b4⟩ := hp
  have c := near6_iff.mp k
  have d1 : -1 ≤ q.1 ∧ q.1 ≤ h ∧ -1 ≤ q.2 ∧ q.2 ≤ w := by omega
  by_cases r1 : 0 ≤ q.1
  · by_cases r2 : q.1 < h
    · by_cases r3 : 0 ≤ q.2
      · by_cases r4 : q.2 < w
        · exact a1 ⟨r1, r2, r3, r4⟩
        · exact a4 ⟨r1, r2, .inr (by omega)⟩
      · exact a4 ⟨r1, r2, .inl (by omega)⟩
    · exact a3 ⟨by omega, by omega, by omega⟩
  · exact a2 ⟨by omega, by omega, by omega⟩
structure Vld (g : Cell → Nat) (h w : Nat) (x : Pr) : Prop where
  n : own g h w x.1 = some false
  w : own g h w x.2 = some true
  nr : x.2 ∈ near6 x.1
theorem stp_n {x y : Pr} (e : stp g h w x = some y) : (own g h w (ahd x.1 x.2) = some false ∧ y = (ahd x.1 x.2, x.2)) ∨ (own g h w (ahd x.1 x.2) = some true ∧ y = (x.1, ahd x.1 x.2)) := by
  unfold stp at e
  split at e
  · cases e
  · rename_i k
    exact .inl ⟨k, (Option.some.inj e).symm⟩
  · rename_i k
    exact .inr ⟨k, (Option.some.inj e).symm⟩
theorem stp_none {x : Pr} (e : stp g h w x = none) : own g h w (ahd x.1 x.2) = none := by
  unfold stp at e
  split at e
  · assumption
  · cases e
  · cases e
theorem vld_stp {x y : Pr} (v : Vld g h w x) (e : stp g h w x = some y) : Vld g h w y := by
  obtain ⟨a1, a2⟩ := ahd_near v.nr
  rcases stp_n e with ⟨k, rfl⟩ | ⟨k, rfl⟩
  · exact ⟨k, v.w, near6_symm a2⟩
  · exact ⟨v.n, k, a1⟩
theorem vld_st0 (h1 : 1 ≤ h) : Vld g h w st0 := by
  refine ⟨?_, ?_, by decide⟩
  · show own g h w (-1, 0) = some false
    unfold own
    rw [if_neg (fun z : Ins h w (-1, 0) => absurd z.1 (by decide)), if_pos (.inl ⟨rfl, Int.le_refl _, by show (0 : Int) ≤ w; omega⟩)]
  · show own g h w (0, -1) = some true
    unfold own
    rw [if_neg (fun z : Ins h w (0, -1) => absurd z.2.2.1 (by decide)), if_neg (by
      show ¬ (((0 : Int) = -1 ∧ (0 : Int) ≤ -1 ∧ (-1 : Int) ≤ w) ∨ ((0 : Int) = h ∧ (-1 : Int) ≤ -1 ∧ (-1 : Int) < w))
      omega), if_pos ⟨Int.le_refl _, by show (0 : Int) < h; omega, .inl rfl⟩]
theorem stp_inj {x x' y : Pr} (v : Vld g h w x) (v' : Vld g h w x') (e : stp g h w x = some y) (e' : stp g h w x' = some y) : x = x' := by
  rcases stp_n e with ⟨k, ey⟩ | ⟨k, ey⟩ <;> rcases stp_n e' with ⟨k', ey'⟩ | ⟨k', ey'⟩
  · have e1 := (Prod.ext_iff.mp (ey.symm.trans ey'))
    obtain ⟨p, q⟩ := e1
    have p1 : x.1.1 + x.1.2 - x.2.2 = x'.1.1 + x'.1.2 - x'.2.2 := congrArg Prod.fst p
    have p2 : x.2.1 + x.2.2 - x.1.1 = x'.2.1 + x'.2.2 - x'.1.1 := congrArg Prod.snd p
    have q1 : x.2.1 = x'.2.1 := congrArg Prod.fst q
    have q2 : x.2.2 = x'.2.2 := congrArg Prod.snd q
    exact Prod.ext (Prod.ext (by omega) (by omega)) (Prod.ext q1 q2)
  · exfalso
    have e1 := (Prod.ext_iff.mp (ey.symm.trans ey'))
    obtain ⟨p, q⟩ := e1
    have p1 : x.1.1 + x.1.2 - x.2.2 = x'.1.1 := congrArg Prod.fst p
    have p2 : x.2.1 + x.2.2 - x.1.1 = x'.1.2 := congrArg Prod.snd p
    have q1 : x.2.1 = x'.1.1 + x'.1.2 - x'.2.2 := congrArg Prod.fst q
    have q2 : x.2.2 = x'.2.1 + x'.2.2 - x'.1.1 := congrArg Prod.snd q
    have : x.1 = x'.2 := Prod.ext (by omega) (by omega)
    have h1 := v.n
    rw [this, v'.w] at h1
    cases h1
  · exfalso
    have e1 := (Prod.ext_iff.mp (ey.symm.trans ey'))
    obtain ⟨p, q⟩ := e1
    have p1 : x.1.1 = x'.1.1 + x'.1.2 - x'.2.2 := congrArg Prod.fst p
    have p2 : x.1.2 = x'.2.1 + x'.2.2 - x'.1.1 := congrArg Prod.snd p
    have q1 : x.1.1 + x.1.2 - x.2.2 = x'.2.1 := congrArg Prod.fst q
    have q2 : x.2.1 + x.2.2 - x.1.1 = x'.2.2 := congrArg Prod.snd q
    have : x'.1 = x.2 := Prod.ext (by omega) (by omega)
    have h1 := v'.n
    rw [this, v.w] at h1
    cases h1
  · have e1 := (Prod.ext_iff.mp (ey.symm.trans ey'))
    obtain ⟨p, q⟩ := e1
    have p1 : x.1.1 = x'.1.1 := congrArg Prod.fst p
    have p2 : x.1.2 = x'.1.2 := congrArg Prod.snd p
    have q1 : x.1.1 + x.1.2 - x.2.2 = x'.1.1 + x'.1.2 - x'.2.2 := congrArg Prod.fst q
    have q2 : x.2.1 + x.2.2 - x.1.1 = x'.2.1 + x'.2.2 - x'.1.1 := congrArg Prod.snd q
    exact Prod.ext (Prod.ext p1 p2) (Prod.ext (by omega) (by omega))
theorem stp_st0 {x : Pr} (v : Vld g h w x) : stp g h w x ≠ some st0 := by
  intro e
  have v1 := own_n v.n
  have v2 := own_w v.w
  rcases stp_n e with ⟨k, ey⟩ | ⟨k, ey⟩
  · have e1 := Prod.ext_iff.mp ey
    have p1 : (-1 : Int) = x.1.1 + x.1.2 - x.2.2 := congrArg Prod.fst e1.1
    have p2 : (0 : Int) = x.2.1 + x.2.2 - x.1.1 := congrArg Prod.snd e1.1
    have q1 : (0 : Int) = x.2.1 := congrArg Prod.fst e1.2
    have q2 : (-1 : Int) = x.2.2 := congrArg Prod.snd e1.2
    unfold Ins at v1
    omega
  · have e1 := Prod.ext_iff.mp ey
    have p1 : (-1 : Int) = x.1.1 := congrArg Prod.fst e1.1
    have p2 : (0 : Int) = x.1.2 := congrArg Prod.snd e1.1
    have q1 : (0 : Int) = x.1.1 + x.1.2 - x.2.2 := congrArg Prod.fst e1.2
    have q2 : (-1 : Int) = x.2.1 + x.2.2 - x.1.1 := congrArg Prod.snd e1.2
    unfold Ins at v2
    omega
theorem stp_end {x : Pr} (h1 : 1 ≤ h) (w1 : 1 ≤ w) (v : Vld g h w x) (e : stp g h w x = none) : x = ((-1, (w : Int)), (0, (w : Int))) ∨ x = (((h : Int), -1), ((h : Int) - 1, -1)) := by
  have v4 := stp_none e
  obtain ⟨n1, n2⟩ := ahd_near v.nr
  have v3 := near6_iff.mp v.nr
  have inn : ¬ Ins h w (ahd x.1 x.2) := (own_none v4).1
  have e1 : (ahd x.1 x.2).1 = x.1.1 + x.1.2 - x.2.2 := rfl
  have e2 : (ahd x.1 x.2).2 = x.2.1 + x.2.2 - x.1.1 := rfl
  have key : (x.1.1 = -1 ∧ x.1.2 = w ∧ x.2.1 = 0 ∧ x.2.2 = w) ∨ (x.1.1 = h ∧ x.1.2 = -1 ∧ x.2.1 = (h : Int) - 1 ∧ x.2.2 = -1) := by
    rcases own_n v.n with ⟨i1, _⟩ | v1 | v1
    · exact (own_round i1 n1 v4).elim
    · rcases own_w v.w with ⟨i2, _⟩ | ⟨u1, u2, v2 | v2⟩
      · exact (own_round i2 n2 v4).elim
      · exfalso
        exact inn ⟨by omega, by omega, by omega, by omega⟩
      · left
        omega
    · rcases own_w v.w with ⟨i2, _⟩ | ⟨u1, u2, v2 | v2⟩
      · exact (own_round i2 n2 v4).elim
      · right
        omega
      · exfalso
        exact inn ⟨by omega, by omega, by omega, by omega⟩
  rcases key with ⟨a, b, c, d⟩ | ⟨a, b, c, d⟩
  · exact .inl (Prod.ext (Prod.ext a b) (Prod.ext c d))
  · exact .inr (Prod.ext (Prod.ext a b) (Prod.ext c d))

/-! ### the walk -/
inductive Wk (g : Cell → Nat) (h w : Nat) : List Pr → Pr → Prop
  | one : Wk g h w [st0] st0
  | snoc {ps : List Pr} {x y : Pr} : Wk g h w ps x → stp g h w x = some y → Wk g h w (ps ++ [y]) y
theorem Wk.vld (h1 : 1 ≤ h) {ps : List Pr} {x : Pr} (k : Wk g h w ps x) : Vld g h w x := by
  induction k with
  | one => exact vld_st0 h1
  | snoc _ e ih => exact vld_stp ih e
theorem Wk.all (h1 : 1 ≤ h) {ps : List Pr} {x : Pr} (k : Wk g h w ps x) : ∀ z ∈ ps, Vld g h w z := by
  induction k with
  | one =>
    intro z hz
    rw [List.mem_singleton.mp hz]
    exact vld_st0 h1
  | snoc k' e ih =>
    intro z hz
    rcases List.mem_append.mp hz with hz | hz
    · exact ih z hz
    · rw [List.mem_singleton.mp hz]
      exact vld_stp (k'.vld h1) e
theorem Wk.init {ps : List Pr} {x : Pr} (k : Wk g h w ps x) : ∃ l, ps = l ++ [x] ∧ ∀ z ∈ ps, z = st0 ∨ ∃ u ∈ l, stp g h w u = some z := by
  induction k with
  | one =>
    refine ⟨[], rfl, fun z hz => .inl (List.mem_singleton.mp hz)⟩
  | @snoc ps x y k' e ih =>
    obtain ⟨l, rfl, hl⟩ := ih
    refine ⟨l ++ [x], rfl, fun z hz => ?_⟩
    rcases List.mem_append.mp hz with hz | hz
    · rcases hl z hz with z0 | ⟨u, hu, eu⟩
      · exact .inl z0
      · exact .inr ⟨u, List.mem_append_left _ hu, eu⟩
    · rw [List.mem_singleton.mp hz]
      exact .inr ⟨x, List.mem_append_right _ List.mem_cons_self, e⟩
theorem Wk.nodup (h1 : 1 ≤ h) {ps : List Pr} {x : Pr} (k : Wk g h w ps x) : ps.Nodup := by
  induction k with
  | one => exact List.nodup_cons.mpr ⟨by simp, List.nodup_nil⟩
  | @snoc ps x y k' e ih =>
    have vx := k'.vld h1
    have va := k'.all h1
    obtain ⟨l, rfl, hl⟩ := k'.init
    rw [List.nodup_append]
    refine ⟨ih, List.nodup_cons.mpr ⟨by simp, List.nodup_nil⟩, fun a ha b hb => ?_⟩
    rw [List.mem_singleton.mp hb]
    rintro rfl
    rcases hl a ha with z0 | ⟨u, hu, eu⟩
    · rw [z0] at e
      exact stp_st0 vx e
    · have ex := stp_inj (va u (List.mem_append_left _ hu)) vx eu e
      rw [ex] at hu
      exact (List.nodup_append.mp ih).2.2 x hu x List.mem_cons_self rfl
/-- a pair's number -/
def dirN (d : Cell) : Nat := if 3 * d.1 + d.2 + 4 ≤ 3 then (3 * d.1 + d.2 + 3).toNat else (3 * d.1 + d.2 + 2).toNat
def codeP (w : Nat) (x : Pr) : Nat := ((x.1.1 + 1).toNat * (w + 2) + (x.1.2 + 1).toNat) * 6 + dirN (x.2.1 - x.1.1, x.2.2 - x.1.2)
theorem dir_is {a b : Cell} (n : b ∈ near6 a) : (1 ≤ 3 * (b.1 - a.1) + (b.2 - a.2) + 4 ∧ 3 * (b.1 - a.1) + (b.2 - a.2) + 4 ≤ 7 ∧ 3 * (b.1 - a.1) + (b.2 - a.2) + 4 ≠ 4) ∧ -1 ≤ b.2 - a.2 ∧ b.2 - a.2 ≤ 1 := by
  have n1 := near6_iff.mp n
  omega
theorem dirN_lt {a b : Cell} (n : b ∈ near6 a) : dirN (b.1 - a.1, b.2 - a.2) < 6 := by
  have := dir_is n
  unfold dirN
  dsimp only
  split <;> omega
theorem dirN_eq {a b c d : Cell} (n : b ∈ near6 a) (n' : d ∈ near6 c) (e : dirN (b.1 - a.1, b.2 - a.2) = dirN (d.1 - c.1, d.2 - c.2)) : b.1 - a.1 = d.1 - c.1 ∧ b.2 - a.2 = d.2 - c.2 := by
  have h1 := dir_is n
  have h2 := dir_is n'
  unfold dirN at e
  dsimp only at e
  split at e <;> split at e <;> omega
theorem nat_code {m a b a' b' : Nat} (h : a * m + b = a' * m + b') (hb : b < m) (hb' : b' < m) : a = a' ∧ b = b' := by
  have e1 : (a * m + b) / m = (a' * m + b') / m := by rw [h]
  have m0 : 0 < m := by omega
  rw [Nat.mul_comm a m, Nat.mul_comm a' m, Nat.mul_add_div m0, Nat.mul_add_div m0, Nat.div_eq_of_lt hb, Nat.div_eq_of_lt hb'] at e1
  have e2 : a = a' := by omega
  subst e2
  exact ⟨rfl, by omega⟩
theorem vld_in {x : Pr} (v : Vld g h w x) : -1 ≤ x.1.1 ∧ x.1.1 ≤ h ∧ -1 ≤ x.1.2 ∧ x.1.2 ≤ w := by
  have v1 := own_n v.n
  unfold Ins at v1
  omega
theorem codeP_inj {x y : Pr} (v : Vld g h w x) (v' : Vld g h w y) (e : codeP w x = codeP w y) : x = y := by
  unfold codeP at e
  obtain ⟨e1, e2⟩ := nat_code e (dirN_lt v.nr) (dirN_lt v'.nr)
  obtain ⟨a1, a2, a3, a4⟩ := vld_in v
  obtain ⟨b1, b2, b3, b4⟩ := vld_in v'
  obtain ⟨e3, e4⟩ := nat_code e1 (by omega) (by omega)
  have f1 : x.1.1 = y.1.1 := by omega
  have f2 : x.1.2 = y.1.2 := by omega
  obtain ⟨e5, e6⟩ := dirN_eq v.nr v'.nr e2
  have f3 : x.2.1 = y.2.1 ∧ x.2.2 = y.2.2 := by omega
  exact Prod.ext (Prod.ext f1 f2) (Prod.ext f3.1 f3.2)
theorem Wk.bound (h1 : 1 ≤ h) {ps : List Pr} {x : Pr} (k : Wk g h w ps x) : ps.length ≤ 6 * ((h + 2) * (w + 2)) := by
  have va := k.all h1
  have := nodup_lt (6 * ((h + 2) * (w + 2))) (ps.map (codeP w)) (nodup_map (k.nodup h1) fun a ha b hb e => codeP_inj (va a ha) (va b hb) e) (fun n hn => by
    obtain ⟨z, hz, rfl⟩ := List.mem_map.mp hn
    obtain ⟨a1, a2, a3, a4⟩ := vld_in (va z hz)
    have d := dirN_lt (va z hz).nr
    unfold codeP
    have m1 : (z.1.1 + 1).toNat + 1 ≤ h + 2 := by omega
    have m2 : ((z.1.1 + 1).toNat + 1) * (w + 2) ≤ (h + 2) * (w + 2) := Nat.mul_le_mul_right _ m1
    rw [Nat.add_mul, Nat.one_mul] at m2
    omega)
  rw [List.length_map] at this
  exact this
theorem walk_ends (h1 : 1 ≤ h) : ∃ ps x, Wk g h w ps x ∧ stp g h w x = none := by
  have gen : ∀ (n : Nat) (ps : List Pr) (x : Pr), Wk g h w ps x → 6 * ((h + 2) * (w + 2)) - ps.length ≤ n → ∃ ps x, Wk g h w ps x ∧ stp g h w x = none := by
    intro n
    induction n with
    | zero =>
      intro ps x k hn
      cases e : stp g h w x with
      | none => exact ⟨ps, x, k, e⟩
      | some y =>
        have := (Wk.snoc k e).bound h1
        rw [List.length_append] at this
        simp at this
        omega
    | succ n ih =>
      intro ps x k hn
      cases e : stp g h w x with
      | none => exact ⟨ps, x, k, e⟩
      | some y =>
        refine ih _ _ (Wk.snoc k e) ?_
        rw [List.length_append]
        simp
        omega
  exact gen _ _ _ .one (Nat.le_refl _)

/-! ### what it has gone along -/
def met (ps : List Pr) (c : Cell) : Prop := ∃ p ∈ ps, p.1 = c ∨ p.2 = c
/-- the cells that the hand's side of the walk has met -/
structure Vis (g g' : Cell → Nat) (s : Bool) (ps : List Pr) : Prop where
  yes : ∀ p ∈ ps, g' (if s then p.2 else p.1) = g (if s then p.2 else p.1)
def Gd (g' : Cell → Nat) (h w : Nat) (s : Bool) (x : Cell) : Prop := sd s x = -1 ∨ Reach g' s x ∨ Joined g' h w s
theorem gd_n {g' : Cell → Nat} {x c : Cell} (h1 : 1 ≤ h) (sup : Sup g' h w) (gx : Gd g' h w false x) (nr : c ∈ near6 x) (oc : own g h w c = some false) (ec : Ins h w c → g' c = g c) : Gd g' h w false c := by
  have v := near6_iff.mp nr
  rcases gx with gx | gx | gx
  · have gx' : x.1 = -1 := gx
    rcases own_n oc with ⟨hi, hg⟩ | k | k
    · refine .inr (.inl (.first (by rw [ec hi, hg]; rfl) ?_))
      show c.1 = 0
      have := hi.1
      omega
    · exact .inl k.1
    · exfalso
      have := k.1
      omega
  · rcases own_n oc with ⟨hi, hg⟩ | k | k
    · exact .inr (.inl (.next gx nr (by rw [ec hi, hg]; rfl)))
    · exact .inl k.1
    · refine .inr (.inr ⟨x, gx, ?_⟩)
      have ix := sup x (by rw [gx.sign]; exact lt_ne false)
      show x.1 = (h : Int) - 1
      have := k.1
      omega
  · exact .inr (.inr gx)
theorem gd_w {g' : Cell → Nat} {x c : Cell} (w1 : 1 ≤ w) (fl : ∀ p, Ins h w p → g p = 110 ∨ g p = 119) (sup : Sup g' h w) (gx : Gd g' h w true x) (nr : c ∈ near6 x) (oc : own g h w c = some true) (ec : Ins h w c → g' c = g c) : Gd g' h w true c := by
  have v := near6_iff.mp nr
  have g119 : Ins h w c → g c ≠ 110 → g' c = lt true := fun hi hg => by
    rw [ec hi]
    rcases fl c hi with z | z
    · exact absurd z hg
    · exact z
  rcases gx with gx | gx | gx
  · have gx' : x.2 = -1 := gx
    rcases own_w oc with ⟨hi, hg⟩ | ⟨k1, k2, k⟩
    · refine .inr (.inl (.first (g119 hi hg) ?_))
      show c.2 = 0
      have := hi.2.2.1
      omega
    · rcases k with k | k
      · exact .inl k
      · exfalso
        omega
  · rcases own_w oc with ⟨hi, hg⟩ | ⟨k1, k2, k⟩
    · exact .inr (.inl (.next gx nr (g119 hi hg)))
    · rcases k with k | k
      · exact .inl k
      · refine .inr (.inr ⟨x, gx, ?_⟩)
        have ix := sup x (by rw [gx.sign]; exact lt_ne true)
        show x.2 = (w : Int) - 1
        omega
  · exact .inr (.inr gx)
theorem Wk.good {gn gw : Cell → Nat} (h1 : 1 ≤ h) (w1 : 1 ≤ w) (fl : ∀ p, Ins h w p → g p = 110 ∨ g p = 119) (sn : Sup gn h w) (sw : Sup gw h w) {ps : List Pr} {x : Pr} (k : Wk g h w ps x)
    (vn : ∀ p ∈ ps, Ins h w p.1 → gn p.1 = g p.1) (vw : ∀ p ∈ ps, Ins h w p.2 → gw p.2 = g p.2) : Gd gn h w false x.1 ∧ Gd gw h w true x.2 := by
  induction k with
  | one => exact ⟨.inl rfl, .inl rfl⟩
  | @snoc ps x y k' e ih =>
    obtain ⟨i1, i2⟩ := ih (fun p hp => vn p (List.mem_append_left _ hp)) (fun p hp => vw p (List.mem_append_left _ hp))
    have v1 := vn y (List.mem_append_right _ List.mem_cons_self)
    have v2 := vw y (List.mem_append_right _ List.mem_cons_self)
    obtain ⟨a1, a2⟩ := ahd_near (k'.vld h1).nr
    rcases stp_n e with ⟨o, rfl⟩ | ⟨o, rfl⟩
    · exact ⟨gd_n h1 sn i1 a1 o v1, i2⟩
    · exact ⟨i1, gd_w w1 fl sw i2 a2 o v2⟩
/-- at the walk's end a hand is joined, through cells that the walk has met -/
theorem Wk.tells {gn gw : Cell → Nat} (h1 : 1 ≤ h) (w1 : 1 ≤ w) (fl : ∀ p, Ins h w p → g p = 110 ∨ g p = 119) (sn : Sup gn h w) (sw : Sup gw h w) {ps : List Pr} {x : Pr} (k : Wk g h w ps x) (e : stp g h w x = none)
    (vn : ∀ p ∈ ps, Ins h w p.1 → gn p.1 = g p.1) (vw : ∀ p ∈ ps, Ins h w p.2 → gw p.2 = g p.2) :
    (x = ((-1, (w : Int)), (0, (w : Int))) ∧ Joined gw h w true) ∨ (x = (((h : Int), -1), ((h : Int) - 1, -1)) ∧ Joined gn h w false) := by
  obtain ⟨i1, i2⟩ := k.good h1 w1 fl sn sw vn vw
  rcases stp_end h1 w1 (k.vld h1) e with rfl | rfl
  · refine .inl ⟨rfl, ?_⟩
    rcases i2 with z | z | z
    · exfalso
      have z' : (w : Int) = -1 := z
      omega
    · exfalso
      have ix := sw _ (by rw [z.sign]; exact lt_ne true)
      have : (w : Int) < w := ix.2.2.2
      omega
    · exact z
  · refine .inr ⟨rfl, ?_⟩
    rcases i1 with z | z | z
    · exfalso
      have z' : (h : Int) = -1 := z
      omega
    · exfalso
      have ix := sn _ (by rw [z.sign]; exact lt_ne false)
      have : (h : Int) < h := ix.2.1
      omega
    · exact z
end
/-- on a full board one of the hands is joined -/
theorem one_joined {B : Bd} {h w : Nat} (I : IsB B h w) (fl : ∀ p, cel B p ≠ 46) : Joined (cel B) h w false ∨ Joined (cel B) h w true := by
  obtain ⟨ps, x, k, e⟩ := walk_ends (g := cel B) (h := h) (w := w) I.h1
  have fl' : ∀ p, Ins h w p → cel B p = 110 ∨ cel B p = 119 := fun p hp => by
    obtain ⟨_, _, _, _, _, ok⟩ := I.at hp
    rcases ok with z | z | z
    · exact .inl z
    · exact .inr z
    · exact absurd z (fl p)
  rcases k.tells I.h1 I.w1 fl' I.sup I.sup e (fun _ _ _ => rfl) (fun _ _ _ => rfl) with z | z
  · exact .inr z.2
  · exact .inl z.2
theorem jB_full {B : Bd} {h w : Nat} (I : IsB B h w) (fl : ∀ p, cel B p ≠ 46) (s : Bool) : jB B (!s) = !jB B s := by
  have nb : ¬ (jB B s = true ∧ jB B (!s) = true) := fun ⟨a, b⟩ => jB_both I a b
  have ob : jB B s = true ∨ jB B (!s) = true := by
    rcases one_joined I fl with z | z
    · cases s
      · exact .inl ((jB_iff I _).mpr z)
      · exact .inr ((jB_iff I _).mpr z)
    · cases s
      · exact .inr ((jB_iff I _).mpr z)
      · exact .inl ((jB_iff I _).mpr z)
  cases e1 : jB B s <;> cases e2 : jB B (!s) <;> simp_all
end Sw
namespace Sw
open PySem PySem.Spec PyProof.Rows L2
/-! ### the text by places -/
def top (i : Nat) : Stmt := PySem.Challenge.pw_shoreways_k15_whole_told_replies_win.main.body.getD i (.Pass ⟨0, 0, 0, 0⟩)
abbrev s_board_right : Stmt := top 8
abbrev N_board_right : List Str := ["rows", "row", "letter"]
theorem sc_board_right : FnScope N_board_right ["rows"] (defScope s_board_right) := ⟨rfl, rfl, rfl, by decide +kernel, rfl, by decide +kernel, by decide +kernel⟩
abbrev s_Board___init__ : Stmt := inClass (top 9) 0
abbrev N_Board___init__ : List Str := ["self", "rows"]
theorem sc_Board___init__ : FnScope N_Board___init__ ["self", "rows"] (defScope s_Board___init__) := ⟨rfl, rfl, rfl, by decide +kernel, rfl, by decide +kernel, by decide +kernel⟩
abbrev s_Board_has : Stmt := inClass (top 9) 1
abbrev N_Board_has : List Str := ["self", "r", "c"]
theorem sc_Board_has : FnScope N_Board_has ["self", "r", "c"] (defScope s_Board_has) := ⟨rfl, rfl, rfl, by decide +kernel, rfl, by decide +kernel, by decide +kernel⟩
abbrev s_near : Stmt := top 10
abbrev N_near : List Str := ["r", "c"]
theorem sc_near : FnScope N_near ["r", "c"] (defScope s_near) := ⟨rfl, rfl, rfl, by decide +kernel, rfl, by decide +kernel, by decide +kernel⟩
abbrev s_laid : Stmt := top 11
abbrev N_laid : List Str := ["board", "r", "c", "hand", "rows"]
theorem sc_laid : FnScope N_laid ["board", "r", "c", "hand"] (defScope s_laid) := ⟨rfl, rfl, rfl, by decide +kernel, rfl, by decide +kernel, by decide +kernel⟩
abbrev s_other : Stmt := top 12
abbrev N_other : List Str := ["letter"]
theorem sc_other : FnScope N_other ["letter"] (defScope s_other) := ⟨rfl, rfl, rfl, by decide +kernel, rfl, by decide +kernel, by decide +kernel⟩
abbrev s_empty : Stmt := top 13
abbrev N_empty : List Str := ["board", "found", "r", "row", "c", "letter"]
theorem sc_empty : FnScope N_empty ["board"] (defScope s_empty) := ⟨rfl, rfl, rfl, by decide +kernel, rfl, by decide +kernel, by decide +kernel⟩
abbrev s_beginnings : Stmt := top 15
abbrev N_beginnings : List Str := ["board", "hand", "cells", "cell", "c", "r"]
theorem sc_beginnings : FnScope N_beginnings ["board", "hand"] (defScope s_beginnings) := ⟨rfl, rfl, rfl, by decide +kernel, rfl, by decide +kernel, by decide +kernel⟩
abbrev s_at_end : Stmt := top 16
abbrev N_at_end : List Str := ["board", "hand", "cell"]
theorem sc_at_end : FnScope N_at_end ["board", "hand", "cell"] (defScope s_at_end) := ⟨rfl, rfl, rfl, by decide +kernel, rfl, by decide +kernel, by decide +kernel⟩
abbrev s_road : Stmt := top 17
abbrev N_road : List Str := ["board", "hand", "queue", "seen", "way", "at", "here", "cell"]
theorem sc_road : FnScope N_road ["board", "hand"] (defScope s_road) := ⟨rfl, rfl, rfl, by decide +kernel, rfl, by decide +kernel, by decide +kernel⟩
abbrev s_joined : Stmt := top 18
abbrev N_joined : List Str := ["board", "hand"]
theorem sc_joined : FnScope N_joined ["board", "hand"] (defScope s_joined) := ⟨rfl, rfl, rfl, by decide +kernel, rfl, by decide +kernel, by decide +kernel⟩
abbrev s_check_end : Stmt := top 21
abbrev N_check_end : List Str := ["board"]
theorem sc_check_end : FnScope N_check_end ["board"] (defScope s_check_end) := ⟨rfl, rfl, rfl, by decide +kernel, rfl, by decide +kernel, by decide +kernel⟩
abbrev s_winning : Stmt := top 22
abbrev N_winning : List Str := ["board", "hand", "known", "key", "cell"]
theorem sc_winning : FnScope N_winning ["board", "hand", "known"] (defScope s_winning) := ⟨rfl, rfl, rfl, by decide +kernel, rfl, by decide +kernel, by decide +kernel⟩
abbrev s_wins_by : Stmt := top 23
abbrev N_wins_by : List Str := ["board", "hand", "cell", "known", "behind"]
theorem sc_wins_by : FnScope N_wins_by ["board", "hand", "cell", "known"] (defScope s_wins_by) := ⟨rfl, rfl, rfl, by decide +kernel, rfl, by decide +kernel, by decide +kernel⟩
abbrev s_can_win : Stmt := top 24
abbrev N_can_win : List Str := ["board", "hand"]
theorem sc_can_win : FnScope N_can_win ["board", "hand"] (defScope s_can_win) := ⟨rfl, rfl, rfl, by decide +kernel, rfl, by decide +kernel, by decide +kernel⟩
abbrev s_replies : Stmt := top 25
abbrev N_replies : List Str := ["board", "hand", "known", "cell"]
theorem sc_replies : FnScope N_replies ["board", "hand"] (defScope s_replies) := ⟨rfl, rfl, rfl, by decide +kernel, rfl, by decide +kernel, by decide +kernel⟩
abbrev s__law_cell_at : Stmt := top 27
abbrev N__law_cell_at : List Str := ["script", "k"]
theorem sc__law_cell_at : FnScope N__law_cell_at ["script", "k"] (defScope s__law_cell_at) := ⟨rfl, rfl, rfl, by decide +kernel, rfl, by decide +kernel, by decide +kernel⟩
abbrev s__law_mix : Stmt := top 28
abbrev N__law_mix : List Str := ["cell", "k", "many", "some", "number"]
theorem sc__law_mix : FnScope N__law_mix ["cell", "k", "many"] (defScope s__law_mix) := ⟨rfl, rfl, rfl, by decide +kernel, rfl, by decide +kernel, by decide +kernel⟩
abbrev s__law_rows_by : Stmt := top 29
abbrev N__law_rows_by : List Str := ["script", "height", "width", "full", "rows", "r", "cell", "row", "c", "kind"]
theorem sc__law_rows_by : FnScope N__law_rows_by ["script", "height", "width", "full"] (defScope s__law_rows_by) := ⟨rfl, rfl, rfl, by decide +kernel, rfl, by decide +kernel, by decide +kernel⟩
abbrev s__law_size_by : Stmt := top 30
abbrev N__law_size_by : List Str := ["script", "most"]
theorem sc__law_size_by : FnScope N__law_size_by ["script", "most"] (defScope s__law_size_by) := ⟨rfl, rfl, rfl, by decide +kernel, rfl, by decide +kernel, by decide +kernel⟩
abbrev s__law_flood : Stmt := top 32
abbrev N__law_flood : List Str := ["rows", "hand", "seen", "left", "r", "ends", "height", "width", "c", "dr", "dc", "cell"]
theorem sc__law_flood : FnScope N__law_flood ["rows", "hand"] (defScope s__law_flood) := ⟨rfl, rfl, rfl, by decide +kernel, rfl, by decide +kernel, by decide +kernel⟩
abbrev s__law_road : Stmt := top 33
abbrev N__law_road : List Str := ["rows", "hand", "side", "ways", "seen", "k", "at", "height", "width", "cell", "here", "dr", "dc", "inside"]
theorem sc__law_road : FnScope N__law_road ["rows", "hand"] (defScope s__law_road) := ⟨rfl, rfl, rfl, by decide +kernel, rfl, by decide +kernel, by decide +kernel⟩
abbrev s__law_put : Stmt := top 34
abbrev N__law_put : List Str := ["rows", "cell", "letter", "line", "r", "c"]
theorem sc__law_put : FnScope N__law_put ["rows", "cell", "letter"] (defScope s__law_put) := ⟨rfl, rfl, rfl, by decide +kernel, rfl, by decide +kernel, by decide +kernel⟩
abbrev s__law_free : Stmt := top 35
abbrev N__law_free : List Str := ["rows", "found", "r", "c"]
theorem sc__law_free : FnScope N__law_free ["rows"] (defScope s__law_free) := ⟨rfl, rfl, rfl, by decide +kernel, rfl, by decide +kernel, by decide +kernel⟩
abbrev s__law_open_by : Stmt := top 36
abbrev N__law_open_by : List Str := ["script", "most", "rows", "cell", "turn", "more", "k", "height", "width", "hand", "way", "place"]
theorem sc__law_open_by : FnScope N__law_open_by ["script", "most"] (defScope s__law_open_by) := ⟨rfl, rfl, rfl, by decide +kernel, rfl, by decide +kernel, by decide +kernel⟩
abbrev s__law_played : Stmt := top 38
abbrev N__law_played : List Str := ["rows", "hand", "turn", "cell", "against", "k", "free", "told"]
theorem sc__law_played : FnScope N__law_played ["rows", "hand", "turn", "cell"] (defScope s__law_played) := ⟨rfl, rfl, rfl, by decide +kernel, rfl, by decide +kernel, by decide +kernel⟩
abbrev s_law : Stmt := top 39
abbrev N_law : List Str := ["script", "rows", "hand", "against", "cell", "place", "behind"]
theorem sc_law : FnScope N_law ["script"] (defScope s_law) := ⟨rfl, rfl, rfl, by decide +kernel, rfl, by decide +kernel, by decide +kernel⟩
/-- what the top has laid -/
structure Top (K : PySem.W.Frag) (mg : Str → Option Value) where
  a_board_right : Addr
  d_board_right : FuncData
  F_board_right : Fun K "board_right" "board_right" s_board_right a_board_right d_board_right
  B_board_right : Binds K d_board_right ["rows"] []
  m_board_right : mg "board_right" = some (.ref a_board_right)
  a_Board___init__ : Addr
  d_Board___init__ : FuncData
  F_Board___init__ : Fun K "__init__" "Board.__init__" s_Board___init__ a_Board___init__ d_Board___init__
  B_Board___init__ : Binds K d_Board___init__ ["self", "rows"] []
  a_Board_has : Addr
  d_Board_has : FuncData
  F_Board_has : Fun K "has" "Board.has" s_Board_has a_Board_has d_Board_has
  B_Board_has : Binds K d_Board_has ["self", "r", "c"] []
  a_near : Addr
  d_near : FuncData
  F_near : Fun K "near" "near" s_near a_near d_near
  B_near : Binds K d_near ["r", "c"] []
  m_near : mg "near" = some (.ref a_near)
  a_laid : Addr
  d_laid : FuncData
  F_laid : Fun K "laid" "laid" s_laid a_laid d_laid
  B_laid : Binds K d_laid ["board", "r", "c", "hand"] []
  m_laid : mg "laid" = some (.ref a_laid)
  a_other : Addr
  d_other : FuncData
  F_other : Fun K "other" "other" s_other a_other d_other
  B_other : Binds K d_other ["letter"] []
  m_other : mg "other" = some (.ref a_other)
  a_empty : Addr
  d_empty : FuncData
  F_empty : Fun K "empty" "empty" s_empty a_empty d_empty
  B_empty : Binds K d_empty ["board"] []
  m_empty : mg "empty" = some (.ref a_empty)
  a_beginnings : Addr
  d_beginnings : FuncData
  F_beginnings : Fun K "beginnings" "beginnings" s_beginnings a_beginnings d_beginnings
  B_beginnings : Binds K d_beginnings ["board", "hand"] []
  m_beginnings : mg "beginnings" = some (.ref a_beginnings)
  a_at_end : Addr
  d_at_end : FuncData
  F_at_end : Fun K "at_end" "at_end" s_at_end a_at_end d_at_end
  B_at_end : Binds K d_at_end ["board", "hand", "cell"] []
  m_at_end : mg "at_end" = some (.ref a_at_end)
  a_road : Addr
  d_road : FuncData
  F_road : Fun K "road" "road" s_road a_road d_road
  B_road : Binds K d_road ["board", "hand"] []
  m_road : mg "road" = some (.ref a_road)
  a_joined : Addr
  d_joined : FuncData
  F_joined : Fun K "joined" "joined" s_joined a_joined d_joined
  B_joined : Binds K d_joined ["board", "hand"] []
  m_joined : mg "joined" = some (.ref a_joined)
  a_check_end : Addr
  d_check_end : FuncData
  F_check_end : Fun K "check_end" "check_end" s_check_end a_check_end d_check_end
  B_check_end : Binds K d_check_end ["board"] []
  m_check_end : mg "check_end" = some (.ref a_check_end)
  a_winning : Addr
  d_winning : FuncData
  F_winning : Fun K "winning" "winning" s_winning a_winning d_winning
  B_winning : Binds K d_winning ["board", "hand", "known"] []
  m_winning : mg "winning" = some (.ref a_winning)
  a_wins_by : Addr
  d_wins_by : FuncData
  F_wins_by : Fun K "wins_by" "wins_by" s_wins_by a_wins_by d_wins_by
  B_wins_by : Binds K d_wins_by ["board", "hand", "cell", "known"] []
  m_wins_by : mg "wins_by" = some (.ref a_wins_by)
  a_can_win : Addr
  d_can_win : FuncData
  F_can_win : Fun K "can_win" "can_win" s_can_win a_can_win d_can_win
  B_can_win : Binds K d_can_win ["board", "hand"] []
  m_can_win : mg "can_win" = some (.ref a_can_win)
  a_replies : Addr
  d_replies : FuncData
  F_replies : Fun K "replies" "replies" s_replies a_replies d_replies
  B_replies : Binds K d_replies ["board", "hand"] []
  m_replies : mg "replies" = some (.ref a_replies)
  a__law_cell_at : Addr
  d__law_cell_at : FuncData
  F__law_cell_at : Fun K "_law_cell_at" "_law_cell_at" s__law_cell_at a__law_cell_at d__law_cell_at
  B__law_cell_at : Binds K d__law_cell_at ["script", "k"] []
  m__law_cell_at : mg "_law_cell_at" = some (.ref a__law_cell_at)
  a__law_mix : Addr
  d__law_mix : FuncData
  F__law_mix : Fun K "_law_mix" "_law_mix" s__law_mix a__law_mix d__law_mix
  B__law_mix : Binds K d__law_mix ["cell", "k", "many"] []
  m__law_mix : mg "_law_mix" = some (.ref a__law_mix)
  a__law_rows_by : Addr
  d__law_rows_by : FuncData
  F__law_rows_by : Fun K "_law_rows_by" "_law_rows_by" s__law_rows_by a__law_rows_by d__law_rows_by
  B__law_rows_by : Binds K d__law_rows_by ["script", "height", "width", "full"] []
  m__law_rows_by : mg "_law_rows_by" = some (.ref a__law_rows_by)
  a__law_size_by : Addr
  d__law_size_by : FuncData
  F__law_size_by : Fun K "_law_size_by" "_law_size_by" s__law_size_by a__law_size_by d__law_size_by
  B__law_size_by : Binds K d__law_size_by ["script", "most"] []
  m__law_size_by : mg "_law_size_by" = some (.ref a__law_size_by)
  a__law_flood : Addr
  d__law_flood : FuncData
  F__law_flood : Fun K "_law_flood" "_law_flood" s__law_flood a__law_flood d__law_flood
  B__law_flood : Binds K d__law_flood ["rows", "hand"] []
  m__law_flood : mg "_law_flood" = some (.ref a__law_flood)
  a__law_road : Addr
  d__law_road : FuncData
  F__law_road : Fun K "_law_road" "_law_road" s__law_road a__law_road d__law_road
  B__law_road : Binds K d__law_road ["rows", "hand"] []
  m__law_road : mg "_law_road" = some (.ref a__law_road)
  a__law_put : Addr
  d__law_put : FuncData
  F__law_put : Fun K "_law_put" "_law_put" s__law_put a__law_put d__law_put
  B__law_put : Binds K d__law_put ["rows", "cell", "letter"] []
  m__law_put : mg "_law_put" = some (.ref a__law_put)
  a__law_free : Addr
  d__law_free : FuncData
  F__law_free : Fun K "_law_free" "_law_free" s__law_free a__law_free d__law_free
  B__law_free : Binds K d__law_free ["rows"] []
  m__law_free : mg "_law_free" = some (.ref a__law_free)
  a__law_open_by : Addr
  d__law_open_by : FuncData
  F__law_open_by : Fun K "_law_open_by" "_law_open_by" s__law_open_by a__law_open_by d__law_open_by
  B__law_open_by : Binds K d__law_open_by ["script", "most"] []
  m__law_open_by : mg "_law_open_by" = some (.ref a__law_open_by)
  a__law_played : Addr
  d__law_played : FuncData
  F__law_played : Fun K "_law_played" "_law_played" s__law_played a__law_played d__law_played
  B__law_played : Binds K d__law_played ["rows", "hand", "turn", "cell"] []
  m__law_played : mg "_law_played" = some (.ref a__law_played)
  a_law : Addr
  d_law : FuncData
  F_law : Fun K "law" "law" s_law a_law d_law
  B_law : Binds K d_law ["script"] []
  m_law : mg "law" = some (.ref a_law)
  C_Board : Addr
  cl_Board : Cls K C_Board
  mC_Board : mg "Board" = some (.ref C_Board)
  Mk_Board : Mk K C_Board a_Board___init__
  n_Board_rows : NoAttr K C_Board "rows"
  n_Board_height : NoAttr K C_Board "height"
  n_Board_width : NoAttr K C_Board "width"
  M_Board_has : Meth K C_Board "has" a_Board_has
  C_BadBoard : Addr
  mC_BadBoard : mg "BadBoard" = some (.ref C_BadBoard)
  x_BadBoard : PySem.W.excIn K C_BadBoard [.type "ValueError", .type "Exception", .type "BaseException", .type "object"] "ValueError.__new__" = true
  k_BadBoard : PySem.W.keepIn K (.ref C_BadBoard) = true
  b_BadBoard : PySem.W.subIn K (.ref C_BadBoard) (.type "BaseException") = some true
  t_BadBoard : PySem.W.typeIn K (.ref C_BadBoard) = some (.type "type")
  i_BadBoard : PySem.W.isClsIn K C_BadBoard = true
  C_NoCell : Addr
  mC_NoCell : mg "NoCell" = some (.ref C_NoCell)
  x_NoCell : PySem.W.excIn K C_NoCell [.type "ValueError", .type "Exception", .type "BaseException", .type "object"] "ValueError.__new__" = true
  k_NoCell : PySem.W.keepIn K (.ref C_NoCell) = true
  b_NoCell : PySem.W.subIn K (.ref C_NoCell) (.type "BaseException") = some true
  t_NoCell : PySem.W.typeIn K (.ref C_NoCell) = some (.type "type")
  i_NoCell : PySem.W.isClsIn K C_NoCell = true
  C_Over : Addr
  mC_Over : mg "Over" = some (.ref C_Over)
  x_Over : PySem.W.excIn K C_Over [.type "ValueError", .type "Exception", .type "BaseException", .type "object"] "ValueError.__new__" = true
  k_Over : PySem.W.keepIn K (.ref C_Over) = true
  b_Over : PySem.W.subIn K (.ref C_Over) (.type "BaseException") = some true
  t_Over : PySem.W.typeIn K (.ref C_Over) = some (.type "type")
  i_Over : PySem.W.isClsIn K C_Over = true
  C_TooMany : Addr
  mC_TooMany : mg "TooMany" = some (.ref C_TooMany)
  x_TooMany : PySem.W.excIn K C_TooMany [.type "ValueError", .type "Exception", .type "BaseException", .type "object"] "ValueError.__new__" = true
  k_TooMany : PySem.W.keepIn K (.ref C_TooMany) = true
  b_TooMany : PySem.W.subIn K (.ref C_TooMany) (.type "BaseException") = some true
  t_TooMany : PySem.W.typeIn K (.ref C_TooMany) = some (.type "type")
  i_TooMany : PySem.W.isClsIn K C_TooMany = true
  tk_MOST : Tok
  g_MOST : mg "MOST" = some (.int 9 tk_MOST)
  tk_MOST_EMPTY : Tok
  g_MOST_EMPTY : mg "MOST_EMPTY" = some (.int 6 tk_MOST_EMPTY)
  z_len : mg "len" = none
  z_all : mg "all" = none
  z_list : mg "list" = none
  z_enumerate : mg "enumerate" = none
  z_range : mg "range" = none
  z_tuple : mg "tuple" = none
  z_any : mg "any" = none
  z_int : mg "int" = none
  z_isinstance : mg "isinstance" = none
end Sw
namespace Sw
open PySem PySem.Spec PyProof.Rows L2
section
variable {P : Program} {w : World} {K : PySem.W.Frag} {mg : Str → Option Value} {base : Heap}
/-! near -/
def sp_near : Sp := fun vs H Q _ => ∃ r c : Int, vs = [.int r, .int c] ∧ ∀ (p : Addr) (H' : Hp) (ws : List V), Same H H' → H p = none → H' p = some (.lst ws) → Cells H' ws (near6 (r, c)) → Q (.ref p) H'
theorem ok_near (T : Top K mg) : FnOk P w K mg base CX0 1 T.a_near T.d_near ["r", "c"] sp_near := by
  refine T.F_near.ok sc_near (fun vs H Q E h => ?_) (fun cdv A outer s H vs Q E hr h => ?_)
  · obtain ⟨_, _, rfl, _⟩ := h
    rfl
  obtain ⟨r, c, rfl, k⟩ := h
  refine ⟨_, (pss_one (ps_ret (pe_lst (pa_cons (pe_tup (pa_cons (pe_op op_sub (pv 0) pe_int) (pa_cons (pv 1) pa_nil))) (pa_cons (pe_tup (pa_cons (pe_op op_sub (pv 0) pe_int) (pa_cons (pe_op op_add (pv 1) pe_int) pa_nil))) (pa_cons (pe_tup (pa_cons (pv 0) (pa_cons (pe_op op_add (pv 1) pe_int) pa_nil))) (pa_cons (pe_tup (pa_cons (pe_op op_add (pv 0) pe_int) (pa_cons (pv 1) pa_nil))) (pa_cons (pe_tup (pa_cons (pe_op op_add (pv 0) pe_int) (pa_cons (pe_op op_sub (pv 1) pe_int) pa_nil))) (pa_cons (pe_tup (pa_cons (pv 0) (pa_cons (pe_op op_sub (pv 1) pe_int) pa_nil))) pa_nil))))))))), ?_⟩
  refine ⟨_, rfl, _, _, rfl, rfl, _, rfl, sz2, fun t1 h1 => ?_⟩
  refine ⟨_, rfl, _, _, rfl, rfl, _, rfl, _, _, rfl, rfl, sz2, fun t2 h2 => ?_⟩
  refine ⟨_, rfl, _, rfl, _, _, rfl, rfl, sz2, fun t3 h3 => ?_⟩
  refine ⟨_, rfl, _, _, rfl, rfl, _, rfl, sz2, fun t4 h4 => ?_⟩
  refine ⟨_, rfl, _, _, rfl, rfl, _, rfl, _, _, rfl, rfl, sz2, fun t5 h5 => ?_⟩
  refine ⟨_, rfl, _, rfl, _, _, rfl, rfl, sz2, fun t6 h6 => ?_⟩
  refine ⟨sz6, fun p hp => ?_⟩
  obtain ⟨_, ws, e, n, s, hl, hc⟩ := new_six (H := H) (r := r) (c := c) rfl rfl rfl rfl rfl rfl h1 h2 h3 h4 h5 h6 hp
  cases e
  exact k p _ ws s n hl hc
end
end Sw
namespace Sw
open PySem PySem.Spec PyProof.Rows L2
section
variable {P : Program} {w : World} {K : PySem.W.Frag} {mg : Str → Option Value} {base : Heap}
/-! board_right, Board -/
def sp_board_right : Sp := fun vs H Q _ => ∃ (a : Addr) (B : Bd), vs = [.ref a] ∧ H a = some (.lst (rowsV B)) ∧ Small B ∧ ∀ H', Same H H' → Q (.bl (Good B)) H'
theorem head_at {B : Bd} (h : B ≠ []) : ∃ r, B[0]? = some r ∧ r.length = wid B ∧ r ∈ B := by
  cases B with
  | nil => exact absurd rfl h
  | cons r B => exact ⟨r, rfl, rfl, List.mem_cons_self⟩
theorem all_take {α : Type} {p : α → Bool} {l : List α} {i : Nat} {x : α} (h : (l.take i).all p = true) (hx : l[i]? = some x) (hp : p x = true) : (l.take (i + 1)).all p = true := by
  rw [List.take_add_one, hx, List.all_append, h]
  simp [hp]
theorem get_txt {l : List Nat} {i : Nat} {c : Nat} (h : (txt l).cps[i]? = some c) : l[i]? = some c := by
  have : l.toArray[i]? = some c := h
  rw [List.getElem?_toArray] at this
  exact this
theorem txt_size (l : List Nat) : (txt l).cps.size = l.length := by show l.toArray.size = l.length; exact List.size_toArray
theorem take_map_snoc {α β : Type} {f : α → β} {l : List α} {i : Nat} {x : α} (h : l[i]? = some x) : (l.take (i + 1)).map f = (l.take i).map f ++ [f x] := by
  rw [List.take_add_one, h, List.map_append]
  rfl
theorem len_take_lt {α β : Type} {f : α → β} {l : List α} {i n : Nat} (h : l.length ≤ n) : ((l.take i).map f).length ≤ n := by
  rw [List.length_map, List.length_take]
  omega
theorem ok_board_right (T : Top K mg) : FnOk P w K mg base CX0 1 T.a_board_right T.d_board_right ["rows"] sp_board_right := by
  refine T.F_board_right.ok sc_board_right (fun vs H Q E h => ?_) (fun cdv A outer s H vs Q E hr h => ?_)
  · obtain ⟨_, _, rfl, _⟩ := h
    rfl
  obtain ⟨a, B, rfl, ha, hB, q⟩ := h
  refine ⟨_, (pss_cons (ps_if (PW.pt (pw_or (pt_not (pt_chain op_le op_le pe_int (pe_callB call_len_seq (by rfl) T.z_len PySem.boot_len (pa_cons (pv 0) pa_nil)) (pe_glob (v := .int 9) rfl T.g_MOST ⟨_, rfl⟩))) (pw_or1 (pt_not (pt_chain op_le op_le pe_int (pe_callB call_len_str (by rfl) T.z_len PySem.boot_len (pa_cons (pe_ix ix_list (pv 0) pe_int (fun _ _ => rfl)) pa_nil)) (pe_glob (v := .int 9) rfl T.g_MOST ⟨_, rfl⟩))))))
      (pss_one (ps_ret pe_bl)) pss_nil)
      (pss_cons (ps_for PassesOwn.never rfl (pi_list (pv 0)) (pg_name (i := 1) sc_board_right.nd rfl (Or.inl rfl))
      (pss_one (ps_if (PW.pt (pw_or (pt_cmpR op_ne (pe_callB call_len_str (by rfl) T.z_len PySem.boot_len (pa_cons (pv 1) pa_nil)) (pe_callB call_len_str (by rfl) T.z_len PySem.boot_len (pa_cons (pe_ix ix_list (pv 0) pe_int (fun _ _ => rfl)) pa_nil)) (nomark _)) (pw_or1 (pt_not (pt_val (pe_callB (cr_all rfl) (by rfl) T.z_all (by decide +kernel) (pa_cons (pe_lc (own := [("letter", 2)]) (g := gName 2) (tt := tYes) rfl sc_board_right.nd (pi_str (pv 1)) (blkOk_by (own := [("letter", 2)]) (N := N_board_right) (sc := defScope s_board_right) (by decide +kernel)) (fun _ _ _ _ _ => (pg_name (i := 2) sc_board_right.nd rfl (Or.inl rfl))) (fun _ _ _ _ _ => pts_nil) (fun _ _ _ _ _ => (pe_cmpR op_in_sign (pv 2) pe_str rfl))) pa_nil)))))))
      (pss_one (ps_ret pe_bl)) pss_nil)))
      (pss_one (ps_ret pe_bl)))), ?_⟩
  have hl := rowsV_len B
  have no : ¬ (1 ≤ B.length ∧ B.length ≤ 9) → Good B = false := fun z => by
    unfold Good
    rw [decide_eq_false z]
    rfl
  -- 1 <= len(rows) <= 9
  refine ⟨_, rfl, a, _, rfl, .inl (SqL.of ha), _, _, rfl, rfl, _, rfl, ?_⟩
  refine iteD (fun c1 => ?_) (fun c1 => ?_)
  rotate_left
  · refine ⟨_, rfl, iteT ?_⟩
    have q' := q _ (.refl _)
    rw [no (by omega)] at q'
    exact q'
  refine ⟨_, _, rfl, rfl, _, rfl, ?_⟩
  refine iteN (fun c2 => ?_) (fun c2 => ?_)
  · have q' := q _ (.refl _)
    rw [no (by omega)] at q'
    exact q'
  -- 1 <= len(rows[0]) <= 9
  obtain ⟨r0, e0, l0, m0⟩ := head_at (B := B) (by intro z; have : B.length = 0 := (by rw [z]; rfl); omega)
  have s0 := hB.row _ m0
  have no2 : ¬ (1 ≤ wid B ∧ wid B ≤ 9) → Good B = false := fun z => by
    unfold Good
    rw [decide_eq_false z, Bool.false_and, Bool.and_false]
  have tl : (txt r0).length = wid B := by rw [txt_len, l0]
  refine ⟨_, rfl, a, _, _, _, rfl, rfl, SqL.of ha, atI_nat (j := 0) (rowsV_get e0), _, rfl, sz_le (by rw [txt_len]; omega), _, _, rfl, rfl, _, rfl, ?_⟩
  refine iteD (fun c3 => ?_) (fun c3 => ?_)
  rotate_left
  · refine ⟨_, rfl, iteT ?_⟩
    have q' := q _ (.refl _)
    rw [no2 (by omega)] at q'
    exact q'
  refine ⟨_, _, rfl, rfl, _, rfl, ?_⟩
  refine iteN (fun c4 => ?_) (fun c4 => ?_)
  · have q' := q _ (.refl _)
    rw [no2 (by omega)] at q'
    exact q'
  have yes : Good B = B.all (rowOk (wid B)) := by
    unfold Good
    rw [decide_eq_true (show 1 ≤ B.length ∧ B.length ≤ 9 by omega), decide_eq_true (show 1 ≤ wid B ∧ wid B ≤ 9 by omega), Bool.true_and, Bool.true_and]
  -- the rows
  refine ⟨_, rfl, a, rfl, ⟨_, SqL.of ha⟩, for_list (K := K) (a := a) (xs := rowsV B) (fun i σ H' => Same H H' ∧ (B.take i).all (rowOk (wid B)) = true ∧ ∃ v w, σ = [some (.ref a), v, w])
    ⟨.refl _, rfl, none, none, rfl⟩ (fun i σ H' _ ⟨e, _⟩ => SqL.of (e _ _ ha)) ?_ ?_⟩
  · rintro i x σ H1 hi ⟨s1, al, v, w, rfl⟩
    obtain ⟨r, er, rfl⟩ := rowsV_inv hi
    have mr : r ∈ B := List.mem_of_getElem? er
    have sr := hB.row _ mr
    have bad : rowOk (wid B) r = false → Good B = false := fun z => by
      rw [yes]
      rw [Bool.eq_false_iff]
      intro t
      rw [List.all_eq_true] at t
      rw [t r mr] at z
      cases z
    refine ⟨_, rfl, _, rfl, sz_le (by rw [txt_len]; omega), _, rfl, a, _, _, _, rfl, rfl, SqL.of (s1 _ _ ha), atI_nat (j := 0) (rowsV_get e0), _, rfl, sz_le (by rw [txt_len]; omega), rfl, _, rfl, ?_⟩
    refine iteN (fun c5 => ?_) (fun c5 => ?_)
    · refine iteT ?_
      have q' := q _ s1
      rw [bad (by
        unfold rowOk
        rw [decide_eq_false (fun z => c5 (by rw [txt_len, txt_len, z, l0])), Bool.false_and])] at q'
      exact q'
    have c5' : r.length = wid B := by
      have e : (((txt r).length : Nat) : Int) = (((txt r0).length : Nat) : Int) := V.int.inj c5
      rw [txt_len, txt_len] at e
      omega
    -- all([letter in 'nw.' for letter in row])
    refine ⟨_, rfl, _, rfl, fun D hD => lc_it walk_str (fun j H' => Same H1 H' ∧ H' D = some (.lst (((r.take j).map okc).map V.bl))) ⟨same_new hD _, upd_same⟩ (fun _ _ _ _ => trivial) (fun j x H2 H3 hj ⟨s2, h2⟩ ⟨e3, c, ec, ex⟩ => ?_) (fun H2 ⟨s2, h2⟩ => ?_)⟩
    · subst e3 ex
      have ec' := get_txt ec
      refine ⟨rfl, _, rfl, c, _, rfl, rfl, _, h2, sz_lt (by rw [List.length_map, List.length_map, List.length_take]; omega), same_mut s2 hD, ?_⟩
      have ek : decide (c ∈ (Str.ofString "nw.").cps.toList) = okc c := by
        rw [s_nwd]
        rfl
      rw [ek, upd_same, take_map_snoc ec', List.map_append]
      rfl
    · rw [txt_size, List.take_length] at h2
      refine ⟨_, _, rfl, SqL.of h2, _, rfl, ?_⟩
      have ea : (r.map okc).all id = r.all okc := by rw [List.all_map]; rfl
      rw [ea]
      refine iteNB (fun c6 => ?_) (fun c6 => ?_)
      · have q' := q _ (s1.trans s2)
        rw [bad (by
          unfold rowOk
          rw [c6, Bool.and_false])] at q'
        exact q'
      · refine ⟨s1.trans s2, all_take al er ?_, _, _, rfl⟩
        unfold rowOk
        rw [decide_eq_true c5', c6]
        rfl
  · rintro σ H1 ⟨s1, al, v, w, rfl⟩
    have q' := q _ s1
    rw [rowsV_len, List.take_length] at al
    rw [yes, al] at q'
    exact q'
/-- Board(rows): the rows are looked at, then kept in a new list -/
def sp_Board_init (C CB : Addr) : Sp := fun vs H Q E => ∃ (p dx a : Addr) (B : Bd), vs = [.ref p, .ref a] ∧ H p = some (.ins C dx []) ∧ H a = some (.lst (rowsV B)) ∧ Small B ∧
  (Good B = false → ∀ H', Same H H' → E (.ref CB) none H') ∧
  (Good B = true → ∀ (H' : Hp) (l : Addr), (∀ b o, H b = some o → b ≠ p → H' b = some o) → H l = none → BoardAt C H' p l B → Q .non H')
theorem ok_Board_init (T : Top K mg) : FnOk P w K mg base (L2.CX P w) 2 T.a_Board___init__ T.d_Board___init__ ["self", "rows"] (sp_Board_init T.C_Board T.C_BadBoard) := by
  refine T.F_Board___init__.okX sc_Board___init__ (fun vs H Q E h => ?_) (fun cdv A outer s H vs Q E hr h => ?_)
  · obtain ⟨_, _, _, _, rfl, _⟩ := h
    rfl
  obtain ⟨p, dx, a, B, rfl, hp, ha, hB, qb, qg⟩ := h
  refine ⟨_, (pss_cons (ps_if (pt_not (pt_val (pe_call (ok_board_right T) (hr.mono (by decide)) rfl T.m_board_right T.F_board_right.kp T.B_board_right .nil pass0 (pa_cons (pv 1) pa_nil))))
      (pss_one (ps_raise rfl (takes_of rfl rfl rfl rfl) (pmk_own PySem.F.excBase_ValueError T.x_BadBoard T.mC_BadBoard T.k_BadBoard (raises_own T.b_BadBoard T.t_BadBoard) rfl))) pss_nil)
      (pss_cons (ps_fld (pv 0) (pe_callTy call_list_of (by rfl) T.z_list (by decide +kernel) (pa_cons (pv 1) pa_nil)) rfl)
      (pss_cons (ps_fld (pv 0) (pe_callB call_len_seq (by rfl) T.z_len PySem.boot_len (pa_cons (pv 1) pa_nil)) rfl)
      (pss_one (ps_fld (pv 0) (pe_callB call_len_str (by rfl) T.z_len PySem.boot_len (pa_cons (pe_ix ix_list (pv 1) pe_int (fun _ _ => rfl)) pa_nil)) rfl))))), ?_⟩
  refine ⟨_, rfl, a, B, rfl, ha, hB, fun H1 s1 => ?_⟩
  refine ⟨_, rfl, iteNB (fun c => ?_) (fun c => ?_)⟩
  · exact qb c _ s1
  -- self.rows = list(rows)
  obtain ⟨r0, e0, l0, m0⟩ := head_at (B := B) (by
    have := (good_is c).h1
    intro z
    rw [z] at this
    exact absurd this (by decide))
  have hp1 := s1 _ _ hp
  have ha1 := s1 _ _ ha
  refine ⟨_, rfl, a, _, rfl, .inl (SqL.of ha1), fun l hl => ?_⟩
  have npl : p ≠ l := ne_of_none hp1 hl
  have nal : a ≠ l := ne_of_none ha1 hl
  have npa : a ≠ p := ne_of ha1 hp1 (by intro z; cases z)
  refine ⟨_, rfl, p, T.C_Board, dx, [], rfl, (by rw [upd_ne npl]; exact hp1), T.cl_Board, T.n_Board_rows, (by show 0 < 1000; decide), ?_⟩
  have ha2 : ∀ o, upd (upd H1 l (.lst (rowsV B))) p o a = some (.lst (rowsV B)) := fun o => by rw [upd_ne npa, upd_ne nal]; exact ha1
  have ha3 : ∀ o u, upd (upd (upd H1 l (.lst (rowsV B))) p o) p u a = some (.lst (rowsV B)) := fun o u => by rw [upd_ne npa]; exact ha2 o
  -- self.height = len(rows); self.width = len(rows[0])
  refine ⟨_, rfl, a, _, rfl, .inl (SqL.of (ha2 _)), _, rfl, p, T.C_Board, dx, _, rfl, upd_same, T.cl_Board, T.n_Board_height, (by show 1 < 1000; decide), ?_⟩
  refine ⟨_, rfl, a, _, _, _, rfl, rfl, SqL.of (ha3 _ _), atI_nat (j := 0) (rowsV_get e0), _, rfl, sz_le (by rw [txt_len]; have := hB.row _ m0; omega), _, rfl, p, T.C_Board, dx, _, rfl, upd_same, T.cl_Board, T.n_Board_width, ?_, ?_⟩
  · show List.length (putF "height" (.int ((rowsV B).length : Int)) [("rows", .ref l)]) < 1000
    rw [pt_p (by decide +kernel)]
    show 2 < 1000
    decide
  refine qg c _ l (fun b o hb nb => ?_) (s1.free hl) ⟨⟨dx, ?_⟩, ?_⟩
  · rw [upd_ne nb, upd_ne nb, upd_ne nb, upd_ne (ne_of_none (s1 _ _ hb) hl)]
    exact s1 _ _ hb
  · rw [upd_same]
    refine congrArg (fun z => some (HO.ins T.C_Board dx z)) ?_
    rw [rowsV_len, txt_len, l0]
    exact bfl_new l B.length (wid B)
  · rw [upd_ne npl.symm, upd_ne npl.symm, upd_ne npl.symm, upd_same]
/-- what follows of Board(..): the new board, all else as it was -/
theorem made_board {C p dx : Addr} {H H' : Hp} (hp : H p = none) (hd : H dx = none) (k : ∀ b o, upd (upd H dx (.own p)) p (.ins C dx []) b = some o → b ≠ p → H' b = some o) : Same H H' := fun b o e =>
  k b o (by rw [upd_ne (ne_of_none e hp), upd_ne (ne_of_none e hd)]; exact e) (ne_of_none e hp)
/-- Board(e) where e is worth a list of good rows -/
theorem make_board {C CB : Addr} {t : TA} {σ : L2.St} {H : Hp} {Q : VK} {B : Bd} {h w : Nat} (I : IsB B h w)
    (ht : ∀ R : List V → Hp → Prop, (∀ (n : Addr) (H1 : Hp), Same H H1 → H1 n = some (.lst (rowsV B)) → R [.ref n] H1) → t σ H R)
    (k : ∀ (o l : Addr) (H' : Hp), Same H H' → H o = none → H l = none → BoardAt C H' o l B → Q (.ref o) H') : tMake C (sp_Board_init C CB) [] E0 t σ H Q := by
  refine ht _ fun n H1 s1 hn o d no nd ndo => ?_
  have so := ((same_new nd (.own o)).trans (same_new (by rw [upd_ne (Ne.symm ndo)]; exact no) (.ins C d [])))
  refine ⟨o, d, n, _, rfl, upd_same, so _ _ hn, I.small, fun hb => ?_, fun _ H5 l5 k5 n5 b5 => ⟨rfl, ?_⟩⟩
  · rw [I.good] at hb
    cases hb
  · exact k o l5 H5 (s1.trans (made_board no nd k5)) (s1.free no) ((s1.trans so).free n5) b5
theorem q_make {C CB : Addr} {i : Nat} {t : TA} {tz : TS} {D : Ends} {σ : L2.St} {H : Hp} {B : Bd} {h w : Nat} (I : IsB B h w)
    (ht : ∀ R : List V → Hp → Prop, (∀ (n : Addr) (H1 : Hp), Same H H1 → H1 n = some (.lst (rowsV B)) → R [.ref n] H1) → t σ H R)
    (k : ∀ (o l : Addr) (H' : Hp), Same H H' → H o = none → H l = none → BoardAt C H' o l B → tz D (σ.set i (some (.ref o))) H') : tSeq (tAsg (tMake C (sp_Board_init C CB) [] E0 t) (gName i)) tz D σ H :=
  make_board (Q := fun v H1 => tz D (σ.set i (some v)) H1) I ht k
end
end Sw
namespace Sw
open PySem PySem.Spec PyProof.Rows L2
section
variable {P : Program} {w : World} {K : PySem.W.Frag} {mg : Str → Option Value} {base : Heap}
/-! has, sign, laid, other, turned_over, empty -/
theorem join_txt : ∀ l : List Nat, Txt.join (txt []) (l.map fun c => txt [c]) = txt l := by
  intro l
  show Builtin.Str.glued _ _ = _
  rw [PySem.StrLaws.glued_eq_join]
  induction l with
  | nil => rfl
  | cons a l ih =>
    cases l with
    | nil => rfl
    | cons b l =>
      rw [List.map_cons, List.map_cons]
      show txt [a] ++ txt [] ++ Str.join (txt []) (txt [b] :: l.map fun c => txt [c]) = _
      rw [← List.map_cons (f := fun c => txt [c]), ih, txt_app, txt_app]
      rfl
def sp_has (C : Addr) : Sp := fun vs H Q _ => ∃ (p l : Addr) (B : Bd) (h w : Nat) (r c : Int), vs = [.ref p, .int r, .int c] ∧ BoardAt C H p l B ∧ IsB B h w ∧ Q (.bl (decide (Ins h w (r, c)))) H
theorem ok_Board_has (T : Top K mg) : FnOk P w K mg base CX0 1 T.a_Board_has T.d_Board_has ["self", "r", "c"] (sp_has T.C_Board) := by
  refine T.F_Board_has.ok sc_Board_has (fun vs H Q E h => ?_) (fun cdv A outer s H vs Q E hr h => ?_)
  · obtain ⟨_, _, _, _, _, _, _, rfl, _⟩ := h
    rfl
  obtain ⟨p, l, B, h, w, r, c, rfl, ⟨⟨dx, hp⟩, hl⟩, I, q⟩ := h
  rw [I.hh, I.wid] at hp
  refine ⟨_, (pss_one (ps_ret (pe_and (pe_chain op_le op_lt pe_int (pv 1) (pe_fld (pv 0) rfl)) (pe_one (pe_chain op_le op_lt pe_int (pv 2) (pe_fld (pv 0) rfl)))))), ?_⟩
  have no : ¬ Ins h w (r, c) → Q (.bl false) H := fun z => by
    rw [decide_eq_false z] at q
    exact q
  refine ⟨_, rfl, _, _, rfl, rfl, _, rfl, ?_⟩
  refine iteD (fun c1 => ?_) (fun c1 => ⟨_, rfl, iteF (no fun z => c1 z.1)⟩)
  refine ⟨_, rfl, p, _, dx, _, _, rfl, hp, T.cl_Board, T.n_Board_height, bfl_height _ _ _, _, _, rfl, rfl, _, rfl, ?_⟩
  refine iteD (fun c2 => ?_) (fun c2 => no fun z => c2 z.2.1)
  refine ⟨_, rfl, _, _, rfl, rfl, _, rfl, ?_⟩
  refine iteD (fun c3 => ?_) (fun c3 => no fun z => c3 z.2.2.1)
  refine ⟨_, rfl, p, _, dx, _, _, rfl, hp, T.cl_Board, T.n_Board_width, bfl_width _ _ _, _, _, rfl, rfl, ?_⟩
  by_cases c4 : c < (w : Int)
  · rw [decide_eq_true (show Ins h w (r, c) from ⟨c1, c2, c3, c4⟩)] at q
    show Q (.bl (decide (c < (w : Int)))) H
    rw [decide_eq_true c4]
    exact q
  · show Q (.bl (decide (c < (w : Int)))) H
    rw [decide_eq_false c4]
    exact no fun z => c4 z.2.2.2
end
end Sw
namespace Sw
open PySem PySem.Spec PyProof.Rows L2
section
variable {P : Program} {w : World} {K : PySem.W.Frag} {mg : Str → Option Value} {base : Heap}
theorem sg_eq {x y : Nat} : V.str (txt [x]) = V.str (txt [y]) ↔ x = y := by
  constructor
  · intro h
    have := txt_inj (V.str.inj h)
    exact (List.cons.inj this).1
  · intro h
    rw [h]
def sp_laid (C CN : Addr) : Sp := fun vs H Q E => ∃ (p l : Addr) (B : Bd) (h w : Nat) (r c : Int) (x : Nat), vs = [.ref p, .int r, .int c, .str (txt [x])] ∧ BoardAt C H p l B ∧ IsB B h w ∧ (x = 110 ∨ x = 119 ∨ x = 46) ∧
  (¬ Ins h w (r, c) → E (.ref CN) none H) ∧ (Ins h w (r, c) → ∀ (p' l' : Addr) (H' : Hp), Same H H' → H p' = none → BoardAt C H' p' l' (putB B (r, c) x) → Q (.ref p') H')
theorem ok_laid (T : Top K mg) : FnOk P w K mg base (L2.CX P w) 5 T.a_laid T.d_laid ["board", "r", "c", "hand"] (sp_laid T.C_Board T.C_NoCell) := by
  refine T.F_laid.okX sc_laid (fun vs H Q E h => ?_) (fun cdv A outer s H vs Q E hr h => ?_)
  · obtain ⟨_, _, _, _, _, _, _, _, rfl, _⟩ := h
    rfl
  obtain ⟨p, l, B, h, w, r, c, x, rfl, bt, I, hx, qe, qs⟩ := h
  refine ⟨_, (pss_cons (ps_if (pt_not (pt_val (pe_meth (pv 0) T.cl_Board T.M_Board_has (ok_Board_has T) (hr.mono (by decide)) T.B_Board_has .nil pass0 (pa_cons (pv 1) (pa_cons (pv 2) pa_nil)))))
      (pss_one (ps_raise rfl (takes_of rfl rfl rfl rfl) (pmk_own PySem.F.excBase_ValueError T.x_NoCell T.mC_NoCell T.k_NoCell (raises_own T.b_NoCell T.t_NoCell) rfl))) pss_nil)
      (pss_cons (ps_set (i := 4) sc_laid.nd rfl (Or.inl rfl) (pe_callTy call_list_of (by rfl) T.z_list (by decide +kernel) (pa_cons (pe_fld (pv 0) rfl) pa_nil)))
      (pss_cons (ps_asg (pe_op op_add_str (pe_op op_add_str (pe_slice sl_str (pe_ix ix_list (pv 4) (pv 1) (fun _ _ => rfl)) po_none (po_some (pv 2))) (pv 3)) (pe_slice sl_str (pe_ix ix_list (pv 4) (pv 1) (fun _ _ => rfl)) (po_some (pe_op op_add (pv 2) pe_int)) po_none)) (pg_sub (pv 4) (pv 1) set_list))
      (pss_one (ps_ret (pe_make T.Mk_Board (ok_Board_init T) (hr.mono (by decide)) (by rfl) T.mC_Board T.B_Board___init__ .nil passL (pa_cons (pv 4) pa_nil))))))), ?_⟩
  obtain ⟨⟨dx, hp⟩, hl⟩ := id bt
  refine ⟨_, rfl, p, dx, _, rfl, hp, bfl_has _ _ _, _, rfl, _, rfl, p, l, B, h, w, r, c, rfl, bt, I, _, rfl, ?_⟩
  refine iteN (fun z => qe z) (fun z => ?_)
  obtain ⟨row, er, mr, lr, ec, _⟩ := I.at z
  have z1 := z.1
  have z2 := z.2.1
  have z3 := z.2.2.1
  have z4 := z.2.2.2
  have ltr : (txt row).length = w := by rw [txt_len, lr]
  have w9 := I.w9
  -- rows = list(board.rows)
  refine ⟨_, rfl, p, _, dx, _, _, rfl, hp, T.cl_Board, T.n_Board_rows, bfl_rows _ _ _, l, _, rfl, .inl (SqL.of hl), fun n hn => ?_⟩
  have s1 := same_new hn (.lst (rowsV B))
  have hn1 : upd H n (.lst (rowsV B)) n = some (.lst (rowsV B)) := upd_same
  have atr : atI (rowsV B) r = some (rowV row) := at_int z1 (rowsV_get er)
  -- rows[r] = rows[r][:c] + hand + rows[r][c + 1:]
  refine ⟨_, rfl, _, rfl, n, _, _, _, rfl, rfl, SqL.of hn1, atr, _, rfl, _, rfl, _, rfl, sz_le (by omega), ?_⟩
  rw [cutS_to z3 (by rw [lr]; omega)]
  refine ⟨_, rfl, _, _, rfl, rfl, ?_, _, rfl, _, rfl, n, _, _, _, rfl, rfl, SqL.of hn1, atr, _, rfl, _, _, rfl, rfl, _, rfl, _, rfl, sz_le (by omega), ?_⟩
  · rw [txt_len, txt_len, List.length_take]
    exact sz_le (by show _ + 1 ≤ 1000000; omega)
  rw [cutS_from (by omega) (by rw [lr]; omega), txt_app]
  refine ⟨_, _, rfl, rfl, ?_, ?_⟩
  · rw [txt_len, txt_len, List.length_append, List.length_take, List.length_drop]
    exact sz_le (by show _ + 1 + _ ≤ 1000000; omega)
  have etx : row.take c.toNat ++ [x] ++ row.drop (c + 1).toNat = row.set c.toNat x := by
    rw [show (c + 1).toNat = c.toNat + 1 by omega]
    exact set_take_drop row c.toNat x (by omega)
  rw [txt_app, etx]
  refine ⟨_, rfl, _, rfl, n, _, _, r.toNat, rfl, rfl, hn1, ?_, ?_⟩
  · show ixN (rowsV B).length r = some r.toNat
    unfold ixN
    rw [if_pos z1, if_pos (by rw [rowsV_len, I.hh]; exact z2)]
  have eset : (rowsV B).set r.toNat (.str (txt (row.set c.toNat x))) = rowsV (putB B (r, c) x) := by
    rw [putB_eq (p := (r, c)) er]
    unfold rowsV
    rw [List.map_set]
    rfl
  have nlp : p ≠ n := ne_of_none hp hn
  have s2 : Same H (upd (upd H n (.lst (rowsV B))) n (.lst ((rowsV B).set r.toNat (.str (txt (row.set c.toNat x)))))) := same_mut s1 hn
  rw [eset] at s2 ⊢
  have hn2 : upd (upd H n (.lst (rowsV B))) n (.lst (rowsV (putB B (r, c) x))) n = some (.lst (rowsV (putB B (r, c) x))) := upd_same
  revert s2 hn2
  generalize upd (upd H n (.lst (rowsV B))) n (.lst (rowsV (putB B (r, c) x))) = H2
  intro s2 hn2
  have I2 := putB_is I (r, c) hx
  -- return Board(rows)
  refine ⟨_, rfl, fun o d no nd ndo => ?_⟩
  have so := ((same_new nd (.own o)).trans (same_new (by rw [upd_ne (Ne.symm ndo)]; exact no) (.ins T.C_Board d [])))
  refine ⟨o, d, n, _, rfl, upd_same, so _ _ hn2, I2.small, fun hb => ?_, fun _ H5 l5 k5 n5 b5 => ⟨rfl, ?_⟩⟩
  · rw [I2.good] at hb
    cases hb
  · exact qs z o l5 H5 (s2.trans (made_board no nd k5)) (s2.free no) b5
def sp_other : Sp := fun vs H Q _ => ∃ x : Nat, vs = [.str (txt [x])] ∧ Q (.str (txt [oth x])) H
theorem ok_other (T : Top K mg) : FnOk P w K mg base CX0 1 T.a_other T.d_other ["letter"] sp_other := by
  refine T.F_other.ok sc_other (fun vs H Q E h => ?_) (fun cdv A outer s H vs Q E hr h => ?_)
  · obtain ⟨_, rfl, _⟩ := h
    rfl
  obtain ⟨x, rfl, q⟩ := h
  refine ⟨_, (pss_cons (ps_if (pt_cmpR op_eq (pv 0) pe_str (nomark _))
      (pss_one (ps_ret pe_str)) pss_nil)
      (pss_cons (ps_if (pt_cmpR op_eq (pv 0) pe_str (nomark _))
      (pss_one (ps_ret pe_str)) pss_nil)
      (pss_one (ps_ret (pv 0))))), ?_⟩
  unfold oth at q
  rw [s_n, s_w]
  refine ⟨_, rfl, rfl, _, rfl, iteD (fun e => ?_) (fun e => ?_)⟩
  · rw [if_pos (sg_eq.mp e)] at q
    exact q
  · rw [if_neg (fun z => e (sg_eq.mpr z))] at q
    refine ⟨_, rfl, rfl, _, rfl, iteD (fun e2 => ?_) (fun e2 => ?_)⟩
    · rw [if_pos (sg_eq.mp e2)] at q
      exact q
    · rw [if_neg (fun z => e2 (sg_eq.mpr z))] at q
      exact ⟨_, rfl, q⟩
def sp_empty (C : Addr) : Sp := fun vs H Q _ => ∃ (p l : Addr) (B : Bd) (h w : Nat), vs = [.ref p] ∧ BoardAt C H p l B ∧ IsB B h w ∧ ∀ v H', NewCells H (emptyL B) v H' → Q v H'
theorem ok_empty (T : Top K mg) : FnOk P w K mg base CX0 1 T.a_empty T.d_empty ["board"] (sp_empty T.C_Board) := by
  refine T.F_empty.ok sc_empty (fun vs H Q E h => ?_) (fun cdv A outer s H vs Q E hr h => ?_)
  · obtain ⟨_, _, _, _, _, rfl, _⟩ := h
    rfl
  obtain ⟨p, l, B, h, w, rfl, ⟨⟨dx, hp⟩, hl⟩, I, q⟩ := h
  rw [I.hh, I.wid] at hp
  refine ⟨_, (pss_cons (ps_set (i := 1) sc_empty.nd rfl (Or.inl rfl) (pe_lst pa_nil))
      (pss_cons (ps_for PassesOwn.never rfl (pi_enum (by rfl) T.z_enumerate (pa_cons (pe_fld (pv 0) rfl) pa_nil)) (pg_tup rfl (pgs_cons (pg_name (i := 2) sc_empty.nd rfl (Or.inr rfl)) (pgs_cons (pg_name (i := 3) sc_empty.nd rfl (Or.inl rfl)) pgs_nil)))
      (pss_one (ps_expr (pe_bm PySem.F.plainAttrs_list PySem.F.slot_list_extend PySem.F.type_list_extend mt_extend (pv 1) (pa_cons (pe_lc (own := [("c", 4), ("letter", 5)]) (g := gTup K 2 (gCons (gName 4) (gCons (gName 5) gNil))) rfl sc_empty.nd (pi_enumS (by rfl) T.z_enumerate (pa_cons (pv 3) pa_nil)) (blkOk_by (own := [("c", 4), ("letter", 5)]) (N := N_empty) (sc := defScope s_empty) (by decide +kernel)) (fun _ _ _ _ _ => (pg_tup rfl (pgs_cons (pg_name (i := 4) sc_empty.nd rfl (Or.inl rfl)) (pgs_cons (pg_name (i := 5) sc_empty.nd rfl (Or.inl rfl)) pgs_nil)))) (fun _ _ _ _ _ => pts_one (pt_cmpR op_eq (pv 5) pe_str (nomark _))) (fun _ _ _ _ _ => (pe_tup (pa_cons (pv 2) (pa_cons (pv 4) pa_nil))))) pa_nil)))))
      (pss_one (ps_ret (pv 1))))), ?_⟩
  have h9 := I.h9
  have w9 := I.w9
  refine ⟨sz0, fun n hn => ?_⟩
  have s1 := same_new hn (.lst [])
  refine ⟨_, rfl, p, _, dx, _, _, rfl, s1 _ _ hp, T.cl_Board, T.n_Board_rows, bfl_rows _ _ _, l, _, rfl, SqL.of (s1 _ _ hl),
    for_it walk_enum (fun i σ H' => Same H H' ∧ ∃ ws, H' n = some (.lst ws) ∧ Cells H' ws (emptyTo B i) ∧ ∃ v1 v2 v3 v4, σ = [some (.ref p), some (.ref n), v1, v2, v3, v4]) ⟨s1, [], upd_same, .nil, _, _, _, _, rfl⟩ (fun i σ H' _ ⟨s, _⟩ => SqL.of (s _ _ hl)) ?_ ?_⟩
  · rintro i x σ H1 H2 hi ⟨s1, ws, hn1, hc, v1, v2, v3, v4, rfl⟩ ⟨t, x1, x2, rfl, ht, rfl, ex1, ex2⟩
    cases ex1
    obtain ⟨row, ey, rfl⟩ := rowsV_inv ex2
    have s2 := same_new ht (.tup [.int (i : Int), rowV row])
    have ht2 : upd H1 t (.tup [.int (i : Int), rowV row]) t = some (.tup [.int (i : Int), rowV row]) := upd_same
    revert s2 ht2
    generalize upd H1 t (.tup [.int (i : Int), rowV row]) = H2
    intro s2 ht2
    have lrow := I.ww _ (List.mem_of_getElem? ey)
    have hi' : i < h := by
      rw [rowsV_len, I.hh] at hi
      exact hi
    have lc := hc.len
    have le := emptyTo_len I i (by omega)
    have lm : i * w ≤ 9 * 9 := Nat.mul_le_mul (by omega) w9
    refine ⟨t, _, rfl, SqT.of ht2, rfl, _, _, rfl, _, _, rfl, rfl, ?_⟩
    refine ⟨_, rfl, .inl ⟨rfl, _, SqL.of (s2 _ _ hn1)⟩, _, rfl, txt row, rfl, fun D hD =>
      lc_it walk_enumS (fun j H' => Same H2 H' ∧ ∃ ws2, H' D = some (.lst ws2) ∧ Cells H' ws2 (rowEt i row j)) ⟨same_new hD _, [], upd_same, .nil⟩ (fun _ _ _ _ => trivial)
        (fun j x H3 H4 hj ⟨s3, ws2, hD2, hc2⟩ ⟨T, c, e1, hT, e2, ec⟩ => ?_) (fun H3 ⟨s3, ws2, hD2, hc2⟩ => ?_)⟩
    · subst e1 e2
      rw [txt_size] at hj
      have ec' := get_txt ec
      have eg : row.getD j 0 = c := by
        rw [List.getD_eq_getElem?_getD, ec']
        rfl
      have s4 := same_new hT (.tup [.int (j : Int), .str ⟨#[c]⟩])
      refine ⟨T, _, rfl, SqT.of upd_same, rfl, _, _, rfl, _, _, rfl, rfl, rfl, _, rfl, rfl, _, rfl, ?_⟩
      refine iteD (fun z => ?_) (fun z => ?_)
      · rw [s_dot] at z
        have ez : row.getD j 0 = 46 := by
          rw [eg]
          exact sg_eq.mp z
        refine ⟨_, rfl, _, rfl, sz2, fun t2 ht2' => ?_⟩
        have s5 := s4.trans (same_new ht2' (.tup (cellV ((i : Int), (j : Int)))))
        have lw := hc2.len
        have lw2 := rowEt_len i row j
        have hD5 := s5 _ _ hD2
        refine ⟨ws2, hD5, sz_lt (by omega), same_mut (s3.trans s5) hD, ws2 ++ [.ref t2], upd_same, ?_⟩
        rw [rowEt_yes ez]
        refine ((hc2.same s5).app (.one ?_)).tps (.lst hD5)
        exact upd_same
      · rw [s_dot] at z
        refine ⟨s3.trans s4, ws2, s4 _ _ hD2, ?_⟩
        rw [rowEt_no (fun e => z (by rw [eg] at e; rw [e]; rfl))]
        exact hc2.same s4
    · rw [txt_size] at hc2
      have s6 := s2.trans s3
      have lw := hc2.len
      have lw2 := rowEt_len i row row.length
      have hn3 := s6 _ _ hn1
      refine ⟨n, D, ws, ws2, rfl, rfl, hn3, hD2, sz_le (by omega), ?_⟩
      refine ⟨same_mut (s1.trans s6) hn, ws ++ ws2, upd_same, ?_, _, _, _, _, rfl⟩
      have eg : B.getD i [] = row := by
        rw [List.getD_eq_getElem?_getD, ey]
        rfl
      rw [emptyTo_succ, eg]
      exact ((hc.same s6).app hc2).tps (.lst hn3)
  · rintro σ H1 ⟨s1, ws, hn1, hc, v1, v2, v3, v4, rfl⟩
    rw [rowsV_len] at hc
    exact ⟨_, rfl, q _ _ ⟨n, ws, rfl, hn, s1, hn1, hc⟩⟩
end
end Sw
namespace Sw
open PySem PySem.Spec PyProof.Rows L2
section
variable {P : Program} {w : World} {K : PySem.W.Frag} {mg : Str → Option Value} {base : Heap}
/-! beginnings, at_end, road, joined -/
def sp_beginnings (C : Addr) : Sp := fun vs H Q _ => ∃ (p l : Addr) (B : Bd) (h w : Nat) (s : Bool), vs = [.ref p, .str (txt [lt s])] ∧ BoardAt C H p l B ∧ IsB B h w ∧ ∀ v H', NewCells H (begs B h w s) v H' → Q v H'
theorem ok_beginnings (T : Top K mg) : FnOk P w K mg base CX0 1 T.a_beginnings T.d_beginnings ["board", "hand"] (sp_beginnings T.C_Board) := by
  refine T.F_beginnings.ok sc_beginnings (fun vs H Q E h => ?_) (fun cdv A outer s H vs Q E hr h => ?_)
  · obtain ⟨_, _, _, _, _, _, rfl, _⟩ := h
    rfl
  obtain ⟨p, l, B, h, w, s, rfl, ⟨⟨dx, hp⟩, hl⟩, I, q⟩ := h
  rw [I.hh, I.wid] at hp
  refine ⟨_, (Evl.pss_cut (ps_if (pt_cmpR op_eq (pv 1) pe_str (nomark _))
      (pss_one (ps_setLc (i := 2) (own := [("c", 4)]) (g := gName 4) (tt := tYes) rfl sc_beginnings.nd rfl rfl (sw_true rfl rfl rfl (by decide +kernel)) (pi_range1 rfl T.z_range (pa_cons (pe_fld (pv 0) rfl) pa_nil)) (blkOk_by (own := [("c", 4)]) (N := N_beginnings) (sc := defScope s_beginnings) (by decide +kernel)) (fun _ _ _ _ _ => (pg_name (i := 4) sc_beginnings.nd rfl (Or.inl rfl))) (fun _ _ _ _ _ => pts_nil) (fun _ _ _ _ _ => (pe_tup (pa_cons pe_int (pa_cons (pv 4) pa_nil)))))) (pss_one (ps_setLc (i := 2) (own := [("r", 5)]) (g := gName 5) (tt := tYes) rfl sc_beginnings.nd rfl rfl (sw_true rfl rfl rfl (by decide +kernel)) (pi_range1 rfl T.z_range (pa_cons (pe_fld (pv 0) rfl) pa_nil)) (blkOk_by (own := [("r", 5)]) (N := N_beginnings) (sc := defScope s_beginnings) (by decide +kernel)) (fun _ _ _ _ _ => (pg_name (i := 5) sc_beginnings.nd rfl (Or.inl rfl))) (fun _ _ _ _ _ => pts_nil) (fun _ _ _ _ _ => (pe_tup (pa_cons (pv 5) (pa_cons pe_int pa_nil)))))))
      (pss_one (ps_ret (pe_lc (own := [("cell", 3)]) (g := gName 3) rfl sc_beginnings.nd (pi_list (pv 2)) (blkOk_by (own := [("cell", 3)]) (N := N_beginnings) (sc := defScope s_beginnings) (by decide +kernel)) (fun _ _ _ _ _ => (pg_name (i := 3) sc_beginnings.nd rfl (Or.inl rfl))) (fun _ _ _ _ _ => pts_one (pt_cmpR op_eq (pe_ix ix_str (pe_ix (ix_listK (K := K) rfl) (pe_fldK (K := K) rfl (pv 0) rfl) (pe_ix (ix_tupK (K := K) rfl) (pv 3) pe_int (fun _ _ => rfl)) (fun _ _ => rfl)) (pe_ix (ix_tupK (K := K) rfl) (pv 3) pe_int (fun _ _ => rfl)) (fun _ _ => rfl)) (pv 1) (nomark _))) (fun _ _ _ _ _ => (pv 3)))))), ?_⟩
  have h9 := I.h9
  have w9 := I.w9
  refine ⟨fun σ H' => ∃ v, NewCells H (shoreL h w s) v H' ∧ σ = [some (.ref p), some (.str (txt [lt s])), some v, none, none, none], ?_, ?_⟩
  · refine ⟨_, rfl, rfl, _, rfl, iteD (fun e => ?_) (fun e => ?_)⟩
    · have es := hand_n.mp e
      subst es
      refine ⟨_, rfl, p, _, dx, _, _, rfl, hp, T.cl_Board, T.n_Board_width, bfl_width _ _ _, (w : Int), rfl, by omega, by omega, fun D hD =>
        lc_it walk_range (fun j H' => Same H H' ∧ ∃ ws, H' D = some (.lst ws) ∧ Cells H' ws ((List.range j).map fun c : Nat => ((0 : Int), (c : Int)))) ⟨same_new hD _, [], upd_same, .nil⟩ (fun _ _ _ _ => trivial)
          (fun j x H2 H3 hj ⟨s2, ws, h2, hc⟩ ⟨e3, ex⟩ => ?_) (fun H2 ⟨s2, ws, h2, hc⟩ => ?_)⟩
      · subst e3 ex
        have lc := hc.len
        rw [List.length_map, List.length_range] at lc
        refine ⟨rfl, _, rfl, sz2, fun t ht => ?_⟩
        have st := same_new ht (.tup (cellV ((0 : Int), ((0 : Int) + (j : Int)))))
        refine ⟨ws, st _ _ h2, sz_lt (by omega), same_mut (s2.trans st) hD, ws ++ [.ref t], upd_same, ?_⟩
        rw [List.range_succ, List.map_append]
        refine ((hc.same st).app (.one ?_)).tps (.lst (st _ _ h2))
        rw [Int.zero_add]
        exact upd_same
      · exact ⟨_, ⟨D, ws, rfl, hD, s2, h2, by rw [Int.toNat_natCast] at hc; exact hc⟩, rfl⟩
    · have es : s = true := by
        cases s
        · exact absurd (hand_n.mpr rfl) e
        · rfl
      subst es
      refine ⟨_, rfl, p, _, dx, _, _, rfl, hp, T.cl_Board, T.n_Board_height, bfl_height _ _ _, (h : Int), rfl, by omega, by omega, fun D hD =>
        lc_it walk_range (fun j H' => Same H H' ∧ ∃ ws, H' D = some (.lst ws) ∧ Cells H' ws ((List.range j).map fun c : Nat => ((c : Int), (0 : Int)))) ⟨same_new hD _, [], upd_same, .nil⟩ (fun _ _ _ _ => trivial)
          (fun j x H2 H3 hj ⟨s2, ws, h2, hc⟩ ⟨e3, ex⟩ => ?_) (fun H2 ⟨s2, ws, h2, hc⟩ => ?_)⟩
      · subst e3 ex
        have lc := hc.len
        rw [List.length_map, List.length_range] at lc
        refine ⟨rfl, _, rfl, sz2, fun t ht => ?_⟩
        have st := same_new ht (.tup (cellV (((0 : Int) + (j : Int)), (0 : Int))))
        refine ⟨ws, st _ _ h2, sz_lt (by omega), same_mut (s2.trans st) hD, ws ++ [.ref t], upd_same, ?_⟩
        rw [List.range_succ, List.map_append]
        refine ((hc.same st).app (.one ?_)).tps (.lst (st _ _ h2))
        rw [Int.zero_add]
        exact upd_same
      · exact ⟨_, ⟨D, ws, rfl, hD, s2, h2, by rw [Int.toNat_natCast] at hc; exact hc⟩, rfl⟩
  rintro σ H1 ⟨v, ⟨D, ws, rfl, nD, s1, hD, hc⟩, rfl⟩
  have lw := hc.len
  have lsh := shoreL_len (h := h) (w := w) (s := s)
  refine ⟨_, rfl, D, rfl, ⟨_, SqL.of hD⟩, fun F hF =>
    lc_it walk_list (fun j H' => Same H1 H' ∧ ∃ us, H' F = some (.lst us) ∧ Cells H' us (((shoreL h w s).take j).filter fun p => decide (cel B p = lt s))) ⟨same_new hF _, [], upd_same, .nil⟩ (fun _ H' _ ⟨s2, _⟩ => SqL.of (s2 _ _ hD))
      (fun j x H2 H3 hj ⟨s2, us, h2, hu⟩ ⟨e3, ex⟩ => ?_) (fun H2 ⟨s2, us, h2, hu⟩ => ?_)⟩
  · subst e3
    obtain ⟨a, c, rfl, ec, ha⟩ := (hc.same s2).get ex
    have ic := shore_ins I (List.mem_of_getElem? ec)
    obtain ⟨row, er, mr, lr, ecel, _⟩ := I.at ic
    have s3 := s1.trans s2
    have lu := hu.len
    have lf := List.length_filter_le (fun p => decide (cel B p = lt s)) ((shoreL h w s).take j)
    have lt2 := List.length_take_le j (shoreL h w s)
    refine ⟨rfl, _, rfl, p, _, dx, _, _, rfl, s3 _ _ hp, T.cl_Board, T.n_Board_rows, bfl_rows _ _ _, _, rfl, a, _, _, _, rfl, rfl, SqT.of ha, atI_nat (j := 0) rfl, l, _, _, _, rfl, rfl, SqL.of (s3 _ _ hl), at_int ic.1 (rowsV_get er), _, rfl, a, _, _, _, rfl, rfl, SqT.of ha, atI_nat (j := 1) rfl, _, _, _, rfl, rfl, sz_le (by rw [txt_len, lr]; omega), atI_cps ic.2.2.1 ecel, _, rfl, rfl, _, rfl, ?_⟩
    rw [take_snoc ec, List.filter_append]
    refine iteD (fun z => ?_) (fun z => ?_)
    · have z' := sgn_eq.mp z
      refine ⟨_, rfl, us, h2, sz_lt (by omega), same_mut s2 hF, us ++ [.ref a], upd_same, ?_⟩
      have e1 : List.filter (fun p => decide (cel B p = lt s)) [c] = [c] := by
        rw [List.filter_cons, if_pos (decide_eq_true z')]
        rfl
      rw [e1]
      exact (hu.app (.one ha)).tps (.lst h2)
    · have e1 : List.filter (fun p => decide (cel B p = lt s)) [c] = [] := by
        rw [List.filter_cons, if_neg (by rw [decide_eq_true_eq]; exact fun y => z (sgn_eq.mpr y))]
        rfl
      refine ⟨s2, us, h2, ?_⟩
      rw [e1, List.append_nil]
      exact hu
  · rw [lw, List.take_length] at hu
    exact q _ _ ⟨F, us, rfl, s1.free hF, s1.trans s2, h2, hu⟩
def sp_at_end (C : Addr) : Sp := fun vs H Q _ => ∃ (p l : Addr) (B : Bd) (h w : Nat) (s : Bool) (a : Addr) (c : Cell), vs = [.ref p, .str (txt [lt s]), .ref a] ∧ BoardAt C H p l B ∧ IsB B h w ∧ H a = some (.tup (cellV c)) ∧
  Q (.bl (decide (sd s c = ext s h w - 1))) H
theorem ok_at_end (T : Top K mg) : FnOk P w K mg base CX0 1 T.a_at_end T.d_at_end ["board", "hand", "cell"] (sp_at_end T.C_Board) := by
  refine T.F_at_end.ok sc_at_end (fun vs H Q E h => ?_) (fun cdv A outer s H vs Q E hr h => ?_)
  · obtain ⟨_, _, _, _, _, _, _, _, rfl, _⟩ := h
    rfl
  obtain ⟨p, l, B, h, w, s, a, c, rfl, ⟨⟨dx, hp⟩, hl⟩, I, ha, q⟩ := h
  rw [I.hh, I.wid] at hp
  refine ⟨_, (pss_cons (ps_if (pt_cmpR op_eq (pv 1) pe_str (nomark _))
      (pss_one (ps_ret (pe_cmpR op_eq (pe_ix ix_tup (pv 2) pe_int (fun _ _ => rfl)) (pe_op op_sub (pe_fld (pv 0) rfl) pe_int) (nomark _)))) pss_nil)
      (pss_one (ps_ret (pe_cmpR op_eq (pe_ix ix_tup (pv 2) pe_int (fun _ _ => rfl)) (pe_op op_sub (pe_fld (pv 0) rfl) pe_int) (nomark _))))), ?_⟩
  refine ⟨_, rfl, rfl, _, rfl, iteD (fun e => ?_) (fun e => ?_)⟩
  · have es := hand_n.mp e
    subst es
    refine ⟨_, rfl, a, _, _, _, rfl, rfl, SqT.of ha, atI_nat (j := 0) rfl, _, rfl, p, _, dx, _, _, rfl, hp, T.cl_Board, T.n_Board_height, bfl_height _ _ _, _, _, rfl, rfl, ?_⟩
    have eq : V.bl (decide (V.int c.1 = V.int ((h : Int) - 1))) = V.bl (decide (sd false c = ext false h w - 1)) := by
      have : (V.int c.1 = V.int ((h : Int) - 1)) ↔ (sd false c = ext false h w - 1) := ⟨fun z => V.int.inj z, fun z => congrArg V.int z⟩
      rw [decide_eq_decide.mpr this]
    rw [← eq] at q
    exact ⟨rfl, q⟩
  · have es : s = true := by
      cases s
      · exact absurd (hand_n.mpr rfl) e
      · rfl
    subst es
    refine ⟨_, rfl, a, _, _, _, rfl, rfl, SqT.of ha, atI_nat (j := 1) rfl, _, rfl, p, _, dx, _, _, rfl, hp, T.cl_Board, T.n_Board_width, bfl_width _ _ _, _, _, rfl, rfl, ?_⟩
    have eq : V.bl (decide (V.int c.2 = V.int ((w : Int) - 1))) = V.bl (decide (sd true c = ext true h w - 1)) := by
      have : (V.int c.2 = V.int ((w : Int) - 1)) ↔ (sd true c = ext true h w - 1) := ⟨fun z => V.int.inj z, fun z => congrArg V.int z⟩
      rw [decide_eq_decide.mpr this]
    rw [← eq] at q
    exact ⟨rfl, q⟩
/-- what road tells: nothing, or a new list of a road's cells -/
def RoadIs (H : Hp) (B : Bd) (h w : Nat) (s : Bool) (v : V) (H' : Hp) : Prop := Same H H' ∧ ((v = .non ∧ ¬ Joined (cel B) h w s) ∨ ∃ (p : Addr) (ws : List V) (cs : List Cell), v = .ref p ∧ H p = none ∧ H' p = some (.lst ws) ∧ Cells H' ws cs ∧ Road (cel B) h w s cs)
def sp_road (C : Addr) : Sp := fun vs H Q _ => ∃ (p l : Addr) (B : Bd) (h w : Nat) (s : Bool), vs = [.ref p, .str (txt [lt s])] ∧ BoardAt C H p l B ∧ IsB B h w ∧ ∀ v H', RoadIs H B h w s v H' → Q v H'
theorem ok_road (T : Top K mg) : FnOk P w K mg base CX0 2 T.a_road T.d_road ["board", "hand"] (sp_road T.C_Board) := by
  refine T.F_road.ok sc_road (fun vs H Q E h => ?_) (fun cdv A outer s H vs Q E hr h => ?_)
  · obtain ⟨_, _, _, _, _, _, rfl, _⟩ := h
    rfl
  obtain ⟨p, l, B, h, w, s, rfl, bt, I, q⟩ := h
  have hu := hu_of hr
  refine ⟨_, (pss_cons (ps_setLc (i := 2) (own := [("cell", 7)]) (g := gName 7) (tt := tYes) rfl sc_road.nd rfl rfl (sw_true rfl rfl rfl (by decide +kernel)) (pi_list (pe_call (ok_beginnings T) (hr.mono (by decide)) rfl T.m_beginnings T.F_beginnings.kp T.B_beginnings .nil pass0 (pa_cons (pv 0) (pa_cons (pv 1) pa_nil)))) (blkOk_by (own := [("cell", 7)]) (N := N_road) (sc := defScope s_road) (by decide +kernel)) (fun _ _ _ _ _ => (pg_name (i := 7) sc_road.nd rfl (Or.inl rfl))) (fun _ _ _ _ _ => pts_nil) (fun _ _ _ _ _ => (pe_lst (pa_cons (pv 7) pa_nil))))
      (pss_cons (ps_set (i := 3) sc_road.nd rfl (Or.inl rfl) pe_dnewT)
      (pss_cons (ps_for PassesOwn.never rfl (pi_list (pv 2)) (pg_name (i := 4) sc_road.nd rfl (Or.inl rfl))
      (pss_one (ps_dput hu (pv 3) (pe_ix ix_list (pv 4) pe_int (fun _ _ => rfl)) pe_bl rfl)))
      (pss_cons (ps_set (i := 5) sc_road.nd rfl (Or.inl rfl) pe_int)
      (pss_cons (ps_while PassesOwn.never (pt_cmpR op_lt (pv 5) (pe_callB call_len_seq (by rfl) T.z_len PySem.boot_len (pa_cons (pv 2) pa_nil)) (nomark _))
      (pss_cons (ps_set (i := 6) sc_road.nd rfl (Or.inl rfl) (pe_ix ix_list (pe_ix ix_list (pv 2) (pv 5) (fun _ _ => rfl)) (pe_un un_neg pe_int) (fun _ _ => rfl)))
      (pss_cons (ps_if (pt_val (pe_call (ok_at_end T) (hr.mono (by decide)) rfl T.m_at_end T.F_at_end.kp T.B_at_end .nil pass0 (pa_cons (pv 0) (pa_cons (pv 1) (pa_cons (pv 6) pa_nil)))))
      (pss_one (ps_ret (pe_ix ix_list (pv 2) (pv 5) (fun _ _ => rfl)))) pss_nil)
      (pss_cons (ps_for PassesOwn.never rfl (pi_list (pe_call (ok_near T) (hr.mono (by decide)) rfl T.m_near T.F_near.kp T.B_near .nil pass0 (pa_cons (pe_ix ix_tup (pv 6) pe_int (fun _ _ => rfl)) (pa_cons (pe_ix ix_tup (pv 6) pe_int (fun _ _ => rfl)) pa_nil)))) (pg_name (i := 7) sc_road.nd rfl (Or.inl rfl))
      (pss_one (ps_if (PW.pt (pw_and (pt_cmp (pc_dnotin hu (pv 7) (pv 3))) (pw_and (pt_val (pe_meth (pv 0) T.cl_Board T.M_Board_has (ok_Board_has T) (hr.mono (by decide)) T.B_Board_has .nil pass0 (pa_cons (pe_ix ix_tup (pv 7) pe_int (fun _ _ => rfl)) (pa_cons (pe_ix ix_tup (pv 7) pe_int (fun _ _ => rfl)) pa_nil)))) (pw_and1 (pt_cmpR op_eq (pe_ix ix_str (pe_ix ix_list (pe_fld (pv 0) rfl) (pe_ix ix_tup (pv 7) pe_int (fun _ _ => rfl)) (fun _ _ => rfl)) (pe_ix ix_tup (pv 7) pe_int (fun _ _ => rfl)) (fun _ _ => rfl)) (pv 1) (nomark _))))))
      (pss_cons (ps_dput hu (pv 3) (pv 7) pe_bl rfl)
      (pss_one (ps_expr (pe_bm PySem.F.plainAttrs_list PySem.F.slot_list_append PySem.F.type_list_append mt_append (pv 2) (pa_cons (pe_op op_cat (pe_ix ix_list (pv 2) (pv 5) (fun _ _ => rfl)) (pe_lst (pa_cons (pv 7) pa_nil))) pa_nil))))) pss_nil)))
      (pss_one (ps_set (i := 5) sc_road.nd rfl (Or.inl rfl) (pe_op op_add (pv 5) pe_int)))))))
      (pss_one (ps_ret pe_non))))))), ?_⟩
  have h9 := I.h9
  have w9 := I.w9
  have ar := area I
  obtain ⟨⟨dx, hp⟩, hl⟩ := id bt
  rw [I.hh, I.wid] at hp
  -- the queue
  refine ⟨_, rfl, _, rfl, p, l, B, h, w, s, rfl, bt, I, fun v H1 ⟨b, bs, ev, nb, s1, hb, cb⟩ => ?_⟩
  subst ev
  have lb := cb.len
  have bfl0 := bfs_start I s
  have lbs := bfl0.bound I
  refine ⟨b, rfl, ⟨_, SqL.of hb⟩, fun D hD =>
    lc_it walk_list (fun j H' => Same H1 H' ∧ ∃ ws, H' D = some (.lst ws) ∧ Ways H D H' ws (((begs B h w s).take j).map fun c => [c])) ⟨same_new hD _, [], upd_same, .nil⟩ (fun _ H' _ ⟨s2, _⟩ => SqL.of (s2 _ _ hb))
      (fun j x H2 H3 hj ⟨s2, ws, h2, hw⟩ ⟨e3, ex⟩ => ?_) (fun H2 ⟨s2, ws, h2, hw⟩ => ?_)⟩
  · subst e3
    obtain ⟨a, c, rfl, ec, ha⟩ := (cb.same s2).get ex
    have lw := hw.len
    rw [List.length_map] at lw
    have lt2 := List.length_take_le' j (begs B h w s)
    refine ⟨rfl, _, rfl, sz1, fun t ht => ?_⟩
    have st := same_new ht (.lst [V.ref a])
    have nt : t ≠ D := fun z => by rw [z, h2] at ht; cases ht
    refine ⟨ws, st _ _ h2, sz_lt (by omega), same_mut (s2.trans st) hD, ws ++ [.ref t], upd_same, ?_⟩
    rw [take_snoc ec, List.map_append]
    refine (hw.same st).updq (st _ _ h2) |>.app (.one (vs := [.ref a]) ?_ nt ?_ ?_)
    · exact (s1.trans s2).free ht
    · rw [upd_ne nt]
      exact upd_same
    · exact (Cells.one (st _ _ ha)).tps (.lst (st _ _ h2))
  rw [lb, List.take_length] at hw
  -- the dict
  refine fun d hd => ?_
  have sd := same_new hd (.dT [])
  have s3 := (s1.trans s2).trans sd
  have nd : H d = none := (s1.trans s2).free hd
  have nD : H D = none := s1.free hD
  have hD3 := sd _ _ h2
  have hw3 := hw.same sd
  have see : Seen (upd H2 d (.dT [])) d [] := Seen.nil
  revert sd s3 hD3 hw3 see
  generalize upd H2 d (.dT []) = H3
  intro sd s3 hD3 hw3 see
  have lws := hw3.len
  rw [List.length_map] at lws
  refine ⟨_, rfl, D, rfl, ⟨_, SqL.of hD3⟩, for_list (K := K) (a := D) (xs := ws) (fun i σ H' => Same H H' ∧ H' D = some (.lst ws) ∧ Ways H D H' ws ((begs B h w s).map fun c => [c]) ∧ Seen H' d ((begs B h w s).take i) ∧
    ∃ v, σ = [some (.ref p), some (.str (txt [lt s])), some (.ref D), some (.ref d), v, none, none, none]) ⟨s3, hD3, hw3, see, _, rfl⟩ (fun i σ H' _ ⟨_, e, _⟩ => SqL.of e) ?_ ?_⟩
  · rintro i x σ H4 hi ⟨s4, hD4, hw4, see4, v, rfl⟩
    obtain ⟨a, us, cs, rfl, ecs, na, naD, ha, hc⟩ := hw4.get hi
    obtain ⟨c, ec, rfl⟩ := map_get ecs
    cases hc with
    | @cons b1 _ us' _ hb1 hc' =>
    refine ⟨_, rfl, _, rfl, a, _, _, _, rfl, rfl, SqL.of ha, atI_nat (j := 0) rfl, ?_⟩
    have lt2 := List.length_take_le' i (begs B h w s)
    obtain ⟨ys, put, see5, tp, xs0, hd4⟩ := see4.put (v := .bl true) hb1 (nodup_take (begs_nodup B h w s) ec) (by omega)
    refine ⟨d, _, rfl, put, ?_⟩
    refine ⟨same_mut s4 nd, ?_, hw4.updd hd4, ?_, _, rfl⟩
    · rw [upd_ne (ne_of hD4 hd4 (by intro z; cases z))]
      exact hD4
    · rw [take_snoc ec]
      exact see5
  rintro σ H4 ⟨s4, hD4, hw4, see4, v, rfl⟩
  rw [lws, List.take_length] at see4
  -- the search
  refine ⟨fun m σ H' => ∃ (n : Nat) (ws : List V) (css : List (List Cell)) (seen : List Cell) (v1 v2 v3 : Option V), m = 81 - n ∧ n ≤ ws.length ∧ Same H H' ∧ H' D = some (.lst ws) ∧ Ways H D H' ws css ∧ Seen H' d seen ∧
    Bfs (cel B) s css seen ∧ DoneTo (cel B) h w s seen n ∧ σ = [some (.ref p), some (.str (txt [lt s])), some (.ref D), some (.ref d), v1, some (.int (n : Int)), v2, v3],
    ⟨81, 0, ws, _, _, v, none, none, rfl, Nat.zero_le _, s4, hD4, hw4, see4, bfl0, (fun i c hi => absurd hi (Nat.not_lt_zero _)), rfl⟩, ?_⟩
  rintro m σ H5 ⟨n, ws, css, seen, v1, v2, v3, rfl, hn, s5, hD5, hw5, see5, bf, dn, rfl⟩
  have lw := hw5.len
  have ls := bf.len
  have bs := bf.bound I
  refine ⟨_, rfl, _, rfl, D, _, rfl, .inl (SqL.of hD5), _, _, rfl, rfl, _, rfl, iteD (fun hlt => ?_) (fun hge => ?_)⟩
  · refine ⟨fun σ' H' => ∃ (n' : Nat) (ws : List V) (css : List (List Cell)) (seen : List Cell) (v1 v2 v3 : Option V), n' = n + 1 ∧ n' ≤ ws.length ∧ Same H H' ∧ H' D = some (.lst ws) ∧ Ways H D H' ws css ∧ Seen H' d seen ∧
      Bfs (cel B) s css seen ∧ DoneTo (cel B) h w s seen n' ∧ σ' = [some (.ref p), some (.str (txt [lt s])), some (.ref D), some (.ref d), v1, some (.int (n' : Int)), v2, v3], ?_, ?_⟩
    · rintro σ' H' ⟨n', ws', css', seen', u1, u2, u3, rfl, a1, a2⟩
      exact ⟨81 - (n + 1), by omega, n + 1, ws', css', seen', u1, u2, u3, rfl, a1, a2⟩
    have hn' : n < ws.length := by omega
    obtain ⟨x, ex⟩ : ∃ x, ws[n]? = some x := ⟨_, List.getElem?_eq_getElem hn'⟩
    obtain ⟨a, us, cs, rfl, ecs, na, naD, ha, hc⟩ := hw5.get ex
    obtain ⟨c, esc, rd, sub⟩ := bf.way n cs ecs
    have lus := hc.len
    obtain ⟨bc, ebc, hbc⟩ := hc.at rd.get_last
    -- here
    refine ⟨_, rfl, _, rfl, D, _, _, _, rfl, rfl, SqL.of hD5, atI_nat ex, _, rfl, a, us, _, _, rfl, rfl, SqL.of ha, atI_last1 (by rw [lus]; exact ebc), ?_⟩
    -- at the end?
    refine ⟨_, rfl, _, rfl, _, rfl, p, l, B, h, w, s, bc, c, rfl, bt.same s5, I, hbc, _, rfl, iteD (fun ce => ?_) (fun ce => ?_)⟩
    · refine ⟨_, rfl, _, rfl, D, _, _, _, rfl, rfl, SqL.of hD5, atI_nat ex, ?_⟩
      exact q _ _ ⟨s5, .inr ⟨a, us, cs, rfl, na, ha, hc, c, rd, ce, bf.thin n cs ecs⟩⟩
    -- around
    refine ⟨_, rfl, bc, _, _, _, rfl, rfl, SqT.of hbc, atI_nat (j := 0) rfl, _, rfl, bc, _, _, _, rfl, rfl, SqT.of hbc, atI_nat (j := 1) rfl, c.1, c.2, rfl, fun f H6 fs s6 nf hf cf => ?_⟩
    have nfD : f ≠ D := fun z => by rw [z, hD5] at nf; cases nf
    refine ⟨f, rfl, ⟨_, SqL.of hf⟩, for_list (K := K) (a := f) (xs := fs) (fun j σ H' => ∃ (ws : List V) (css : List (List Cell)) (seen : List Cell) (v3 : Option V), Same H H' ∧ H' f = some (.lst fs) ∧ Cells H' fs (near6 c) ∧ H' D = some (.lst ws) ∧ Ways H D H' ws css ∧ Seen H' d seen ∧
      Bfs (cel B) s css seen ∧ DoneTo (cel B) h w s seen n ∧ ws[n]? = some (.ref a) ∧ css[n]? = some cs ∧ seen[n]? = some c ∧ (∀ x ∈ (near6 c).take j, cel B x = lt s → x ∈ seen) ∧
      σ = [some (.ref p), some (.str (txt [lt s])), some (.ref D), some (.ref d), v1, some (.int (n : Int)), some (.ref bc), v3])
      ⟨ws, css, seen, v3, s5.trans s6, hf, cf, s6 _ _ hD5, hw5.same s6, see5.same s6, bf, dn, ex, ecs, esc, (fun x hx => nomatch hx), rfl⟩ (fun i σ H' _ ⟨_, _, _, _, _, e, _⟩ => SqL.of e) ?_ ?_⟩
    · rintro j x σ H7 hj ⟨ws, css, seen, v3, s7, hf7, cf7, hD7, hw7, see7, bf7, dn7, ex7, ecs7, esc7, al7, rfl⟩
      obtain ⟨g, y, rfl, ey, hg⟩ := cf7.get hj
      have yn : y ∈ near6 c := List.mem_of_getElem? ey
      have lw7 := hw7.len
      have ls7 := bf7.len
      have bs7 := bf7.bound I
      have nl7 : n < ws.length := (List.getElem?_eq_some_iff.mp ex7).1
      have keep : (cel B y = lt s → y ∈ seen) → ∀ x ∈ (near6 c).take (j + 1), cel B x = lt s → x ∈ seen := fun k x hx hs => by
        rw [take_snoc ey] at hx
        rcases List.mem_append.mp hx with hx | hx
        · exact al7 x hx hs
        · rw [List.mem_singleton.mp hx] at hs ⊢
          exact k hs
      have stay : (cel B y = lt s → y ∈ seen) → ∃ (ws : List V) (css : List (List Cell)) (seen : List Cell) (v3 : Option V), Same H H7 ∧ H7 f = some (.lst fs) ∧ Cells H7 fs (near6 c) ∧ H7 D = some (.lst ws) ∧ Ways H D H7 ws css ∧ Seen H7 d seen ∧
        Bfs (cel B) s css seen ∧ DoneTo (cel B) h w s seen n ∧ ws[n]? = some (.ref a) ∧ css[n]? = some cs ∧ seen[n]? = some c ∧ (∀ x ∈ (near6 c).take (j + 1), cel B x = lt s → x ∈ seen) ∧
        [some (.ref p), some (.str (txt [lt s])), some (.ref D), some (.ref d), v1, some (.int (n : Int)), some (.ref bc), some (.ref g)] = [some (.ref p), some (.str (txt [lt s])), some (.ref D), some (.ref d), v1, some (.int (n : Int)), some (.ref bc), v3] :=
        fun k => ⟨ws, css, seen, _, s7, hf7, cf7, hD7, hw7, see7, bf7, dn7, ex7, ecs7, esc7, keep k, rfl⟩
      obtain ⟨o, og, eo⟩ := see7.get hg
      refine ⟨_, rfl, _, rfl, d, o, rfl, og, ?_⟩
      rw [eo]
      refine ⟨_, rfl, iteN (fun c1 => ?_) (fun c1 => stay fun _ => c1)⟩
      have bt7 := bt.same s7
      refine ⟨_, rfl, p, dx, _, rfl, s7 _ _ hp, bfl_has _ _ _, _, rfl, g, _, _, _, rfl, rfl, SqT.of hg, atI_nat (j := 0) rfl, _, rfl, g, _, _, _, rfl, rfl, SqT.of hg, atI_nat (j := 1) rfl, p, l, B, h, w, y.1, y.2, rfl, bt7, I, _, rfl, ?_⟩
      refine iteD (fun c2 => ?_) (fun c2 => stay fun z => absurd (I.ins (p := y) (by rw [z]; exact lt_ne s)) c2)
      obtain ⟨row, er, mr, lr, ecel, _⟩ := I.at (p := y) c2
      refine ⟨_, rfl, p, _, dx, _, _, rfl, s7 _ _ hp, T.cl_Board, T.n_Board_rows, bfl_rows _ _ _, _, rfl, g, _, _, _, rfl, rfl, SqT.of hg, atI_nat (j := 0) rfl, l, _, _, _, rfl, rfl, SqL.of (s7 _ _ hl), at_int c2.1 (rowsV_get er),
        _, rfl, g, _, _, _, rfl, rfl, SqT.of hg, atI_nat (j := 1) rfl, _, _, _, rfl, rfl, sz_le (by rw [txt_len, lr]; omega), atI_cps c2.2.2.1 ecel, _, rfl, rfl, _, rfl, ?_⟩
      refine iteD (fun c3 => ?_) (fun c3 => stay fun z => absurd (sgn_eq.mpr z) c3)
      have c3' := sgn_eq.mp c3
      -- seen[cell] = True; queue.append(..)
      obtain ⟨ys, put, see8, tp8, xs0, hd7⟩ := see7.put (v := .bl true) hg c1 (by omega)
      refine ⟨_, rfl, _, rfl, d, _, rfl, put, ?_⟩
      have s8 := same_mut (o := .dT ys) s7 nd
      have hf8 : upd H7 d (.dT ys) f = some (.lst fs) := by
        rw [upd_ne (ne_of hf7 hd7 (by intro z; cases z))]
        exact hf7
      have hD8 : upd H7 d (.dT ys) D = some (.lst ws) := by
        rw [upd_ne (ne_of hD7 hd7 (by intro z; cases z))]
        exact hD7
      have cf8 := cf7.tps tp8
      have hw8 := hw7.updd (o := .dT ys) hd7
      have hg8 := tp8 _ _ hg
      revert s8 hf8 hD8 cf8 hw8 see8 tp8 hg8
      generalize upd H7 d (.dT ys) = H8
      intro see8 tp8 s8 hf8 hD8 cf8 hw8 hg8
      obtain ⟨a', us8, cs', ea, ecs8, _, _, ha8, hc8⟩ := hw8.get ex7
      cases ea
      rw [ecs7] at ecs8
      cases ecs8
      have lus8 := hc8.len
      have lcs := rd.bound I
      refine ⟨_, rfl, .inl ⟨rfl, _, SqL.of hD8⟩, _, rfl, _, rfl, D, _, _, _, rfl, rfl, SqL.of hD8, atI_nat ex7, _, rfl, sz1, fun t ht => ?_⟩
      have st := same_new ht (.lst [V.ref g])
      refine ⟨a, t, us8, [V.ref g], rfl, rfl, st _ _ ha8, upd_same, sz_le (by rw [List.length_singleton]; omega), fun r hr => ?_⟩
      have sr := st.trans (same_new hr (.lst (us8 ++ [V.ref g])))
      have hr9 : upd (upd H8 t (.lst [V.ref g])) r (.lst (us8 ++ [V.ref g])) r = some (.lst (us8 ++ [V.ref g])) := upd_same
      have nr : H8 r = none := st.free hr
      revert sr hr9
      generalize upd (upd H8 t (.lst [V.ref g])) r (.lst (us8 ++ [V.ref g])) = H9
      intro sr hr9
      have hD9 := sr _ _ hD8
      have nrD : r ≠ D := fun z => by rw [z, hD8] at nr; cases nr
      refine ⟨D, ws, _, rfl, rfl, hD9, sz_lt (by omega), ?_⟩
      have bf9 := bf7.add dn7 ecs7 esc7 yn c3' c1
      have ls7' : n < seen.length := by omega
      have tp9 : Tps H9 (upd H9 D (.lst (ws ++ [V.ref r]))) := .lst hD9
      refine ⟨ws ++ [.ref r], css ++ [cs ++ [y]], seen ++ [y], _, same_mut (s8.trans sr) nD, ?_, (cf8.same sr).tps tp9, upd_same, ((hw8.same sr).updq hD9).app (.one (vs := us8 ++ [V.ref g]) (s8.free nr) nrD ?_ ?_), ?_, bf9, dn7.mono (by omega), ?_, ?_, ?_, ?_, rfl⟩
      · rw [upd_ne nfD]
        exact sr _ _ hf8
      · rw [upd_ne nrD]
        exact hr9
      · exact (((hc8.same sr).app (.one (sr _ _ hg8)))).tps tp9
      · exact (see8.same sr).updL hD9
      · rw [List.getElem?_append_left nl7]
        exact ex7
      · rw [List.getElem?_append_left (by omega)]
        exact ecs7
      · rw [List.getElem?_append_left ls7']
        exact esc7
      · intro x hx hs
        rw [take_snoc ey] at hx
        rcases List.mem_append.mp hx with hx | hx
        · exact List.mem_append_left _ (al7 x hx hs)
        · exact List.mem_append_right _ hx
    · rintro σ H7 ⟨ws, css, seen, v3, s7, hf7, cf7, hD7, hw7, see7, bf7, dn7, ex7, ecs7, esc7, al7, rfl⟩
      have nl7 : n < ws.length := (List.getElem?_eq_some_iff.mp ex7).1
      refine ⟨_, rfl, _, _, rfl, rfl, n + 1, ws, css, seen, _, _, _, rfl, nl7, s7, hD7, hw7, see7, bf7, ?_, rfl⟩
      have lf := cf.len
      rw [lf, List.take_length] at al7
      intro i x hi hx
      by_cases e : i < n
      · exact dn7 i x e hx
      · have : i = n := by omega
        subst this
        rw [esc7] at hx
        cases hx
        exact ⟨ce, al7⟩
  · have e : n = seen.length := by omega
    subst e
    exact q _ _ ⟨s5, .inl ⟨rfl, dn.none bf.first⟩⟩
def sp_joined (C : Addr) : Sp := fun vs H Q _ => ∃ (p l : Addr) (B : Bd) (h w : Nat) (s : Bool), vs = [.ref p, .str (txt [lt s])] ∧ BoardAt C H p l B ∧ IsB B h w ∧ ∀ H', Same H H' → Q (.bl (jB B s)) H'
theorem ok_joined (T : Top K mg) : FnOk P w K mg base CX0 3 T.a_joined T.d_joined ["board", "hand"] (sp_joined T.C_Board) := by
  refine T.F_joined.ok sc_joined (fun vs H Q E h => ?_) (fun cdv A outer s H vs Q E hr h => ?_)
  · obtain ⟨_, _, _, _, _, _, rfl, _⟩ := h
    rfl
  obtain ⟨p, l, B, h, w, s, rfl, bt, I, q⟩ := h
  refine ⟨_, (pss_one (ps_ret (pe_cmpR op_notN (pe_call (ok_road T) (hr.mono (by decide)) rfl T.m_road T.F_road.kp T.B_road .nil pass0 (pa_cons (pv 0) (pa_cons (pv 1) pa_nil))) pe_non (nomark _)))), ?_⟩
  refine ⟨_, rfl, _, rfl, p, l, B, h, w, s, rfl, bt, I, fun v H1 ⟨s1, hv⟩ => ?_⟩
  have qq := q H1 s1
  rcases hv with ⟨rfl, nj⟩ | ⟨a, ws, cs, rfl, _, _, _, ro⟩
  · rw [(jB_not I s).mpr nj] at qq
    refine ⟨rfl, ?_⟩
    show Q (V.bl (!decide (V.non = V.non))) H1
    rw [decide_eq_true rfl]
    exact qq
  · rw [(jB_iff I s).mpr ro.joined] at qq
    refine ⟨rfl, ?_⟩
    show Q (V.bl (!decide (V.ref a = V.non))) H1
    rw [decide_eq_false (fun z => by cases z)]
    exact qq
end
end Sw
namespace Sw
open PySem PySem.Spec PyProof.Rows L2
section
variable {P : Program} {w : World} {K : PySem.W.Frag} {mg : Str → Option Value} {base : Heap}
/-! boards that are nearly full, as far as they are refused -/
def sp_check_end (C CO CT : Addr) : Sp := fun vs H Q E => ∃ (p l : Addr) (B : Bd) (h w : Nat), vs = [.ref p] ∧ BoardAt C H p l B ∧ IsB B h w ∧
  ((jB B false = true ∨ jB B true = true) → ∀ H', Same H H' → E (.ref CO) none H') ∧ (jB B false = false → jB B true = false → 6 < (emptyL B).length → ∀ H', Same H H' → E (.ref CT) none H') ∧
  (jB B false = false → jB B true = false → (emptyL B).length ≤ 6 → ∀ H', Same H H' → Q .non H')
theorem ok_check_end (T : Top K mg) : FnOk P w K mg base (L2.CX P w) 4 T.a_check_end T.d_check_end ["board"] (sp_check_end T.C_Board T.C_Over T.C_TooMany) := by
  refine T.F_check_end.okX sc_check_end (fun vs H Q E h => ?_) (fun cdv A outer s H vs Q E hr h => ?_)
  · obtain ⟨_, _, _, _, _, rfl, _⟩ := h
    rfl
  obtain ⟨p, l, B, h, w, rfl, bt, I, qo, qm, q⟩ := h
  refine ⟨_, (pss_cons (ps_if (PW.pt (pw_or (pt_val (pe_call (ok_joined T) (hr.mono (by decide)) rfl T.m_joined T.F_joined.kp T.B_joined .nil pass0 (pa_cons (pv 0) (pa_cons pe_str pa_nil)))) (pw_or1 (pt_val (pe_call (ok_joined T) (hr.mono (by decide)) rfl T.m_joined T.F_joined.kp T.B_joined .nil pass0 (pa_cons (pv 0) (pa_cons pe_str pa_nil)))))))
      (pss_one (ps_raise rfl (takes_of rfl rfl rfl rfl) (pmk_own PySem.F.excBase_ValueError T.x_Over T.mC_Over T.k_Over (raises_own T.b_Over T.t_Over) rfl))) pss_nil)
      (pss_one (ps_if (pt_cmpR op_gt (pe_callB call_len_seq (by rfl) T.z_len PySem.boot_len (pa_cons (pe_call (ok_empty T) (hr.mono (by decide)) rfl T.m_empty T.F_empty.kp T.B_empty .nil pass0 (pa_cons (pv 0) pa_nil)) pa_nil)) (pe_glob (v := .int 6) rfl T.g_MOST_EMPTY ⟨_, rfl⟩) (nomark _))
      (pss_one (ps_raise rfl (takes_of rfl rfl rfl rfl) (pmk_own PySem.F.excBase_ValueError T.x_TooMany T.mC_TooMany T.k_TooMany (raises_own T.b_TooMany T.t_TooMany) rfl))) pss_nil))), ?_⟩
  refine ⟨_, rfl, p, l, B, h, w, false, congrArg (fun z => [V.ref p, V.str z]) s_n, bt, I, fun H1 s1 => ?_⟩
  refine ⟨_, rfl, iteB (fun e1 => iteT (qo (.inl e1) _ s1)) (fun e1 => ?_)⟩
  refine ⟨_, rfl, p, l, B, h, w, true, congrArg (fun z => [V.ref p, V.str z]) s_w, bt.same s1, I, fun H2 s2 => ?_⟩
  refine ⟨_, rfl, iteB (fun e2 => qo (.inr e2) _ (s1.trans s2)) (fun e2 => ?_)⟩
  refine ⟨_, rfl, p, l, B, h, w, rfl, (bt.same s1).same s2, I, fun v H3 ⟨n, ws, ev, nn, s3, hn, hc⟩ => ?_⟩
  subst ev
  have lw := hc.len
  have s13 := s1.trans (s2.trans s3)
  refine ⟨n, _, rfl, .inl (SqL.of hn), _, _, rfl, rfl, _, rfl, iteD (fun c => ?_) (fun c => ?_)⟩
  · exact qm e1 e2 (by omega) _ s13
  · exact q e1 e2 (by omega) _ s13
end
end Sw
namespace Sw
open PySem PySem.Spec PyProof.Rows L2
section
variable {P : Program} {w : World} {K : PySem.W.Frag} {mg : Str → Option Value} {base : Heap}
/-! the solver -/
def sp_winning (wd : World) (C : Addr) (n : Nat) : Sp := fun vs H Q _ => ∃ (p l d : Addr) (B : Bd) (h w : Nat) (s : Bool) (xs : MX), vs = [.ref p, .str (txt [lt s]), .ref d] ∧ BoardAt C H p l B ∧ IsB B h w ∧ MemoW wd H d xs ∧
  (emptyL B).length ≤ n ∧ xs.length + pn n ≤ sizeLine ∧ ∀ H' xs', SameX d H H' → MemoW wd H' d xs' → xs'.length ≤ xs.length + pn n → Q (.bl (wins B s)) H'
/-- one more is allowed than the cell's stone leaves -/
def sp_wins_by (wd : World) (C : Addr) : Nat → Sp
  | 0 => fun _ _ _ _ => False
  | n + 1 => fun vs H Q _ => ∃ (p l d a : Addr) (c : Cell) (B : Bd) (h w : Nat) (s : Bool) (xs : MX), vs = [.ref p, .str (txt [lt s]), .ref a, .ref d] ∧ BoardAt C H p l B ∧ IsB B h w ∧ MemoW wd H d xs ∧ H a = some (.tup (cellV c)) ∧ c ∈ emptyL B ∧
    (emptyL B).length ≤ n + 1 ∧ xs.length + pn n ≤ sizeLine ∧ ∀ H' xs', SameX d H H' → MemoW wd H' d xs' → xs'.length ≤ xs.length + pn n → Q (.bl (winsBy B s c)) H'
theorem step_wins_by (T : Top K mg) (n : Nat) (ih : FnOk P w K mg base CX0 (5 + 2 * n + 1) T.a_winning T.d_winning ["board", "hand", "known"] (sp_winning w T.C_Board n)) :
    FnOk P w K mg base CX0 (6 + 2 * n + 1) T.a_wins_by T.d_wins_by ["board", "hand", "cell", "known"] (sp_wins_by w T.C_Board (n + 1)) := by
  refine T.F_wins_by.ok sc_wins_by (fun vs H Q E h => ?_) (fun cdv A outer s H vs Q E hr h => ?_)
  · obtain ⟨_, _, _, _, _, _, _, _, _, _, rfl, _⟩ := h
    rfl
  obtain ⟨p, l, d, a, c, B, h, wd, s, xs, rfl, bt, I, m, ha, hc, hl, hx, q⟩ := h
  refine ⟨_, (pss_cons (ps_set (i := 4) sc_wins_by.nd rfl (Or.inl rfl) (pe_call (ok_laid T) (hr.mono (by omega)) rfl T.m_laid T.F_laid.kp T.B_laid .nil passL (pa_cons (pv 0) (pa_cons (pe_ix ix_tup (pv 2) pe_int (fun _ _ => rfl)) (pa_cons (pe_ix ix_tup (pv 2) pe_int (fun _ _ => rfl)) (pa_cons (pv 1) pa_nil))))))
      (pss_one (ps_ret (pe_or (pe_call (ok_joined T) (hr.mono (by omega)) rfl T.m_joined T.F_joined.kp T.B_joined .nil pass0 (pa_cons (pv 4) (pa_cons (pv 1) pa_nil))) (pe_one (pe_not (pe_call ih (hr.mono (by omega)) rfl T.m_winning T.F_winning.kp T.B_winning .nil pass0 (pa_cons (pv 4) (pa_cons (pe_call (ok_other T) (hr.mono (by omega)) rfl T.m_other T.F_other.kp T.B_other .nil pass0 (pa_cons (pv 1) pa_nil)) (pa_cons (pv 3) pa_nil)))))))))), ?_⟩
  have ins := empty_ins I hc
  have ep := empty_put I hc s
  refine ⟨_, rfl, _, rfl, a, _, _, _, rfl, rfl, SqT.of ha, rfl, _, rfl, a, _, _, _, rfl, rfl, SqT.of ha, rfl, _, rfl, p, l, B, h, wd, c.1, c.2, lt s, rfl, bt, I, by have := lt_ok s; omega, fun z => absurd ins z, fun _ p' l' H1 s1 hp' b1 => ?_⟩
  have I1 := putB_is I c (x := lt s) (by have := lt_ok s; omega)
  have m1 := m.same s1
  refine ⟨_, rfl, _, rfl, p', l', _, h, wd, s, rfl, b1, I1, fun H2 s2 => ?_⟩
  refine ⟨_, rfl, iteB (fun e => ?_) (fun e => ?_)⟩
  · have qq := q H2 xs (SameX.of (s1.trans s2)) (m1.same s2) (Nat.le_add_right _ _)
    unfold winsBy at qq
    rw [show jB (putB B c (lt s)) s = true from e] at qq
    exact qq
  · refine ⟨_, rfl, _, rfl, lt s, rfl, _, rfl, ?_⟩
    rw [lt_oth]
    refine ⟨p', l', d, _, h, wd, !s, xs, rfl, b1.same s2, I1, m1.same s2, Nat.le_of_succ_le_succ (Nat.le_trans ep hl), hx, fun H3 xs3 k3 m3 l3 => ?_⟩
    have qq := q H3 xs3 ((SameX.of (s1.trans s2)).trans k3) m3 l3
    unfold winsBy at qq
    rw [show jB (putB B c (lt s)) s = false from e] at qq
    exact ⟨_, rfl, qq⟩
theorem step_winning (T : Top K mg) (n : Nat) (ih : FnOk P w K mg base CX0 (4 + 2 * n + 1) T.a_wins_by T.d_wins_by ["board", "hand", "cell", "known"] (sp_wins_by w T.C_Board n)) :
    FnOk P w K mg base CX0 (5 + 2 * n + 1) T.a_winning T.d_winning ["board", "hand", "known"] (sp_winning w T.C_Board n) := by
  refine T.F_winning.ok sc_winning (fun vs H Q E h => ?_) (fun cdv A outer s H vs Q E hr h => ?_)
  · obtain ⟨_, _, _, _, _, _, _, _, rfl, _⟩ := h
    rfl
  obtain ⟨p, l, d, B, h, wd, s, xs, rfl, bt, I, m, hl, hx, q⟩ := h
  refine ⟨_, (pss_cons (ps_set (i := 3) sc_winning.nd rfl (Or.inl rfl) (pe_tup (pa_cons (pe_callTy call_tuple_of (by rfl) T.z_tuple (by decide +kernel) (pa_cons (pe_fld (pv 0) rfl) pa_nil)) (pa_cons (pv 1) pa_nil))))
      (pss_cons (ps_if (pt_cmp (pc_nnotin (hu65 hr) (pv 3) (pv 2)))
      (pss_one (ps_nput (hu65 hr) (pv 2) (pv 3) (pe_callB (cr_any rfl) (by rfl) T.z_any (by decide +kernel) (pa_cons (pe_lc (own := [("cell", 4)]) (g := gName 4) (tt := tYes) rfl sc_winning.nd (pi_list (pe_call (ok_empty T) (hr.mono (by omega)) rfl T.m_empty T.F_empty.kp T.B_empty .nil pass0 (pa_cons (pv 0) pa_nil))) (blkOk_by (own := [("cell", 4)]) (N := N_winning) (sc := defScope s_winning) (by decide +kernel)) (fun _ _ _ _ _ => (pg_name (i := 4) sc_winning.nd rfl (Or.inl rfl))) (fun _ _ _ _ _ => pts_nil) (fun _ _ _ _ _ => (pe_call ih (hr.mono (by omega)) rfl T.m_wins_by T.F_wins_by.kp T.B_wins_by .nil pass0 (pa_cons (pv 0) (pa_cons (pv 1) (pa_cons (pv 4) (pa_cons (pv 2) pa_nil))))))) pa_nil)) rfl)) pss_nil)
      (pss_one (ps_ret (pe_nget (hu65 hr) (pv 2) (pv 3) (fun _ _ => rfl)))))), ?_⟩
  obtain ⟨⟨dx, hp⟩, hB⟩ := id bt
  refine ⟨_, rfl, p, _, dx, _, _, rfl, hp, T.cl_Board, T.n_Board_rows, bfl_rows _ _ _, ?_⟩
  refine ⟨l, _, rfl, .inl ⟨SqL.of hB, fun r nr => ?_⟩⟩
  refine ⟨_, rfl, sz2, fun b nb => ?_⟩
  have s1 := same_new nr (.tup (rowsV B))
  have s2 := same_new nb (.tup [V.ref r, V.str (txt [lt s])])
  have k2 : KeyAt (upd (upd H r (.tup (rowsV B))) b (.tup [V.ref r, V.str (txt [lt s])])) b B s := ⟨r, upd_same, s2 _ _ upd_same⟩
  have s12 := s1.trans s2
  revert s12 k2
  generalize upd (upd H r (.tup (rowsV B))) b (.tup [V.ref r, V.str (txt [lt s])]) = H2
  intro k2 s12
  have m2 := m.same s12
  refine gn ?_
  refine ⟨_, rfl, _, rfl, b, B, s, d, xs, rfl, rfl, k2, m2.m, ?_⟩
  refine ⟨_, rfl, iteB (fun e => ?_) (fun e => ?_)⟩
  · refine ⟨_, rfl, p, l, B, h, wd, rfl, bt.same s12, I, fun v H3 ⟨f, ws, ev, nf, s3, hf, hcs⟩ => ?_⟩
    subst ev
    have m3 := m2.same s3
    have b3 := (bt.same s12).same s3
    have lw := hcs.len
    have nfd : f ≠ d := memo_tup m3 hf (fun _ z => nomatch z)
    refine ⟨f, rfl, ⟨_, SqL.of hf⟩, fun D hD => lc_it walk_list (fun i H' => ∃ xs', SameX d H3 H' ∧ MemoW w H' d xs' ∧ xs'.length ≤ xs.length + i * pn (n - 1) ∧ H' D = some (.lst (((emptyL B).take i).map fun c => V.bl (winsBy B s c)))) ⟨xs, .of (same_new hD _), m3.same (same_new hD _), by omega, upd_same⟩ (fun i H' hi ⟨xs', k, _, _, _⟩ => SqL.of (k _ _ nfd hf)) (fun i x H4 H5 hi ⟨xs', k4, m4, l4, hD4⟩ ⟨e5, ex⟩ => ?_) (fun H4 ⟨xs', k4, m4, l4, hD4⟩ => ?_)⟩
    · subst e5
      have hi' : i < (emptyL B).length := by omega
      obtain ⟨a, c, rfl, ec, ha⟩ := hcs.get ex
      obtain ⟨n, rfl⟩ : ∃ j, n = j + 1 := ⟨n - 1, by omega⟩
      have el : i * pn n + pn n ≤ pn (n + 1) := by
        have : (i + 1) * pn n ≤ (n + 1) * pn n := Nat.mul_le_mul_right _ (by omega)
        rw [Nat.add_mul, Nat.one_mul] at this
        show _ ≤ 1 + (n + 1) * pn n
        omega
      have nad : a ≠ d := memo_tup m3 ha (fun _ z => nomatch z)
      have nDd : D ≠ d := fun z => by
        have := m3.m.ob
        rw [← z, hD] at this
        cases this
      refine ⟨rfl, _, rfl, _, rfl, _, rfl, _, rfl, p, l, d, a, c, B, h, wd, s, xs', rfl, b3.sameX k4 m3, I, m4, k4 _ _ nad ha, List.mem_of_getElem? ec, hl, ?_, fun H6 xs6 k6 m6 l6 => ?_⟩
      · have : (n + 1 - 1) = n := rfl
        rw [this] at l4
        omega
      · have le := emptyL_len I
        have hD6 := k6 _ _ nDd hD4
        refine ⟨_, hD6, sz_lt (by rw [List.length_map, List.length_take]; omega), xs6, (k4.trans k6).mut hD, m6.mut hD6 (fun _ z => nomatch z) nDd, ?_, ?_⟩
        · have e1 : (n + 1 - 1) = n := rfl
          rw [e1] at l4 ⊢
          rw [Nat.add_mul, Nat.one_mul]
          omega
        · rw [upd_same, take_snoc ec, List.map_append]
          rfl
    · rw [lw, List.take_of_length_le (Nat.le_refl _)] at hD4
      have e3 : (emptyL B).map (fun c => V.bl (winsBy B s c)) = ((emptyL B).map (winsBy B s)).map V.bl := by rw [List.map_map]; rfl
      rw [e3] at hD4
      have e4 : ((emptyL B).map (winsBy B s)).any id = wins B s := by
        rw [wins_eq I s, List.any_map]
        rfl
      have k2' : KeyAt H4 b B s := k2.keeps fun b' ys e' => k4 _ _ (memo_tup m3 (s3 _ _ e') (fun _ z => nomatch z)) (s3 _ _ e')
      have lx : xs'.length + 1 ≤ xs.length + pn n := by
        rw [lw] at l4
        cases n with
        | zero =>
          have : (emptyL B).length = 0 := by omega
          rw [this, Nat.zero_mul] at l4
          have := pn_pos 0
          omega
        | succ n =>
          have e1 : (n + 1 - 1) = n := rfl
          rw [e1] at l4
          have : (emptyL B).length * pn n ≤ (n + 1) * pn n := Nat.mul_le_mul_right _ hl
          show _ ≤ _ + (1 + (n + 1) * pn n)
          omega
      refine ⟨D, _, rfl, SqL.of hD4, ?_⟩
      rw [e4]
      have m5 := m4.put k2'
      have lx5 := len_storedH (xs := xs') (k := kB B s) (b := b) (v := .bool (wins B s))
      obtain ⟨c, ec⟩ := at_stored (xs := xs') (k := kB B s) (b := b) (v := .bool (wins B s))
      refine ⟨_, rfl, _, rfl, b, B, s, d, xs', _, rfl, rfl, rfl, k2', m4.m, by omega, ?_⟩
      refine ⟨_, rfl, _, rfl, b, B, s, d, _, c, _, rfl, rfl, k2'.keeps (tups_upd m4.m.ob), m5.m, ec, ?_⟩
      exact q _ _ ((((SameX.of s12).trans (.of s3)).trans k4).upd _) m5 (by omega)
  · have e1 : (atKey xs (kB B s)).isSome = true := by
      cases g : (atKey xs (kB B s)).isSome with
      | true => rfl
      | false =>
        rw [g] at e
        cases e
    obtain ⟨c, ec⟩ := m2.at e1
    refine ⟨_, rfl, _, rfl, b, B, s, d, _, c, _, rfl, rfl, k2, m2.m, ec, ?_⟩
    exact q _ _ (.of s12) m2 (Nat.le_add_right _ _)
theorem ok_both (T : Top K mg) : ∀ n, FnOk P w K mg base CX0 (5 + 2 * n + 1) T.a_winning T.d_winning ["board", "hand", "known"] (sp_winning w T.C_Board n) ∧
    FnOk P w K mg base CX0 (6 + 2 * n + 1) T.a_wins_by T.d_wins_by ["board", "hand", "cell", "known"] (sp_wins_by w T.C_Board (n + 1))
  | 0 => by
    have h0 : FnOk P w K mg base CX0 (4 + 2 * 0 + 1) T.a_wins_by T.d_wins_by ["board", "hand", "cell", "known"] (sp_wins_by w T.C_Board 0) := by
      refine T.F_wins_by.ok sc_wins_by (fun vs H Q E h => h.elim) (fun cdv A outer s H vs Q E hr h => h.elim)
    have h1 := step_winning T 0 h0
    exact ⟨h1, step_wins_by T 0 h1⟩
  | n + 1 => by
    have h0 := (ok_both T n).2.mono (k := 4 + 2 * (n + 1) + 1) (by omega)
    have h1 := step_winning T (n + 1) h0
    exact ⟨h1, step_wins_by T (n + 1) h1⟩
theorem ok_winning (T : Top K mg) (n : Nat) : FnOk P w K mg base CX0 (5 + 2 * n + 1) T.a_winning T.d_winning ["board", "hand", "known"] (sp_winning w T.C_Board n) := (ok_both T n).1
theorem ok_wins_by (T : Top K mg) : FnOk P w K mg base CX0 17 T.a_wins_by T.d_wins_by ["board", "hand", "cell", "known"] (sp_wins_by w T.C_Board 6) := (ok_both T 5).2
theorem pn6 : pn 6 = 1957 ∧ pn 5 = 326 := by decide
def sp_can_win (C : Addr) : Sp := fun vs H Q _ => ∃ (p l : Addr) (B : Bd) (h w : Nat) (s : Bool), vs = [.ref p, .str (txt [lt s])] ∧ BoardAt C H p l B ∧ IsB B h w ∧
  jB B false = false ∧ jB B true = false ∧ (emptyL B).length ≤ 6 ∧ ∀ H', Same H H' → Q (.bl (wins B s)) H'
theorem ok_can_win (T : Top K mg) : FnOk P w K mg base (L2.CX P w) 19 T.a_can_win T.d_can_win ["board", "hand"] (sp_can_win T.C_Board) := by
  refine T.F_can_win.okX sc_can_win (fun vs H Q E h => ?_) (fun cdv A outer s H vs Q E hr h => ?_)
  · obtain ⟨_, _, _, _, _, _, rfl, _⟩ := h
    rfl
  obtain ⟨p, l, B, h, wd, s, rfl, bt, I, j1, j2, le, q⟩ := h
  refine ⟨_, (pss_cons (ps_expr (pe_call (ok_check_end T) (hr.mono (by decide)) rfl T.m_check_end T.F_check_end.kp T.B_check_end .nil (passes_call (takes_of rfl rfl rfl rfl) (fun _ _ _ _ z => z)) (pa_cons (pv 0) pa_nil)))
      (pss_one (ps_ret (pe_call (ok_winning T 6) (hr.mono (by decide)) rfl T.m_winning T.F_winning.kp T.B_winning .nil pass0 (pa_cons (pv 0) (pa_cons (pv 1) (pa_cons pe_dnewN pa_nil))))))), ?_⟩
  refine ⟨_, rfl, p, l, B, h, wd, rfl, bt, I, (fun z => by rcases z with z | z <;> simp [j1, j2] at z), (fun _ _ z => by omega), fun _ _ _ H1 s1 => ?_⟩
  refine ⟨_, rfl, _, rfl, fun d hd nd => ?_⟩
  have s2 := same_new hd (MO w d [])
  refine ⟨p, l, d, B, h, wd, s, [], rfl, (bt.same s1).same s2, I, .new nd, le, by rw [pn6.1, sizeLine_eq]; decide, fun H3 xs3 k3 _ _ => ?_⟩
  exact q _ (s1.trans (k3.same' s2 hd))
def sp_replies (C : Addr) : Sp := fun vs H Q _ => ∃ (p l : Addr) (B : Bd) (h w : Nat) (s : Bool), vs = [.ref p, .str (txt [lt s])] ∧ BoardAt C H p l B ∧ IsB B h w ∧
  jB B false = false ∧ jB B true = false ∧ (emptyL B).length ≤ 6 ∧ ∀ v H', NewCells H ((emptyL B).filter (winsBy B s)) v H' → Q v H'
theorem ok_replies (T : Top K mg) : FnOk P w K mg base (L2.CX P w) 19 T.a_replies T.d_replies ["board", "hand"] (sp_replies T.C_Board) := by
  refine T.F_replies.okX sc_replies (fun vs H Q E h => ?_) (fun cdv A outer s H vs Q E hr h => ?_)
  · obtain ⟨_, _, _, _, _, _, rfl, _⟩ := h
    rfl
  obtain ⟨p, l, B, h, wd, s, rfl, bt, I, j1, j2, le, q⟩ := h
  refine ⟨_, (pss_cons (ps_expr (pe_call (ok_check_end T) (hr.mono (by decide)) rfl T.m_check_end T.F_check_end.kp T.B_check_end .nil (passes_call (takes_of rfl rfl rfl rfl) (fun _ _ _ _ z => z)) (pa_cons (pv 0) pa_nil)))
      (pss_cons (ps_set (i := 2) sc_replies.nd rfl (Or.inr rfl) pe_dnewN)
      (pss_one (ps_ret (pe_lc (own := [("cell", 3)]) (g := gName 3) rfl sc_replies.nd (pi_list (pe_call (ok_empty T) (hr.mono (by decide)) rfl T.m_empty T.F_empty.kp T.B_empty .nil pass0 (pa_cons (pv 0) pa_nil))) (blkOk_by (own := [("cell", 3)]) (N := N_replies) (sc := defScope s_replies) (by decide +kernel)) (fun _ _ _ _ _ => (pg_name (i := 3) sc_replies.nd rfl (Or.inl rfl))) (fun _ _ _ _ _ => pts_one (pt_val (pe_call (ok_wins_by (P := P) (w := w) T) (hr.mono (by decide)) rfl T.m_wins_by T.F_wins_by.kp T.B_wins_by .nil pass0 (pa_cons (pv 0) (pa_cons (pv 1) (pa_cons (pv 3) (pa_cons (pv 2) pa_nil))))))) (fun _ _ _ _ _ => (pv 3))))))), ?_⟩
  refine ⟨_, rfl, p, l, B, h, wd, rfl, bt, I, (fun z => by rcases z with z | z <;> simp [j1, j2] at z), (fun _ _ z => by omega), fun _ _ _ H1 s1 => ?_⟩
  refine fun d hd nd => ?_
  have s2 := same_new hd (MO w d [])
  have m2 : MemoW w (upd H1 d (MO w d [])) d [] := .new nd
  have k2 : ∀ H', SameX d (upd H1 d (MO w d [])) H' → Same H1 H' := fun H' k => k.same' s2 hd
  revert s2 m2 k2
  show _ → _ → _ → L2.gName 2 (.ref d) _ (upd H1 d (MO w d [])) _
  generalize upd H1 d (MO w d []) = H2
  intro s2 m2 k2
  refine gn ?_
  refine ⟨_, rfl, p, l, B, h, wd, rfl, (bt.same s1).same s2, I, fun v H3 ⟨f, ws, ev, nf, s3, hf, hcs⟩ => ?_⟩
  subst ev
  have m3 := m2.same s3
  have b3 := ((bt.same s1).same s2).same s3
  have lw := hcs.len
  have nfd : f ≠ d := memo_tup m3 hf (fun _ z => nomatch z)
  refine ⟨f, rfl, ⟨_, SqL.of hf⟩, fun D hD => lc_it walk_list (fun i H' => ∃ (xs' : MX) (us : List V), SameX d H3 H' ∧ MemoW w H' d xs' ∧ xs'.length ≤ i * pn 5 ∧ H' D = some (.lst us) ∧ Cells H' us (((emptyL B).take i).filter (winsBy B s)))
    ⟨[], [], .of (same_new hD _), m3.same (same_new hD _), Nat.zero_le _, upd_same, .nil⟩ (fun i H' hi ⟨xs', us, k, _, _, _, _⟩ => SqL.of (k _ _ nfd hf)) (fun i x H4 H5 hi ⟨xs', us, k4, m4, l4, hD4, hc4⟩ ⟨e5, ex⟩ => ?_) (fun H4 ⟨xs', us, k4, m4, l4, hD4, hc4⟩ => ?_)⟩
  · subst e5
    have hi' : i < (emptyL B).length := by omega
    obtain ⟨a, c, rfl, ec, ha⟩ := hcs.get ex
    have nad : a ≠ d := memo_tup m3 ha (fun _ z => nomatch z)
    have nDd : D ≠ d := fun z => by
      have := m3.m.ob
      rw [← z, hD] at this
      cases this
    have l4' : xs'.length + pn 5 ≤ sizeLine := by
      rw [pn6.2] at l4 ⊢
      rw [sizeLine_eq]
      omega
    have tk : ((emptyL B).take (i + 1)).filter (winsBy B s) = ((emptyL B).take i).filter (winsBy B s) ++ [c].filter (winsBy B s) := by rw [take_snoc ec, List.filter_append]
    refine ⟨rfl, _, rfl, _, rfl, _, rfl, _, rfl, p, l, d, a, c, B, h, wd, s, xs', rfl, b3.sameX k4 m3, I, m4, k4 _ _ nad ha, List.mem_of_getElem? ec, le, l4', fun H6 xs6 k6 m6 l6 => ?_⟩
    have hD6 := k6 _ _ nDd hD4
    have hc6 : Cells H6 us (((emptyL B).take i).filter (winsBy B s)) := hc4.tps fun b ys e => k6 _ _ (memo_tup m4 e (fun _ z => nomatch z)) e
    have lu := hc6.len
    have lf : (((emptyL B).take i).filter (winsBy B s)).length ≤ i := Nat.le_trans (List.length_filter_le _ _) (List.length_take_le i _)
    have l6' : xs6.length ≤ (i + 1) * pn 5 := by
      have l6a : xs6.length ≤ xs'.length + pn 5 := l6
      rw [pn6.2] at l6a l4 ⊢
      omega
    refine ⟨_, rfl, iteB (fun e => ?_) (fun e => ?_)⟩
    · refine ⟨_, rfl, us, hD6, sz_lt (by omega), xs6, us ++ [.ref a], (k4.trans k6).mut hD, m6.mut hD6 (fun _ z => nomatch z) nDd, l6', upd_same, ?_⟩
      rw [tk, List.filter_cons, if_pos e]
      have ha6 := k6 _ _ (memo_tup m4 (k4 _ _ nad ha) (fun _ z => nomatch z)) (k4 _ _ nad ha)
      exact (hc6.app (.one ha6)).tps (.lst hD6)
    · refine ⟨xs6, us, k4.trans k6, m6, l6', hD6, ?_⟩
      rw [tk, List.filter_cons, if_neg (by rw [e]; exact Bool.false_ne_true)]
      show Cells H6 us (_ ++ [])
      rw [List.append_nil]
      exact hc6
  · rw [lw, List.take_of_length_le (Nat.le_refl _)] at hc4
    have sD : Same H H3 := s1.trans (s2.trans s3)
    have k3 : SameX d H2 H4 := (SameX.of s3).trans k4
    exact q _ _ ⟨D, us, rfl, sD.free hD, s1.trans (k2 _ k3), hD4, hc4⟩
end
end Sw
namespace Sw
open PySem PySem.Spec PyProof.Rows L2
section
variable {P : Program} {w : World} {K : PySem.W.Frag} {mg : Str → Option Value} {base : Heap}
/-! the law's reader of the script -/
def sAt (ns : List Int) (k : Int) : Int := ns.getD k.toNat 0
def sp__law_cell_at (K : PySem.W.Frag) : Sp := fun vs H Q _ => ∃ (a : Addr) (ns : List Int) (k : Int), vs = [.ref a, .int k] ∧ SqL K H a (ns.map V.int) ∧ 0 ≤ k ∧ Q (.int (sAt ns k)) H
theorem ok__law_cell_at (T : Top K mg) : FnOk P w K mg base CX0 1 T.a__law_cell_at T.d__law_cell_at ["script", "k"] (sp__law_cell_at K) := by
  refine T.F__law_cell_at.ok sc__law_cell_at (fun vs H Q E h => ?_) (fun cdv A outer s H vs Q E hr h => ?_)
  · obtain ⟨_, _, _, rfl, _⟩ := h
    rfl
  obtain ⟨a, ns, k, rfl, hS, hk, q⟩ := h
  refine ⟨_, (pss_cons (ps_if (pt_cmpR op_lt (pv 1) (pe_callB call_len_seq (by rfl) T.z_len PySem.boot_len (pa_cons (pv 0) pa_nil)) (nomark _))
      (pss_one (ps_ret (pe_ix ix_list (pv 0) (pv 1) (fun _ _ => rfl)))) pss_nil)
      (pss_one (ps_ret pe_int))), ?_⟩
  refine ⟨_, rfl, _, rfl, a, _, rfl, .inl hS, _, _, rfl, rfl, _, rfl, ?_⟩
  refine ite2 (fun c => ?_) (fun c => ?_)
  · have c' : k < ((ns.map V.int).length : Int) := of_decide_eq_true c
    rw [List.length_map] at c'
    have hl : k.toNat < ns.length := by omega
    have e : (ns.map V.int)[k.toNat]? = some (.int ns[k.toNat]) := by rw [List.getElem?_map, List.getElem?_eq_getElem hl] <;> rfl
    refine ⟨_, rfl, _, rfl, a, _, _, _, rfl, rfl, hS, at_int hk e, ?_⟩
    have : sAt ns k = ns[k.toNat] := by
      unfold sAt
      rw [List.getD_eq_getElem?_getD, List.getElem?_eq_getElem hl] <;> rfl
    rw [← this]
    exact q
  · have c' : ¬ k < ((ns.map V.int).length : Int) := of_decide_eq_false (Bool.eq_false_iff.mpr c)
    rw [List.length_map] at c'
    have : sAt ns k = 0 := by
      unfold sAt
      rw [List.getD_eq_getElem?_getD, List.getElem?_eq_none (by omega)] <;> rfl
    have q' : Q (.int 0) H := by
      rw [← this]
      exact q
    exact q'
end
end Sw
namespace Sw
open PySem PySem.Spec PyProof.Rows L2
section
variable {P : Program} {w : World} {K : PySem.W.Frag} {mg : Str → Option Value} {base : Heap}
/-! the law's draws: a number below many, a size, rows -/
def some13 : List Int := [48271, 69621, 16807, 39373, 30269, 40014, 40692, 50021, 61687, 71993, 83869, 95561, 30307]
theorem some13_at {k : Int} (h0 : 0 ≤ k) (h1 : k < 13) : ∃ c : Int, atI (some13.map V.int) k = some (.int c) ∧ 0 ≤ c ∧ c ≤ 95561 := by
  have hl : k.toNat < some13.length := by show k.toNat < 13; omega
  have all : ∀ x ∈ some13, 0 ≤ x ∧ x ≤ 95561 := by decide
  have hm := all _ (List.getElem_mem hl)
  refine ⟨some13[k.toNat], at_int h0 ?_, hm.1, hm.2⟩
  rw [List.getElem?_map, List.getElem?_eq_getElem hl]
  rfl
def sp__law_mix : Sp := fun vs H Q _ => ∃ (cell k many : Int), vs = [.int cell, .int k, .int many] ∧ 0 ≤ k ∧ k ≤ 1000000 ∧ 0 < many ∧ ∀ (m : Int) (H' : Hp), Same H H' → 0 ≤ m → m < many → Q (.int m) H'
theorem ok__law_mix (T : Top K mg) : FnOk P w K mg base CX0 1 T.a__law_mix T.d__law_mix ["cell", "k", "many"] sp__law_mix := by
  refine T.F__law_mix.ok sc__law_mix (fun vs H Q E h => ?_) (fun cdv A outer s H vs Q E hr h => ?_)
  · obtain ⟨_, _, _, rfl, _⟩ := h
    rfl
  obtain ⟨cell, k, many, rfl, k0, k1, hm, q⟩ := h
  refine ⟨_, (pss_cons (ps_set (i := 3) sc__law_mix.nd rfl (Or.inl rfl) (pe_lst (pa_cons pe_int (pa_cons pe_int (pa_cons pe_int (pa_cons pe_int (pa_cons pe_int (pa_cons pe_int (pa_cons pe_int (pa_cons pe_int (pa_cons pe_int (pa_cons pe_int (pa_cons pe_int (pa_cons pe_int (pa_cons pe_int pa_nil)))))))))))))))
      (pss_cons (ps_set (i := 4) sc__law_mix.nd rfl (Or.inl rfl) (pe_op op_mul (pe_op op_add (pe_op op_mod (pv 0) pe_int) pe_int) (pe_ix ix_list (pv 3) (pe_op op_mod (pv 1) pe_int) (fun _ _ => rfl))))
      (pss_cons (ps_set (i := 4) sc__law_mix.nd rfl (Or.inl rfl) (pe_op op_add (pe_op op_mul (pv 4) (pe_op op_add (pe_op op_mul pe_int (pe_op op_fdiv (pv 1) pe_int)) pe_int)) (pe_op op_mul pe_int (pv 1))))
      (pss_one (ps_ret (pe_op op_mod (pe_op op_fdiv (pe_op op_mod (pv 4) pe_int) pe_int) (pv 2))))))), ?_⟩
  refine ⟨by show 13 ≤ sizeLine; decide, fun l hl => ?_⟩
  obtain ⟨c, ec, c0, c1⟩ := some13_at (k := k % 13) (Int.emod_nonneg _ (by decide)) (Int.emod_lt_of_pos _ (by decide))
  have e0 : 0 ≤ cell % 2147483647 := Int.emod_nonneg _ (by decide)
  have e1 : cell % 2147483647 < 2147483647 := Int.emod_lt_of_pos _ (by decide)
  refine ⟨_, rfl, _, _, rfl, rfl, (show (0 : Int) < 2147483647 by decide), _, _, rfl, rfl, _, rfl, _, rfl, _, _, rfl, rfl, (show (0 : Int) < 13 by decide), l, some13.map V.int, _, _, rfl, rfl, SqL.of upd_same, ec, _, _, rfl, rfl, .inl ⟨?_, ?_⟩, ?_⟩
  · show -(2 ^ 64 : Int) < cell % 2147483647 + 12345
    omega
  · show cell % 2147483647 + 12345 < (2 ^ 64 : Int)
    omega
  have b0 : 0 ≤ (cell % 2147483647 + 12345) * c := Int.mul_nonneg (by omega) c0
  have b1 : (cell % 2147483647 + 12345) * c ≤ 2147495992 * 95561 := Int.mul_le_mul (by omega) c1 c0 (by decide)
  refine ⟨_, rfl, _, rfl, _, _, rfl, rfl, ⟨by decide, by decide⟩, _, _, rfl, rfl, .inl ⟨by decide, by decide⟩, _, _, rfl, rfl, _, _, rfl, rfl, .inl ⟨?_, ?_⟩, ?_⟩
  · show -(2 ^ 64 : Int) < (cell % 2147483647 + 12345) * c
    omega
  · show (cell % 2147483647 + 12345) * c < (2 ^ 64 : Int)
    omega
  refine ⟨_, rfl, _, _, rfl, rfl, .inl ⟨by decide, by decide⟩, _, _, rfl, rfl, ?_⟩
  refine ⟨_, rfl, _, _, rfl, rfl, (show (0 : Int) < 1000000007 by decide), _, _, rfl, rfl, ⟨by decide, by decide⟩, _, rfl, _, _, rfl, rfl, hm, ?_⟩
  exact q _ _ (same_new hl _) (Int.emod_nonneg _ (by omega)) (Int.emod_lt_of_pos _ hm)

def sp__law_size_by (K : PySem.W.Frag) : Sp := fun vs H Q _ => ∃ (a : Addr) (ns : List Int) (most : Int), vs = [.ref a, .int most] ∧ SqL K H a (ns.map V.int) ∧ 0 < most ∧
  ∀ (h w : Int) (t : Addr) (H' : Hp), 1 ≤ h → h ≤ most → 1 ≤ w → w ≤ most → Same H H' → H' t = some (.tup [.int h, .int w]) → Q (.ref t) H'
theorem ok__law_size_by (T : Top K mg) : FnOk P w K mg base CX0 2 T.a__law_size_by T.d__law_size_by ["script", "most"] (sp__law_size_by K) := by
  refine T.F__law_size_by.ok sc__law_size_by (fun vs H Q E h => ?_) (fun cdv A outer s H vs Q E hr h => ?_)
  · obtain ⟨_, _, _, rfl, _⟩ := h
    rfl
  obtain ⟨a, ns, most, rfl, hS, hm, q⟩ := h
  refine ⟨_, (pss_one (ps_ret (pe_tup (pa_cons (pe_op op_add pe_int (pe_op op_mod (pe_call (ok__law_cell_at T) (hr.mono (by decide)) rfl T.m__law_cell_at T.F__law_cell_at.kp T.B__law_cell_at .nil pass0 (pa_cons (pv 0) (pa_cons pe_int pa_nil))) (pv 1))) (pa_cons (pe_op op_add pe_int (pe_op op_mod (pe_call (ok__law_cell_at T) (hr.mono (by decide)) rfl T.m__law_cell_at T.F__law_cell_at.kp T.B__law_cell_at .nil pass0 (pa_cons (pv 0) (pa_cons pe_int pa_nil))) (pv 1))) pa_nil))))), ?_⟩
  refine ⟨_, rfl, a, ns, 0, rfl, hS, by decide, _, rfl, _, _, rfl, rfl, hm, _, _, rfl, rfl, _, rfl, a, ns, 1, rfl, hS, by decide, _, rfl, _, _, rfl, rfl, hm, _, _, rfl, rfl, sz2, fun t ht => ?_⟩
  have m0 := Int.emod_nonneg (sAt ns 0) (show most ≠ 0 by omega)
  have m1 := Int.emod_lt_of_pos (sAt ns 0) hm
  have m2 := Int.emod_nonneg (sAt ns 1) (show most ≠ 0 by omega)
  have m3 := Int.emod_lt_of_pos (sAt ns 1) hm
  exact q (1 + sAt ns 0 % most) (1 + sAt ns 1 % most) t _ (by omega) (by omega) (by omega) (by omega) (same_new ht _) upd_same

/-- a sign that may be drawn -/
def LetOk (full : Bool) (c : Nat) : Prop := (c = 110 ∨ c = 119 ∨ c = 46) ∧ (full = true → c ≠ 46)
def kinds5 : List Nat := [110, 119, 110, 119, 46]
theorem kinds_at {full : Bool} {k : Int} (h0 : 0 ≤ k) (h1 : k < if full then 4 else 5) : ∃ c : Nat, atI [V.str (txt [110]), .str (txt [119]), .str (txt [110]), .str (txt [119]), .str (txt [46])] k = some (.str (txt [c])) ∧ LetOk full c := by
  have h5 : k < 5 := by cases full <;> simp at h1 <;> omega
  have hl : k.toNat < kinds5.length := by show k.toNat < 5; omega
  refine ⟨kinds5[k.toNat], at_int h0 ?_, ?_⟩
  · show (kinds5.map fun c => V.str (txt [c]))[k.toNat]? = _
    rw [List.getElem?_map, List.getElem?_eq_getElem hl]
    rfl
  · have a5 : ∀ x ∈ kinds5, x = 110 ∨ x = 119 ∨ x = 46 := by decide
    refine ⟨a5 _ (List.getElem_mem hl), fun e => ?_⟩
    subst e
    have h4 : k.toNat < 4 := by simp at h1; omega
    have a4 : ∀ i : Nat, i < 4 → ∀ h : i < kinds5.length, kinds5[i] ≠ 46 := by decide
    exact a4 _ h4 hl
def sp__law_rows_by (K : PySem.W.Frag) : Sp := fun vs H Q _ => ∃ (a : Addr) (ns : List Int) (h w : Nat) (full : Bool), vs = [.ref a, .int (h : Int), .int (w : Int), .bl full] ∧ SqL K H a (ns.map V.int) ∧ 1 ≤ h ∧ h ≤ 9 ∧ 1 ≤ w ∧ w ≤ 9 ∧
  ∀ (B : Bd) (p : Addr) (H' : Hp), Same H H' → H p = none → H' p = some (.lst (rowsV B)) → IsB B h w → (full = true → ∀ r ∈ B, ∀ c ∈ r, c ≠ 46) → Q (.ref p) H'
theorem ok__law_rows_by (T : Top K mg) : FnOk P w K mg base CX0 2 T.a__law_rows_by T.d__law_rows_by ["script", "height", "width", "full"] (sp__law_rows_by K) := by
  refine T.F__law_rows_by.ok sc__law_rows_by (fun vs H Q E h => ?_) (fun cdv A outer s H vs Q E hr h => ?_)
  · obtain ⟨_, _, _, _, _, rfl, _⟩ := h
    rfl
  obtain ⟨a, ns, h, w, full, rfl, hS, h1, h9, w1, w9, q⟩ := h
  refine ⟨_, (pss_cons (ps_set (i := 4) sc__law_rows_by.nd rfl (Or.inl rfl) (pe_lst pa_nil))
      (pss_cons (ps_for PassesOwn.never rfl (pi_range1 rfl T.z_range (pa_cons (pv 1) pa_nil)) (pg_name (i := 5) sc__law_rows_by.nd rfl (Or.inl rfl))
      (pss_cons (ps_set (i := 6) sc__law_rows_by.nd rfl (Or.inl rfl) (pe_call (ok__law_cell_at T) (hr.mono (by decide)) rfl T.m__law_cell_at T.F__law_cell_at.kp T.B__law_cell_at .nil pass0 (pa_cons (pv 0) (pa_cons (pe_op op_add pe_int (pv 5)) pa_nil))))
      (pss_cons (ps_set (i := 7) sc__law_rows_by.nd rfl (Or.inl rfl) pe_str)
      (pss_cons (ps_for PassesOwn.never rfl (pi_range1 rfl T.z_range (pa_cons (pv 2) pa_nil)) (pg_name (i := 8) sc__law_rows_by.nd rfl (Or.inl rfl))
      (pss_cons (ps_set (i := 9) sc__law_rows_by.nd rfl (Or.inl rfl) (pe_call (ok__law_mix T) (hr.mono (by decide)) rfl T.m__law_mix T.F__law_mix.kp T.B__law_mix .nil pass0 (pa_cons (pv 6) (pa_cons (pe_op op_add (pe_op op_mul pe_int (pv 5)) (pv 8)) (pa_cons (pe_ix ix_list (pe_lst (pa_cons pe_int (pa_cons pe_int pa_nil))) (pe_callTy call_int1 (by rfl) T.z_int (by decide +kernel) (pa_cons (pv 3) pa_nil)) (fun _ _ => rfl)) pa_nil)))))
      (pss_one (ps_set (i := 7) sc__law_rows_by.nd rfl (Or.inl rfl) (pe_op op_add_str (pv 7) (pe_ix ix_list (pe_lst (pa_cons pe_str (pa_cons pe_str (pa_cons pe_str (pa_cons pe_str (pa_cons pe_str pa_nil)))))) (pv 9) (fun _ _ => rfl)))))))
      (pss_one (ps_expr (pe_bm PySem.F.plainAttrs_list PySem.F.slot_list_append PySem.F.type_list_append mt_append (pv 4) (pa_cons (pv 7) pa_nil))))))))
      (pss_one (ps_ret (pv 4))))), ?_⟩
  refine ⟨sz0, fun l hl => ?_⟩
  refine ⟨_, rfl, (h : Int), rfl, by omega, by omega, for_range (lo := 0) (n := h) (fun i σ H' => Same H H' ∧ ∃ B : Bd, H' l = some (.lst (rowsV B)) ∧ B.length = i ∧ (∀ r ∈ B, r.length = w ∧ ∀ c ∈ r, LetOk full c) ∧
    ∃ v1 v2 v3 v4 v5, σ = [some (.ref a), some (.int h), some (.int w), some (.bl full), some (.ref l), v1, v2, v3, v4, v5]) ⟨same_new hl _, [], upd_same, rfl, (fun r hr => nomatch hr), _, _, _, _, _, rfl⟩ ?_ ?_⟩
  · rintro i σ H1 hi ⟨s1, B, hB, lB, aB, v1, v2, v3, v4, v5, rfl⟩
    refine ⟨_, rfl, _, rfl, _, _, rfl, rfl, a, ns, _, rfl, s1.seq hS, by omega, ?_⟩
    refine ⟨_, rfl, (w : Int), rfl, by omega, by omega, for_range (lo := 0) (n := w) (fun j σ H' => Same H H' ∧ H' l = some (.lst (rowsV B)) ∧ ∃ rr : List Nat, rr.length = j ∧ (∀ c ∈ rr, LetOk full c) ∧
      ∃ u1 u3 u4, σ = [some (.ref a), some (.int h), some (.int w), some (.bl full), some (.ref l), some (.int ((0 : Int) + (i : Int))), some (.int u1), some (.str (txt rr)), u4, u3]) ⟨s1, hB, [], rfl, (fun c hc => nomatch hc), sAt ns (3 + (0 + (i : Int))), v5, v4, by rw [s_nil]; rfl⟩ ?_ ?_⟩
    · rintro j σ H2 hj ⟨s2, hB2, rr, lr, ar, u1, u3, u4, rfl⟩
      refine ⟨_, rfl, _, rfl, _, _, rfl, rfl, .inl ⟨by decide, by decide⟩, _, rfl, _, _, rfl, rfl, sz2, fun l5 h5 => ?_⟩
      refine ⟨_, rfl, .inr ⟨full, rfl, ?_⟩⟩
      have i5 : atI [V.int 5, V.int 4] (if full = true then 1 else 0) = some (.int (if full = true then 4 else 5)) := by
        cases full <;> rfl
      refine ⟨l5, _, _, _, rfl, rfl, SqL.of upd_same, i5, ?_⟩
      refine ⟨u1, _, _, rfl, by omega, by omega, by cases full <;> decide, fun kd H3 s3 k0 k1 => ?_⟩
      have s4 : Same H2 H3 := (same_new h5 _).trans s3
      refine ⟨_, rfl, ?_⟩
      refine ⟨by show 5 ≤ sizeLine; decide, fun l6 h6 => ?_⟩
      obtain ⟨c, ec, oc⟩ := kinds_at k0 k1
      rw [s_n, s_w, s_dot]
      refine ⟨_, rfl, l6, _, _, _, rfl, rfl, SqL.of upd_same, ec, _, _, rfl, rfl, ?_, ?_⟩
      · rw [txt_len, txt_len]
        exact sz_le (by rw [lr]; show j + 1 ≤ 1000000; omega)
      have s5 := s4.trans (same_new h6 (.lst [V.str (txt [110]), .str (txt [119]), .str (txt [110]), .str (txt [119]), .str (txt [46])]))
      refine ⟨s2.trans s5, s5 _ _ hB2, rr ++ [c], by rw [List.length_append, lr]; rfl, fun x hx => ?_, u1, some (.int kd), some (.int ((0 : Int) + (j : Int))), ?_⟩
      · rcases List.mem_append.mp hx with hx | hx
        · exact ar x hx
        · rw [List.mem_singleton.mp hx]
          exact oc
      · rw [txt_app]
        rfl
    · rintro σ H2 ⟨s2, hB2, rr, lr, ar, u1, u3, u4, rfl⟩
      refine ⟨_, rfl, .inl ⟨rfl, _, SqL.of hB2⟩, _, rfl, l, _, _, rfl, rfl, hB2, sz_lt (by rw [rowsV_len]; omega), ?_⟩
      refine ⟨same_mut s2 hl, B ++ [rr], ?_, by rw [List.length_append, lB]; rfl, fun r hr => ?_, _, _, _, _, _, rfl⟩
      · rw [upd_same]
        show _ = some (HO.lst ((B ++ [rr]).map rowV))
        rw [List.map_append]
        rfl
      · rcases List.mem_append.mp hr with hr | hr
        · exact aB r hr
        · rw [List.mem_singleton.mp hr]
          exact ⟨lr, ar⟩
  · rintro σ H1 ⟨s1, B, hB, lB, aB, v1, v2, v3, v4, v5, rfl⟩
    exact ⟨_, rfl, q B l _ s1 hl hB ⟨lB, fun r hr => (aB r hr).1, fun r hr c hc => ((aB r hr).2 c hc).1, h1, h9, w1, w9⟩ fun e r hr c hc => ((aB r hr).2 c hc).2 e⟩
end
end Sw
namespace Sw
open PySem PySem.Spec PyProof.Rows L2
section
variable {P : Program} {w : World} {K : PySem.W.Frag} {mg : Str → Option Value} {base : Heap}
/-! hands -/
/-- a list of the hands in some order -/
theorem hand_at {hs : List Bool} {i : Nat} {x : V} (h : (hs.map fun s => V.str (txt [lt s]))[i]? = some x) : ∃ s : Bool, x = .str (txt [lt s]) := by
  obtain ⟨s, _, e⟩ := map_get h
  exact ⟨s, e.symm⟩
theorem nw_hand {k : Int} (h0 : 0 ≤ k) (h1 : k < 2) : ∃ s : Bool, atI (Str.ofString "nw").cps.toList k = some (lt s) := by
  rw [s_nw]
  have : k = 0 ∨ k = 1 := by omega
  rcases this with rfl | rfl
  · exact ⟨false, rfl⟩
  · exact ⟨true, rfl⟩
end
end Sw
namespace Sw
open PySem PySem.Spec PyProof.Rows L2
section
variable {P : Program} {w : World} {K : PySem.W.Frag} {mg : Str → Option Value} {base : Heap}
/-! the flood that the law goes through -/
theorem near_shift (r c : Int) : near6 (r, c) = (near6 (0, 0)).map fun d : Cell => (r + d.1, c + d.2) := by
  show [(r - 1, c), (r - 1, c + 1), (r, c + 1), (r + 1, c), (r + 1, c - 1), (r, c - 1)] = [(r + (0 - 1), c + 0), (r + (0 - 1), c + (0 + 1)), (r + 0, c + (0 + 1)), (r + (0 + 1), c + 0), (r + (0 + 1), c + (0 - 1)), (r + 0, c + (0 - 1))]
  simp only [Int.zero_add, Int.add_zero, Int.zero_sub, Int.add_neg_one]
theorem shift_at {r c : Int} {j : Nat} {d : Cell} (h : (near6 (0, 0))[j]? = some d) : (near6 (r, c))[j]? = some (r + d.1, c + d.2) := by
  rw [near_shift, List.getElem?_map, h]
  rfl
/-- the first shore's stones ahead of the place (r, c), row by row -/
structure Ahead (B : Bd) (s : Bool) (r c : Nat) (l : List Cell) : Prop where
  nd : l.Nodup
  mem : ∀ x : Cell, x ∈ l ↔ cel B x = lt s ∧ sd s x = 0 ∧ (x.1 < (r : Int) ∨ (x.1 = (r : Int) ∧ x.2 < (c : Int)))
def sp__law_flood : Sp := fun vs H Q _ => ∃ (l : Addr) (B : Bd) (h w : Nat) (s : Bool), vs = [.ref l, .str (txt [lt s])] ∧ H l = some (.lst (rowsV B)) ∧ IsB B h w ∧ ∀ H', Same H H' → Q (.bl (jB B s)) H'
theorem ok__law_flood (T : Top K mg) : FnOk P w K mg base CX0 1 T.a__law_flood T.d__law_flood ["rows", "hand"] sp__law_flood := by
  refine T.F__law_flood.ok sc__law_flood (fun vs H Q E h => ?_) (fun cdv A outer s H vs Q E hr h => ?_)
  · obtain ⟨_, _, _, _, _, rfl, _⟩ := h
    rfl
  obtain ⟨l, B, h, w, s, rfl, hl, I, q⟩ := h
  have hu := hu_of hr
  refine ⟨_, (pss_cons (ps_asg (pe_tup (pa_cons (pe_callB call_len_seq (by rfl) T.z_len PySem.boot_len (pa_cons (pv 0) pa_nil)) (pa_cons (pe_callB call_len_str (by rfl) T.z_len PySem.boot_len (pa_cons (pe_ix ix_list (pv 0) pe_int (fun _ _ => rfl)) pa_nil)) pa_nil))) (pg_tup rfl (pgs_cons (pg_name (i := 6) sc__law_flood.nd rfl (Or.inr rfl)) (pgs_cons (pg_name (i := 7) sc__law_flood.nd rfl (Or.inr rfl)) pgs_nil))))
      (pss_cons (ps_set (i := 2) sc__law_flood.nd rfl (Or.inl rfl) pe_dnewT)
      (pss_cons (ps_set (i := 3) sc__law_flood.nd rfl (Or.inl rfl) (pe_lst pa_nil))
      (pss_cons (ps_for PassesOwn.never rfl (pi_range1 rfl T.z_range (pa_cons (pv 6) pa_nil)) (pg_name (i := 4) sc__law_flood.nd rfl (Or.inl rfl))
      (pss_one (ps_for PassesOwn.never rfl (pi_range1 rfl T.z_range (pa_cons (pv 7) pa_nil)) (pg_name (i := 8) sc__law_flood.nd rfl (Or.inl rfl))
      (pss_one (ps_if (PW.pt (pw_and (pt_cmpR op_eq (pe_ix ix_str (pe_ix ix_list (pv 0) (pv 4) (fun _ _ => rfl)) (pv 8) (fun _ _ => rfl)) (pv 1) (nomark _)) (pw_and1 (pt_cmpR op_eq (pe_ix ix_list (pe_lst (pa_cons (pv 4) (pa_cons (pv 8) pa_nil))) (pe_callTy call_int1 (by rfl) T.z_int (by decide +kernel) (pa_cons (pe_cmpR op_eq (pv 1) pe_str (nomark _)) pa_nil)) (fun _ _ => rfl)) pe_int (nomark _)))))
      (pss_cons (ps_dput hu (pv 2) (pe_tup (pa_cons (pv 4) (pa_cons (pv 8) pa_nil))) pe_bl rfl)
      (pss_one (ps_expr (pe_bm PySem.F.plainAttrs_list PySem.F.slot_list_append PySem.F.type_list_append mt_append (pv 3) (pa_cons (pe_tup (pa_cons (pv 4) (pa_cons (pv 8) pa_nil))) pa_nil))))) pss_nil)))))
      (pss_cons (ps_while PassesOwn.never (pt_cmpR op_gt (pe_callB call_len_seq (by rfl) T.z_len PySem.boot_len (pa_cons (pv 3) pa_nil)) pe_int (nomark _))
      (pss_cons (ps_asg (pe_bm0 PySem.F.plainAttrs_list PySem.F.slot_list_pop PySem.F.type_list_pop mt_pop (pv 3)) (pg_tup rfl (pgs_cons (pg_name (i := 4) sc__law_flood.nd rfl (Or.inl rfl)) (pgs_cons (pg_name (i := 8) sc__law_flood.nd rfl (Or.inl rfl)) pgs_nil))))
      (pss_one (ps_for PassesOwn.never rfl (pi_list (pe_lst (pa_cons (pe_tup (pa_cons (pe_un un_neg pe_int) (pa_cons pe_int pa_nil))) (pa_cons (pe_tup (pa_cons (pe_un un_neg pe_int) (pa_cons pe_int pa_nil))) (pa_cons (pe_tup (pa_cons pe_int (pa_cons pe_int pa_nil))) (pa_cons (pe_tup (pa_cons pe_int (pa_cons pe_int pa_nil))) (pa_cons (pe_tup (pa_cons pe_int (pa_cons (pe_un un_neg pe_int) pa_nil))) (pa_cons (pe_tup (pa_cons pe_int (pa_cons (pe_un un_neg pe_int) pa_nil))) pa_nil)))))))) (pg_tup rfl (pgs_cons (pg_name (i := 9) sc__law_flood.nd rfl (Or.inl rfl)) (pgs_cons (pg_name (i := 10) sc__law_flood.nd rfl (Or.inl rfl)) pgs_nil)))
      (pss_cons (ps_set (i := 11) sc__law_flood.nd rfl (Or.inl rfl) (pe_tup (pa_cons (pe_op op_add (pv 4) (pv 9)) (pa_cons (pe_op op_add (pv 8) (pv 10)) pa_nil))))
      (pss_one (ps_if (PW.pt (pw_and (pt_chain op_le op_lt pe_int (pe_ix ix_tup (pv 11) pe_int (fun _ _ => rfl)) (pv 6)) (pw_and (pt_chain op_le op_lt pe_int (pe_ix ix_tup (pv 11) pe_int (fun _ _ => rfl)) (pv 7)) (pw_and1 (pt_cmp (pc_dnotin hu (pv 11) (pv 2)))))))
      (pss_one (ps_if (pt_cmpR op_eq (pe_ix ix_str (pe_ix ix_list (pv 0) (pe_ix ix_tup (pv 11) pe_int (fun _ _ => rfl)) (fun _ _ => rfl)) (pe_ix ix_tup (pv 11) pe_int (fun _ _ => rfl)) (fun _ _ => rfl)) (pv 1) (nomark _))
      (pss_cons (ps_dput hu (pv 2) (pv 11) pe_bl rfl)
      (pss_one (ps_expr (pe_bm PySem.F.plainAttrs_list PySem.F.slot_list_append PySem.F.type_list_append mt_append (pv 3) (pa_cons (pv 11) pa_nil))))) pss_nil)) pss_nil)))))))
      (pss_cons (ps_lock (ps_setLc (i := 5) (own := [("cell", 11)]) (g := gName 11) rfl sc__law_flood.nd rfl rfl (sw_true rfl rfl rfl (by decide +kernel)) (pi_keys (pv 2)) (blkOk_by (own := [("cell", 11)]) (N := N__law_flood) (sc := defScope s__law_flood) (by decide +kernel)) (fun _ _ _ _ _ => (pg_name (i := 11) sc__law_flood.nd rfl (Or.inl rfl))) (fun _ _ _ _ _ => pts_one (pt_cmpR op_eq (pe_ix (ix_listK (K := K) rfl) (pe_lst (pa_cons (pe_op op_sub (pe_ix (ix_tupK (K := K) rfl) (pv 11) pe_int (fun _ _ => rfl)) (pv 6)) (pa_cons (pe_op op_sub (pe_ix (ix_tupK (K := K) rfl) (pv 11) pe_int (fun _ _ => rfl)) (pv 7)) pa_nil))) (pe_callTy call_int1 (by rfl) T.z_int (by decide +kernel) (pa_cons (pe_cmpR op_eq (pv 1) pe_str (nomark _)) pa_nil)) (fun _ _ => rfl)) (pe_un un_neg pe_int) (nomark _))) (fun _ _ _ _ _ => (pv 11))))
      (pss_one (ps_ret (pe_cmpR op_gt (pe_callB call_len_seq (by rfl) T.z_len PySem.boot_len (pa_cons (pv 5) pa_nil)) pe_int (nomark _)))))))))), ?_⟩
  have h9 := I.h9
  have w9 := I.w9
  have h1 := I.h1
  have w1 := I.w1
  have arx := area I
  obtain ⟨r0, er0, lr0⟩ := I.row (i := 0) I.h1
  refine ⟨_, rfl, l, _, rfl, .inl (SqL.of hl), _, rfl, l, _, _, _, rfl, rfl, SqL.of hl, atI_nat (j := 0) (rowsV_get er0), _, rfl, sz_le (by rw [txt_len]; omega), sz2, fun t0 ht0 => ?_⟩
  rw [txt_len, lr0, rowsV_len, I.hh]
  have s0 := same_new ht0 (.tup [.int (h : Int), .int (w : Int)])
  have ht0' : upd H t0 (.tup [.int (h : Int), .int (w : Int)]) t0 = some (.tup [.int (h : Int), .int (w : Int)]) := upd_same
  revert s0 ht0'
  generalize upd H t0 (.tup [.int (h : Int), .int (w : Int)]) = H0
  intro s0 ht0'
  refine ⟨t0, _, rfl, SqT.of ht0', rfl, _, _, rfl, _, _, rfl, rfl, ?_⟩
  refine fun d hd' => ?_
  have hd := s0.free hd'
  have s1 := s0.trans (same_new hd' (.dT []))
  have see : Seen (upd H0 d (.dT [])) d [] := Seen.nil
  revert s1 see
  generalize upd H0 d (.dT []) = H1
  intro s1 see
  refine ⟨sz0, fun f hf => ?_⟩
  have nf : H f = none := s1.free hf
  have s2 := s1.trans (same_new hf (.lst []))
  have hf2 : upd H1 f (.lst []) f = some (.lst []) := upd_same
  have see2 : Seen (upd H1 f (.lst [])) d [] := see.same (same_new hf (.lst []))
  revert s2 hf2 see2
  generalize upd H1 f (.lst []) = H2
  intro s2 hf2 see2
  -- the first shore
  refine ⟨_, rfl, (h : Int), rfl, by omega, by omega, for_range (lo := 0) (n := h) (fun r σ H' => ∃ (ws : List V) (cs : List Cell) (v1 v2 : Option V), Same H H' ∧ H' f = some (.lst ws) ∧ Cells H' ws cs ∧ Seen H' d cs ∧ Ahead B s r 0 cs ∧
    σ = [some (.ref l), some (.str (txt [lt s])), some (.ref d), some (.ref f), v1, none, some (.int h), some (.int w), v2, none, none, none])
    ⟨[], [], none, none, s2, hf2, .nil, see2, ⟨List.nodup_nil, fun x => ⟨(fun z => nomatch z), fun ⟨a, _, b⟩ => ?_⟩⟩, rfl⟩ ?_ ?_⟩
  · have ix := I.ins (p := x) (by rw [a]; exact lt_ne s)
    have i1 := ix.1
    have i2 := ix.2.2.1
    omega
  · rintro r σ H3 hr' ⟨ws, cs, v1, v2, s3, hf3, hc3, see3, ah, rfl⟩
    refine ⟨_, rfl, (w : Int), rfl, by omega, by omega, for_range (lo := 0) (n := w) (fun c σ H' => ∃ (ws : List V) (cs : List Cell) (v2 : Option V), Same H H' ∧ H' f = some (.lst ws) ∧ Cells H' ws cs ∧ Seen H' d cs ∧ Ahead B s r c cs ∧
      σ = [some (.ref l), some (.str (txt [lt s])), some (.ref d), some (.ref f), some (.int ((0 : Int) + (r : Int))), none, some (.int h), some (.int w), v2, none, none, none])
      ⟨ws, cs, v2, s3, hf3, hc3, see3, ah, rfl⟩ ?_ ?_⟩
    · rintro c σ H4 hc' ⟨ws, cs, v2, s4, hf4, hc4, see4, ah, rfl⟩
      have e0 : (0 : Int) + (r : Int) = r := Int.zero_add _
      have e1 : (0 : Int) + (c : Int) = c := Int.zero_add _
      have ic : Ins h w ((0 : Int) + (r : Int), (0 : Int) + (c : Int)) := ⟨by show (0 : Int) ≤ 0 + r; omega, by show (0 : Int) + r < h; omega, by show (0 : Int) ≤ 0 + c; omega, by show (0 : Int) + c < w; omega⟩
      obtain ⟨row, er, mr, lr, ecel, _⟩ := I.at ic
      have lc4 := hc4.len
      have bnd : cs.length ≤ h * w := nodup_rect ah.nd fun x hx => I.ins (by rw [((ah.mem x).mp hx).1]; exact lt_ne s)
      have stay : ¬ (cel B ((0 : Int) + (r : Int), (0 : Int) + (c : Int)) = lt s ∧ sd s ((0 : Int) + (r : Int), (0 : Int) + (c : Int)) = 0) → Ahead B s r (c + 1) cs := fun z => by
        refine ⟨ah.nd, fun x => ⟨fun hx => ?_, fun ⟨a, b, k⟩ => ?_⟩⟩
        · obtain ⟨a, b, k⟩ := (ah.mem x).mp hx
          exact ⟨a, b, by omega⟩
        · refine (ah.mem x).mpr ⟨a, b, ?_⟩
          by_cases e : x.1 = (r : Int) ∧ x.2 = (c : Int)
          · exfalso
            have ex : x = ((0 : Int) + (r : Int), (0 : Int) + (c : Int)) := Prod.ext (by show x.1 = 0 + (r : Int); omega) (by show x.2 = 0 + (c : Int); omega)
            exact z ⟨ex ▸ a, ex ▸ b⟩
          · omega
      refine ⟨_, rfl, _, rfl, l, _, _, _, rfl, rfl, SqL.of (s4 _ _ hl), at_int ic.1 (rowsV_get er), _, rfl, _, _, _, rfl, rfl, sz_le (by rw [txt_len, lr]; omega), atI_cps ic.2.2.1 ecel, _, rfl, rfl, _, rfl, ?_⟩
      refine iteD (fun c1 => ?_) (fun c1 => ⟨ws, cs, _, s4, hf4, hc4, see4, stay fun z => c1 (sgn_eq.mpr z.1), rfl⟩)
      have c1' := sgn_eq.mp c1
      have eside : decide (V.str (txt [lt s]) = V.str (Str.ofString "w")) = s := by
        rw [Bool.eq_iff_iff, decide_eq_true_eq, hand_w]
      refine ⟨_, rfl, _, rfl, sz2, fun t ht => ?_⟩
      have st := same_new ht (.lst [V.int ((0 : Int) + (r : Int)), V.int ((0 : Int) + (c : Int))])
      have ht5 : upd H4 t (.lst [V.int ((0 : Int) + (r : Int)), V.int ((0 : Int) + (c : Int))]) t = some (.lst [V.int ((0 : Int) + (r : Int)), V.int ((0 : Int) + (c : Int))]) := upd_same
      revert st ht5
      generalize upd H4 t (.lst [V.int ((0 : Int) + (r : Int)), V.int ((0 : Int) + (c : Int))]) = H5
      intro st ht5
      have pick : atI [V.int ((0 : Int) + (r : Int)), V.int ((0 : Int) + (c : Int))] (if s = true then 1 else 0) = some (.int (sd s ((0 : Int) + (r : Int), (0 : Int) + (c : Int)))) := by cases s <;> rfl
      refine ⟨_, rfl, rfl, .inr ⟨s, congrArg (fun b => [V.bl b]) eside, t, _, _, _, rfl, rfl, SqL.of ht5, pick, rfl, _, rfl, ?_⟩⟩
      refine iteD (fun c2 => ?_) (fun c2 => ⟨ws, cs, _, s4.trans st, st _ _ hf4, hc4.same st, see4.same st, stay fun z => c2 (by rw [z.2]), rfl⟩)
      have c2' := V.int.inj c2
      have hn : ((0 : Int) + (r : Int), (0 : Int) + (c : Int)) ∉ cs := fun hm => by
        obtain ⟨_, _, k⟩ := (ah.mem _).mp hm
        rcases k with k | k
        · have k' : (0 : Int) + (r : Int) < r := k
          omega
        · have k' : (0 : Int) + (c : Int) < c := k.2
          omega
      have s5 := s4.trans st
      have hf5 := st _ _ hf4
      have hc5 := hc4.same st
      have see5 := see4.same st
      -- seen[(r, c)] = True; left.append((r, c))
      refine ⟨_, rfl, _, rfl, _, rfl, sz2, fun u hu' => ?_⟩
      have su := same_new hu' (.tup (cellV ((0 : Int) + (r : Int), (0 : Int) + (c : Int))))
      obtain ⟨ys, put, see6, tp, xs0, hd6⟩ := (see5.same su).put (v := .bl true) (c := ((0 : Int) + (r : Int), (0 : Int) + (c : Int))) upd_same hn (by omega)
      refine ⟨d, _, rfl, put, ?_⟩
      have s6 := s5.trans su
      have nd : H d = none := hd
      have s7 := same_mut (o := .dT ys) s6 nd
      have hf7 : upd (upd H5 u (.tup (cellV ((0 : Int) + (r : Int), (0 : Int) + (c : Int))))) d (.dT ys) f = some (.lst ws) := by
        rw [upd_ne (ne_of (su _ _ hf5) hd6 (by intro z; cases z))]
        exact su _ _ hf5
      have hc7 := (hc5.same su).tps tp
      revert s7 hf7 hc7 see6
      generalize upd (upd H5 u (.tup (cellV ((0 : Int) + (r : Int), (0 : Int) + (c : Int))))) d (.dT ys) = H7
      intro see7 s7 hf7 hc7
      refine ⟨_, rfl, .inl ⟨rfl, _, SqL.of hf7⟩, _, rfl, _, rfl, sz2, fun v hv => ?_⟩
      have sv := same_new hv (.tup (cellV ((0 : Int) + (r : Int), (0 : Int) + (c : Int))))
      have hv8 : upd H7 v (.tup (cellV ((0 : Int) + (r : Int), (0 : Int) + (c : Int)))) v = some (.tup (cellV ((0 : Int) + (r : Int), (0 : Int) + (c : Int)))) := upd_same
      have s8 := s7.trans sv
      have hf8 := sv _ _ hf7
      have hc8 := hc7.same sv
      have see8 := see7.same sv
      refine ⟨f, ws, _, rfl, rfl, hf8, sz_lt (by omega), ?_⟩
      refine ⟨ws ++ [V.ref v], cs ++ [((0 : Int) + (r : Int), (0 : Int) + (c : Int))], _, same_mut s8 nf, upd_same, (hc8.app (.one hv8)).tps (.lst (o := .lst (ws ++ [V.ref v])) hf8), see8.updL hf8, ⟨?_, fun x => ?_⟩, rfl⟩
      · rw [List.nodup_append]
        refine ⟨ah.nd, List.nodup_cons.mpr ⟨by simp, List.nodup_nil⟩, fun x hx y hy => ?_⟩
        rw [List.mem_singleton.mp hy]
        exact fun z => hn (z ▸ hx)
      · rw [List.mem_append, List.mem_singleton, ah.mem x]
        constructor
        · rintro (⟨a, b, k⟩ | rfl)
          · exact ⟨a, b, by omega⟩
          · exact ⟨c1', c2', .inr ⟨e0, by show (0 : Int) + (c : Int) < ((c + 1 : Nat) : Int); omega⟩⟩
        · rintro ⟨a, b, k⟩
          by_cases e : x.1 = (r : Int) ∧ x.2 = (c : Int)
          · exact .inr (Prod.ext (by show x.1 = 0 + (r : Int); omega) (by show x.2 = 0 + (c : Int); omega))
          · exact .inl ⟨a, b, by omega⟩
    · rintro σ H4 ⟨ws, cs, v2, s4, hf4, hc4, see4, ah, rfl⟩
      refine ⟨ws, cs, _, _, s4, hf4, hc4, see4, ⟨ah.nd, fun x => ?_⟩, rfl⟩
      rw [ah.mem x]
      constructor
      · rintro ⟨a, b, k⟩
        exact ⟨a, b, by omega⟩
      · rintro ⟨a, b, k⟩
        have i := I.ins (p := x) (by rw [a]; exact lt_ne s)
        have := i.2.2.1
        have := i.2.2.2
        exact ⟨a, b, by omega⟩
  rintro σ H3 ⟨ws, cs, v1, v2, s3, hf3, hc3, see3, ah, rfl⟩
  have fl0 : Fld (cel B) s cs cs := by
    refine ⟨ah.nd, fun c hc => hc, fun c hc => ?_, fun c a b => ?_⟩
    · obtain ⟨a, b, _⟩ := (ah.mem c).mp hc
      exact .first a b
    · refine (ah.mem c).mpr ⟨a, b, .inl ?_⟩
      exact (I.ins (p := c) (by rw [a]; exact lt_ne s)).2.1
  -- the flood
  refine ⟨fun m σ H' => ∃ (ws : List V) (seen left : List Cell) (v1 v2 v3 v4 v5 : Option V), m = 2 * (81 - seen.length) + left.length ∧ Same H H' ∧ H' f = some (.lst ws) ∧ Cells H' ws left ∧ Seen H' d seen ∧
    Fld (cel B) s seen left ∧ FDone (cel B) s seen left ∧ left.length ≤ seen.length ∧ σ = [some (.ref l), some (.str (txt [lt s])), some (.ref d), some (.ref f), v1, none, some (.int h), some (.int w), v2, v3, v4, v5],
    ⟨_, ws, cs, cs, v1, v2, none, none, none, rfl, s3, hf3, hc3, see3, fl0, (fun c a b => absurd a b), Nat.le_refl _, rfl⟩, ?_⟩
  rintro m σ H4 ⟨ws, seen, left, v1, v2, v3, v4, v5, rfl, s4, hf4, hc4, see4, fl, dn, lle, rfl⟩
  have lw := hc4.len
  have bs := fl.bound I
  refine ⟨_, rfl, f, _, rfl, .inl (SqL.of hf4), _, _, rfl, rfl, _, rfl, iteD (fun hlt => ?_) (fun hge => ?_)⟩
  · refine ⟨fun σ' H' => ∃ (ws : List V) (seen' left' : List Cell) (v1 v2 v3 v4 v5 : Option V), 2 * (81 - seen'.length) + left'.length < 2 * (81 - seen.length) + left.length ∧ Same H H' ∧ H' f = some (.lst ws) ∧ Cells H' ws left' ∧ Seen H' d seen' ∧
      Fld (cel B) s seen' left' ∧ FDone (cel B) s seen' left' ∧ left'.length ≤ seen'.length ∧ σ' = [some (.ref l), some (.str (txt [lt s])), some (.ref d), some (.ref f), v1, none, some (.int h), some (.int w), v2, v3, v4, v5], ?_, ?_⟩
    · rintro σ' H' ⟨ws', seen', left', u1, u2, u3, u4, u5, lt', a1⟩
      exact ⟨_, lt', ws', seen', left', u1, u2, u3, u4, u5, rfl, a1⟩
    have pos : 0 < ws.length := by omega
    have hne : left ≠ [] := by
      intro z
      rw [z] at lw
      rw [lw] at pos
      exact absurd pos (Nat.lt_irrefl _)
    obtain ⟨lf0, c, rfl⟩ : ∃ l0 c, left = l0 ++ [c] := ⟨left.dropLast, left.getLast hne, (List.dropLast_concat_getLast hne).symm⟩
    have lw' : ws.length = lf0.length + 1 := by rw [lw, List.length_append]; rfl
    obtain ⟨y, ey⟩ : ∃ y, ws[ws.length - 1]? = some y := ⟨_, List.getElem?_eq_getElem (by omega)⟩
    obtain ⟨b, c', rfl, ec, hb⟩ := hc4.get ey
    have ecc : c' = c := by
      rw [lw', Nat.add_sub_cancel, List.getElem?_append_right (Nat.le_refl _), Nat.sub_self] at ec
      exact (Option.some.inj ec).symm
    subst ecc
    have hdrop : Cells H4 ws.dropLast lf0 := by
      have gen : ∀ (lf : List Cell) (ws : List V), Cells H4 ws (lf ++ [c']) → Cells H4 ws.dropLast lf := by
        intro lf
        induction lf with
        | nil =>
          intro ws hws
          cases hws with
          | cons _ t =>
            cases t
            exact .nil
        | cons x lf ih =>
          intro ws hws
          cases hws with
          | @cons a1 _ vs1 _ e t =>
            have := ih vs1 t
            cases vs1 with
            | nil =>
              have := t.len
              have e2 : (lf ++ [c']).length = lf.length + 1 := by rw [List.length_append]; rfl
              have e3 : ([] : List V).length = (lf ++ [c']).length := this
              rw [e2] at e3
              cases e3
            | cons v vs2 =>
              rw [List.dropLast_cons₂]
              exact .cons e this
      exact gen lf0 ws hc4
    refine ⟨_, rfl, .inl ⟨rfl, _, SqL.of hf4⟩, f, ws, _, rfl, rfl, hf4, ey, ?_⟩
    have tp5 : Tps H4 (upd H4 f (.lst ws.dropLast)) := .lst hf4
    have s5 := same_mut (o := .lst ws.dropLast) s4 nf
    have hf5 : upd H4 f (.lst ws.dropLast) f = some (.lst ws.dropLast) := upd_same
    have see5 := see4.updL (o := .lst ws.dropLast) hf4
    revert tp5 s5 hf5 see5
    generalize upd H4 f (.lst ws.dropLast) = H5
    intro tp5 s5 hf5 see5
    have hc5 := hdrop.tps tp5
    have hb5 := tp5 _ _ hb
    refine ⟨b, _, rfl, SqT.of hb5, rfl, _, _, rfl, _, _, rfl, rfl, ?_⟩
    -- the six
    refine ⟨_, rfl, sz2, fun t1 g1 => ?_⟩
    refine ⟨_, rfl, sz2, fun t2 g2 => ?_⟩
    refine ⟨sz2, fun t3 g3 => ?_⟩
    refine ⟨sz2, fun t4 g4 => ?_⟩
    refine ⟨_, rfl, sz2, fun t5 g5 => ?_⟩
    refine ⟨_, rfl, sz2, fun t6 g6 => ?_⟩
    refine ⟨sz6, fun p hp => ?_⟩
    obtain ⟨_, ws6, e6, _, s6, hp6, hc6⟩ := new_six (H := H5) (r := 0) (c := 0) rfl rfl rfl rfl rfl rfl g1 g2 g3 g4 g5 g6 hp
    cases e6
    have np5 : H5 p = none := by
      exact (((same_new g1 _).trans (same_new g2 _)).trans ((same_new g3 _).trans (same_new g4 _))).trans ((same_new g5 _).trans (same_new g6 _)) |>.free hp
    have npf : p ≠ f := fun z => by rw [z, hf5] at np5; cases np5
    have npd : p ≠ d := fun z => by
      obtain ⟨kvs, ek, _⟩ := see5
      rw [z, ek] at np5
      cases np5
    have cin : c' ∈ seen := fl.sub c' (List.mem_append_right _ List.mem_cons_self)
    have ll : (lf0 ++ [c']).length = lf0.length + 1 := by rw [List.length_append]; rfl
    refine ⟨p, rfl, ⟨_, SqL.of hp6⟩, for_list (K := K) (a := p) (xs := ws6) (fun j σ H' => ∃ (ws : List V) (seen' left' : List Cell) (v3 v4 v5 : Option V), Same H H' ∧ H' p = some (.lst ws6) ∧ Cells H' ws6 (near6 (0, 0)) ∧ H' f = some (.lst ws) ∧ Cells H' ws left' ∧ Seen H' d seen' ∧
      Fld (cel B) s seen' left' ∧ (∀ x ∈ seen', x ∉ left' → x = c' ∨ ∀ y ∈ near6 x, cel B y = lt s → y ∈ seen') ∧ c' ∈ seen' ∧ (∀ y ∈ (near6 c').take j, cel B y = lt s → y ∈ seen') ∧ 2 * (81 - seen'.length) + left'.length ≤ 2 * (81 - seen.length) + lf0.length ∧ left'.length ≤ seen'.length ∧
      σ = [some (.ref l), some (.str (txt [lt s])), some (.ref d), some (.ref f), some (.int c'.1), none, some (.int h), some (.int w), some (.int c'.2), v3, v4, v5])
      ⟨_, seen, lf0, _, _, _, s5.trans s6, hp6, hc6, s6 _ _ hf5, hc5.same s6, see5.same s6, ⟨fl.nd, fun x hx => fl.sub x (List.mem_append_left _ hx), fl.re, fl.first⟩, ?_, cin, (fun y hy => nomatch hy), Nat.le_refl _, by omega, rfl⟩ (fun i σ H' _ ⟨_, _, _, _, _, _, _, e, _⟩ => SqL.of e) ?_ ?_⟩
    · intro x hx hn
      by_cases e : x = c'
      · exact .inl e
      · refine .inr (dn x hx fun hm => ?_)
        rcases List.mem_append.mp hm with hm | hm
        · exact hn hm
        · exact e (List.mem_singleton.mp hm)
    · rintro j x σ H7 hj ⟨ws, seen', left', v3, v4, v5, s7, hp7, hc7, hf7, hl7, see7, fl7, dn7, ci7, al7, me7, le7, rfl⟩
      obtain ⟨g, e, rfl, ee, hg⟩ := hc7.get hj
      have ey : (near6 c')[j]? = some (c'.1 + e.1, c'.2 + e.2) := shift_at ee
      have yn := List.mem_of_getElem? ey
      have bs7 := fl7.bound I
      have ll7 := hl7.len
      refine ⟨g, _, rfl, SqT.of hg, rfl, _, _, rfl, _, _, rfl, rfl, ?_⟩
      refine ⟨_, rfl, _, rfl, _, _, rfl, rfl, _, rfl, _, rfl, _, _, rfl, rfl, sz2, fun t ht => ?_⟩
      have st := same_new ht (.tup (cellV (c'.1 + e.1, c'.2 + e.2)))
      have ht8 : upd H7 t (.tup (cellV (c'.1 + e.1, c'.2 + e.2))) t = some (.tup (cellV (c'.1 + e.1, c'.2 + e.2))) := upd_same
      have s8 := s7.trans st
      have hp8 := st _ _ hp7
      have hc8 := hc7.same st
      have hf8 := st _ _ hf7
      have hl8 := hl7.same st
      have see8 := see7.same st
      have stay : (cel B (c'.1 + e.1, c'.2 + e.2) = lt s → (c'.1 + e.1, c'.2 + e.2) ∈ seen') → ∃ (ws : List V) (seen' left' : List Cell) (v3 v4 v5 : Option V), Same H (upd H7 t (.tup (cellV (c'.1 + e.1, c'.2 + e.2)))) ∧ upd H7 t (.tup (cellV (c'.1 + e.1, c'.2 + e.2))) p = some (.lst ws6) ∧
          Cells (upd H7 t (.tup (cellV (c'.1 + e.1, c'.2 + e.2)))) ws6 (near6 (0, 0)) ∧ upd H7 t (.tup (cellV (c'.1 + e.1, c'.2 + e.2))) f = some (.lst ws) ∧ Cells (upd H7 t (.tup (cellV (c'.1 + e.1, c'.2 + e.2)))) ws left' ∧ Seen (upd H7 t (.tup (cellV (c'.1 + e.1, c'.2 + e.2)))) d seen' ∧
          Fld (cel B) s seen' left' ∧ (∀ x ∈ seen', x ∉ left' → x = c' ∨ ∀ y ∈ near6 x, cel B y = lt s → y ∈ seen') ∧ c' ∈ seen' ∧ (∀ y ∈ (near6 c').take (j + 1), cel B y = lt s → y ∈ seen') ∧ 2 * (81 - seen'.length) + left'.length ≤ 2 * (81 - seen.length) + lf0.length ∧ left'.length ≤ seen'.length ∧
          [some (.ref l), some (.str (txt [lt s])), some (.ref d), some (.ref f), some (.int c'.1), none, some (.int h), some (.int w), some (.int c'.2), some (V.int e.1), some (V.int e.2), some (V.ref t)] = [some (.ref l), some (.str (txt [lt s])), some (.ref d), some (.ref f), some (.int c'.1), none, some (.int h), some (.int w), some (.int c'.2), v3, v4, v5] := fun k => by
        refine ⟨ws, seen', left', _, _, _, s8, hp8, hc8, hf8, hl8, see8, fl7, dn7, ci7, fun y hy hs => ?_, me7, le7, rfl⟩
        rw [take_snoc ey] at hy
        rcases List.mem_append.mp hy with hy | hy
        · exact al7 y hy hs
        · rw [List.mem_singleton.mp hy] at hs ⊢
          exact k hs
      have off : ¬ Ins h w (c'.1 + e.1, c'.2 + e.2) → cel B (c'.1 + e.1, c'.2 + e.2) = lt s → (c'.1 + e.1, c'.2 + e.2) ∈ seen' := fun z k => absurd (I.ins (by rw [k]; exact lt_ne s)) z
      refine ⟨_, rfl, t, _, _, _, rfl, rfl, SqT.of ht8, atI_nat (j := 0) rfl, _, _, rfl, rfl, _, rfl, ?_⟩
      refine iteD (fun a1 => ?_) (fun a1 => ⟨_, rfl, iteF (stay (off fun z => a1 z.1))⟩)
      refine ⟨_, rfl, _, _, rfl, rfl, _, rfl, ?_⟩
      refine iteD (fun a2 => ?_) (fun a2 => stay (off fun z => a2 z.2.1))
      refine ⟨_, rfl, t, _, _, _, rfl, rfl, SqT.of ht8, atI_nat (j := 1) rfl, _, _, rfl, rfl, _, rfl, ?_⟩
      refine iteD (fun a3 => ?_) (fun a3 => ⟨_, rfl, iteF (stay (off fun z => a3 z.2.2.1))⟩)
      refine ⟨_, rfl, _, _, rfl, rfl, _, rfl, ?_⟩
      refine iteD (fun a4 => ?_) (fun a4 => stay (off fun z => a4 z.2.2.2))
      have ins : Ins h w (c'.1 + e.1, c'.2 + e.2) := ⟨a1, a2, a3, a4⟩
      obtain ⟨o, og, eo⟩ := see8.get ht8
      refine ⟨_, rfl, _, rfl, d, o, rfl, og, ?_⟩
      rw [eo]
      refine ⟨_, rfl, iteN (fun c1 => ?_) (fun c1 => stay fun _ => c1)⟩
      obtain ⟨row, er, mr, lr, ecel, _⟩ := I.at ins
      refine ⟨_, rfl, _, rfl, t, _, _, _, rfl, rfl, SqT.of ht8, atI_nat (j := 0) rfl, l, _, _, _, rfl, rfl, SqL.of (s8 _ _ hl), at_int ins.1 (rowsV_get er), _, rfl, t, _, _, _, rfl, rfl, SqT.of ht8, atI_nat (j := 1) rfl, _, _, _, rfl, rfl, sz_le (by rw [txt_len, lr]; omega), atI_cps ins.2.2.1 ecel, _, rfl, rfl, _, rfl, ?_⟩
      refine iteD (fun c3 => ?_) (fun c3 => stay fun z => absurd (sgn_eq.mpr z) c3)
      have c3' := sgn_eq.mp c3
      obtain ⟨ys, put, see9, tp9, xs0, hd8⟩ := see8.put (v := .bl true) ht8 c1 (by omega)
      refine ⟨_, rfl, _, rfl, d, _, rfl, put, ?_⟩
      have s9 := same_mut (o := .dT ys) s8 hd
      have kl : ∀ (a : Addr) (us : List V), upd H7 t (.tup (cellV (c'.1 + e.1, c'.2 + e.2))) a = some (.lst us) → upd (upd H7 t (.tup (cellV (c'.1 + e.1, c'.2 + e.2)))) d (.dT ys) a = some (.lst us) := fun a us ha => by
        rw [upd_ne (ne_of ha hd8 (by intro z; cases z))]
        exact ha
      have hp9 := kl _ _ hp8
      have hf9 := kl _ _ hf8
      have hc9 := hc8.tps tp9
      have hl9 := hl8.tps tp9
      have ht9 := tp9 _ _ ht8
      refine ⟨_, rfl, .inl ⟨rfl, _, SqL.of hf9⟩, _, rfl, f, ws, _, rfl, rfl, hf9, ?_, ?_⟩
      · exact sz_lt (by omega)
      have tp10 : Tps _ (upd (upd (upd H7 t (.tup (cellV (c'.1 + e.1, c'.2 + e.2)))) d (.dT ys)) f (.lst (ws ++ [.ref t]))) := .lst hf9
      have fl9 : Fld (cel B) s (seen' ++ [(c'.1 + e.1, c'.2 + e.2)]) (left' ++ [(c'.1 + e.1, c'.2 + e.2)]) := by
        refine ⟨?_, fun x hx => ?_, fun x hx => ?_, fun x a b => List.mem_append_left _ (fl7.first x a b)⟩
        · rw [List.nodup_append]
          refine ⟨fl7.nd, List.nodup_cons.mpr ⟨by simp, List.nodup_nil⟩, fun x hx y hy => ?_⟩
          rw [List.mem_singleton.mp hy]
          exact fun z => c1 (z ▸ hx)
        · rcases List.mem_append.mp hx with hx | hx
          · exact List.mem_append_left _ (fl7.sub x hx)
          · exact List.mem_append_right _ hx
        · rcases List.mem_append.mp hx with hx | hx
          · exact fl7.re x hx
          · rw [List.mem_singleton.mp hx]
            exact .next (fl7.re c' ci7) yn c3'
      have bs9 := fl9.bound I
      have la : (seen' ++ [(c'.1 + e.1, c'.2 + e.2)]).length = seen'.length + 1 := by rw [List.length_append]; rfl
      have lb : (left' ++ [(c'.1 + e.1, c'.2 + e.2)]).length = left'.length + 1 := by rw [List.length_append]; rfl
      have me9 : 2 * (81 - (seen' ++ [(c'.1 + e.1, c'.2 + e.2)]).length) + (left' ++ [(c'.1 + e.1, c'.2 + e.2)]).length ≤ 2 * (81 - seen.length) + lf0.length := by
        rw [la] at bs9
        rw [la, lb]
        clear stay off
        omega
      refine ⟨ws ++ [.ref t], seen' ++ [(c'.1 + e.1, c'.2 + e.2)], left' ++ [(c'.1 + e.1, c'.2 + e.2)], _, _, _, same_mut s9 nf, ?_, hc9.tps tp10, upd_same, (hl9.app (.one ht9)).tps tp10, see9.updL hf9, fl9, fun x hx hn => ?_, List.mem_append_left _ ci7, fun y hy hs => ?_, me9, by rw [la, lb]; exact Nat.succ_le_succ le7, rfl⟩
      · rw [upd_ne npf]
        exact hp9
      · rcases List.mem_append.mp hx with hx | hx
        · rcases dn7 x hx (fun z => hn (List.mem_append_left _ z)) with z | z
          · exact .inl z
          · exact .inr fun y a b => List.mem_append_left _ (z y a b)
        · exact absurd (List.mem_append_right _ hx) hn
      · rw [take_snoc ey] at hy
        rcases List.mem_append.mp hy with hy | hy
        · exact List.mem_append_left _ (al7 y hy hs)
        · exact List.mem_append_right _ hy
    · rintro σ H7 ⟨ws, seen', left', v3, v4, v5, s7, hp7, hc7, hf7, hl7, see7, fl7, dn7, ci7, al7, me7, le7, rfl⟩
      have l6 := hc7.len
      rw [l6] at al7
      refine ⟨ws, seen', left', _, _, _, _, _, by omega, s7, hf7, hl7, see7, fl7, fun x hx hn => ?_, le7, rfl⟩
      rcases dn7 x hx hn with z | z
      · rw [z]
        exact al7
      · exact z
  · have hz : left = [] := by
      cases left with
      | nil => rfl
      | cons a as =>
        exfalso
        rw [List.length_cons] at lw
        omega
    subst hz
    have fe := flood_end (h := h) (w := w) fl dn
    obtain ⟨kvs, ek, mk⟩ := see4
    have lkv : kvs.length = seen.length := by
      have := congrArg List.length mk
      rw [List.length_map, List.length_map] at this
      exact this
    refine ⟨d, _, ek, trivial, fun od => ⟨_, rfl, d, od, rfl, .inr ⟨kvs, upd_same, fun D hD =>
      lc_it walk_keysT (fun j H' => Same (upd H4 d (.frz od (.dT kvs))) H' ∧ ∃ us, H' D = some (.lst us) ∧ us.length = ((seen.take j).filter fun x => decide (sd s x = ext s h w - 1)).length) ⟨same_new hD _, [], upd_same, rfl⟩ (fun _ H' _ ⟨s5, _⟩ => s5 _ _ upd_same)
        (fun j x H5 H6 hj ⟨s5, us, h5, lu⟩ ⟨e6, kk, vv, qq, ekv, ex, hq⟩ => ?_) (fun H5 ⟨s5, us, h5, lu⟩ => ?_)⟩⟩⟩
    · subst e6 ex
      obtain ⟨c, ec, ekc⟩ : ∃ c, seen[j]? = some c ∧ kk = keyOf c := by
        have e1 : (kvs.map (·.1))[j]? = some kk := by
          rw [List.getElem?_map, ekv]
          rfl
        rw [mk] at e1
        obtain ⟨c, ec, e2⟩ := map_get e1
        exact ⟨c, ec, e2.symm⟩
      subst ekc
      have hq' : H6 qq = some (.tup (cellV c)) := hq
      have eside : decide (V.str (txt [lt s]) = V.str (Str.ofString "w")) = s := by
        rw [Bool.eq_iff_iff, decide_eq_true_eq, hand_w]
      refine ⟨rfl, _, rfl, qq, _, _, _, rfl, rfl, SqT.of hq', atI_nat (j := 0) rfl, _, rfl, _, _, rfl, rfl, _, rfl, qq, _, _, _, rfl, rfl, SqT.of hq', atI_nat (j := 1) rfl, _, rfl, _, _, rfl, rfl, sz2, fun t ht => ?_⟩
      have st := same_new ht (.lst [V.int (c.1 - (h : Int)), V.int (c.2 - (w : Int))])
      have pick : atI [V.int (c.1 - (h : Int)), V.int (c.2 - (w : Int))] (if s = true then 1 else 0) = some (.int (sd s c - ext s h w)) := by cases s <;> rfl
      have lf := List.length_filter_le (fun x => decide (sd s x = ext s h w - 1)) (seen.take j)
      have lt2 := List.length_take_le' j seen
      refine ⟨_, rfl, rfl, .inr ⟨s, congrArg (fun b => [V.bl b]) eside, t, _, _, _, rfl, rfl, SqL.of upd_same, pick, _, rfl, rfl, _, rfl, ?_⟩⟩
      rw [take_snoc ec, List.filter_append]
      refine iteD (fun z => ?_) (fun z => ?_)
      · have z' := V.int.inj z
        refine ⟨_, rfl, us, st _ _ h5, sz_lt (by omega), same_mut (s5.trans st) hD, us ++ [.ref qq], upd_same, ?_⟩
        rw [List.length_append, List.length_append, lu, List.filter_cons, if_pos (decide_eq_true (by omega))]
        rfl
      · refine ⟨s5.trans st, us, st _ _ h5, ?_⟩
        rw [List.filter_cons, if_neg (by rw [decide_eq_true_eq]; exact fun y => z (congrArg V.int (by omega))), List.length_append, lu]
        rfl
    · refine ⟨s5 _ _ upd_same, ?_⟩
      rw [lkv, List.take_length] at lu
      have s6 : Same H (upd H5 d (.dT kvs)) := same_mut ((same_mut s4 hd).trans s5) hd
      have nDd : D ≠ d := fun z => by rw [z, upd_same] at hD; cases hD
      have h6 : upd H5 d (.dT kvs) D = some (.lst us) := by rw [upd_ne nDd]; exact h5
      have qq := q _ s6
      have ej : jB B s = decide (((us.length : Nat) : Int) > 0) := by
        rw [Bool.eq_iff_iff, jB_iff I, fe, decide_eq_true_eq, lu]
        constructor
        · rintro ⟨c, hc, e⟩
          have := List.length_pos_of_mem (List.mem_filter (p := fun x => decide (sd s x = ext s h w - 1)) |>.mpr ⟨hc, decide_eq_true e⟩)
          omega
        · intro hp
          obtain ⟨c, hc⟩ := List.exists_mem_of_length_pos (show 0 < _ by exact Int.ofNat_lt.mp hp)
          obtain ⟨a, b⟩ := List.mem_filter.mp hc
          exact ⟨c, a, of_decide_eq_true b⟩
      rw [ej] at qq
      exact ⟨_, rfl, D, us, rfl, .inl (SqL.of h6), _, _, rfl, rfl, qq⟩
end
end Sw
namespace Sw
open PySem PySem.Spec PyProof.Rows L2
section
variable {P : Program} {w : World} {K : PySem.W.Frag} {mg : Str → Option Value} {base : Heap}
/-! the road that the law goes -/
/-- the k-th cell of a hand's first shore -/
def shc (s : Bool) (k : Int) : Cell := if s then (k, 0) else (0, k)
def shn (h w : Nat) (s : Bool) : Nat := if s then h else w
theorem shore_len (h w : Nat) (s : Bool) : (shoreL h w s).length = shn h w s := by
  cases s <;> simp [shoreL, shn]
theorem shore_get {h w : Nat} {s : Bool} {k : Nat} (hk : k < shn h w s) : (shoreL h w s)[k]? = some (shc s k) := by
  cases s
  · have hk' : k < w := hk
    simp [shoreL, shc, hk']
  · have hk' : k < h := hk
    simp [shoreL, shc, hk']
def begT (B : Bd) (h w : Nat) (s : Bool) (k : Nat) : List Cell := ((shoreL h w s).take k).filter fun p => decide (cel B p = lt s)
theorem begT_all (B : Bd) (h w : Nat) (s : Bool) : begT B h w s (shn h w s) = begs B h w s := by
  unfold begT begs
  rw [← shore_len, List.take_length]
theorem begT_yes {B : Bd} {h w : Nat} {s : Bool} {k : Nat} (hk : k < shn h w s) (e : cel B (shc s k) = lt s) : begT B h w s (k + 1) = begT B h w s k ++ [shc s k] := by
  unfold begT
  rw [take_snoc (shore_get hk), List.filter_append, List.filter_cons, if_pos (decide_eq_true e)]
  rfl
theorem begT_no {B : Bd} {h w : Nat} {s : Bool} {k : Nat} (hk : k < shn h w s) (e : ¬ cel B (shc s k) = lt s) : begT B h w s (k + 1) = begT B h w s k := by
  unfold begT
  rw [take_snoc (shore_get hk), List.filter_append, List.filter_cons, if_neg (fun z => e (of_decide_eq_true z))]
  exact List.append_nil _
theorem begT_len (B : Bd) (h w : Nat) (s : Bool) (k : Nat) : (begT B h w s k).length ≤ k := by
  unfold begT
  exact Nat.le_trans (List.length_filter_le _ _) (List.length_take_le k _)
theorem begT_new {B : Bd} {h w : Nat} {s : Bool} {k : Nat} (hk : k < shn h w s) (e : cel B (shc s k) = lt s) : shc s k ∉ begT B h w s k := fun z => by
  have hn : (begT B h w s (k + 1)).Nodup := by
    have := begs_nodup B h w s
    refine List.Sublist.nodup ?_ this
    unfold begT begs
    exact (List.take_sublist _ _).filter _
  rw [begT_yes hk e] at hn
  have := (List.nodup_append.mp hn).2.2 _ z _ List.mem_cons_self
  exact this rfl
theorem shc_ins {h w : Nat} {s : Bool} {k : Nat} (h1 : 1 ≤ h) (w1 : 1 ≤ w) (hk : k < shn h w s) : Ins h w (shc s k) := by
  cases s
  · have hk' : k < w := hk
    exact ⟨by show (0 : Int) ≤ 0; omega, by show (0 : Int) < h; omega, by show (0 : Int) ≤ (k : Int); omega, by show (k : Int) < w; omega⟩
  · have hk' : k < h := hk
    exact ⟨by show (0 : Int) ≤ (k : Int); omega, by show (k : Int) < h; omega, by show (0 : Int) ≤ 0; omega, by show (0 : Int) < w; omega⟩
theorem near_shift2 (r c : Int) : near6 (r, c) = (near6 (0, 0)).map fun d : Cell => (r + d.1, c + d.2) := by
  show [(r - 1, c), (r - 1, c + 1), (r, c + 1), (r + 1, c), (r + 1, c - 1), (r, c - 1)] = [(r + (0 - 1), c + 0), (r + (0 - 1), c + (0 + 1)), (r + 0, c + (0 + 1)), (r + (0 + 1), c + 0), (r + (0 + 1), c + (0 - 1)), (r + 0, c + (0 - 1))]
  simp only [Int.zero_add, Int.add_zero, Int.zero_sub, Int.add_neg_one]
theorem shift_at2 {r c : Int} {j : Nat} {d : Cell} (h : (near6 (0, 0))[j]? = some d) : (near6 (r, c))[j]? = some (r + d.1, c + d.2) := by
  rw [near_shift2, List.getElem?_map, h]
  rfl
def sp__law_road : Sp := fun vs H Q _ => ∃ (l : Addr) (B : Bd) (h w : Nat) (s : Bool), vs = [.ref l, .str (txt [lt s])] ∧ H l = some (.lst (rowsV B)) ∧ IsB B h w ∧ ∀ v H', RoadIs H B h w s v H' → Q v H'
theorem ok__law_road (T : Top K mg) : FnOk P w K mg base CX0 1 T.a__law_road T.d__law_road ["rows", "hand"] sp__law_road := by
  refine T.F__law_road.ok sc__law_road (fun vs H Q E h => ?_) (fun cdv A outer s H vs Q E hr h => ?_)
  · obtain ⟨_, _, _, _, _, rfl, _⟩ := h
    rfl
  obtain ⟨l, B, h, w, s, rfl, hl, I, q⟩ := h
  have hu := hu_of hr
  refine ⟨_, (pss_cons (ps_set (i := 2) sc__law_road.nd rfl (Or.inl rfl) (pe_callTy call_int1 (by rfl) T.z_int (by decide +kernel) (pa_cons (pe_cmpR op_eq (pv 1) pe_str (nomark _)) pa_nil)))
      (pss_cons (ps_par (i := 7) (j := 8) (by rfl) sc__law_road.nd rfl rfl (by decide) rfl rfl (pa_cons (pe_callB call_len_seq (by rfl) T.z_len PySem.boot_len (pa_cons (pv 0) pa_nil)) (pa_cons (pe_callB call_len_str (by rfl) T.z_len PySem.boot_len (pa_cons (pe_ix ix_list (pv 0) pe_int (fun _ _ => rfl)) pa_nil)) pa_nil)) (by rfl))
      (pss_cons (ps_set (i := 3) sc__law_road.nd rfl (Or.inl rfl) (pe_lst pa_nil))
      (pss_cons (ps_set (i := 4) sc__law_road.nd rfl (Or.inl rfl) pe_dnewT)
      (pss_cons (ps_for PassesOwn.never rfl (pi_range1 rfl T.z_range (pa_cons (pe_ix ix_list (pe_lst (pa_cons (pv 8) (pa_cons (pv 7) pa_nil))) (pv 2) (fun _ _ => rfl)) pa_nil)) (pg_name (i := 5) sc__law_road.nd rfl (Or.inl rfl))
      (pss_cons (ps_set (i := 9) sc__law_road.nd rfl (Or.inl rfl) (pe_ix ix_list (pe_lst (pa_cons (pe_tup (pa_cons pe_int (pa_cons (pv 5) pa_nil))) (pa_cons (pe_tup (pa_cons (pv 5) (pa_cons pe_int pa_nil))) pa_nil))) (pv 2) (fun _ _ => rfl)))
      (pss_one (ps_if (pt_cmpR op_eq (pe_ix ix_str (pe_ix ix_list (pv 0) (pe_ix ix_tup (pv 9) pe_int (fun _ _ => rfl)) (fun _ _ => rfl)) (pe_ix ix_tup (pv 9) pe_int (fun _ _ => rfl)) (fun _ _ => rfl)) (pv 1) (nomark _))
      (pss_cons (ps_expr (pe_bm PySem.F.plainAttrs_list PySem.F.slot_list_append PySem.F.type_list_append mt_append (pv 3) (pa_cons (pe_lst (pa_cons (pv 9) pa_nil)) pa_nil)))
      (pss_one (ps_dput hu (pv 4) (pv 9) pe_bl rfl))) pss_nil))))
      (pss_cons (ps_set (i := 6) sc__law_road.nd rfl (Or.inl rfl) pe_int)
      (pss_cons (ps_while PassesOwn.never (pt_cmpR op_lt (pv 6) (pe_callB call_len_seq (by rfl) T.z_len PySem.boot_len (pa_cons (pv 3) pa_nil)) (nomark _))
      (pss_cons (ps_set (i := 10) sc__law_road.nd rfl (Or.inl rfl) (pe_ix ix_list (pe_ix ix_list (pv 3) (pv 6) (fun _ _ => rfl)) (pe_un un_neg pe_int) (fun _ _ => rfl)))
      (pss_cons (ps_if (pt_cmpR op_eq (pe_ix ix_tup (pv 10) (pv 2) (fun _ _ => rfl)) (pe_op op_sub (pe_ix ix_list (pe_lst (pa_cons (pv 7) (pa_cons (pv 8) pa_nil))) (pv 2) (fun _ _ => rfl)) pe_int) (nomark _))
      (pss_one (ps_ret (pe_ix ix_list (pv 3) (pv 6) (fun _ _ => rfl)))) pss_nil)
      (pss_cons (ps_for PassesOwn.never rfl (pi_list (pe_lst (pa_cons (pe_tup (pa_cons (pe_un un_neg pe_int) (pa_cons pe_int pa_nil))) (pa_cons (pe_tup (pa_cons (pe_un un_neg pe_int) (pa_cons pe_int pa_nil))) (pa_cons (pe_tup (pa_cons pe_int (pa_cons pe_int pa_nil))) (pa_cons (pe_tup (pa_cons pe_int (pa_cons pe_int pa_nil))) (pa_cons (pe_tup (pa_cons pe_int (pa_cons (pe_un un_neg pe_int) pa_nil))) (pa_cons (pe_tup (pa_cons pe_int (pa_cons (pe_un un_neg pe_int) pa_nil))) pa_nil)))))))) (pg_tup rfl (pgs_cons (pg_name (i := 11) sc__law_road.nd rfl (Or.inl rfl)) (pgs_cons (pg_name (i := 12) sc__law_road.nd rfl (Or.inl rfl)) pgs_nil)))
      (pss_cons (ps_set (i := 9) sc__law_road.nd rfl (Or.inl rfl) (pe_tup (pa_cons (pe_op op_add (pe_ix ix_tup (pv 10) pe_int (fun _ _ => rfl)) (pv 11)) (pa_cons (pe_op op_add (pe_ix ix_tup (pv 10) pe_int (fun _ _ => rfl)) (pv 12)) pa_nil))))
      (pss_cons (ps_set (i := 13) sc__law_road.nd rfl (Or.inl rfl) (pe_and (pe_chain op_le op_lt pe_int (pe_ix ix_tup (pv 9) pe_int (fun _ _ => rfl)) (pv 7)) (pe_one (pe_chain op_le op_lt pe_int (pe_ix ix_tup (pv 9) pe_int (fun _ _ => rfl)) (pv 8)))))
      (pss_one (ps_if (PW.pt (pw_and (pt_val (pv 13)) (pw_and (pt_cmp (pc_dnotin hu (pv 9) (pv 4))) (pw_and1 (pt_cmpR op_eq (pe_ix ix_str (pe_ix ix_list (pv 0) (pe_ix ix_tup (pv 9) pe_int (fun _ _ => rfl)) (fun _ _ => rfl)) (pe_ix ix_tup (pv 9) pe_int (fun _ _ => rfl)) (fun _ _ => rfl)) (pv 1) (nomark _))))))
      (pss_cons (ps_dput hu (pv 4) (pv 9) pe_bl rfl)
      (pss_one (ps_expr (pe_bm PySem.F.plainAttrs_list PySem.F.slot_list_append PySem.F.type_list_append mt_append (pv 3) (pa_cons (pe_op op_cat (pe_ix ix_list (pv 3) (pv 6) (fun _ _ => rfl)) (pe_lst (pa_cons (pv 9) pa_nil))) pa_nil))))) pss_nil)))))
      (pss_one (ps_set (i := 6) sc__law_road.nd rfl (Or.inl rfl) (pe_op op_add (pv 6) pe_int)))))))
      (pss_one (ps_ret pe_non))))))))), ?_⟩
  have h9 := I.h9
  have w9 := I.w9
  have h1 := I.h1
  have w1 := I.w1
  have ar := area I
  obtain ⟨r0, er0, lr0⟩ := I.row (i := 0) I.h1
  have eside : decide (V.str (txt [lt s]) = V.str (Str.ofString "w")) = s := by
    rw [Bool.eq_iff_iff, decide_eq_true_eq, hand_w]
  refine ⟨_, rfl, rfl, .inr ⟨s, congrArg (fun b => [V.bl b]) eside, ?_⟩⟩
  refine ⟨_, rfl, l, _, rfl, .inl (SqL.of hl), _, rfl, l, _, _, _, rfl, rfl, SqL.of hl, atI_nat (j := 0) (rowsV_get er0), _, rfl, sz_le (by rw [txt_len]; omega), _, _, rfl, ?_⟩
  rw [txt_len, lr0, rowsV_len, I.hh]
  refine ⟨sz0, fun D hD => ?_⟩
  have s1 := same_new hD (.lst [])
  have hD1 : upd H D (.lst []) D = some (.lst []) := upd_same
  revert s1 hD1
  generalize upd H D (.lst []) = H1
  intro s1 hD1
  refine fun d hd => ?_
  have sdd := same_new hd (.dT [])
  have nd : H d = none := s1.free hd
  have s2 := s1.trans sdd
  have hD2 := sdd _ _ hD1
  have see : Seen (upd H1 d (.dT [])) d [] := Seen.nil
  revert sdd s2 hD2 see
  generalize upd H1 d (.dT []) = H2
  intro sdd s2 hD2 see
  refine ⟨_, rfl, _, rfl, sz2, fun t0 ht0 => ?_⟩
  have st := same_new ht0 (.lst [V.int (w : Int), V.int (h : Int)])
  have ht1 : upd H2 t0 (.lst [V.int (w : Int), V.int (h : Int)]) t0 = some (.lst [V.int (w : Int), V.int (h : Int)]) := upd_same
  have s3 := s2.trans st
  have hD3 := st _ _ hD2
  have see3 := see.same st
  revert s3 hD3 see3 ht1
  generalize upd H2 t0 (.lst [V.int (w : Int), V.int (h : Int)]) = H3
  intro ht1 s3 hD3 see3
  have pick0 : atI [V.int (w : Int), V.int (h : Int)] (if s = true then 1 else 0) = some (.int ((shn h w s : Nat) : Int)) := by cases s <;> rfl
  have nle : shn h w s ≤ 9 := by cases s; exact w9; exact h9
  refine ⟨_, rfl, t0, _, _, _, rfl, rfl, SqL.of ht1, pick0, _, rfl, by omega, by omega,
    for_range (lo := 0) (n := shn h w s) (fun i σ H' => ∃ (ws : List V) (v1 v2 : Option V), Same H H' ∧ H' D = some (.lst ws) ∧ Ways H D H' ws ((begT B h w s i).map fun c => [c]) ∧ Seen H' d (begT B h w s i) ∧
      σ = [some (.ref l), some (.str (txt [lt s])), some (.int (if s = true then 1 else 0)), some (.ref D), some (.ref d), v1, none, some (.int h), some (.int w), v2, none, none, none, none])
      ⟨[], none, none, s3, hD3, .nil, see3, rfl⟩ ?_ ?_⟩
  · rintro i σ H4 hi ⟨ws, v1, v2, s4, hD4, hw4, see4, rfl⟩
    have lw := hw4.len
    have lb := begT_len B h w s i
    rw [List.length_map] at lw
    rw [show (0 : Int) + (i : Int) = i from Int.zero_add _]
    refine ⟨_, rfl, sz2, fun t1 g1 => ?_⟩
    refine ⟨_, rfl, sz2, fun t2 g2 => ?_⟩
    refine ⟨sz2, fun t3 g3 => ?_⟩
    have sA := same_new g1 (.tup [.int 0, .int (i : Int)])
    have sB := same_new g2 (.tup [.int (i : Int), .int 0])
    have sC := same_new g3 (.lst [.ref t1, .ref t2])
    have k3 : upd (upd (upd H4 t1 (.tup [.int 0, .int (i : Int)])) t2 (.tup [.int (i : Int), .int 0])) t3 (.lst [.ref t1, .ref t2]) t3 = some (.lst [.ref t1, .ref t2]) := upd_same
    have k2 := sC _ _ (upd_same (H := upd H4 t1 (.tup [.int 0, .int (i : Int)])) (a := t2) (o := .tup [.int (i : Int), .int 0]))
    have k1 := sC _ _ (sB _ _ (upd_same (H := H4) (a := t1) (o := .tup [.int 0, .int (i : Int)])))
    have sABC := (sA.trans sB).trans sC
    revert sABC k3 k2 k1
    generalize upd (upd (upd H4 t1 (.tup [.int 0, .int (i : Int)])) t2 (.tup [.int (i : Int), .int 0])) t3 (.lst [.ref t1, .ref t2]) = H5
    intro k3 k2 k1 sABC
    obtain ⟨tt, pick, htt⟩ : ∃ tt, atI [V.ref t1, V.ref t2] (if s = true then 1 else 0) = some (.ref tt) ∧ H5 tt = some (.tup (cellV (shc s i))) := by
      cases s
      · exact ⟨t1, rfl, k1⟩
      · exact ⟨t2, rfl, k2⟩
    have ins := shc_ins (h := h) (w := w) (s := s) (k := i) h1 w1 hi
    obtain ⟨row, er, mr, lr, ecel, _⟩ := I.at ins
    have s5 := s4.trans sABC
    have hD5 := sABC _ _ hD4
    have hw5 := hw4.same sABC
    have see5 := see4.same sABC
    refine ⟨_, rfl, t3, _, _, _, rfl, rfl, SqL.of k3, pick, ?_⟩
    refine gn ?_
    refine ⟨_, rfl, _, rfl, tt, _, _, _, rfl, rfl, SqT.of htt, atI_nat (j := 0) rfl, l, _, _, _, rfl, rfl, SqL.of (s5 _ _ hl), at_int ins.1 (rowsV_get er), _, rfl, tt, _, _, _, rfl, rfl, SqT.of htt, atI_nat (j := 1) rfl, _, _, _, rfl, rfl, sz_le (by rw [txt_len, lr]; omega), atI_cps ins.2.2.1 ecel, _, rfl, rfl, _, rfl, ?_⟩
    refine iteD (fun c1 => ?_) (fun c1 => ?_)
    · have c1' := sgn_eq.mp c1
      rw [begT_yes hi c1', List.map_append]
      refine ⟨_, rfl, .inl ⟨rfl, _, SqL.of hD5⟩, _, rfl, sz1, fun t ht => ?_⟩
      have st := same_new ht (.lst [V.ref tt])
      have nt : t ≠ D := fun z => by rw [z, hD5] at ht; cases ht
      refine ⟨D, ws, _, rfl, rfl, st _ _ hD5, sz_lt (by omega), ?_⟩
      have hw7 : Ways H D (upd (upd H5 t (.lst [V.ref tt])) D (.lst (ws ++ [.ref t]))) (ws ++ [.ref t]) ((begT B h w s i).map (fun c => [c]) ++ [shc s i].map fun c => [c]) := by
        refine (hw5.same st).updq (st _ _ hD5) |>.app (.one (vs := [.ref tt]) ?_ nt ?_ ?_)
        · exact s5.free ht
        · rw [upd_ne nt]
          exact upd_same
        · exact (Cells.one (st _ _ htt)).tps (.lst (st _ _ hD5))
      have s7 := same_mut (o := .lst (ws ++ [.ref t])) (s5.trans st) hD
      have hD7 : upd (upd H5 t (.lst [V.ref tt])) D (.lst (ws ++ [.ref t])) D = some (.lst (ws ++ [.ref t])) := upd_same
      have see7 := (see5.same st).updL (o := .lst (ws ++ [.ref t])) (st _ _ hD5)
      have htt7 : upd (upd H5 t (.lst [V.ref tt])) D (.lst (ws ++ [.ref t])) tt = some (.tup (cellV (shc s i))) := Tps.lst (st _ _ hD5) _ _ (st _ _ htt)
      revert hw7 s7 hD7 see7 htt7
      generalize upd (upd H5 t (.lst [V.ref tt])) D (.lst (ws ++ [.ref t])) = H7
      intro hw7 s7 hD7 see7 htt7
      obtain ⟨ys, put, see8, tp, xs0, hd7⟩ := see7.put (v := .bl true) htt7 (begT_new hi c1') (by omega)
      refine ⟨_, rfl, _, rfl, d, _, rfl, put, ?_⟩
      refine ⟨ws ++ [.ref t], _, _, same_mut s7 nd, ?_, hw7.updd hd7, see8, rfl⟩
      rw [upd_ne (ne_of hD7 hd7 (by intro z; cases z))]
      exact hD7
    · rw [begT_no hi (fun z => c1 (sgn_eq.mpr z))]
      exact ⟨ws, _, _, s5, hD5, hw5, see5, rfl⟩
  rintro σ H4 ⟨ws, v1, v2, s4, hD4, hw4, see4, rfl⟩
  rw [begT_all] at hw4 see4
  have bfl0 := bfs_start I s
  -- the search
  refine ⟨fun m σ H' => ∃ (n : Nat) (ws : List V) (css : List (List Cell)) (seen : List Cell) (v1 v2 v3 v4 v5 v6 : Option V), m = 81 - n ∧ n ≤ ws.length ∧ Same H H' ∧ H' D = some (.lst ws) ∧ Ways H D H' ws css ∧ Seen H' d seen ∧
    Bfs (cel B) s css seen ∧ DoneTo (cel B) h w s seen n ∧ σ = [some (.ref l), some (.str (txt [lt s])), some (.int (if s = true then 1 else 0)), some (.ref D), some (.ref d), v1, some (.int (n : Int)), some (.int h), some (.int w), v2, v3, v4, v5, v6],
    ⟨81, 0, ws, _, _, v1, v2, none, none, none, none, rfl, Nat.zero_le _, s4, hD4, hw4, see4, bfl0, (fun i c hi => absurd hi (Nat.not_lt_zero _)), rfl⟩, ?_⟩
  clear hw4 see4 hD4 s4
  rintro m σ H5 ⟨n, ws, css, seen, v1, v2, v3, v4, v5, v6, rfl, hn, s5, hD5, hw5, see5, bf, dn, rfl⟩
  have lw := hw5.len
  have ls := bf.len
  have bs := bf.bound I
  refine ⟨_, rfl, _, rfl, D, _, rfl, .inl (SqL.of hD5), _, _, rfl, rfl, _, rfl, iteD (fun hlt => ?_) (fun hge => ?_)⟩
  · refine ⟨fun σ' H' => ∃ (n' : Nat) (ws : List V) (css : List (List Cell)) (seen : List Cell) (v1 v2 v3 v4 v5 v6 : Option V), n' = n + 1 ∧ n' ≤ ws.length ∧ Same H H' ∧ H' D = some (.lst ws) ∧ Ways H D H' ws css ∧ Seen H' d seen ∧
      Bfs (cel B) s css seen ∧ DoneTo (cel B) h w s seen n' ∧ σ' = [some (.ref l), some (.str (txt [lt s])), some (.int (if s = true then 1 else 0)), some (.ref D), some (.ref d), v1, some (.int (n' : Int)), some (.int h), some (.int w), v2, v3, v4, v5, v6], ?_, ?_⟩
    · rintro σ' H' ⟨n', ws', css', seen', u1, u2, u3, u4, u5, u6, rfl, a1, a2⟩
      exact ⟨81 - (n + 1), by omega, n + 1, ws', css', seen', u1, u2, u3, u4, u5, u6, rfl, a1, a2⟩
    have hn' : n < ws.length := by omega
    obtain ⟨x, ex⟩ : ∃ x, ws[n]? = some x := ⟨_, List.getElem?_eq_getElem hn'⟩
    obtain ⟨a, us, cs, rfl, ecs, na, naD, ha, hc⟩ := hw5.get ex
    obtain ⟨c, esc, rd, sub⟩ := bf.way n cs ecs
    have lus := hc.len
    obtain ⟨bc, ebc, hbc⟩ := hc.at rd.get_last
    -- here
    refine ⟨_, rfl, _, rfl, D, _, _, _, rfl, rfl, SqL.of hD5, atI_nat ex, _, rfl, a, us, _, _, rfl, rfl, SqL.of ha, atI_last1 (by rw [lus]; exact ebc), ?_⟩
    -- at the end?
    have pk1 : atI (cellV c) (if s = true then 1 else 0) = some (.int (sd s c)) := by cases s <;> rfl
    refine ⟨_, rfl, _, rfl, bc, _, _, _, rfl, rfl, SqT.of hbc, pk1, _, rfl, _, rfl, sz2, fun t0 ht0 => ?_⟩
    have pk2 : atI [V.int (h : Int), V.int (w : Int)] (if s = true then 1 else 0) = some (.int (ext s h w)) := by cases s <;> rfl
    have s0 := same_new ht0 (.lst [V.int (h : Int), V.int (w : Int)])
    have ht1 : upd H5 t0 (.lst [V.int (h : Int), V.int (w : Int)]) t0 = some (.lst [V.int (h : Int), V.int (w : Int)]) := upd_same
    have s5' := s5.trans s0
    have hD5' := s0 _ _ hD5
    have hw5' := hw5.same s0
    have see5' := see5.same s0
    have hbc' := s0 _ _ hbc
    have ha' := s0 _ _ ha
    have hc' := hc.same s0
    clear hw5 see5 hbc ha hc
    clear hD5 s5
    revert s0 ht1 s5' hD5' hw5' see5' hbc' ha' hc'
    generalize upd H5 t0 (.lst [V.int (h : Int), V.int (w : Int)]) = H6
    intro s0 ht1 s5 hD5 hw5 see5 hbc ha hc
    refine ⟨_, rfl, t0, _, _, _, rfl, rfl, SqL.of ht1, pk2, _, _, rfl, rfl, rfl, _, rfl, iteD (fun ce => ?_) (fun ce => ?_)⟩
    · refine ⟨_, rfl, _, rfl, D, _, _, _, rfl, rfl, SqL.of hD5, atI_nat ex, ?_⟩
      exact q _ _ ⟨s5, .inr ⟨a, us, cs, rfl, na, ha, hc, c, rd, V.int.inj ce, bf.thin n cs ecs⟩⟩
    -- the six
    refine ⟨_, rfl, sz2, fun t1 g1 => ?_⟩
    refine ⟨_, rfl, sz2, fun t2 g2 => ?_⟩
    refine ⟨sz2, fun t3 g3 => ?_⟩
    refine ⟨sz2, fun t4 g4 => ?_⟩
    refine ⟨_, rfl, sz2, fun t5 g5 => ?_⟩
    refine ⟨_, rfl, sz2, fun t6 g6 => ?_⟩
    refine ⟨sz6, fun f hf => ?_⟩
    obtain ⟨_, fs, e6, nf, s6, hf6, cf6⟩ := new_six (H := H6) (r := 0) (c := 0) rfl rfl rfl rfl rfl rfl g1 g2 g3 g4 g5 g6 hf
    cases e6
    have nfD : f ≠ D := fun z => by rw [z, hD5] at nf; cases nf
    refine ⟨f, rfl, ⟨_, SqL.of hf6⟩, for_list (K := K) (a := f) (xs := fs) (fun j σ H' => ∃ (ws : List V) (css : List (List Cell)) (seen : List Cell) (v2 v4 v5 v6 : Option V), Same H H' ∧ H' f = some (.lst fs) ∧ Cells H' fs (near6 (0, 0)) ∧ H' D = some (.lst ws) ∧ Ways H D H' ws css ∧ Seen H' d seen ∧
      Bfs (cel B) s css seen ∧ DoneTo (cel B) h w s seen n ∧ ws[n]? = some (.ref a) ∧ css[n]? = some cs ∧ seen[n]? = some c ∧ (∀ x ∈ (near6 c).take j, cel B x = lt s → x ∈ seen) ∧ H' bc = some (.tup (cellV c)) ∧
      σ = [some (.ref l), some (.str (txt [lt s])), some (.int (if s = true then 1 else 0)), some (.ref D), some (.ref d), v1, some (.int (n : Int)), some (.int h), some (.int w), v2, some (.ref bc), v4, v5, v6])
      ⟨ws, css, seen, _, _, _, _, s5.trans s6, hf6, cf6, s6 _ _ hD5, hw5.same s6, see5.same s6, bf, dn, ex, ecs, esc, (fun x hx => nomatch hx), s6 _ _ hbc, rfl⟩ (fun i σ H' _ ⟨_, _, _, _, _, _, _, _, e, _⟩ => SqL.of e) ?_ ?_⟩
    · rintro j x σ H7 hj ⟨ws, css, seen, v2, v4, v5, v6, s7, hf7, cf7, hD7, hw7, see7, bf7, dn7, ex7, ecs7, esc7, al7, hb7, rfl⟩
      obtain ⟨g, e, rfl, ee, hg⟩ := cf7.get hj
      have ey : (near6 c)[j]? = some (c.1 + e.1, c.2 + e.2) := shift_at2 ee
      have yn := List.mem_of_getElem? ey
      have lw7 := hw7.len
      have ls7 := bf7.len
      have bs7 := bf7.bound I
      have nl7 : n < ws.length := (List.getElem?_eq_some_iff.mp ex7).1
      refine ⟨g, _, rfl, SqT.of hg, rfl, _, _, rfl, _, _, rfl, rfl, ?_⟩
      refine ⟨_, rfl, bc, _, _, _, rfl, rfl, SqT.of hb7, atI_nat (j := 0) rfl, _, rfl, _, _, rfl, rfl, _, rfl, bc, _, _, _, rfl, rfl, SqT.of hb7, atI_nat (j := 1) rfl, _, rfl, _, _, rfl, rfl, sz2, fun t ht => ?_⟩
      refine gn ?_
      show tSeq _ _ _ _ (upd H7 t (.tup [V.int (c.1 + e.1), V.int (c.2 + e.2)]))
      have st := same_new ht (.tup [V.int (c.1 + e.1), V.int (c.2 + e.2)])
      have ht8 : upd H7 t (.tup [V.int (c.1 + e.1), V.int (c.2 + e.2)]) t = some (.tup [V.int (c.1 + e.1), V.int (c.2 + e.2)]) := upd_same
      have s8 := s7.trans st
      have hf8 := st _ _ hf7
      have cf8 := cf7.same st
      have hD8 := st _ _ hD7
      have hw8 := hw7.same st
      have see8 := see7.same st
      have hb8 := st _ _ hb7
      clear hf7 cf7 hD7 hw7 see7 hb7 s7 hg
      revert st ht8 s8 hf8 cf8 hD8 hw8 see8 hb8
      generalize upd H7 t (.tup [V.int (c.1 + e.1), V.int (c.2 + e.2)]) = H8
      intro st ht8 s8 hf8 cf8 hD8 hw8 see8 hb8
      have ht9 : H8 t = some (.tup (cellV (c.1 + e.1, c.2 + e.2))) := ht8
      clear ht8
      have ht8 := ht9
      clear ht9
      generalize ey0 : ((c.1 + e.1, c.2 + e.2) : Cell) = y at *
      have stay : (cel B y = lt s → y ∈ seen) → ∀ u : Option V, ∃ (ws : List V) (css : List (List Cell)) (seen : List Cell) (v2 v4 v5 v6 : Option V), Same H H8 ∧ H8 f = some (.lst fs) ∧ Cells H8 fs (near6 (0, 0)) ∧ H8 D = some (.lst ws) ∧ Ways H D H8 ws css ∧ Seen H8 d seen ∧
        Bfs (cel B) s css seen ∧ DoneTo (cel B) h w s seen n ∧ ws[n]? = some (.ref a) ∧ css[n]? = some cs ∧ seen[n]? = some c ∧ (∀ x ∈ (near6 c).take (j + 1), cel B x = lt s → x ∈ seen) ∧ H8 bc = some (.tup (cellV c)) ∧
        [some (.ref l), some (.str (txt [lt s])), some (.int (if s = true then 1 else 0)), some (.ref D), some (.ref d), v1, some (.int (n : Int)), some (.int h), some (.int w), some (.ref t), some (.ref bc), some (.int e.1), some (.int e.2), u] =
        [some (.ref l), some (.str (txt [lt s])), some (.int (if s = true then 1 else 0)), some (.ref D), some (.ref d), v1, some (.int (n : Int)), some (.int h), some (.int w), v2, some (.ref bc), v4, v5, v6] := fun k u => by
        refine ⟨ws, css, seen, _, _, _, _, s8, hf8, cf8, hD8, hw8, see8, bf7, dn7, ex7, ecs7, esc7, fun x hx hs => ?_, hb8, rfl⟩
        rw [take_snoc ey] at hx
        rcases List.mem_append.mp hx with hx | hx
        · exact al7 x hx hs
        · rw [List.mem_singleton.mp hx] at hs ⊢
          exact k hs
      have off : ¬ Ins h w y → cel B y = lt s → y ∈ seen := fun z k => absurd (I.ins (by rw [k]; exact lt_ne s)) z
      refine ⟨_, rfl, t, _, _, _, rfl, rfl, SqT.of ht8, atI_nat (j := 0) rfl, _, _, rfl, rfl, _, rfl, ?_⟩
      refine iteD (fun a1 => ?_) (fun a1 => ?_)
      · refine ⟨_, rfl, _, _, rfl, rfl, _, rfl, ?_⟩
        refine iteD (fun a2 => ?_) (fun a2 => ?_)
        · refine ⟨_, rfl, t, _, _, _, rfl, rfl, SqT.of ht8, atI_nat (j := 1) rfl, _, _, rfl, rfl, _, rfl, ?_⟩
          refine iteD (fun a3 => ?_) (fun a3 => ?_)
          · refine ⟨_, rfl, _, _, rfl, rfl, ?_⟩
            refine gn ?_
            refine ⟨_, rfl, _, rfl, iteD (fun a4 => ?_) (fun a4 => stay (off fun z => a4 z.2.2.2) _)⟩
            have ins : Ins h w y := ⟨a1, a2, a3, a4⟩
            obtain ⟨o, og, eo⟩ := see8.get ht8
            refine ⟨_, rfl, _, rfl, d, o, rfl, og, ?_⟩
            rw [eo]
            refine ⟨_, rfl, iteN (fun c1 => ?_) (fun c1 => stay (fun _ => c1) _)⟩
            obtain ⟨row, er, mr, lr, ecel, _⟩ := I.at ins
            refine ⟨_, rfl, _, rfl, t, _, _, _, rfl, rfl, SqT.of ht8, atI_nat (j := 0) rfl, l, _, _, _, rfl, rfl, SqL.of (s8 _ _ hl), at_int ins.1 (rowsV_get er), _, rfl, t, _, _, _, rfl, rfl, SqT.of ht8, atI_nat (j := 1) rfl, _, _, _, rfl, rfl, sz_le (by rw [txt_len, lr]; omega), atI_cps ins.2.2.1 ecel, _, rfl, rfl, _, rfl, ?_⟩
            refine iteD (fun c3 => ?_) (fun c3 => stay (fun z => absurd (sgn_eq.mpr z) c3) _)
            have c3' := sgn_eq.mp c3
            clear stay off
            -- seen[cell] = True; ways.append(..)
            obtain ⟨ys, put, see9, tp9, xs0, hd8⟩ := see8.put (v := .bl true) ht8 c1 (by omega)
            refine ⟨_, rfl, _, rfl, d, _, rfl, put, ?_⟩
            have s9 := same_mut (o := .dT ys) s8 nd
            have hf9 : upd H8 d (.dT ys) f = some (.lst fs) := by
              rw [upd_ne (ne_of hf8 hd8 (by intro z; cases z))]
              exact hf8
            have hD9 : upd H8 d (.dT ys) D = some (.lst ws) := by
              rw [upd_ne (ne_of hD8 hd8 (by intro z; cases z))]
              exact hD8
            have cf9 := cf8.tps tp9
            have hw9 := hw8.updd (o := .dT ys) hd8
            have ht9 := tp9 _ _ ht8
            have hb9 := tp9 _ _ hb8
            clear hf8 hD8 cf8 hw8 ht8 hb8 see8 s8 st
            revert s9 hf9 hD9 cf9 hw9 see9 tp9 ht9 hb9
            generalize upd H8 d (.dT ys) = H9
            intro see9 tp9 s9 hf9 hD9 cf9 hw9 ht9 hb9
            obtain ⟨a', us9, cs', ea, ecs9, _, _, ha9, hc9⟩ := hw9.get ex7
            cases ea
            rw [ecs7] at ecs9
            cases ecs9
            have lus9 := hc9.len
            have lcs := rd.bound I
            refine ⟨_, rfl, .inl ⟨rfl, _, SqL.of hD9⟩, _, rfl, _, rfl, D, _, _, _, rfl, rfl, SqL.of hD9, atI_nat ex7, _, rfl, sz1, fun t7 ht7 => ?_⟩
            have st := same_new ht7 (.lst [V.ref t])
            refine ⟨a, t7, us9, [V.ref t], rfl, rfl, st _ _ ha9, upd_same, sz_le (by rw [List.length_singleton]; omega), fun r hr => ?_⟩
            have sr := st.trans (same_new hr (.lst (us9 ++ [V.ref t])))
            have hr9 : upd (upd H9 t7 (.lst [V.ref t])) r (.lst (us9 ++ [V.ref t])) r = some (.lst (us9 ++ [V.ref t])) := upd_same
            have nr : H9 r = none := st.free hr
            revert sr hr9
            generalize upd (upd H9 t7 (.lst [V.ref t])) r (.lst (us9 ++ [V.ref t])) = HA
            intro sr hr9
            have hDA := sr _ _ hD9
            have nrD : r ≠ D := fun z => by rw [z, hD9] at nr; cases nr
            refine ⟨D, ws, _, rfl, rfl, hDA, sz_lt (by omega), ?_⟩
            have bf9 := bf7.add dn7 ecs7 esc7 yn c3' c1
            have ls7' : n < seen.length := by omega
            have tpA : Tps HA (upd HA D (.lst (ws ++ [V.ref r]))) := .lst hDA
            refine ⟨ws ++ [.ref r], css ++ [cs ++ [y]], seen ++ [y], _, _, _, _, same_mut (s9.trans sr) hD, ?_, (cf9.same sr).tps tpA, upd_same, ((hw9.same sr).updq hDA).app (.one (vs := us9 ++ [V.ref t]) (s9.free nr) nrD ?_ ?_), ?_, bf9, dn7.mono (by omega), ?_, ?_, ?_, ?_, tpA _ _ (sr _ _ hb9), rfl⟩
            · rw [upd_ne nfD]
              exact sr _ _ hf9
            · rw [upd_ne nrD]
              exact hr9
            · exact (((hc9.same sr).app (.one (sr _ _ ht9)))).tps tpA
            · exact (see9.same sr).updL hDA
            · rw [List.getElem?_append_left nl7]
              exact ex7
            · rw [List.getElem?_append_left (by omega)]
              exact ecs7
            · rw [List.getElem?_append_left ls7']
              exact esc7
            · intro x hx hs
              rw [take_snoc ey] at hx
              rcases List.mem_append.mp hx with hx | hx
              · exact List.mem_append_left _ (al7 x hx hs)
              · exact List.mem_append_right _ hx
          · refine gn ?_
            exact ⟨_, rfl, _, rfl, iteF (stay (off fun z => a3 z.2.2.1) _)⟩
        · refine gn ?_
          exact ⟨_, rfl, _, rfl, iteF (stay (off fun z => a2 z.2.1) _)⟩
      · refine ⟨_, rfl, iteF ?_⟩
        refine gn ?_
        exact ⟨_, rfl, _, rfl, iteF (stay (off fun z => a1 z.1) _)⟩
    · rintro σ H7 ⟨ws, css, seen, v2, v4, v5, v6, s7, hf7, cf7, hD7, hw7, see7, bf7, dn7, ex7, ecs7, esc7, al7, hb7, rfl⟩
      have nl7 : n < ws.length := (List.getElem?_eq_some_iff.mp ex7).1
      refine ⟨_, rfl, _, _, rfl, rfl, n + 1, ws, css, seen, _, _, _, _, _, _, rfl, nl7, s7, hD7, hw7, see7, bf7, ?_, rfl⟩
      have lf := cf7.len
      rw [lf] at al7
      have al8 : ∀ x ∈ near6 c, cel B x = lt s → x ∈ seen := al7
      intro i x hi hx
      by_cases e : i < n
      · exact dn7 i x e hx
      · have : i = n := by omega
        subst this
        rw [esc7] at hx
        cases hx
        exact ⟨fun z => ce (congrArg V.int z), al8⟩
  · have e : n = seen.length := by omega
    subst e
    exact q _ _ ⟨s5, .inl ⟨rfl, dn.none bf.first⟩⟩
end
end Sw
namespace Sw
open PySem PySem.Spec PyProof.Rows L2
section
variable {P : Program} {w : World} {K : PySem.W.Frag} {mg : Str → Option Value} {base : Heap}
/-! a sign laid, the free cells, the open board -/
def sp__law_put : Sp := fun vs H Q _ => ∃ (l a : Addr) (B : Bd) (h w : Nat) (c : Cell) (x : Nat), vs = [.ref l, .ref a, .str (txt [x])] ∧ H l = some (.lst (rowsV B)) ∧ IsB B h w ∧ H a = some (.tup (cellV c)) ∧ Ins h w c ∧
  ∀ (l' : Addr) (H' : Hp), Same H H' → H l' = none → H' l' = some (.lst (rowsV (putB B c x))) → Q (.ref l') H'
theorem ok__law_put (T : Top K mg) : FnOk P w K mg base CX0 1 T.a__law_put T.d__law_put ["rows", "cell", "letter"] sp__law_put := by
  refine T.F__law_put.ok sc__law_put (fun vs H Q E h => ?_) (fun cdv A outer s H vs Q E hr h => ?_)
  · obtain ⟨_, _, _, _, _, _, _, rfl, _⟩ := h
    rfl
  obtain ⟨l, a, B, h, w, c, x, rfl, hl, I, ha, ins, q⟩ := h
  refine ⟨_, (pss_cons (ps_asg (pv 1) (pg_tup rfl (pgs_cons (pg_name (i := 4) sc__law_put.nd rfl (Or.inl rfl)) (pgs_cons (pg_name (i := 5) sc__law_put.nd rfl (Or.inl rfl)) pgs_nil))))
      (pss_cons (ps_set (i := 3) sc__law_put.nd rfl (Or.inl rfl) (pe_op op_add_str (pe_op op_add_str (pe_slice sl_str (pe_ix ix_list (pv 0) (pv 4) (fun _ _ => rfl)) po_none (po_some (pv 5))) (pv 2)) (pe_slice sl_str (pe_ix ix_list (pv 0) (pv 4) (fun _ _ => rfl)) (po_some (pe_op op_add (pv 5) pe_int)) po_none)))
      (pss_one (ps_ret (pe_op op_cat (pe_op op_cat (pe_slice sl_list (pv 0) po_none (po_some (pv 4))) (pe_lst (pa_cons (pv 3) pa_nil))) (pe_slice sl_list (pv 0) (po_some (pe_op op_add (pv 4) pe_int)) po_none)))))), ?_⟩
  obtain ⟨row, er, mr, lr, ec, _⟩ := I.at ins
  have z1 := ins.1
  have z2 := ins.2.1
  have z3 := ins.2.2.1
  have z4 := ins.2.2.2
  have h9 := I.h9
  have w9 := I.w9
  have hh := I.hh
  have ltr : (txt row).length = w := by rw [txt_len, lr]
  have atr : atI (rowsV B) c.1 = some (rowV row) := at_int z1 (rowsV_get er)
  refine ⟨_, rfl, a, _, rfl, SqT.of ha, rfl, _, _, rfl, _, _, rfl, rfl, ?_⟩
  refine ⟨_, rfl, _, rfl, l, _, _, _, rfl, rfl, SqL.of hl, atr, _, rfl, _, rfl, _, rfl, sz_le (by omega), ?_⟩
  rw [cutS_to z3 (by rw [lr]; omega)]
  refine ⟨_, rfl, _, _, rfl, rfl, ?_, _, rfl, _, rfl, l, _, _, _, rfl, rfl, SqL.of hl, atr, _, rfl, _, _, rfl, rfl, _, rfl, _, rfl, sz_le (by omega), ?_⟩
  · rw [txt_len, txt_len, List.length_take]
    exact sz_le (by show _ + 1 ≤ 1000000; omega)
  rw [cutS_from (by omega) (by rw [lr]; omega), txt_app]
  refine ⟨_, _, rfl, rfl, ?_, ?_⟩
  · rw [txt_len, txt_len, List.length_append, List.length_take, List.length_drop]
    exact sz_le (by show _ + 1 + _ ≤ 1000000; omega)
  have etx : row.take c.2.toNat ++ [x] ++ row.drop (c.2 + 1).toNat = row.set c.2.toNat x := by
    rw [show (c.2 + 1).toNat = c.2.toNat + 1 by omega]
    exact set_take_drop row c.2.toNat x (by omega)
  rw [txt_app, etx]
  refine gn ?_
  refine ⟨_, rfl, _, rfl, _, rfl, l, _, rfl, SqL.of hl, fun p1 h1 => ?_⟩
  have s1 := same_new h1 (.lst (cutV (rowsV B) none (some c.1)))
  have c1 := cutV_length (rowsV B) none (some c.1)
  have rl := rowsV_len B
  refine ⟨_, rfl, sz1, fun p2 h2 => ?_⟩
  have s2 := same_new h2 (.lst [V.str (txt (row.set c.2.toNat x))])
  refine ⟨p1, p2, _, _, rfl, rfl, s2 _ _ upd_same, upd_same, sz_le (by rw [List.length_singleton]; omega), fun p3 h3 => ?_⟩
  have s3 := same_new h3 (.lst (cutV (rowsV B) none (some c.1) ++ [V.str (txt (row.set c.2.toNat x))]))
  refine ⟨_, rfl, _, rfl, _, _, rfl, rfl, _, rfl, l, _, rfl, SqL.of (s3 _ _ (s2 _ _ (s1 _ _ hl))), fun p4 h4 => ?_⟩
  have s4 := same_new h4 (.lst (cutV (rowsV B) (some (c.1 + 1)) none))
  have c4 := cutV_length (rowsV B) (some (c.1 + 1)) none
  refine ⟨p3, p4, _, _, rfl, rfl, s4 _ _ upd_same, upd_same, sz_le (by rw [List.length_append, List.length_singleton]; omega), fun p5 h5 => ?_⟩
  have s5 := ((s1.trans s2).trans (s3.trans s4))
  refine q p5 _ (s5.trans (same_new h5 _)) (s5.free h5) ?_
  rw [upd_same, cutV_to z1 (by omega), cutV_from (by omega) (by omega)]
  have eset : (rowsV B).take c.1.toNat ++ [V.str (txt (row.set c.2.toNat x))] ++ (rowsV B).drop (c.1 + 1).toNat = rowsV (putB B c x) := by
    rw [show (c.1 + 1).toNat = c.1.toNat + 1 by omega, set_take_drop _ _ _ (by omega), putB_eq er]
    unfold rowsV
    rw [List.map_set]
    rfl
  rw [eset]
def sp__law_free : Sp := fun vs H Q _ => ∃ (l : Addr) (B : Bd) (h w : Nat), vs = [.ref l] ∧ H l = some (.lst (rowsV B)) ∧ IsB B h w ∧ ∀ v H', NewCells H (emptyL B) v H' → Q v H'
theorem ok__law_free (T : Top K mg) : FnOk P w K mg base CX0 1 T.a__law_free T.d__law_free ["rows"] sp__law_free := by
  refine T.F__law_free.ok sc__law_free (fun vs H Q E h => ?_) (fun cdv A outer s H vs Q E hr h => ?_)
  · obtain ⟨_, _, _, _, rfl, _⟩ := h
    rfl
  obtain ⟨l, B, h, w, rfl, hl, I, q⟩ := h
  refine ⟨_, (pss_cons (ps_set (i := 1) sc__law_free.nd rfl (Or.inl rfl) (pe_lst pa_nil))
      (pss_cons (ps_for PassesOwn.never rfl (pi_range1 rfl T.z_range (pa_cons (pe_callB call_len_seq (by rfl) T.z_len PySem.boot_len (pa_cons (pv 0) pa_nil)) pa_nil)) (pg_name (i := 2) sc__law_free.nd rfl (Or.inr rfl))
      (pss_one (ps_set (i := 1) sc__law_free.nd rfl (Or.inl rfl) (pe_op op_cat (pv 1) (pe_lc (own := [("c", 3)]) (g := gName 3) rfl sc__law_free.nd (pi_range1 rfl T.z_range (pa_cons (pe_callB call_len_str (by rfl) T.z_len PySem.boot_len (pa_cons (pe_ix ix_list (pv 0) (pv 2) (fun _ _ => rfl)) pa_nil)) pa_nil)) (blkOk_by (own := [("c", 3)]) (N := N__law_free) (sc := defScope s__law_free) (by decide +kernel)) (fun _ _ _ _ _ => (pg_name (i := 3) sc__law_free.nd rfl (Or.inl rfl))) (fun _ _ _ _ _ => pts_one (pt_cmpR op_eq (pe_ix ix_str (pe_ix (ix_listK (K := K) rfl) (pv 0) (pv 2) (fun _ _ => rfl)) (pv 3) (fun _ _ => rfl)) pe_str (nomark _))) (fun _ _ _ _ _ => (pe_tup (pa_cons (pv 2) (pa_cons (pv 3) pa_nil)))))))))
      (pss_one (ps_ret (pv 1))))), ?_⟩
  have h9' := I.h9
  have w9' := I.w9
  refine ⟨sz0, fun f0 hf0 => ?_⟩
  refine ⟨_, rfl, l, _, rfl, .inl (SqL.of (same_new hf0 _ _ _ hl)), ((h : Nat) : Int), by rw [rowsV_len, I.hh], by omega, by omega,
    for_range (lo := 0) (n := h) (fun i σ H' => Same H H' ∧ ∃ f ws, H f = none ∧ H' f = some (.lst ws) ∧ Cells H' ws (emptyTo B i) ∧ ∃ u1, σ = [some (.ref l), some (.ref f), u1, none]) ⟨same_new hf0 _, f0, [], hf0, upd_same, .nil, _, rfl⟩ ?_ ?_⟩
  · rintro i σ H7 hi ⟨s7, f, ws, nf, hf, hc, u1, rfl⟩
    have hl7 := s7 _ _ hl
    obtain ⟨row, ey, lrow⟩ := I.row hi
    have lc := hc.len
    have le := emptyTo_len I i (by omega)
    have lm : i * w ≤ 9 * 9 := Nat.mul_le_mul (by omega) w9'
    have ei : atI (rowsV B) (0 + (i : Int)) = some (rowV row) := at_int (by omega) (by rw [show ((0 : Int) + (i : Int)).toNat = i by omega]; exact rowsV_get ey)
    have ltr : (txt row).length = w := by rw [txt_len, lrow]
    refine ⟨_, rfl, _, rfl, _, rfl, l, _, _, _, rfl, rfl, SqL.of hl7, ei, _, rfl, sz_le (by omega), (w : Int), by rw [ltr], by omega, by omega, fun D hD =>
      lc_it walk_range (fun j H' => Same H7 H' ∧ ∃ ws2, H' D = some (.lst ws2) ∧ Cells H' ws2 (rowEt i row j)) ⟨same_new hD _, [], upd_same, .nil⟩ (fun _ _ _ _ => trivial)
        (fun j x H8 H9 hj ⟨s8, ws2, hD2, hc2⟩ ⟨e9, ex9⟩ => ?_) (fun H8 ⟨s8, ws2, hD2, hc2⟩ => ?_)⟩
    · subst e9 ex9
      have hjl : j < row.length := by
        have : j < (w : Int).toNat := hj
        omega
      have ec : row[((0 : Int) + (j : Int)).toNat]? = some (row.getD j 0) := by
        rw [show ((0 : Int) + (j : Int)).toNat = j by omega, List.getD_eq_getElem?_getD, List.getElem?_eq_getElem hjl]
        rfl
      have lw := hc2.len
      have lw2 := rowEt_len i row j
      refine ⟨rfl, _, rfl, _, rfl, l, _, _, _, rfl, rfl, SqL.of (s8 _ _ hl7), ei, _, rfl, _, _, _, rfl, rfl, sz_le (by omega), atI_cps (by omega) ec, rfl, _, rfl, iteD (fun z => ?_) (fun z => ?_)⟩
      · rw [s_dot] at z
        have ez : row.getD j 0 = 46 := sg_eq.mp z
        refine ⟨_, rfl, _, rfl, sz2, fun t2 ht2' => ?_⟩
        have s10 := same_new ht2' (.tup [.int (0 + (i : Int)), .int (0 + (j : Int))])
        have hD5 := s10 _ _ hD2
        refine ⟨ws2, hD5, sz_lt (by omega), same_mut (s8.trans s10) hD, ws2 ++ [.ref t2], upd_same, ?_⟩
        rw [rowEt_yes ez]
        refine ((hc2.same s10).app (.one ?_)).tps (.lst hD5)
        rw [upd_same]
        show some (HO.tup [.int (0 + (i : Int)), .int (0 + (j : Int))]) = some (HO.tup [.int (i : Int), .int (j : Int)])
        rw [Int.zero_add, Int.zero_add]
      · rw [s_dot] at z
        refine ⟨s8, ws2, hD2, ?_⟩
        rw [rowEt_no (fun e => z (by rw [e]; rfl))]
        exact hc2
    · have e1 : (w : Int).toNat = row.length := by omega
      rw [e1] at hc2
      have lw := hc2.len
      have lw2 := rowEt_len i row row.length
      refine ⟨f, D, ws, ws2, rfl, rfl, s8 _ _ hf, hD2, sz_le (by omega), fun f' hf' => ?_⟩
      have s9 := s8.trans (same_new hf' (.lst (ws ++ ws2)))
      refine ⟨s7.trans s9, f', ws ++ ws2, (s7.trans s8).free hf', upd_same, ?_, _, rfl⟩
      have eg : B.getD i [] = row := by
        rw [List.getD_eq_getElem?_getD, ey]
        rfl
      rw [emptyTo_succ, eg]
      exact (hc.same s9).app (hc2.same (same_new hf' _))
  · rintro σ H7 ⟨s7, f, ws, nf, hf, hc, u1, rfl⟩
    refine ⟨_, rfl, ?_⟩
    refine q _ _ ⟨f, ws, rfl, nf, s7, hf, ?_⟩
    unfold emptyL
    rw [I.hh]
    exact hc
/-! boards on which nobody is joined -/
theorem put46_is {B : Bd} {h w : Nat} (I : IsB B h w) (c : Cell) : IsB (putB B c 46) h w := putB_is I c (.inr (.inr rfl))
theorem put46_not {B : Bd} {h w : Nat} (I : IsB B h w) {c : Cell} (hc : Ins h w c) {s : Bool} (j : jB B s = false) : jB (putB B c 46) s = false := by
  rw [jB_not (put46_is I c)]
  rw [jB_not I] at j
  refine fun z => j (joined_more (fun q hq => ?_) z)
  rw [cel_put I hc] at hq
  by_cases e : q = c
  · rw [if_pos e] at hq
    exact absurd hq.symm (lt_ne46 s)
  · rw [if_neg e] at hq
    exact hq
theorem put46_len {B : Bd} {h w : Nat} (I : IsB B h w) {c : Cell} (hc : Ins h w c) (ne : cel B c ≠ 46) : (emptyL B).length + 1 ≤ (emptyL (putB B c 46)).length := by
  refine sub_len (l := c :: emptyL B) (List.nodup_cons.mpr ⟨fun z => ne (mem_emptyL.mp z), emptyL_nodup B⟩) (fun x hx => ?_)
  rw [mem_emptyL, cel_put I hc]
  rcases List.mem_cons.mp hx with rfl | hx
  · rw [if_pos rfl]
  · by_cases e : x = c
    · rw [if_pos e]
    · rw [if_neg e]
      exact mem_emptyL.mp hx
theorem all_empty {B : Bd} {h w : Nat} (I : IsB B h w) (hl : h * w ≤ (emptyL B).length) (s : Bool) : jB B s = false := by
  rw [jB_not I]
  rintro ⟨c, r, _⟩
  have e := r.sign
  have ne : cel B c ≠ 46 := by rw [e]; exact lt_ne46 s
  have ic : Ins h w c := I.ins (by rw [e]; exact lt_ne s)
  have := nodup_rect (h := h) (w := w) (l := c :: emptyL B) (List.nodup_cons.mpr ⟨fun z => ne (mem_emptyL.mp z), emptyL_nodup B⟩) (fun x hx => by
    rcases List.mem_cons.mp hx with rfl | hx
    · exact ic
    · exact empty_ins I hx)
  rw [List.length_cons] at this
  omega
def NoneJ (B : Bd) : Prop := ∀ s, jB B s = false
theorem NoneJ.put {B : Bd} {h w : Nat} (I : IsB B h w) {c : Cell} (hc : Ins h w c) (n : NoneJ B) : NoneJ (putB B c 46) := fun s => put46_not I hc (n s)
def sp__law_open_by (K : PySem.W.Frag) : Sp := fun vs H Q _ => ∃ (a : Addr) (ns : List Int) (most : Int), vs = [.ref a, .int most] ∧ SqL K H a (ns.map V.int) ∧ 1 ≤ most ∧ most ≤ 9 ∧
  ∀ (B : Bd) (h w : Nat) (p : Addr) (H' : Hp), Same H H' → H' p = some (.lst (rowsV B)) → IsB B h w → h ≤ most → w ≤ most → NoneJ B → Q (.ref p) H'
theorem ok__law_open_by (T : Top K mg) : FnOk P w K mg base CX0 3 T.a__law_open_by T.d__law_open_by ["script", "most"] (sp__law_open_by K) := by
  refine T.F__law_open_by.ok sc__law_open_by (fun vs H Q E h => ?_) (fun cdv A outer s H vs Q E hr h => ?_)
  · obtain ⟨_, _, _, rfl, _⟩ := h
    rfl
  obtain ⟨a, ns, most, rfl, hS, hm1, hm9, q⟩ := h
  refine ⟨_, (pss_cons (ps_asg (pe_call (ok__law_size_by T) (hr.mono (by decide)) rfl T.m__law_size_by T.F__law_size_by.kp T.B__law_size_by .nil pass0 (pa_cons (pv 0) (pa_cons (pv 1) pa_nil))) (pg_tup rfl (pgs_cons (pg_name (i := 7) sc__law_open_by.nd rfl (Or.inl rfl)) (pgs_cons (pg_name (i := 8) sc__law_open_by.nd rfl (Or.inl rfl)) pgs_nil))))
      (pss_cons (ps_set (i := 2) sc__law_open_by.nd rfl (Or.inl rfl) (pe_call (ok__law_rows_by T) (hr.mono (by decide)) rfl T.m__law_rows_by T.F__law_rows_by.kp T.B__law_rows_by .nil pass0 (pa_cons (pv 0) (pa_cons (pv 7) (pa_cons (pv 8) (pa_cons pe_bl pa_nil))))))
      (pss_cons (ps_set (i := 3) sc__law_open_by.nd rfl (Or.inl rfl) (pe_call (ok__law_cell_at T) (hr.mono (by decide)) rfl T.m__law_cell_at T.F__law_cell_at.kp T.B__law_cell_at .nil pass0 (pa_cons (pv 0) (pa_cons pe_int pa_nil))))
      (pss_cons (ps_for PassesOwn.never rfl (pi_range1 rfl T.z_range (pa_cons (pe_op op_mul (pv 7) (pv 8)) pa_nil)) (pg_name (i := 4) sc__law_open_by.nd rfl (Or.inl rfl))
      (pss_one (ps_for PassesOwn.never rfl (pi_list (pe_lst (pa_cons pe_str (pa_cons pe_str pa_nil)))) (pg_name (i := 9) sc__law_open_by.nd rfl (Or.inl rfl))
      (pss_cons (ps_set (i := 10) sc__law_open_by.nd rfl (Or.inl rfl) (pe_call (ok__law_road T) (hr.mono (by decide)) rfl T.m__law_road T.F__law_road.kp T.B__law_road .nil pass0 (pa_cons (pv 2) (pa_cons (pv 9) pa_nil))))
      (pss_one (ps_if (pt_cmpR op_notN (pv 10) pe_non (nomark _))
      (pss_one (ps_set (i := 2) sc__law_open_by.nd rfl (Or.inl rfl) (pe_call (ok__law_put T) (hr.mono (by decide)) rfl T.m__law_put T.F__law_put.kp T.B__law_put .nil pass0 (pa_cons (pv 2) (pa_cons (pe_ix ix_list (pv 10) (pe_call (ok__law_mix T) (hr.mono (by decide)) rfl T.m__law_mix T.F__law_mix.kp T.B__law_mix .nil pass0 (pa_cons (pv 3) (pa_cons (pv 4) (pa_cons (pe_callB call_len_seq (by rfl) T.z_len PySem.boot_len (pa_cons (pv 10) pa_nil)) pa_nil)))) (fun _ _ => rfl)) (pa_cons pe_str pa_nil)))))) pss_nil))))))
      (Evl.pss_cut (ps_set (i := 5) sc__law_open_by.nd rfl (Or.inl rfl) (pe_op op_mod (pe_call (ok__law_cell_at T) (hr.mono (by decide)) rfl T.m__law_cell_at T.F__law_cell_at.kp T.B__law_cell_at .nil pass0 (pa_cons (pv 0) (pa_cons pe_int pa_nil))) pe_int))
      (pss_cons (ps_for PassesOwn.never rfl (pi_range1 rfl T.z_range (pa_cons (pv 5) pa_nil)) (pg_name (i := 6) sc__law_open_by.nd rfl (Or.inl rfl))
      (pss_one (ps_if (pt_cmpR op_lt (pe_callB call_len_seq (by rfl) T.z_len PySem.boot_len (pa_cons (pe_call (ok__law_free T) (hr.mono (by decide)) rfl T.m__law_free T.F__law_free.kp T.B__law_free .nil pass0 (pa_cons (pv 2) pa_nil)) pa_nil)) pe_int (nomark _))
      (pss_cons (ps_set (i := 11) sc__law_open_by.nd rfl (Or.inl rfl) (pe_tup (pa_cons (pe_call (ok__law_mix T) (hr.mono (by decide)) rfl T.m__law_mix T.F__law_mix.kp T.B__law_mix .nil pass0 (pa_cons (pv 3) (pa_cons (pe_op op_add pe_int (pv 6)) (pa_cons (pv 7) pa_nil)))) (pa_cons (pe_call (ok__law_mix T) (hr.mono (by decide)) rfl T.m__law_mix T.F__law_mix.kp T.B__law_mix .nil pass0 (pa_cons (pv 3) (pa_cons (pe_op op_add pe_int (pv 6)) (pa_cons (pv 8) pa_nil)))) pa_nil))))
      (pss_one (ps_set (i := 2) sc__law_open_by.nd rfl (Or.inl rfl) (pe_call (ok__law_put T) (hr.mono (by decide)) rfl T.m__law_put T.F__law_put.kp T.B__law_put .nil pass0 (pa_cons (pv 2) (pa_cons (pv 11) (pa_cons pe_str pa_nil))))))) pss_nil)))
      (pss_one (ps_ret (pv 2))))))))), ?_⟩
  refine ⟨_, rfl, _, rfl, a, ns, most, rfl, hS, by omega, fun h w t H1 h1 h9 w1 w9 s1 ht => ?_⟩
  obtain ⟨h, rfl⟩ : ∃ n : Nat, h = (n : Int) := ⟨h.toNat, by omega⟩
  obtain ⟨w, rfl⟩ : ∃ n : Nat, w = (n : Int) := ⟨w.toNat, by omega⟩
  refine ⟨t, _, rfl, SqT.of ht, rfl, _, _, rfl, _, _, rfl, rfl, ?_⟩
  have hS1 := s1.seq hS
  refine ⟨_, rfl, _, rfl, _, rfl, a, ns, h, w, _, rfl, hS1, by omega, by omega, by omega, by omega, fun B0 l0 H2 s2 nl hl0 I0 _ => ?_⟩
  have hS2 := s2.seq hS1
  refine ⟨_, rfl, a, ns, 12, rfl, hS2, by decide, ?_⟩
  have hw81 : h * w ≤ 81 := area I0
  have hI : ((h : Int) * (w : Int)) = ((h * w : Nat) : Int) := (Int.natCast_mul h w).symm
  refine ⟨_, rfl, _, rfl, _, _, rfl, rfl, ?_, ?_⟩
  · exact .inl ⟨by omega, by omega⟩
  refine ⟨((h * w : Nat) : Int), congrArg (fun z => [V.int z]) hI, by omega, by omega,
    for_range (lo := 0) (n := h * w) (fun i σ H' => ∃ (l : Addr) (B : Bd) (v1 v2 v3 : Option V), Same H2 H' ∧ H' l = some (.lst (rowsV B)) ∧ IsB B h w ∧ (NoneJ B ∨ i ≤ (emptyL B).length) ∧
      σ = [some (.ref a), some (.int most), some (.ref l), some (.int (sAt ns 12)), v1, none, none, some (.int h), some (.int w), v2, v3, none]) ⟨l0, B0, none, none, none, .refl _, hl0, I0, .inr (Nat.zero_le _), rfl⟩ ?_ ?_⟩
  · rintro i σ H3 hi ⟨l, B, v1, v2, v3, s3, hl, I, k, rfl⟩
    refine ⟨sz2, fun f hf => ?_⟩
    have sf := same_new hf (.lst [V.str (Str.ofString "n"), V.str (Str.ofString "w")])
    have hfu : upd H3 f (.lst [V.str (Str.ofString "n"), V.str (Str.ofString "w")]) f = some (.lst ([false, true].map fun s => V.str (txt [lt s]))) := by
      rw [upd_same, s_n, s_w]
      rfl
    revert sf hfu
    generalize upd H3 f (.lst [V.str (Str.ofString "n"), V.str (Str.ofString "w")]) = H4
    intro sf hfu
    refine ⟨f, rfl, ⟨_, SqL.of hfu⟩, for_list (K := K) (a := f) (xs := [false, true].map fun s => V.str (txt [lt s])) (fun j σ H' => ∃ (l : Addr) (B : Bd) (v2 v3 : Option V), Same H4 H' ∧ H' l = some (.lst (rowsV B)) ∧ IsB B h w ∧
      (NoneJ B ∨ i + 1 ≤ (emptyL B).length ∨ (i ≤ (emptyL B).length ∧ ∀ s' ∈ [false, true].take j, jB B s' = false)) ∧
      σ = [some (.ref a), some (.int most), some (.ref l), some (.int (sAt ns 12)), some (.int ((0 : Int) + (i : Int))), none, none, some (.int h), some (.int w), v2, v3, none])
      ⟨l, B, v2, v3, .refl _, sf _ _ hl, I, k.elim .inl (fun z => .inr (.inr ⟨z, fun s' hs => nomatch hs⟩)), rfl⟩ (fun j σ H' _ ⟨_, _, _, _, e, _⟩ => SqL.of (e _ _ hfu)) ?_ ?_⟩
    · clear k hl I
      rintro j x σ H5 hj ⟨l, B, v2, v3, s5, hl, I, k, rfl⟩
      obtain ⟨s', es, rfl⟩ := map_get hj
      have tk : [false, true].take (j + 1) = [false, true].take j ++ [s'] := take_snoc es
      refine ⟨_, rfl, _, rfl, l, B, h, w, s', rfl, hl, I, fun v H6 ⟨s6, hv⟩ => ?_⟩
      rcases hv with ⟨rfl, nj⟩ | ⟨p, ws, cs, rfl, np, hp, hc, ro⟩
      · have nj' := (jB_not I s').mpr nj
        refine ⟨_, rfl, rfl, _, rfl, iteN (fun z => absurd rfl z) (fun _ => ⟨l, B, _, _, s5.trans s6, s6 _ _ hl, I, ?_, rfl⟩)⟩
        rcases k with k | k | ⟨k1, k2⟩
        · exact .inl k
        · exact .inr (.inl k)
        · refine .inr (.inr ⟨k1, fun s2 h2 => ?_⟩)
          rw [tk] at h2
          rcases List.mem_append.mp h2 with h2 | h2
          · exact k2 s2 h2
          · rw [List.mem_singleton.mp h2]
            exact nj'
      · have lw := hc.len
        have rb := ro.bound I
        obtain ⟨ce, rd, _, _⟩ := id ro
        have rp := rd.pos
        refine ⟨_, rfl, rfl, _, rfl, iteN (fun _ => ?_) (fun z => by cases z)⟩
        refine ⟨_, rfl, _, rfl, _, rfl, _, rfl, _, rfl, p, ws, rfl, .inl (SqL.of hp), _, _, _, rfl, by omega, by omega, by omega, fun m H7 s7 m0 m1 => ?_⟩
        have hm : m.toNat < ws.length := by omega
        obtain ⟨y, ey⟩ : ∃ y, ws[m.toNat]? = some y := ⟨_, List.getElem?_eq_getElem hm⟩
        obtain ⟨b, c, rfl, ec, hb⟩ := (hc.same s7).get ey
        have sg := rd.signs c (List.mem_of_getElem? ec)
        have ic : Ins h w c := I.ins (by rw [sg]; exact lt_ne s')
        refine ⟨p, ws, _, _, rfl, rfl, SqL.of (s7 _ _ hp), at_int m0 ey, ?_⟩
        refine ⟨l, b, B, h, w, c, 46, congrArg (fun z => [V.ref l, V.ref b, V.str z]) s_dot, s7 _ _ (s6 _ _ hl), I, hb, ic, fun l' H8 s8 nl' hl' => ?_⟩
        have ln := put46_len I ic (by rw [sg]; exact lt_ne46 s')
        refine ⟨l', _, _, _, (s5.trans s6).trans (s7.trans s8), hl', put46_is I c, ?_, rfl⟩
        rcases k with k | k | ⟨k1, _⟩
        · exact .inl (k.put I ic)
        · exact .inr (.inl (by omega))
        · exact .inr (.inl (by omega))
    · rintro σ H5 ⟨l, B, v2, v3, s5, hl, I, k, rfl⟩
      refine ⟨l, B, _, _, _, s3.trans (sf.trans s5), hl, I, ?_, rfl⟩
      rcases k with k | k | ⟨_, k⟩
      · exact .inl k
      · exact .inr k
      · refine .inl fun s' => k s' ?_
        cases s'
        · exact List.mem_cons_self
        · exact List.mem_cons_of_mem _ List.mem_cons_self
  · rintro σ H3 ⟨l, B, v1, v2, v3, s3, hl, I, k, rfl⟩
    have nj : NoneJ B := by
      rcases k with k | k
      · exact k
      · exact all_empty I k
    clear k
    refine ⟨fun σ' H' => ∃ k : Int, 0 ≤ k ∧ k < 3 ∧ Same H3 H' ∧ σ' = [some (.ref a), some (.int most), some (.ref l), some (.int (sAt ns 12)), v1, some (.int k), none, some (.int h), some (.int w), v2, v3, none], ?_, ?_⟩
    · refine ⟨_, rfl, a, ns, 13, rfl, s3.seq hS2, by decide, _, _, rfl, rfl, (show (0 : Int) < 3 by decide), ?_⟩
      exact ⟨_, Int.emod_nonneg (sAt ns 13) (show (3 : Int) ≠ 0 by decide), Int.emod_lt_of_pos (sAt ns 13) (show (0 : Int) < 3 by decide), .refl _, rfl⟩
    rintro σ H4 ⟨km, k0, k3, s4, rfl⟩
    refine ⟨_, rfl, km, rfl, by omega, by omega, for_range (lo := 0) (n := km.toNat) (fun i σ H' => ∃ (l : Addr) (B : Bd) (v6 v11 : Option V), Same H2 H' ∧ H' l = some (.lst (rowsV B)) ∧ IsB B h w ∧ NoneJ B ∧
      σ = [some (.ref a), some (.int most), some (.ref l), some (.int (sAt ns 12)), v1, some (.int km), v6, some (.int h), some (.int w), v2, v3, v11])
      ⟨l, B, _, _, s3.trans s4, s4 _ _ hl, I, nj, rfl⟩ ?_ ?_⟩
    · clear hl I nj
      rintro i σ H5 hi ⟨l, B, v6, v11, s5, hl, I, nj, rfl⟩
      refine ⟨_, rfl, l, B, h, w, rfl, hl, I, fun v H6 ⟨f, ws, ev, nf, s6, hf, hc⟩ => ?_⟩
      subst ev
      refine ⟨f, ws, rfl, .inl (SqL.of hf), _, _, rfl, rfl, _, rfl, iteD (fun _ => ?_) (fun _ => ⟨l, B, _, _, s5.trans s6, s6 _ _ hl, I, nj, rfl⟩)⟩
      refine ⟨_, rfl, _, rfl, _, _, rfl, rfl, _, rfl, _, _, _, rfl, by omega, by omega, by omega, fun m1 H7 s7 a1 b1 => ?_⟩
      refine ⟨_, rfl, _, rfl, _, _, rfl, rfl, _, rfl, _, _, _, rfl, by omega, by omega, by omega, fun m2 H8 s8 a2 b2 => ?_⟩
      refine ⟨sz2, fun t ht => ?_⟩
      have st := same_new ht (.tup [.int m1, .int m2])
      have s58 := ((s6.trans s7).trans (s8.trans st))
      have ins : Ins h w (m1, m2) := ⟨a1, b1, a2, b2⟩
      refine ⟨_, rfl, _, rfl, l, t, B, h, w, (m1, m2), 46, congrArg (fun z => [V.ref l, V.ref t, V.str z]) s_dot, s58 _ _ hl, I, upd_same, ins, fun l' H9 s9 nl' hl' => ?_⟩
      exact ⟨l', _, _, _, s5.trans (s58.trans s9), hl', put46_is I _, nj.put I ins, rfl⟩
    · rintro σ H5 ⟨l, B, v6, v11, s5, hl, I, nj, rfl⟩
      refine ⟨_, rfl, ?_⟩
      exact q B h w l _ (s1.trans (s2.trans s5)) hl I (by omega) (by omega) nj
end
end Sw
namespace Sw
open PySem PySem.Spec PyProof.Rows L2
section
variable {P : Program} {w : World} {K : PySem.W.Frag} {mg : Str → Option Value} {base : Heap}
/-! the play of the winner by told replies -/
/-- s can win, t is to lay, or s is joined already -/
def Holds (B : Bd) (s t : Bool) : Prop := jB B (!s) = false ∧ (jB B s = true ∨ (t = s ∧ wins B s = true) ∨ (t = !s ∧ wins B (!s) = false))
theorem not_full {B : Bd} {h w : Nat} (I : IsB B h w) {s : Bool} (a : jB B s = false) (b : jB B (!s) = false) : emptyL B ≠ [] := fun e => by
  have fl : ∀ p, cel B p ≠ 46 := fun p hp => by
    have := mem_emptyL.mpr hp
    rw [e] at this
    cases this
  have := jB_full I fl s
  rw [a, b] at this
  cases this
theorem wins_some {B : Bd} {h w : Nat} (I : IsB B h w) {s : Bool} (e : wins B s = true) : (emptyL B).filter (winsBy B s) ≠ [] := fun z => by
  rw [wins_eq I s] at e
  obtain ⟨c, hc, hw⟩ := List.any_eq_true.mp e
  have := List.mem_filter.mpr ⟨hc, hw⟩
  rw [z] at this
  cases this
/-- a told reply keeps it -/
theorem Holds.told {B : Bd} {h w : Nat} (I : IsB B h w) {s : Bool} {c : Cell} (hs : jB B (!s) = false) (hc : c ∈ (emptyL B).filter (winsBy B s)) : Holds (putB B c (lt s)) s (!s) := by
  obtain ⟨cm, wb⟩ := List.mem_filter.mp hc
  have ins := empty_ins I cm
  refine ⟨?_, ?_⟩
  · cases e : jB (putB B c (lt s)) (!s) with
    | false => rfl
    | true =>
      rw [jB_put_oth I ins e] at hs
      cases hs
  · unfold winsBy at wb
    cases e : jB (putB B c (lt s)) s with
    | true => exact .inl rfl
    | false =>
      rw [e] at wb
      refine .inr (.inr ⟨rfl, ?_⟩)
      cases e2 : wins (putB B c (lt s)) (!s) with
      | false => rfl
      | true =>
        rw [e2] at wb
        cases wb
/-- any stone of the other one keeps it -/
theorem Holds.other {B : Bd} {h w : Nat} (I : IsB B h w) {s : Bool} {c : Cell} (hw : wins B (!s) = false) (cm : c ∈ emptyL B) : Holds (putB B c (lt (!s))) s s := by
  have nb : winsBy B (!s) c = false := by
    cases e : winsBy B (!s) c with
    | false => rfl
    | true =>
      rw [wins_eq I (!s), List.any_eq_true.mpr ⟨c, cm, e⟩] at hw
      cases hw
  unfold winsBy at nb
  rw [Bool.not_not, Bool.or_eq_false_iff] at nb
  refine ⟨nb.1, .inr (.inl ⟨rfl, ?_⟩)⟩
  have := nb.2
  cases e : wins (putB B c (lt (!s))) s with
  | true => rfl
  | false =>
    rw [e] at this
    cases this
theorem kit_ll {K : PySem.W.Frag} : PySem.W.kitOne K (.type "list") (.type "list") = some true := kit_ty (by decide +kernel)
def sp__law_played : Sp := fun vs H Q _ => ∃ (l : Addr) (B : Bd) (h w : Nat) (s t : Bool) (cell : Int), vs = [.ref l, .str (txt [lt s]), .str (txt [lt t]), .int cell] ∧ H l = some (.lst (rowsV B)) ∧ IsB B h w ∧ (emptyL B).length ≤ 6 ∧ Holds B s t ∧ ∀ H', Same H H' → Q (.bl true) H'
theorem ok__law_played (T : Top K mg) : FnOk P w K mg base CX0 20 T.a__law_played T.d__law_played ["rows", "hand", "turn", "cell"] sp__law_played := by
  refine T.F__law_played.ok sc__law_played (fun vs H Q E h => ?_) (fun cdv A outer s H vs Q E hr h => ?_)
  · obtain ⟨_, _, _, _, _, _, _, rfl, _⟩ := h
    rfl
  obtain ⟨l, B, h, wd, s, t, cell, rfl, hl, I, le, ho, q⟩ := h
  refine ⟨_, (pss_cons (ps_set (i := 4) sc__law_played.nd rfl (Or.inl rfl) (pe_ix ix_list (pe_lst (pa_cons pe_str (pa_cons pe_str pa_nil))) (pe_callTy call_int1 (by rfl) T.z_int (by decide +kernel) (pa_cons (pe_cmpR op_eq (pv 1) pe_str (nomark _)) pa_nil)) (fun _ _ => rfl)))
      (pss_cons (ps_for PassesOwn.never rfl (pi_range1 rfl T.z_range (pa_cons pe_int pa_nil)) (pg_name (i := 5) sc__law_played.nd rfl (Or.inl rfl))
      (pss_cons (ps_set (i := 6) sc__law_played.nd rfl (Or.inl rfl) (pe_call (ok__law_free T) (hr.mono (by decide)) rfl T.m__law_free T.F__law_free.kp T.B__law_free .nil pass0 (pa_cons (pv 0) pa_nil)))
      (pss_cons (ps_if (pt_val (pe_call (ok__law_flood T) (hr.mono (by decide)) rfl T.m__law_flood T.F__law_flood.kp T.B__law_flood .nil pass0 (pa_cons (pv 0) (pa_cons (pv 1) pa_nil))))
      (pss_one (ps_ret pe_bl)) pss_nil)
      (pss_cons (ps_if (PW.pt (pw_or (pt_cmpR op_eq (pe_callB call_len_seq (by rfl) T.z_len PySem.boot_len (pa_cons (pv 6) pa_nil)) pe_int (nomark _)) (pw_or1 (pt_val (pe_call (ok__law_flood T) (hr.mono (by decide)) rfl T.m__law_flood T.F__law_flood.kp T.B__law_flood .nil pass0 (pa_cons (pv 0) (pa_cons (pv 4) pa_nil)))))))
      (pss_one (ps_ret pe_bl)) pss_nil)
      (Evl.pss_cut (ps_if (pt_cmpR op_eq (pv 2) (pv 1) (nomark _))
      (pss_cons (ps_set (i := 7) sc__law_played.nd rfl (Or.inl rfl) (pe_call (ok_replies T) (hr.mono (by decide)) rfl T.m_replies T.F_replies.kp T.B_replies .nil passL (pa_cons (pe_make T.Mk_Board (ok_Board_init T) (hr.mono (by decide)) (by rfl) T.mC_Board T.B_Board___init__ .nil passL (pa_cons (pe_callTy call_list_of (by rfl) T.z_list (by decide +kernel) (pa_cons (pv 0) pa_nil)) pa_nil)) (pa_cons (pv 1) pa_nil))))
      (pss_cons (ps_if (PW.pt (pw_or (pt_not (pt_val (pe_callB call_isi (by rfl) T.z_isinstance (by decide +kernel) (pa_cons (pv 7) (pa_cons (pe_bltn (v := .ty "list") (u := .type "list") (by rfl) T.z_list (by decide +kernel) rfl) pa_nil))))) (pw_or (pt_cmpR op_eq (pe_callB call_len_seq (by rfl) T.z_len PySem.boot_len (pa_cons (pv 7) pa_nil)) pe_int (nomark _)) (pw_or (pt_cmpR (op_notInD (hu65 hr)) (pe_ix ix_list (pv 7) pe_int (fun _ _ => rfl)) (pv 6) (by rfl)) (pw_or1 (pt_cmpR (op_notInD (hu65 hr)) (pe_ix ix_list (pv 7) (pe_un un_neg pe_int) (fun _ _ => rfl)) (pv 6) (by rfl)))))))
      (pss_one (ps_ret pe_bl)) pss_nil)
      (pss_one (ps_set (i := 0) sc__law_played.nd rfl (Or.inl rfl) (pe_call (ok__law_put T) (hr.mono (by decide)) rfl T.m__law_put T.F__law_put.kp T.B__law_put .nil pass0 (pa_cons (pv 0) (pa_cons (pe_ix ix_list (pv 7) (pe_ix ix_list (pe_lst (pa_cons pe_int (pa_cons (pe_un un_neg pe_int) pa_nil))) (pe_op op_mod (pv 3) pe_int) (fun _ _ => rfl)) (fun _ _ => rfl)) (pa_cons (pv 1) pa_nil)))))))) (pss_one (ps_set (i := 0) sc__law_played.nd rfl (Or.inl rfl) (pe_call (ok__law_put T) (hr.mono (by decide)) rfl T.m__law_put T.F__law_put.kp T.B__law_put .nil pass0 (pa_cons (pv 0) (pa_cons (pe_ix ix_list (pv 6) (pe_call (ok__law_mix T) (hr.mono (by decide)) rfl T.m__law_mix T.F__law_mix.kp T.B__law_mix .nil pass0 (pa_cons (pv 3) (pa_cons (pv 5) (pa_cons (pe_callB call_len_seq (by rfl) T.z_len PySem.boot_len (pa_cons (pv 6) pa_nil)) pa_nil)))) (fun _ _ => rfl)) (pa_cons (pv 4) pa_nil)))))))
      (pss_one (ps_set (i := 2) sc__law_played.nd rfl (Or.inl rfl) (pe_ix ix_list (pe_lst (pa_cons pe_str (pa_cons pe_str pa_nil))) (pe_callTy call_int1 (by rfl) T.z_int (by decide +kernel) (pa_cons (pe_cmpR op_eq (pv 2) pe_str (nomark _)) pa_nil)) (fun _ _ => rfl)))))))))
      (pss_one (ps_ret pe_bl)))), ?_⟩
  have eside : ∀ t : Bool, decide (V.str (txt [lt t]) = V.str (Str.ofString "n")) = !t := fun t => by
    rw [Bool.eq_iff_iff, decide_eq_true_eq, hand_n]
    cases t <;> simp
  have pick : ∀ t : Bool, atI [V.str (Str.ofString "n"), V.str (Str.ofString "w")] (if (!t) = true then 1 else 0) = some (.str (txt [lt (!t)])) := fun t => by
    rw [s_n, s_w]
    cases t <;> rfl
  refine ⟨sz2, fun t0 g0 => ?_⟩
  have s0 := same_new g0 (.lst [V.str (Str.ofString "n"), V.str (Str.ofString "w")])
  refine ⟨_, rfl, rfl, .inr ⟨!s, congrArg (fun b => [V.bl b]) (eside s), t0, _, _, _, rfl, rfl, SqL.of upd_same, pick s, ?_⟩⟩
  refine gn ?_
  revert s0
  generalize upd H t0 (.lst [V.str (Str.ofString "n"), V.str (Str.ofString "w")]) = H1
  intro s0
  refine ⟨7, rfl, by decide, by decide, for_range (lo := 0) (n := 7) (fun i σ H' => ∃ (l : Addr) (B : Bd) (t : Bool) (v5 v6 v7 : Option V), Same H H' ∧ H' l = some (.lst (rowsV B)) ∧ IsB B h wd ∧ (emptyL B).length + i ≤ 6 ∧ Holds B s t ∧
    σ = [some (.ref l), some (.str (txt [lt s])), some (.str (txt [lt t])), some (.int cell), some (.str (txt [lt (!s)])), v5, v6, v7])
    ⟨l, B, t, _, _, _, s0, s0 _ _ hl, I, le, ho, rfl⟩ ?_ ?_⟩
  · clear hl I le ho
    rintro i σ H2 hi ⟨l, B, t, v5, v6, v7, s2, hl, I, le, ho, rfl⟩
    refine ⟨_, rfl, l, B, h, wd, rfl, hl, I, fun v H3 ⟨f, ws, ev, nf, s3, hf, hc⟩ => ?_⟩
    subst ev
    have lw := hc.len
    refine ⟨_, rfl, _, rfl, l, B, h, wd, s, rfl, s3 _ _ hl, I, fun H4 s4 => ?_⟩
    refine ⟨_, rfl, iteB (fun e => ?_) (fun e => ?_)⟩
    · exact q _ ((s2.trans s3).trans s4)
    refine tn ?_
    have nb := not_full I e ho.1
    have fpos : 0 < (emptyL B).length := List.length_pos_iff.mpr nb
    have s24 := (s2.trans s3).trans s4
    have hf4 := s4 _ _ hf
    have hc4 := hc.same s4
    refine ⟨_, rfl, f, ws, rfl, .inl (SqL.of hf4), rfl, _, rfl, iteD (fun z => ?_) (fun _ => ?_)⟩
    · have := V.int.inj z
      omega
    refine ⟨_, rfl, _, rfl, l, B, h, wd, !s, rfl, s4 _ _ (s3 _ _ hl), I, fun H5 s5 => ?_⟩
    rw [ho.1]
    refine ⟨_, rfl, iteF ?_⟩
    refine tn ?_
    refine ⟨fun σ' H' => ∃ (l : Addr) (B : Bd) (v7 : Option V), Same H H' ∧ H' l = some (.lst (rowsV B)) ∧ IsB B h wd ∧ (emptyL B).length + (i + 1) ≤ 6 ∧ Holds B s (!t) ∧
      σ' = [some (.ref l), some (.str (txt [lt s])), some (.str (txt [lt t])), some (.int cell), some (.str (txt [lt (!s)])), some (.int ((0 : Int) + (i : Int))), some (.ref f), v7], ?_, ?_⟩
    · have s25 := s24.trans s5
      have hl5 := s5 _ _ (s4 _ _ (s3 _ _ hl))
      have hf5 := s5 _ _ hf4
      have hc5 := hc4.same s5
      refine ⟨_, rfl, _, rfl, rfl, _, rfl, iteD (fun z => ?_) (fun z => ?_)⟩
      · have ts : t = s := by
          cases s <;> cases t <;> first | rfl | exact absurd (txt_inj (V.str.inj z)) (by decide)
        subst ts
        have hw : wins B t = true := by
          rcases ho.2 with a | ⟨_, a⟩ | ⟨a, _⟩
          · rw [e] at a
            cases a
          · exact a
          · cases t <;> cases a
        have j0 : jB B false = false := by
          cases t
          · exact e
          · exact ho.1
        have j1 : jB B true = false := by
          cases t
          · exact ho.1
          · exact e
        refine ⟨_, rfl, l, _, rfl, .inl (SqL.of hl5), fun n hn o d no nd ndo => ?_⟩
        have s6 := same_new hn (.lst (rowsV B))
        have so := ((same_new nd (.own o)).trans (same_new (by rw [upd_ne (Ne.symm ndo)]; exact no) (.ins T.C_Board d [])))
        refine ⟨o, d, n, _, rfl, upd_same, so _ _ upd_same, I.small, fun hb => ?_, fun _ H7 l7 k7 n7 b7 => ⟨rfl, ?_⟩⟩
        · have g := I.good
          rw [g] at hb
          cases hb
        have s57 := s6.trans (made_board no nd k7)
        refine ⟨_, rfl, o, l7, B, h, wd, t, rfl, b7, I, j0, j1, (show (emptyL B).length ≤ 6 by omega), fun v H8 ⟨g, us, ev, ng, s8, hg, hcg⟩ => ?_⟩
        subst ev
        have s58 := s57.trans s8
        have lg := hcg.len
        have npos : 0 < us.length := by
          rw [lg]
          exact List.length_pos_iff.mpr (wins_some I hw)
        have hf8 := s58 _ _ hf5
        have hc8 := hc5.same s58
        have told : ∀ j, j < us.length → ∃ b c, us[j]? = some (V.ref b) ∧ c ∈ (emptyL B).filter (winsBy B t) ∧ H8 b = some (.tup (cellV c)) := fun j hj => by
          obtain ⟨y, ey⟩ : ∃ y, us[j]? = some y := ⟨_, List.getElem?_eq_getElem hj⟩
          obtain ⟨b, c, rfl, ec, hb⟩ := hcg.get ey
          exact ⟨b, c, ey, List.mem_of_getElem? ec, hb⟩
        obtain ⟨b0, c0, e0, m0, hb0⟩ := told 0 npos
        obtain ⟨b9, c9, e9, m9, hb9⟩ := told (us.length - 1) (by omega)
        have i0 := (List.mem_filter.mp m0).1
        have i9 := (List.mem_filter.mp m9).1
        have at0 : atI us 0 = some (.ref b0) := atI_nat (j := 0) e0
        have at9 : atI us (-1) = some (.ref b9) := atI_last1 e9
        refine ⟨_, rfl, _, _, _, _, _, rfl, .ty _, .base (.lst hg), kit_ll, _, rfl, iteF ?_⟩
        refine ⟨_, rfl, g, us, rfl, .inl (SqL.of hg), rfl, _, rfl, iteD (fun z => ?_) (fun _ => ?_)⟩
        · have := V.int.inj z
          omega
        refine ⟨_, rfl, g, us, _, _, rfl, rfl, SqL.of hg, at0, _, rfl, _, _, cell_dp hb0, .lst (SqL.of hf8) hc8.dp, shaped_cell _, shaped_cells _, _, rfl, ?_⟩
        rw [any_cells, decide_eq_true i0]
        refine iteF ?_
        refine ⟨_, rfl, _, rfl, g, us, _, _, rfl, rfl, SqL.of hg, at9, _, rfl, _, _, cell_dp hb9, .lst (SqL.of hf8) hc8.dp, shaped_cell _, shaped_cells _, _, rfl, ?_⟩
        rw [any_cells, decide_eq_true i9]
        refine iteF ?_
        refine tn ?_
        have hl8 := s58 _ _ hl5
        have pk : ∃ (k : Int) (b : Addr) (c : Cell), atI [V.int 0, V.int (-1)] (cell % 2) = some (.int k) ∧ atI us k = some (.ref b) ∧ c ∈ (emptyL B).filter (winsBy B t) ∧ H8 b = some (.tup (cellV c)) := by
          rcases (show cell % 2 = 0 ∨ cell % 2 = 1 by omega) with q | q
          · rw [q]
            exact ⟨0, b0, c0, rfl, at0, m0, hb0⟩
          · rw [q]
            exact ⟨-1, b9, c9, rfl, at9, m9, hb9⟩
        obtain ⟨k, b, c, ek, eb, mc, hb⟩ := pk
        have cm := (List.mem_filter.mp mc).1
        have ep := empty_put I cm t
        refine ⟨_, rfl, _, rfl, _, rfl, sz2, fun m hm => ?_⟩
        have s9 := same_new hm (.lst [V.int 0, V.int (-1)])
        refine ⟨_, rfl, _, _, rfl, rfl, (show (0 : Int) < 2 by decide), m, _, _, _, rfl, rfl, SqL.of upd_same, ek, g, us, _, _, rfl, rfl, SqL.of (s9 _ _ hg), eb, _, rfl, ?_⟩
        refine ⟨l, b, B, h, wd, c, lt t, rfl, s9 _ _ hl8, I, s9 _ _ hb, empty_ins I cm, fun l' H9 s10 nl' hl' => ?_⟩
        exact ⟨l', _, _, s25.trans (s58.trans (s9.trans s10)), hl', putB_is I c (by have := lt_ok t; omega), by omega, Holds.told I ho.1 mc, rfl⟩
      · have ts : t = !s := by
          cases s <;> cases t <;> first | rfl | exact absurd rfl z
        subst ts
        have hw : wins B (!s) = false := by
          rcases ho.2 with a | ⟨a, _⟩ | ⟨_, a⟩
          · rw [e] at a
            cases a
          · cases s <;> cases a
          · exact a
        refine ⟨_, rfl, _, rfl, _, rfl, _, rfl, _, rfl, f, ws, rfl, .inl (SqL.of hf5), _, _, _, rfl, by omega, by omega, by omega, fun m H6 s6 m0 m1 => ?_⟩
        have hm : m.toNat < ws.length := by omega
        obtain ⟨y, ey⟩ : ∃ y, ws[m.toNat]? = some y := ⟨_, List.getElem?_eq_getElem hm⟩
        obtain ⟨b, c, rfl, ec, hb⟩ := (hc5.same s6).get ey
        have cm := List.mem_of_getElem? ec
        have ep := empty_put I cm (!s)
        refine ⟨f, ws, _, _, rfl, rfl, SqL.of (s6 _ _ hf5), at_int m0 ey, _, rfl, ?_⟩
        refine ⟨l, b, B, h, wd, c, lt (!s), rfl, s6 _ _ hl5, I, hb, empty_ins I cm, fun l' H7 s7 nl' hl' => ?_⟩
        refine ⟨l', _, _, s25.trans (s6.trans s7), hl', putB_is I c (by have := lt_ok (!s); omega), by omega, ?_, rfl⟩
        rw [Bool.not_not]
        exact Holds.other I hw cm
    · rintro σ H6 ⟨l, B, v7, s6, hl, I, le, ho, rfl⟩
      refine ⟨sz2, fun t1 g1 => ?_⟩
      have sn := same_new g1 (.lst [V.str (Str.ofString "n"), V.str (Str.ofString "w")])
      refine ⟨_, rfl, rfl, .inr ⟨!t, congrArg (fun b => [V.bl b]) (eside t), t1, _, _, _, rfl, rfl, SqL.of upd_same, pick t, ?_⟩⟩
      exact ⟨l, B, !t, _, _, _, s6.trans sn, sn _ _ hl, I, le, ho, rfl⟩
  · rintro σ H2 ⟨l, B, t, v5, v6, v7, s2, hl, I, le, ho, rfl⟩
    omega
end
end Sw
namespace Sw
open PySem PySem.Spec PyProof.Rows L2
section
variable {P : Program} {w : World} {K : PySem.W.Frag} {mg : Str → Option Value} {base : Heap}
/-! the law -/
theorem many_at (b : Bool) : ∃ m : Int, atI [V.int 4, V.int 6] (if b = true then 1 else 0) = some (.int m) ∧ m ≤ 6 := by
  cases b
  · exact ⟨4, rfl, by decide⟩
  · exact ⟨6, rfl, by decide⟩
theorem nw_wn {k : Int} (h0 : 0 ≤ k) (h1 : k < 2) : ∃ s : Bool, atI (Str.ofString "nw").cps.toList k = some (lt s) ∧ atI (Str.ofString "wn").cps.toList k = some (lt (!s)) := by
  rw [s_nw, s_wn]
  have : k = 0 ∨ k = 1 := by omega
  rcases this with rfl | rfl
  · exact ⟨false, rfl, rfl⟩
  · exact ⟨true, rfl, rfl⟩
/-- no stone of a hand that can't win helps -/
theorem stone_not {B : Bd} {h w : Nat} (I : IsB B h w) {s : Bool} {c : Cell} (hw : wins B s = false) (cm : c ∈ emptyL B) : jB (putB B c (lt s)) s = false ∧ wins (putB B c (lt s)) (!s) = true := by
  have nb : winsBy B s c = false := by
    cases e : winsBy B s c with
    | false => rfl
    | true =>
      rw [wins_eq I s, List.any_eq_true.mpr ⟨c, cm, e⟩] at hw
      cases hw
  unfold winsBy at nb
  rw [Bool.or_eq_false_iff] at nb
  refine ⟨nb.1, ?_⟩
  have := nb.2
  cases e : wins (putB B c (lt s)) (!s) with
  | true => rfl
  | false =>
    rw [e] at this
    cases this
theorem stone_oth {B : Bd} {h w : Nat} (I : IsB B h w) {s : Bool} {c : Cell} (nj : jB B (!s) = false) (cm : c ∈ emptyL B) : jB (putB B c (lt s)) (!s) = false := by
  cases e : jB (putB B c (lt s)) (!s) with
  | false => rfl
  | true =>
    rw [jB_put_oth I (empty_ins I cm) e] at nj
    cases nj
def sp_law (K : PySem.W.Frag) : Sp := fun vs H Q _ => ∃ (a : Addr) (ns : List Int), vs = [.ref a] ∧ SqL K H a (ns.map V.int) ∧ ns.length ≤ 63 ∧ ∀ H', Q (.bl true) H'
theorem ok_law (T : Top K mg) : FnOk P w K mg base CX0 23 T.a_law T.d_law ["script"] (sp_law K) := by
  refine T.F_law.ok sc_law (fun vs H Q E h => ?_) (fun cdv A outer s H vs Q E hr h => ?_)
  · obtain ⟨_, _, rfl, _⟩ := h
    rfl
  obtain ⟨a, ns, rfl, hS, hlen, q⟩ := h
  refine ⟨_, (pss_cons (ps_set (i := 1) sc_law.nd rfl (Or.inl rfl) (pe_call (ok__law_open_by T) (hr.mono (by decide)) rfl T.m__law_open_by T.F__law_open_by.kp T.B__law_open_by .nil pass0 (pa_cons (pv 0) (pa_cons pe_int pa_nil))))
      (pss_cons (ps_if (pt_cmpR op_gt (pe_callB call_len_seq (by rfl) T.z_len PySem.boot_len (pa_cons (pe_call (ok__law_free T) (hr.mono (by decide)) rfl T.m__law_free T.F__law_free.kp T.B__law_free .nil pass0 (pa_cons (pv 1) pa_nil)) pa_nil)) (pe_ix ix_list (pe_lst (pa_cons pe_int (pa_cons pe_int pa_nil))) (pe_callTy call_int1 (by rfl) T.z_int (by decide +kernel) (pa_cons (pe_cmpR op_eq (pe_op op_mod (pe_call (ok__law_cell_at T) (hr.mono (by decide)) rfl T.m__law_cell_at T.F__law_cell_at.kp T.B__law_cell_at .nil pass0 (pa_cons (pv 0) (pa_cons pe_int pa_nil))) pe_int) pe_int (nomark _)) pa_nil)) (fun _ _ => rfl)) (nomark _))
      (pss_one (ps_ret pe_bl)) pss_nil)
      (pss_cons (ps_set (i := 2) sc_law.nd rfl (Or.inl rfl) (pe_ix ix_str pe_str (pe_op op_mod (pe_call (ok__law_cell_at T) (hr.mono (by decide)) rfl T.m__law_cell_at T.F__law_cell_at.kp T.B__law_cell_at .nil pass0 (pa_cons (pv 0) (pa_cons pe_int pa_nil))) pe_int) (fun _ _ => rfl)))
      (pss_cons (ps_set (i := 3) sc_law.nd rfl (Or.inl rfl) (pe_ix ix_str pe_str (pe_op op_mod (pe_call (ok__law_cell_at T) (hr.mono (by decide)) rfl T.m__law_cell_at T.F__law_cell_at.kp T.B__law_cell_at .nil pass0 (pa_cons (pv 0) (pa_cons pe_int pa_nil))) pe_int) (fun _ _ => rfl)))
      (pss_cons (ps_set (i := 4) sc_law.nd rfl (Or.inl rfl) (pe_call (ok__law_cell_at T) (hr.mono (by decide)) rfl T.m__law_cell_at T.F__law_cell_at.kp T.B__law_cell_at .nil pass0 (pa_cons (pv 0) (pa_cons pe_int pa_nil))))
      (pss_cons (ps_if (pt_cmpR op_isBl (pe_call (ok_can_win T) (hr.mono (by decide)) rfl T.m_can_win T.F_can_win.kp T.B_can_win .nil passL (pa_cons (pe_make T.Mk_Board (ok_Board_init T) (hr.mono (by decide)) (by rfl) T.mC_Board T.B_Board___init__ .nil passL (pa_cons (pe_callTy call_list_of (by rfl) T.z_list (by decide +kernel) (pa_cons (pv 1) pa_nil)) pa_nil)) (pa_cons (pv 2) pa_nil))) pe_bl (nomark _))
      (pss_one (ps_ret (pe_call (ok__law_played T) (hr.mono (by decide)) rfl T.m__law_played T.F__law_played.kp T.B__law_played .nil pass0 (pa_cons (pv 1) (pa_cons (pv 2) (pa_cons (pv 2) (pa_cons (pv 4) pa_nil))))))) pss_nil)
      (pss_cons (ps_for PassesOwn.never rfl (pi_list (pe_call (ok__law_free T) (hr.mono (by decide)) rfl T.m__law_free T.F__law_free.kp T.B__law_free .nil pass0 (pa_cons (pv 1) pa_nil))) (pg_name (i := 5) sc_law.nd rfl (Or.inl rfl))
      (pss_cons (ps_set (i := 6) sc_law.nd rfl (Or.inl rfl) (pe_call (ok__law_put T) (hr.mono (by decide)) rfl T.m__law_put T.F__law_put.kp T.B__law_put .nil pass0 (pa_cons (pv 1) (pa_cons (pv 5) (pa_cons (pv 2) pa_nil)))))
      (pss_one (ps_if (PW.pt (pw_or (pt_val (pe_call (ok__law_flood T) (hr.mono (by decide)) rfl T.m__law_flood T.F__law_flood.kp T.B__law_flood .nil pass0 (pa_cons (pv 6) (pa_cons (pv 2) pa_nil)))) (pw_or1 (pt_cmpR op_notBl (pe_call (ok_can_win T) (hr.mono (by decide)) rfl T.m_can_win T.F_can_win.kp T.B_can_win .nil passL (pa_cons (pe_make T.Mk_Board (ok_Board_init T) (hr.mono (by decide)) (by rfl) T.mC_Board T.B_Board___init__ .nil passL (pa_cons (pv 6) pa_nil)) (pa_cons (pv 3) pa_nil))) pe_bl (nomark _)))))
      (pss_one (ps_ret pe_bl)) pss_nil))))
      (pss_one (ps_ret (pe_call (ok__law_played T) (hr.mono (by decide)) rfl T.m__law_played T.F__law_played.kp T.B__law_played .nil pass0 (pa_cons (pv 1) (pa_cons (pv 3) (pa_cons (pv 2) (pa_cons (pv 4) pa_nil)))))))))))))), ?_⟩
  refine ⟨_, rfl, a, ns, 4, rfl, hS, by decide, by decide, fun B h w l H1 s1 hl I hh hw nj => ?_⟩
  refine ⟨_, rfl, l, B, h, w, rfl, hl, I, fun v H2 ⟨f, ws, ev, nf, s2, hf, hc⟩ => ?_⟩
  subst ev
  have lw := hc.len
  refine ⟨f, ws, rfl, .inl (SqL.of hf), sz2, fun t1 g1 => ?_⟩
  have s3 := same_new g1 (.lst [V.int 4, V.int 6])
  have hl3 := s3 _ _ (s2 _ _ hl)
  have hS3 := s3.seq (s2.seq (s1.seq hS))
  obtain ⟨lim, el, hlim⟩ := many_at (decide (V.int (sAt ns 2 % 8) = V.int 1))
  refine ⟨_, rfl, a, ns, 2, rfl, hS3, by decide, _, _, rfl, rfl, (show (0 : Int) < 8 by decide), rfl, .inr ⟨_, rfl, t1, _, _, _, rfl, rfl, SqL.of upd_same, el, _, _, rfl, rfl, _, rfl, iteD (fun _ => q _) (fun c => ?_)⟩⟩
  have le : (emptyL B).length ≤ 6 := by omega
  refine tn ?_
  obtain ⟨s, es, eo⟩ := nw_wn (Int.emod_nonneg (sAt ns 14) (show (2 : Int) ≠ 0 by decide)) (Int.emod_lt_of_pos (sAt ns 14) (show (0 : Int) < 2 by decide))
  refine ⟨_, rfl, a, ns, 14, rfl, hS3, by decide, _, _, rfl, rfl, (show (0 : Int) < 2 by decide), _, _, _, rfl, rfl, (show (2 : Nat) ≤ sizeLine by decide), es, ?_⟩
  refine ⟨_, rfl, a, ns, 14, rfl, hS3, by decide, _, _, rfl, rfl, (show (0 : Int) < 2 by decide), _, _, _, rfl, rfl, (show (2 : Nat) ≤ sizeLine by decide), eo, ?_⟩
  refine ⟨_, rfl, a, ns, 15, rfl, hS3, by decide, ?_⟩
  -- can_win(Board(list(rows)), hand)
  refine ⟨_, rfl, l, _, rfl, .inl (SqL.of hl3), fun n hn o d no nd ndo => ?_⟩
  have s4 := same_new hn (.lst (rowsV B))
  have so := ((same_new nd (.own o)).trans (same_new (by rw [upd_ne (Ne.symm ndo)]; exact no) (.ins T.C_Board d [])))
  refine ⟨o, d, n, _, rfl, upd_same, so _ _ upd_same, I.small, fun hb => ?_, fun _ H5 l5 k5 n5 b5 => ⟨rfl, ?_⟩⟩
  · have g := I.good
    rw [g] at hb
    cases hb
  have s45 := s4.trans (made_board no nd k5)
  refine ⟨_, rfl, o, l5, B, h, w, s, rfl, b5, I, nj false, nj true, le, fun H6 s6 => ?_⟩
  have s46 := s45.trans s6
  have hl6 := s46 _ _ hl3
  refine ⟨_, _, rfl, rfl, _, rfl, iteD (fun hw => ?_) (fun hw => ?_)⟩
  · exact ⟨_, rfl, _, rfl, _, rfl, _, rfl, l, B, h, w, s, s, _, rfl, hl6, I, le, ⟨nj (!s), .inr (.inl ⟨rfl, hw⟩)⟩, fun H' _ => q H'⟩
  have hw : wins B s = false := by
    cases e : wins B s with
    | false => rfl
    | true => exact absurd e hw
  refine tn ?_
  refine ⟨_, rfl, l, B, h, w, rfl, hl6, I, fun v H7 ⟨f2, ws2, ev, nf2, s7, hf2, hc2⟩ => ?_⟩
  subst ev
  have hl7 := s7 _ _ hl6
  refine ⟨f2, rfl, ⟨_, SqL.of hf2⟩, for_list (K := K) (a := f2) (xs := ws2) (fun j σ H' => Same H7 H' ∧
    ∃ v5 v6, σ = [some (.ref a), some (.ref l), some (.str (txt [lt s])), some (.str (txt [lt (!s)])), some (.int (sAt ns 15)), v5, v6]) ⟨.refl _, _, _, rfl⟩ (fun i σ H' _ ⟨e, _⟩ => SqL.of (e _ _ hf2)) ?_ ?_⟩
  · rintro j x σ H8 hj ⟨s8, v5, v6, rfl⟩
    obtain ⟨b, c, rfl, ec, hb⟩ := (hc2.same s8).get hj
    have cm := List.mem_of_getElem? ec
    have ep := empty_put I cm s
    have I2 : IsB (putB B c (lt s)) h w := putB_is I c (by have := lt_ok s; omega)
    obtain ⟨ej, ew⟩ := stone_not I hw cm
    have eo := stone_oth I (nj (!s)) cm
    refine ⟨_, rfl, _, rfl, _, rfl, l, b, B, h, w, c, lt s, rfl, s8 _ _ hl7, I, hb, empty_ins I cm, fun l' H9 s9 nl' hl' => ?_⟩
    refine ⟨_, rfl, _, rfl, l', _, h, w, s, rfl, hl', I2, fun H10 s10 => ?_⟩
    rw [ej]
    refine ⟨_, rfl, iteF ?_⟩
    refine ⟨_, rfl, fun o2 d2 no2 nd2 ndo2 => ?_⟩
    have so2 := ((same_new nd2 (.own o2)).trans (same_new (by rw [upd_ne (Ne.symm ndo2)]; exact no2) (.ins T.C_Board d2 [])))
    refine ⟨o2, d2, l', _, rfl, upd_same, so2 _ _ (s10 _ _ hl'), I2.small, fun hb => ?_, fun _ H11 l11 k11 n11 b11 => ⟨rfl, ?_⟩⟩
    · have g := I2.good
      rw [g] at hb
      cases hb
    have s11 := made_board no2 nd2 k11
    have jj : ∀ u, jB (putB B c (lt s)) u = false := fun u => by
      cases s <;> cases u <;> assumption
    refine ⟨_, rfl, o2, l11, _, h, w, !s, rfl, b11, I2, jj false, jj true, (show (emptyL (putB B c (lt s))).length ≤ 6 by omega), fun H12 s12 => ?_⟩
    rw [ew]
    refine ⟨_, _, rfl, rfl, _, rfl, iteF ?_⟩
    exact ⟨s8.trans (s9.trans (s10.trans (s11.trans s12))), _, _, rfl⟩
  · rintro σ H8 ⟨s8, v5, v6, rfl⟩
    refine ⟨_, rfl, _, rfl, _, rfl, _, rfl, l, B, h, w, !s, s, _, rfl, s8 _ _ hl7, I, le, ⟨?_, .inr (.inr ⟨(Bool.not_not s).symm, ?_⟩)⟩, fun H' _ => q H'⟩
    · rw [Bool.not_not]
      exact nj s
    · rw [Bool.not_not]
      exact hw
end
end Sw
namespace Sw
open PySem PySem.Spec PyProof.Rows L2
/-! ### what the top has written, and the end -/
theorem all_mk {l : PySem.W.OpenLaw} {w : World} {K : PySem.W.Frag} {h : Heap} {mg : Str → Option Value} {fa : Addr} (X : K.In h) (G : h.Ns mainGlobals mg) (hfa : mg "law" = some (.ref fa))
    {C_Board C_BadBoard C_NoCell C_Over C_TooMany : Addr}
    {od1 an1 : Option Addr} {sl1 : Array (Option Value)} {oc1 kV1 dc1 pm1 cd1 ct1 : Value} {f1 : Addr}
    {od2 an2 : Option Addr} {sl2 : Array (Option Value)} {oc2 kV2 dc2 pm2 cd2 ct2 : Value} {f2 : Addr}
    {od3 an3 : Option Addr} {sl3 : Array (Option Value)} {oc3 kV3 dc3 pm3 cd3 ct3 : Value} {f3 : Addr}
    {od4 an4 : Option Addr} {sl4 : Array (Option Value)} {oc4 kV4 dc4 pm4 cd4 ct4 : Value} {f4 : Addr}
    {od5 an5 : Option Addr} {sl5 : Array (Option Value)} {oc5 kV5 dc5 pm5 cd5 ct5 : Value} {f5 : Addr}
    {od6 an6 : Option Addr} {sl6 : Array (Option Value)} {oc6 kV6 dc6 pm6 cd6 ct6 : Value} {f6 : Addr}
    {od7 an7 : Option Addr} {sl7 : Array (Option Value)} {oc7 kV7 dc7 pm7 cd7 ct7 : Value} {f7 : Addr}
    {od8 an8 : Option Addr} {sl8 : Array (Option Value)} {oc8 kV8 dc8 pm8 cd8 ct8 : Value} {f8 : Addr}
    {od9 an9 : Option Addr} {sl9 : Array (Option Value)} {oc9 kV9 dc9 pm9 cd9 ct9 : Value} {f9 : Addr}
    {od10 an10 : Option Addr} {sl10 : Array (Option Value)} {oc10 kV10 dc10 pm10 cd10 ct10 : Value} {f10 : Addr}
    {od11 an11 : Option Addr} {sl11 : Array (Option Value)} {oc11 kV11 dc11 pm11 cd11 ct11 : Value} {f11 : Addr}
    {od12 an12 : Option Addr} {sl12 : Array (Option Value)} {oc12 kV12 dc12 pm12 cd12 ct12 : Value} {f12 : Addr}
    {od13 an13 : Option Addr} {sl13 : Array (Option Value)} {oc13 kV13 dc13 pm13 cd13 ct13 : Value} {f13 : Addr}
    {od14 an14 : Option Addr} {sl14 : Array (Option Value)} {oc14 kV14 dc14 pm14 cd14 ct14 : Value} {f14 : Addr}
    {od15 an15 : Option Addr} {sl15 : Array (Option Value)} {oc15 kV15 dc15 pm15 cd15 ct15 : Value} {f15 : Addr}
    {od16 an16 : Option Addr} {sl16 : Array (Option Value)} {oc16 kV16 dc16 pm16 cd16 ct16 : Value} {f16 : Addr}
    {od17 an17 : Option Addr} {sl17 : Array (Option Value)} {oc17 kV17 dc17 pm17 cd17 ct17 : Value} {f17 : Addr}
    {od18 an18 : Option Addr} {sl18 : Array (Option Value)} {oc18 kV18 dc18 pm18 cd18 ct18 : Value} {f18 : Addr}
    {od19 an19 : Option Addr} {sl19 : Array (Option Value)} {oc19 kV19 dc19 pm19 cd19 ct19 : Value} {f19 : Addr}
    {od20 an20 : Option Addr} {sl20 : Array (Option Value)} {oc20 kV20 dc20 pm20 cd20 ct20 : Value} {f20 : Addr}
    {od21 an21 : Option Addr} {sl21 : Array (Option Value)} {oc21 kV21 dc21 pm21 cd21 ct21 : Value} {f21 : Addr}
    {od22 an22 : Option Addr} {sl22 : Array (Option Value)} {oc22 kV22 dc22 pm22 cd22 ct22 : Value} {f22 : Addr}
    {od23 an23 : Option Addr} {sl23 : Array (Option Value)} {oc23 kV23 dc23 pm23 cd23 ct23 : Value} {f23 : Addr}
    {od24 an24 : Option Addr} {sl24 : Array (Option Value)} {oc24 kV24 dc24 pm24 cd24 ct24 : Value} {f24 : Addr}
    {od25 an25 : Option Addr} {sl25 : Array (Option Value)} {oc25 kV25 dc25 pm25 cd25 ct25 : Value} {f25 : Addr}
    {od26 an26 : Option Addr} {sl26 : Array (Option Value)} {oc26 kV26 dc26 pm26 cd26 ct26 : Value} {f26 : Addr}
    {od27 an27 : Option Addr} {sl27 : Array (Option Value)} {oc27 kV27 dc27 pm27 cd27 ct27 : Value} {f27 : Addr}
    (aC_Board : PySem.W.nsIn K mainGlobals "Board" = some (some (.ref C_Board)))
    (aC_BadBoard : PySem.W.nsIn K mainGlobals "BadBoard" = some (some (.ref C_BadBoard)))
    (aC_NoCell : PySem.W.nsIn K mainGlobals "NoCell" = some (some (.ref C_NoCell)))
    (aC_Over : PySem.W.nsIn K mainGlobals "Over" = some (some (.ref C_Over)))
    (aC_TooMany : PySem.W.nsIn K mainGlobals "TooMany" = some (some (.ref C_TooMany)))
    (a1 : PySem.W.nsIn K mainGlobals "board_right" = some (some (.ref f1)))
    (l1 : K.lookup f1 = some ⟨oc1, od1, .func (PySem.W.fnOf "board_right" "board_right" (defArgs s_board_right) (defBody s_board_right) (defScope s_board_right) .none kV1 dc1 pm1 an1 cd1 ct1), sl1⟩)
    (c1 : PySem.W.codeIn K cd1 "board_right" = true)
    (k1 : PySem.W.keepIn K (.ref f1) = true)
    (a2 : PySem.W.findIn K (.ref C_Board) "__init__" = some (some (.ref f2)))
    (i2 : PySem.W.isFn K (.ref f2) = true)
    (l2 : K.lookup f2 = some ⟨oc2, od2, .func (PySem.W.fnOf "__init__" "Board.__init__" (defArgs s_Board___init__) (defBody s_Board___init__) (defScope s_Board___init__) .none kV2 dc2 pm2 an2 cd2 ct2), sl2⟩)
    (c2 : PySem.W.codeIn K cd2 "Board.__init__" = true)
    (k2 : PySem.W.keepIn K (.ref f2) = true)
    (a3 : PySem.W.findIn K (.ref C_Board) "has" = some (some (.ref f3)))
    (i3 : PySem.W.isFn K (.ref f3) = true)
    (l3 : K.lookup f3 = some ⟨oc3, od3, .func (PySem.W.fnOf "has" "Board.has" (defArgs s_Board_has) (defBody s_Board_has) (defScope s_Board_has) .none kV3 dc3 pm3 an3 cd3 ct3), sl3⟩)
    (c3 : PySem.W.codeIn K cd3 "Board.has" = true)
    (k3 : PySem.W.keepIn K (.ref f3) = true)
    (a4 : PySem.W.nsIn K mainGlobals "near" = some (some (.ref f4)))
    (l4 : K.lookup f4 = some ⟨oc4, od4, .func (PySem.W.fnOf "near" "near" (defArgs s_near) (defBody s_near) (defScope s_near) .none kV4 dc4 pm4 an4 cd4 ct4), sl4⟩)
    (c4 : PySem.W.codeIn K cd4 "near" = true)
    (k4 : PySem.W.keepIn K (.ref f4) = true)
    (a5 : PySem.W.nsIn K mainGlobals "laid" = some (some (.ref f5)))
    (l5 : K.lookup f5 = some ⟨oc5, od5, .func (PySem.W.fnOf "laid" "laid" (defArgs s_laid) (defBody s_laid) (defScope s_laid) .none kV5 dc5 pm5 an5 cd5 ct5), sl5⟩)
    (c5 : PySem.W.codeIn K cd5 "laid" = true)
    (k5 : PySem.W.keepIn K (.ref f5) = true)
    (a6 : PySem.W.nsIn K mainGlobals "other" = some (some (.ref f6)))
    (l6 : K.lookup f6 = some ⟨oc6, od6, .func (PySem.W.fnOf "other" "other" (defArgs s_other) (defBody s_other) (defScope s_other) .none kV6 dc6 pm6 an6 cd6 ct6), sl6⟩)
    (c6 : PySem.W.codeIn K cd6 "other" = true)
    (k6 : PySem.W.keepIn K (.ref f6) = true)
    (a7 : PySem.W.nsIn K mainGlobals "empty" = some (some (.ref f7)))
    (l7 : K.lookup f7 = some ⟨oc7, od7, .func (PySem.W.fnOf "empty" "empty" (defArgs s_empty) (defBody s_empty) (defScope s_empty) .none kV7 dc7 pm7 an7 cd7 ct7), sl7⟩)
    (c7 : PySem.W.codeIn K cd7 "empty" = true)
    (k7 : PySem.W.keepIn K (.ref f7) = true)
    (a8 : PySem.W.nsIn K mainGlobals "beginnings" = some (some (.ref f8)))
    (l8 : K.lookup f8 = some ⟨oc8, od8, .func (PySem.W.fnOf "beginnings" "beginnings" (defArgs s_beginnings) (defBody s_beginnings) (defScope s_beginnings) .none kV8 dc8 pm8 an8 cd8 ct8), sl8⟩)
    (c8 : PySem.W.codeIn K cd8 "beginnings" = true)
    (k8 : PySem.W.keepIn K (.ref f8) = true)
    (a9 : PySem.W.nsIn K mainGlobals "at_end" = some (some (.ref f9)))
    (l9 : K.lookup f9 = some ⟨oc9, od9, .func (PySem.W.fnOf "at_end" "at_end" (defArgs s_at_end) (defBody s_at_end) (defScope s_at_end) .none kV9 dc9 pm9 an9 cd9 ct9), sl9⟩)
    (c9 : PySem.W.codeIn K cd9 "at_end" = true)
    (k9 : PySem.W.keepIn K (.ref f9) = true)
    (a10 : PySem.W.nsIn K mainGlobals "road" = some (some (.ref f10)))
    (l10 : K.lookup f10 = some ⟨oc10, od10, .func (PySem.W.fnOf "road" "road" (defArgs s_road) (defBody s_road) (defScope s_road) .none kV10 dc10 pm10 an10 cd10 ct10), sl10⟩)
    (c10 : PySem.W.codeIn K cd10 "road" = true)
    (k10 : PySem.W.keepIn K (.ref f10) = true)
    (a11 : PySem.W.nsIn K mainGlobals "joined" = some (some (.ref f11)))
    (l11 : K.lookup f11 = some ⟨oc11, od11, .func (PySem.W.fnOf "joined" "joined" (defArgs s_joined) (defBody s_joined) (defScope s_joined) .none kV11 dc11 pm11 an11 cd11 ct11), sl11⟩)
    (c11 : PySem.W.codeIn K cd11 "joined" = true)
    (k11 : PySem.W.keepIn K (.ref f11) = true)
    (a12 : PySem.W.nsIn K mainGlobals "check_end" = some (some (.ref f12)))
    (l12 : K.lookup f12 = some ⟨oc12, od12, .func (PySem.W.fnOf "check_end" "check_end" (defArgs s_check_end) (defBody s_check_end) (defScope s_check_end) .none kV12 dc12 pm12 an12 cd12 ct12), sl12⟩)
    (c12 : PySem.W.codeIn K cd12 "check_end" = true)
    (k12 : PySem.W.keepIn K (.ref f12) = true)
    (a13 : PySem.W.nsIn K mainGlobals "winning" = some (some (.ref f13)))
    (l13 : K.lookup f13 = some ⟨oc13, od13, .func (PySem.W.fnOf "winning" "winning" (defArgs s_winning) (defBody s_winning) (defScope s_winning) .none kV13 dc13 pm13 an13 cd13 ct13), sl13⟩)
    (c13 : PySem.W.codeIn K cd13 "winning" = true)
    (k13 : PySem.W.keepIn K (.ref f13) = true)
    (a14 : PySem.W.nsIn K mainGlobals "wins_by" = some (some (.ref f14)))
    (l14 : K.lookup f14 = some ⟨oc14, od14, .func (PySem.W.fnOf "wins_by" "wins_by" (defArgs s_wins_by) (defBody s_wins_by) (defScope s_wins_by) .none kV14 dc14 pm14 an14 cd14 ct14), sl14⟩)
    (c14 : PySem.W.codeIn K cd14 "wins_by" = true)
    (k14 : PySem.W.keepIn K (.ref f14) = true)
    (a15 : PySem.W.nsIn K mainGlobals "can_win" = some (some (.ref f15)))
    (l15 : K.lookup f15 = some ⟨oc15, od15, .func (PySem.W.fnOf "can_win" "can_win" (defArgs s_can_win) (defBody s_can_win) (defScope s_can_win) .none kV15 dc15 pm15 an15 cd15 ct15), sl15⟩)
    (c15 : PySem.W.codeIn K cd15 "can_win" = true)
    (k15 : PySem.W.keepIn K (.ref f15) = true)
    (a16 : PySem.W.nsIn K mainGlobals "replies" = some (some (.ref f16)))
    (l16 : K.lookup f16 = some ⟨oc16, od16, .func (PySem.W.fnOf "replies" "replies" (defArgs s_replies) (defBody s_replies) (defScope s_replies) .none kV16 dc16 pm16 an16 cd16 ct16), sl16⟩)
    (c16 : PySem.W.codeIn K cd16 "replies" = true)
    (k16 : PySem.W.keepIn K (.ref f16) = true)
    (a17 : PySem.W.nsIn K mainGlobals "_law_cell_at" = some (some (.ref f17)))
    (l17 : K.lookup f17 = some ⟨oc17, od17, .func (PySem.W.fnOf "_law_cell_at" "_law_cell_at" (defArgs s__law_cell_at) (defBody s__law_cell_at) (defScope s__law_cell_at) .none kV17 dc17 pm17 an17 cd17 ct17), sl17⟩)
    (c17 : PySem.W.codeIn K cd17 "_law_cell_at" = true)
    (k17 : PySem.W.keepIn K (.ref f17) = true)
    (a18 : PySem.W.nsIn K mainGlobals "_law_mix" = some (some (.ref f18)))
    (l18 : K.lookup f18 = some ⟨oc18, od18, .func (PySem.W.fnOf "_law_mix" "_law_mix" (defArgs s__law_mix) (defBody s__law_mix) (defScope s__law_mix) .none kV18 dc18 pm18 an18 cd18 ct18), sl18⟩)
    (c18 : PySem.W.codeIn K cd18 "_law_mix" = true)
    (k18 : PySem.W.keepIn K (.ref f18) = true)
    (a19 : PySem.W.nsIn K mainGlobals "_law_rows_by" = some (some (.ref f19)))
    (l19 : K.lookup f19 = some ⟨oc19, od19, .func (PySem.W.fnOf "_law_rows_by" "_law_rows_by" (defArgs s__law_rows_by) (defBody s__law_rows_by) (defScope s__law_rows_by) .none kV19 dc19 pm19 an19 cd19 ct19), sl19⟩)
    (c19 : PySem.W.codeIn K cd19 "_law_rows_by" = true)
    (k19 : PySem.W.keepIn K (.ref f19) = true)
    (a20 : PySem.W.nsIn K mainGlobals "_law_size_by" = some (some (.ref f20)))
    (l20 : K.lookup f20 = some ⟨oc20, od20, .func (PySem.W.fnOf "_law_size_by" "_law_size_by" (defArgs s__law_size_by) (defBody s__law_size_by) (defScope s__law_size_by) .none kV20 dc20 pm20 an20 cd20 ct20), sl20⟩)
    (c20 : PySem.W.codeIn K cd20 "_law_size_by" = true)
    (k20 : PySem.W.keepIn K (.ref f20) = true)
    (a21 : PySem.W.nsIn K mainGlobals "_law_flood" = some (some (.ref f21)))
    (l21 : K.lookup f21 = some ⟨oc21, od21, .func (PySem.W.fnOf "_law_flood" "_law_flood" (defArgs s__law_flood) (defBody s__law_flood) (defScope s__law_flood) .none kV21 dc21 pm21 an21 cd21 ct21), sl21⟩)
    (c21 : PySem.W.codeIn K cd21 "_law_flood" = true)
    (k21 : PySem.W.keepIn K (.ref f21) = true)
    (a22 : PySem.W.nsIn K mainGlobals "_law_road" = some (some (.ref f22)))
    (l22 : K.lookup f22 = some ⟨oc22, od22, .func (PySem.W.fnOf "_law_road" "_law_road" (defArgs s__law_road) (defBody s__law_road) (defScope s__law_road) .none kV22 dc22 pm22 an22 cd22 ct22), sl22⟩)
    (c22 : PySem.W.codeIn K cd22 "_law_road" = true)
    (k22 : PySem.W.keepIn K (.ref f22) = true)
    (a23 : PySem.W.nsIn K mainGlobals "_law_put" = some (some (.ref f23)))
    (l23 : K.lookup f23 = some ⟨oc23, od23, .func (PySem.W.fnOf "_law_put" "_law_put" (defArgs s__law_put) (defBody s__law_put) (defScope s__law_put) .none kV23 dc23 pm23 an23 cd23 ct23), sl23⟩)
    (c23 : PySem.W.codeIn K cd23 "_law_put" = true)
    (k23 : PySem.W.keepIn K (.ref f23) = true)
    (a24 : PySem.W.nsIn K mainGlobals "_law_free" = some (some (.ref f24)))
    (l24 : K.lookup f24 = some ⟨oc24, od24, .func (PySem.W.fnOf "_law_free" "_law_free" (defArgs s__law_free) (defBody s__law_free) (defScope s__law_free) .none kV24 dc24 pm24 an24 cd24 ct24), sl24⟩)
    (c24 : PySem.W.codeIn K cd24 "_law_free" = true)
    (k24 : PySem.W.keepIn K (.ref f24) = true)
    (a25 : PySem.W.nsIn K mainGlobals "_law_open_by" = some (some (.ref f25)))
    (l25 : K.lookup f25 = some ⟨oc25, od25, .func (PySem.W.fnOf "_law_open_by" "_law_open_by" (defArgs s__law_open_by) (defBody s__law_open_by) (defScope s__law_open_by) .none kV25 dc25 pm25 an25 cd25 ct25), sl25⟩)
    (c25 : PySem.W.codeIn K cd25 "_law_open_by" = true)
    (k25 : PySem.W.keepIn K (.ref f25) = true)
    (a26 : PySem.W.nsIn K mainGlobals "_law_played" = some (some (.ref f26)))
    (l26 : K.lookup f26 = some ⟨oc26, od26, .func (PySem.W.fnOf "_law_played" "_law_played" (defArgs s__law_played) (defBody s__law_played) (defScope s__law_played) .none kV26 dc26 pm26 an26 cd26 ct26), sl26⟩)
    (c26 : PySem.W.codeIn K cd26 "_law_played" = true)
    (k26 : PySem.W.keepIn K (.ref f26) = true)
    (a27 : PySem.W.nsIn K mainGlobals "law" = some (some (.ref f27)))
    (l27 : K.lookup f27 = some ⟨oc27, od27, .func (PySem.W.fnOf "law" "law" (defArgs s_law) (defBody s_law) (defScope s_law) .none kV27 dc27 pm27 an27 cd27 ct27), sl27⟩)
    (c27 : PySem.W.codeIn K cd27 "law" = true)
    (k27 : PySem.W.keepIn K (.ref f27) = true)
    (pg_Board : PySem.W.plainGet K C_Board Str.empty = true)
    (hd_Board : PySem.W.hasDictIn K C_Board = true)
    (po_Board : PySem.W.plainOver K C_Board = true)
    (sa_Board : PySem.W.findIn K (.ref C_Board) "__setattr__" = some (some (.builtin "object.__setattr__")))
    (mk_Board : PySem.W.makesIn K C_Board = true)
    (kc_Board : PySem.W.keepIn K (.ref C_Board) = true)
    (n_Board_rows : PySem.W.findIn K (.ref C_Board) "rows" = some none)
    (n_Board_height : PySem.W.findIn K (.ref C_Board) "height" = some none)
    (n_Board_width : PySem.W.findIn K (.ref C_Board) "width" = some none)
    (x_BadBoard : PySem.W.excIn K C_BadBoard [.type "ValueError", .type "Exception", .type "BaseException", .type "object"] "ValueError.__new__" = true)
    (k_BadBoard : PySem.W.keepIn K (.ref C_BadBoard) = true)
    (b_BadBoard : PySem.W.subIn K (.ref C_BadBoard) (.type "BaseException") = some true)
    (t_BadBoard : PySem.W.typeIn K (.ref C_BadBoard) = some (.type "type"))
    (i_BadBoard : PySem.W.isClsIn K C_BadBoard = true)
    (x_NoCell : PySem.W.excIn K C_NoCell [.type "ValueError", .type "Exception", .type "BaseException", .type "object"] "ValueError.__new__" = true)
    (k_NoCell : PySem.W.keepIn K (.ref C_NoCell) = true)
    (b_NoCell : PySem.W.subIn K (.ref C_NoCell) (.type "BaseException") = some true)
    (t_NoCell : PySem.W.typeIn K (.ref C_NoCell) = some (.type "type"))
    (i_NoCell : PySem.W.isClsIn K C_NoCell = true)
    (x_Over : PySem.W.excIn K C_Over [.type "ValueError", .type "Exception", .type "BaseException", .type "object"] "ValueError.__new__" = true)
    (k_Over : PySem.W.keepIn K (.ref C_Over) = true)
    (b_Over : PySem.W.subIn K (.ref C_Over) (.type "BaseException") = some true)
    (t_Over : PySem.W.typeIn K (.ref C_Over) = some (.type "type"))
    (i_Over : PySem.W.isClsIn K C_Over = true)
    (x_TooMany : PySem.W.excIn K C_TooMany [.type "ValueError", .type "Exception", .type "BaseException", .type "object"] "ValueError.__new__" = true)
    (k_TooMany : PySem.W.keepIn K (.ref C_TooMany) = true)
    (b_TooMany : PySem.W.subIn K (.ref C_TooMany) (.type "BaseException") = some true)
    (t_TooMany : PySem.W.typeIn K (.ref C_TooMany) = some (.type "type"))
    (i_TooMany : PySem.W.isClsIn K C_TooMany = true)
    {tk_MOST : Tok} (g_MOST : PySem.W.nsIn K mainGlobals "MOST" = some (some (.int 9 tk_MOST)))
    {tk_MOST_EMPTY : Tok} (g_MOST_EMPTY : PySem.W.nsIn K mainGlobals "MOST_EMPTY" = some (some (.int 6 tk_MOST_EMPTY)))
    (z_len : PySem.W.nsIn K mainGlobals "len" = some none)
    (z_all : PySem.W.nsIn K mainGlobals "all" = some none)
    (z_list : PySem.W.nsIn K mainGlobals "list" = some none)
    (z_enumerate : PySem.W.nsIn K mainGlobals "enumerate" = some none)
    (z_range : PySem.W.nsIn K mainGlobals "range" = some none)
    (z_tuple : PySem.W.nsIn K mainGlobals "tuple" = some none)
    (z_any : PySem.W.nsIn K mainGlobals "any" = some none)
    (z_int : PySem.W.nsIn K mainGlobals "int" = some none)
    (z_isinstance : PySem.W.nsIn K mainGlobals "isinstance" = some none) :
    ∃ fd : FuncData, (∀ (s : Shared) (v : Value), BindsTo s fd ⟨[v], []⟩ [("script", v)]) ∧ ∀ base : Heap, K.In base → base.Ns mainGlobals mg → FnOk l.prog w K mg base CX0 23 fa fd ["script"] (sp_law K) := by
  have e := hfa.symm.trans (PySem.W.mg_of X G a27)
  cases e
  let T : Top K mg := {
    a_board_right := f1,
    d_board_right := _,
    F_board_right := fun_mk (st := s_board_right) l1 c1 k1,
    B_board_right := (fun_mk (st := s_board_right) l1 c1 k1).binds (ps := ["rows"]) fun _ _ _ _ _ _ us hl => match us, hl with | [_], _ => rfl,
    m_board_right := PySem.W.mg_of X G a1,
    a_Board___init__ := f2,
    d_Board___init__ := _,
    F_Board___init__ := fun_mk (st := s_Board___init__) l2 c2 k2,
    B_Board___init__ := (fun_mk (st := s_Board___init__) l2 c2 k2).binds (ps := ["self", "rows"]) fun _ _ _ _ _ _ us hl => match us, hl with | [_, _], _ => rfl,
    a_Board_has := f3,
    d_Board_has := _,
    F_Board_has := fun_mk (st := s_Board_has) l3 c3 k3,
    B_Board_has := (fun_mk (st := s_Board_has) l3 c3 k3).binds (ps := ["self", "r", "c"]) fun _ _ _ _ _ _ us hl => match us, hl with | [_, _, _], _ => rfl,
    a_near := f4,
    d_near := _,
    F_near := fun_mk (st := s_near) l4 c4 k4,
    B_near := (fun_mk (st := s_near) l4 c4 k4).binds (ps := ["r", "c"]) fun _ _ _ _ _ _ us hl => match us, hl with | [_, _], _ => rfl,
    m_near := PySem.W.mg_of X G a4,
    a_laid := f5,
    d_laid := _,
    F_laid := fun_mk (st := s_laid) l5 c5 k5,
    B_laid := (fun_mk (st := s_laid) l5 c5 k5).binds (ps := ["board", "r", "c", "hand"]) fun _ _ _ _ _ _ us hl => match us, hl with | [_, _, _, _], _ => rfl,
    m_laid := PySem.W.mg_of X G a5,
    a_other := f6,
    d_other := _,
    F_other := fun_mk (st := s_other) l6 c6 k6,
    B_other := (fun_mk (st := s_other) l6 c6 k6).binds (ps := ["letter"]) fun _ _ _ _ _ _ us hl => match us, hl with | [_], _ => rfl,
    m_other := PySem.W.mg_of X G a6,
    a_empty := f7,
    d_empty := _,
    F_empty := fun_mk (st := s_empty) l7 c7 k7,
    B_empty := (fun_mk (st := s_empty) l7 c7 k7).binds (ps := ["board"]) fun _ _ _ _ _ _ us hl => match us, hl with | [_], _ => rfl,
    m_empty := PySem.W.mg_of X G a7,
    a_beginnings := f8,
    d_beginnings := _,
    F_beginnings := fun_mk (st := s_beginnings) l8 c8 k8,
    B_beginnings := (fun_mk (st := s_beginnings) l8 c8 k8).binds (ps := ["board", "hand"]) fun _ _ _ _ _ _ us hl => match us, hl with | [_, _], _ => rfl,
    m_beginnings := PySem.W.mg_of X G a8,
    a_at_end := f9,
    d_at_end := _,
    F_at_end := fun_mk (st := s_at_end) l9 c9 k9,
    B_at_end := (fun_mk (st := s_at_end) l9 c9 k9).binds (ps := ["board", "hand", "cell"]) fun _ _ _ _ _ _ us hl => match us, hl with | [_, _, _], _ => rfl,
    m_at_end := PySem.W.mg_of X G a9,
    a_road := f10,
    d_road := _,
    F_road := fun_mk (st := s_road) l10 c10 k10,
    B_road := (fun_mk (st := s_road) l10 c10 k10).binds (ps := ["board", "hand"]) fun _ _ _ _ _ _ us hl => match us, hl with | [_, _], _ => rfl,
    m_road := PySem.W.mg_of X G a10,
    a_joined := f11,
    d_joined := _,
    F_joined := fun_mk (st := s_joined) l11 c11 k11,
    B_joined := (fun_mk (st := s_joined) l11 c11 k11).binds (ps := ["board", "hand"]) fun _ _ _ _ _ _ us hl => match us, hl with | [_, _], _ => rfl,
    m_joined := PySem.W.mg_of X G a11,
    a_check_end := f12,
    d_check_end := _,
    F_check_end := fun_mk (st := s_check_end) l12 c12 k12,
    B_check_end := (fun_mk (st := s_check_end) l12 c12 k12).binds (ps := ["board"]) fun _ _ _ _ _ _ us hl => match us, hl with | [_], _ => rfl,
    m_check_end := PySem.W.mg_of X G a12,
    a_winning := f13,
    d_winning := _,
    F_winning := fun_mk (st := s_winning) l13 c13 k13,
    B_winning := (fun_mk (st := s_winning) l13 c13 k13).binds (ps := ["board", "hand", "known"]) fun _ _ _ _ _ _ us hl => match us, hl with | [_, _, _], _ => rfl,
    m_winning := PySem.W.mg_of X G a13,
    a_wins_by := f14,
    d_wins_by := _,
    F_wins_by := fun_mk (st := s_wins_by) l14 c14 k14,
    B_wins_by := (fun_mk (st := s_wins_by) l14 c14 k14).binds (ps := ["board", "hand", "cell", "known"]) fun _ _ _ _ _ _ us hl => match us, hl with | [_, _, _, _], _ => rfl,
    m_wins_by := PySem.W.mg_of X G a14,
    a_can_win := f15,
    d_can_win := _,
    F_can_win := fun_mk (st := s_can_win) l15 c15 k15,
    B_can_win := (fun_mk (st := s_can_win) l15 c15 k15).binds (ps := ["board", "hand"]) fun _ _ _ _ _ _ us hl => match us, hl with | [_, _], _ => rfl,
    m_can_win := PySem.W.mg_of X G a15,
    a_replies := f16,
    d_replies := _,
    F_replies := fun_mk (st := s_replies) l16 c16 k16,
    B_replies := (fun_mk (st := s_replies) l16 c16 k16).binds (ps := ["board", "hand"]) fun _ _ _ _ _ _ us hl => match us, hl with | [_, _], _ => rfl,
    m_replies := PySem.W.mg_of X G a16,
    a__law_cell_at := f17,
    d__law_cell_at := _,
    F__law_cell_at := fun_mk (st := s__law_cell_at) l17 c17 k17,
    B__law_cell_at := (fun_mk (st := s__law_cell_at) l17 c17 k17).binds (ps := ["script", "k"]) fun _ _ _ _ _ _ us hl => match us, hl with | [_, _], _ => rfl,
    m__law_cell_at := PySem.W.mg_of X G a17,
    a__law_mix := f18,
    d__law_mix := _,
    F__law_mix := fun_mk (st := s__law_mix) l18 c18 k18,
    B__law_mix := (fun_mk (st := s__law_mix) l18 c18 k18).binds (ps := ["cell", "k", "many"]) fun _ _ _ _ _ _ us hl => match us, hl with | [_, _, _], _ => rfl,
    m__law_mix := PySem.W.mg_of X G a18,
    a__law_rows_by := f19,
    d__law_rows_by := _,
    F__law_rows_by := fun_mk (st := s__law_rows_by) l19 c19 k19,
    B__law_rows_by := (fun_mk (st := s__law_rows_by) l19 c19 k19).binds (ps := ["script", "height", "width", "full"]) fun _ _ _ _ _ _ us hl => match us, hl with | [_, _, _, _], _ => rfl,
    m__law_rows_by := PySem.W.mg_of X G a19,
    a__law_size_by := f20,
    d__law_size_by := _,
    F__law_size_by := fun_mk (st := s__law_size_by) l20 c20 k20,
    B__law_size_by := (fun_mk (st := s__law_size_by) l20 c20 k20).binds (ps := ["script", "most"]) fun _ _ _ _ _ _ us hl => match us, hl with | [_, _], _ => rfl,
    m__law_size_by := PySem.W.mg_of X G a20,
    a__law_flood := f21,
    d__law_flood := _,
    F__law_flood := fun_mk (st := s__law_flood) l21 c21 k21,
    B__law_flood := (fun_mk (st := s__law_flood) l21 c21 k21).binds (ps := ["rows", "hand"]) fun _ _ _ _ _ _ us hl => match us, hl with | [_, _], _ => rfl,
    m__law_flood := PySem.W.mg_of X G a21,
    a__law_road := f22,
    d__law_road := _,
    F__law_road := fun_mk (st := s__law_road) l22 c22 k22,
    B__law_road := (fun_mk (st := s__law_road) l22 c22 k22).binds (ps := ["rows", "hand"]) fun _ _ _ _ _ _ us hl => match us, hl with | [_, _], _ => rfl,
    m__law_road := PySem.W.mg_of X G a22,
    a__law_put := f23,
    d__law_put := _,
    F__law_put := fun_mk (st := s__law_put) l23 c23 k23,
    B__law_put := (fun_mk (st := s__law_put) l23 c23 k23).binds (ps := ["rows", "cell", "letter"]) fun _ _ _ _ _ _ us hl => match us, hl with | [_, _, _], _ => rfl,
    m__law_put := PySem.W.mg_of X G a23,
    a__law_free := f24,
    d__law_free := _,
    F__law_free := fun_mk (st := s__law_free) l24 c24 k24,
    B__law_free := (fun_mk (st := s__law_free) l24 c24 k24).binds (ps := ["rows"]) fun _ _ _ _ _ _ us hl => match us, hl with | [_], _ => rfl,
    m__law_free := PySem.W.mg_of X G a24,
    a__law_open_by := f25,
    d__law_open_by := _,
    F__law_open_by := fun_mk (st := s__law_open_by) l25 c25 k25,
    B__law_open_by := (fun_mk (st := s__law_open_by) l25 c25 k25).binds (ps := ["script", "most"]) fun _ _ _ _ _ _ us hl => match us, hl with | [_, _], _ => rfl,
    m__law_open_by := PySem.W.mg_of X G a25,
    a__law_played := f26,
    d__law_played := _,
    F__law_played := fun_mk (st := s__law_played) l26 c26 k26,
    B__law_played := (fun_mk (st := s__law_played) l26 c26 k26).binds (ps := ["rows", "hand", "turn", "cell"]) fun _ _ _ _ _ _ us hl => match us, hl with | [_, _, _, _], _ => rfl,
    m__law_played := PySem.W.mg_of X G a26,
    a_law := fa,
    d_law := _,
    F_law := fun_mk (st := s_law) l27 c27 k27,
    B_law := (fun_mk (st := s_law) l27 c27 k27).binds (ps := ["script"]) fun _ _ _ _ _ _ us hl => match us, hl with | [_], _ => rfl,
    m_law := PySem.W.mg_of X G a27,
    C_Board := C_Board,
    cl_Board := ⟨pg_Board, hd_Board, po_Board, sa_Board⟩,
    mC_Board := PySem.W.mg_of X G aC_Board,
    Mk_Board := ⟨mk_Board, a2, i2, kc_Board⟩,
    n_Board_rows := n_Board_rows,
    n_Board_height := n_Board_height,
    n_Board_width := n_Board_width,
    M_Board_has := ⟨a3, i3, k3⟩,
    C_BadBoard := C_BadBoard,
    mC_BadBoard := PySem.W.mg_of X G aC_BadBoard,
    x_BadBoard := x_BadBoard,
    k_BadBoard := k_BadBoard,
    b_BadBoard := b_BadBoard,
    t_BadBoard := t_BadBoard,
    i_BadBoard := i_BadBoard,
    C_NoCell := C_NoCell,
    mC_NoCell := PySem.W.mg_of X G aC_NoCell,
    x_NoCell := x_NoCell,
    k_NoCell := k_NoCell,
    b_NoCell := b_NoCell,
    t_NoCell := t_NoCell,
    i_NoCell := i_NoCell,
    C_Over := C_Over,
    mC_Over := PySem.W.mg_of X G aC_Over,
    x_Over := x_Over,
    k_Over := k_Over,
    b_Over := b_Over,
    t_Over := t_Over,
    i_Over := i_Over,
    C_TooMany := C_TooMany,
    mC_TooMany := PySem.W.mg_of X G aC_TooMany,
    x_TooMany := x_TooMany,
    k_TooMany := k_TooMany,
    b_TooMany := b_TooMany,
    t_TooMany := t_TooMany,
    i_TooMany := i_TooMany,
    tk_MOST := tk_MOST,
    g_MOST := PySem.W.mg_of X G g_MOST,
    tk_MOST_EMPTY := tk_MOST_EMPTY,
    g_MOST_EMPTY := PySem.W.mg_of X G g_MOST_EMPTY,
    z_len := PySem.W.mg_none_of X G z_len,
    z_all := PySem.W.mg_none_of X G z_all,
    z_list := PySem.W.mg_none_of X G z_list,
    z_enumerate := PySem.W.mg_none_of X G z_enumerate,
    z_range := PySem.W.mg_none_of X G z_range,
    z_tuple := PySem.W.mg_none_of X G z_tuple,
    z_any := PySem.W.mg_none_of X G z_any,
    z_int := PySem.W.mg_none_of X G z_int,
    z_isinstance := PySem.W.mg_none_of X G z_isinstance }
  exact ⟨PySem.W.fnOf "law" "law" (defArgs s_law) (defBody s_law) (defScope s_law) .none kV27 dc27 pm27 an27 cd27 ct27, fun s v => .of_eq rfl, fun base _ _ => ok_law T⟩
theorem walk {l : PySem.W.OpenLaw} {q : Program} {loose : List Str} {XP : (Str → Option Value) → Heap → Prop} {YP : World → Heap → Prop} {d : DefRec} {K : Params → PySem.W.Frag} (hn : l.most = some 63) (hdf : d.params.defaults = [])
    (hY : ∀ (w : World) (h : Heap), YP w h → (K w.params).In h)
    (F : ∀ (w : World) (mg : Str → Option Value) (fa : Addr) (h : Heap), (K w.params).In h → h.Ns mainGlobals mg → mg d.name = some (.ref fa) →
      ∃ fd : FuncData, (∀ (s : Shared) (u : Value), BindsTo s fd ⟨[u], []⟩ [("script", u)]) ∧ ∀ base : Heap, (K w.params).In base → base.Ns mainGlobals mg → FnOk l.prog w (K w.params) mg base CX0 23 fa fd ["script"] (sp_law (K w.params))) :
    PySem.W.WalkO q loose XP YP l.row.toRowW d [] (fun f vs => PySem.call f vs) :=
  L2.walk_of (n := 63) (k := 23) (x := "script") (CX := fun _ => CX0) (sp := fun w => sp_law (K w.params)) hn (by decide) hdf ⟨rfl, by decide, by decide⟩ hY F (fun _ _ a ns hl _ hS => ⟨a, ns, rfl, hS, hl, fun _ => rfl⟩) fun _ _ _ _ _ z => z
end Sw
open PySem PySem.W PyProof.Rows in
set_option maxRecDepth 100000 in
set_option maxHeartbeats 0 in
theorem PySem.Challenge.cw_shoreways_k15_whole_told_replies_win_holds : PySem.Challenge.rw_shoreways_k15_whole_told_replies_win.Holds := by
  w_on; o_law; k_head; (case hw => w_witness2)
  k_fill
  refine Sw.walk (l := PySem.Challenge.rw_shoreways_k15_whole_told_replies_win) rfl rfl (fun w h Y => PySem.W.kIn_of Y) ?F
  case F =>
    intro w mg fa h KX G hmg
    refine' Sw.all_mk KX G hmg ?aC_Board ?aC_BadBoard ?aC_NoCell ?aC_Over ?aC_TooMany ?a1 ?l1 ?c1 ?k1 ?a2 ?i2 ?l2 ?c2 ?k2 ?a3 ?i3 ?l3 ?c3 ?k3 ?a4 ?l4 ?c4 ?k4 ?a5 ?l5 ?c5 ?k5 ?a6 ?l6 ?c6 ?k6 ?a7 ?l7 ?c7 ?k7 ?a8 ?l8 ?c8 ?k8 ?a9 ?l9 ?c9 ?k9 ?a10 ?l10 ?c10 ?k10 ?a11 ?l11 ?c11 ?k11 ?a12 ?l12 ?c12 ?k12 ?a13 ?l13 ?c13 ?k13 ?a14 ?l14 ?c14 ?k14 ?a15 ?l15 ?c15 ?k15 ?a16 ?l16 ?c16 ?k16 ?a17 ?l17 ?c17 ?k17 ?a18 ?l18 ?c18 ?k18 ?a19 ?l19 ?c19 ?k19 ?a20 ?l20 ?c20 ?k20 ?a21 ?l21 ?c21 ?k21 ?a22 ?l22 ?c22 ?k22 ?a23 ?l23 ?c23 ?k23 ?a24 ?l24 ?c24 ?k24 ?a25 ?l25 ?c25 ?k25 ?a26 ?l26 ?c26 ?k26 ?a27 ?l27 ?c27 ?k27 ?pg_Board ?hd_Board ?po_Board ?sa_Board ?mk_Board ?kc_Board ?n_Board_rows ?n_Board_height ?n_Board_width ?x_BadBoard ?k_BadBoard ?b_BadBoard ?t_BadBoard ?i_BadBoard ?x_NoCell ?k_NoCell ?b_NoCell ?t_NoCell ?i_NoCell ?x_Over ?k_Over ?b_Over ?t_Over ?i_Over ?x_TooMany ?k_TooMany ?b_TooMany ?t_TooMany ?i_TooMany ?g_MOST ?g_MOST_EMPTY ?z_len ?z_all ?z_list ?z_enumerate ?z_range ?z_tuple ?z_any ?z_int ?z_isinstance
    (case aC_Board => k_is)
    (case aC_BadBoard => k_is)
    (case aC_NoCell => k_is)
    (case aC_Over => k_is)
    (case aC_TooMany => k_is)
    (case a1 => k_is)
    (case l1 => k_is)
    (case c1 => k_is)
    (case k1 => k_is)
    (case a2 => k_is)
    (case i2 => k_is)
    (case l2 => k_is)
    (case c2 => k_is)
    (case k2 => k_is)
    (case a3 => k_is)
    (case i3 => k_is)
    (case l3 => k_is)
    (case c3 => k_is)
    (case k3 => k_is)
    (case a4 => k_is)
    (case l4 => k_is)
    (case c4 => k_is)
    (case k4 => k_is)
    (case a5 => k_is)
    (case l5 => k_is)
    (case c5 => k_is)
    (case k5 => k_is)
    (case a6 => k_is)
    (case l6 => k_is)
    (case c6 => k_is)
    (case k6 => k_is)
    (case a7 => k_is)
    (case l7 => k_is)
    (case c7 => k_is)
    (case k7 => k_is)
    (case a8 => k_is)
    (case l8 => k_is)
    (case c8 => k_is)
    (case k8 => k_is)
    (case a9 => k_is)
    (case l9 => k_is)
    (case c9 => k_is)
    (case k9 => k_is)
    (case a10 => k_is)
    (case l10 => k_is)
    (case c10 => k_is)
    (case k10 => k_is)
    (case a11 => k_is)
    (case l11 => k_is)
    (case c11 => k_is)
    (case k11 => k_is)
    (case a12 => k_is)
    (case l12 => k_is)
    (case c12 => k_is)
    (case k12 => k_is)
    (case a13 => k_is)
    (case l13 => k_is)
    (case c13 => k_is)
    (case k13 => k_is)
    (case a14 => k_is)
    (case l14 => k_is)
    (case c14 => k_is)
    (case k14 => k_is)
    (case a15 => k_is)
    (case l15 => k_is)
    (case c15 => k_is)
    (case k15 => k_is)
    (case a16 => k_is)
    (case l16 => k_is)
    (case c16 => k_is)
    (case k16 => k_is)
    (case a17 => k_is)
    (case l17 => k_is)
    (case c17 => k_is)
    (case k17 => k_is)
    (case a18 => k_is)
    (case l18 => k_is)
    (case c18 => k_is)
    (case k18 => k_is)
    (case a19 => k_is)
    (case l19 => k_is)
    (case c19 => k_is)
    (case k19 => k_is)
    (case a20 => k_is)
    (case l20 => k_is)
    (case c20 => k_is)
    (case k20 => k_is)
    (case a21 => k_is)
    (case l21 => k_is)
    (case c21 => k_is)
    (case k21 => k_is)
    (case a22 => k_is)
    (case l22 => k_is)
    (case c22 => k_is)
    (case k22 => k_is)
    (case a23 => k_is)
    (case l23 => k_is)
    (case c23 => k_is)
    (case k23 => k_is)
    (case a24 => k_is)
    (case l24 => k_is)
    (case c24 => k_is)
    (case k24 => k_is)
    (case a25 => k_is)
    (case l25 => k_is)
    (case c25 => k_is)
    (case k25 => k_is)
    (case a26 => k_is)
    (case l26 => k_is)
    (case c26 => k_is)
    (case k26 => k_is)
    (case a27 => k_is)
    (case l27 => k_is)
    (case c27 => k_is)
    (case k27 => k_is)
    (case pg_Board => k_is)
    (case hd_Board => k_is)
    (case po_Board => k_is)
    (case sa_Board => k_is)
    (case mk_Board => k_is)
    (case kc_Board => k_is)
    (case n_Board_rows => k_is)
    (case n_Board_height => k_is)
    (case n_Board_width => k_is)
    (case x_BadBoard => k_exc)
    (case k_BadBoard => k_is)
    (case b_BadBoard => k_is)
    (case t_BadBoard => k_is)
    (case i_BadBoard => k_is)
    (case x_NoCell => k_exc)
    (case k_NoCell => k_is)
    (case b_NoCell => k_is)
    (case t_NoCell => k_is)
    (case i_NoCell => k_is)
    (case x_Over => k_exc)
    (case k_Over => k_is)
    (case b_Over => k_is)
    (case t_Over => k_is)
    (case i_Over => k_is)
    (case x_TooMany => k_exc)
    (case k_TooMany => k_is)
    (case b_TooMany => k_is)
    (case t_TooMany => k_is)
    (case i_TooMany => k_is)
    (case g_MOST => k_is)
    (case g_MOST_EMPTY => k_is)
    (case z_len => k_is)
    (case z_all => k_is)
    (case z_list => k_is)
    (case z_enumerate => k_is)
    (case z_range => k_is)
    (case z_tuple => k_is)
    (case z_any => k_is)
    (case z_int => k_is)
    (case z_isinstance => k_is)
#print axioms PySem.Challenge.cw_shoreways_k15_whole_told_replies_win_holds
