/- line.Keep as a plain function; its contract. -/
import Derived.Test.YtajhllhkbhbmnaaPLinesx1
import Derived.Test.YtajhllhkbhbmnaaOwn
import Derived.Deep.RegionHeld3
import Derived.Deep.DeepCutAuto
namespace Go.Proofs.Ytajhllhkbhbmnaa.PLines
set_option linter.unusedVariables false
set_option linter.unusedSimpArgs false
open Go.RowKit Go.Proofs.YtajhllhkbhbmnaaW.PrintWords Go.Proofs.YtajhllhkbhbmnaaW.PrintLast Go.Proofs.YtajhllhkbhbmnaaW.PrintMore

def keepF (k : Nat) (l0 : List Int) (l1 : List ByteArray) (n : Int) (p : Int) (s : ByteArray) : Option (List Int × List ByteArray × Int × Int) :=
  (line_May.f k l0 l1 n).bind fun t => if t = true then ((line_begins.f p).bind fun b => if b = true then (if (s.size : Int) = 16 then ((slices_Index_int_int.f k l0 p).bind fun i => if i < 0 then some (l0.set n.toNat p, l1.set n.toNat s, (n + 1) % 2, 0) else some (l0.set i.toNat p, l1.set i.toNat s, n, 0)) else some ([], [], 0, 1200)) else some ([], [], 0, 1200)) else some ([], [], 0, 1200)

theorem keepF.mono : ∀ a0 a1 a2 a3 a4 k, LeO (keepF k a0 a1 a2 a3 a4) (keepF (k + 1) a0 a1 a2 a3 a4) := by
  intro a0 a1 a2 a3 a4 k
  unfold keepF
  refine LeO.bind (line_May.mono _ _ _ _) (fun _ => ?_)
  refine LeO.ite ?_ (LeO.refl _)
  refine LeO.bind (LeO.refl _) (fun _ => ?_)
  refine LeO.ite ?_ (LeO.refl _)
  refine LeO.ite ?_ (LeO.refl _)
  exact LeO.bind (slices_Index_int_int.mono _ _ _) (fun _ => LeO.refl _)

theorem may_bounds {k : Nat} {l0 : List Int} {l1 : List ByteArray} {n : Int} (h : line_May.f k l0 l1 n = some true) : l0.length = 2 ∧ l1.length = 2 ∧ 0 ≤ n ∧ n < 2 := by
  have j : ∀ k, line_May.j0 k true l0 l1 n ≠ some true := by
    intro k hk
    cases k with
    | zero => simp [line_May.j0] at hk
    | succ k => simp [line_May.j0] at hk
  unfold line_May.f at h
  split at h
  · split at h
    · split at h
      · exact absurd h (j k)
      · rename_i h1 h2 h3
        by_cases h4 : n ≥ 2
        · rw [decide_eq_true h4] at h; exact absurd h (j k)
        · omega
    · exact absurd h (j k)
  · exact absurd h (j k)

theorem index_bounds (l : List Int) (x n : Int) : ∀ (k : Nat) (i r : Int), slices_Index_int_int.l0 k l x n i = some r → r = -1 ∨ (0 ≤ r ∧ r < (l.length : Int))
  | 0, i, r, h => by simp [slices_Index_int_int.l0] at h
  | k + 1, i, r, h => by
    simp only [slices_Index_int_int.l0] at h
    split at h
    · split at h
      · split at h
        · split at h
          · simp only [Option.some.injEq] at h; omega
          · exact index_bounds l x n k _ r h
        · simp at h
      · simp at h
    · simp only [Option.some.injEq] at h; omega

/-- a row of two that is the call's own, laid open. -/
def Row2 (w : World) (B e g cap : Nat) (x y : Value) : Prop :=
  ∃ cur, B ≤ g ∧ w.heap[g]? = some (.cells cur e (0, 0)) ∧ 2 ≤ cap ∧ cap ≤ maxLen ∧ cur.size = cap ∧ cur[0]? = some x ∧ cur[1]? = some y
theorem Row2.below {w w' : World} {B e g cap : Nat} {x y : Value} (h : Row2 w B e g cap x y) (hb : Below w.heap.size w w') : Row2 w' B e g cap x y := by
  obtain ⟨cur, e2, e3, e4⟩ := h
  exact ⟨cur, e2, (hb.block g (Array.getElem?_eq_some_iff.1 e3).1).trans e3, e4⟩
theorem Row2.of {α : Type} {enc : α → Value} {h1 : ∀ x, (enc x).oneCell' = true} {w : World} {B B' e : Nat} {v : Value} {l : List α} (h : (Kd.scalar enc h1).R e w B (fun _ => True) v l) (hB : B' ≤ B) (x y : α) (hl : l = [x, y]) : ∃ g cap, v = .slice (some ⟨g, 0, none⟩) 2 cap ∧ Row2 w B' e g cap (enc x) (enc y) := by
  have ho := Kd.own_of_R h
  subst hl
  rcases ho.2 with ⟨-, h0⟩ | ⟨g, cap, cur, e1, e2, e3, e4, e5, e6, e7⟩
  · cases h0
  · refine ⟨g, cap, e1, cur, Nat.le_trans hB e2, e3, e4, e5, by simpa using e6, ?_⟩
    have h2 : ∀ j, j < 2 → cur.toList[j]? = (encs enc [x, y])[j]? := by
      intro j hj
      rw [← e7, List.getElem?_take, if_pos (by simpa using hj)]
    have a := h2 0 (by omega)
    have b := h2 1 (by omega)
    simp [encs] at a b
    exact ⟨by simpa using a, by simpa using b⟩

theorem heap_lt' {w : World} {b : Nat} {o : Obj} (h : w.heap[b]? = some o) : b < w.heap.size := (Array.getElem?_eq_some_iff.1 h).1
theorem blkFacts {w : World} {b : Nat} {cs : Array Value} {T : TypeId} (h : w.heap[b]? = some (.cells cs T (0, 0))) : (∀ i, w.cell? ⟨b, i, none⟩ = cs[i]?) ∧ (∀ i s, w.frozen? ⟨b, i, s⟩ = false) :=
  ⟨fun i => by simp [World.cell?, h], fun i s => by simp [World.frozen?, h]⟩
theorem blk3 {w : World} {b : Nat} {x y z x' y' z' : Value} {T : TypeId} (h : w.heap[b]? = some (.cells #[x, y, z] T (0, 0))) :
    (((w.setCell ⟨b, 0, none⟩ x').setCell ⟨b, 1, none⟩ y').setCell ⟨b, 2, none⟩ z').heap[b]? = some (.cells #[x', y', z'] T (0, 0)) := by
  simp [World.setCell, Array.getElem?_modify, h]
def P3 (b : Nat) (x y z : Value) (w' : World) : Prop := w'.cell? ⟨b, 0, none⟩ = some x ∧ w'.cell? ⟨b, 1, none⟩ = some y ∧ w'.cell? ⟨b, 2, none⟩ = some z
theorem P3.below {b : Nat} {x y z : Value} {w w' : World} (h : P3 b x y z w) (hb : Below w.heap.size w w') : P3 b x y z w' := by
  have hlt : b < w.heap.size := by
    apply Classical.byContradiction
    intro hn
    have := h.1
    simp [World.cell?, Array.getElem?_eq_none (Nat.le_of_not_lt hn)] at this
  exact ⟨(hb.cell (p := ⟨b, 0, none⟩) hlt).trans h.1, (hb.cell (p := ⟨b, 1, none⟩) hlt).trans h.2.1, (hb.cell (p := ⟨b, 2, none⟩) hlt).trans h.2.2⟩

theorem P3.lt {b : Nat} {x y z : Value} {w : World} (h : P3 b x y z w) : b < w.heap.size := by
  apply Classical.byContradiction
  intro hn
  have := h.1
  simp [World.cell?, Array.getElem?_eq_none (Nat.le_of_not_lt hn)] at this
theorem P3.set {b b' : Nat} {x y z : Value} {w : World} (h : P3 b x y z w) (hne : b < b') (j : Nat) (u : Value) : P3 b x y z (w.setCell ⟨b', j, none⟩ u) := by
  have e : (w.setCell ⟨b', j, none⟩ u).heap[b]? = w.heap[b]? := Below.heap_setCell w _ u b (by show b ≠ b'; omega)
  exact ⟨(cell_of_heap e).trans h.1, (cell_of_heap e).trans h.2.1, (cell_of_heap e).trans h.2.2⟩

def Q3 (b : Nat) (x y z : Value) (w' : World) : Prop := P3 b x y z w' ∧ w'.heap[b + 1]? = some (.cells #[.slice none 0 0, .slice none 0 0, .int .i64 0] 25 (0, 0))
theorem Q3.lt {b : Nat} {x y z : Value} {w : World} (h : Q3 b x y z w) : b + 1 < w.heap.size := heap_lt' h.2
theorem Q3.below {b : Nat} {x y z : Value} {w w' : World} (h : Q3 b x y z w) (hb : Below w.heap.size w w') : Q3 b x y z w' := ⟨h.1.below hb, (hb.block _ h.lt).trans h.2⟩
theorem Q3.set {b b' : Nat} {x y z : Value} {w : World} (h : Q3 b x y z w) (hne : b + 1 < b') (j : Nat) (u : Value) : Q3 b x y z (w.setCell ⟨b', j, none⟩ u) :=
  ⟨h.1.set (by omega) j u, (Below.heap_setCell w _ u (b + 1) (by show b + 1 ≠ b'; omega)).trans h.2⟩

theorem bcell {W w1 : World} (hb : Below W.heap.size W w1) : (∀ b o, b < W.heap.size → w1.cell? ⟨b, o, none⟩ = W.cell? ⟨b, o, none⟩) ∧ (∀ b o, b < W.heap.size → w1.frozen? ⟨b, o, none⟩ = W.frozen? ⟨b, o, none⟩) :=
  ⟨fun b o h => hb.cell (p := ⟨b, o, none⟩) h, fun b o h => hb.frozen (p := ⟨b, o, none⟩) h⟩
theorem begins_any (p : Int) (b : Bool) (h : line_begins.f p = some b) (w : World) : Calls Try.prog 17 #[.int .i64 p] w fun e w' => e = .returned (.bool b) ∧ Below w.heap.size w w' :=
  (line_begins.calls p b w h).mono fun _ _ ⟨a, b⟩ => ⟨a, b.below⟩

def KeepPost (w : World) (r1 : List Int) (r2 : List ByteArray) (r3 r4 : Int) (e : Ending) (w' : World) : Prop :=
  ∃ v0_ v1_ : Value, e = .returned (.tuple #[.agg #[v0_, v1_, .int .i64 r3], .int .i64 r4]) ∧ Kd.R (Kd.int .i64) 3 w' w.heap.size (fun _ => True) v0_ r1 ∧ Kd.R Kd.string 9 w' w.heap.size (fun _ => True) v1_ r2 ∧ Below w.heap.size w w'

set_option maxHeartbeats 16000000 in
set_option maxRecDepth 100000 in
theorem keep_no (k : Nat) (A0 : Option Addr) (c0 : Nat) (l0 : List Int) (A1 : Option Addr) (c1 : Nat) (l1 : List ByteArray) (n p : Int) (s : ByteArray) (w : World)
    (hr0 : Kd.C (Kd.int .i64) w A0 l0.length l0) (hc0 : l0.length ≤ c0) (hr1 : Kd.C Kd.string w A1 l1.length l1) (hc1 : l1.length ≤ c1)
    (t b : Bool) (hm : line_May.f k l0 l1 n = some t) (hb : line_begins.f p = some b) (hno : t = false ∨ b = false ∨ (s.size : Int) ≠ 16) :
    Calls Try.prog 5 #[.agg #[.slice A0 l0.length c0, .slice A1 l1.length c1, .int .i64 n], .int .i64 p, .string s] w (KeepPost w [] [] 0 1200) := by
  have hbb : Below w.heap.size w ((w.alloc (.cells #[.slice A0 l0.length c0, .slice A1 l1.length c1, .int .i64 n] 25)).alloc (.cells #[.slice none 0 0, .slice none 0 0, .int .i64 0] 25)) := ((Below.refl _ _).alloc (Nat.le_refl _) _).alloc (by simp) _
  have hM := line_May.calls k A0 c0 l0 A1 c1 l1 n t _ (Kd.C_below hr0 hbb) hc0 (Kd.C_below hr1 hbb) hc1 hm
  have HM := Go.Lib.hid hM
  have HBB := Go.Lib.hid hbb
  clear hM hbb
  have HB := Go.Lib.hid (begins_any p b hb)
  have H0 := Go.Lib.hid hr0
  have H1 := Go.Lib.hid hr1
  clear hm hb hr0 hr1 hc0 hc1
  have hnil : ∀ w', Below w.heap.size w w' → KeepPost w [] [] 0 1200 (.returned (.tuple #[.agg #[.slice none 0 0, .slice none 0 0, .int .i64 0], .int .i64 1200])) w' := fun w' hb => ⟨_, _, rfl, Kd.R_nil _ _ _ _ _, Kd.R_nil _ _ _ _ _, hb⟩
  have HN := Go.Lib.hid hnil
  clear hnil
  cases t with
  | false =>
    clear hno
    go_enter Try.func5, Try.ntmps5
    go_wp2_with (go_at_call 11; refine HM.out.mono ?_; rintro e w2 ⟨rfl, hb2⟩; obtain ⟨hc2, hf2⟩ := bcell hb2)
    refine bodyPost_ret (v := .tuple #[.agg #[.slice none 0 0, .slice none 0 0, .int .i64 0], .int .i64 1200]) (by simp [results, Try.results5, go_sem, hc2]) rfl (HN.out _ ?_)
    have h3 := HBB.out.trans (hb2.mono (by simp; omega))
    exact ((h3.setCell (by simp) _).setCell (by simp) _).setCell (by simp) _
  | true =>
    cases b with
    | false =>
      clear hno
      go_enter Try.func5, Try.ntmps5
      go_wp2_with first | (go_at_call 11; refine HM.out.mono ?_; rintro e w2 ⟨rfl, hb2⟩; obtain ⟨hc2, hf2⟩ := bcell hb2; have HB2 := Go.Lib.hid hb2; clear hb2) | (go_at_call 17; refine (HB.out _).mono ?_; rintro e w3 ⟨rfl, hb3⟩; have hb4 := HB2.out.trans (hb3.mono HB2.out.size); clear hc2 hf2; obtain ⟨hc2, hf2⟩ := bcell hb4; have HB4 := Go.Lib.hid hb4; clear hb3 hb4)
      refine bodyPost_ret (v := .tuple #[.agg #[.slice none 0 0, .slice none 0 0, .int .i64 0], .int .i64 1200]) (by simp [results, Try.results5, go_sem, hc2]) rfl (HN.out _ ?_)
      have h3 := HBB.out.trans (HB4.out.mono (by simp; omega))
      exact ((h3.setCell (by simp) _).setCell (by simp) _).setCell (by simp) _
    | true =>
      have hz : (s.size : Int) ≠ 16 := by rcases hno with h | h | h; cases h; cases h; exact h
      have hz1 : ((s.size : Int) == 16) = false := by simpa using hz
      have hz2 : ((s.size : Int) != 16) = true := by simpa using hz
      clear hz hno
      go_enter Try.func5, Try.ntmps5
      go_wp2_with first | (go_at_call 11; refine HM.out.mono ?_; rintro e w2 ⟨rfl, hb2⟩; obtain ⟨hc2, hf2⟩ := bcell hb2; have HB2 := Go.Lib.hid hb2; clear hb2) | (go_at_call 17; refine (HB.out _).mono ?_; rintro e w3 ⟨rfl, hb3⟩; have hb4 := HB2.out.trans (hb3.mono HB2.out.size); clear hc2 hf2; obtain ⟨hc2, hf2⟩ := bcell hb4; have HB4 := Go.Lib.hid hb4; clear hb3 hb4)
      refine bodyPost_ret (v := .tuple #[.agg #[.slice none 0 0, .slice none 0 0, .int .i64 0], .int .i64 1200]) (by simp [results, Try.results5, go_sem, hc2]) rfl (HN.out _ ?_)
      have h3 := HBB.out.trans (HB4.out.mono (by simp; omega))
      exact ((h3.setCell (by simp) _).setCell (by simp) _).setCell (by simp) _

theorem set_same {w : World} {g i : Nat} {cur : Array Value} {T : TypeId} {fz : Nat × Nat} {v : Value} (h : w.heap[g]? = some (.cells cur T fz)) : (w.setCell ⟨g, i, none⟩ v).heap[g]? = some (.cells (cur.setIfInBounds i v) T fz) := by
  simp [World.setCell, Array.getElem?_modify, h]
theorem set_other {w : World} {g b i : Nat} {v : Value} (h : g ≠ b) : (w.setCell ⟨b, i, none⟩ v).heap[g]? = w.heap[g]? := Below.heap_setCell w _ v g h
theorem row_end {α : Type} {enc : α → Value} {h1 : ∀ x, (enc x).oneCell' = true} {w' : World} {B e g cap : Nat} {cur : Array Value} {a b : α} (hB : B ≤ g) (hh : w'.heap[g]? = some (.cells cur e (0, 0))) (hc : 2 ≤ cap) (hm : cap ≤ maxLen) (hs : cur.size = cap)
    (c0 : cur[0]? = some (enc a)) (c1 : cur[1]? = some (enc b)) : Kd.R (Kd.scalar enc h1) e w' B (fun _ => True) (.slice (some ⟨g, 0, none⟩) 2 cap) [a, b] := by
  refine Kd.R_of_own (enc := enc) (h1 := h1) ?_ (fun _ _ => trivial)
  refine ⟨rfl, .inr ⟨g, cap, cur, rfl, hB, hh, hc, hm, by omega, ?_⟩⟩
  apply List.ext_getElem?
  intro j
  rw [List.getElem?_take]
  match j with
  | 0 => simpa [encs] using c0
  | 1 => simpa [encs] using c1
  | j + 2 => simp [encs]; omega
theorem get_same {cur : Array Value} {i : Nat} {v : Value} (h : i < cur.size) : (cur.setIfInBounds i v)[i]? = some v := by simp [h]
theorem get_other {cur : Array Value} {i j : Nat} {v : Value} (h : i ≠ j) : (cur.setIfInBounds i v)[j]? = cur[j]? := Array.getElem?_setIfInBounds_ne h
theorem drew_heap' (w : World) : w.drew.heap = w.heap := rfl

theorem Row2.blk3 {w : World} {B e g cap b : Nat} {x y : Value} {cs : Array Value} (h : Row2 w B e g cap x y) (hb : w.heap[b]? = some (.cells cs 25 (0, 0))) (he : e ≠ 25) {u v z : Value} :
    Row2 (((w.setCell ⟨b, 0, none⟩ u).setCell ⟨b, 1, none⟩ v).setCell ⟨b, 2, none⟩ z) B e g cap x y := by
  obtain ⟨cur, h1, h2, h3⟩ := h
  have hne : g ≠ b := by rintro rfl; rw [hb] at h2; simp at h2; exact he h2.2.symm
  exact ⟨cur, h1, (set_other hne).trans ((set_other hne).trans ((set_other hne).trans h2)), h3⟩

def KeepMid (w : World) (s0 s1 x0 x1 y0 y1 n : Value) (v8 : Value) (wx : World) : Prop :=
  ∃ gb g18 p18 g19 p19, v8 = .pointer (some ⟨gb, 0, none⟩) ∧ wx.heap[gb]? = some (.cells #[.slice (some ⟨g18, 0, none⟩) 2 p18, .slice (some ⟨g19, 0, none⟩) 2 p19, n] 25 (0, 0)) ∧ w.heap.size + 1 < gb ∧
    Row2 wx w.heap.size 3 g18 p18 x0 x1 ∧ Row2 wx w.heap.size 9 g19 p19 y0 y1 ∧ Below w.heap.size w wx ∧ Q3 w.heap.size s0 s1 n wx

set_option maxHeartbeats 16000000 in
set_option maxRecDepth 100000 in
theorem keep_yes (k : Nat) (A0 : Option Addr) (c0 : Nat) (x0 x1 : Int) (A1 : Option Addr) (c1 : Nat) (y0 y1 : ByteArray) (n p : Int) (s : ByteArray) (w : World)
    (hr0 : Kd.C (Kd.int .i64) w A0 2 [x0, x1]) (hc0 : 2 ≤ c0) (hr1 : Kd.C Kd.string w A1 2 [y0, y1]) (hc1 : 2 ≤ c1) (n0 : 0 ≤ n) (n1 : n < 2)
    (i r : Int) (j : Nat) (hm : line_May.f k [x0, x1] [y0, y1] n = some true) (hb : line_begins.f p = some true) (hz : (s.size : Int) = 16) (hi : slices_Index_int_int.f k [x0, x1] p = some i)
    (hj : (i < 0 ∧ j = n.toNat ∧ r = (n + 1) % 2) ∨ (0 ≤ i ∧ i < 2 ∧ j = i.toNat ∧ r = n)) :
    Calls Try.prog 5 #[.agg #[.slice A0 2 c0, .slice A1 2 c1, .int .i64 n], .int .i64 p, .string s] w (KeepPost w ([x0, x1].set j p) ([y0, y1].set j s) r 0) := by
  have HJ := Go.Lib.hid hj
  clear hj
  have hbb : Below w.heap.size w ((w.alloc (.cells #[.slice A0 2 c0, .slice A1 2 c1, .int .i64 n] 25)).alloc (.cells #[.slice none 0 0, .slice none 0 0, .int .i64 0] 25)) := ((Below.refl _ _).alloc (Nat.le_refl _) _).alloc (by simp) _
  have HM := Go.Lib.hid (line_May.calls k A0 c0 [x0, x1] A1 c1 [y0, y1] n true _ (Kd.C_below hr0 hbb) hc0 (Kd.C_below hr1 hbb) hc1 hm)
  have HBB := Go.Lib.hid hbb
  have HB := Go.Lib.hid (begins_any p true hb)
  have H0 := Go.Lib.hid hr0
  have H1 := Go.Lib.hid hr1
  have HI := Go.Lib.hid (fun w (h0 : Kd.C (Kd.int .i64) w A0 2 [x0, x1]) => slices_Index_int_int.calls k A0 c0 [x0, x1] p i w h0 hc0 hi)
  have hz1 : ((s.size : Int) == 16) = true := by simpa using hz
  have hz2 : ((s.size : Int) != 16) = false := by simpa using hz
  clear hm hb hr0 hr1 hc0 hc1 hbb hi hz
  go_enter Try.func5, Try.ntmps5
  go_upto_region 3 with (first | (go_at_call 11; refine HM.out.mono ?_; rintro e w2 ⟨rfl, hb2⟩; obtain ⟨hc2, hf2⟩ := bcell hb2; have HB2 := Go.Lib.hid hb2; clear hb2) | (go_at_call 17; refine (HB.out _).mono ?_; rintro e w3 ⟨rfl, hb3⟩; have hb4 := HB2.out.trans (hb3.mono HB2.out.size); clear hc2 hf2; obtain ⟨hc2, hf2⟩ := bcell hb4; have HB4 := Go.Lib.hid hb4; clear hb3 hb4))
  have hs0 := HB4.out.size
  simp only [World.size_alloc] at hs0
  have hd : w3.cell? ⟨w.heap.size, 0, none⟩ = some (.slice A0 2 c0) ∧ w3.cell? ⟨w.heap.size, 1, none⟩ = some (.slice A1 2 c1) ∧ w3.cell? ⟨w.heap.size, 2, none⟩ = some (.int .i64 n) :=
    ⟨(hc2 _ 0 (by simp; omega)).trans (by go_simp), (hc2 _ 1 (by simp; omega)).trans (by go_simp), (hc2 _ 2 (by simp; omega)).trans (by go_simp)⟩
  have hd2 : w3.heap[w.heap.size + 1]? = some (.cells #[.slice none 0 0, .slice none 0 0, .int .i64 0] 25 (0, 0)) := by
    refine (HB4.out.block _ (by simp)).trans ?_
    have := heap_alloc_new (w.alloc (.cells #[.slice A0 2 c0, .slice A1 2 c1, .int .i64 n] 25)) (.cells #[.slice none 0 0, .slice none 0 0, .int .i64 0] 25)
    simpa using this
  have h3 : Below w.heap.size w w3 := HBB.out.trans (HB4.out.mono (by simp; omega))
  have H3 := Go.Lib.hid h3.drew
  have HD := Go.Lib.hid (show Q3 w.heap.size _ _ _ w3.drew from ⟨hd, hd2⟩)
  clear hc2 hf2 h3 hd hs0 HBB HB4 HB2
  go_cut [8] (fun v8 wx => KeepMid w (.slice A0 2 c0) (.slice A1 2 c1) (.int .i64 x0) (.int .i64 x1) (.string y0) (.string y1) (.int .i64 n) v8 wx)
  case first =>
    go_region_held3 (fun w' => w'.cell? ⟨w.heap.size, 0, none⟩ = some (.slice A0 2 c0) ∧ w'.cell? ⟨w.heap.size, 1, none⟩ = some (.slice A1 2 c1) ∧ w'.cell? ⟨w.heap.size, 2, none⟩ = some (.int .i64 n))
      (first
        | exact HD.out.1
        | exact HD2.out.1
        | exact HD3.out.1
        | exact (((HD3.out.set HD2.out.lt _ _).set HD2.out.lt _ _).set HD2.out.lt _ _).1
        | exact (((HD3.out.set HD.out.lt _ _).set HD.out.lt _ _).set HD.out.lt _ _).1
        | ((first | refine (HD3.out.below ?_).1 | refine (HD2.out.below ?_).1 | refine (HD.out.below ?_).1); repeat (first | exact Below.refl _ _ | refine Below.setCell ?_ (Nat.le_refl _) _ | refine Below.alloc ?_ (Nat.le_refl _) _)))
      (first
        | (go_at_call 18; refine (clone18_c A0 c0 [x0, x1] _ (Kd.C_below H0.out ?hk18) (by simp)).mono ?_
           case hk18 => first | exact H3.out | exact H3b.out | exact H3.out.alloc (H3.out.size) _ | exact H3b.out.alloc (H3b.out.size) _
           rintro e w5 ⟨v18, rfl, hv, hb5⟩
           obtain ⟨g18, p18, rfl, hq⟩ := Row2.of (B' := w.heap.size) hv (by first | exact H3.out.size | exact H3b.out.size | exact Nat.le_trans H3b.out.size (by simp) | exact Nat.le_trans H3.out.size (by simp)) x0 x1 rfl
           have hN : Below w.heap.size w w5 := by
             refine Below.trans ?_ (hb5.mono ?_)
             · first | exact H3b.out | exact H3b.out.alloc (H3b.out.size) _ | exact H3.out | exact H3.out.alloc (H3.out.size) _
             · first | exact H3b.out.size | exact H3.out.size | exact Nat.le_trans H3b.out.size (by simp) | exact Nat.le_trans H3.out.size (by simp)
           have hP : Q3 w.heap.size (.slice A0 2 c0) (.slice A1 2 c1) (.int .i64 n) w5 := by
             refine Q3.below ?_ hb5
             first | exact HD2.out | exact HD.out | exact HD2.out.below ((Below.refl _ _).alloc (Nat.le_refl _) _) | exact HD.out.below ((Below.refl _ _).alloc (Nat.le_refl _) _)
           obtain ⟨hcN, hfN⟩ := bcell hb5
           have hsz := hb5.size
           try simp at hsz
           first
             | (have hB := (hb5.block _ (heap_lt' HBL.out)).trans HBL.out
                obtain ⟨hcB, hfB⟩ := blkFacts hB
                have HBF := Go.Lib.hid hB
                clear hB)
             | (have hB : w5.heap[w6.heap.size]? = some (.cells #[.slice none 0 0, .slice none 0 0, .int .i64 0] 25 (0, 0)) := (hb5.block _ (by simp)).trans (heap_alloc_new w6 _)
                have HBF := Go.Lib.hid hB
                clear hB)
             | (have hB : w5.heap[w3.heap.size]? = some (.cells #[.slice none 0 0, .slice none 0 0, .int .i64 0] 25 (0, 0)) := (hb5.block _ (by simp)).trans (heap_alloc_new w3.drew _)
                have HBL := Go.Lib.hid hB
                clear hB)
             | skip
           first
             | (have hR : Row2 w5 w.heap.size 9 g19 p19 (.string y0) (.string y1) := (by refine Row2.below ?_ hb5; first | exact R19b.out | exact R19b.out.below ((Below.refl _ _).alloc (Nat.le_refl _) _))
                have R19 := Go.Lib.hid hR; have R18 := Go.Lib.hid hq; have H3c := Go.Lib.hid hN; have HD3 := Go.Lib.hid hP; clear hR hq hN hP hb5 hv)
             | (have R18b := Go.Lib.hid hq; have H3b := Go.Lib.hid hN; have HD2 := Go.Lib.hid hP; clear hq hN hP hb5 hv))
        | (go_at_call 19; refine (clone19_c A1 c1 [y0, y1] _ (Kd.C_below H1.out ?hk19) (by simp)).mono ?_
           case hk19 => first | exact H3.out | exact H3b.out | exact H3.out.alloc (H3.out.size) _ | exact H3b.out.alloc (H3b.out.size) _
           rintro e w6 ⟨v19, rfl, hv, hb5⟩
           obtain ⟨g19, p19, rfl, hq⟩ := Row2.of (B' := w.heap.size) hv (by first | exact H3.out.size | exact H3b.out.size | exact Nat.le_trans H3b.out.size (by simp) | exact Nat.le_trans H3.out.size (by simp)) y0 y1 rfl
           have hN : Below w.heap.size w w6 := by
             refine Below.trans ?_ (hb5.mono ?_)
             · first | exact H3b.out | exact H3b.out.alloc (H3b.out.size) _ | exact H3.out | exact H3.out.alloc (H3.out.size) _
             · first | exact H3b.out.size | exact H3.out.size | exact Nat.le_trans H3b.out.size (by simp) | exact Nat.le_trans H3.out.size (by simp)
           have hP : Q3 w.heap.size (.slice A0 2 c0) (.slice A1 2 c1) (.int .i64 n) w6 := by
             refine Q3.below ?_ hb5
             first | exact HD2.out | exact HD.out | exact HD2.out.below ((Below.refl _ _).alloc (Nat.le_refl _) _) | exact HD.out.below ((Below.refl _ _).alloc (Nat.le_refl _) _)
           obtain ⟨hcN, hfN⟩ := bcell hb5
           have hsz := hb5.size
           try simp at hsz
           first
             | (have hB := (hb5.block _ (heap_lt' HBL.out)).trans HBL.out
                obtain ⟨hcB, hfB⟩ := blkFacts hB
                have HBF := Go.Lib.hid hB
                clear hB)
             | (have hB : w6.heap[w5.heap.size]? = some (.cells #[.slice none 0 0, .slice none 0 0, .int .i64 0] 25 (0, 0)) := (hb5.block _ (by simp)).trans (heap_alloc_new w5 _)
                have HBF := Go.Lib.hid hB
                clear hB)
             | (have hB : w6.heap[w3.heap.size]? = some (.cells #[.slice none 0 0, .slice none 0 0, .int .i64 0] 25 (0, 0)) := (hb5.block _ (by simp)).trans (heap_alloc_new w3.drew _)
                have HBL := Go.Lib.hid hB
                clear hB)
             | skip
           first
             | (have hR : Row2 w6 w.heap.size 3 g18 p18 (.int .i64 x0) (.int .i64 x1) := (by refine Row2.below ?_ hb5; first | exact R18b.out | exact R18b.out.below ((Below.refl _ _).alloc (Nat.le_refl _) _))
                have R18 := Go.Lib.hid hR; have R19 := Go.Lib.hid hq; have H3c := Go.Lib.hid hN; have HD3 := Go.Lib.hid hP; clear hR hq hN hP hb5 hv)
             | (have R19b := Go.Lib.hid hq; have H3b := Go.Lib.hid hN; have HD2 := Go.Lib.hid hP; clear hq hN hP hb5 hv)))
    all_goals
      go_wp2_with fail
      go_meet
      first
        | exact ⟨_, g18, p18, g19, p19, rfl, heap_alloc_new _ _, HD3.out.lt, R18.out.below ((Below.refl _ _).alloc (Nat.le_refl _) _), R19.out.below ((Below.refl _ _).alloc (Nat.le_refl _) _), H3c.out.alloc (H3c.out.size) _, HD3.out.below ((Below.refl _ _).alloc (Nat.le_refl _) _)⟩
        | exact ⟨_, g18, p18, g19, p19, rfl, blk3 HBF.out, HD2.out.lt, R18.out.blk3 HBF.out (by decide), R19.out.blk3 HBF.out (by decide), ((H3c.out.setCell (Nat.le_of_lt (Nat.lt_of_succ_lt HD2.out.lt)) _).setCell (Nat.le_of_lt (Nat.lt_of_succ_lt HD2.out.lt)) _).setCell (Nat.le_of_lt (Nat.lt_of_succ_lt HD2.out.lt)) _, ((HD3.out.set HD2.out.lt _ _).set HD2.out.lt _ _).set HD2.out.lt _ _⟩
        | exact ⟨_, g18, p18, g19, p19, rfl, blk3 HBF.out, HD.out.lt, R18.out.blk3 HBF.out (by decide), R19.out.blk3 HBF.out (by decide), ((H3c.out.setCell (Nat.le_of_lt (Nat.lt_of_succ_lt HD.out.lt)) _).setCell (Nat.le_of_lt (Nat.lt_of_succ_lt HD.out.lt)) _).setCell (Nat.le_of_lt (Nat.lt_of_succ_lt HD.out.lt)) _, ((HD3.out.set HD.out.lt _ _).set HD.out.lt _ _).set HD.out.lt _ _⟩
        | skip
  case rest =>
    obtain ⟨gb, g18, p18, g19, p19, rfl, hgb, hle, r18, r19, hbw, hp3⟩ := hcut
    obtain ⟨⟨c0', c1', c2'⟩, hrb⟩ := hp3
    obtain ⟨hcR, hfR⟩ := blkFacts hrb
    have d4 : w.heap.size + 1 ≠ gb := by omega
    have d4' : gb ≠ w.heap.size + 1 := by omega
    obtain ⟨hcB, hfB⟩ := blkFacts hgb
    have r18' := r18
    have r19' := r19
    obtain ⟨cur18, b18, h18, s18, m18, z18, e18, f18⟩ := r18
    obtain ⟨cur19, b19, h19, s19, m19, z19, e19, f19⟩ := r19
    obtain ⟨hcX, hfX⟩ := blkFacts h18
    obtain ⟨hcY, hfY⟩ := blkFacts h19
    have d1 : g18 ≠ gb := by rintro rfl; rw [hgb] at h18; simp at h18
    have d2 : g19 ≠ gb := by rintro rfl; rw [hgb] at h19; simp at h19
    have d3 : g18 ≠ g19 := by rintro rfl; rw [h19] at h18; simp at h18
    have d5 : g18 ≠ w.heap.size + 1 := by rintro rfl; rw [hrb] at h18; simp at h18
    have d6 : g19 ≠ w.heap.size + 1 := by rintro rfl; rw [hrb] at h19; simp at h19
    have d5' := Ne.symm d5
    have d6' := Ne.symm d6
    have HRB := Go.Lib.hid hrb
    clear hrb
    have d1' := Ne.symm d1
    have d2' := Ne.symm d2
    have d3' := Ne.symm d3
    have HBW := Go.Lib.hid hbw
    have R18 := Go.Lib.hid (And.intro b18 (And.intro h18 (And.intro s18 (And.intro m18 z18))))
    have R19 := Go.Lib.hid (And.intro b19 (And.intro h19 (And.intro s19 (And.intro m19 z19))))
    have HGB := Go.Lib.hid hgb
    have HLE := Go.Lib.hid hle
    clear hbw r18' r19' hgb h18 h19 b18 b19 s18 s19 m18 m19 z18 z19 hle
    have hj := HJ.out
    clear HJ
    have hn : (i < 0 ∧ n = 0 ∧ j = 0 ∧ r = 1) ∨ (i < 0 ∧ n = 1 ∧ j = 1 ∧ r = 0) ∨ (i = 0 ∧ j = 0 ∧ r = n) ∨ (i = 1 ∧ j = 1 ∧ r = n) := by omega
    clear hj
    rcases hn with ⟨hi0, rfl, rfl, rfl⟩ | ⟨hi0, rfl, rfl, rfl⟩ | ⟨rfl, rfl, rfl⟩ | ⟨rfl, rfl, rfl⟩
    · go_wp2_with (go_at_call 20; refine (HI.out _ (Kd.C_below H0.out HBW.out)).mono ?_; rintro e w7 ⟨rfl, hd⟩; obtain ⟨nd, rfl⟩ := hd)
      go_region
      go_wp2_with fail
      obtain ⟨q1, q2, q3, q4, q5⟩ := R18.out
      obtain ⟨r1, r2, r3, r4, r5⟩ := R19.out
      refine bodyPost_ret (v := .tuple #[.agg #[.slice (some ⟨g18, 0, none⟩) 2 p18, .slice (some ⟨g19, 0, none⟩) 2 p19, .int .i64 1], .int .i64 0]) (by simp [results, Try.results5, go_sem, *]) rfl ⟨_, _, rfl, ?_, ?_, ?_⟩
      · refine row_end (cur := cur18.setIfInBounds 0 (.int .i64 p)) q1 ?_ q3 q4 (by simpa using q5) (get_same (by omega)) ((get_other (by decide)).trans f18)
        rw [drew_heap', set_other d5, set_other d5, set_other d5, set_other d3, set_same ((set_other d1).trans (show (wc.drewN nd).heap[g18]? = _ from q2))]
      · refine row_end (cur := cur19.setIfInBounds 0 (.string s)) r1 ?_ r3 r4 (by simpa using r5) (get_same (by omega)) ((get_other (by decide)).trans f19)
        rw [drew_heap', set_other d6, set_other d6, set_other d6, set_same ((set_other d3').trans ((set_other d2).trans (show (wc.drewN nd).heap[g19]? = _ from r2)))]
      · exact (((((((pw_below_drewN HBW.out _).setCell (by have := HLE.out; show w.heap.size ≤ gb; omega) _).setCell q1 _).setCell r1 _).setCell (by simp) _).setCell (by simp) _).setCell (by simp) _).drew
    · go_wp2_with (go_at_call 20; refine (HI.out _ (Kd.C_below H0.out HBW.out)).mono ?_; rintro e w7 ⟨rfl, hd⟩; obtain ⟨nd, rfl⟩ := hd)
      go_region
      go_wp2_with fail
      obtain ⟨q1, q2, q3, q4, q5⟩ := R18.out
      obtain ⟨r1, r2, r3, r4, r5⟩ := R19.out
      refine bodyPost_ret (v := .tuple #[.agg #[.slice (some ⟨g18, 0, none⟩) 2 p18, .slice (some ⟨g19, 0, none⟩) 2 p19, .int .i64 0], .int .i64 0]) (by simp [results, Try.results5, go_sem, *]) rfl ⟨_, _, rfl, ?_, ?_, ?_⟩
      · refine row_end (cur := cur18.setIfInBounds 1 (.int .i64 p)) q1 ?_ q3 q4 (by simpa using q5) ((get_other (by decide)).trans e18) (get_same (by omega))
        rw [drew_heap', set_other d5, set_other d5, set_other d5, set_other d3, set_same ((set_other d1).trans (show (wc.drewN nd).heap[g18]? = _ from q2))]
      · refine row_end (cur := cur19.setIfInBounds 1 (.string s)) r1 ?_ r3 r4 (by simpa using r5) ((get_other (by decide)).trans e19) (get_same (by omega))
        rw [drew_heap', set_other d6, set_other d6, set_other d6, set_same ((set_other d3').trans ((set_other d2).trans (show (wc.drewN nd).heap[g19]? = _ from r2)))]
      · exact (((((((pw_below_drewN HBW.out _).setCell (by have := HLE.out; show w.heap.size ≤ gb; omega) _).setCell q1 _).setCell r1 _).setCell (by simp) _).setCell (by simp) _).setCell (by simp) _).drew
    · go_wp2_with (go_at_call 20; refine (HI.out _ (Kd.C_below H0.out HBW.out)).mono ?_; rintro e w7 ⟨rfl, hd⟩; obtain ⟨nd, rfl⟩ := hd)
      go_region
      go_wp2_with fail
      obtain ⟨q1, q2, q3, q4, q5⟩ := R18.out
      obtain ⟨r1, r2, r3, r4, r5⟩ := R19.out
      refine bodyPost_ret (v := .tuple #[.agg #[.slice (some ⟨g18, 0, none⟩) 2 p18, .slice (some ⟨g19, 0, none⟩) 2 p19, .int .i64 r], .int .i64 0]) (by simp [results, Try.results5, go_sem, *]) rfl ⟨_, _, rfl, ?_, ?_, ?_⟩
      · refine row_end (cur := cur18.setIfInBounds 0 (.int .i64 p)) q1 ?_ q3 q4 (by simpa using q5) (get_same (by omega)) ((get_other (by decide)).trans f18)
        rw [set_other d5, set_other d5, set_other d5, set_other d3, set_same (show (wc.drewN (nd + 1)).heap[g18]? = _ from q2)]
      · refine row_end (cur := cur19.setIfInBounds 0 (.string s)) r1 ?_ r3 r4 (by simpa using r5) (get_same (by omega)) ((get_other (by decide)).trans f19)
        rw [set_other d6, set_other d6, set_other d6, set_same ((set_other d3').trans (show (wc.drewN (nd + 1)).heap[g19]? = _ from r2))]
      · exact ((((((pw_below_drewN HBW.out _).setCell q1 _).setCell r1 _).setCell (by simp) _).setCell (by simp) _).setCell (by simp) _)
    · go_wp2_with (go_at_call 20; refine (HI.out _ (Kd.C_below H0.out HBW.out)).mono ?_; rintro e w7 ⟨rfl, hd⟩; obtain ⟨nd, rfl⟩ := hd)
      go_region
      go_wp2_with fail
      obtain ⟨q1, q2, q3, q4, q5⟩ := R18.out
      obtain ⟨r1, r2, r3, r4, r5⟩ := R19.out
      refine bodyPost_ret (v := .tuple #[.agg #[.slice (some ⟨g18, 0, none⟩) 2 p18, .slice (some ⟨g19, 0, none⟩) 2 p19, .int .i64 r], .int .i64 0]) (by simp [results, Try.results5, go_sem, *]) rfl ⟨_, _, rfl, ?_, ?_, ?_⟩
      · refine row_end (cur := cur18.setIfInBounds 1 (.int .i64 p)) q1 ?_ q3 q4 (by simpa using q5) ((get_other (by decide)).trans e18) (get_same (by omega))
        rw [set_other d5, set_other d5, set_other d5, set_other d3, set_same (show (wc.drewN (nd + 1)).heap[g18]? = _ from q2)]
      · refine row_end (cur := cur19.setIfInBounds 1 (.string s)) r1 ?_ r3 r4 (by simpa using r5) ((get_other (by decide)).trans e19) (get_same (by omega))
        rw [set_other d6, set_other d6, set_other d6, set_same ((set_other d3').trans (show (wc.drewN (nd + 1)).heap[g19]? = _ from r2))]
      · exact ((((((pw_below_drewN HBW.out _).setCell q1 _).setCell r1 _).setCell (by simp) _).setCell (by simp) _).setCell (by simp) _)
end Go.Proofs.Ytajhllhkbhbmnaa.PLines
