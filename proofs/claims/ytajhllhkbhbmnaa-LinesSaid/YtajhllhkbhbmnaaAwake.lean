/- lichenlaw12.awake: it is true. -/
import Derived.Test.YtajhllhkbhbmnaaPLinesx5
import Derived.Test.YtajhllhkbhbmnaaPLinesx6
import Derived.Test.YtajhllhkbhbmnaaPLinesx1b
namespace Go.Proofs.Ytajhllhkbhbmnaa.PLines
set_option linter.unusedVariables false
set_option linter.unusedSimpArgs false
open Go.RowKit Go.Proofs.YtajhllhkbhbmnaaW.PrintWords Go.Proofs.YtajhllhkbhbmnaaW.PrintLast Go.Proofs.YtajhllhkbhbmnaaW.PrintMore

/-! ### a cache's two rows -/
def CR (w : World) (A0 : Option Addr) (c0 : Nat) (l0 : List Int) (A1 : Option Addr) (c1 : Nat) (l1 : List ByteArray) : Prop :=
  Kd.R (Kd.int .i64) 3 w 0 (fun _ => True) (.slice A0 l0.length c0) l0 ∧ Kd.R Kd.string 9 w 0 (fun _ => True) (.slice A1 l1.length c1) l1

theorem R_keep {α : Type} {enc : α → Value} {h1 : ∀ x, (enc x).oneCell' = true} {e : Nat} {w w' : World} {v : Value} {l : List α} (h : (Kd.scalar enc h1).R e w 0 (fun _ => True) v l)
    (hh : ∀ (g : Nat) (cs : Array Value), w.heap[g]? = some (Obj.cells cs e (0, 0)) → w'.heap[g]? = some (Obj.cells cs e (0, 0))) : (Kd.scalar enc h1).R e w' 0 (fun _ => True) v l := by
  have ho := Kd.own_of_R h
  refine Kd.R_of_own (enc := enc) (h1 := h1) ?_ (fun _ _ => trivial)
  refine ⟨ho.1, ?_⟩
  rcases ho.2 with hn | ⟨g, cap, cur, e1, e2, e3, e4⟩
  · exact .inl hn
  · exact .inr ⟨g, cap, cur, e1, e2, hh g _ e3, e4⟩

theorem CR.keep {w w' : World} {A0 A1 c0 c1 l0 l1} (h : CR w A0 c0 l0 A1 c1 l1) (hh : ∀ (g : Nat) (cs : Array Value) (T : TypeId), T ≠ 25 → w.heap[g]? = some (Obj.cells cs T (0, 0)) → w'.heap[g]? = some (Obj.cells cs T (0, 0))) : CR w' A0 c0 l0 A1 c1 l1 :=
  ⟨R_keep h.1 (fun g cs => hh g cs 3 (by decide)), R_keep h.2 (fun g cs => hh g cs 9 (by decide))⟩
theorem CR.below {w w' : World} {A0 A1 c0 c1 l0 l1} (h : CR w A0 c0 l0 A1 c1 l1) (hb : Below w.heap.size w w') : CR w' A0 c0 l0 A1 c1 l1 :=
  h.keep fun g cs T _ e => (hb.block g (heap_lt' e)).trans e
theorem CR.drew {w : World} {A0 A1 c0 c1 l0 l1} (h : CR w A0 c0 l0 A1 c1 l1) : CR w.drew A0 c0 l0 A1 c1 l1 := h.keep fun g cs T _ e => e
theorem CR.put {w : World} {A0 A1 c0 c1 l0 l1} {b : Nat} {cs : Array Value} (h : CR w A0 c0 l0 A1 c1 l1) (hb : w.heap[b]? = some (Obj.cells cs 25 (0, 0))) (x y z : Value) :
    CR (((w.setCell ⟨b, 0, none⟩ x).setCell ⟨b, 1, none⟩ y).setCell ⟨b, 2, none⟩ z) A0 c0 l0 A1 c1 l1 :=
  h.keep fun g cs' T hT e => by
    have hne : g ≠ b := by rintro rfl; rw [hb] at e; simp at e; exact hT e.2.symm
    exact (set_other hne).trans ((set_other hne).trans ((set_other hne).trans e))
theorem CR.of {w : World} {B : Nat} {ok ok' v0 v1 l0 l1} (h0 : Kd.R (Kd.int .i64) 3 w B ok v0 l0) (h1 : Kd.R Kd.string 9 w B ok' v1 l1) : ∃ A0 c0 A1 c1, v0 = .slice A0 l0.length c0 ∧ v1 = .slice A1 l1.length c1 ∧ CR w A0 c0 l0 A1 c1 l1 := by
  obtain ⟨A0, c0, rfl⟩ := Kd.R_slice h0
  obtain ⟨A1, c1, rfl⟩ := Kd.R_slice h1
  refine ⟨A0, c0, A1, c1, rfl, rfl, ?_, ?_⟩
  · have ho := Kd.own_of_R h0
    refine Kd.R_of_own ⟨ho.1, ?_⟩ (fun _ _ => trivial)
    rcases ho.2 with hn | ⟨g, cap, cur, e1, e2, e3⟩
    · exact .inl hn
    · exact .inr ⟨g, cap, cur, e1, Nat.zero_le _, e3⟩
  · have ho := Kd.own_of_R h1
    refine Kd.R_of_own ⟨ho.1, ?_⟩ (fun _ _ => trivial)
    rcases ho.2 with hn | ⟨g, cap, cur, e1, e2, e3⟩
    · exact .inl hn
    · exact .inr ⟨g, cap, cur, e1, Nat.zero_le _, e3⟩
theorem CR.c {w : World} {A0 A1 c0 c1 l0 l1} (h : CR w A0 c0 l0 A1 c1 l1) : Kd.C (Kd.int .i64) w A0 l0.length l0 ∧ l0.length ≤ c0 ∧ Kd.C Kd.string w A1 l1.length l1 ∧ l1.length ≤ c1 :=
  ⟨(Kd.R_reads' h.1).2.2, (Kd.R_reads' h.1).2.1, (Kd.R_reads' h.2).2.2, (Kd.R_reads' h.2).2.1⟩

/-- a struct's block. -/
def Blk (b : Nat) (x y z : Value) (w : World) : Prop := w.heap[b]? = some (Obj.cells #[x, y, z] 25 (0, 0))
theorem Blk.lt {b x y z w} (h : Blk b x y z w) : b < w.heap.size := heap_lt' h
theorem Blk.below {b x y z w w'} (h : Blk b x y z w) (hb : Below w.heap.size w w') : Blk b x y z w' := (hb.block _ h.lt).trans h
theorem Blk.drew {b x y z w} (h : Blk b x y z w) : Blk b x y z w.drew := h
theorem Blk.put {b b' x y z w} (h : Blk b x y z w) (hne : b ≠ b') (x' y' z' : Value) : Blk b x y z (((w.setCell ⟨b', 0, none⟩ x').setCell ⟨b', 1, none⟩ y').setCell ⟨b', 2, none⟩ z') :=
  (set_other hne).trans ((set_other hne).trans ((set_other hne).trans h))
theorem Blk.put_same {b x y z w} (h : Blk b x y z w) (x' y' z' : Value) : Blk b x' y' z' (((w.setCell ⟨b, 0, none⟩ x').setCell ⟨b, 1, none⟩ y').setCell ⟨b, 2, none⟩ z') := blk3 h
theorem Blk.cells {b x y z w} (h : Blk b x y z w) : w.cell? ⟨b, 0, none⟩ = some x ∧ w.cell? ⟨b, 1, none⟩ = some y ∧ w.cell? ⟨b, 2, none⟩ = some z := by
  have := (blkFacts h).1
  exact ⟨this 0, this 1, this 2⟩

/-! ### the functions' contracts in these words -/
def textA : ByteArray := strOfNums [97, 98, 99, 100, 101, 102, 103, 104, 105, 106, 107, 108, 109, 110, 111, 112]
theorem textA_c (w : World) : Calls Try.prog 28 #[.int .u8 97] w fun e w' => e = .returned (.string textA) ∧ Below w.heap.size w w' :=
  lichenlaw12_text.calls 40 97 textA w (by kernel_rfl)

abbrev e0 : ByteArray := ⟨#[]⟩
theorem new_c (w : World) : Calls Try.prog 13 #[] w fun e w' => ∃ A0 c0 A1 c1, e = .returned (.agg #[.slice A0 2 c0, .slice A1 2 c1, .int .i64 0]) ∧ CR w' A0 c0 [-1, -1] A1 c1 [e0, e0] ∧ Below w.heap.size w w' :=
  (line_New.calls [-1, -1] [e0, e0] 0 w (by rfl)).mono fun e w' ⟨v0, v1, he, h0, h1, hb⟩ => by
    obtain ⟨A0, c0, A1, c1, rfl, rfl, h⟩ := CR.of h0 h1
    exact ⟨A0, c0, A1, c1, he, h, hb⟩
theorem keepc {w : World} {A0 A1 c0 c1 l0 l1} (h : CR w A0 c0 l0 A1 c1 l1) (k : Nat) (n p : Int) (s : ByteArray) (r1 : List Int) (r2 : List ByteArray) (r3 r4 : Int) (hk : keepF k l0 l1 n p s = some (r1, r2, r3, r4)) :
    Calls Try.prog 5 #[.agg #[.slice A0 l0.length c0, .slice A1 l1.length c1, .int .i64 n], .int .i64 p, .string s] w fun e w' => ∃ A0' c0' A1' c1', e = .returned (.tuple #[.agg #[.slice A0' r1.length c0', .slice A1' r2.length c1', .int .i64 r3], .int .i64 r4]) ∧ CR w' A0' c0' r1 A1' c1' r2 ∧ Below w.heap.size w w' :=
  (keep_calls k A0 c0 l0 A1 c1 l1 n p s r1 r2 r3 r4 w h.c.1 h.c.2.1 h.c.2.2.1 h.c.2.2.2 hk).mono fun e w' ⟨v0, v1, he, h0, h1, hb⟩ => by
    obtain ⟨A0, c0, A1, c1, rfl, rfl, h⟩ := CR.of h0 h1
    exact ⟨A0, c0, A1, c1, he, h, hb⟩

theorem k1 : keepF 40 [-1, -1] [e0, e0] 0 32 textA = some ([32, -1], [textA, e0], 1, 0) := by kernel_rfl
theorem k2 : keepF 40 [-1, -1] [e0, e0] 0 33 textA = some ([], [], 0, 1200) := by kernel_rfl
theorem k3 : keepF 40 [] [] 0 32 textA = some ([], [], 0, 1200) := by kernel_rfl
theorem f1 : line_Find.f 40 [32, -1] [textA, e0] 1 35 = some (100, true) := by kernel_rfl
theorem f2 : line_Find.f 40 [32, -1] [textA, e0] 1 48 = some (0, false) := by kernel_rfl
theorem m1 : line_May.f 40 [-1, -1] [e0, e0] 0 = some true := by kernel_rfl
theorem m2 : line_May.f 40 [32, -1] [textA, e0] 1 = some true := by kernel_rfl
theorem m3 : line_May.f 40 [] [] 0 = some false := by kernel_rfl

theorem keepc_text {w : World} {A0 A1 c0 c1} (p : Int) (r1 : List Int) (r2 : List ByteArray) (r3 r4 : Int) (hk : keepF 40 [-1, -1] [e0, e0] 0 p textA = some (r1, r2, r3, r4)) (h : CR w A0 c0 [-1, -1] A1 c1 [e0, e0]) :
    Calls Try.prog 5 #[.agg #[.slice A0 2 c0, .slice A1 2 c1, .int .i64 0], .int .i64 p, .string textA] w fun e w' => ∃ A0' c0' A1' c1', e = .returned (.tuple #[.agg #[.slice A0' r1.length c0', .slice A1' r2.length c1', .int .i64 r3], .int .i64 r4]) ∧ CR w' A0' c0' r1 A1' c1' r2 ∧ Below w.heap.size w w' :=
  keepc h 40 0 p textA r1 r2 r3 r4 hk

theorem CR.nil (w : World) : CR w none 0 [] none 0 [] := ⟨Kd.R_of_own (w := w) (v := .slice none 0 0) (xs := []) ⟨rfl, .inl ⟨rfl, rfl⟩⟩ (fun _ _ => trivial), Kd.R_of_own (w := w) (v := .slice none 0 0) (xs := []) ⟨rfl, .inl ⟨rfl, rfl⟩⟩ (fun _ _ => trivial)⟩
theorem may1 {w : World} {A0 A1 c0 c1} (h : CR w A0 c0 [-1, -1] A1 c1 [e0, e0]) : Calls Try.prog 11 #[.agg #[.slice A0 2 c0, .slice A1 2 c1, .int .i64 0]] w fun e w' => e = .returned (.bool true) ∧ Below w.heap.size w w' :=
  line_May.calls 40 A0 c0 [-1, -1] A1 c1 [e0, e0] 0 true w h.c.1 h.c.2.1 h.c.2.2.1 h.c.2.2.2 m1
theorem may2 {w : World} {A0 A1 c0 c1} (h : CR w A0 c0 [32, -1] A1 c1 [textA, e0]) : Calls Try.prog 11 #[.agg #[.slice A0 2 c0, .slice A1 2 c1, .int .i64 1]] w fun e w' => e = .returned (.bool true) ∧ Below w.heap.size w w' :=
  line_May.calls 40 A0 c0 [32, -1] A1 c1 [textA, e0] 1 true w h.c.1 h.c.2.1 h.c.2.2.1 h.c.2.2.2 m2
theorem may3 (w : World) : Calls Try.prog 11 #[.agg #[.slice none 0 0, .slice none 0 0, .int .i64 0]] w fun e w' => e = .returned (.bool false) ∧ Below w.heap.size w w' :=
  line_May.calls 40 none 0 [] none 0 [] 0 false w (CR.nil w).c.1 (CR.nil w).c.2.1 (CR.nil w).c.2.2.1 (CR.nil w).c.2.2.2 m3
theorem num_c (x : Int) (w : World) : Calls Try.prog 10 #[.int .i64 x] w fun e w' => e = .returned (.int .i64 x) ∧ Below w.heap.size w w' :=
  (lichenlaw0_Num.calls x x w rfl).mono fun _ _ ⟨a, b⟩ => ⟨a, b.below⟩

/-- what stays: the block of the first cache, its rows, and what there was. -/
def St (w : World) (A0 : Option Addr) (c0 : Nat) (A1 : Option Addr) (c1 : Nat) (b : Nat) (w' : World) : Prop :=
  Blk b (.slice A0 2 c0) (.slice A1 2 c1) (.int .i64 0) w' ∧ CR w' A0 c0 [-1, -1] A1 c1 [e0, e0] ∧ Below w.heap.size w w'
theorem St.below {w A0 c0 A1 c1 b w1 w2} (h : St w A0 c0 A1 c1 b w1) (hb : Below w1.heap.size w1 w2) : St w A0 c0 A1 c1 b w2 :=
  ⟨h.1.below hb, h.2.1.below hb, h.2.2.trans (hb.mono h.2.2.size)⟩
theorem St.alloc {w A0 c0 A1 c1 b w1} (h : St w A0 c0 A1 c1 b w1) (o : Obj) : St w A0 c0 A1 c1 b (w1.alloc o) := h.below ((Below.refl _ _).alloc (Nat.le_refl _) o)
theorem St.drew {w A0 c0 A1 c1 b w1} (h : St w A0 c0 A1 c1 b w1) : St w A0 c0 A1 c1 b w1.drew := h.below (Below.refl _ _).drew
theorem St.put {w A0 c0 A1 c1 b w1 b' u v q} (h : St w A0 c0 A1 c1 b w1) (hb : Blk b' u v q w1) (hne : b < b') (hle : w.heap.size ≤ b') (x y z : Value) :
    St w A0 c0 A1 c1 b (((w1.setCell ⟨b', 0, none⟩ x).setCell ⟨b', 1, none⟩ y).setCell ⟨b', 2, none⟩ z) :=
  ⟨h.1.put (by omega) x y z, h.2.1.put hb x y z, ((h.2.2.setCell hle _).setCell hle _).setCell hle _⟩
theorem St.cells {w A0 c0 A1 c1 b w1} (h : St w A0 c0 A1 c1 b w1) : w1.cell? ⟨b, 0, none⟩ = some (.slice A0 2 c0) ∧ w1.cell? ⟨b, 1, none⟩ = some (.slice A1 2 c1) ∧ w1.cell? ⟨b, 2, none⟩ = some (.int .i64 0) := h.1.cells
theorem St.le {w A0 c0 A1 c1 b w1} (h : St w A0 c0 A1 c1 b w1) : w.heap.size ≤ w1.heap.size := h.2.2.size

/-- behind a region that keeps: the struct's new block, its rows, and nothing else has turned. -/
def Mid (S : World → Prop) (b : Nat) (r1 : List Int) (r2 : List ByteArray) (r3 r4 : Int) (v e : Value) (w' : World) : Prop :=
  ∃ b' A0' c0' A1' c1', v = .pointer (some ⟨b', 0, none⟩) ∧ e = .int .i64 r4 ∧ b < b' ∧ S w' ∧ Blk b' (.slice A0' r1.length c0') (.slice A1' r2.length c1') (.int .i64 r3) w' ∧ CR w' A0' c0' r1 A1' c1' r2

def St2 (w : World) (A0 : Option Addr) (c0 : Nat) (A1 : Option Addr) (c1 : Nat) (b : Nat) (A2 : Option Addr) (c2 : Nat) (A3 : Option Addr) (c3 : Nat) (d : Nat) (w' : World) : Prop :=
  St w A0 c0 A1 c1 b w' ∧ b < d ∧ Blk d (.slice A2 2 c2) (.slice A3 2 c3) (.int .i64 1) w' ∧ CR w' A2 c2 [32, -1] A3 c3 [textA, e0]
theorem St2.below {w A0 c0 A1 c1 b A2 c2 A3 c3 d w1 w2} (h : St2 w A0 c0 A1 c1 b A2 c2 A3 c3 d w1) (hb : Below w1.heap.size w1 w2) : St2 w A0 c0 A1 c1 b A2 c2 A3 c3 d w2 :=
  ⟨h.1.below hb, h.2.1, h.2.2.1.below hb, h.2.2.2.below hb⟩
theorem St2.alloc {w A0 c0 A1 c1 b A2 c2 A3 c3 d w1} (h : St2 w A0 c0 A1 c1 b A2 c2 A3 c3 d w1) (o : Obj) : St2 w A0 c0 A1 c1 b A2 c2 A3 c3 d (w1.alloc o) := h.below ((Below.refl _ _).alloc (Nat.le_refl _) o)
theorem St2.drew {w A0 c0 A1 c1 b A2 c2 A3 c3 d w1} (h : St2 w A0 c0 A1 c1 b A2 c2 A3 c3 d w1) : St2 w A0 c0 A1 c1 b A2 c2 A3 c3 d w1.drew := h.below (Below.refl _ _).drew
theorem St2.put {w A0 c0 A1 c1 b A2 c2 A3 c3 d w1 b' u v q} (h : St2 w A0 c0 A1 c1 b A2 c2 A3 c3 d w1) (hb : Blk b' u v q w1) (hne : d < b') (hle : w.heap.size ≤ b') (x y z : Value) :
    St2 w A0 c0 A1 c1 b A2 c2 A3 c3 d (((w1.setCell ⟨b', 0, none⟩ x).setCell ⟨b', 1, none⟩ y).setCell ⟨b', 2, none⟩ z) :=
  ⟨h.1.put hb (by have := h.2.1; omega) hle x y z, h.2.1, h.2.2.1.put (by omega) x y z, h.2.2.2.put hb x y z⟩
theorem St2.lt {w A0 c0 A1 c1 b A2 c2 A3 c3 d w1} (h : St2 w A0 c0 A1 c1 b A2 c2 A3 c3 d w1) : d < w1.heap.size ∧ w.heap.size ≤ w1.heap.size := ⟨h.2.2.1.lt, h.1.le⟩
theorem St2.cells {w A0 c0 A1 c1 b A2 c2 A3 c3 d w1} (h : St2 w A0 c0 A1 c1 b A2 c2 A3 c3 d w1) : w1.cell? ⟨b, 0, none⟩ = some (.slice A0 2 c0) ∧ w1.cell? ⟨b, 1, none⟩ = some (.slice A1 2 c1) ∧ w1.cell? ⟨b, 2, none⟩ = some (.int .i64 0) := h.1.1.cells

set_option maxHeartbeats 16000000 in
set_option maxRecDepth 100000 in
theorem awake_c (w : World) : Calls Try.prog 16 #[] w fun e w' => e = .returned (.bool true) ∧ Below w.heap.size w w' := by
  go_enter Try.func16, Try.ntmps16
  go_upto_region 2 with (go_at_call 13; refine (new_c _).mono ?_; rintro e w2 ⟨A0, c0, A1, c1, rfl, h2, hb2⟩; have H2 := Go.Lib.hid h2; have HB2 := Go.Lib.hid hb2; clear h2 hb2)
  obtain ⟨b, hbd⟩ : ∃ b : Nat, b = w2.heap.size := ⟨_, rfl⟩
  have G3 := Go.Lib.hid (show St w A0 c0 A1 c1 b (w2.alloc (.cells #[.slice A0 2 c0, .slice A1 2 c1, .int .i64 0] 25)) from
    ⟨by subst hbd; exact heap_alloc_new w2 _, H2.out.below ((Below.refl _ w2).alloc (Nat.le_refl _) _), HB2.out.alloc HB2.out.size _⟩)
  rw [← hbd]
  clear H2 HB2
  generalize (w2.alloc (.cells #[.slice A0 2 c0, .slice A1 2 c1, .int .i64 0] 25)) = w3 at G3 ⊢
  clear hbd w2
  go_cut [2, 3] (fun v2 v3 wx => Mid (St w A0 c0 A1 c1 b) b [32, -1] [textA, e0] 1 0 v2 v3 wx)
  case first =>
    have G4 := Go.Lib.hid G3.out.drew
    go_region_held3 (fun w' => w'.cell? ⟨b, 0, none⟩ = some (.slice A0 2 c0) ∧ w'.cell? ⟨b, 1, none⟩ = some (.slice A1 2 c1) ∧ w'.cell? ⟨b, 2, none⟩ = some (.int .i64 0))
      (first
        | with_reducible exact G4.out.cells
        | with_reducible exact G5.out.cells
        | with_reducible exact G6.out.cells
        | with_reducible exact (G4.out.alloc _).cells
        | with_reducible exact (G5.out.alloc _).cells
        | with_reducible exact (G6.out.alloc _).cells
        | with_reducible exact (G6.out.put BL6.out BL6c.out.1 BL6c.out.2 _ _ _).cells
        | exact (G5.out.alloc _).cells
        | exact (G4.out.alloc _).cells
        | exact G4.out.cells)
      (first
        | (go_at_call 28; refine (textA_c _).mono ?_; rintro e w5 ⟨rfl, hb5⟩
           have G5 := Go.Lib.hid (show St w A0 c0 A1 c1 b w5 by first | exact G4.out.below hb5 | exact (G4.out.alloc _).below hb5)
           first
             | (have BL5 := Go.Lib.hid (show Blk w3.heap.size _ _ _ w5 from Blk.below (heap_alloc_new w3.drew _) hb5); have BL5c := Go.Lib.hid (show b < w3.heap.size ∧ w.heap.size ≤ w3.heap.size from And.intro G4.out.1.lt G4.out.le); clear hb5)
             | clear hb5)
        | (go_at_call 5; refine (keepc_text 32 _ _ _ _ k1 (by first | exact G5.out.2.1 | exact (G5.out.alloc _).2.1)).mono ?_; rintro e w6 ⟨A2, c2, A3, c3, rfl, h6, hb6⟩
           have D6 := Go.Lib.hid h6
           have G6 := Go.Lib.hid (show St w A0 c0 A1 c1 b w6 by first | exact G5.out.below hb6 | exact (G5.out.alloc _).below hb6)
           first
             | (have BL6 := Go.Lib.hid (BL5.out.below hb6); have BL6c := Go.Lib.hid BL5c.out; obtain ⟨hcB, hfB⟩ := blkFacts BL6.out; clear hb6 h6)
             | (have BL6 := Go.Lib.hid (Blk.below (heap_alloc_new w5 _) hb6); have BL6c := Go.Lib.hid (And.intro G5.out.1.lt G5.out.le); obtain ⟨hcB, hfB⟩ := blkFacts BL6.out; clear hb6 h6)
             | clear hb6 h6))
    all_goals
      go_wp2_with fail
      go_meet
      first
        | exact ⟨w6.heap.size, A2, c2, A3, c3, rfl, rfl, G6.out.1.lt, G6.out.alloc _, heap_alloc_new _ _, D6.out.below ((Below.refl _ _).alloc (Nat.le_refl _) _)⟩
        | exact ⟨_, A2, c2, A3, c3, rfl, rfl, BL6c.out.1, G6.out.put BL6.out BL6c.out.1 BL6c.out.2 _ _ _, BL6.out.put_same _ _ _, D6.out.put BL6.out _ _ _⟩
        | skip
  case rest =>
    clear G3
    obtain ⟨d, A2, c2, A3, c3, rfl, rfl, hbd, g3, hd, h2⟩ := hcut
    have HG := Go.Lib.hid (show St2 w A0 c0 A1 c1 b A2 c2 A3 c3 d wc from ⟨g3, hbd, hd, h2⟩)
    obtain ⟨e0', e1', e2'⟩ := hd.cells
    clear g3 hd h2 hbd
    have F1 := Go.Lib.hid fun (w' : World) (h : CR w' A2 c2 [32, -1] A3 c3 [textA, e0]) => line_Find.calls 40 A2 c2 [32, -1] A3 c3 [textA, e0] 1 35 100 true w' h.c.1 h.c.2.1 h.c.2.2.1 h.c.2.2.2 f1
    have F2 := Go.Lib.hid fun (w' : World) (h : CR w' A2 c2 [32, -1] A3 c3 [textA, e0]) => line_Find.calls 40 A2 c2 [32, -1] A3 c3 [textA, e0] 1 48 0 false w' h.c.1 h.c.2.1 h.c.2.2.1 h.c.2.2.2 f2
    have hl2 : ([32, -1] : List Int).length = 2 := rfl
    go_upto_region 4 with (go_at_call 7; refine (F1.out _ HG.out.2.2.2).mono ?_; rintro e wf ⟨rfl, hbf⟩; have HG4 := Go.Lib.hid (HG.out.below hbf); clear hbf)
    obtain ⟨e0f, e1f, e2f⟩ := HG4.out.2.2.1.cells
    clear HG F1 e0' e1' e2'
    go_upto_region 5 with (go_at_call 7; refine (F2.out _ HG4.out.2.2.2).mono ?_; rintro e wg ⟨rfl, hbf⟩; have HG5 := Go.Lib.hid (HG4.out.below hbf); clear hbf)
    clear HG4 e0f e1f e2f F2
    go_cut [9] (fun v9 wx => v9 = .int .i64 1200 ∧ St2 w A0 c0 A1 c1 b A2 c2 A3 c3 d wx)
    case first =>
      have G4 := Go.Lib.hid HG5.out.drew
      go_region_held3 (fun w' => w'.cell? ⟨b, 0, none⟩ = some (.slice A0 2 c0) ∧ w'.cell? ⟨b, 1, none⟩ = some (.slice A1 2 c1) ∧ w'.cell? ⟨b, 2, none⟩ = some (.int .i64 0))
        (first
          | with_reducible exact G4.out.cells
          | with_reducible exact G5.out.cells
          | with_reducible exact G6.out.cells
          | with_reducible exact (G4.out.alloc _).cells
          | with_reducible exact (G5.out.alloc _).cells
          | with_reducible exact (G6.out.alloc _).cells
          | with_reducible exact (G6.out.put BL6.out BL6c.out.1 BL6c.out.2 _ _ _).cells
          | exact (G5.out.alloc _).cells
          | exact (G4.out.alloc _).cells
          | exact G4.out.cells)
        (first
          | (go_at_call 28; refine (textA_c _).mono ?_; rintro e w5 ⟨rfl, hb5⟩
             have G5 := Go.Lib.hid (show St2 w A0 c0 A1 c1 b A2 c2 A3 c3 d w5 by first | exact G4.out.below hb5 | exact (G4.out.alloc _).below hb5)
             first
               | (have BL5 := Go.Lib.hid (show Blk wg.heap.size _ _ _ w5 from Blk.below (heap_alloc_new wg.drew _) hb5); have BL5c := Go.Lib.hid (show d < wg.heap.size ∧ w.heap.size ≤ wg.heap.size from G4.out.lt); clear hb5)
               | clear hb5)
          | (go_at_call 5; refine (keepc_text 33 _ _ _ _ k2 (by first | exact G5.out.1.2.1 | exact (G5.out.alloc _).1.2.1)).mono ?_; rintro e w6 ⟨A4, c4, A5, c5, rfl, h6, hb6⟩
             have G6 := Go.Lib.hid (show St2 w A0 c0 A1 c1 b A2 c2 A3 c3 d w6 by first | exact G5.out.below hb6 | exact (G5.out.alloc _).below hb6)
             first
               | (have BL6 := Go.Lib.hid (BL5.out.below hb6); have BL6c := Go.Lib.hid BL5c.out; obtain ⟨hcB, hfB⟩ := blkFacts BL6.out; clear hb6 h6)
               | (have BL6 := Go.Lib.hid (Blk.below (heap_alloc_new w5 _) hb6); have BL6c := Go.Lib.hid G5.out.lt; obtain ⟨hcB, hfB⟩ := blkFacts BL6.out; clear hb6 h6)
               | clear hb6 h6))
      all_goals
        go_wp2_with fail
        go_meet
        first
          | exact ⟨rfl, G6.out.alloc _⟩
          | exact ⟨rfl, G6.out.put BL6.out BL6c.out.1 BL6c.out.2 _ _ _⟩
          | skip
    case rest =>
      clear HG5
      obtain ⟨rfl, hg⟩ := hcut
      have HG6 := Go.Lib.hid hg
      clear hg
      go_upto_region 7 with (first
        | (go_at_call 28; refine (textA_c _).mono ?_; rintro e wh ⟨rfl, hb5⟩; have HG7 := Go.Lib.hid (HG6.out.below hb5); clear hb5)
        | (go_at_call 5; refine (keepc (CR.nil _) 40 0 32 textA _ _ _ _ k3).mono ?_; rintro e wi ⟨A4, c4, A5, c5, rfl, h6, hb6⟩; have HG8 := Go.Lib.hid ((HG7.out.below hb6).alloc (.cells #[.slice A4 ([] : List Int).length c4, .slice A5 ([] : List ByteArray).length c5, .int .i64 0] 25)); clear h6 hb6))
      clear HG6 HG7
      generalize (wi.alloc (.cells #[.slice A4 ([] : List Int).length c4, .slice A5 ([] : List ByteArray).length c5, .int .i64 0] 25)) = wj at HG8 ⊢
      have HG := HG8
      clear HG8
      obtain ⟨z0, z1, z2⟩ := HG.out.cells
      obtain ⟨y0, y1, y2⟩ := HG.out.2.2.1.cells
      have HA := Go.Lib.hid HG.out.1.2.1
      have HD := Go.Lib.hid HG.out.2.2.2
      go_wp2_with fail
      go_at_call 11
      with_reducible refine (may1 HA.out).mono ?_
      rintro e wh ⟨rfl, hb5⟩; have HG := Go.Lib.hid (HG.out.below hb5); obtain ⟨z0, z1, z2⟩ := HG.out.cells; obtain ⟨y0, y1, y2⟩ := HG.out.2.2.1.cells; have HA := Go.Lib.hid HG.out.1.2.1; have HD := Go.Lib.hid HG.out.2.2.2; clear hb5
      go_wp2_with fail
      go_at_call 11
      with_reducible refine (may2 HD.out).mono ?_
      rintro e wh ⟨rfl, hb5⟩; have HG := Go.Lib.hid (HG.out.below hb5); obtain ⟨z0, z1, z2⟩ := HG.out.cells; obtain ⟨y0, y1, y2⟩ := HG.out.2.2.1.cells; have HA := Go.Lib.hid HG.out.1.2.1; have HD := Go.Lib.hid HG.out.2.2.2; clear hb5
      go_wp2_with fail
      go_at_call 10
      with_reducible refine (num_c _ _).mono ?_
      rintro e wh ⟨rfl, hb5⟩; have HG := Go.Lib.hid (HG.out.below hb5); obtain ⟨z0, z1, z2⟩ := HG.out.cells; obtain ⟨y0, y1, y2⟩ := HG.out.2.2.1.cells; have HA := Go.Lib.hid HG.out.1.2.1; have HD := Go.Lib.hid HG.out.2.2.2; clear hb5
      go_wp2_with fail
      go_at_call 10
      with_reducible refine (num_c _ _).mono ?_
      rintro e wh ⟨rfl, hb5⟩; have HG := Go.Lib.hid (HG.out.below hb5); obtain ⟨z0, z1, z2⟩ := HG.out.cells; obtain ⟨y0, y1, y2⟩ := HG.out.2.2.1.cells; have HA := Go.Lib.hid HG.out.1.2.1; have HD := Go.Lib.hid HG.out.2.2.2; clear hb5
      go_wp2_with fail
      go_at_call 10
      with_reducible refine (num_c _ _).mono ?_
      rintro e wh ⟨rfl, hb5⟩; have HG := Go.Lib.hid (HG.out.below hb5); obtain ⟨z0, z1, z2⟩ := HG.out.cells; obtain ⟨y0, y1, y2⟩ := HG.out.2.2.1.cells; have HA := Go.Lib.hid HG.out.1.2.1; have HD := Go.Lib.hid HG.out.2.2.2; clear hb5
      go_wp2_with fail
      go_at_call 11
      with_reducible refine (may3 _).mono ?_
      rintro e wh ⟨rfl, hb5⟩; have HG := Go.Lib.hid (HG.out.below hb5); obtain ⟨z0, z1, z2⟩ := HG.out.cells; obtain ⟨y0, y1, y2⟩ := HG.out.2.2.1.cells; have HA := Go.Lib.hid HG.out.1.2.1; have HD := Go.Lib.hid HG.out.2.2.2; clear hb5
      go_wp2_with fail
      go_ret
      exact ⟨rfl, HG.out.1.2.2⟩

end Go.Proofs.Ytajhllhkbhbmnaa.PLines
