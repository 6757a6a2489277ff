/- lichenlaw12.Lines: the walk, over what its functions answer. -/
import Derived.Test.YtajhllhkbhbmnaaAwake
import Derived.Test.YtajhllhkbhbmnaaPLinesx3
import Derived.Test.YtajhllhkbhbmnaaPLinesx4
namespace Go.Proofs.Ytajhllhkbhbmnaa.PLines
set_option linter.unusedVariables false
set_option linter.unusedSimpArgs false
open Go.RowKit Go.Proofs.YtajhllhkbhbmnaaW.PrintWords Go.Proofs.YtajhllhkbhbmnaaW.PrintLast Go.Proofs.YtajhllhkbhbmnaaW.PrintMore

/-- a cache's two rows that are younger than B. -/
def CB (w : World) (B : Nat) (A0 : Option Addr) (c0 : Nat) (l0 : List Int) (A1 : Option Addr) (c1 : Nat) (l1 : List ByteArray) : Prop :=
  Kd.R (Kd.int .i64) 3 w B (fun _ => True) (.slice A0 l0.length c0) l0 ∧ Kd.R Kd.string 9 w B (fun _ => True) (.slice A1 l1.length c1) l1
theorem RB_keep {α : Type} {enc : α → Value} {h1 : ∀ x, (enc x).oneCell' = true} {e B : Nat} {w w' : World} {v : Value} {l : List α} (h : (Kd.scalar enc h1).R e w B (fun _ => True) v l)
    (hh : ∀ (g : Nat) (cs : Array Value), w.heap[g]? = some (Obj.cells cs e (0, 0)) → w'.heap[g]? = some (Obj.cells cs e (0, 0))) : (Kd.scalar enc h1).R e w' B (fun _ => True) v l := by
  have ho := Kd.own_of_R h
  refine Kd.R_of_own (enc := enc) (h1 := h1) ?_ (fun _ _ => trivial)
  refine ⟨ho.1, ?_⟩
  rcases ho.2 with hn | ⟨g, cap, cur, e1, e2, e3, e4⟩
  · exact .inl hn
  · exact .inr ⟨g, cap, cur, e1, e2, hh g _ e3, e4⟩
theorem CB.below {w w' : World} {B A0 A1 c0 c1 l0 l1} (h : CB w B A0 c0 l0 A1 c1 l1) (hb : Below w.heap.size w w') : CB w' B A0 c0 l0 A1 c1 l1 :=
  ⟨RB_keep h.1 fun g cs e => (hb.block g (heap_lt' e)).trans e, RB_keep h.2 fun g cs e => (hb.block g (heap_lt' e)).trans e⟩
theorem CB.alloc {w : World} {B A0 A1 c0 c1 l0 l1} (h : CB w B A0 c0 l0 A1 c1 l1) (o : Obj) : CB (w.alloc o) B A0 c0 l0 A1 c1 l1 := h.below ((Below.refl _ _).alloc (Nat.le_refl _) o)
theorem CB.of {w : World} {B : Nat} {v0 v1 l0 l1} (h0 : Kd.R (Kd.int .i64) 3 w B (fun _ => True) v0 l0) (h1 : Kd.R Kd.string 9 w B (fun _ => True) v1 l1) : ∃ A0 c0 A1 c1, v0 = .slice A0 l0.length c0 ∧ v1 = .slice A1 l1.length c1 ∧ CB w B A0 c0 l0 A1 c1 l1 := by
  obtain ⟨A0, c0, rfl⟩ := Kd.R_slice h0
  obtain ⟨A1, c1, rfl⟩ := Kd.R_slice h1
  exact ⟨A0, c0, A1, c1, rfl, rfl, h0, h1⟩
/-- what is read of it. -/
def RD (w : World) (A0 : Option Addr) (c0 : Nat) (l0 : List Int) (A1 : Option Addr) (c1 : Nat) (l1 : List ByteArray) : Prop :=
  Kd.C (Kd.int .i64) w A0 l0.length l0 ∧ l0.length ≤ c0 ∧ Kd.C Kd.string w A1 l1.length l1 ∧ l1.length ≤ c1
theorem CB.c {w : World} {B A0 A1 c0 c1 l0 l1} (h : CB w B A0 c0 l0 A1 c1 l1) : RD w A0 c0 l0 A1 c1 l1 :=
  ⟨(Kd.R_reads' h.1).2.2, (Kd.R_reads' h.1).2.1, (Kd.R_reads' h.2).2.2, (Kd.R_reads' h.2).2.1⟩
theorem RD.below {w w' : World} {A0 A1 c0 c1 l0 l1} (h : RD w A0 c0 l0 A1 c1 l1) (hb : Below w.heap.size w w') : RD w' A0 c0 l0 A1 c1 l1 :=
  ⟨Kd.C_below h.1 hb, h.2.1, Kd.C_below h.2.2.1 hb, h.2.2.2⟩

/-! ### the calls in these words -/
abbrev cv (A0 : Option Addr) (c0 : Nat) (l0 : List Int) (A1 : Option Addr) (c1 : Nat) (l1 : List ByteArray) (n : Int) : Value := .agg #[.slice A0 l0.length c0, .slice A1 l1.length c1, .int .i64 n]

theorem copyL {w : World} {A0 A1 c0 c1 l0 l1} (n : Int) (h : RD w A0 c0 l0 A1 c1 l1) (hf : lichenlaw0_CopyCache.f l0 l1 n = some (l0, l1, n)) :
    Calls Try.prog 4 #[cv A0 c0 l0 A1 c1 l1 n] w fun e w' => ∃ A2 c2 A3 c3, e = .returned (cv A2 c2 l0 A3 c3 l1 n) ∧ CB w' w.heap.size A2 c2 l0 A3 c3 l1 ∧ Below w.heap.size w w' :=
  (lichenlaw0_CopyCache.calls A0 c0 l0 A1 c1 l1 n l0 l1 n w h.1 h.2.1 h.2.2.1 h.2.2.2 hf).mono fun e w' ⟨v0, v1, he, h0, h1, hb⟩ => by
    obtain ⟨A2, c2, A3, c3, rfl, rfl, h⟩ := CB.of h0 h1
    exact ⟨A2, c2, A3, c3, he, h, hb⟩
theorem keepL {w : World} {A0 A1 c0 c1 l0 l1} (k : Nat) (n p : Int) (s : ByteArray) (r1 : List Int) (r2 : List ByteArray) (r3 r4 : Int) (h : RD w A0 c0 l0 A1 c1 l1) (hf : keepF k l0 l1 n p s = some (r1, r2, r3, r4)) :
    Calls Try.prog 5 #[cv A0 c0 l0 A1 c1 l1 n, .int .i64 p, .string s] w fun e w' => ∃ A2 c2 A3 c3, e = .returned (.tuple #[cv A2 c2 r1 A3 c3 r2 r3, .int .i64 r4]) ∧ CB w' w.heap.size A2 c2 r1 A3 c3 r2 ∧ Below w.heap.size w w' :=
  (keep_calls k A0 c0 l0 A1 c1 l1 n p s r1 r2 r3 r4 w h.1 h.2.1 h.2.2.1 h.2.2.2 hf).mono fun e w' ⟨v0, v1, he, h0, h1, hb⟩ => by
    obtain ⟨A2, c2, A3, c3, rfl, rfl, h⟩ := CB.of h0 h1
    exact ⟨A2, c2, A3, c3, he, h, hb⟩
theorem rkeepL {w : World} {A0 A1 c0 c1 l0 l1} (k : Nat) (n p : Int) (s : ByteArray) (r1 : List Int) (r2 : List ByteArray) (r3 r4 : Int) (h : RD w A0 c0 l0 A1 c1 l1) (hf : lichenref9_Keep.f k l0 l1 n p s = some (r1, r2, r3, r4)) :
    Calls Try.prog 6 #[cv A0 c0 l0 A1 c1 l1 n, .int .i64 p, .string s] w fun e w' => ∃ A2 c2 A3 c3, e = .returned (.tuple #[cv A2 c2 r1 A3 c3 r2 r3, .int .i64 r4]) ∧ CB w' w.heap.size A2 c2 r1 A3 c3 r2 ∧ Below w.heap.size w w' :=
  (lichenref9_Keep.calls k A0 c0 l0 A1 c1 l1 n p s r1 r2 r3 r4 w h.1 h.2.1 h.2.2.1 h.2.2.2 hf).mono fun e w' ⟨v0, v1, he, h0, h1, hb⟩ => by
    obtain ⟨A2, c2, A3, c3, rfl, rfl, h⟩ := CB.of h0 h1
    exact ⟨A2, c2, A3, c3, he, h, hb⟩
theorem findL {w : World} {A0 A1 c0 c1 l0 l1} (k : Nat) (n p x : Int) (b : Bool) (h : RD w A0 c0 l0 A1 c1 l1) (hf : line_Find.f k l0 l1 n p = some (x, b)) :
    Calls Try.prog 7 #[cv A0 c0 l0 A1 c1 l1 n, .int .i64 p] w fun e w' => e = .returned (.tuple #[.int .i64 x, .bool b]) ∧ Below w.heap.size w w' :=
  line_Find.calls k A0 c0 l0 A1 c1 l1 n p x b w h.1 h.2.1 h.2.2.1 h.2.2.2 hf
theorem rfindL {w : World} {A0 A1 c0 c1 l0 l1} (k : Nat) (n p x : Int) (b : Bool) (h : RD w A0 c0 l0 A1 c1 l1) (hf : lichenref9_FindLine.f k l0 l1 n p = some (x, b)) :
    Calls Try.prog 8 #[cv A0 c0 l0 A1 c1 l1 n, .int .i64 p] w fun e w' => e = .returned (.tuple #[.int .i64 x, .bool b]) ∧ Below w.heap.size w w' :=
  lichenref9_FindLine.calls k A0 c0 l0 A1 c1 l1 n p x b w h.1 h.2.1 h.2.2.1 h.2.2.2 hf
theorem sameL {w : World} {A0 A1 c0 c1 l0 l1 A2 c2 A3 c3} (k : Nat) (n : Int) (h : RD w A0 c0 l0 A1 c1 l1) (h' : RD w A2 c2 l0 A3 c3 l1) (hf : lichenlaw0_SameCache.f k l0 l1 n l0 l1 n = some true) :
    Calls Try.prog 9 #[cv A0 c0 l0 A1 c1 l1 n, cv A2 c2 l0 A3 c3 l1 n] w fun e w' => e = .returned (.bool true) ∧ Below w.heap.size w w' :=
  lichenlaw0_SameCache.calls k A0 c0 l0 A1 c1 l1 n A2 c2 l0 A3 c3 l1 n true w h.1 h.2.1 h.2.2.1 h.2.2.2 h'.1 h'.2.1 h'.2.2.1 h'.2.2.2 hf
theorem mayL {w : World} {A0 A1 c0 c1 l0 l1} (k : Nat) (n : Int) (b : Bool) (h : RD w A0 c0 l0 A1 c1 l1) (hf : line_May.f k l0 l1 n = some b) :
    Calls Try.prog 11 #[cv A0 c0 l0 A1 c1 l1 n] w fun e w' => e = .returned (.bool b) ∧ Below w.heap.size w w' :=
  line_May.calls k A0 c0 l0 A1 c1 l1 n b w h.1 h.2.1 h.2.2.1 h.2.2.2 hf
theorem rmayL {w : World} {A0 A1 c0 c1 l0 l1} (k : Nat) (n : Int) (b : Bool) (h : RD w A0 c0 l0 A1 c1 l1) (hf : lichenref9_CacheMay.f k l0 l1 n = some b) :
    Calls Try.prog 12 #[cv A0 c0 l0 A1 c1 l1 n] w fun e w' => e = .returned (.bool b) ∧ Below w.heap.size w w' :=
  lichenref9_CacheMay.calls k A0 c0 l0 A1 c1 l1 n b w h.1 h.2.1 h.2.2.1 h.2.2.2 hf
theorem newL (w : World) : Calls Try.prog 13 #[] w fun e w' => ∃ A0 c0 A1 c1, e = .returned (cv A0 c0 [-1, -1] A1 c1 [e0, e0] 0) ∧ CB w' w.heap.size A0 c0 [-1, -1] A1 c1 [e0, e0] ∧ Below w.heap.size w w' :=
  (line_New.calls [-1, -1] [e0, e0] 0 w (by rfl)).mono fun e w' ⟨v0, v1, he, h0, h1, hb⟩ => by
    obtain ⟨A0, c0, A1, c1, rfl, rfl, h⟩ := CB.of h0 h1
    exact ⟨A0, c0, A1, c1, he, h, hb⟩
theorem rnewL (w : World) : Calls Try.prog 14 #[] w fun e w' => ∃ A0 c0 A1 c1, e = .returned (cv A0 c0 [-1, -1] A1 c1 [e0, e0] 0) ∧ CB w' w.heap.size A0 c0 [-1, -1] A1 c1 [e0, e0] ∧ Below w.heap.size w w' :=
  (lichenref9_NewCache.calls 40 [-1, -1] [e0, e0] 0 w (by kernel_rfl)).mono fun e w' ⟨v0, v1, he, h0, h1, hb⟩ => by
    obtain ⟨A0, c0, A1, c1, rfl, rfl, h⟩ := CB.of h0 h1
    exact ⟨A0, c0, A1, c1, he, h, hb⟩
theorem spoilL {w0 w : World} {A0 A1 c0 c1 l0 l1} (k : Nat) (n : Int) (q : List Int × List ByteArray) (hB : Below w0.heap.size w0 w) (h : CB w w0.heap.size A0 c0 l0 A1 c1 l1) (hf : lichenlaw0_SpoilCache.f k l0 l1 n = some q) :
    Calls Try.prog 15 #[cv A0 c0 l0 A1 c1 l1 n] w fun e w' => e = .returned (.tuple #[]) ∧ Below w0.heap.size w0 w' :=
  (lichenlaw0_SpoilCache.calls k (fun _ => True) _ l0 (fun _ => True) _ l1 n q.1 q.2 w0 w hB h.1 h.2 hf).mono fun e w' ⟨he, _, _, hb, _⟩ => ⟨he, hb⟩

end Go.Proofs.Ytajhllhkbhbmnaa.PLines
