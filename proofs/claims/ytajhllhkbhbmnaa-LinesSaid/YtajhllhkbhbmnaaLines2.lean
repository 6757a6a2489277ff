/- lichenlaw12.Lines: the walk. -/
import Derived.Test.YtajhllhkbhbmnaaLines
namespace Go.Proofs.Ytajhllhkbhbmnaa.PLines
set_option linter.unusedVariables false
set_option linter.unusedSimpArgs false
open Go.RowKit Go.Proofs.YtajhllhkbhbmnaaW.PrintWords Go.Proofs.YtajhllhkbhbmnaaW.PrintLast Go.Proofs.YtajhllhkbhbmnaaW.PrintMore

/-- a cache of the walk's own: its struct's block, its rows, younger than wa. -/
def Y (wa : World) (A0 : Option Addr) (c0 : Nat) (l0 : List Int) (A1 : Option Addr) (c1 : Nat) (l1 : List ByteArray) (n : Int) (b : Nat) (w' : World) : Prop :=
  Below wa.heap.size wa w' ∧ Blk b (.slice A0 l0.length c0) (.slice A1 l1.length c1) (.int .i64 n) w' ∧ CB w' wa.heap.size A0 c0 l0 A1 c1 l1
theorem Y.below {wa A0 c0 l0 A1 c1 l1 n b w1 w2} (h : Y wa A0 c0 l0 A1 c1 l1 n b w1) (hb : Below w1.heap.size w1 w2) : Y wa A0 c0 l0 A1 c1 l1 n b w2 :=
  ⟨h.1.trans (hb.mono h.1.size), h.2.1.below hb, h.2.2.below hb⟩
theorem Y.alloc {wa A0 c0 l0 A1 c1 l1 n b w1} (h : Y wa A0 c0 l0 A1 c1 l1 n b w1) (o : Obj) : Y wa A0 c0 l0 A1 c1 l1 n b (w1.alloc o) := h.below ((Below.refl _ _).alloc (Nat.le_refl _) o)
theorem Y.drew {wa A0 c0 l0 A1 c1 l1 n b w1} (h : Y wa A0 c0 l0 A1 c1 l1 n b w1) : Y wa A0 c0 l0 A1 c1 l1 n b w1.drew := h.below (Below.refl _ _).drew
theorem Y.mk {wa w1 A0 c0 l0 A1 c1 l1} (n : Int) (hb : Below wa.heap.size wa w1) (h : CB w1 wa.heap.size A0 c0 l0 A1 c1 l1) : Y wa A0 c0 l0 A1 c1 l1 n w1.heap.size (w1.alloc (.cells #[.slice A0 l0.length c0, .slice A1 l1.length c1, .int .i64 n] 25)) :=
  ⟨hb.alloc hb.size _, heap_alloc_new _ _, h.alloc _⟩
theorem Y.rd {wa A0 c0 l0 A1 c1 l1 n b w1} (h : Y wa A0 c0 l0 A1 c1 l1 n b w1) : RD w1 A0 c0 l0 A1 c1 l1 := h.2.2.c
theorem Y.cells {wa A0 c0 l0 A1 c1 l1 n b w1} (h : Y wa A0 c0 l0 A1 c1 l1 n b w1) : w1.cell? ⟨b, 0, none⟩ = some (.slice A0 l0.length c0) ∧ w1.cell? ⟨b, 1, none⟩ = some (.slice A1 l1.length c1) ∧ w1.cell? ⟨b, 2, none⟩ = some (.int .i64 n) := h.2.1.cells
/-- the given cache, boxed. -/
def X (w : World) (A0 : Option Addr) (c0 : Nat) (l0 : List Int) (A1 : Option Addr) (c1 : Nat) (l1 : List ByteArray) (n : Int) (b : Nat) (w' : World) : Prop :=
  Below w.heap.size w w' ∧ Blk b (.slice A0 l0.length c0) (.slice A1 l1.length c1) (.int .i64 n) w' ∧ RD w' A0 c0 l0 A1 c1 l1
theorem X.below {wa A0 c0 l0 A1 c1 l1 n b w1 w2} (h : X wa A0 c0 l0 A1 c1 l1 n b w1) (hb : Below w1.heap.size w1 w2) : X wa A0 c0 l0 A1 c1 l1 n b w2 :=
  ⟨h.1.trans (hb.mono h.1.size), h.2.1.below hb, h.2.2.below hb⟩
theorem X.alloc {wa A0 c0 l0 A1 c1 l1 n b w1} (h : X wa A0 c0 l0 A1 c1 l1 n b w1) (o : Obj) : X wa A0 c0 l0 A1 c1 l1 n b (w1.alloc o) := h.below ((Below.refl _ _).alloc (Nat.le_refl _) o)
theorem X.drew {wa A0 c0 l0 A1 c1 l1 n b w1} (h : X wa A0 c0 l0 A1 c1 l1 n b w1) : X wa A0 c0 l0 A1 c1 l1 n b w1.drew := h.below (Below.refl _ _).drew
theorem X.rd {wa A0 c0 l0 A1 c1 l1 n b w1} (h : X wa A0 c0 l0 A1 c1 l1 n b w1) : RD w1 A0 c0 l0 A1 c1 l1 := h.2.2
theorem X.cells {wa A0 c0 l0 A1 c1 l1 n b w1} (h : X wa A0 c0 l0 A1 c1 l1 n b w1) : w1.cell? ⟨b, 0, none⟩ = some (.slice A0 l0.length c0) ∧ w1.cell? ⟨b, 1, none⟩ = some (.slice A1 l1.length c1) ∧ w1.cell? ⟨b, 2, none⟩ = some (.int .i64 n) := h.2.1.cells

theorem sameN : lichenlaw0_SameCache.f 40 [-1, -1] [e0, e0] 0 [-1, -1] [e0, e0] 0 = some true := by kernel_rfl
theorem spoilN : (lichenlaw0_SpoilCache.f 40 [-1, -1] [e0, e0] 0).isSome = true := by kernel_rfl

/-- what the functions answer. -/
structure Pure (k : Nat → Nat) (l0 : List Int) (l1 : List ByteArray) (n p : Int) (s : ByteArray) (q : Int) (R1 : List Int) (R2 : List ByteArray) (R3 R4 x : Int) (is m : Bool) (sp : List Int × List ByteArray) : Prop where
  copy : lichenlaw0_CopyCache.f l0 l1 n = some (l0, l1, n)
  keep : keepF (k 0) l0 l1 n p s = some (R1, R2, R3, R4)
  rkeep : lichenref9_Keep.f (k 1) l0 l1 n p s = some (R1, R2, R3, R4)
  find : line_Find.f (k 2) l0 l1 n q = some (x, is)
  rfind : lichenref9_FindLine.f (k 3) l0 l1 n q = some (x, is)
  may : line_May.f (k 4) l0 l1 n = some m
  rmay : lichenref9_CacheMay.f (k 5) l0 l1 n = some m
  same : lichenlaw0_SameCache.f (k 6) R1 R2 R3 R1 R2 R3 = some true
  spoil : lichenlaw0_SpoilCache.f (k 7) R1 R2 R3 = some sp
  same0 : lichenlaw0_SameCache.f (k 8) l0 l1 n l0 l1 n = some true

set_option maxHeartbeats 16000000 in
set_option maxRecDepth 100000 in
theorem lines_c {k : Nat → Nat} {l0 : List Int} {l1 : List ByteArray} {n p : Int} {s : ByteArray} {q : Int} {R1 : List Int} {R2 : List ByteArray} {R3 R4 x : Int} {is m : Bool} {sp : List Int × List ByteArray} (hp : Pure k l0 l1 n p s q R1 R2 R3 R4 x is m sp)
    {A0 : Option Addr} {c0 : Nat} {A1 : Option Addr} {c1 : Nat} {w : World} (hr : RD w A0 c0 l0 A1 c1 l1) :
    Calls Try.prog 3 #[cv A0 c0 l0 A1 c1 l1 n, .int .i64 p, .string s, .int .i64 q] w fun e w' => e = .returned (.bool true) ∧ Below w.heap.size w w' := by
  have HP := Go.Lib.hid hp
  have HX0 := Go.Lib.hid (show X w A0 c0 l0 A1 c1 l1 n w.heap.size (w.alloc (.cells #[.slice A0 l0.length c0, .slice A1 l1.length c1, .int .i64 n] 25)) from
    ⟨(Below.refl _ _).alloc (Nat.le_refl _) _, heap_alloc_new _ _, hr.below ((Below.refl _ _).alloc (Nat.le_refl _) _)⟩)
  have HW := Go.Lib.hid (show Below w.heap.size w (w.alloc (.cells #[.slice A0 l0.length c0, .slice A1 l1.length c1, .int .i64 n] 25)) from (Below.refl _ _).alloc (Nat.le_refl _) _)
  clear hp hr
  go_enter Try.func3, Try.ntmps3
  go_upto_region 1 with fail
  generalize hb0 : w.heap.size = b0 at HX0 ⊢
  generalize (w.alloc (.cells #[.slice A0 l0.length c0, .slice A1 l1.length c1, .int .i64 n] 25)) = w1 at HX0 ⊢
  clear hb0 HW
  obtain ⟨e0a, e0b, e0c⟩ := HX0.out.cells
  go_upto_region 2 with (go_at_call 4; refine (copyL n HX0.out.rd HP.out.copy).mono ?_; rintro e wa ⟨A2, c2, A3, c3, rfl, h, hb⟩; have HY1 := Go.Lib.hid (Y.mk (wa := w1) n hb h); replace HX0 := Go.Lib.hid ((HX0.out.below hb).alloc (.cells #[.slice A2 l0.length c2, .slice A3 l1.length c3, .int .i64 n] 25)); clear e0a e0b e0c; clear h hb)
  generalize hb1 : wa.heap.size = b1 at HY1 ⊢
  generalize (wa.alloc (.cells #[.slice A2 l0.length c2, .slice A3 l1.length c3, .int .i64 n] 25)) = w2 at HX0 HY1 ⊢
  clear hb1 wa
  have HX2 := HX0
  have HY12 := HY1
  obtain ⟨e1a, e1b, e1c⟩ := HY1.out.cells
  go_upto_region 3 with (go_at_call 5; refine (keepL _ n p s R1 R2 R3 R4 HY1.out.rd HP.out.keep).mono ?_; rintro e wa ⟨A4, c4, A5, c5, rfl, h, hb⟩; have HY2 := Go.Lib.hid (Y.mk (wa := w2) R3 hb h); replace HX0 := Go.Lib.hid ((HX0.out.below hb).alloc (.cells #[.slice A4 R1.length c4, .slice A5 R2.length c5, .int .i64 R3] 25)); replace HY1 := Go.Lib.hid ((HY1.out.below hb).alloc (.cells #[.slice A4 R1.length c4, .slice A5 R2.length c5, .int .i64 R3] 25)); clear e1a e1b e1c; clear h hb)
  generalize hb2 : wa.heap.size = b2 at HY2 ⊢
  generalize (wa.alloc (.cells #[.slice A4 R1.length c4, .slice A5 R2.length c5, .int .i64 R3] 25)) = w3 at HX0 HY1 HY2 ⊢
  clear hb2 wa
  obtain ⟨e0a, e0b, e0c⟩ := HX0.out.cells
  go_upto_region 4 with (go_at_call 6; refine (rkeepL _ n p s R1 R2 R3 R4 HX0.out.rd HP.out.rkeep).mono ?_; rintro e wa ⟨A6, c6, A7, c7, rfl, h, hb⟩; have HY3 := Go.Lib.hid (Y.mk (wa := w3) R3 hb h); replace HX0 := Go.Lib.hid ((HX0.out.below hb).alloc (.cells #[.slice A6 R1.length c6, .slice A7 R2.length c7, .int .i64 R3] 25)); replace HY1 := Go.Lib.hid ((HY1.out.below hb).alloc (.cells #[.slice A6 R1.length c6, .slice A7 R2.length c7, .int .i64 R3] 25)); replace HY2 := Go.Lib.hid ((HY2.out.below hb).alloc (.cells #[.slice A6 R1.length c6, .slice A7 R2.length c7, .int .i64 R3] 25)); clear e0a e0b e0c; clear h hb)
  generalize hb3 : wa.heap.size = b3 at HY3 ⊢
  generalize (wa.alloc (.cells #[.slice A6 R1.length c6, .slice A7 R2.length c7, .int .i64 R3] 25)) = w4 at HX0 HY1 HY2 HY3 ⊢
  clear hb3 wa
  obtain ⟨e1a, e1b, e1c⟩ := HY1.out.cells
  go_upto_region 5 with (go_at_call 7; refine (findL _ n q x is HY1.out.rd HP.out.find).mono ?_; rintro e w5 ⟨rfl, hb⟩; replace HX0 := Go.Lib.hid (HX0.out.below hb); replace HY1 := Go.Lib.hid (HY1.out.below hb); replace HY2 := Go.Lib.hid (HY2.out.below hb); replace HY3 := Go.Lib.hid (HY3.out.below hb); clear e1a e1b e1c; clear hb)
  obtain ⟨e0a, e0b, e0c⟩ := HX0.out.cells
  go_upto_region 6 with (go_at_call 8; refine (rfindL _ n q x is HX0.out.rd HP.out.rfind).mono ?_; rintro e w6 ⟨rfl, hb⟩; replace HX0 := Go.Lib.hid (HX0.out.below hb); replace HY1 := Go.Lib.hid (HY1.out.below hb); replace HY2 := Go.Lib.hid (HY2.out.below hb); replace HY3 := Go.Lib.hid (HY3.out.below hb); clear e0a e0b e0c; clear hb)
  clear w5
  obtain ⟨ST, hST⟩ : ∃ ST : World → Prop, ∀ w', ST w' ↔ (X w A0 c0 l0 A1 c1 l1 n b0 w' ∧ Y w1 A2 c2 l0 A3 c3 l1 n b1 w' ∧ Y w2 A4 c4 R1 A5 c5 R2 R3 b2 w' ∧ Y w3 A6 c6 R1 A7 c7 R2 R3 b3 w') := ⟨_, fun _ => Iff.rfl⟩
  have STB := Go.Lib.hid fun (w' w'' : World) (h : ST w') (hb : Below w'.heap.size w' w'') => (hST w'').2 ⟨((hST w').1 h).1.below hb, ((hST w').1 h).2.1.below hb, ((hST w').1 h).2.2.1.below hb, ((hST w').1 h).2.2.2.below hb⟩
  have STC := Go.Lib.hid fun (w' : World) (h : ST w') => show (w'.cell? ⟨b0, 0, none⟩ = some (.slice A0 l0.length c0) ∧ w'.cell? ⟨b0, 1, none⟩ = some (.slice A1 l1.length c1) ∧ w'.cell? ⟨b0, 2, none⟩ = some (.int .i64 n)) ∧ (w'.cell? ⟨b1, 0, none⟩ = some (.slice A2 l0.length c2) ∧ w'.cell? ⟨b1, 1, none⟩ = some (.slice A3 l1.length c3) ∧ w'.cell? ⟨b1, 2, none⟩ = some (.int .i64 n)) ∧ (w'.cell? ⟨b2, 0, none⟩ = some (.slice A4 R1.length c4) ∧ w'.cell? ⟨b2, 1, none⟩ = some (.slice A5 R2.length c5) ∧ w'.cell? ⟨b2, 2, none⟩ = some (.int .i64 R3)) ∧ (w'.cell? ⟨b3, 0, none⟩ = some (.slice A6 R1.length c6) ∧ w'.cell? ⟨b3, 1, none⟩ = some (.slice A7 R2.length c7) ∧ w'.cell? ⟨b3, 2, none⟩ = some (.int .i64 R3)) from ⟨((hST w').1 h).1.cells, ((hST w').1 h).2.1.cells, ((hST w').1 h).2.2.1.cells, ((hST w').1 h).2.2.2.cells⟩
  have STS := Go.Lib.hid fun (w' : World) (h : ST w') => sameL _ R3 ((hST w').1 h).2.2.1.rd ((hST w').1 h).2.2.2.rd HP.out.same
  have STM := Go.Lib.hid fun (w' : World) (h : ST w') => mayL _ n m ((hST w').1 h).2.1.rd HP.out.may
  have STN := Go.Lib.hid fun (w' : World) (h : ST w') => rmayL _ n m ((hST w').1 h).1.rd HP.out.rmay
  have STE := Go.Lib.hid hST
  have G := Go.Lib.hid ((hST _).2 ⟨HX0.out, HY1.out, HY2.out, HY3.out⟩)
  clear hST HX0 HY1 HY2 HY3
  go_cut [79] (fun v79 wx => v79 = .bool false ∧ ST wx)
  case first =>
    replace G := Go.Lib.hid (STB.out _ _ G.out (Below.refl _ _).drew)
    go_region_held3 (fun w' => (w'.cell? ⟨b0, 0, none⟩ = some (.slice A0 l0.length c0) ∧ w'.cell? ⟨b0, 1, none⟩ = some (.slice A1 l1.length c1) ∧ w'.cell? ⟨b0, 2, none⟩ = some (.int .i64 n)) ∧ (w'.cell? ⟨b1, 0, none⟩ = some (.slice A2 l0.length c2) ∧ w'.cell? ⟨b1, 1, none⟩ = some (.slice A3 l1.length c3) ∧ w'.cell? ⟨b1, 2, none⟩ = some (.int .i64 n)) ∧ (w'.cell? ⟨b2, 0, none⟩ = some (.slice A4 R1.length c4) ∧ w'.cell? ⟨b2, 1, none⟩ = some (.slice A5 R2.length c5) ∧ w'.cell? ⟨b2, 2, none⟩ = some (.int .i64 R3)) ∧ (w'.cell? ⟨b3, 0, none⟩ = some (.slice A6 R1.length c6) ∧ w'.cell? ⟨b3, 1, none⟩ = some (.slice A7 R2.length c7) ∧ w'.cell? ⟨b3, 2, none⟩ = some (.int .i64 R3)))
      (first
        | with_reducible exact STC.out _ G.out
        | exact STC.out _ G.out)
      (first
        | (go_at_call 10; with_reducible refine (num_c _ _).mono ?_; rintro e wq ⟨rfl, hb⟩; replace G := Go.Lib.hid (STB.out _ _ G.out hb); clear hb)
        | (go_at_call 11; with_reducible refine (STM.out _ G.out).mono ?_; rintro e wq ⟨rfl, hb⟩; replace G := Go.Lib.hid (STB.out _ _ G.out hb); clear hb)
        | (go_at_call 12; with_reducible refine (STN.out _ G.out).mono ?_; rintro e wq ⟨rfl, hb⟩; replace G := Go.Lib.hid (STB.out _ _ G.out hb); clear hb)
        | (go_at_call 13; with_reducible refine (newL _).mono ?_; rintro e wq ⟨A8, c8, A9, c9, rfl, h, hb⟩; replace G := Go.Lib.hid (STB.out _ _ G.out hb); (try replace NB := Go.Lib.hid (NB.out.below hb)); have NA := Go.Lib.hid h.c; clear hb h)
        | (go_at_call 14; with_reducible refine (rnewL _).mono ?_; rintro e wq ⟨Aa, ca, Ab, cb, rfl, h, hb⟩; replace G := Go.Lib.hid (STB.out _ _ G.out hb); (try replace NA := Go.Lib.hid (NA.out.below hb)); have NB := Go.Lib.hid h.c; clear hb h)
        | (go_at_call 9; first | with_reducible refine (STS.out _ G.out).mono ?_ | with_reducible refine (sameL 40 0 NA.out NB.out sameN).mono ?_
           rintro e wq ⟨rfl, hb⟩; replace G := Go.Lib.hid (STB.out _ _ G.out hb); clear hb))
    all_goals
      go_wp2_with fail
      go_meet
      first
        | exact ⟨rfl, G.out⟩
        | skip
  case rest =>
    obtain ⟨rfl, hst⟩ := hcut
    obtain ⟨-, -, hy2, -⟩ := (STE.out _).1 hst
    have HY2 := Go.Lib.hid hy2
    obtain ⟨e2a, e2b, e2c⟩ := hy2.cells
    clear hy2 hst STB STC STS STM STN STE
    go_upto_region 9 with (go_at_call 15; refine (spoilL _ R3 sp HY2.out.1 HY2.out.2.2 HP.out.spoil).mono ?_; rintro e w8 ⟨rfl, hb⟩; have HX0 := Go.Lib.hid (HX2.out.below hb); have HY1 := Go.Lib.hid (HY12.out.below hb); clear e2a e2b e2c; clear hb)
    clear HY2 HX2 HY12
    go_upto_region 10 with (go_at_call 13; refine (newL _).mono ?_; rintro e wa ⟨A8, c8, A9, c9, rfl, h, hb⟩; have HY4 := Go.Lib.hid (Y.mk (wa := w8) 0 hb h); clear h hb)
    generalize hb4 : wa.heap.size = b4 at HY4 ⊢
    generalize (wa.alloc (.cells #[.slice A8 ([-1, -1] : List Int).length c8, .slice A9 ([e0, e0] : List ByteArray).length c9, .int .i64 0] 25)) = w9 at HY4 ⊢
    clear hb4 wa
    obtain ⟨q0, hq0⟩ := Option.isSome_iff_exists.1 spoilN
    have HQ := Go.Lib.hid hq0
    clear hq0
    obtain ⟨e4a, e4b, e4c⟩ := HY4.out.cells
    go_upto_region 11 with (go_at_call 15; refine (spoilL 40 0 q0 HY4.out.1 HY4.out.2.2 HQ.out).mono ?_; rintro e wd ⟨rfl, hb⟩; replace HX0 := Go.Lib.hid (HX0.out.below hb); replace HY1 := Go.Lib.hid (HY1.out.below hb); clear e4a e4b e4c; clear hb)
    clear HY4 HQ
    obtain ⟨e0a, e0b, e0c⟩ := HX0.out.cells
    obtain ⟨e1a, e1b, e1c⟩ := HY1.out.cells
    have S0 := Go.Lib.hid (sameL _ n HY1.out.rd HX0.out.rd HP.out.same0)
    have BW := Go.Lib.hid HX0.out.1
    clear HX0 HY1
    go_wp2_with fail
    go_at_call 9
    with_reducible refine S0.out.mono ?_
    rintro e we ⟨rfl, hb⟩; replace BW := Go.Lib.hid (BW.out.trans (hb.mono BW.out.size)); clear hb e0a e0b e0c e1a e1b e1c S0
    go_wp2_with fail
    go_at_call 13
    with_reducible refine (newL _).mono ?_
    rintro e wf ⟨Ac, cc, Ad, cd, rfl, h, hb⟩; replace BW := Go.Lib.hid (BW.out.trans (hb.mono BW.out.size)); have NA := Go.Lib.hid h.c; clear hb h
    go_wp2_with fail
    go_at_call 14
    with_reducible refine (rnewL _).mono ?_
    rintro e wg ⟨Ae, ce, Af, cf, rfl, h, hb⟩; replace BW := Go.Lib.hid (BW.out.trans (hb.mono BW.out.size)); replace NA := Go.Lib.hid (NA.out.below hb); have NB := Go.Lib.hid h.c; clear hb h
    go_wp2_with fail
    go_at_call 9
    refine (sameL 40 0 NA.out NB.out sameN).mono ?_
    rintro e wh ⟨rfl, hb⟩; replace BW := Go.Lib.hid (BW.out.trans (hb.mono BW.out.size)); clear hb NA NB
    go_wp2_with fail
    go_at_call 16
    with_reducible refine (awake_c _).mono ?_
    rintro e wi ⟨rfl, hb⟩; replace BW := Go.Lib.hid (BW.out.trans (hb.mono BW.out.size)); clear hb
    go_wp2_with fail
    go_ret
    exact ⟨rfl, BW.out⟩

end Go.Proofs.Ytajhllhkbhbmnaa.PLines
