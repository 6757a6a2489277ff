/- Lines: the plain law, joined. -/
import Derived.Test.YtajhllhkbhbmnaaPureLines3
namespace Go.Proofs.Ytajhllhkbhbmnaa.PLines
set_option linter.unusedVariables false
set_option linter.unusedSimpArgs false
open Go.RowKit Go.Proofs.YtajhllhkbhbmnaaW.PrintWords Go.Proofs.YtajhllhkbhbmnaaW.PrintLast Go.Proofs.YtajhllhkbhbmnaaW.PrintMore

def kOf (a b : Nat) : Nat → Nat
  | 6 => a
  | 8 => b
  | _ => 20

theorem lines_pure (l0 : List Int) (l1 : List ByteArray) (n p : Int) (s : ByteArray) (q : Int) (h0 : l0.length < 17592186044416) (h1 : l1.length < 8796093022208) (hq : q < 9223372036854775808) :
    ∃ k R1 R2 R3 R4 x is m sp, Pure k l0 l1 n p s q R1 R2 R3 R4 x is m sp := by
  have hcopy : lichenlaw0_CopyCache.f l0 l1 n = some (l0, l1, n) := by
    simp [lichenlaw0_CopyCache.f, h0, h1]
  have hsame := same_all l0 l1 n h0 h1
  have rest : ∃ m R1 R2 R3 R4 x is, line_May.f 20 l0 l1 n = some m ∧ lichenref9_CacheMay.f 20 l0 l1 n = some m ∧ keepF 20 l0 l1 n p s = some (R1, R2, R3, R4) ∧ lichenref9_Keep.f 20 l0 l1 n p s = some (R1, R2, R3, R4) ∧
      line_Find.f 20 l0 l1 n q = some (x, is) ∧ lichenref9_FindLine.f 20 l0 l1 n q = some (x, is) ∧ Small R1 R2 := by
    by_cases h : l0.length = 2 ∧ l1.length = 2 ∧ 0 ≤ n ∧ n < 2
    · obtain ⟨e0, e1, n0, n1⟩ := h
      match l0, l1, e0, e1 with
      | [x0, x1], [y0, y1], _, _ =>
        obtain ⟨m, hm, hm', hf⟩ := may_two x0 x1 y0 y1 n n0 n1
        cases m with
        | false => exact ⟨false, [], [], 0, 1200, 0, false, hm, hm', by simp [keepF, hm], by simp [lichenref9_Keep.f, hm', lichenref9_Keep.j0], by simp [line_Find.f, hm, line_Find.j0], by simp [lichenref9_FindLine.f, hm'], .inl ⟨rfl, rfl⟩⟩
        | true =>
          obtain ⟨k0, k1, hx⟩ := hf rfl
          obtain ⟨R1, R2, R3, R4, a, b, c⟩ := keep_two x0 x1 y0 y1 n p s n0 n1 hm hm' k0 k1 hx
          obtain ⟨x, is, d, e⟩ := find_two x0 x1 y0 y1 n q hq hm hm' k0 k1 hx
          exact ⟨true, R1, R2, R3, R4, x, is, hm, hm', a, b, d, e, c⟩
    · obtain ⟨hm, hm'⟩ := may_not l0 l1 n h
      exact ⟨false, [], [], 0, 1200, 0, false, hm, hm', by simp [keepF, hm], by simp [lichenref9_Keep.f, hm', lichenref9_Keep.j0], by simp [line_Find.f, hm, line_Find.j0], by simp [lichenref9_FindLine.f, hm'], .inl ⟨rfl, rfl⟩⟩
  obtain ⟨m, R1, R2, R3, R4, x, is, a, b, c, d, e, f, g⟩ := rest
  have hs : ∃ k6, lichenlaw0_SameCache.f k6 R1 R2 R3 R1 R2 R3 = some true := by
    rcases g with ⟨rfl, rfl⟩ | ⟨u, v, y, z, rfl, rfl, -, -⟩
    · exact ⟨_, same_all [] [] R3 (by simp) (by simp)⟩
    · exact ⟨_, same_all [u, v] [y, z] R3 (by simp) (by simp)⟩
  have hp : ∃ sp, lichenlaw0_SpoilCache.f 20 R1 R2 R3 = some sp := by
    rcases g with ⟨rfl, rfl⟩ | ⟨u, v, y, z, rfl, rfl, e1, e2⟩
    · exact spoil_none R3
    · exact spoil_two u v y z R3 e1 e2
  obtain ⟨k6, hs⟩ := hs
  obtain ⟨sp, hp⟩ := hp
  exact ⟨kOf k6 (l0.length + l1.length + 1), R1, R2, R3, R4, x, is, m, sp, ⟨hcopy, c, d, e, f, a, b, hs, hp, hsame⟩⟩

theorem lines_all {A0 : Option Addr} {c0 : Nat} {l0 : List Int} {A1 : Option Addr} {c1 : Nat} {l1 : List ByteArray} (n p : Int) (s : ByteArray) (q : Int) {w : World} (h0 : l0.length < 17592186044416) (h1 : l1.length < 8796093022208) (hq : q < 9223372036854775808)
    (hr : RD w A0 c0 l0 A1 c1 l1) : Calls Try.prog 3 #[.agg #[.slice A0 l0.length c0, .slice A1 l1.length c1, .int .i64 n], .int .i64 p, .string s, .int .i64 q] w fun e w' => e = .returned (.bool true) ∧ Below w.heap.size w w' := by
  obtain ⟨k, R1, R2, R3, R4, x, is, m, sp, hp⟩ := lines_pure l0 l1 n p s q h0 h1 hq
  exact lines_c hp hr

end Go.Proofs.Ytajhllhkbhbmnaa.PLines
