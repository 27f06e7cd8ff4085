/- The law's fixed examples. -/
import Derived.Test.YtageboekobkdcaaO
namespace Go.Proofs.Ytageboekobkdcaa
open Go.RowKit

def lit (l : List UInt8) : ByteArray := ⟨l.toArray⟩
def FA : ByteArray := fillOf (lit [97])
def FB : ByteArray := fillOf (lit [98])
def FZ : ByteArray := fillOf (lit [0])
def A0 : DS := DS.new 2
def A1 : DS := (A0.write 0 FA).2
def A2 : DS := A1.sync.2
def A3 : DS := (A2.write 0 FB).2
def A4 : DS := A3.fail 0 2
def A5 : DS := A4.sync.2
def A6 : DS := A5.start
def A7 : DS := (A6.write 1 (lit [115, 104, 111, 114, 116])).2
def B0 : DS := DS.new 1
def B1 : DS := (B0.write 0 FA).2
def B2 : DS := B1.sync.2
def B3 : DS := B2.rot 0 1 3
def B4 : DS := B3.stale 0
def C0 : DS := DS.new 1
def C1 : DS := C0.toArm 1 1 2
def C2 : DS := (C1.write 0 FA).2
def C3 : DS := (C2.write 0 FB).2
def C4 : DS := C3.start
theorem A0_q : A0.q.length < 1000 := of_decide_eq_true (by kernel_rfl)
theorem A1_q : A1.q.length < 1000 := of_decide_eq_true (by kernel_rfl)
theorem A2_q : A2.q.length < 1000 := of_decide_eq_true (by kernel_rfl)
theorem A3_q : A3.q.length < 1000 := of_decide_eq_true (by kernel_rfl)
theorem A4_q : A4.q.length < 1000 := of_decide_eq_true (by kernel_rfl)
theorem A5_q : A5.q.length < 1000 := of_decide_eq_true (by kernel_rfl)
theorem A6_q : A6.q.length < 1000 := of_decide_eq_true (by kernel_rfl)
theorem A7_q : A7.q.length < 1000 := of_decide_eq_true (by kernel_rfl)
theorem B0_q : B0.q.length < 1000 := of_decide_eq_true (by kernel_rfl)
theorem B1_q : B1.q.length < 1000 := of_decide_eq_true (by kernel_rfl)
theorem B2_q : B2.q.length < 1000 := of_decide_eq_true (by kernel_rfl)
theorem B3_q : B3.q.length < 1000 := of_decide_eq_true (by kernel_rfl)
theorem B4_q : B4.q.length < 1000 := of_decide_eq_true (by kernel_rfl)
theorem C0_q : C0.q.length < 1000 := of_decide_eq_true (by kernel_rfl)
theorem C1_q : C1.q.length < 1000 := of_decide_eq_true (by kernel_rfl)
theorem C2_q : C2.q.length < 1000 := of_decide_eq_true (by kernel_rfl)
theorem C3_q : C3.q.length < 1000 := of_decide_eq_true (by kernel_rfl)
theorem C4_q : C4.q.length < 1000 := of_decide_eq_true (by kernel_rfl)
theorem fact0 : (A0.write 0 FA).1 = 0 := by kernel_rfl
theorem fact1 : (A1.sync).1 = 0 := by kernel_rfl
theorem fact2 : (A2.write 0 FB).1 = 0 := by kernel_rfl
theorem fact3 : (A4.sync).1 = 19 := by kernel_rfl
theorem fact4 : (A6.read 0).2 = 0 := by kernel_rfl
theorem fact5 : (A6.read 1).2 = 0 := by kernel_rfl
theorem fact6 : (A6.read 2).2 = 1 := by kernel_rfl
theorem fact7 : (A3.read 0).2 = 0 := by kernel_rfl
theorem fact8 : (A6.write 1 (lit [115, 104, 111, 114, 116])).1 = 1 := by kernel_rfl
theorem fact9 : (B3.read 0).2 = 0 := by kernel_rfl
theorem fact10 : (B4.read 0).2 = 0 := by kernel_rfl
theorem fact11 : (C1.write 0 FA).1 = 0 := by kernel_rfl
theorem fact12 : (C2.write 0 FB).1 = 19 := by kernel_rfl
theorem fact13 : (C4.read 0).2 = 0 := by kernel_rfl
theorem str0 : (A3.read 0).1 = FB := by kernel_rfl
theorem str1 : (A6.read 0).1 = (⟨#[98, 98]⟩ : ByteArray) ++ FA.extract 2 64 := by kernel_rfl
theorem str2 : (A6.read 1).1 = FZ := by kernel_rfl
theorem str3 : (B3.read 0).1 = (⟨#[97, 98]⟩ : ByteArray) ++ FA.extract 2 64 := by kernel_rfl
theorem str4 : (B4.read 0).1 = FZ := by kernel_rfl
theorem str5 : (C4.read 0).1 = (⟨#[98, 98]⟩ : ByteArray) ++ FA.extract 2 64 := by kernel_rfl
theorem sizeFA : FA.size = 64 := by kernel_rfl
theorem sizeFB : FB.size = 64 := by kernel_rfl
theorem fill_a (w : World) : Calls Try.prog 27 #[.string ⟨#[97]⟩] w fun e w' => e = .returned (.string FA) ∧ Hid (Chg (fun _ => False) w w') := fill_ok ⟨#[97]⟩ w (by decide)
theorem fill_b (w : World) : Calls Try.prog 27 #[.string ⟨#[98]⟩] w fun e w' => e = .returned (.string FB) ∧ Hid (Chg (fun _ => False) w w') := fill_ok ⟨#[98]⟩ w (by decide)
theorem fill_z (w : World) : Calls Try.prog 27 #[.string ⟨#[0]⟩] w fun e w' => e = .returned (.string FZ) ∧ Hid (Chg (fun _ => False) w w') := fill_ok ⟨#[0]⟩ w (by decide)
theorem write_nil' (w : World) : Calls Try.prog 22 #[.pointer none, .int .i64 0, .string FA] w fun e w' => e = .returned (.int .i64 1) ∧ Hid (Chg (fun _ => False) w w') := write_nil 0 FA w
section
variable {W w : World} {b : Nat}
theorem s03 (l : Hid (Live W w b A0)) : Calls Try.prog 22 #[.pointer (some ⟨b, 0, none⟩), .int .i64 0, .string FA] w fun e w' => e = .returned (.int .i64 0) ∧ Hid (Live W w' b A1) := by
  have h := l.out.write 0 FA (by rw [sizeFA]; decide) A0_q
  rw [fact0] at h
  exact h
theorem s04 (l : Hid (Live W w b A1)) : Calls Try.prog 20 #[.pointer (some ⟨b, 0, none⟩)] w fun e w' => e = .returned (.int .i64 0) ∧ Hid (Live W w' b A2) := by
  have h := l.out.sync (Nat.le_of_lt A1_q)
  rw [fact1] at h
  exact h
theorem s06 (l : Hid (Live W w b A2)) : Calls Try.prog 22 #[.pointer (some ⟨b, 0, none⟩), .int .i64 0, .string FB] w fun e w' => e = .returned (.int .i64 0) ∧ Hid (Live W w' b A3) := by
  have h := l.out.write 0 FB (by rw [sizeFB]; decide) A2_q
  rw [fact2] at h
  exact h
theorem s07 (l : Hid (Live W w b A3)) : Calls Try.prog 17 #[.pointer (some ⟨b, 0, none⟩), .int .i64 0] w fun e w' => e = .returned (.tuple #[.string FB, .int .i64 0]) ∧ Hid (Live W w' b A3) := by
  have h := l.out.read 0 (Nat.le_of_lt A3_q)
  rw [fact7, str0] at h
  exact h
theorem s08 (l : Hid (Live W w b A3)) : Calls Try.prog 24 #[.pointer (some ⟨b, 0, none⟩), .int .i64 0, .int .i64 2] w fun e w' => e = .returned (.tuple #[]) ∧ Hid (Live W w' b A4) := by
  have h := l.out.fail 0 2 (Nat.le_of_lt A3_q)
  exact h
theorem s09 (l : Hid (Live W w b A4)) : Calls Try.prog 20 #[.pointer (some ⟨b, 0, none⟩)] w fun e w' => e = .returned (.int .i64 19) ∧ Hid (Live W w' b A5) := by
  have h := l.out.sync (Nat.le_of_lt A4_q)
  rw [fact3] at h
  exact h
theorem s10 (l : Hid (Live W w b A5)) : Calls Try.prog 19 #[.pointer (some ⟨b, 0, none⟩)] w fun e w' => e = .returned (.tuple #[]) ∧ Hid (Live W w' b A6) := by
  have h := l.out.start
  exact h
theorem s11 (l : Hid (Live W w b A6)) : Calls Try.prog 17 #[.pointer (some ⟨b, 0, none⟩), .int .i64 0] w fun e w' => e = .returned (.tuple #[.string ((⟨#[98, 98]⟩ : ByteArray) ++ FA.extract 2 64), .int .i64 0]) ∧ Hid (Live W w' b A6) := by
  have h := l.out.read 0 (Nat.le_of_lt A6_q)
  rw [fact4, str1] at h
  exact h
theorem s12 (l : Hid (Live W w b A6)) : Calls Try.prog 17 #[.pointer (some ⟨b, 0, none⟩), .int .i64 1] w fun e w' => e = .returned (.tuple #[.string FZ, .int .i64 0]) ∧ Hid (Live W w' b A6) := by
  have h := l.out.read 1 (Nat.le_of_lt A6_q)
  rw [fact5, str2] at h
  exact h
theorem s13 (l : Hid (Live W w b A6)) : Calls Try.prog 17 #[.pointer (some ⟨b, 0, none⟩), .int .i64 2] w fun e w' => e = .returned (.tuple #[.string (A6.read 2).1, .int .i64 1]) ∧ Hid (Live W w' b A6) := by
  have h := l.out.read 2 (Nat.le_of_lt A6_q)
  rw [fact6] at h
  exact h
theorem s14 (l : Hid (Live W w b A6)) : Calls Try.prog 22 #[.pointer (some ⟨b, 0, none⟩), .int .i64 1, .string ⟨#[115, 104, 111, 114, 116]⟩] w fun e w' => e = .returned (.int .i64 1) ∧ Hid (Live W w' b A7) := by
  have h := l.out.write 1 (lit [115, 104, 111, 114, 116]) (by decide) A6_q
  rw [fact8] at h
  exact h
theorem s22 (l : Hid (Live W w b B0)) : Calls Try.prog 22 #[.pointer (some ⟨b, 0, none⟩), .int .i64 0, .string FA] w fun e w' => e = .returned (.int .i64 0) ∧ Hid (Live W w' b B1) := by
  have h := l.out.write 0 FA (by rw [sizeFA]; decide) B0_q
  rw [show (B0.write 0 FA).1 = 0 by kernel_rfl] at h
  exact h
theorem s23 (l : Hid (Live W w b B1)) : Calls Try.prog 20 #[.pointer (some ⟨b, 0, none⟩)] w fun e w' => e = .returned (.int .i64 0) ∧ Hid (Live W w' b B2) := by
  have h := l.out.sync (Nat.le_of_lt B1_q)
  rw [show (B1.sync).1 = 0 by kernel_rfl] at h
  exact h
theorem s24 (l : Hid (Live W w b B2)) : Calls Try.prog 29 #[.pointer (some ⟨b, 0, none⟩), .int .i64 0, .int .i64 1, .int .i64 3] w fun e w' => e = .returned (.tuple #[]) ∧ Hid (Live W w' b B3) := by
  have h := l.out.rot 0 1 3
  exact h
theorem s25 (l : Hid (Live W w b B3)) : Calls Try.prog 17 #[.pointer (some ⟨b, 0, none⟩), .int .i64 0] w fun e w' => e = .returned (.tuple #[.string ((⟨#[97, 98]⟩ : ByteArray) ++ FA.extract 2 64), .int .i64 0]) ∧ Hid (Live W w' b B3) := by
  have h := l.out.read 0 (Nat.le_of_lt B3_q)
  rw [fact9, str3] at h
  exact h
theorem s26 (l : Hid (Live W w b B3)) : Calls Try.prog 30 #[.pointer (some ⟨b, 0, none⟩), .int .i64 0] w fun e w' => e = .returned (.tuple #[]) ∧ Hid (Live W w' b B4) := by
  have h := l.out.stale 0
  exact h
theorem s27 (l : Hid (Live W w b B4)) : Calls Try.prog 17 #[.pointer (some ⟨b, 0, none⟩), .int .i64 0] w fun e w' => e = .returned (.tuple #[.string FZ, .int .i64 0]) ∧ Hid (Live W w' b B4) := by
  have h := l.out.read 0 (Nat.le_of_lt B4_q)
  rw [fact10, str4] at h
  exact h
theorem s31 (l : Hid (Live W w b C0)) : Calls Try.prog 28 #[.pointer (some ⟨b, 0, none⟩), .int .i64 1, .int .i64 1, .int .i64 2] w fun e w' => e = .returned (.tuple #[]) ∧ Hid (Live W w' b C1) := by
  have h := l.out.toArm 1 1 2 (by omega)
  exact h
theorem s33 (l : Hid (Live W w b C1)) : Calls Try.prog 22 #[.pointer (some ⟨b, 0, none⟩), .int .i64 0, .string FA] w fun e w' => e = .returned (.int .i64 0) ∧ Hid (Live W w' b C2) := by
  have h := l.out.write 0 FA (by rw [sizeFA]; decide) C1_q
  rw [fact11] at h
  exact h
theorem s35 (l : Hid (Live W w b C2)) : Calls Try.prog 22 #[.pointer (some ⟨b, 0, none⟩), .int .i64 0, .string FB] w fun e w' => e = .returned (.int .i64 19) ∧ Hid (Live W w' b C3) := by
  have h := l.out.write 0 FB (by rw [sizeFB]; decide) C2_q
  rw [fact12] at h
  exact h
theorem s36 (l : Hid (Live W w b C3)) : Calls Try.prog 19 #[.pointer (some ⟨b, 0, none⟩)] w fun e w' => e = .returned (.tuple #[]) ∧ Hid (Live W w' b C4) := by
  have h := l.out.start
  exact h
theorem s37 (l : Hid (Live W w b C4)) : Calls Try.prog 17 #[.pointer (some ⟨b, 0, none⟩), .int .i64 0] w fun e w' => e = .returned (.tuple #[.string ((⟨#[98, 98]⟩ : ByteArray) ++ FA.extract 2 64), .int .i64 0]) ∧ Hid (Live W w' b C4) := by
  have h := l.out.read 0 (Nat.le_of_lt C4_q)
  rw [fact13, str5] at h
  exact h
end
end Go.Proofs.Ytageboekobkdcaa
