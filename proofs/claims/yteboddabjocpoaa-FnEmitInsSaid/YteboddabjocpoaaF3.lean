/- A part of the proof. -/
import Derived.Test.YteboddabjocpoaaTab
set_option linter.all false
namespace Go.Am.Try
open Go Go.Am
set_option maxRecDepth 100000
def impl_StepOk (C : Call1) (n : Nat) (x0 x1 : V) (H : Heap) (K : V → Heap → Prop) : Prop :=
 dOpt2 (boxV 38 x0 H) fun x2 H =>
 dOpt (fieldA 0 x2) fun x9 =>
 dOpt (loadV 1 false x9 H) fun x10 =>
 dOpt (binV .lss x10 (.i .i64 1)) fun x11 =>
 dGrp x11 false (fun k1 =>
 dOpt (fieldA 0 x2) fun x13 =>
 dOpt (loadV 1 false x13 H) fun x14 =>
 dOpt (binV .gtr x14 (.i .i64 21)) fun x15 =>
 k1 [x13, x14, x15] H) (fun k1 => k1 [.un, .un, .un] H) fun s H =>
 let x15_1 := s.tail.tail.headD .un
 dOpt (pickV x11 (.b true) x15_1) fun x16 =>
 dIf x16 (fun k2 =>
 K (.b false) H) (fun k2 =>
 k2 [] H) fun s H =>
 dOpt (fieldA 0 x2) fun x18 =>
 dOpt (loadV 1 false x18 H) fun x19 =>
 C 72 [x19] H fun x20 H =>
 dOpt (extV x20 0) fun x21 =>
 dOpt (extV x20 1) fun x22 =>
 dOpt (s2bV x21) fun x24 =>
 dOpt (fieldA 1 x2) fun x25 =>
 dOpt (loadV 1 false x25 H) fun x26 =>
 C 74 [x24, (.i .u8 82)] H fun x28 H =>
 C 73 [x26, x28, (.i .i64 7)] H fun x29 H =>
 dGrp x29 true (fun k3 =>
 dOpt (fieldA 2 x2) fun x31 =>
 dOpt (loadV 1 false x31 H) fun x32 =>
 C 74 [x24, (.i .u8 65)] H fun x34 H =>
 C 73 [x32, x34, (.i .i64 7)] H fun x35 H =>
 k3 [x31, x24, x32, x34, x35] H) (fun k3 => k3 [.un, .un, .un, .un, .un] H) fun s H =>
 let x35_1 := s.tail.tail.tail.tail.headD .un
 dOpt (pickV x29 x35_1 (.b false)) fun x36 =>
 dGrp x36 true (fun k4 =>
 dOpt (fieldA 3 x2) fun x38 =>
 dOpt (loadV 1 false x38 H) fun x39 =>
 C 74 [x24, (.i .u8 66)] H fun x41 H =>
 C 73 [x39, x41, (.i .i64 7)] H fun x42 H =>
 k4 [x38, x24, x39, x41, x42] H) (fun k4 => k4 [.un, .un, .un, .un, .un] H) fun s H =>
 let x42_1 := s.tail.tail.tail.tail.headD .un
 dOpt (pickV x36 x42_1 (.b false)) fun x43 =>
 dBlk (fun k5 =>
 C 74 [x24, (.i .u8 78)] H fun x52 H =>
 dIf x52 (fun k6 =>
 k6 [x22] H) (fun k6 =>
 C 74 [x24, (.i .u8 83)] H fun x55 H =>
 dIf x55 (fun k7 =>
 dGrp x22 true (fun k8 =>
 dOpt (fieldA 4 x2) fun x58 =>
 dOpt (loadV 1 false x58 H) fun x59 =>
 C 56 [x59, (.i .i64 0), (.i .i64 39)] H fun x60 H =>
 k8 [x58, x59, x60] H) (fun k8 => k8 [.un, .un, .un] H) fun s H =>
 let x60_1 := s.tail.tail.headD .un
 dOpt (pickV x22 x60_1 (.b false)) fun x61 =>
 k7 [x61] H) (fun k7 =>
 C 74 [x24, (.i .u8 84)] H fun x64 H =>
 dIf x64 (fun k9 =>
 dGrp x22 true (fun k10 =>
 dOpt (fieldA 4 x2) fun x67 =>
 dOpt (loadV 1 false x67 H) fun x68 =>
 dOpt (binV .geq x68 (.i .i64 0)) fun x69 =>
 k10 [x67, x68, x69] H) (fun k10 => k10 [.un, .un, .un] H) fun s H =>
 let x69_1 := s.tail.tail.headD .un
 dOpt (pickV x22 x69_1 (.b false)) fun x70 =>
 dGrp x70 true (fun k11 =>
 dOpt (fieldA 4 x2) fun x72 =>
 dOpt (loadV 1 false x72 H) fun x73 =>
 dOpt (binV .lss x73 x1) fun x75 =>
 k11 [x72, x73, x1, x75] H) (fun k11 => k11 [.un, .un, .un, .un] H) fun s H =>
 let x75_1 := s.tail.tail.tail.headD .un
 dOpt (pickV x70 x75_1 (.b false)) fun x76 =>
 k9 [x76] H) (fun k9 =>
 dGrp x22 true (fun k12 =>
 dOpt (fieldA 4 x2) fun x46 =>
 dOpt (loadV 1 false x46 H) fun x47 =>
 dOpt (binV .eql x47 (.i .i64 0)) fun x48 =>
 k12 [x46, x47, x48] H) (fun k12 => k12 [.un, .un, .un] H) fun s H =>
 let x48_1 := s.tail.tail.headD .un
 dOpt (pickV x22 x48_1 (.b false)) fun x49 =>
 k9 [x49] H) fun s H =>
 let x6 := s.headD .un
 k7 [x6] H) fun s H =>
 let x6_1 := s.headD .un
 k6 [x6_1] H) fun s H =>
 let x6_2 := s.headD .un
 k5 [x6_2] H) fun s H =>
 let x6_3 := s.headD .un
 dGrp x6_3 true (fun k13 =>
 k13 [x43] H) (fun k13 => k13 [.un] H) fun s H =>
 let x79 := s.headD .un
 dOpt (pickV x6_3 x79 (.b false)) fun x80 =>
 K x80 H

theorem impl_StepOk_eq (C : Call1) (n : Nat) (x0 x1 : V) (H : Heap) (K : V → Heap → Prop) : bodyO C n (Fs 21) [x0, x1] H K = impl_StepOk C n x0 x1 H K := by kernel_rfl
def g_impl_StepOk : SigD := { lend := true, args := [.ag [.at_, .at_, .at_, .at_, .at_], .at_], res := .at_, own := false }
theorem c_impl_StepOk (k : Nat) {x0 x1 x0s x1s : V} (H : Heap) (K : V → Heap → Prop) (h : sealCs true true true H [.ag [.at_, .at_, .at_, .at_, .at_], .at_] [x0, x1] = some [x0s, x1s]) : CC (k + 1) 21 [x0, x1] H K = impl_StepOk (CC k) k x0s x1s [] (backD g_impl_StepOk H K) := (CC_seal (sg := g_impl_StepOk) rfl h _).trans (impl_StepOk_eq _ _ _ _ _ _)

def spec_UnpackNum_l0 (C : Call1) (n : Nat) (x0 x1 : V) (k3 : List V → Heap → Prop) (K : V → Heap → Prop) (s : List V) (H : Heap) (k4 : List V → Heap → Prop) : Prop :=
 let x7 := s.headD .un
 let x8 := s.tail.headD .un
 dOpt (binV .lss x8 (.i .i64 9)) fun x19 =>
 dGrp x19 true (fun k5 =>
 dOpt (binV .add x1 x8) fun x23 =>
 dOpt (lenV false x0) fun x25 =>
 dOpt (binV .lss x23 x25) fun x26 =>
 k5 [x1, x8, x23, x0, x25, x26] H) (fun k5 => k5 [.un, .un, .un, .un, .un, .un] H) fun s H =>
 let x26_1 := s.tail.tail.tail.tail.tail.headD .un
 dOpt (pickV x19 x26_1 (.b false)) fun x27 =>
 dIf x27 (fun k6 =>
 k6 [] H) (fun k6 =>
 k3 [] H) fun s H =>
 dBlk (fun k7 =>
 dOpt (binV .add x1 x8) fun x33 =>
 dOpt (indexA 1 x0 x33) fun x34 =>
 dOpt (loadV 1 false x34 H) fun x35 =>
 dOpt (cvtV .i64 x35) fun x36 =>
 dOpt (binV .rem x36 (.i .i64 128)) fun x39 =>
 dOpt (binV .mul (.i .i64 7) x8) fun x41 =>
 dOpt (binV .shl x39 x41) fun x42 =>
 dOpt (binV .or x7 x42) fun x43 =>
 dOpt (binV .lss x36 (.i .i64 128)) fun x45 =>
 dIf x45 (fun k8 =>
 dOpt (binV .eql x36 (.i .i64 0)) fun x47 =>
 dGrp x47 true (fun k9 =>
 dOpt (binV .gtr x8 (.i .i64 0)) fun x50 =>
 k9 [x8, x50] H) (fun k9 => k9 [.un, .un] H) fun s H =>
 let x50_1 := s.tail.headD .un
 dOpt (pickV x47 x50_1 (.b false)) fun x51 =>
 dIf x51 (fun k10 =>
 K (.tup [(.i .i64 0), (.i .i64 0), (.b false)]) H) (fun k10 =>
 k10 [] H) fun s H =>
 dOpt (binV .rem x43 (.i .i64 2)) fun x53 =>
 dOpt (binV .eql x53 (.i .i64 1)) fun x54 =>
 dIf x54 (fun k11 =>
 dOpt (binV .quo x43 (.i .i64 2)) fun x56 =>
 dOpt (binV .sub (.i .i64 0) x56) fun x57 =>
 dOpt (binV .sub x57 (.i .i64 1)) fun x58 =>
 dOpt (binV .add x1 x8) fun x61 =>
 dOpt (binV .add x61 (.i .i64 1)) fun x62 =>
 K (.tup [x58, x62, (.b true)]) H) (fun k11 =>
 k11 [] H) fun s H =>
 dOpt (binV .quo x43 (.i .i64 2)) fun x64 =>
 dOpt (binV .add x1 x8) fun x67 =>
 dOpt (binV .add x67 (.i .i64 1)) fun x68 =>
 K (.tup [x64, x68, (.b true)]) H) (fun k8 =>
 k8 [] H) fun s H =>
 k7 [x43] H) fun s H =>
 let x7_1 := s.headD .un
 dOpt (binV .add x8 (.i .i64 1)) fun x29 =>
 k4 [x7_1, x29] H

def spec_UnpackNum (C : Call1) (n : Nat) (x0 x1 : V) (H : Heap) (K : V → Heap → Prop) : Prop :=
 dOpt (binV .lss x1 (.i .i64 0)) fun x11 =>
 dGrp x11 false (fun k1 =>
 dOpt (lenV false x0) fun x15 =>
 dOpt (binV .geq x1 x15) fun x16 =>
 k1 [x1, x0, x15, x16] H) (fun k1 => k1 [.un, .un, .un, .un] H) fun s H =>
 let x16_1 := s.tail.tail.tail.headD .un
 dOpt (pickV x11 (.b true) x16_1) fun x17 =>
 dIf x17 (fun k2 =>
 K (.tup [(.i .i64 0), (.i .i64 0), (.b false)]) H) (fun k2 =>
 k2 [] H) fun s H =>
 dBlk (fun k3 =>
 dLoop n (spec_UnpackNum_l0 C n x0 x1 k3 K) [(.i .i64 0), (.i .i64 0)] H) fun s H =>
 K (.tup [(.i .i64 0), (.i .i64 0), (.b false)]) H

theorem spec_UnpackNum_eq (C : Call1) (n : Nat) (x0 x1 : V) (H : Heap) (K : V → Heap → Prop) : bodyO C n (Fs 16) [x0, x1] H K = spec_UnpackNum C n x0 x1 H K := by kernel_rfl
def g_spec_UnpackNum : SigD := { lend := true, args := [.li [.at_], .at_], res := .tu [.at_, .at_, .at_], own := false }
theorem c_spec_UnpackNum (k : Nat) {x0 x1 x0s x1s : V} (H : Heap) (K : V → Heap → Prop) (h : sealCs true true true H [.li [.at_], .at_] [x0, x1] = some [x0s, x1s]) : CC (k + 1) 16 [x0, x1] H K = spec_UnpackNum (CC k) k x0s x1s [] (backD g_spec_UnpackNum H K) := (CC_seal (sg := g_spec_UnpackNum) rfl h _).trans (spec_UnpackNum_eq _ _ _ _ _ _)

def impl_emitCopy (C : Call1) (n : Nat) (x0 : V) (H : Heap) (K : V → Heap → Prop) : Prop :=
 dOpt2 (boxV 31 x0 H) fun x1 H =>
 dBlk (fun k1 =>
 dOpt (fieldA 1 x1) fun x6 =>
 dOpt (loadV 1 false x6 H) fun x7 =>
 dOpt (binV .lss x7 (.i .i64 4)) fun x8 =>
 dGrp x8 true (fun k2 =>
 dOpt (fieldA 2 x1) fun x10 =>
 dOpt (loadV 1 false x10 H) fun x11 =>
 dOpt (binV .lss x11 (.i .i64 4)) fun x12 =>
 k2 [x10, x11, x12] H) (fun k2 => k2 [.un, .un, .un] H) fun s H =>
 let x12_1 := s.tail.tail.headD .un
 dOpt (pickV x8 x12_1 (.b false)) fun x13 =>
 dIf x13 (fun k3 =>
 dOpt (fieldA 1 x1) fun x14 =>
 dOpt (loadV 1 false x14 H) fun x15 =>
 dOpt (fieldA 2 x1) fun x16 =>
 dOpt (loadV 1 false x16 H) fun x17 =>
 dOpt (dBuild [.i .i64 0, .i .i64 0, .i .i64 0, .i .i64 0, .i .i64 0] [(0, 1, (.i .i64 2)), (1, 1, x15), (2, 1, x17)]) fun x18 =>
 dOpt2 (buildSliceV 38 5 [.i .i64 0, .i .i64 0, .i .i64 0, .i .i64 0, .i .i64 0] 1 [(0, x18)] H) fun x19 H =>
 K x19 H) (fun k3 =>
 dOpt (fieldA 1 x1) fun x21 =>
 dOpt (loadV 1 false x21 H) fun x22 =>
 dOpt (binV .lss x22 (.i .i64 4)) fun x23 =>
 dIf x23 (fun k4 =>
 dOpt (fieldA 1 x1) fun x24 =>
 dOpt (loadV 1 false x24 H) fun x25 =>
 dOpt (fieldA 2 x1) fun x26 =>
 dOpt (loadV 1 false x26 H) fun x27 =>
 dOpt (binV .sub x27 (.i .i64 4)) fun x28 =>
 dOpt (dBuild [.i .i64 0, .i .i64 0, .i .i64 0, .i .i64 0, .i .i64 0] [(0, 1, (.i .i64 3)), (1, 1, x25), (4, 1, x28)]) fun x29 =>
 dOpt2 (buildSliceV 38 5 [.i .i64 0, .i .i64 0, .i .i64 0, .i .i64 0, .i .i64 0] 1 [(0, x29)] H) fun x30 H =>
 K x30 H) (fun k4 =>
 k4 [] H) fun s H =>
 k3 [] H) fun s H =>
 k1 [] H) fun s H =>
 dOpt (fieldA 2 x1) fun x32 =>
 dOpt (loadV 1 false x32 H) fun x33 =>
 C 63 [x33, (.i .i64 4)] H fun x34 H =>
 dOpt (extV x34 0) fun x35 =>
 dOpt (extV x34 1) fun x36 =>
 dOpt (fieldA 1 x1) fun x39 =>
 dOpt (loadV 1 false x39 H) fun x40 =>
 dOpt (binV .sub x40 (.i .i64 4)) fun x41 =>
 dOpt (dBuild [.i .i64 0, .i .i64 0, .i .i64 0, .i .i64 0, .i .i64 0] [(0, 1, (.i .i64 4)), (2, 1, x35), (4, 1, x41)]) fun x42 =>
 dOpt2 (buildSliceV 38 5 [.i .i64 0, .i .i64 0, .i .i64 0, .i .i64 0, .i .i64 0] 1 [(0, x42)] H) fun x43 H =>
 dOpt2 (appV 38 5 40 x36 x43 H) fun x44 H =>
 K x44 H

theorem impl_emitCopy_eq (C : Call1) (n : Nat) (x0 : V) (H : Heap) (K : V → Heap → Prop) : bodyO C n (Fs 61) [x0] H K = impl_emitCopy C n x0 H K := by kernel_rfl
def g_impl_emitCopy : SigD := { lend := true, args := [.ag [.at_, .at_, .at_, .at_, .at_]], res := .li [.at_, .at_, .at_, .at_, .at_], own := false }
theorem c_impl_emitCopy (k : Nat) {x0 x0s : V} (H : Heap) (K : V → Heap → Prop) (h : sealCs true true true H [.ag [.at_, .at_, .at_, .at_, .at_]] [x0] = some [x0s]) : CC (k + 1) 61 [x0] H K = impl_emitCopy (CC k) k x0s [] (backD g_impl_emitCopy H K) := (CC_seal (sg := g_impl_emitCopy) rfl h _).trans (impl_emitCopy_eq _ _ _ _ _)

def spec_l1Byte (C : Call1) (n : Nat) (x0 : V) (H : Heap) (K : V → Heap → Prop) : Prop :=
 dOpt (nilcV x0) fun x6 =>
 dOpt (fieldA 2 x6) fun x7 =>
 dOpt (loadV 1 false x7 H) fun x8 =>
 dOpt (binV .mul x8 (.i .i64 6364136223846793005)) fun x9 =>
 dOpt (binV .add x9 (.i .i64 1442695040888963407)) fun x10 =>
 dOpt (nilcV x0) fun x11 =>
 dOpt (fieldA 2 x11) fun x12 =>
 dOptH (storeV 1 x12 x10 H) fun H =>
 dOpt (nilcV x0) fun x14 =>
 dOpt (fieldA 2 x14) fun x15 =>
 dOpt (nilcV x0) fun x19 =>
 dOpt (fieldA 2 x19) fun x20 =>
 dOpt (loadV 1 false x15 H) fun x16 =>
 dOpt (binV .shr x16 (.i .u64 33)) fun x17 =>
 dOpt (loadV 1 false x20 H) fun x21 =>
 dOpt (binV .shr x21 (.i .u64 45)) fun x22 =>
 dOpt (binV .xor x17 x22) fun x23 =>
 dOpt (binV .and x23 (.i .i64 255)) fun x24 =>
 dOpt (nilcV x0) fun x26 =>
 dOpt (fieldA 1 x26) fun x27 =>
 dOpt (nilcV x0) fun x30 =>
 dOpt (fieldA 0 x30) fun x31 =>
 dOpt (loadV 1 false x27 H) fun x28 =>
 dOpt (loadV 1 false x31 H) fun x32 =>
 dOpt (lenV false x32) fun x33 =>
 dOpt (binV .lss x28 x33) fun x34 =>
 dIf x34 (fun k1 =>
 dOpt (nilcV x0) fun x37 =>
 dOpt (fieldA 0 x37) fun x38 =>
 dOpt (nilcV x0) fun x41 =>
 dOpt (fieldA 1 x41) fun x42 =>
 dOpt (loadV 1 false x38 H) fun x39 =>
 dOpt (loadV 1 false x42 H) fun x43 =>
 dOpt (indexA 1 x39 x43) fun x44 =>
 dOpt (loadV 1 false x44 H) fun x45 =>
 dOpt (cvtV .i64 x45) fun x46 =>
 dOpt (binV .add x24 x46) fun x47 =>
 dOpt (binV .and x47 (.i .i64 255)) fun x48 =>
 dOpt (nilcV x0) fun x51 =>
 dOpt (fieldA 1 x51) fun x52 =>
 dOpt (loadV 1 false x52 H) fun x53 =>
 dOpt (binV .add x53 (.i .i64 1)) fun x54 =>
 dOpt (nilcV x0) fun x55 =>
 dOpt (fieldA 1 x55) fun x56 =>
 dOptH (storeV 1 x56 x54 H) fun H =>
 k1 [x48] H) (fun k1 =>
 k1 [x24] H) fun s H =>
 let x3 := s.headD .un
 K x3 H

theorem spec_l1Byte_eq (C : Call1) (n : Nat) (x0 : V) (H : Heap) (K : V → Heap → Prop) : bodyO C n (Fs 58) [x0] H K = spec_l1Byte C n x0 H K := by kernel_rfl
theorem c_spec_l1Byte (k : Nat) (x0 : V) (H : Heap) (K : V → Heap → Prop) : CC (k + 1) 58 [x0] H K = spec_l1Byte (CC k) k x0 H K := (CC_heap rfl _ _ _).trans (spec_l1Byte_eq _ _ _ _ _)

def spec_DrawUnpackNum (C : Call1) (n : Nat) (x0 : V) (H : Heap) (K : V → Heap → Prop) : Prop :=
 C 51 [x0] H fun x7 H =>
 C 57 [x7, (.i .i64 300)] H fun x9 H =>
 dOpt (binV .sub x9 (.i .i64 100)) fun x10 =>
 C 13 [x10] H fun x11 H =>
 C 54 [x7] H fun x13 H =>
 C 13 [x13] H fun x14 H =>
 dOpt2 (appV 5 1 1 x11 x14 H) fun x15 H =>
 C 52 [x7, (.i .i64 4)] H fun x17 H =>
 dIf x17 (fun k1 =>
 C 58 [x7] H fun x20 H =>
 dOpt (cvtV .u8 x20) fun x21 =>
 dOpt (litV 1 [.i .u8 0] 3 [(0, (.i .u8 128)), (1, (.i .u8 128)), (2, x21)]) fun x22 =>
 dOpt2 (appV 5 1 1 x15 x22 H) fun x23 H =>
 k1 [x23] H) (fun k1 =>
 k1 [x15] H) fun s H =>
 let x5 := s.headD .un
 C 52 [x7, (.i .i64 12)] H fun x25 H =>
 dIf x25 (fun k2 =>
 dOpt (litV 1 [.i .i64 0] 4 [(0, (.i .i64 127)), (1, (.i .i64 255)), (2, (.i .i64 0)), (3, (.i .i64 1))]) fun x27 =>
 C 53 [x7, x27] H fun x28 H =>
 dOpt (cvtV .u8 x28) fun x29 =>
 dOpt (litV 1 [.i .u8 0] 10 [(0, (.i .u8 255)), (1, (.i .u8 255)), (2, (.i .u8 255)), (3, (.i .u8 255)), (4, (.i .u8 255)), (5, (.i .u8 255)), (6, (.i .u8 255)), (7, (.i .u8 255)), (8, x29), (9, (.i .u8 1))]) fun x30 =>
 k2 [x30] H) (fun k2 =>
 k2 [x5] H) fun s H =>
 let x5_1 := s.headD .un
 dOpt (lenV false x5_1) fun x34 =>
 dOpt (binV .add x34 (.i .i64 1)) fun x35 =>
 C 57 [x7, x35] H fun x36 H =>
 C 57 [x7, (.i .i64 20)] H fun x38 H =>
 dOpt (binV .quo x38 (.i .i64 19)) fun x39 =>
 dOpt (binV .sub x36 x39) fun x40 =>
 K (.tup [x5_1, x40]) H

theorem spec_DrawUnpackNum_eq (C : Call1) (n : Nat) (x0 : V) (H : Heap) (K : V → Heap → Prop) : bodyO C n (Fs 15) [x0] H K = spec_DrawUnpackNum C n x0 H K := by kernel_rfl
def g_spec_DrawUnpackNum : SigD := { lend := true, args := [.li [.at_]], res := .tu [.li [.at_], .at_], own := false }
theorem c_spec_DrawUnpackNum (k : Nat) {x0 x0s : V} (H : Heap) (K : V → Heap → Prop) (h : sealCs true true true H [.li [.at_]] [x0] = some [x0s]) : CC (k + 1) 15 [x0] H K = spec_DrawUnpackNum (CC k) k x0s [] (backD g_spec_DrawUnpackNum H K) := (CC_seal (sg := g_spec_DrawUnpackNum) rfl h _).trans (spec_DrawUnpackNum_eq _ _ _ _ _)

def spec_l15Give (C : Call1) (n : Nat) (x0 x1 x2 : V) (H : Heap) (K : V → Heap → Prop) : Prop :=
 dOpt2 (boxV 38 x1 H) fun x4 H =>
 dOpt (binV .lss x2 (.i .i64 4)) fun x8 =>
 dIf x8 (fun k1 =>
 dOpt (fieldA 1 x4) fun x10 =>
 dOptH (storeV 1 x10 x2 H) fun H =>
 dOpt (loadV 5 true x4 H) fun x12 =>
 dOpt (litV 5 [.i .i64 0, .i .i64 0, .i .i64 0, .i .i64 0, .i .i64 0] 1 [(0, x12)]) fun x13 =>
 dOpt2 (appV 38 5 40 x0 x13 H) fun x14 H =>
 K x14 H) (fun k1 =>
 k1 [] H) fun s H =>
 dOpt (fieldA 1 x4) fun x15 =>
 dOptH (storeV 1 x15 (.i .i64 6) H) fun H =>
 dOpt (loadV 5 true x4 H) fun x17 =>
 dOpt (binV .sub x2 (.i .i64 4)) fun x19 =>
 dOpt (dBuild [.i .i64 0, .i .i64 0, .i .i64 0, .i .i64 0, .i .i64 0] [(0, 1, (.i .i64 4)), (2, 1, (.i .i64 6)), (4, 1, x19)]) fun x20 =>
 dOpt (litV 5 [.i .i64 0, .i .i64 0, .i .i64 0, .i .i64 0, .i .i64 0] 2 [(0, x17), (1, x20)]) fun x21 =>
 dOpt2 (appV 38 5 40 x0 x21 H) fun x22 H =>
 K x22 H

theorem spec_l15Give_eq (C : Call1) (n : Nat) (x0 x1 x2 : V) (H : Heap) (K : V → Heap → Prop) : bodyO C n (Fs 69) [x0, x1, x2] H K = spec_l15Give C n x0 x1 x2 H K := by kernel_rfl
theorem c_spec_l15Give (k : Nat) (x0 x1 x2 : V) (H : Heap) (K : V → Heap → Prop) : CC (k + 1) 69 [x0, x1, x2] H K = spec_l15Give (CC k) k x0 x1 x2 H K := (CC_heap rfl _ _ _).trans (spec_l15Give_eq _ _ _ _ _ _ _)

def slices_Index_byte_byte_l0 (C : Call1) (n : Nat) (x0 x1 x7 : V) (k1 : List V → Heap → Prop) (K : V → Heap → Prop) (s : List V) (H : Heap) (k2 : List V → Heap → Prop) : Prop :=
 let x8 := s.headD .un
 dOpt (binV .lss x8 x7) fun x9 =>
 dIf x9 (fun k3 =>
 k3 [] H) (fun k3 =>
 k1 [] H) fun s H =>
 dBlk (fun k4 =>
 dOpt (indexA 1 x0 x8) fun x14 =>
 dOpt (loadV 1 false x14 H) fun x15 =>
 dOpt (binV .eql x1 x15) fun x16 =>
 dIf x16 (fun k5 =>
 K x8 H) (fun k5 =>
 k5 [] H) fun s H =>
 k4 [] H) fun s H =>
 dOpt (binV .add x8 (.i .i64 1)) fun x18 =>
 k2 [x18] H

def slices_Index_byte_byte (C : Call1) (n : Nat) (x0 x1 : V) (H : Heap) (K : V → Heap → Prop) : Prop :=
 dOpt (lenV false x0) fun x7 =>
 dBlk (fun k1 =>
 dLoop n (slices_Index_byte_byte_l0 C n x0 x1 x7 k1 K) [(.i .i64 0)] H) fun s H =>
 K (.i .i64 (-1)) H

theorem slices_Index_byte_byte_eq (C : Call1) (n : Nat) (x0 x1 : V) (H : Heap) (K : V → Heap → Prop) : bodyO C n (Fs 106) [x0, x1] H K = slices_Index_byte_byte C n x0 x1 H K := by kernel_rfl
def g_slices_Index_byte_byte : SigD := { lend := true, args := [.li [.at_], .at_], res := .at_, own := false }
theorem c_slices_Index_byte_byte (k : Nat) {x0 x1 x0s x1s : V} (H : Heap) (K : V → Heap → Prop) (h : sealCs true true true H [.li [.at_], .at_] [x0, x1] = some [x0s, x1s]) : CC (k + 1) 106 [x0, x1] H K = slices_Index_byte_byte (CC k) k x0s x1s [] (backD g_slices_Index_byte_byte H K) := (CC_seal (sg := g_slices_Index_byte_byte) rfl h _).trans (slices_Index_byte_byte_eq _ _ _ _ _ _)

def impl_taken (C : Call1) (n : Nat) (x0 x1 : V) (H : Heap) (K : V → Heap → Prop) : Prop :=
 dOpt (binV .lss x0 (.i .i64 4)) fun x7 =>
 dIf x7 (fun k1 =>
 K (.tup [x0, .ns]) H) (fun k1 =>
 k1 [] H) fun s H =>
 dOpt (binV .sub x0 (.i .i64 4)) fun x12 =>
 dOpt (dBuild [.i .i64 0, .i .i64 0, .i .i64 0, .i .i64 0, .i .i64 0] [(0, 1, (.i .i64 3)), (1, 1, x1), (4, 1, x12)]) fun x13 =>
 dOpt2 (buildSliceV 38 5 [.i .i64 0, .i .i64 0, .i .i64 0, .i .i64 0, .i .i64 0] 1 [(0, x13)] H) fun x14 H =>
 K (.tup [x1, x14]) H

theorem impl_taken_eq (C : Call1) (n : Nat) (x0 x1 : V) (H : Heap) (K : V → Heap → Prop) : bodyO C n (Fs 63) [x0, x1] H K = impl_taken C n x0 x1 H K := by kernel_rfl
theorem c_impl_taken (k : Nat) (x0 x1 : V) (H : Heap) (K : V → Heap → Prop) : CC (k + 1) 63 [x0, x1] H K = impl_taken (CC k) k x0 x1 H K := (CC_heap rfl _ _ _).trans (impl_taken_eq _ _ _ _ _ _)

def impl_in (C : Call1) (n : Nat) (x0 x1 x2 : V) (H : Heap) (K : V → Heap → Prop) : Prop :=
 dOpt (binV .geq x0 x1) fun x9 =>
 dGrp x9 true (fun k1 =>
 dOpt (binV .leq x0 x2) fun x13 =>
 k1 [x0, x2, x13] H) (fun k1 => k1 [.un, .un, .un] H) fun s H =>
 let x13_1 := s.tail.tail.headD .un
 dOpt (pickV x9 x13_1 (.b false)) fun x14 =>
 K x14 H

theorem impl_in_eq (C : Call1) (n : Nat) (x0 x1 x2 : V) (H : Heap) (K : V → Heap → Prop) : bodyO C n (Fs 56) [x0, x1, x2] H K = impl_in C n x0 x1 x2 H K := by kernel_rfl
def g_impl_in : SigD := { lend := true, args := [.at_, .at_, .at_], res := .at_, own := false }
theorem c_impl_in (k : Nat) {x0 x1 x2 x0s x1s x2s : V} (H : Heap) (K : V → Heap → Prop) (h : sealCs true true true H [.at_, .at_, .at_] [x0, x1, x2] = some [x0s, x1s, x2s]) : CC (k + 1) 56 [x0, x1, x2] H K = impl_in (CC k) k x0s x1s x2s [] (backD g_impl_in H K) := (CC_seal (sg := g_impl_in) rfl h _).trans (impl_in_eq _ _ _ _ _ _ _)

def laws_big (C : Call1) (n : Nat) (x0 : V) (H : Heap) (K : V → Heap → Prop) : Prop :=
 dOpt (lenV false x0) fun x4 =>
 dOpt (binV .gtr x4 (.i .i64 1048576)) fun x5 =>
 K x5 H

theorem laws_big_eq (C : Call1) (n : Nat) (x0 : V) (H : Heap) (K : V → Heap → Prop) : bodyO C n (Fs 10) [x0] H K = laws_big C n x0 H K := by kernel_rfl
def g_laws_big : SigD := { lend := true, args := [.li [.at_]], res := .at_, own := false }
theorem c_laws_big (k : Nat) {x0 x0s : V} (H : Heap) (K : V → Heap → Prop) (h : sealCs true true true H [.li [.at_]] [x0] = some [x0s]) : CC (k + 1) 10 [x0] H K = laws_big (CC k) k x0s [] (backD g_laws_big H K) := (CC_seal (sg := g_laws_big) rfl h _).trans (laws_big_eq _ _ _ _ _)

def impl_isHome (C : Call1) (n : Nat) (x0 : V) (H : Heap) (K : V → Heap → Prop) : Prop :=
 C 56 [x0, (.i .i64 0), (.i .i64 39)] H fun x4 H =>
 K x4 H

theorem impl_isHome_eq (C : Call1) (n : Nat) (x0 : V) (H : Heap) (K : V → Heap → Prop) : bodyO C n (Fs 104) [x0] H K = impl_isHome C n x0 H K := by kernel_rfl
def g_impl_isHome : SigD := { lend := true, args := [.at_], res := .at_, own := false }
theorem c_impl_isHome (k : Nat) {x0 x0s : V} (H : Heap) (K : V → Heap → Prop) (h : sealCs true true true H [.at_] [x0] = some [x0s]) : CC (k + 1) 104 [x0] H K = impl_isHome (CC k) k x0s [] (backD g_impl_isHome H K) := (CC_seal (sg := g_impl_isHome) rfl h _).trans (impl_isHome_eq _ _ _ _ _)

end Go.Am.Try
