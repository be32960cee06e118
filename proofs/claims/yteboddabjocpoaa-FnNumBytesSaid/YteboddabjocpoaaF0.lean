/- A part of the proof. -/
import Derived.Test.YteboddabjocpoaaTab
set_option linter.all false
namespace Go.Am.Try
open Go Go.Am
set_option maxRecDepth 100000
def laws_FnNumBytes (C : Call1) (n : Nat) (x0 : V) (H : Heap) (K : V → Heap → Prop) : Prop :=
 C 10 [x0] H fun x17 H =>
 dIf x17 (fun k1 =>
 K (.b true) H) (fun k1 =>
 k1 [] H) fun s H =>
 C 11 [x0] H fun x19 H =>
 C 12 [x19] H fun x21 H =>
 dBlk (fun k2 =>
 dOpt (b2sV x21 H) fun x23 =>
 C 13 [x19] H fun x25 H =>
 dChk (b2sV x21 H) x23 (
 dOpt (b2sV x25 H) fun x26 =>
 dOpt (binV .neq x23 x26) fun x27 =>
 k2 [x27] H)) fun s H =>
 let x27_1 := s.headD .un
 dIf x27_1 (fun k3 =>
 K (.b false) H) (fun k3 =>
 k3 [] H) fun s H =>
 C 14 [x21, (.i .i64 0)] H fun x30 H =>
 dOpt (extV x30 0) fun x31 =>
 dOpt (extV x30 1) fun x32 =>
 dOpt (extV x30 2) fun x33 =>
 dOpt (lenV false x21) fun x36 =>
 dOpt (binV .gtr x36 (.i .i64 0)) fun x37 =>
 dOpt (binBV .neq x33 x37) fun x38 =>
 dGrp x38 false (fun k4 =>
 k4 [x33, x33] H) (fun k4 => k4 [.un, .un] H) fun s H =>
 let x41 := s.tail.headD .un
 dGrp x41 true (fun k5 =>
 dOpt (binV .neq x31 x19) fun x44 =>
 k5 [x31, x19, x44, x44] H) (fun k5 => k5 [.un, .un, .un, .un] H) fun s H =>
 let x45 := s.tail.tail.tail.headD .un
 dGrp x45 false (fun k6 =>
 dOpt (lenV false x21) fun x48 =>
 dOpt (binV .neq x32 x48) fun x49 =>
 k6 [x32, x21, x48, x49] H) (fun k6 => k6 [.un, .un, .un, .un] H) fun s H =>
 let x49_1 := s.tail.tail.tail.headD .un
 dGrp x41 true (fun k7 =>
 dOpt (pickV x45 (.b true) x49_1) fun x50 =>
 k7 [x50] H) (fun k7 => k7 [.un] H) fun s H =>
 let x50_1 := s.headD .un
 dGrp x38 false (fun k8 =>
 dOpt (pickV x41 x50_1 (.b false)) fun x51 =>
 k8 [x51] H) (fun k8 => k8 [.un] H) fun s H =>
 let x51_1 := s.headD .un
 dOpt (pickV x38 (.b true) x51_1) fun x52 =>
 dIf x52 (fun k9 =>
 K (.b false) H) (fun k9 =>
 k9 [] H) fun s H =>
 C 15 [x0] H fun x55 H =>
 dOpt (extV x55 0) fun x56 =>
 dOpt (extV x55 1) fun x57 =>
 C 14 [x56, x57] H fun x61 H =>
 dOpt (extV x61 0) fun x62 =>
 dOpt (extV x61 1) fun x63 =>
 dOpt (extV x61 2) fun x64 =>
 C 16 [x56, x57] H fun x68 H =>
 dOpt (extV x68 0) fun x69 =>
 dOpt (extV x68 1) fun x70 =>
 dOpt (extV x68 2) fun x71 =>
 dOpt (binBV .neq x64 x71) fun x74 =>
 dGrp x74 false (fun k10 =>
 dOpt (binV .neq x63 x70) fun x78 =>
 k10 [x63, x70, x78] H) (fun k10 => k10 [.un, .un, .un] H) fun s H =>
 let x78_1 := s.tail.tail.headD .un
 dOpt (pickV x74 (.b true) x78_1) fun x79 =>
 dIf x79 (fun k11 =>
 K (.b false) H) (fun k11 =>
 k11 [] H) fun s H =>
 dBlk (fun k12 =>
 dOpt (unV .not x64) fun x81 =>
 dGrp x81 true (fun k13 =>
 k13 [x62] H) (fun k13 => k13 [.un] H) fun s H =>
 let x83 := s.headD .un
 dGrp x81 true (fun k14 =>
 dOpt (binV .eql x83 (.i .i64 0)) fun x84 =>
 k14 [x84] H) (fun k14 => k14 [.un] H) fun s H =>
 let x84_1 := s.headD .un
 dOpt (pickV x81 x84_1 (.b false)) fun x85 =>
 dGrp x85 true (fun k15 =>
 k15 [x63] H) (fun k15 => k15 [.un] H) fun s H =>
 let x87 := s.headD .un
 dGrp x85 true (fun k16 =>
 dOpt (binV .eql x87 (.i .i64 0)) fun x88 =>
 k16 [x88] H) (fun k16 => k16 [.un] H) fun s H =>
 let x88_1 := s.headD .un
 dOpt (pickV x85 x88_1 (.b false)) fun x89 =>
 dGrp x89 false (fun k17 =>
 k17 [x64] H) (fun k17 => k17 [.un] H) fun s H =>
 let x91 := s.headD .un
 dGrp x89 false (fun k18 =>
 k18 [x91] H) (fun k18 => k18 [.un] H) fun s H =>
 let x92 := s.headD .un
 dGrp x92 true (fun k19 =>
 k19 [x63] H) (fun k19 => k19 [.un] H) fun s H =>
 let x93 := s.headD .un
 dGrp x92 true (fun k20 =>
 k20 [x57] H) (fun k20 => k20 [.un] H) fun s H =>
 let x94 := s.headD .un
 dGrp x92 true (fun k21 =>
 dOpt (binV .gtr x93 x94) fun x95 =>
 k21 [x95] H) (fun k21 => k21 [.un] H) fun s H =>
 let x95_1 := s.headD .un
 dGrp x89 false (fun k22 =>
 dOpt (pickV x92 x95_1 (.b false)) fun x96 =>
 k22 [x96] H) (fun k22 => k22 [.un] H) fun s H =>
 let x96_1 := s.headD .un
 dGrp x89 false (fun k23 =>
 k23 [x96_1] H) (fun k23 => k23 [.un] H) fun s H =>
 let x97 := s.headD .un
 dGrp x97 true (fun k24 =>
 k24 [x62] H) (fun k24 => k24 [.un] H) fun s H =>
 let x98 := s.headD .un
 dGrp x97 true (fun k25 =>
 k25 [x56] H) (fun k25 => k25 [.un] H) fun s H =>
 let x101 := s.headD .un
 dGrp x97 true (fun k26 =>
 k26 [x57] H) (fun k26 => k26 [.un] H) fun s H =>
 let x102 := s.headD .un
 dGrp x97 true (fun k27 =>
 k27 [x63] H) (fun k27 => k27 [.un] H) fun s H =>
 let x103 := s.headD .un
 dGrp x97 true (fun k28 =>
 dOpt (cutLV 1 x101 (some x102) (some x103) none) fun x104 =>
 k28 [x104] H) (fun k28 => k28 [.un] H) fun s H =>
 let x104_1 := s.headD .un
 dGrp x97 true (fun k29 =>
 dOpt (b2sV x104_1 H) fun x105 =>
 k29 [x105] H) (fun k29 => k29 [.un] H) fun s H =>
 let x105_1 := s.headD .un
 dGrp x97 true (fun k30 =>
 C 12 [x98] H fun x99 H =>
 k30 [x99] H) (fun k30 => k30 [.un] H) fun s H =>
 let x99_1 := s.headD .un
 dChkG x97 true (b2sV x104_1 H) x105_1 (
 dGrp x97 true (fun k31 =>
 dOpt (b2sV x99_1 H) fun x100 =>
 k31 [x100] H) (fun k31 => k31 [.un] H) fun s H =>
 let x100_1 := s.headD .un
 dGrp x97 true (fun k32 =>
 dOpt (binV .eql x100_1 x105_1) fun x106 =>
 k32 [x106] H) (fun k32 => k32 [.un] H) fun s H =>
 let x106_1 := s.headD .un
 dGrp x89 false (fun k33 =>
 dOpt (pickV x97 x106_1 (.b false)) fun x107 =>
 k33 [x107] H) (fun k33 => k33 [.un] H) fun s H =>
 let x107_1 := s.headD .un
 dOpt (pickV x89 (.b true) x107_1) fun x108 =>
 k12 [x108] H)) fun s H =>
 let x2 := s.headD .un
 K x2 H

theorem laws_FnNumBytes_eq (C : Call1) (n : Nat) (x0 : V) (H : Heap) (K : V → Heap → Prop) : bodyO C n (Fs 3) [x0] H K = laws_FnNumBytes C n x0 H K := by kernel_rfl
theorem c_laws_FnNumBytes (k : Nat) (x0 : V) (H : Heap) (K : V → Heap → Prop) : CC (k + 1) 3 [x0] H K = laws_FnNumBytes (CC k) k x0 H K := (CC_heap rfl _ _ _).trans (laws_FnNumBytes_eq _ _ _ _ _)

def spec_UnpackNum_l0 (C : Call1) (n : Nat) (x0 x1 : V) (k3 : List V → Heap → Prop) (K : V → Heap → Prop) (s : List V) (H : Heap) (k4 : List V → Heap → Prop) : Prop :=
 let x7 := s.headD .un
 let x8 := s.tail.headD .un
 dOpt (binV .lss x8 (.i .i64 9)) fun x19 =>
 dGrp x19 true (fun k5 =>
 dOpt (binV .add x1 x8) fun x23 =>
 dOpt (lenV false x0) fun x25 =>
 dOpt (binV .lss x23 x25) fun x26 =>
 k5 [x1, x8, x23, x0, x25, x26] H) (fun k5 => k5 [.un, .un, .un, .un, .un, .un] H) fun s H =>
 let x26_1 := s.tail.tail.tail.tail.tail.headD .un
 dOpt (pickV x19 x26_1 (.b false)) fun x27 =>
 dIf x27 (fun k6 =>
 k6 [] H) (fun k6 =>
 k3 [] H) fun s H =>
 dBlk (fun k7 =>
 dOpt (binV .add x1 x8) fun x33 =>
 dOpt (indexA 1 x0 x33) fun x34 =>
 dOpt (loadV 1 false x34 H) fun x35 =>
 dOpt (cvtV .i64 x35) fun x36 =>
 dOpt (binV .rem x36 (.i .i64 128)) fun x39 =>
 dOpt (binV .mul (.i .i64 7) x8) fun x41 =>
 dOpt (binV .shl x39 x41) fun x42 =>
 dOpt (binV .or x7 x42) fun x43 =>
 dOpt (binV .lss x36 (.i .i64 128)) fun x45 =>
 dIf x45 (fun k8 =>
 dOpt (binV .eql x36 (.i .i64 0)) fun x47 =>
 dGrp x47 true (fun k9 =>
 dOpt (binV .gtr x8 (.i .i64 0)) fun x50 =>
 k9 [x8, x50] H) (fun k9 => k9 [.un, .un] H) fun s H =>
 let x50_1 := s.tail.headD .un
 dOpt (pickV x47 x50_1 (.b false)) fun x51 =>
 dIf x51 (fun k10 =>
 K (.tup [(.i .i64 0), (.i .i64 0), (.b false)]) H) (fun k10 =>
 k10 [] H) fun s H =>
 dOpt (binV .rem x43 (.i .i64 2)) fun x53 =>
 dOpt (binV .eql x53 (.i .i64 1)) fun x54 =>
 dIf x54 (fun k11 =>
 dOpt (binV .quo x43 (.i .i64 2)) fun x56 =>
 dOpt (binV .sub (.i .i64 0) x56) fun x57 =>
 dOpt (binV .sub x57 (.i .i64 1)) fun x58 =>
 dOpt (binV .add x1 x8) fun x61 =>
 dOpt (binV .add x61 (.i .i64 1)) fun x62 =>
 K (.tup [x58, x62, (.b true)]) H) (fun k11 =>
 k11 [] H) fun s H =>
 dOpt (binV .quo x43 (.i .i64 2)) fun x64 =>
 dOpt (binV .add x1 x8) fun x67 =>
 dOpt (binV .add x67 (.i .i64 1)) fun x68 =>
 K (.tup [x64, x68, (.b true)]) H) (fun k8 =>
 k8 [] H) fun s H =>
 k7 [x43] H) fun s H =>
 let x7_1 := s.headD .un
 dOpt (binV .add x8 (.i .i64 1)) fun x29 =>
 k4 [x7_1, x29] H

def spec_UnpackNum (C : Call1) (n : Nat) (x0 x1 : V) (H : Heap) (K : V → Heap → Prop) : Prop :=
 dOpt (binV .lss x1 (.i .i64 0)) fun x11 =>
 dGrp x11 false (fun k1 =>
 dOpt (lenV false x0) fun x15 =>
 dOpt (binV .geq x1 x15) fun x16 =>
 k1 [x1, x0, x15, x16] H) (fun k1 => k1 [.un, .un, .un, .un] H) fun s H =>
 let x16_1 := s.tail.tail.tail.headD .un
 dOpt (pickV x11 (.b true) x16_1) fun x17 =>
 dIf x17 (fun k2 =>
 K (.tup [(.i .i64 0), (.i .i64 0), (.b false)]) H) (fun k2 =>
 k2 [] H) fun s H =>
 dBlk (fun k3 =>
 dLoop n (spec_UnpackNum_l0 C n x0 x1 k3 K) [(.i .i64 0), (.i .i64 0)] H) fun s H =>
 K (.tup [(.i .i64 0), (.i .i64 0), (.b false)]) H

theorem spec_UnpackNum_eq (C : Call1) (n : Nat) (x0 x1 : V) (H : Heap) (K : V → Heap → Prop) : bodyO C n (Fs 16) [x0, x1] H K = spec_UnpackNum C n x0 x1 H K := by kernel_rfl
def g_spec_UnpackNum : SigD := { lend := true, args := [.li [.at_], .at_], res := .tu [.at_, .at_, .at_], own := false }
theorem c_spec_UnpackNum (k : Nat) {x0 x1 x0s x1s : V} (H : Heap) (K : V → Heap → Prop) (h : sealCs true true true H [.li [.at_], .at_] [x0, x1] = some [x0s, x1s]) : CC (k + 1) 16 [x0, x1] H K = spec_UnpackNum (CC k) k x0s x1s [] (backD g_spec_UnpackNum H K) := (CC_seal (sg := g_spec_UnpackNum) rfl h _).trans (spec_UnpackNum_eq _ _ _ _ _ _)

def impl_UnpackNum_l0 (C : Call1) (n : Nat) (x0 x1 : V) (k2 : List V → Heap → Prop) (K : V → Heap → Prop) (s : List V) (H : Heap) (k3 : List V → Heap → Prop) : Prop :=
 let x7 := s.headD .un
 let x8 := s.tail.headD .un
 dOpt (binV .lss x8 (.i .i64 9)) fun x16 =>
 dGrp x16 true (fun k4 =>
 dOpt (binV .add x1 x8) fun x20 =>
 dOpt (lenV false x0) fun x22 =>
 dOpt (binV .lss x20 x22) fun x23 =>
 k4 [x1, x8, x20, x0, x22, x23] H) (fun k4 => k4 [.un, .un, .un, .un, .un, .un] H) fun s H =>
 let x23_1 := s.tail.tail.tail.tail.tail.headD .un
 dOpt (pickV x16 x23_1 (.b false)) fun x24 =>
 dIf x24 (fun k5 =>
 k5 [] H) (fun k5 =>
 k2 [] H) fun s H =>
 dBlk (fun k6 =>
 dOpt (binV .add x1 x8) fun x30 =>
 dOpt (indexA 1 x0 x30) fun x31 =>
 dOpt (loadV 1 false x31 H) fun x32 =>
 dOpt (cvtV .i64 x32) fun x33 =>
 dOpt (binV .and x33 (.i .i64 127)) fun x36 =>
 dOpt (binV .mul (.i .i64 7) x8) fun x38 =>
 dOpt (binV .shl x36 x38) fun x39 =>
 dOpt (binV .or x7 x39) fun x40 =>
 dOpt (binV .gtr x33 (.i .i64 127)) fun x42 =>
 dIf x42 (fun k7 =>
 k6 [x40] H) (fun k7 =>
 k7 [] H) fun s H =>
 dOpt (binV .eql x33 (.i .i64 0)) fun x44 =>
 dGrp x44 true (fun k8 =>
 dOpt (binV .gtr x8 (.i .i64 0)) fun x47 =>
 k8 [x8, x47] H) (fun k8 => k8 [.un, .un] H) fun s H =>
 let x47_1 := s.tail.headD .un
 dOpt (pickV x44 x47_1 (.b false)) fun x48 =>
 dIf x48 (fun k9 =>
 K (.tup [(.i .i64 0), (.i .i64 0), (.b false)]) H) (fun k9 =>
 k9 [] H) fun s H =>
 dOpt (binV .rem x40 (.i .i64 2)) fun x50 =>
 dOpt (binV .eql x50 (.i .i64 1)) fun x51 =>
 dIf x51 (fun k10 =>
 dOpt (binV .quo x40 (.i .i64 2)) fun x53 =>
 dOpt (unV .neg x53) fun x54 =>
 dOpt (binV .sub x54 (.i .i64 1)) fun x55 =>
 dOpt (binV .add x1 x8) fun x58 =>
 dOpt (binV .add x58 (.i .i64 1)) fun x59 =>
 K (.tup [x55, x59, (.b true)]) H) (fun k10 =>
 k10 [] H) fun s H =>
 dOpt (binV .quo x40 (.i .i64 2)) fun x61 =>
 dOpt (binV .add x1 x8) fun x64 =>
 dOpt (binV .add x64 (.i .i64 1)) fun x65 =>
 K (.tup [x61, x65, (.b true)]) H) fun s H =>
 let x7_1 := s.headD .un
 dOpt (binV .add x8 (.i .i64 1)) fun x26 =>
 k3 [x7_1, x26] H

def impl_UnpackNum (C : Call1) (n : Nat) (x0 x1 : V) (H : Heap) (K : V → Heap → Prop) : Prop :=
 dOpt (lenV false x0) fun x12 =>
 C 56 [x1, (.i .i64 0), x12] H fun x13 H =>
 dOpt (unV .not x13) fun x14 =>
 dIf x14 (fun k1 =>
 K (.tup [(.i .i64 0), (.i .i64 0), (.b false)]) H) (fun k1 =>
 k1 [] H) fun s H =>
 dBlk (fun k2 =>
 dLoop n (impl_UnpackNum_l0 C n x0 x1 k2 K) [(.i .i64 0), (.i .i64 0)] H) fun s H =>
 K (.tup [(.i .i64 0), (.i .i64 0), (.b false)]) H

theorem impl_UnpackNum_eq (C : Call1) (n : Nat) (x0 x1 : V) (H : Heap) (K : V → Heap → Prop) : bodyO C n (Fs 14) [x0, x1] H K = impl_UnpackNum C n x0 x1 H K := by kernel_rfl
def g_impl_UnpackNum : SigD := { lend := true, args := [.li [.at_], .at_], res := .tu [.at_, .at_, .at_], own := false }
theorem c_impl_UnpackNum (k : Nat) {x0 x1 x0s x1s : V} (H : Heap) (K : V → Heap → Prop) (h : sealCs true true true H [.li [.at_], .at_] [x0, x1] = some [x0s, x1s]) : CC (k + 1) 14 [x0, x1] H K = impl_UnpackNum (CC k) k x0s x1s [] (backD g_impl_UnpackNum H K) := (CC_seal (sg := g_impl_UnpackNum) rfl h _).trans (impl_UnpackNum_eq _ _ _ _ _ _)

def impl_PackNum_l0 (C : Call1) (n : Nat) (k5 : List V → Heap → Prop) (s : List V) (H : Heap) (k6 : List V → Heap → Prop) : Prop :=
 let x3_2 := s.headD .un
 let x4 := s.tail.headD .un
 dOpt (binV .gtr x3_2 (.i .u64 127)) fun x24 =>
 dIf x24 (fun k7 =>
 k7 [] H) (fun k7 =>
 k5 [x3_2, x4] H) fun s H =>
 dBlk (fun k8 =>
 dOpt (binV .and x3_2 (.i .u64 127)) fun x27 =>
 dOpt (binV .or x27 (.i .u64 128)) fun x28 =>
 dOpt (cvtV .u8 x28) fun x29 =>
 dOpt (litV 1 [.i .u8 0] 1 [(0, x29)]) fun x30 =>
 dOpt2 (appV 5 1 1 x4 x30 H) fun x31 H =>
 dOpt (binV .shr x3_2 (.i .u64 7)) fun x33 =>
 k8 [x33, x31] H) fun s H =>
 let x3_3 := s.headD .un
 let x4_1 := s.tail.headD .un
 k6 [x3_3, x4_1] H

def impl_PackNum (C : Call1) (n : Nat) (x0 : V) (H : Heap) (K : V → Heap → Prop) : Prop :=
 dOpt (binV .geq x0 (.i .i64 4611686018427387904)) fun x6 =>
 dGrp x6 false (fun k1 =>
 dOpt (binV .lss x0 (.i .i64 (-4611686018427387904))) fun x9 =>
 k1 [x0, x9] H) (fun k1 => k1 [.un, .un] H) fun s H =>
 let x9_1 := s.tail.headD .un
 dOpt (pickV x6 (.b true) x9_1) fun x10 =>
 dIf x10 (fun k2 =>
 K .ns H) (fun k2 =>
 k2 [] H) fun s H =>
 dOpt (binV .mul (.i .i64 2) x0) fun x12 =>
 dOpt (cvtV .u64 x12) fun x13 =>
 dOpt (binV .lss x0 (.i .i64 0)) fun x15 =>
 dIf x15 (fun k3 =>
 dOpt (binV .mul (.i .i64 (-2)) x0) fun x17 =>
 dOpt (binV .sub x17 (.i .i64 1)) fun x18 =>
 dOpt (cvtV .u64 x18) fun x19 =>
 dOpt (binV .eql x0 (.i .i64 (-4611686018427387904))) fun x21 =>
 dIf x21 (fun k4 =>
 k4 [(.i .u64 9223372036854775807)] H) (fun k4 =>
 k4 [x19] H) fun s H =>
 let x3 := s.headD .un
 k3 [x3] H) (fun k3 =>
 k3 [x13] H) fun s H =>
 let x3_1 := s.headD .un
 dBlk (fun k5 =>
 dLoop n (impl_PackNum_l0 C n k5) [x3_1, .zs] H) fun s H =>
 let x3_4 := s.headD .un
 let x4_2 := s.tail.headD .un
 dOpt (cvtV .u8 x3_4) fun x36 =>
 dOpt (litV 1 [.i .u8 0] 1 [(0, x36)]) fun x37 =>
 dOpt2 (appV 5 1 1 x4_2 x37 H) fun x38 H =>
 K x38 H

theorem impl_PackNum_eq (C : Call1) (n : Nat) (x0 : V) (H : Heap) (K : V → Heap → Prop) : bodyO C n (Fs 12) [x0] H K = impl_PackNum C n x0 H K := by kernel_rfl
def g_impl_PackNum : SigD := { lend := true, args := [.at_], res := .li [.at_], own := true }
theorem c_impl_PackNum (k : Nat) {x0 x0s : V} (H : Heap) (K : V → Heap → Prop) (h : sealCs true true true H [.at_] [x0] = some [x0s]) : CC (k + 1) 12 [x0] H K = impl_PackNum (CC k) k x0s [] (backD g_impl_PackNum H K) := (CC_seal (sg := g_impl_PackNum) rfl h _).trans (impl_PackNum_eq _ _ _ _ _)

def spec_l1Byte (C : Call1) (n : Nat) (x0 : V) (H : Heap) (K : V → Heap → Prop) : Prop :=
 dOpt (nilcV x0) fun x6 =>
 dOpt (fieldA 2 x6) fun x7 =>
 dOpt (loadV 1 false x7 H) fun x8 =>
 dOpt (binV .mul x8 (.i .i64 6364136223846793005)) fun x9 =>
 dOpt (binV .add x9 (.i .i64 1442695040888963407)) fun x10 =>
 dOpt (nilcV x0) fun x11 =>
 dOpt (fieldA 2 x11) fun x12 =>
 dOptH (storeV 1 x12 x10 H) fun H =>
 dOpt (nilcV x0) fun x14 =>
 dOpt (fieldA 2 x14) fun x15 =>
 dOpt (nilcV x0) fun x19 =>
 dOpt (fieldA 2 x19) fun x20 =>
 dOpt (loadV 1 false x15 H) fun x16 =>
 dOpt (binV .shr x16 (.i .u64 33)) fun x17 =>
 dOpt (loadV 1 false x20 H) fun x21 =>
 dOpt (binV .shr x21 (.i .u64 45)) fun x22 =>
 dOpt (binV .xor x17 x22) fun x23 =>
 dOpt (binV .and x23 (.i .i64 255)) fun x24 =>
 dOpt (nilcV x0) fun x26 =>
 dOpt (fieldA 1 x26) fun x27 =>
 dOpt (nilcV x0) fun x30 =>
 dOpt (fieldA 0 x30) fun x31 =>
 dOpt (loadV 1 false x27 H) fun x28 =>
 dOpt (loadV 1 false x31 H) fun x32 =>
 dOpt (lenV false x32) fun x33 =>
 dOpt (binV .lss x28 x33) fun x34 =>
 dIf x34 (fun k1 =>
 dOpt (nilcV x0) fun x37 =>
 dOpt (fieldA 0 x37) fun x38 =>
 dOpt (nilcV x0) fun x41 =>
 dOpt (fieldA 1 x41) fun x42 =>
 dOpt (loadV 1 false x38 H) fun x39 =>
 dOpt (loadV 1 false x42 H) fun x43 =>
 dOpt (indexA 1 x39 x43) fun x44 =>
 dOpt (loadV 1 false x44 H) fun x45 =>
 dOpt (cvtV .i64 x45) fun x46 =>
 dOpt (binV .add x24 x46) fun x47 =>
 dOpt (binV .and x47 (.i .i64 255)) fun x48 =>
 dOpt (nilcV x0) fun x51 =>
 dOpt (fieldA 1 x51) fun x52 =>
 dOpt (loadV 1 false x52 H) fun x53 =>
 dOpt (binV .add x53 (.i .i64 1)) fun x54 =>
 dOpt (nilcV x0) fun x55 =>
 dOpt (fieldA 1 x55) fun x56 =>
 dOptH (storeV 1 x56 x54 H) fun H =>
 k1 [x48] H) (fun k1 =>
 k1 [x24] H) fun s H =>
 let x3 := s.headD .un
 K x3 H

theorem spec_l1Byte_eq (C : Call1) (n : Nat) (x0 : V) (H : Heap) (K : V → Heap → Prop) : bodyO C n (Fs 58) [x0] H K = spec_l1Byte C n x0 H K := by kernel_rfl
theorem c_spec_l1Byte (k : Nat) (x0 : V) (H : Heap) (K : V → Heap → Prop) : CC (k + 1) 58 [x0] H K = spec_l1Byte (CC k) k x0 H K := (CC_heap rfl _ _ _).trans (spec_l1Byte_eq _ _ _ _ _)

def spec_PackNum_l0 (C : Call1) (n : Nat) (k3 : List V → Heap → Prop) (s : List V) (H : Heap) (k4 : List V → Heap → Prop) : Prop :=
 let x3 := s.headD .un
 let x4_1 := s.tail.headD .un
 dOpt (binV .gtr x4_1 (.i .i64 127)) fun x18 =>
 dIf x18 (fun k5 =>
 k5 [] H) (fun k5 =>
 k3 [x3, x4_1] H) fun s H =>
 dBlk (fun k6 =>
 dOpt (binV .rem x4_1 (.i .i64 128)) fun x21 =>
 dOpt (binV .add x21 (.i .i64 128)) fun x22 =>
 dOpt (cvtV .u8 x22) fun x23 =>
 dOpt (litV 1 [.i .u8 0] 1 [(0, x23)]) fun x24 =>
 dOpt2 (appV 5 1 1 x3 x24 H) fun x25 H =>
 dOpt (binV .quo x4_1 (.i .i64 128)) fun x27 =>
 k6 [x25, x27] H) fun s H =>
 let x3_1 := s.headD .un
 let x4_2 := s.tail.headD .un
 k4 [x3_1, x4_2] H

def spec_PackNum (C : Call1) (n : Nat) (x0 : V) (H : Heap) (K : V → Heap → Prop) : Prop :=
 C 55 [x0, (.i .i64 (-4611686018427387904)), (.i .i64 4611686018427387903)] H fun x7 H =>
 dOpt (unV .not x7) fun x8 =>
 dIf x8 (fun k1 =>
 K .zs H) (fun k1 =>
 k1 [] H) fun s H =>
 dOpt (binV .mul (.i .i64 2) x0) fun x11 =>
 dOpt (binV .lss x0 (.i .i64 0)) fun x13 =>
 dIf x13 (fun k2 =>
 dOpt (binV .mul (.i .i64 (-2)) x0) fun x15 =>
 dOpt (binV .sub x15 (.i .i64 1)) fun x16 =>
 k2 [x16] H) (fun k2 =>
 k2 [x11] H) fun s H =>
 let x4 := s.headD .un
 dBlk (fun k3 =>
 dLoop n (spec_PackNum_l0 C n k3) [.zs, x4] H) fun s H =>
 let x3_2 := s.headD .un
 let x4_3 := s.tail.headD .un
 dOpt (cvtV .u8 x4_3) fun x30 =>
 dOpt (litV 1 [.i .u8 0] 1 [(0, x30)]) fun x31 =>
 dOpt2 (appV 5 1 1 x3_2 x31 H) fun x32 H =>
 K x32 H

theorem spec_PackNum_eq (C : Call1) (n : Nat) (x0 : V) (H : Heap) (K : V → Heap → Prop) : bodyO C n (Fs 13) [x0] H K = spec_PackNum C n x0 H K := by kernel_rfl
def g_spec_PackNum : SigD := { lend := true, args := [.at_], res := .li [.at_], own := true }
theorem c_spec_PackNum (k : Nat) {x0 x0s : V} (H : Heap) (K : V → Heap → Prop) (h : sealCs true true true H [.at_] [x0] = some [x0s]) : CC (k + 1) 13 [x0] H K = spec_PackNum (CC k) k x0s [] (backD g_spec_PackNum H K) := (CC_seal (sg := g_spec_PackNum) rfl h _).trans (spec_PackNum_eq _ _ _ _ _)

def spec_DrawUnpackNum (C : Call1) (n : Nat) (x0 : V) (H : Heap) (K : V → Heap → Prop) : Prop :=
 C 51 [x0] H fun x7 H =>
 C 57 [x7, (.i .i64 300)] H fun x9 H =>
 dOpt (binV .sub x9 (.i .i64 100)) fun x10 =>
 C 13 [x10] H fun x11 H =>
 C 54 [x7] H fun x13 H =>
 C 13 [x13] H fun x14 H =>
 dOpt2 (appV 5 1 1 x11 x14 H) fun x15 H =>
 C 52 [x7, (.i .i64 4)] H fun x17 H =>
 dIf x17 (fun k1 =>
 C 58 [x7] H fun x20 H =>
 dOpt (cvtV .u8 x20) fun x21 =>
 dOpt (litV 1 [.i .u8 0] 3 [(0, (.i .u8 128)), (1, (.i .u8 128)), (2, x21)]) fun x22 =>
 dOpt2 (appV 5 1 1 x15 x22 H) fun x23 H =>
 k1 [x23] H) (fun k1 =>
 k1 [x15] H) fun s H =>
 let x5 := s.headD .un
 C 52 [x7, (.i .i64 12)] H fun x25 H =>
 dIf x25 (fun k2 =>
 dOpt (litV 1 [.i .i64 0] 4 [(0, (.i .i64 127)), (1, (.i .i64 255)), (2, (.i .i64 0)), (3, (.i .i64 1))]) fun x27 =>
 C 53 [x7, x27] H fun x28 H =>
 dOpt (cvtV .u8 x28) fun x29 =>
 dOpt (litV 1 [.i .u8 0] 10 [(0, (.i .u8 255)), (1, (.i .u8 255)), (2, (.i .u8 255)), (3, (.i .u8 255)), (4, (.i .u8 255)), (5, (.i .u8 255)), (6, (.i .u8 255)), (7, (.i .u8 255)), (8, x29), (9, (.i .u8 1))]) fun x30 =>
 k2 [x30] H) (fun k2 =>
 k2 [x5] H) fun s H =>
 let x5_1 := s.headD .un
 dOpt (lenV false x5_1) fun x34 =>
 dOpt (binV .add x34 (.i .i64 1)) fun x35 =>
 C 57 [x7, x35] H fun x36 H =>
 C 57 [x7, (.i .i64 20)] H fun x38 H =>
 dOpt (binV .quo x38 (.i .i64 19)) fun x39 =>
 dOpt (binV .sub x36 x39) fun x40 =>
 K (.tup [x5_1, x40]) H

theorem spec_DrawUnpackNum_eq (C : Call1) (n : Nat) (x0 : V) (H : Heap) (K : V → Heap → Prop) : bodyO C n (Fs 15) [x0] H K = spec_DrawUnpackNum C n x0 H K := by kernel_rfl
def g_spec_DrawUnpackNum : SigD := { lend := true, args := [.li [.at_]], res := .tu [.li [.at_], .at_], own := false }
theorem c_spec_DrawUnpackNum (k : Nat) {x0 x0s : V} (H : Heap) (K : V → Heap → Prop) (h : sealCs true true true H [.li [.at_]] [x0] = some [x0s]) : CC (k + 1) 15 [x0] H K = spec_DrawUnpackNum (CC k) k x0s [] (backD g_spec_DrawUnpackNum H K) := (CC_seal (sg := g_spec_DrawUnpackNum) rfl h _).trans (spec_DrawUnpackNum_eq _ _ _ _ _)

def spec_l1New_l0 (C : Call1) (n : Nat) (x0 : V) (k1 : List V → Heap → Prop) (s : List V) (H : Heap) (k2 : List V → Heap → Prop) : Prop :=
 let x3 := s.headD .un
 let x4 := s.tail.headD .un
 dOpt (lenV false x0) fun x10 =>
 dOpt (binV .lss x4 x10) fun x11 =>
 dGrp x11 true (fun k3 =>
 dOpt (binV .lss x4 (.i .i64 4000)) fun x14 =>
 k3 [x4, x14] H) (fun k3 => k3 [.un, .un] H) fun s H =>
 let x14_1 := s.tail.headD .un
 dOpt (pickV x11 x14_1 (.b false)) fun x15 =>
 dIf x15 (fun k4 =>
 k4 [] H) (fun k4 =>
 k1 [x3] H) fun s H =>
 dBlk (fun k5 =>
 dOpt (binV .mul x3 (.i .i64 131)) fun x19 =>
 dOpt (indexA 1 x0 x4) fun x22 =>
 dOpt (loadV 1 false x22 H) fun x23 =>
 dOpt (cvtV .i64 x23) fun x24 =>
 dOpt (binV .add x19 x24) fun x25 =>
 dOpt (binV .add x25 (.i .i64 7)) fun x26 =>
 dOpt (binV .and x26 (.i .i64 1073741823)) fun x27 =>
 k5 [x27] H) fun s H =>
 let x3_1 := s.headD .un
 dOpt (binV .add x4 (.i .i64 1)) fun x17 =>
 k2 [x3_1, x17] H

def spec_l1New (C : Call1) (n : Nat) (x0 : V) (H : Heap) (K : V → Heap → Prop) : Prop :=
 dOpt (lenV false x0) fun x6 =>
 dOpt (binV .add (.i .i64 17111) x6) fun x7 =>
 dBlk (fun k1 =>
 dLoop n (spec_l1New_l0 C n x0 k1) [x7, (.i .i64 0)] H) fun s H =>
 let x3_2 := s.headD .un
 dOpt (dBuild [.ns, .i .i64 0, .i .i64 0] [(0, 1, x0), (2, 1, x3_2)]) fun x30 =>
 dOpt2 (boxV 152 x30 H) fun x31 H =>
 K x31 H

theorem spec_l1New_eq (C : Call1) (n : Nat) (x0 : V) (H : Heap) (K : V → Heap → Prop) : bodyO C n (Fs 51) [x0] H K = spec_l1New C n x0 H K := by kernel_rfl
theorem c_spec_l1New (k : Nat) (x0 : V) (H : Heap) (K : V → Heap → Prop) : CC (k + 1) 51 [x0] H K = spec_l1New (CC k) k x0 H K := (CC_heap rfl _ _ _).trans (spec_l1New_eq _ _ _ _ _)

def spec_l1Below (C : Call1) (n : Nat) (x0 x1 : V) (H : Heap) (K : V → Heap → Prop) : Prop :=
 dOpt (binV .leq x1 (.i .i64 0)) fun x10 =>
 dIf x10 (fun k1 =>
 K (.i .i64 0) H) (fun k1 =>
 k1 [] H) fun s H =>
 dOpt (binV .leq x1 (.i .i64 256)) fun x12 =>
 dIf x12 (fun k2 =>
 C 58 [x0] H fun x14 H =>
 dOpt (binV .rem x14 x1) fun x16 =>
 K x16 H) (fun k2 =>
 k2 [] H) fun s H =>
 C 58 [x0] H fun x18 H =>
 C 58 [x0] H fun x20 H =>
 C 58 [x0] H fun x22 H =>
 C 58 [x0] H fun x24 H =>
 dOpt (binV .mul x18 (.i .i64 16777216)) fun x26 =>
 dOpt (binV .mul x20 (.i .i64 65536)) fun x28 =>
 dOpt (binV .add x26 x28) fun x29 =>
 dOpt (binV .mul x22 (.i .i64 256)) fun x31 =>
 dOpt (binV .add x29 x31) fun x32 =>
 dOpt (binV .add x32 x24) fun x34 =>
 dOpt (binV .rem x34 x1) fun x36 =>
 K x36 H

theorem spec_l1Below_eq (C : Call1) (n : Nat) (x0 x1 : V) (H : Heap) (K : V → Heap → Prop) : bodyO C n (Fs 57) [x0, x1] H K = spec_l1Below C n x0 x1 H K := by kernel_rfl
theorem c_spec_l1Below (k : Nat) (x0 x1 : V) (H : Heap) (K : V → Heap → Prop) : CC (k + 1) 57 [x0, x1] H K = spec_l1Below (CC k) k x0 x1 H K := (CC_heap rfl _ _ _).trans (spec_l1Below_eq _ _ _ _ _ _)

def spec_DrawPackNum (C : Call1) (n : Nat) (x0 : V) (H : Heap) (K : V → Heap → Prop) : Prop :=
 C 51 [x0] H fun x5 H =>
 C 52 [x5, (.i .i64 4)] H fun x7 H =>
 dIf x7 (fun k1 =>
 dOpt (litV 1 [.i .i64 0] 8 [(0, (.i .i64 4611686018427387903)), (1, (.i .i64 4611686018427387904)), (2, (.i .i64 (-4611686018427387904))), (3, (.i .i64 (-4611686018427387905))), (4, (.i .i64 63)), (5, (.i .i64 64)), (6, (.i .i64 (-64))), (7, (.i .i64 (-65)))]) fun x9 =>
 C 53 [x5, x9] H fun x10 H =>
 K x10 H) (fun k1 =>
 k1 [] H) fun s H =>
 C 54 [x5] H fun x12 H =>
 K x12 H

theorem spec_DrawPackNum_eq (C : Call1) (n : Nat) (x0 : V) (H : Heap) (K : V → Heap → Prop) : bodyO C n (Fs 11) [x0] H K = spec_DrawPackNum C n x0 H K := by kernel_rfl
def g_spec_DrawPackNum : SigD := { lend := true, args := [.li [.at_]], res := .at_, own := false }
theorem c_spec_DrawPackNum (k : Nat) {x0 x0s : V} (H : Heap) (K : V → Heap → Prop) (h : sealCs true true true H [.li [.at_]] [x0] = some [x0s]) : CC (k + 1) 11 [x0] H K = spec_DrawPackNum (CC k) k x0s [] (backD g_spec_DrawPackNum H K) := (CC_seal (sg := g_spec_DrawPackNum) rfl h _).trans (spec_DrawPackNum_eq _ _ _ _ _)

def spec_l1DrawNum (C : Call1) (n : Nat) (x0 : V) (H : Heap) (K : V → Heap → Prop) : Prop :=
 C 52 [x0, (.i .i64 8)] H fun x4 H =>
 dIf x4 (fun k1 =>
 dOpt (litV 1 [.i .i64 0] 7 [(0, (.i .i64 9223372036854775807)), (1, (.i .i64 (-9223372036854775808))), (2, (.i .i64 4294967296)), (3, (.i .i64 (-1))), (4, (.i .i64 63)), (5, (.i .i64 64)), (6, (.i .i64 1000000007))]) fun x6 =>
 C 53 [x0, x6] H fun x7 H =>
 K x7 H) (fun k1 =>
 k1 [] H) fun s H =>
 C 57 [x0, (.i .i64 20)] H fun x9 H =>
 dOpt (binV .sub x9 (.i .i64 6)) fun x10 =>
 K x10 H

theorem spec_l1DrawNum_eq (C : Call1) (n : Nat) (x0 : V) (H : Heap) (K : V → Heap → Prop) : bodyO C n (Fs 54) [x0] H K = spec_l1DrawNum C n x0 H K := by kernel_rfl
theorem c_spec_l1DrawNum (k : Nat) (x0 : V) (H : Heap) (K : V → Heap → Prop) : CC (k + 1) 54 [x0] H K = spec_l1DrawNum (CC k) k x0 H K := (CC_heap rfl _ _ _).trans (spec_l1DrawNum_eq _ _ _ _ _)

def spec_l1In (C : Call1) (n : Nat) (x0 x1 x2 : V) (H : Heap) (K : V → Heap → Prop) : Prop :=
 dOpt (binV .geq x0 x1) fun x9 =>
 dGrp x9 true (fun k1 =>
 dOpt (binV .leq x0 x2) fun x13 =>
 k1 [x0, x2, x13] H) (fun k1 => k1 [.un, .un, .un] H) fun s H =>
 let x13_1 := s.tail.tail.headD .un
 dOpt (pickV x9 x13_1 (.b false)) fun x14 =>
 K x14 H

theorem spec_l1In_eq (C : Call1) (n : Nat) (x0 x1 x2 : V) (H : Heap) (K : V → Heap → Prop) : bodyO C n (Fs 55) [x0, x1, x2] H K = spec_l1In C n x0 x1 x2 H K := by kernel_rfl
def g_spec_l1In : SigD := { lend := true, args := [.at_, .at_, .at_], res := .at_, own := false }
theorem c_spec_l1In (k : Nat) {x0 x1 x2 x0s x1s x2s : V} (H : Heap) (K : V → Heap → Prop) (h : sealCs true true true H [.at_, .at_, .at_] [x0, x1, x2] = some [x0s, x1s, x2s]) : CC (k + 1) 55 [x0, x1, x2] H K = spec_l1In (CC k) k x0s x1s x2s [] (backD g_spec_l1In H K) := (CC_seal (sg := g_spec_l1In) rfl h _).trans (spec_l1In_eq _ _ _ _ _ _ _)

def impl_in (C : Call1) (n : Nat) (x0 x1 x2 : V) (H : Heap) (K : V → Heap → Prop) : Prop :=
 dOpt (binV .geq x0 x1) fun x9 =>
 dGrp x9 true (fun k1 =>
 dOpt (binV .leq x0 x2) fun x13 =>
 k1 [x0, x2, x13] H) (fun k1 => k1 [.un, .un, .un] H) fun s H =>
 let x13_1 := s.tail.tail.headD .un
 dOpt (pickV x9 x13_1 (.b false)) fun x14 =>
 K x14 H

theorem impl_in_eq (C : Call1) (n : Nat) (x0 x1 x2 : V) (H : Heap) (K : V → Heap → Prop) : bodyO C n (Fs 56) [x0, x1, x2] H K = impl_in C n x0 x1 x2 H K := by kernel_rfl
def g_impl_in : SigD := { lend := true, args := [.at_, .at_, .at_], res := .at_, own := false }
theorem c_impl_in (k : Nat) {x0 x1 x2 x0s x1s x2s : V} (H : Heap) (K : V → Heap → Prop) (h : sealCs true true true H [.at_, .at_, .at_] [x0, x1, x2] = some [x0s, x1s, x2s]) : CC (k + 1) 56 [x0, x1, x2] H K = impl_in (CC k) k x0s x1s x2s [] (backD g_impl_in H K) := (CC_seal (sg := g_impl_in) rfl h _).trans (impl_in_eq _ _ _ _ _ _ _)

def spec_l1PickInt (C : Call1) (n : Nat) (x0 x1 : V) (H : Heap) (K : V → Heap → Prop) : Prop :=
 dOpt (lenV false x1) fun x8 =>
 C 57 [x0, x8] H fun x9 H =>
 dOpt (indexA 1 x1 x9) fun x10 =>
 dOpt (loadV 1 false x10 H) fun x11 =>
 K x11 H

theorem spec_l1PickInt_eq (C : Call1) (n : Nat) (x0 x1 : V) (H : Heap) (K : V → Heap → Prop) : bodyO C n (Fs 53) [x0, x1] H K = spec_l1PickInt C n x0 x1 H K := by kernel_rfl
theorem c_spec_l1PickInt (k : Nat) (x0 x1 : V) (H : Heap) (K : V → Heap → Prop) : CC (k + 1) 53 [x0, x1] H K = spec_l1PickInt (CC k) k x0 x1 H K := (CC_heap rfl _ _ _).trans (spec_l1PickInt_eq _ _ _ _ _ _)

def laws_big (C : Call1) (n : Nat) (x0 : V) (H : Heap) (K : V → Heap → Prop) : Prop :=
 dOpt (lenV false x0) fun x4 =>
 dOpt (binV .gtr x4 (.i .i64 1048576)) fun x5 =>
 K x5 H

theorem laws_big_eq (C : Call1) (n : Nat) (x0 : V) (H : Heap) (K : V → Heap → Prop) : bodyO C n (Fs 10) [x0] H K = laws_big C n x0 H K := by kernel_rfl
def g_laws_big : SigD := { lend := true, args := [.li [.at_]], res := .at_, own := false }
theorem c_laws_big (k : Nat) {x0 x0s : V} (H : Heap) (K : V → Heap → Prop) (h : sealCs true true true H [.li [.at_]] [x0] = some [x0s]) : CC (k + 1) 10 [x0] H K = laws_big (CC k) k x0s [] (backD g_laws_big H K) := (CC_seal (sg := g_laws_big) rfl h _).trans (laws_big_eq _ _ _ _ _)

def spec_l1Once (C : Call1) (n : Nat) (x0 x1 : V) (H : Heap) (K : V → Heap → Prop) : Prop :=
 C 57 [x0, x1] H fun x7 H =>
 dOpt (binV .eql x7 (.i .i64 0)) fun x8 =>
 K x8 H

theorem spec_l1Once_eq (C : Call1) (n : Nat) (x0 x1 : V) (H : Heap) (K : V → Heap → Prop) : bodyO C n (Fs 52) [x0, x1] H K = spec_l1Once C n x0 x1 H K := by kernel_rfl
theorem c_spec_l1Once (k : Nat) (x0 x1 : V) (H : Heap) (K : V → Heap → Prop) : CC (k + 1) 52 [x0, x1] H K = spec_l1Once (CC k) k x0 x1 H K := (CC_heap rfl _ _ _).trans (spec_l1Once_eq _ _ _ _ _ _)

end Go.Am.Try
