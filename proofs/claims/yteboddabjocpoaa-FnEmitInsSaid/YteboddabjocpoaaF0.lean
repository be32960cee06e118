/- A part of the proof. -/
import Derived.Test.YteboddabjocpoaaTab
set_option linter.all false
namespace Go.Am.Try
open Go Go.Am
set_option maxRecDepth 100000
def laws_FnNumBytes (C : Call1) (n : Nat) (x0 : V) (H : Heap) (K : V → Heap → Prop) : Prop :=
 C 10 [x0] H fun x17 H =>
 dIf x17 (fun k1 =>
 K (.b true) H) (fun k1 =>
 k1 [] H) fun s H =>
 C 11 [x0] H fun x19 H =>
 C 12 [x19] H fun x21 H =>
 dBlk (fun k2 =>
 dOpt (b2sV x21 H) fun x23 =>
 C 13 [x19] H fun x25 H =>
 dChk (b2sV x21 H) x23 (
 dOpt (b2sV x25 H) fun x26 =>
 dOpt (binV .neq x23 x26) fun x27 =>
 k2 [x27] H)) fun s H =>
 let x27_1 := s.headD .un
 dIf x27_1 (fun k3 =>
 K (.b false) H) (fun k3 =>
 k3 [] H) fun s H =>
 C 14 [x21, (.i .i64 0)] H fun x30 H =>
 dOpt (extV x30 0) fun x31 =>
 dOpt (extV x30 1) fun x32 =>
 dOpt (extV x30 2) fun x33 =>
 dOpt (lenV false x21) fun x36 =>
 dOpt (binV .gtr x36 (.i .i64 0)) fun x37 =>
 dOpt (binBV .neq x33 x37) fun x38 =>
 dGrp x38 false (fun k4 =>
 k4 [x33, x33] H) (fun k4 => k4 [.un, .un] H) fun s H =>
 let x41 := s.tail.headD .un
 dGrp x41 true (fun k5 =>
 dOpt (binV .neq x31 x19) fun x44 =>
 k5 [x31, x19, x44, x44] H) (fun k5 => k5 [.un, .un, .un, .un] H) fun s H =>
 let x45 := s.tail.tail.tail.headD .un
 dGrp x45 false (fun k6 =>
 dOpt (lenV false x21) fun x48 =>
 dOpt (binV .neq x32 x48) fun x49 =>
 k6 [x32, x21, x48, x49] H) (fun k6 => k6 [.un, .un, .un, .un] H) fun s H =>
 let x49_1 := s.tail.tail.tail.headD .un
 dGrp x41 true (fun k7 =>
 dOpt (pickV x45 (.b true) x49_1) fun x50 =>
 k7 [x50] H) (fun k7 => k7 [.un] H) fun s H =>
 let x50_1 := s.headD .un
 dGrp x38 false (fun k8 =>
 dOpt (pickV x41 x50_1 (.b false)) fun x51 =>
 k8 [x51] H) (fun k8 => k8 [.un] H) fun s H =>
 let x51_1 := s.headD .un
 dOpt (pickV x38 (.b true) x51_1) fun x52 =>
 dIf x52 (fun k9 =>
 K (.b false) H) (fun k9 =>
 k9 [] H) fun s H =>
 C 15 [x0] H fun x55 H =>
 dOpt (extV x55 0) fun x56 =>
 dOpt (extV x55 1) fun x57 =>
 C 14 [x56, x57] H fun x61 H =>
 dOpt (extV x61 0) fun x62 =>
 dOpt (extV x61 1) fun x63 =>
 dOpt (extV x61 2) fun x64 =>
 C 16 [x56, x57] H fun x68 H =>
 dOpt (extV x68 0) fun x69 =>
 dOpt (extV x68 1) fun x70 =>
 dOpt (extV x68 2) fun x71 =>
 dOpt (binBV .neq x64 x71) fun x74 =>
 dGrp x74 false (fun k10 =>
 dOpt (binV .neq x63 x70) fun x78 =>
 k10 [x63, x70, x78] H) (fun k10 => k10 [.un, .un, .un] H) fun s H =>
 let x78_1 := s.tail.tail.headD .un
 dOpt (pickV x74 (.b true) x78_1) fun x79 =>
 dIf x79 (fun k11 =>
 K (.b false) H) (fun k11 =>
 k11 [] H) fun s H =>
 dBlk (fun k12 =>
 dOpt (unV .not x64) fun x81 =>
 dGrp x81 true (fun k13 =>
 k13 [x62] H) (fun k13 => k13 [.un] H) fun s H =>
 let x83 := s.headD .un
 dGrp x81 true (fun k14 =>
 dOpt (binV .eql x83 (.i .i64 0)) fun x84 =>
 k14 [x84] H) (fun k14 => k14 [.un] H) fun s H =>
 let x84_1 := s.headD .un
 dOpt (pickV x81 x84_1 (.b false)) fun x85 =>
 dGrp x85 true (fun k15 =>
 k15 [x63] H) (fun k15 => k15 [.un] H) fun s H =>
 let x87 := s.headD .un
 dGrp x85 true (fun k16 =>
 dOpt (binV .eql x87 (.i .i64 0)) fun x88 =>
 k16 [x88] H) (fun k16 => k16 [.un] H) fun s H =>
 let x88_1 := s.headD .un
 dOpt (pickV x85 x88_1 (.b false)) fun x89 =>
 dGrp x89 false (fun k17 =>
 k17 [x64] H) (fun k17 => k17 [.un] H) fun s H =>
 let x91 := s.headD .un
 dGrp x89 false (fun k18 =>
 k18 [x91] H) (fun k18 => k18 [.un] H) fun s H =>
 let x92 := s.headD .un
 dGrp x92 true (fun k19 =>
 k19 [x63] H) (fun k19 => k19 [.un] H) fun s H =>
 let x93 := s.headD .un
 dGrp x92 true (fun k20 =>
 k20 [x57] H) (fun k20 => k20 [.un] H) fun s H =>
 let x94 := s.headD .un
 dGrp x92 true (fun k21 =>
 dOpt (binV .gtr x93 x94) fun x95 =>
 k21 [x95] H) (fun k21 => k21 [.un] H) fun s H =>
 let x95_1 := s.headD .un
 dGrp x89 false (fun k22 =>
 dOpt (pickV x92 x95_1 (.b false)) fun x96 =>
 k22 [x96] H) (fun k22 => k22 [.un] H) fun s H =>
 let x96_1 := s.headD .un
 dGrp x89 false (fun k23 =>
 k23 [x96_1] H) (fun k23 => k23 [.un] H) fun s H =>
 let x97 := s.headD .un
 dGrp x97 true (fun k24 =>
 k24 [x62] H) (fun k24 => k24 [.un] H) fun s H =>
 let x98 := s.headD .un
 dGrp x97 true (fun k25 =>
 k25 [x56] H) (fun k25 => k25 [.un] H) fun s H =>
 let x101 := s.headD .un
 dGrp x97 true (fun k26 =>
 k26 [x57] H) (fun k26 => k26 [.un] H) fun s H =>
 let x102 := s.headD .un
 dGrp x97 true (fun k27 =>
 k27 [x63] H) (fun k27 => k27 [.un] H) fun s H =>
 let x103 := s.headD .un
 dGrp x97 true (fun k28 =>
 dOpt (cutLV 1 x101 (some x102) (some x103) none) fun x104 =>
 k28 [x104] H) (fun k28 => k28 [.un] H) fun s H =>
 let x104_1 := s.headD .un
 dGrp x97 true (fun k29 =>
 dOpt (b2sV x104_1 H) fun x105 =>
 k29 [x105] H) (fun k29 => k29 [.un] H) fun s H =>
 let x105_1 := s.headD .un
 dGrp x97 true (fun k30 =>
 C 12 [x98] H fun x99 H =>
 k30 [x99] H) (fun k30 => k30 [.un] H) fun s H =>
 let x99_1 := s.headD .un
 dChkG x97 true (b2sV x104_1 H) x105_1 (
 dGrp x97 true (fun k31 =>
 dOpt (b2sV x99_1 H) fun x100 =>
 k31 [x100] H) (fun k31 => k31 [.un] H) fun s H =>
 let x100_1 := s.headD .un
 dGrp x97 true (fun k32 =>
 dOpt (binV .eql x100_1 x105_1) fun x106 =>
 k32 [x106] H) (fun k32 => k32 [.un] H) fun s H =>
 let x106_1 := s.headD .un
 dGrp x89 false (fun k33 =>
 dOpt (pickV x97 x106_1 (.b false)) fun x107 =>
 k33 [x107] H) (fun k33 => k33 [.un] H) fun s H =>
 let x107_1 := s.headD .un
 dOpt (pickV x89 (.b true) x107_1) fun x108 =>
 k12 [x108] H)) fun s H =>
 let x2 := s.headD .un
 K x2 H

theorem laws_FnNumBytes_eq (C : Call1) (n : Nat) (x0 : V) (H : Heap) (K : V → Heap → Prop) : bodyO C n (Fs 3) [x0] H K = laws_FnNumBytes C n x0 H K := by kernel_rfl
theorem c_laws_FnNumBytes (k : Nat) (x0 : V) (H : Heap) (K : V → Heap → Prop) : CC (k + 1) 3 [x0] H K = laws_FnNumBytes (CC k) k x0 H K := (CC_heap rfl _ _ _).trans (laws_FnNumBytes_eq _ _ _ _ _)

def impl_homed (C : Call1) (n : Nat) (x0 : V) (H : Heap) (K : V → Heap → Prop) : Prop :=
 dOpt2 (boxV 31 x0 H) fun x1 H =>
 dOpt (fieldA 0 x1) fun x6 =>
 dOpt (loadV 1 false x6 H) fun x7 =>
 C 103 [x7] H fun x8 H =>
 dOpt (extV x8 0) fun x9 =>
 dOpt (extV x8 1) fun x10 =>
 dGrp x10 true (fun k1 =>
 dOpt (fieldA 0 x1) fun x13 =>
 dOpt (loadV 1 false x13 H) fun x14 =>
 C 62 [x14, (.i .u8 68)] H fun x15 H =>
 dOpt (unV .not x15) fun x16 =>
 k1 [x13, x14, x15, x16, x16] H) (fun k1 => k1 [.un, .un, .un, .un, .un] H) fun s H =>
 let x17 := s.tail.tail.tail.tail.headD .un
 dGrp x17 false (fun k2 =>
 dOpt (fieldA 1 x1) fun x18 =>
 dOpt (loadV 1 false x18 H) fun x19 =>
 C 104 [x19] H fun x20 H =>
 k2 [x18, x19, x20] H) (fun k2 => k2 [.un, .un, .un] H) fun s H =>
 let x20_1 := s.tail.tail.headD .un
 dGrp x10 true (fun k3 =>
 dOpt (pickV x17 (.b true) x20_1) fun x21 =>
 k3 [x21] H) (fun k3 => k3 [.un] H) fun s H =>
 let x21_1 := s.headD .un
 dOpt (pickV x10 x21_1 (.b false)) fun x22 =>
 dGrp x22 true (fun k4 =>
 dOpt (fieldA 0 x1) fun x24 =>
 dOpt (loadV 1 false x24 H) fun x25 =>
 C 62 [x25, (.i .u8 65)] H fun x26 H =>
 dOpt (unV .not x26) fun x27 =>
 k4 [x24, x25, x26, x27, x27] H) (fun k4 => k4 [.un, .un, .un, .un, .un] H) fun s H =>
 let x28 := s.tail.tail.tail.tail.headD .un
 dGrp x28 false (fun k5 =>
 dOpt (fieldA 2 x1) fun x29 =>
 dOpt (loadV 1 false x29 H) fun x30 =>
 C 104 [x30] H fun x31 H =>
 k5 [x29, x30, x31] H) (fun k5 => k5 [.un, .un, .un] H) fun s H =>
 let x31_1 := s.tail.tail.headD .un
 dGrp x22 true (fun k6 =>
 dOpt (pickV x28 (.b true) x31_1) fun x32 =>
 k6 [x32] H) (fun k6 => k6 [.un] H) fun s H =>
 let x32_1 := s.headD .un
 dOpt (pickV x22 x32_1 (.b false)) fun x33 =>
 dGrp x33 true (fun k7 =>
 dOpt (fieldA 0 x1) fun x35 =>
 dOpt (loadV 1 false x35 H) fun x36 =>
 C 62 [x36, (.i .u8 66)] H fun x37 H =>
 dOpt (unV .not x37) fun x38 =>
 k7 [x35, x36, x37, x38, x38] H) (fun k7 => k7 [.un, .un, .un, .un, .un] H) fun s H =>
 let x39 := s.tail.tail.tail.tail.headD .un
 dGrp x39 false (fun k8 =>
 dOpt (fieldA 3 x1) fun x40 =>
 dOpt (loadV 1 false x40 H) fun x41 =>
 C 104 [x41] H fun x42 H =>
 k8 [x40, x41, x42] H) (fun k8 => k8 [.un, .un, .un] H) fun s H =>
 let x42_1 := s.tail.tail.headD .un
 dGrp x33 true (fun k9 =>
 dOpt (pickV x39 (.b true) x42_1) fun x43 =>
 k9 [x43] H) (fun k9 => k9 [.un] H) fun s H =>
 let x43_1 := s.headD .un
 dOpt (pickV x33 x43_1 (.b false)) fun x44 =>
 K x44 H

theorem impl_homed_eq (C : Call1) (n : Nat) (x0 : V) (H : Heap) (K : V → Heap → Prop) : bodyO C n (Fs 60) [x0] H K = impl_homed C n x0 H K := by kernel_rfl
def g_impl_homed : SigD := { lend := true, args := [.ag [.at_, .at_, .at_, .at_, .at_]], res := .at_, own := false }
theorem c_impl_homed (k : Nat) {x0 x0s : V} (H : Heap) (K : V → Heap → Prop) (h : sealCs true true true H [.ag [.at_, .at_, .at_, .at_, .at_]] [x0] = some [x0s]) : CC (k + 1) 60 [x0] H K = impl_homed (CC k) k x0s [] (backD g_impl_homed H K) := (CC_seal (sg := g_impl_homed) rfl h _).trans (impl_homed_eq _ _ _ _ _)

def impl_PackNum_l0 (C : Call1) (n : Nat) (k5 : List V → Heap → Prop) (s : List V) (H : Heap) (k6 : List V → Heap → Prop) : Prop :=
 let x3_2 := s.headD .un
 let x4 := s.tail.headD .un
 dOpt (binV .gtr x3_2 (.i .u64 127)) fun x24 =>
 dIf x24 (fun k7 =>
 k7 [] H) (fun k7 =>
 k5 [x3_2, x4] H) fun s H =>
 dBlk (fun k8 =>
 dOpt (binV .and x3_2 (.i .u64 127)) fun x27 =>
 dOpt (binV .or x27 (.i .u64 128)) fun x28 =>
 dOpt (cvtV .u8 x28) fun x29 =>
 dOpt (litV 1 [.i .u8 0] 1 [(0, x29)]) fun x30 =>
 dOpt2 (appV 5 1 1 x4 x30 H) fun x31 H =>
 dOpt (binV .shr x3_2 (.i .u64 7)) fun x33 =>
 k8 [x33, x31] H) fun s H =>
 let x3_3 := s.headD .un
 let x4_1 := s.tail.headD .un
 k6 [x3_3, x4_1] H

def impl_PackNum (C : Call1) (n : Nat) (x0 : V) (H : Heap) (K : V → Heap → Prop) : Prop :=
 dOpt (binV .geq x0 (.i .i64 4611686018427387904)) fun x6 =>
 dGrp x6 false (fun k1 =>
 dOpt (binV .lss x0 (.i .i64 (-4611686018427387904))) fun x9 =>
 k1 [x0, x9] H) (fun k1 => k1 [.un, .un] H) fun s H =>
 let x9_1 := s.tail.headD .un
 dOpt (pickV x6 (.b true) x9_1) fun x10 =>
 dIf x10 (fun k2 =>
 K .ns H) (fun k2 =>
 k2 [] H) fun s H =>
 dOpt (binV .mul (.i .i64 2) x0) fun x12 =>
 dOpt (cvtV .u64 x12) fun x13 =>
 dOpt (binV .lss x0 (.i .i64 0)) fun x15 =>
 dIf x15 (fun k3 =>
 dOpt (binV .mul (.i .i64 (-2)) x0) fun x17 =>
 dOpt (binV .sub x17 (.i .i64 1)) fun x18 =>
 dOpt (cvtV .u64 x18) fun x19 =>
 dOpt (binV .eql x0 (.i .i64 (-4611686018427387904))) fun x21 =>
 dIf x21 (fun k4 =>
 k4 [(.i .u64 9223372036854775807)] H) (fun k4 =>
 k4 [x19] H) fun s H =>
 let x3 := s.headD .un
 k3 [x3] H) (fun k3 =>
 k3 [x13] H) fun s H =>
 let x3_1 := s.headD .un
 dBlk (fun k5 =>
 dLoop n (impl_PackNum_l0 C n k5) [x3_1, .zs] H) fun s H =>
 let x3_4 := s.headD .un
 let x4_2 := s.tail.headD .un
 dOpt (cvtV .u8 x3_4) fun x36 =>
 dOpt (litV 1 [.i .u8 0] 1 [(0, x36)]) fun x37 =>
 dOpt2 (appV 5 1 1 x4_2 x37 H) fun x38 H =>
 K x38 H

theorem impl_PackNum_eq (C : Call1) (n : Nat) (x0 : V) (H : Heap) (K : V → Heap → Prop) : bodyO C n (Fs 12) [x0] H K = impl_PackNum C n x0 H K := by kernel_rfl
def g_impl_PackNum : SigD := { lend := true, args := [.at_], res := .li [.at_], own := true }
theorem c_impl_PackNum (k : Nat) {x0 x0s : V} (H : Heap) (K : V → Heap → Prop) (h : sealCs true true true H [.at_] [x0] = some [x0s]) : CC (k + 1) 12 [x0] H K = impl_PackNum (CC k) k x0s [] (backD g_impl_PackNum H K) := (CC_seal (sg := g_impl_PackNum) rfl h _).trans (impl_PackNum_eq _ _ _ _ _)

def spec_InsUses (C : Call1) (n : Nat) (x0 : V) (H : Heap) (K : V → Heap → Prop) : Prop :=
 dOpt2 (boxV 31 x0 H) fun x1 H =>
 dBlk (fun k1 =>
 dOpt (fieldA 0 x1) fun x4 =>
 dOpt (loadV 1 false x4 H) fun x5 =>
 C 71 [x5] H fun x6 H =>
 dGrp x6 false (fun k2 =>
 dOpt (fieldA 0 x1) fun x8 =>
 dOpt (loadV 1 false x8 H) fun x9 =>
 dOpt (binV .eql x9 (.i .i64 22)) fun x10 =>
 k2 [x8, x9, x10] H) (fun k2 => k2 [.un, .un, .un] H) fun s H =>
 let x10_1 := s.tail.tail.headD .un
 dOpt (pickV x6 (.b true) x10_1) fun x11 =>
 dIf x11 (fun k3 =>
 dOpt (fieldA 2 x1) fun x12 =>
 dOpt (loadV 1 false x12 H) fun x13 =>
 dOpt (fieldA 3 x1) fun x14 =>
 dOpt (loadV 1 false x14 H) fun x15 =>
 dOpt (litV 1 [.i .i64 0] 2 [(0, x13), (1, x15)]) fun x16 =>
 K x16 H) (fun k3 =>
 dOpt (fieldA 0 x1) fun x18 =>
 dOpt (loadV 1 false x18 H) fun x19 =>
 dOpt (binV .eql x19 (.i .i64 21)) fun x20 =>
 dGrp x20 false (fun k4 =>
 dOpt (fieldA 0 x1) fun x22 =>
 dOpt (loadV 1 false x22 H) fun x23 =>
 dOpt (binV .eql x23 (.i .i64 23)) fun x24 =>
 k4 [x22, x23, x24] H) (fun k4 => k4 [.un, .un, .un] H) fun s H =>
 let x24_1 := s.tail.tail.headD .un
 dOpt (pickV x20 (.b true) x24_1) fun x25 =>
 dGrp x25 false (fun k5 =>
 dOpt (fieldA 0 x1) fun x27 =>
 dOpt (loadV 1 false x27 H) fun x28 =>
 dOpt (binV .eql x28 (.i .i64 25)) fun x29 =>
 k5 [x27, x28, x29] H) (fun k5 => k5 [.un, .un, .un] H) fun s H =>
 let x29_1 := s.tail.tail.headD .un
 dOpt (pickV x25 (.b true) x29_1) fun x30 =>
 dIf x30 (fun k6 =>
 dOpt (fieldA 2 x1) fun x31 =>
 dOpt (loadV 1 false x31 H) fun x32 =>
 dOpt (litV 1 [.i .i64 0] 1 [(0, x32)]) fun x33 =>
 K x33 H) (fun k6 =>
 k6 [] H) fun s H =>
 k3 [] H) fun s H =>
 k1 [] H) fun s H =>
 K .zs H

theorem spec_InsUses_eq (C : Call1) (n : Nat) (x0 : V) (H : Heap) (K : V → Heap → Prop) : bodyO C n (Fs 65) [x0] H K = spec_InsUses C n x0 H K := by kernel_rfl
def g_spec_InsUses : SigD := { lend := true, args := [.ag [.at_, .at_, .at_, .at_, .at_]], res := .li [.at_], own := false }
theorem c_spec_InsUses (k : Nat) {x0 x0s : V} (H : Heap) (K : V → Heap → Prop) (h : sealCs true true true H [.ag [.at_, .at_, .at_, .at_, .at_]] [x0] = some [x0s]) : CC (k + 1) 65 [x0] H K = spec_InsUses (CC k) k x0s [] (backD g_spec_InsUses H K) := (CC_seal (sg := g_spec_InsUses) rfl h _).trans (spec_InsUses_eq _ _ _ _ _)

def laws_sameSteps_l0 (C : Call1) (n : Nat) (x0 x1 : V) (k2 : List V → Heap → Prop) (K : V → Heap → Prop) (s : List V) (H : Heap) (k3 : List V → Heap → Prop) : Prop :=
 let x5 := s.headD .un
 dOpt (lenV false x0) fun x13 =>
 dOpt (binV .lss x5 x13) fun x14 =>
 dIf x14 (fun k4 =>
 k4 [] H) (fun k4 =>
 k2 [] H) fun s H =>
 dBlk (fun k5 =>
 dOpt (indexA 5 x0 x5) fun x19 =>
 dOpt (indexA 5 x1 x5) fun x23 =>
 dOpt (loadV 5 true x19 H) fun x20 =>
 dOpt (loadV 5 true x23 H) fun x24 =>
 dOpt (binAV .neq 5 x20 x24) fun x25 =>
 dIf x25 (fun k6 =>
 K (.b false) H) (fun k6 =>
 k6 [] H) fun s H =>
 k5 [] H) fun s H =>
 dOpt (binV .add x5 (.i .i64 1)) fun x16 =>
 k3 [x16] H

def laws_sameSteps (C : Call1) (n : Nat) (x0 x1 : V) (H : Heap) (K : V → Heap → Prop) : Prop :=
 dOpt (lenV false x0) fun x7 =>
 dOpt (lenV false x1) fun x9 =>
 dOpt (binV .neq x7 x9) fun x10 =>
 dIf x10 (fun k1 =>
 K (.b false) H) (fun k1 =>
 k1 [] H) fun s H =>
 dBlk (fun k2 =>
 dLoop n (laws_sameSteps_l0 C n x0 x1 k2 K) [(.i .i64 0)] H) fun s H =>
 K (.b true) H

theorem laws_sameSteps_eq (C : Call1) (n : Nat) (x0 x1 : V) (H : Heap) (K : V → Heap → Prop) : bodyO C n (Fs 19) [x0, x1] H K = laws_sameSteps C n x0 x1 H K := by kernel_rfl
def g_laws_sameSteps : SigD := { lend := true, args := [.li [.at_, .at_, .at_, .at_, .at_], .li [.at_, .at_, .at_, .at_, .at_]], res := .at_, own := false }
theorem c_laws_sameSteps (k : Nat) {x0 x1 x0s x1s : V} (H : Heap) (K : V → Heap → Prop) (h : sealCs true true true H [.li [.at_, .at_, .at_, .at_, .at_], .li [.at_, .at_, .at_, .at_, .at_]] [x0, x1] = some [x0s, x1s]) : CC (k + 1) 19 [x0, x1] H K = laws_sameSteps (CC k) k x0s x1s [] (backD g_laws_sameSteps H K) := (CC_seal (sg := g_laws_sameSteps) rfl h _).trans (laws_sameSteps_eq _ _ _ _ _ _)

def spec_l2DrawIns (C : Call1) (n : Nat) (x0 : V) (H : Heap) (K : V → Heap → Prop) : Prop :=
 dOpt2 (allocV 31 [.i .i64 0, .i .i64 0, .i .i64 0, .i .i64 0, .i .i64 0] H) fun x2 H =>
 dOpt (litV 1 [.i .i64 0] 12 [(0, (.i .i64 0)), (1, (.i .i64 1)), (2, (.i .i64 5)), (3, (.i .i64 10)), (4, (.i .i64 11)), (5, (.i .i64 20)), (6, (.i .i64 21)), (7, (.i .i64 22)), (8, (.i .i64 23)), (9, (.i .i64 24)), (10, (.i .i64 25)), (11, (.i .i64 26))]) fun x4 =>
 C 53 [x0, x4] H fun x5 H =>
 C 57 [x0, (.i .i64 9)] H fun x7 H =>
 C 57 [x0, (.i .i64 9)] H fun x9 H =>
 C 57 [x0, (.i .i64 9)] H fun x11 H =>
 C 57 [x0, (.i .i64 3)] H fun x13 H =>
 dOpt (dBuild [.i .i64 0, .i .i64 0, .i .i64 0, .i .i64 0, .i .i64 0] [(0, 1, x5), (1, 1, x7), (2, 1, x9), (3, 1, x11), (4, 1, x13)]) fun x14 =>
 dOptH (storeV 5 x2 x14 H) fun H =>
 dOpt (loadV 5 true x2 H) fun xr =>
 K xr H

theorem spec_l2DrawIns_eq (C : Call1) (n : Nat) (x0 : V) (H : Heap) (K : V → Heap → Prop) : bodyO C n (Fs 59) [x0] H K = spec_l2DrawIns C n x0 H K := by kernel_rfl
theorem c_spec_l2DrawIns (k : Nat) (x0 : V) (H : Heap) (K : V → Heap → Prop) : CC (k + 1) 59 [x0] H K = spec_l2DrawIns (CC k) k x0 H K := (CC_heap rfl _ _ _).trans (spec_l2DrawIns_eq _ _ _ _ _)

def spec_l1DrawNum (C : Call1) (n : Nat) (x0 : V) (H : Heap) (K : V → Heap → Prop) : Prop :=
 C 52 [x0, (.i .i64 8)] H fun x4 H =>
 dIf x4 (fun k1 =>
 dOpt (litV 1 [.i .i64 0] 7 [(0, (.i .i64 9223372036854775807)), (1, (.i .i64 (-9223372036854775808))), (2, (.i .i64 4294967296)), (3, (.i .i64 (-1))), (4, (.i .i64 63)), (5, (.i .i64 64)), (6, (.i .i64 1000000007))]) fun x6 =>
 C 53 [x0, x6] H fun x7 H =>
 K x7 H) (fun k1 =>
 k1 [] H) fun s H =>
 C 57 [x0, (.i .i64 20)] H fun x9 H =>
 dOpt (binV .sub x9 (.i .i64 6)) fun x10 =>
 K x10 H

theorem spec_l1DrawNum_eq (C : Call1) (n : Nat) (x0 : V) (H : Heap) (K : V → Heap → Prop) : bodyO C n (Fs 54) [x0] H K = spec_l1DrawNum C n x0 H K := by kernel_rfl
theorem c_spec_l1DrawNum (k : Nat) (x0 : V) (H : Heap) (K : V → Heap → Prop) : CC (k + 1) 54 [x0] H K = spec_l1DrawNum (CC k) k x0 H K := (CC_heap rfl _ _ _).trans (spec_l1DrawNum_eq _ _ _ _ _)

def impl_InsDef (C : Call1) (n : Nat) (x0 : V) (H : Heap) (K : V → Heap → Prop) : Prop :=
 dOpt2 (boxV 31 x0 H) fun x1 H =>
 dOpt (fieldA 0 x1) fun x3 =>
 dOpt (loadV 1 false x3 H) fun x4 =>
 C 62 [x4, (.i .u8 68)] H fun x5 H =>
 dIf x5 (fun k1 =>
 dOpt (fieldA 1 x1) fun x6 =>
 dOpt (loadV 1 false x6 H) fun x7 =>
 K x7 H) (fun k1 =>
 k1 [] H) fun s H =>
 K (.i .i64 (-1)) H

theorem impl_InsDef_eq (C : Call1) (n : Nat) (x0 : V) (H : Heap) (K : V → Heap → Prop) : bodyO C n (Fs 22) [x0] H K = impl_InsDef C n x0 H K := by kernel_rfl
def g_impl_InsDef : SigD := { lend := true, args := [.ag [.at_, .at_, .at_, .at_, .at_]], res := .at_, own := false }
theorem c_impl_InsDef (k : Nat) {x0 x0s : V} (H : Heap) (K : V → Heap → Prop) (h : sealCs true true true H [.ag [.at_, .at_, .at_, .at_, .at_]] [x0] = some [x0s]) : CC (k + 1) 22 [x0] H K = impl_InsDef (CC k) k x0s [] (backD g_impl_InsDef H K) := (CC_seal (sg := g_impl_InsDef) rfl h _).trans (impl_InsDef_eq _ _ _ _ _)

def spec_l1PickInt (C : Call1) (n : Nat) (x0 x1 : V) (H : Heap) (K : V → Heap → Prop) : Prop :=
 dOpt (lenV false x1) fun x8 =>
 C 57 [x0, x8] H fun x9 H =>
 dOpt (indexA 1 x1 x9) fun x10 =>
 dOpt (loadV 1 false x10 H) fun x11 =>
 K x11 H

theorem spec_l1PickInt_eq (C : Call1) (n : Nat) (x0 x1 : V) (H : Heap) (K : V → Heap → Prop) : bodyO C n (Fs 53) [x0, x1] H K = spec_l1PickInt C n x0 x1 H K := by kernel_rfl
theorem c_spec_l1PickInt (k : Nat) (x0 x1 : V) (H : Heap) (K : V → Heap → Prop) : CC (k + 1) 53 [x0, x1] H K = spec_l1PickInt (CC k) k x0 x1 H K := (CC_heap rfl _ _ _).trans (spec_l1PickInt_eq _ _ _ _ _ _)

def spec_l1Once (C : Call1) (n : Nat) (x0 x1 : V) (H : Heap) (K : V → Heap → Prop) : Prop :=
 C 57 [x0, x1] H fun x7 H =>
 dOpt (binV .eql x7 (.i .i64 0)) fun x8 =>
 K x8 H

theorem spec_l1Once_eq (C : Call1) (n : Nat) (x0 x1 : V) (H : Heap) (K : V → Heap → Prop) : bodyO C n (Fs 52) [x0, x1] H K = spec_l1Once C n x0 x1 H K := by kernel_rfl
theorem c_spec_l1Once (k : Nat) (x0 x1 : V) (H : Heap) (K : V → Heap → Prop) : CC (k + 1) 52 [x0, x1] H K = spec_l1Once (CC k) k x0 x1 H K := (CC_heap rfl _ _ _).trans (spec_l1Once_eq _ _ _ _ _ _)

end Go.Am.Try
