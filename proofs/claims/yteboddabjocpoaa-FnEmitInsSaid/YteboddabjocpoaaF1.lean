/- A part of the proof. -/
import Derived.Test.YteboddabjocpoaaTab
set_option linter.all false
namespace Go.Am.Try
open Go Go.Am
set_option maxRecDepth 100000
def spec_EmitIns_l0 (C : Call1) (n : Nat) (x13 : V) (k1 : List V → Heap → Prop) (K : V → Heap → Prop) (s : List V) (H : Heap) (k2 : List V → Heap → Prop) : Prop :=
 let x5 := s.headD .un
 dOpt (lenV false x13) fun x16 =>
 dOpt (binV .lss x5 x16) fun x17 =>
 dIf x17 (fun k3 =>
 k3 [] H) (fun k3 =>
 k1 [] H) fun s H =>
 dBlk (fun k4 =>
 dOpt (indexA 1 x13 x5) fun x22 =>
 dOpt (loadV 1 false x22 H) fun x23 =>
 C 66 [x23] H fun x24 H =>
 dOpt (unV .not x24) fun x25 =>
 dIf x25 (fun k5 =>
 K .zs H) (fun k5 =>
 k5 [] H) fun s H =>
 k4 [] H) fun s H =>
 dOpt (binV .add x5 (.i .i64 1)) fun x19 =>
 k2 [x19] H

def spec_EmitIns (C : Call1) (n : Nat) (x0 : V) (H : Heap) (K : V → Heap → Prop) : Prop :=
 dOpt2 (boxV 31 x0 H) fun x1 H =>
 dOpt (loadV 5 true x1 H) fun x12 =>
 C 65 [x12] H fun x13 H =>
 dBlk (fun k1 =>
 dLoop n (spec_EmitIns_l0 C n x13 k1 K) [(.i .i64 0)] H) fun s H =>
 dOpt (fieldA 0 x1) fun x27 =>
 dOpt (loadV 1 false x27 H) fun x28 =>
 C 67 [x28] H fun x29 H =>
 dGrp x29 true (fun k6 =>
 dOpt (fieldA 1 x1) fun x31 =>
 dOpt (loadV 1 false x31 H) fun x32 =>
 C 66 [x32] H fun x33 H =>
 dOpt (unV .not x33) fun x34 =>
 k6 [x31, x32, x33, x34] H) (fun k6 => k6 [.un, .un, .un, .un] H) fun s H =>
 let x34_1 := s.tail.tail.tail.headD .un
 dOpt (pickV x29 x34_1 (.b false)) fun x35 =>
 dIf x35 (fun k7 =>
 K .zs H) (fun k7 =>
 k7 [] H) fun s H =>
 dOpt (lenV false x13) fun x39 =>
 dOpt (binV .gtr x39 (.i .i64 0)) fun x40 =>
 dIf x40 (fun k8 =>
 dOpt (fieldA 2 x1) fun x42 =>
 dOpt (loadV 1 false x42 H) fun x43 =>
 C 68 [x43, (.i .i64 4)] H fun x44 H =>
 dOpt (extV x44 0) fun x45 =>
 dOpt (extV x44 1) fun x46 =>
 k8 [x45, x46] H) (fun k8 =>
 k8 [.zs, (.i .i64 0)] H) fun s H =>
 let x6 := s.headD .un
 let x7 := s.tail.headD .un
 dOpt (lenV false x13) fun x48 =>
 dOpt (binV .gtr x48 (.i .i64 1)) fun x49 =>
 dIf x49 (fun k9 =>
 dOpt (fieldA 3 x1) fun x51 =>
 dOpt (loadV 1 false x51 H) fun x52 =>
 C 68 [x52, (.i .i64 5)] H fun x53 H =>
 dOpt (extV x53 0) fun x54 =>
 dOpt (extV x53 1) fun x55 =>
 dOpt2 (appV 38 5 40 x6 x54 H) fun x58 H =>
 k9 [x58, x55] H) (fun k9 =>
 k9 [x6, (.i .i64 0)] H) fun s H =>
 let x6_1 := s.headD .un
 let x8 := s.tail.headD .un
 dOpt (fieldA 0 x1) fun x60 =>
 dOpt (loadV 1 false x60 H) fun x61 =>
 dBlk (fun k10 =>
 dOpt (binV .eql x61 (.i .i64 20)) fun x63 =>
 dIf x63 (fun k11 =>
 dOpt (fieldA 4 x1) fun x65 =>
 dOpt (loadV 1 false x65 H) fun x66 =>
 dOpt (dBuild [.i .i64 0, .i .i64 0, .i .i64 0, .i .i64 0, .i .i64 0] [(0, 1, (.i .i64 1)), (4, 1, x66)]) fun x67 =>
 dOpt (fieldA 1 x1) fun x68 =>
 dOpt (loadV 1 false x68 H) fun x69 =>
 C 69 [x6_1, x67, x69] H fun x70 H =>
 K x70 H) (fun k11 =>
 dOpt (binV .eql x61 (.i .i64 21)) fun x72 =>
 dIf x72 (fun k12 =>
 dOpt (dBuild [.i .i64 0, .i .i64 0, .i .i64 0, .i .i64 0, .i .i64 0] [(0, 1, (.i .i64 5)), (2, 1, x7)]) fun x75 =>
 dOpt (fieldA 1 x1) fun x76 =>
 dOpt (loadV 1 false x76 H) fun x77 =>
 C 69 [x6_1, x75, x77] H fun x78 H =>
 K x78 H) (fun k12 =>
 dOpt (binV .eql x61 (.i .i64 24)) fun x80 =>
 dIf x80 (fun k13 =>
 dOpt (dBuild [.i .i64 0, .i .i64 0, .i .i64 0, .i .i64 0, .i .i64 0] [(0, 1, (.i .i64 8))]) fun x82 =>
 dOpt (fieldA 1 x1) fun x83 =>
 dOpt (loadV 1 false x83 H) fun x84 =>
 C 69 [x6_1, x82, x84] H fun x85 H =>
 K x85 H) (fun k13 =>
 dOpt (binV .eql x61 (.i .i64 22)) fun x87 =>
 dIf x87 (fun k14 =>
 dOpt (dBuild [.i .i64 0, .i .i64 0, .i .i64 0, .i .i64 0, .i .i64 0] [(0, 1, (.i .i64 6)), (2, 1, x7), (3, 1, x8)]) fun x91 =>
 dOpt (litV 5 [.i .i64 0, .i .i64 0, .i .i64 0, .i .i64 0, .i .i64 0] 1 [(0, x91)]) fun x92 =>
 dOpt2 (appV 38 5 40 x6_1 x92 H) fun x93 H =>
 K x93 H) (fun k14 =>
 dOpt (binV .eql x61 (.i .i64 23)) fun x95 =>
 dIf x95 (fun k15 =>
 dOpt (dBuild [.i .i64 0, .i .i64 0, .i .i64 0, .i .i64 0, .i .i64 0] [(0, 1, (.i .i64 7)), (2, 1, x7)]) fun x98 =>
 dOpt (litV 5 [.i .i64 0, .i .i64 0, .i .i64 0, .i .i64 0, .i .i64 0] 1 [(0, x98)]) fun x99 =>
 dOpt2 (appV 38 5 40 x6_1 x99 H) fun x100 H =>
 K x100 H) (fun k15 =>
 dOpt (binV .eql x61 (.i .i64 25)) fun x102 =>
 dIf x102 (fun k16 =>
 dOpt (loadV 5 true x1 H) fun x103 =>
 C 70 [x103] H fun x104 H =>
 K x104 H) (fun k16 =>
 k16 [] H) fun s H =>
 k15 [] H) fun s H =>
 k14 [] H) fun s H =>
 k13 [] H) fun s H =>
 k12 [] H) fun s H =>
 k11 [] H) fun s H =>
 k10 [] H) fun s H =>
 dOpt (fieldA 0 x1) fun x105 =>
 dOpt (loadV 1 false x105 H) fun x106 =>
 C 71 [x106] H fun x107 H =>
 dIf x107 (fun k17 =>
 dOpt (fieldA 0 x1) fun x109 =>
 dOpt (loadV 1 false x109 H) fun x110 =>
 dOpt (binV .add (.i .i64 11) x110) fun x111 =>
 dOpt (dBuild [.i .i64 0, .i .i64 0, .i .i64 0, .i .i64 0, .i .i64 0] [(0, 1, x111), (2, 1, x7), (3, 1, x8)]) fun x114 =>
 dOpt (fieldA 1 x1) fun x115 =>
 dOpt (loadV 1 false x115 H) fun x116 =>
 C 69 [x6_1, x114, x116] H fun x117 H =>
 K x117 H) (fun k17 =>
 k17 [] H) fun s H =>
 K .zs H

theorem spec_EmitIns_eq (C : Call1) (n : Nat) (x0 : V) (H : Heap) (K : V → Heap → Prop) : bodyO C n (Fs 20) [x0] H K = spec_EmitIns C n x0 H K := by kernel_rfl
def g_spec_EmitIns : SigD := { lend := true, args := [.ag [.at_, .at_, .at_, .at_, .at_]], res := .li [.at_, .at_, .at_, .at_, .at_], own := false }
theorem c_spec_EmitIns (k : Nat) {x0 x0s : V} (H : Heap) (K : V → Heap → Prop) (h : sealCs true true true H [.ag [.at_, .at_, .at_, .at_, .at_]] [x0] = some [x0s]) : CC (k + 1) 20 [x0] H K = spec_EmitIns (CC k) k x0s [] (backD g_spec_EmitIns H K) := (CC_seal (sg := g_spec_EmitIns) rfl h _).trans (spec_EmitIns_eq _ _ _ _ _)

def impl_UnpackNum_l0 (C : Call1) (n : Nat) (x0 x1 : V) (k2 : List V → Heap → Prop) (K : V → Heap → Prop) (s : List V) (H : Heap) (k3 : List V → Heap → Prop) : Prop :=
 let x7 := s.headD .un
 let x8 := s.tail.headD .un
 dOpt (binV .lss x8 (.i .i64 9)) fun x16 =>
 dGrp x16 true (fun k4 =>
 dOpt (binV .add x1 x8) fun x20 =>
 dOpt (lenV false x0) fun x22 =>
 dOpt (binV .lss x20 x22) fun x23 =>
 k4 [x1, x8, x20, x0, x22, x23] H) (fun k4 => k4 [.un, .un, .un, .un, .un, .un] H) fun s H =>
 let x23_1 := s.tail.tail.tail.tail.tail.headD .un
 dOpt (pickV x16 x23_1 (.b false)) fun x24 =>
 dIf x24 (fun k5 =>
 k5 [] H) (fun k5 =>
 k2 [] H) fun s H =>
 dBlk (fun k6 =>
 dOpt (binV .add x1 x8) fun x30 =>
 dOpt (indexA 1 x0 x30) fun x31 =>
 dOpt (loadV 1 false x31 H) fun x32 =>
 dOpt (cvtV .i64 x32) fun x33 =>
 dOpt (binV .and x33 (.i .i64 127)) fun x36 =>
 dOpt (binV .mul (.i .i64 7) x8) fun x38 =>
 dOpt (binV .shl x36 x38) fun x39 =>
 dOpt (binV .or x7 x39) fun x40 =>
 dOpt (binV .gtr x33 (.i .i64 127)) fun x42 =>
 dIf x42 (fun k7 =>
 k6 [x40] H) (fun k7 =>
 k7 [] H) fun s H =>
 dOpt (binV .eql x33 (.i .i64 0)) fun x44 =>
 dGrp x44 true (fun k8 =>
 dOpt (binV .gtr x8 (.i .i64 0)) fun x47 =>
 k8 [x8, x47] H) (fun k8 => k8 [.un, .un] H) fun s H =>
 let x47_1 := s.tail.headD .un
 dOpt (pickV x44 x47_1 (.b false)) fun x48 =>
 dIf x48 (fun k9 =>
 K (.tup [(.i .i64 0), (.i .i64 0), (.b false)]) H) (fun k9 =>
 k9 [] H) fun s H =>
 dOpt (binV .rem x40 (.i .i64 2)) fun x50 =>
 dOpt (binV .eql x50 (.i .i64 1)) fun x51 =>
 dIf x51 (fun k10 =>
 dOpt (binV .quo x40 (.i .i64 2)) fun x53 =>
 dOpt (unV .neg x53) fun x54 =>
 dOpt (binV .sub x54 (.i .i64 1)) fun x55 =>
 dOpt (binV .add x1 x8) fun x58 =>
 dOpt (binV .add x58 (.i .i64 1)) fun x59 =>
 K (.tup [x55, x59, (.b true)]) H) (fun k10 =>
 k10 [] H) fun s H =>
 dOpt (binV .quo x40 (.i .i64 2)) fun x61 =>
 dOpt (binV .add x1 x8) fun x64 =>
 dOpt (binV .add x64 (.i .i64 1)) fun x65 =>
 K (.tup [x61, x65, (.b true)]) H) fun s H =>
 let x7_1 := s.headD .un
 dOpt (binV .add x8 (.i .i64 1)) fun x26 =>
 k3 [x7_1, x26] H

def impl_UnpackNum (C : Call1) (n : Nat) (x0 x1 : V) (H : Heap) (K : V → Heap → Prop) : Prop :=
 dOpt (lenV false x0) fun x12 =>
 C 56 [x1, (.i .i64 0), x12] H fun x13 H =>
 dOpt (unV .not x13) fun x14 =>
 dIf x14 (fun k1 =>
 K (.tup [(.i .i64 0), (.i .i64 0), (.b false)]) H) (fun k1 =>
 k1 [] H) fun s H =>
 dBlk (fun k2 =>
 dLoop n (impl_UnpackNum_l0 C n x0 x1 k2 K) [(.i .i64 0), (.i .i64 0)] H) fun s H =>
 K (.tup [(.i .i64 0), (.i .i64 0), (.b false)]) H

theorem impl_UnpackNum_eq (C : Call1) (n : Nat) (x0 x1 : V) (H : Heap) (K : V → Heap → Prop) : bodyO C n (Fs 14) [x0, x1] H K = impl_UnpackNum C n x0 x1 H K := by kernel_rfl
def g_impl_UnpackNum : SigD := { lend := true, args := [.li [.at_], .at_], res := .tu [.at_, .at_, .at_], own := false }
theorem c_impl_UnpackNum (k : Nat) {x0 x1 x0s x1s : V} (H : Heap) (K : V → Heap → Prop) (h : sealCs true true true H [.li [.at_], .at_] [x0, x1] = some [x0s, x1s]) : CC (k + 1) 14 [x0, x1] H K = impl_UnpackNum (CC k) k x0s x1s [] (backD g_impl_UnpackNum H K) := (CC_seal (sg := g_impl_UnpackNum) rfl h _).trans (impl_UnpackNum_eq _ _ _ _ _ _)

def spec_l15Copy (C : Call1) (n : Nat) (x0 : V) (H : Heap) (K : V → Heap → Prop) : Prop :=
 dOpt2 (boxV 31 x0 H) fun x1 H =>
 dBlk (fun k1 =>
 dOpt (fieldA 1 x1) fun x6 =>
 dOpt (loadV 1 false x6 H) fun x7 =>
 dOpt (binV .lss x7 (.i .i64 4)) fun x8 =>
 dGrp x8 true (fun k2 =>
 dOpt (fieldA 2 x1) fun x10 =>
 dOpt (loadV 1 false x10 H) fun x11 =>
 dOpt (binV .lss x11 (.i .i64 4)) fun x12 =>
 k2 [x10, x11, x12] H) (fun k2 => k2 [.un, .un, .un] H) fun s H =>
 let x12_1 := s.tail.tail.headD .un
 dOpt (pickV x8 x12_1 (.b false)) fun x13 =>
 dIf x13 (fun k3 =>
 dOpt (fieldA 1 x1) fun x14 =>
 dOpt (loadV 1 false x14 H) fun x15 =>
 dOpt (fieldA 2 x1) fun x16 =>
 dOpt (loadV 1 false x16 H) fun x17 =>
 dOpt (dBuild [.i .i64 0, .i .i64 0, .i .i64 0, .i .i64 0, .i .i64 0] [(0, 1, (.i .i64 2)), (1, 1, x15), (2, 1, x17)]) fun x18 =>
 dOpt2 (buildSliceV 38 5 [.i .i64 0, .i .i64 0, .i .i64 0, .i .i64 0, .i .i64 0] 1 [(0, x18)] H) fun x19 H =>
 K x19 H) (fun k3 =>
 dOpt (fieldA 1 x1) fun x21 =>
 dOpt (loadV 1 false x21 H) fun x22 =>
 dOpt (binV .lss x22 (.i .i64 4)) fun x23 =>
 dIf x23 (fun k4 =>
 dOpt (fieldA 1 x1) fun x24 =>
 dOpt (loadV 1 false x24 H) fun x25 =>
 dOpt (fieldA 2 x1) fun x26 =>
 dOpt (loadV 1 false x26 H) fun x27 =>
 dOpt (binV .sub x27 (.i .i64 4)) fun x28 =>
 dOpt (dBuild [.i .i64 0, .i .i64 0, .i .i64 0, .i .i64 0, .i .i64 0] [(0, 1, (.i .i64 3)), (1, 1, x25), (4, 1, x28)]) fun x29 =>
 dOpt2 (buildSliceV 38 5 [.i .i64 0, .i .i64 0, .i .i64 0, .i .i64 0, .i .i64 0] 1 [(0, x29)] H) fun x30 H =>
 K x30 H) (fun k4 =>
 k4 [] H) fun s H =>
 k3 [] H) fun s H =>
 k1 [] H) fun s H =>
 dOpt (fieldA 2 x1) fun x32 =>
 dOpt (loadV 1 false x32 H) fun x33 =>
 C 68 [x33, (.i .i64 4)] H fun x34 H =>
 dOpt (extV x34 0) fun x35 =>
 dOpt (extV x34 1) fun x36 =>
 dOpt (fieldA 1 x1) fun x39 =>
 dOpt (loadV 1 false x39 H) fun x40 =>
 dOpt (binV .sub x40 (.i .i64 4)) fun x41 =>
 dOpt (dBuild [.i .i64 0, .i .i64 0, .i .i64 0, .i .i64 0, .i .i64 0] [(0, 1, (.i .i64 4)), (2, 1, x36), (4, 1, x41)]) fun x42 =>
 dOpt2 (buildSliceV 38 5 [.i .i64 0, .i .i64 0, .i .i64 0, .i .i64 0, .i .i64 0] 1 [(0, x42)] H) fun x43 H =>
 dOpt2 (appV 38 5 40 x35 x43 H) fun x44 H =>
 K x44 H

theorem spec_l15Copy_eq (C : Call1) (n : Nat) (x0 : V) (H : Heap) (K : V → Heap → Prop) : bodyO C n (Fs 70) [x0] H K = spec_l15Copy C n x0 H K := by kernel_rfl
def g_spec_l15Copy : SigD := { lend := true, args := [.ag [.at_, .at_, .at_, .at_, .at_]], res := .li [.at_, .at_, .at_, .at_, .at_], own := false }
theorem c_spec_l15Copy (k : Nat) {x0 x0s : V} (H : Heap) (K : V → Heap → Prop) (h : sealCs true true true H [.ag [.at_, .at_, .at_, .at_, .at_]] [x0] = some [x0s]) : CC (k + 1) 70 [x0] H K = spec_l15Copy (CC k) k x0s [] (backD g_spec_l15Copy H K) := (CC_seal (sg := g_spec_l15Copy) rfl h _).trans (spec_l15Copy_eq _ _ _ _ _)

def spec_PackNum_l0 (C : Call1) (n : Nat) (k3 : List V → Heap → Prop) (s : List V) (H : Heap) (k4 : List V → Heap → Prop) : Prop :=
 let x3 := s.headD .un
 let x4_1 := s.tail.headD .un
 dOpt (binV .gtr x4_1 (.i .i64 127)) fun x18 =>
 dIf x18 (fun k5 =>
 k5 [] H) (fun k5 =>
 k3 [x3, x4_1] H) fun s H =>
 dBlk (fun k6 =>
 dOpt (binV .rem x4_1 (.i .i64 128)) fun x21 =>
 dOpt (binV .add x21 (.i .i64 128)) fun x22 =>
 dOpt (cvtV .u8 x22) fun x23 =>
 dOpt (litV 1 [.i .u8 0] 1 [(0, x23)]) fun x24 =>
 dOpt2 (appV 5 1 1 x3 x24 H) fun x25 H =>
 dOpt (binV .quo x4_1 (.i .i64 128)) fun x27 =>
 k6 [x25, x27] H) fun s H =>
 let x3_1 := s.headD .un
 let x4_2 := s.tail.headD .un
 k4 [x3_1, x4_2] H

def spec_PackNum (C : Call1) (n : Nat) (x0 : V) (H : Heap) (K : V → Heap → Prop) : Prop :=
 C 55 [x0, (.i .i64 (-4611686018427387904)), (.i .i64 4611686018427387903)] H fun x7 H =>
 dOpt (unV .not x7) fun x8 =>
 dIf x8 (fun k1 =>
 K .zs H) (fun k1 =>
 k1 [] H) fun s H =>
 dOpt (binV .mul (.i .i64 2) x0) fun x11 =>
 dOpt (binV .lss x0 (.i .i64 0)) fun x13 =>
 dIf x13 (fun k2 =>
 dOpt (binV .mul (.i .i64 (-2)) x0) fun x15 =>
 dOpt (binV .sub x15 (.i .i64 1)) fun x16 =>
 k2 [x16] H) (fun k2 =>
 k2 [x11] H) fun s H =>
 let x4 := s.headD .un
 dBlk (fun k3 =>
 dLoop n (spec_PackNum_l0 C n k3) [.zs, x4] H) fun s H =>
 let x3_2 := s.headD .un
 let x4_3 := s.tail.headD .un
 dOpt (cvtV .u8 x4_3) fun x30 =>
 dOpt (litV 1 [.i .u8 0] 1 [(0, x30)]) fun x31 =>
 dOpt2 (appV 5 1 1 x3_2 x31 H) fun x32 H =>
 K x32 H

theorem spec_PackNum_eq (C : Call1) (n : Nat) (x0 : V) (H : Heap) (K : V → Heap → Prop) : bodyO C n (Fs 13) [x0] H K = spec_PackNum C n x0 H K := by kernel_rfl
def g_spec_PackNum : SigD := { lend := true, args := [.at_], res := .li [.at_], own := true }
theorem c_spec_PackNum (k : Nat) {x0 x0s : V} (H : Heap) (K : V → Heap → Prop) (h : sealCs true true true H [.at_] [x0] = some [x0s]) : CC (k + 1) 13 [x0] H K = spec_PackNum (CC k) k x0s [] (backD g_spec_PackNum H K) := (CC_seal (sg := g_spec_PackNum) rfl h _).trans (spec_PackNum_eq _ _ _ _ _)

def spec_DrawEmitIns (C : Call1) (n : Nat) (x0 : V) (H : Heap) (K : V → Heap → Prop) : Prop :=
 dOpt2 (allocV 31 [.i .i64 0, .i .i64 0, .i .i64 0, .i .i64 0, .i .i64 0] H) fun x2 H =>
 C 51 [x0] H fun x6 H =>
 C 59 [x6] H fun x8 H =>
 dOpt2 (allocV 31 [.i .i64 0, .i .i64 0, .i .i64 0, .i .i64 0, .i .i64 0] H) fun x4 H =>
 dOptH (storeV 5 x4 x8 H) fun H =>
 C 52 [x6, (.i .i64 8)] H fun x10 H =>
 dIf x10 (fun k1 =>
 dOpt (litV 1 [.i .i64 0] 3 [(0, (.i .i64 (-1))), (1, (.i .i64 39)), (2, (.i .i64 40))]) fun x12 =>
 C 53 [x6, x12] H fun x13 H =>
 dOpt (fieldA 2 x4) fun x14 =>
 dOptH (storeV 1 x14 x13 H) fun H =>
 k1 [] H) (fun k1 =>
 k1 [] H) fun s H =>
 C 52 [x6, (.i .i64 12)] H fun x16 H =>
 dIf x16 (fun k2 =>
 dOpt (litV 1 [.i .i64 0] 3 [(0, (.i .i64 (-1))), (1, (.i .i64 39)), (2, (.i .i64 40))]) fun x18 =>
 C 53 [x6, x18] H fun x19 H =>
 dOpt (fieldA 1 x4) fun x20 =>
 dOptH (storeV 1 x20 x19 H) fun H =>
 k2 [] H) (fun k2 =>
 k2 [] H) fun s H =>
 dOpt (loadV 5 true x4 H) fun x21 =>
 dOptH (storeV 5 x2 x21 H) fun H =>
 dOpt (loadV 5 true x2 H) fun xr =>
 K xr H

theorem spec_DrawEmitIns_eq (C : Call1) (n : Nat) (x0 : V) (H : Heap) (K : V → Heap → Prop) : bodyO C n (Fs 17) [x0] H K = spec_DrawEmitIns C n x0 H K := by kernel_rfl
def g_spec_DrawEmitIns : SigD := { lend := true, args := [.li [.at_]], res := .ag [.at_, .at_, .at_, .at_, .at_], own := false }
theorem c_spec_DrawEmitIns (k : Nat) {x0 x0s : V} (H : Heap) (K : V → Heap → Prop) (h : sealCs true true true H [.li [.at_]] [x0] = some [x0s]) : CC (k + 1) 17 [x0] H K = spec_DrawEmitIns (CC k) k x0s [] (backD g_spec_DrawEmitIns H K) := (CC_seal (sg := g_spec_DrawEmitIns) rfl h _).trans (spec_DrawEmitIns_eq _ _ _ _ _)

def spec_l2Makes (C : Call1) (n : Nat) (x0 : V) (H : Heap) (K : V → Heap → Prop) : Prop :=
 C 71 [x0] H fun x4 H =>
 dGrp x4 false (fun k1 =>
 dOpt (binV .eql x0 (.i .i64 20)) fun x7 =>
 k1 [x0, x7] H) (fun k1 => k1 [.un, .un] H) fun s H =>
 let x7_1 := s.tail.headD .un
 dOpt (pickV x4 (.b true) x7_1) fun x8 =>
 dGrp x8 false (fun k2 =>
 dOpt (binV .eql x0 (.i .i64 21)) fun x11 =>
 k2 [x0, x11] H) (fun k2 => k2 [.un, .un] H) fun s H =>
 let x11_1 := s.tail.headD .un
 dOpt (pickV x8 (.b true) x11_1) fun x12 =>
 dGrp x12 false (fun k3 =>
 dOpt (binV .eql x0 (.i .i64 24)) fun x15 =>
 k3 [x0, x15] H) (fun k3 => k3 [.un, .un] H) fun s H =>
 let x15_1 := s.tail.headD .un
 dOpt (pickV x12 (.b true) x15_1) fun x16 =>
 dGrp x16 false (fun k4 =>
 dOpt (binV .eql x0 (.i .i64 25)) fun x19 =>
 k4 [x0, x19] H) (fun k4 => k4 [.un, .un] H) fun s H =>
 let x19_1 := s.tail.headD .un
 dOpt (pickV x16 (.b true) x19_1) fun x20 =>
 K x20 H

theorem spec_l2Makes_eq (C : Call1) (n : Nat) (x0 : V) (H : Heap) (K : V → Heap → Prop) : bodyO C n (Fs 67) [x0] H K = spec_l2Makes C n x0 H K := by kernel_rfl
def g_spec_l2Makes : SigD := { lend := true, args := [.at_], res := .at_, own := false }
theorem c_spec_l2Makes (k : Nat) {x0 x0s : V} (H : Heap) (K : V → Heap → Prop) (h : sealCs true true true H [.at_] [x0] = some [x0s]) : CC (k + 1) 67 [x0] H K = spec_l2Makes (CC k) k x0s [] (backD g_spec_l2Makes H K) := (CC_seal (sg := g_spec_l2Makes) rfl h _).trans (spec_l2Makes_eq _ _ _ _ _)

def spec_DrawPackNum (C : Call1) (n : Nat) (x0 : V) (H : Heap) (K : V → Heap → Prop) : Prop :=
 C 51 [x0] H fun x5 H =>
 C 52 [x5, (.i .i64 4)] H fun x7 H =>
 dIf x7 (fun k1 =>
 dOpt (litV 1 [.i .i64 0] 8 [(0, (.i .i64 4611686018427387903)), (1, (.i .i64 4611686018427387904)), (2, (.i .i64 (-4611686018427387904))), (3, (.i .i64 (-4611686018427387905))), (4, (.i .i64 63)), (5, (.i .i64 64)), (6, (.i .i64 (-64))), (7, (.i .i64 (-65)))]) fun x9 =>
 C 53 [x5, x9] H fun x10 H =>
 K x10 H) (fun k1 =>
 k1 [] H) fun s H =>
 C 54 [x5] H fun x12 H =>
 K x12 H

theorem spec_DrawPackNum_eq (C : Call1) (n : Nat) (x0 : V) (H : Heap) (K : V → Heap → Prop) : bodyO C n (Fs 11) [x0] H K = spec_DrawPackNum C n x0 H K := by kernel_rfl
def g_spec_DrawPackNum : SigD := { lend := true, args := [.li [.at_]], res := .at_, own := false }
theorem c_spec_DrawPackNum (k : Nat) {x0 x0s : V} (H : Heap) (K : V → Heap → Prop) (h : sealCs true true true H [.li [.at_]] [x0] = some [x0s]) : CC (k + 1) 11 [x0] H K = spec_DrawPackNum (CC k) k x0s [] (backD g_spec_DrawPackNum H K) := (CC_seal (sg := g_spec_DrawPackNum) rfl h _).trans (spec_DrawPackNum_eq _ _ _ _ _)

def impl_has (C : Call1) (n : Nat) (x0 x1 : V) (H : Heap) (K : V → Heap → Prop) : Prop :=
 C 103 [x0] H fun x9 H =>
 dOpt (extV x9 0) fun x10 =>
 dOpt (extV x9 1) fun x11 =>
 dGrp x11 true (fun k1 =>
 dOpt (s2bV x10) fun x15 =>
 C 74 [x15, x1] H fun x17 H =>
 k1 [x10, x15, x1, x17] H) (fun k1 => k1 [.un, .un, .un, .un] H) fun s H =>
 let x17_1 := s.tail.tail.tail.headD .un
 dOpt (pickV x11 x17_1 (.b false)) fun x18 =>
 K x18 H

theorem impl_has_eq (C : Call1) (n : Nat) (x0 x1 : V) (H : Heap) (K : V → Heap → Prop) : bodyO C n (Fs 62) [x0, x1] H K = impl_has C n x0 x1 H K := by kernel_rfl
def g_impl_has : SigD := { lend := true, args := [.at_, .at_], res := .at_, own := false }
theorem c_impl_has (k : Nat) {x0 x1 x0s x1s : V} (H : Heap) (K : V → Heap → Prop) (h : sealCs true true true H [.at_, .at_] [x0, x1] = some [x0s, x1s]) : CC (k + 1) 62 [x0, x1] H K = impl_has (CC k) k x0s x1s [] (backD g_impl_has H K) := (CC_seal (sg := g_impl_has) rfl h _).trans (impl_has_eq _ _ _ _ _ _)

def impl_stepPart (C : Call1) (n : Nat) (x0 x1 x2 : V) (H : Heap) (K : V → Heap → Prop) : Prop :=
 dIf x1 (fun k1 =>
 C 56 [x0, (.i .i64 0), x2] H fun x10 H =>
 K x10 H) (fun k1 =>
 k1 [] H) fun s H =>
 dOpt (binV .eql x0 (.i .i64 0)) fun x12 =>
 K x12 H

theorem impl_stepPart_eq (C : Call1) (n : Nat) (x0 x1 x2 : V) (H : Heap) (K : V → Heap → Prop) : bodyO C n (Fs 73) [x0, x1, x2] H K = impl_stepPart C n x0 x1 x2 H K := by kernel_rfl
def g_impl_stepPart : SigD := { lend := true, args := [.at_, .at_, .at_], res := .at_, own := false }
theorem c_impl_stepPart (k : Nat) {x0 x1 x2 x0s x1s x2s : V} (H : Heap) (K : V → Heap → Prop) (h : sealCs true true true H [.at_, .at_, .at_] [x0, x1, x2] = some [x0s, x1s, x2s]) : CC (k + 1) 73 [x0, x1, x2] H K = impl_stepPart (CC k) k x0s x1s x2s [] (backD g_impl_stepPart H K) := (CC_seal (sg := g_impl_stepPart) rfl h _).trans (impl_stepPart_eq _ _ _ _ _ _ _)

def spec_l15Home (C : Call1) (n : Nat) (x0 : V) (H : Heap) (K : V → Heap → Prop) : Prop :=
 C 55 [x0, (.i .i64 0), (.i .i64 39)] H fun x4 H =>
 K x4 H

theorem spec_l15Home_eq (C : Call1) (n : Nat) (x0 : V) (H : Heap) (K : V → Heap → Prop) : bodyO C n (Fs 66) [x0] H K = spec_l15Home C n x0 H K := by kernel_rfl
def g_spec_l15Home : SigD := { lend := true, args := [.at_], res := .at_, own := false }
theorem c_spec_l15Home (k : Nat) {x0 x0s : V} (H : Heap) (K : V → Heap → Prop) (h : sealCs true true true H [.at_] [x0] = some [x0s]) : CC (k + 1) 66 [x0] H K = spec_l15Home (CC k) k x0s [] (backD g_spec_l15Home H K) := (CC_seal (sg := g_spec_l15Home) rfl h _).trans (spec_l15Home_eq _ _ _ _ _)

def impl_WordOk (C : Call1) (n : Nat) (x0 : V) (H : Heap) (K : V → Heap → Prop) : Prop :=
 C 56 [x0, (.i .i64 1), (.i .i64 10)] H fun x4 H =>
 K x4 H

theorem impl_WordOk_eq (C : Call1) (n : Nat) (x0 : V) (H : Heap) (K : V → Heap → Prop) : bodyO C n (Fs 105) [x0] H K = impl_WordOk C n x0 H K := by kernel_rfl
def g_impl_WordOk : SigD := { lend := true, args := [.at_], res := .at_, own := false }
theorem c_impl_WordOk (k : Nat) {x0 x0s : V} (H : Heap) (K : V → Heap → Prop) (h : sealCs true true true H [.at_] [x0] = some [x0s]) : CC (k + 1) 105 [x0] H K = impl_WordOk (CC k) k x0s [] (backD g_impl_WordOk H K) := (CC_seal (sg := g_impl_WordOk) rfl h _).trans (impl_WordOk_eq _ _ _ _ _)

end Go.Am.Try
