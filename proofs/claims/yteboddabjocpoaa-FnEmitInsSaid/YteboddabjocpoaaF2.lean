/- A part of the proof. -/
import Derived.Test.YteboddabjocpoaaTab
set_option linter.all false
namespace Go.Am.Try
open Go Go.Am
set_option maxRecDepth 100000
def laws_FnEmitIns_l0 (C : Call1) (n : Nat) (x12 : V) (k4 : List V → Heap → Prop) (K : V → Heap → Prop) (s : List V) (H : Heap) (k5 : List V → Heap → Prop) : Prop :=
 let x5 := s.headD .un
 dOpt (lenV false x12) fun x25 =>
 dOpt (binV .lss x5 x25) fun x26 =>
 dIf x26 (fun k6 =>
 k6 [] H) (fun k6 =>
 k4 [] H) fun s H =>
 dBlk (fun k7 =>
 dOpt (indexA 5 x12 x5) fun x31 =>
 dOpt (loadV 5 true x31 H) fun x32 =>
 C 21 [x32, (.i .i64 900)] H fun x33 H =>
 dOpt (unV .not x33) fun x34 =>
 dIf x34 (fun k8 =>
 K (.b false) H) (fun k8 =>
 k8 [] H) fun s H =>
 k7 [] H) fun s H =>
 dOpt (binV .add x5 (.i .i64 1)) fun x28 =>
 k5 [x28] H

def laws_FnEmitIns (C : Call1) (n : Nat) (x0 : V) (H : Heap) (K : V → Heap → Prop) : Prop :=
 C 10 [x0] H fun x8 H =>
 dIf x8 (fun k1 =>
 K (.b true) H) (fun k1 =>
 k1 [] H) fun s H =>
 C 17 [x0] H fun x10 H =>
 dOpt2 (allocV 31 [.i .i64 0, .i .i64 0, .i .i64 0, .i .i64 0, .i .i64 0] H) fun x3 H =>
 dOptH (storeV 5 x3 x10 H) fun H =>
 dOpt (loadV 5 true x3 H) fun x11 =>
 C 18 [x11] H fun x12 H =>
 dOpt (loadV 5 true x3 H) fun x14 =>
 C 20 [x14] H fun x15 H =>
 C 19 [x12, x15] H fun x16 H =>
 dOpt (unV .not x16) fun x17 =>
 dGrp x17 false (fun k2 =>
 dOpt (lenV false x12) fun x20 =>
 dOpt (binV .gtr x20 (.i .i64 4)) fun x21 =>
 k2 [x12, x20, x21] H) (fun k2 => k2 [.un, .un, .un] H) fun s H =>
 let x21_1 := s.tail.tail.headD .un
 dOpt (pickV x17 (.b true) x21_1) fun x22 =>
 dIf x22 (fun k3 =>
 K (.b false) H) (fun k3 =>
 k3 [] H) fun s H =>
 dBlk (fun k4 =>
 dLoop n (laws_FnEmitIns_l0 C n x12 k4 K) [(.i .i64 0)] H) fun s H =>
 dOpt (lenV false x12) fun x36 =>
 dOpt (binV .eql x36 (.i .i64 0)) fun x37 =>
 dGrp x37 false (fun k9 =>
 dOpt (loadV 5 true x3 H) fun x39 =>
 C 22 [x39] H fun x40 H =>
 dOpt (binV .lss x40 (.i .i64 0)) fun x41 =>
 k9 [x39, x40, x41] H) (fun k9 => k9 [.un, .un, .un] H) fun s H =>
 let x41_1 := s.tail.tail.headD .un
 dOpt (pickV x37 (.b true) x41_1) fun x42 =>
 dIf x42 (fun k10 =>
 K (.b true) H) (fun k10 =>
 k10 [] H) fun s H =>
 dOpt (lenV false x12) fun x45 =>
 dOpt (binV .sub x45 (.i .i64 1)) fun x46 =>
 dOpt (indexA 5 x12 x46) fun x47 =>
 dOpt (loadV 5 true x47 H) fun x48 =>
 dOpt2 (allocV 38 [.i .i64 0, .i .i64 0, .i .i64 0, .i .i64 0, .i .i64 0] H) fun x6 H =>
 dOptH (storeV 5 x6 x48 H) fun H =>
 dOpt (fieldA 1 x3) fun x49 =>
 dOpt (loadV 1 false x49 H) fun x50 =>
 dOpt (binV .lss x50 (.i .i64 4)) fun x51 =>
 dIf x51 (fun k11 =>
 dOpt (fieldA 1 x6) fun x52 =>
 dOpt (loadV 1 false x52 H) fun x53 =>
 dOpt (fieldA 1 x3) fun x54 =>
 dOpt (loadV 1 false x54 H) fun x55 =>
 dOpt (binV .eql x53 x55) fun x56 =>
 dGrp x56 true (fun k12 =>
 dOpt (fieldA 0 x6) fun x58 =>
 dOpt (loadV 1 false x58 H) fun x59 =>
 dOpt (binV .neq x59 (.i .i64 4)) fun x60 =>
 k12 [x58, x59, x60] H) (fun k12 => k12 [.un, .un, .un] H) fun s H =>
 let x60_1 := s.tail.tail.headD .un
 dOpt (pickV x56 x60_1 (.b false)) fun x61 =>
 K x61 H) (fun k11 =>
 k11 [] H) fun s H =>
 dOpt (fieldA 0 x6) fun x62 =>
 dOpt (loadV 1 false x62 H) fun x63 =>
 dOpt (binV .eql x63 (.i .i64 4)) fun x64 =>
 dGrp x64 true (fun k13 =>
 dOpt (fieldA 4 x6) fun x66 =>
 dOpt (loadV 1 false x66 H) fun x67 =>
 dOpt (fieldA 1 x3) fun x68 =>
 dOpt (loadV 1 false x68 H) fun x69 =>
 dOpt (binV .sub x69 (.i .i64 4)) fun x70 =>
 dOpt (binV .eql x67 x70) fun x71 =>
 k13 [x66, x67, x68, x69, x70, x71] H) (fun k13 => k13 [.un, .un, .un, .un, .un, .un] H) fun s H =>
 let x71_1 := s.tail.tail.tail.tail.tail.headD .un
 dOpt (pickV x64 x71_1 (.b false)) fun x72 =>
 K x72 H

theorem laws_FnEmitIns_eq (C : Call1) (n : Nat) (x0 : V) (H : Heap) (K : V → Heap → Prop) : bodyO C n (Fs 4) [x0] H K = laws_FnEmitIns C n x0 H K := by kernel_rfl
theorem c_laws_FnEmitIns (k : Nat) (x0 : V) (H : Heap) (K : V → Heap → Prop) : CC (k + 1) 4 [x0] H K = laws_FnEmitIns (CC k) k x0 H K := (CC_heap rfl _ _ _).trans (laws_FnEmitIns_eq _ _ _ _ _)

def impl_EmitIns (C : Call1) (n : Nat) (x0 : V) (H : Heap) (K : V → Heap → Prop) : Prop :=
 dOpt2 (boxV 31 x0 H) fun x1 H =>
 dOpt (loadV 5 true x1 H) fun x11 =>
 C 60 [x11] H fun x12 H =>
 dOpt (unV .not x12) fun x13 =>
 dIf x13 (fun k1 =>
 K .ns H) (fun k1 =>
 k1 [] H) fun s H =>
 dOpt (fieldA 0 x1) fun x14 =>
 dOpt (loadV 1 false x14 H) fun x15 =>
 dOpt (binV .eql x15 (.i .i64 25)) fun x16 =>
 dIf x16 (fun k2 =>
 dOpt (loadV 5 true x1 H) fun x17 =>
 C 61 [x17] H fun x18 H =>
 K x18 H) (fun k2 =>
 k2 [] H) fun s H =>
 dOpt (fieldA 0 x1) fun x20 =>
 dOpt (loadV 1 false x20 H) fun x21 =>
 C 62 [x21, (.i .u8 65)] H fun x22 H =>
 dIf x22 (fun k3 =>
 dOpt (fieldA 2 x1) fun x24 =>
 dOpt (loadV 1 false x24 H) fun x25 =>
 C 63 [x25, (.i .i64 4)] H fun x26 H =>
 dOpt (extV x26 0) fun x27 =>
 dOpt (extV x26 1) fun x28 =>
 dOpt2 (appV 38 5 40 .zs x28 H) fun x32 H =>
 k3 [x32, x27] H) (fun k3 =>
 k3 [.zs, (.i .i64 0)] H) fun s H =>
 let x3 := s.headD .un
 let x4 := s.tail.headD .un
 dOpt (fieldA 0 x1) fun x33 =>
 dOpt (loadV 1 false x33 H) fun x34 =>
 C 62 [x34, (.i .u8 66)] H fun x35 H =>
 dIf x35 (fun k4 =>
 dOpt (fieldA 3 x1) fun x37 =>
 dOpt (loadV 1 false x37 H) fun x38 =>
 C 63 [x38, (.i .i64 5)] H fun x39 H =>
 dOpt (extV x39 0) fun x40 =>
 dOpt (extV x39 1) fun x41 =>
 dOpt2 (appV 38 5 40 x3 x41 H) fun x45 H =>
 k4 [x45, x40] H) (fun k4 =>
 k4 [x3, (.i .i64 0)] H) fun s H =>
 let x3_1 := s.headD .un
 let x5 := s.tail.headD .un
 dOpt (fieldA 0 x1) fun x46 =>
 dOpt (loadV 1 false x46 H) fun x47 =>
 C 62 [x47, (.i .u8 68)] H fun x48 H =>
 dIf x48 (fun k5 =>
 dOpt (fieldA 1 x1) fun x49 =>
 dOpt (loadV 1 false x49 H) fun x50 =>
 dOpt (fieldA 1 x1) fun x51 =>
 dOpt (loadV 1 false x51 H) fun x52 =>
 dOpt (binV .geq x52 (.i .i64 4)) fun x53 =>
 dIf x53 (fun k6 =>
 k6 [(.i .i64 6)] H) (fun k6 =>
 k6 [x50] H) fun s H =>
 let x6 := s.headD .un
 k5 [x6] H) (fun k5 =>
 k5 [(.i .i64 0)] H) fun s H =>
 let x6_1 := s.headD .un
 dOpt (loadV 5 true x1 H) fun x55 =>
 C 64 [x55, x6_1, x4, x5] H fun x59 H =>
 dOpt (litV 5 [.i .i64 0, .i .i64 0, .i .i64 0, .i .i64 0, .i .i64 0] 1 [(0, x59)]) fun x60 =>
 dOpt2 (appV 38 5 40 x3_1 x60 H) fun x61 H =>
 dOpt (binV .eql x6_1 (.i .i64 6)) fun x63 =>
 dIf x63 (fun k7 =>
 dOpt (fieldA 1 x1) fun x65 =>
 dOpt (loadV 1 false x65 H) fun x66 =>
 dOpt (binV .sub x66 (.i .i64 4)) fun x67 =>
 dOpt (dBuild [.i .i64 0, .i .i64 0, .i .i64 0, .i .i64 0, .i .i64 0] [(0, 1, (.i .i64 4)), (2, 1, (.i .i64 6)), (4, 1, x67)]) fun x68 =>
 dOpt (litV 5 [.i .i64 0, .i .i64 0, .i .i64 0, .i .i64 0, .i .i64 0] 1 [(0, x68)]) fun x69 =>
 dOpt2 (appV 38 5 40 x61 x69 H) fun x70 H =>
 k7 [x70] H) (fun k7 =>
 k7 [x61] H) fun s H =>
 let x3_2 := s.headD .un
 K x3_2 H

theorem impl_EmitIns_eq (C : Call1) (n : Nat) (x0 : V) (H : Heap) (K : V → Heap → Prop) : bodyO C n (Fs 18) [x0] H K = impl_EmitIns C n x0 H K := by kernel_rfl
def g_impl_EmitIns : SigD := { lend := true, args := [.ag [.at_, .at_, .at_, .at_, .at_]], res := .li [.at_, .at_, .at_, .at_, .at_], own := false }
theorem c_impl_EmitIns (k : Nat) {x0 x0s : V} (H : Heap) (K : V → Heap → Prop) (h : sealCs true true true H [.ag [.at_, .at_, .at_, .at_, .at_]] [x0] = some [x0s]) : CC (k + 1) 18 [x0] H K = impl_EmitIns (CC k) k x0s [] (backD g_impl_EmitIns H K) := (CC_seal (sg := g_impl_EmitIns) rfl h _).trans (impl_EmitIns_eq _ _ _ _ _)

def impl_stepOf (C : Call1) (n : Nat) (x0 x1 x2 x3 : V) (H : Heap) (K : V → Heap → Prop) : Prop :=
 dOpt2 (boxV 31 x0 H) fun x4 H =>
 dOpt2 (allocV 38 [.i .i64 0, .i .i64 0, .i .i64 0, .i .i64 0, .i .i64 0] H) fun x8 H =>
 dOpt (fieldA 0 x4) fun x9 =>
 dOpt (loadV 1 false x9 H) fun x10 =>
 dBlk (fun k1 =>
 dOpt (binV .eql x10 (.i .i64 20)) fun x12 =>
 dIf x12 (fun k2 =>
 dOpt (fieldA 4 x4) fun x14 =>
 dOpt (loadV 1 false x14 H) fun x15 =>
 dOpt (dBuild [.i .i64 0, .i .i64 0, .i .i64 0, .i .i64 0, .i .i64 0] [(0, 1, (.i .i64 1)), (1, 1, x1), (4, 1, x15)]) fun x16 =>
 dOptH (storeV 5 x8 x16 H) fun H =>
 dOpt (loadV 5 true x8 H) fun xr =>
 K xr H) (fun k2 =>
 dOpt (binV .eql x10 (.i .i64 21)) fun x18 =>
 dIf x18 (fun k3 =>
 dOpt (dBuild [.i .i64 0, .i .i64 0, .i .i64 0, .i .i64 0, .i .i64 0] [(0, 1, (.i .i64 5)), (1, 1, x1), (2, 1, x2)]) fun x21 =>
 dOptH (storeV 5 x8 x21 H) fun H =>
 dOpt (loadV 5 true x8 H) fun xr_1 =>
 K xr_1 H) (fun k3 =>
 dOpt (binV .eql x10 (.i .i64 22)) fun x23 =>
 dIf x23 (fun k4 =>
 dOpt (dBuild [.i .i64 0, .i .i64 0, .i .i64 0, .i .i64 0, .i .i64 0] [(0, 1, (.i .i64 6)), (2, 1, x2), (3, 1, x3)]) fun x26 =>
 dOptH (storeV 5 x8 x26 H) fun H =>
 dOpt (loadV 5 true x8 H) fun xr_2 =>
 K xr_2 H) (fun k4 =>
 dOpt (binV .eql x10 (.i .i64 23)) fun x28 =>
 dIf x28 (fun k5 =>
 dOpt (dBuild [.i .i64 0, .i .i64 0, .i .i64 0, .i .i64 0, .i .i64 0] [(0, 1, (.i .i64 7)), (2, 1, x2)]) fun x30 =>
 dOptH (storeV 5 x8 x30 H) fun H =>
 dOpt (loadV 5 true x8 H) fun xr_3 =>
 K xr_3 H) (fun k5 =>
 dOpt (binV .eql x10 (.i .i64 24)) fun x32 =>
 dIf x32 (fun k6 =>
 dOpt (dBuild [.i .i64 0, .i .i64 0, .i .i64 0, .i .i64 0, .i .i64 0] [(0, 1, (.i .i64 8)), (1, 1, x1)]) fun x34 =>
 dOptH (storeV 5 x8 x34 H) fun H =>
 dOpt (loadV 5 true x8 H) fun xr_4 =>
 K xr_4 H) (fun k6 =>
 k6 [] H) fun s H =>
 k5 [] H) fun s H =>
 k4 [] H) fun s H =>
 k3 [] H) fun s H =>
 k2 [] H) fun s H =>
 k1 [] H) fun s H =>
 dOpt (fieldA 0 x4) fun x35 =>
 dOpt (loadV 1 false x35 H) fun x36 =>
 dOpt (binV .add x36 (.i .i64 11)) fun x37 =>
 dOpt (dBuild [.i .i64 0, .i .i64 0, .i .i64 0, .i .i64 0, .i .i64 0] [(0, 1, x37), (1, 1, x1), (2, 1, x2), (3, 1, x3)]) fun x41 =>
 dOptH (storeV 5 x8 x41 H) fun H =>
 dOpt (loadV 5 true x8 H) fun xr_5 =>
 K xr_5 H

theorem impl_stepOf_eq (C : Call1) (n : Nat) (x0 x1 x2 x3 : V) (H : Heap) (K : V → Heap → Prop) : bodyO C n (Fs 64) [x0, x1, x2, x3] H K = impl_stepOf C n x0 x1 x2 x3 H K := by kernel_rfl
def g_impl_stepOf : SigD := { lend := true, args := [.ag [.at_, .at_, .at_, .at_, .at_], .at_, .at_, .at_], res := .ag [.at_, .at_, .at_, .at_, .at_], own := false }
theorem c_impl_stepOf (k : Nat) {x0 x1 x2 x3 x0s x1s x2s x3s : V} (H : Heap) (K : V → Heap → Prop) (h : sealCs true true true H [.ag [.at_, .at_, .at_, .at_, .at_], .at_, .at_, .at_] [x0, x1, x2, x3] = some [x0s, x1s, x2s, x3s]) : CC (k + 1) 64 [x0, x1, x2, x3] H K = impl_stepOf (CC k) k x0s x1s x2s x3s [] (backD g_impl_stepOf H K) := (CC_seal (sg := g_impl_stepOf) rfl h _).trans (impl_stepOf_eq _ _ _ _ _ _ _ _)

def impl_stepForm (C : Call1) (n : Nat) (x0 : V) (H : Heap) (K : V → Heap → Prop) : Prop :=
 dBlk (fun k1 =>
 dOpt (binV .eql x0 (.i .i64 1)) fun x6 =>
 dIf x6 (fun k2 =>
 K (.tup [(.s ⟨#[82, 78]⟩), (.b true)]) H) (fun k2 =>
 dOpt (binV .eql x0 (.i .i64 2)) fun x8 =>
 dIf x8 (fun k3 =>
 k3 [x8] H) (fun k3 =>
 dOpt (binV .eql x0 (.i .i64 5)) fun x9 =>
 k3 [x9] H) fun s H =>
 let x7 := s.headD .un
 dIf x7 (fun k4 =>
 K (.tup [(.s ⟨#[82, 65]⟩), (.b true)]) H) (fun k4 =>
 dOpt (binV .eql x0 (.i .i64 3)) fun x11 =>
 dIf x11 (fun k5 =>
 K (.tup [(.s ⟨#[82, 83]⟩), (.b true)]) H) (fun k5 =>
 dOpt (binV .eql x0 (.i .i64 4)) fun x13 =>
 dIf x13 (fun k6 =>
 K (.tup [(.s ⟨#[83, 65]⟩), (.b true)]) H) (fun k6 =>
 dOpt (binV .eql x0 (.i .i64 6)) fun x15 =>
 dIf x15 (fun k7 =>
 K (.tup [(.s ⟨#[65, 66]⟩), (.b true)]) H) (fun k7 =>
 dOpt (binV .eql x0 (.i .i64 7)) fun x17 =>
 dIf x17 (fun k8 =>
 k8 [x17] H) (fun k8 =>
 dOpt (binV .eql x0 (.i .i64 11)) fun x18 =>
 k8 [x18] H) fun s H =>
 let x16 := s.headD .un
 dIf x16 (fun k9 =>
 K (.tup [(.s ⟨#[65]⟩), (.b true)]) H) (fun k9 =>
 dOpt (binV .eql x0 (.i .i64 8)) fun x20 =>
 dIf x20 (fun k10 =>
 K (.tup [(.s ⟨#[82]⟩), (.b true)]) H) (fun k10 =>
 dOpt (binV .eql x0 (.i .i64 9)) fun x22 =>
 dIf x22 (fun k11 =>
 K (.tup [(.s ⟨#[84]⟩), (.b true)]) H) (fun k11 =>
 dOpt (binV .eql x0 (.i .i64 10)) fun x24 =>
 dIf x24 (fun k12 =>
 K (.tup [(.s ⟨#[65, 84]⟩), (.b true)]) H) (fun k12 =>
 k12 [] H) fun s H =>
 k11 [] H) fun s H =>
 k10 [] H) fun s H =>
 k9 [] H) fun s H =>
 k7 [] H) fun s H =>
 k6 [] H) fun s H =>
 k5 [] H) fun s H =>
 k4 [] H) fun s H =>
 k2 [] H) fun s H =>
 k1 [] H) fun s H =>
 dOpt (binV .sub x0 (.i .i64 11)) fun x26 =>
 C 105 [x26] H fun x27 H =>
 K (.tup [(.s ⟨#[82, 65, 66]⟩), x27]) H

theorem impl_stepForm_eq (C : Call1) (n : Nat) (x0 : V) (H : Heap) (K : V → Heap → Prop) : bodyO C n (Fs 72) [x0] H K = impl_stepForm C n x0 H K := by kernel_rfl
def g_impl_stepForm : SigD := { lend := true, args := [.at_], res := .tu [.at_, .at_], own := false }
theorem c_impl_stepForm (k : Nat) {x0 x0s : V} (H : Heap) (K : V → Heap → Prop) (h : sealCs true true true H [.at_] [x0] = some [x0s]) : CC (k + 1) 72 [x0] H K = impl_stepForm (CC k) k x0s [] (backD g_impl_stepForm H K) := (CC_seal (sg := g_impl_stepForm) rfl h _).trans (impl_stepForm_eq _ _ _ _ _)

def spec_l1New_l0 (C : Call1) (n : Nat) (x0 : V) (k1 : List V → Heap → Prop) (s : List V) (H : Heap) (k2 : List V → Heap → Prop) : Prop :=
 let x3 := s.headD .un
 let x4 := s.tail.headD .un
 dOpt (lenV false x0) fun x10 =>
 dOpt (binV .lss x4 x10) fun x11 =>
 dGrp x11 true (fun k3 =>
 dOpt (binV .lss x4 (.i .i64 4000)) fun x14 =>
 k3 [x4, x14] H) (fun k3 => k3 [.un, .un] H) fun s H =>
 let x14_1 := s.tail.headD .un
 dOpt (pickV x11 x14_1 (.b false)) fun x15 =>
 dIf x15 (fun k4 =>
 k4 [] H) (fun k4 =>
 k1 [x3] H) fun s H =>
 dBlk (fun k5 =>
 dOpt (binV .mul x3 (.i .i64 131)) fun x19 =>
 dOpt (indexA 1 x0 x4) fun x22 =>
 dOpt (loadV 1 false x22 H) fun x23 =>
 dOpt (cvtV .i64 x23) fun x24 =>
 dOpt (binV .add x19 x24) fun x25 =>
 dOpt (binV .add x25 (.i .i64 7)) fun x26 =>
 dOpt (binV .and x26 (.i .i64 1073741823)) fun x27 =>
 k5 [x27] H) fun s H =>
 let x3_1 := s.headD .un
 dOpt (binV .add x4 (.i .i64 1)) fun x17 =>
 k2 [x3_1, x17] H

def spec_l1New (C : Call1) (n : Nat) (x0 : V) (H : Heap) (K : V → Heap → Prop) : Prop :=
 dOpt (lenV false x0) fun x6 =>
 dOpt (binV .add (.i .i64 17111) x6) fun x7 =>
 dBlk (fun k1 =>
 dLoop n (spec_l1New_l0 C n x0 k1) [x7, (.i .i64 0)] H) fun s H =>
 let x3_2 := s.headD .un
 dOpt (dBuild [.ns, .i .i64 0, .i .i64 0] [(0, 1, x0), (2, 1, x3_2)]) fun x30 =>
 dOpt2 (boxV 152 x30 H) fun x31 H =>
 K x31 H

theorem spec_l1New_eq (C : Call1) (n : Nat) (x0 : V) (H : Heap) (K : V → Heap → Prop) : bodyO C n (Fs 51) [x0] H K = spec_l1New C n x0 H K := by kernel_rfl
theorem c_spec_l1New (k : Nat) (x0 : V) (H : Heap) (K : V → Heap → Prop) : CC (k + 1) 51 [x0] H K = spec_l1New (CC k) k x0 H K := (CC_heap rfl _ _ _).trans (spec_l1New_eq _ _ _ _ _)

def impl_formOf (C : Call1) (n : Nat) (x0 : V) (H : Heap) (K : V → Heap → Prop) : Prop :=
 dBlk (fun k1 =>
 dOpt (binV .eql x0 (.i .i64 20)) fun x6 =>
 dIf x6 (fun k2 =>
 K (.tup [(.s ⟨#[68, 78]⟩), (.b true)]) H) (fun k2 =>
 dOpt (binV .eql x0 (.i .i64 21)) fun x8 =>
 dIf x8 (fun k3 =>
 k3 [x8] H) (fun k3 =>
 dOpt (binV .eql x0 (.i .i64 25)) fun x9 =>
 k3 [x9] H) fun s H =>
 let x7 := s.headD .un
 dIf x7 (fun k4 =>
 K (.tup [(.s ⟨#[68, 65]⟩), (.b true)]) H) (fun k4 =>
 dOpt (binV .eql x0 (.i .i64 22)) fun x11 =>
 dIf x11 (fun k5 =>
 K (.tup [(.s ⟨#[65, 66]⟩), (.b true)]) H) (fun k5 =>
 dOpt (binV .eql x0 (.i .i64 23)) fun x13 =>
 dIf x13 (fun k6 =>
 K (.tup [(.s ⟨#[65]⟩), (.b true)]) H) (fun k6 =>
 dOpt (binV .eql x0 (.i .i64 24)) fun x15 =>
 dIf x15 (fun k7 =>
 K (.tup [(.s ⟨#[68]⟩), (.b true)]) H) (fun k7 =>
 k7 [] H) fun s H =>
 k6 [] H) fun s H =>
 k5 [] H) fun s H =>
 k4 [] H) fun s H =>
 k2 [] H) fun s H =>
 k1 [] H) fun s H =>
 C 105 [x0] H fun x17 H =>
 K (.tup [(.s ⟨#[68, 65, 66]⟩), x17]) H

theorem impl_formOf_eq (C : Call1) (n : Nat) (x0 : V) (H : Heap) (K : V → Heap → Prop) : bodyO C n (Fs 103) [x0] H K = impl_formOf C n x0 H K := by kernel_rfl
def g_impl_formOf : SigD := { lend := true, args := [.at_], res := .tu [.at_, .at_], own := false }
theorem c_impl_formOf (k : Nat) {x0 x0s : V} (H : Heap) (K : V → Heap → Prop) (h : sealCs true true true H [.at_] [x0] = some [x0s]) : CC (k + 1) 103 [x0] H K = impl_formOf (CC k) k x0s [] (backD g_impl_formOf H K) := (CC_seal (sg := g_impl_formOf) rfl h _).trans (impl_formOf_eq _ _ _ _ _)

def spec_l1Below (C : Call1) (n : Nat) (x0 x1 : V) (H : Heap) (K : V → Heap → Prop) : Prop :=
 dOpt (binV .leq x1 (.i .i64 0)) fun x10 =>
 dIf x10 (fun k1 =>
 K (.i .i64 0) H) (fun k1 =>
 k1 [] H) fun s H =>
 dOpt (binV .leq x1 (.i .i64 256)) fun x12 =>
 dIf x12 (fun k2 =>
 C 58 [x0] H fun x14 H =>
 dOpt (binV .rem x14 x1) fun x16 =>
 K x16 H) (fun k2 =>
 k2 [] H) fun s H =>
 C 58 [x0] H fun x18 H =>
 C 58 [x0] H fun x20 H =>
 C 58 [x0] H fun x22 H =>
 C 58 [x0] H fun x24 H =>
 dOpt (binV .mul x18 (.i .i64 16777216)) fun x26 =>
 dOpt (binV .mul x20 (.i .i64 65536)) fun x28 =>
 dOpt (binV .add x26 x28) fun x29 =>
 dOpt (binV .mul x22 (.i .i64 256)) fun x31 =>
 dOpt (binV .add x29 x31) fun x32 =>
 dOpt (binV .add x32 x24) fun x34 =>
 dOpt (binV .rem x34 x1) fun x36 =>
 K x36 H

theorem spec_l1Below_eq (C : Call1) (n : Nat) (x0 x1 : V) (H : Heap) (K : V → Heap → Prop) : bodyO C n (Fs 57) [x0, x1] H K = spec_l1Below C n x0 x1 H K := by kernel_rfl
theorem c_spec_l1Below (k : Nat) (x0 x1 : V) (H : Heap) (K : V → Heap → Prop) : CC (k + 1) 57 [x0, x1] H K = spec_l1Below (CC k) k x0 x1 H K := (CC_heap rfl _ _ _).trans (spec_l1Below_eq _ _ _ _ _ _)

def spec_l15Take (C : Call1) (n : Nat) (x0 x1 : V) (H : Heap) (K : V → Heap → Prop) : Prop :=
 dOpt (binV .lss x0 (.i .i64 4)) fun x7 =>
 dIf x7 (fun k1 =>
 K (.tup [.zs, x0]) H) (fun k1 =>
 k1 [] H) fun s H =>
 dOpt (binV .sub x0 (.i .i64 4)) fun x12 =>
 dOpt (dBuild [.i .i64 0, .i .i64 0, .i .i64 0, .i .i64 0, .i .i64 0] [(0, 1, (.i .i64 3)), (1, 1, x1), (4, 1, x12)]) fun x13 =>
 dOpt2 (buildSliceV 38 5 [.i .i64 0, .i .i64 0, .i .i64 0, .i .i64 0, .i .i64 0] 1 [(0, x13)] H) fun x14 H =>
 K (.tup [x14, x1]) H

theorem spec_l15Take_eq (C : Call1) (n : Nat) (x0 x1 : V) (H : Heap) (K : V → Heap → Prop) : bodyO C n (Fs 68) [x0, x1] H K = spec_l15Take C n x0 x1 H K := by kernel_rfl
theorem c_spec_l15Take (k : Nat) (x0 x1 : V) (H : Heap) (K : V → Heap → Prop) : CC (k + 1) 68 [x0, x1] H K = spec_l15Take (CC k) k x0 x1 H K := (CC_heap rfl _ _ _).trans (spec_l15Take_eq _ _ _ _ _ _)

def spec_l1In (C : Call1) (n : Nat) (x0 x1 x2 : V) (H : Heap) (K : V → Heap → Prop) : Prop :=
 dOpt (binV .geq x0 x1) fun x9 =>
 dGrp x9 true (fun k1 =>
 dOpt (binV .leq x0 x2) fun x13 =>
 k1 [x0, x2, x13] H) (fun k1 => k1 [.un, .un, .un] H) fun s H =>
 let x13_1 := s.tail.tail.headD .un
 dOpt (pickV x9 x13_1 (.b false)) fun x14 =>
 K x14 H

theorem spec_l1In_eq (C : Call1) (n : Nat) (x0 x1 x2 : V) (H : Heap) (K : V → Heap → Prop) : bodyO C n (Fs 55) [x0, x1, x2] H K = spec_l1In C n x0 x1 x2 H K := by kernel_rfl
def g_spec_l1In : SigD := { lend := true, args := [.at_, .at_, .at_], res := .at_, own := false }
theorem c_spec_l1In (k : Nat) {x0 x1 x2 x0s x1s x2s : V} (H : Heap) (K : V → Heap → Prop) (h : sealCs true true true H [.at_, .at_, .at_] [x0, x1, x2] = some [x0s, x1s, x2s]) : CC (k + 1) 55 [x0, x1, x2] H K = spec_l1In (CC k) k x0s x1s x2s [] (backD g_spec_l1In H K) := (CC_seal (sg := g_spec_l1In) rfl h _).trans (spec_l1In_eq _ _ _ _ _ _ _)

def slices_Contains_byte_byte (C : Call1) (n : Nat) (x0 x1 : V) (H : Heap) (K : V → Heap → Prop) : Prop :=
 C 106 [x0, x1] H fun x7 H =>
 dOpt (binV .geq x7 (.i .i64 0)) fun x8 =>
 K x8 H

theorem slices_Contains_byte_byte_eq (C : Call1) (n : Nat) (x0 x1 : V) (H : Heap) (K : V → Heap → Prop) : bodyO C n (Fs 74) [x0, x1] H K = slices_Contains_byte_byte C n x0 x1 H K := by kernel_rfl
def g_slices_Contains_byte_byte : SigD := { lend := true, args := [.li [.at_], .at_], res := .at_, own := false }
theorem c_slices_Contains_byte_byte (k : Nat) {x0 x1 x0s x1s : V} (H : Heap) (K : V → Heap → Prop) (h : sealCs true true true H [.li [.at_], .at_] [x0, x1] = some [x0s, x1s]) : CC (k + 1) 74 [x0, x1] H K = slices_Contains_byte_byte (CC k) k x0s x1s [] (backD g_slices_Contains_byte_byte H K) := (CC_seal (sg := g_slices_Contains_byte_byte) rfl h _).trans (slices_Contains_byte_byte_eq _ _ _ _ _ _)

def spec_WordOk (C : Call1) (n : Nat) (x0 : V) (H : Heap) (K : V → Heap → Prop) : Prop :=
 C 55 [x0, (.i .i64 1), (.i .i64 10)] H fun x4 H =>
 K x4 H

theorem spec_WordOk_eq (C : Call1) (n : Nat) (x0 : V) (H : Heap) (K : V → Heap → Prop) : bodyO C n (Fs 71) [x0] H K = spec_WordOk C n x0 H K := by kernel_rfl
def g_spec_WordOk : SigD := { lend := true, args := [.at_], res := .at_, own := false }
theorem c_spec_WordOk (k : Nat) {x0 x0s : V} (H : Heap) (K : V → Heap → Prop) (h : sealCs true true true H [.at_] [x0] = some [x0s]) : CC (k + 1) 71 [x0] H K = spec_WordOk (CC k) k x0s [] (backD g_spec_WordOk H K) := (CC_seal (sg := g_spec_WordOk) rfl h _).trans (spec_WordOk_eq _ _ _ _ _)

end Go.Am.Try
