/- Structures and their rows. -/
import Derived.Test.YtpfmkkkmfddabaaKFnBitsT4
set_option linter.unusedVariables false
set_option linter.unusedSimpArgs false
set_option maxHeartbeats 8000000
namespace Go.TV
structure T_spec_l01Cur where
  b : List Int
  i : Int
  h : Int
  deriving Inhabited
theorem R_u8 : (∀ (l : List Int) (i : Nat) (a0 : Int), (List.map (rK .u8) l).set i [.sc (.int .u8 a0)] = List.map (rK .u8) (l.set i a0)) ∧
  (∀ (l : List Int) (a0 : Int), List.map (rK .u8) l ++ [[.sc (.int .u8 a0)]] = List.map (rK .u8) (l ++ [a0])) ∧
  (∀ (l : List Int) (b0 b1 : Int), List.map (rK .u8) l ++ [[.sc (.int .u8 b0)], [.sc (.int .u8 b1)]] = List.map (rK .u8) (l ++ [b0, b1])) ∧
  (∀ (l : List Int) (b0 b1 b2 : Int), List.map (rK .u8) l ++ [[.sc (.int .u8 b0)], [.sc (.int .u8 b1)], [.sc (.int .u8 b2)]] = List.map (rK .u8) (l ++ [b0, b1, b2])) ∧
  (∀ (l : List Int) (b0 b1 b2 b3 : Int), List.map (rK .u8) l ++ [[.sc (.int .u8 b0)], [.sc (.int .u8 b1)], [.sc (.int .u8 b2)], [.sc (.int .u8 b3)]] = List.map (rK .u8) (l ++ [b0, b1, b2, b3])) ∧
  (∀ n : Nat, List.replicate n [.sc (.int .u8 0)] = List.map (rK .u8) (List.replicate n 0)) ∧
  (∀ l : List Int, borRows (List.map (rK .u8) l) = List.map (rK .u8) l) ∧
  (∀ l : List Int, aliveRows (List.map (rK .u8) l) = true) ∧
  (∀ l : List Int, noBorRows (List.map (rK .u8) l) = true) :=
  ⟨fun l i a0 => set_rows (rK .u8) l i a0,
  fun l a0 => app_rows (rK .u8) l [a0],
  fun l b0 b1 => app_rows (rK .u8) l [b0, b1],
  fun l b0 b1 b2 => app_rows (rK .u8) l [b0, b1, b2],
  fun l b0 b1 b2 b3 => app_rows (rK .u8) l [b0, b1, b2, b3],
  fun n => rep_rows (rK .u8) 0 n,
  bor_rows (fun _ => rfl),
  alRows (fun _ => rfl),
  nb_rows (fun _ => rfl)⟩
def r_T_spec_l01Cur (o : Bool) (x : T_spec_l01Cur) : List V := [.list o 1 (List.map (rK .u8) x.b), .sc (.int .i64 x.i), .sc (.int .i64 x.h)]
theorem R_i64 : (∀ (l : List Int) (i : Nat) (a0 : Int), (List.map (rK .i64) l).set i [.sc (.int .i64 a0)] = List.map (rK .i64) (l.set i a0)) ∧
  (∀ (l : List Int) (a0 : Int), List.map (rK .i64) l ++ [[.sc (.int .i64 a0)]] = List.map (rK .i64) (l ++ [a0])) ∧
  (∀ (l : List Int) (b0 b1 : Int), List.map (rK .i64) l ++ [[.sc (.int .i64 b0)], [.sc (.int .i64 b1)]] = List.map (rK .i64) (l ++ [b0, b1])) ∧
  (∀ (l : List Int) (b0 b1 b2 : Int), List.map (rK .i64) l ++ [[.sc (.int .i64 b0)], [.sc (.int .i64 b1)], [.sc (.int .i64 b2)]] = List.map (rK .i64) (l ++ [b0, b1, b2])) ∧
  (∀ (l : List Int) (b0 b1 b2 b3 : Int), List.map (rK .i64) l ++ [[.sc (.int .i64 b0)], [.sc (.int .i64 b1)], [.sc (.int .i64 b2)], [.sc (.int .i64 b3)]] = List.map (rK .i64) (l ++ [b0, b1, b2, b3])) ∧
  (∀ n : Nat, List.replicate n [.sc (.int .i64 0)] = List.map (rK .i64) (List.replicate n 0)) ∧
  (∀ l : List Int, borRows (List.map (rK .i64) l) = List.map (rK .i64) l) ∧
  (∀ l : List Int, aliveRows (List.map (rK .i64) l) = true) ∧
  (∀ l : List Int, noBorRows (List.map (rK .i64) l) = true) :=
  ⟨fun l i a0 => set_rows (rK .i64) l i a0,
  fun l a0 => app_rows (rK .i64) l [a0],
  fun l b0 b1 => app_rows (rK .i64) l [b0, b1],
  fun l b0 b1 b2 => app_rows (rK .i64) l [b0, b1, b2],
  fun l b0 b1 b2 b3 => app_rows (rK .i64) l [b0, b1, b2, b3],
  fun n => rep_rows (rK .i64) 0 n,
  bor_rows (fun _ => rfl),
  alRows (fun _ => rfl),
  nb_rows (fun _ => rfl)⟩
theorem R_u32 : (∀ (l : List Int) (i : Nat) (a0 : Int), (List.map (rK .u32) l).set i [.sc (.int .u32 a0)] = List.map (rK .u32) (l.set i a0)) ∧
  (∀ (l : List Int) (a0 : Int), List.map (rK .u32) l ++ [[.sc (.int .u32 a0)]] = List.map (rK .u32) (l ++ [a0])) ∧
  (∀ (l : List Int) (b0 b1 : Int), List.map (rK .u32) l ++ [[.sc (.int .u32 b0)], [.sc (.int .u32 b1)]] = List.map (rK .u32) (l ++ [b0, b1])) ∧
  (∀ (l : List Int) (b0 b1 b2 : Int), List.map (rK .u32) l ++ [[.sc (.int .u32 b0)], [.sc (.int .u32 b1)], [.sc (.int .u32 b2)]] = List.map (rK .u32) (l ++ [b0, b1, b2])) ∧
  (∀ (l : List Int) (b0 b1 b2 b3 : Int), List.map (rK .u32) l ++ [[.sc (.int .u32 b0)], [.sc (.int .u32 b1)], [.sc (.int .u32 b2)], [.sc (.int .u32 b3)]] = List.map (rK .u32) (l ++ [b0, b1, b2, b3])) ∧
  (∀ n : Nat, List.replicate n [.sc (.int .u32 0)] = List.map (rK .u32) (List.replicate n 0)) ∧
  (∀ l : List Int, borRows (List.map (rK .u32) l) = List.map (rK .u32) l) ∧
  (∀ l : List Int, aliveRows (List.map (rK .u32) l) = true) ∧
  (∀ l : List Int, noBorRows (List.map (rK .u32) l) = true) :=
  ⟨fun l i a0 => set_rows (rK .u32) l i a0,
  fun l a0 => app_rows (rK .u32) l [a0],
  fun l b0 b1 => app_rows (rK .u32) l [b0, b1],
  fun l b0 b1 b2 => app_rows (rK .u32) l [b0, b1, b2],
  fun l b0 b1 b2 b3 => app_rows (rK .u32) l [b0, b1, b2, b3],
  fun n => rep_rows (rK .u32) 0 n,
  bor_rows (fun _ => rfl),
  alRows (fun _ => rfl),
  nb_rows (fun _ => rfl)⟩
theorem R_Li64 : (∀ (l : List (List Int)) (i : Nat) (a0 : List Int), (List.map (rL true 1 (rK .i64)) l).set i [.list true 1 (List.map (rK .i64) a0)] = List.map (rL true 1 (rK .i64)) (l.set i a0)) ∧
  (∀ (l : List (List Int)) (a0 : List Int), List.map (rL true 1 (rK .i64)) l ++ [[.list true 1 (List.map (rK .i64) a0)]] = List.map (rL true 1 (rK .i64)) (l ++ [a0])) ∧
  (∀ n : Nat, List.replicate n [.list true 1 []] = List.map (rL true 1 (rK .i64)) (List.replicate n [])) ∧
  (∀ l : List (List Int), borRows (List.map (rL true 1 (rK .i64)) l) = List.map (rL false 1 (rK .i64)) l) ∧
  (∀ l : List (List Int), aliveRows (List.map (rL true 1 (rK .i64)) l) = true) ∧
  (∀ l : List (List Int), borRows (List.map (rL false 1 (rK .i64)) l) = List.map (rL false 1 (rK .i64)) l) ∧
  (∀ l : List (List Int), aliveRows (List.map (rL false 1 (rK .i64)) l) = true) ∧
  (∀ l : List (List Int), noBorRows (List.map (rL true 1 (rK .i64)) l) = true) :=
  ⟨fun l i a0 => set_rows (rL true 1 (rK .i64)) l i a0,
  fun l a0 => app_rows (rL true 1 (rK .i64)) l [a0],
  fun n => rep_rows (rL true 1 (rK .i64)) [] n,
  bor_rows (bor_rL (fun _ => rfl)),
  alRows (fun _ => rfl),
  bor_rows (bor_rL (fun _ => rfl)),
  alRows (fun _ => rfl),
  nb_rows (nb_rL (fun _ => rfl))⟩
theorem R_b : (∀ (l : List Bool) (i : Nat) (a0 : Bool), (List.map rB l).set i [.sc (.bool a0)] = List.map rB (l.set i a0)) ∧
  (∀ (l : List Bool) (a0 : Bool), List.map rB l ++ [[.sc (.bool a0)]] = List.map rB (l ++ [a0])) ∧
  (∀ (l : List Bool) (b0 b1 : Bool), List.map rB l ++ [[.sc (.bool b0)], [.sc (.bool b1)]] = List.map rB (l ++ [b0, b1])) ∧
  (∀ (l : List Bool) (b0 b1 b2 : Bool), List.map rB l ++ [[.sc (.bool b0)], [.sc (.bool b1)], [.sc (.bool b2)]] = List.map rB (l ++ [b0, b1, b2])) ∧
  (∀ (l : List Bool) (b0 b1 b2 b3 : Bool), List.map rB l ++ [[.sc (.bool b0)], [.sc (.bool b1)], [.sc (.bool b2)], [.sc (.bool b3)]] = List.map rB (l ++ [b0, b1, b2, b3])) ∧
  (∀ n : Nat, List.replicate n [.sc (.bool false)] = List.map rB (List.replicate n false)) ∧
  (∀ l : List Bool, borRows (List.map rB l) = List.map rB l) ∧
  (∀ l : List Bool, aliveRows (List.map rB l) = true) ∧
  (∀ l : List Bool, noBorRows (List.map rB l) = true) :=
  ⟨fun l i a0 => set_rows rB l i a0,
  fun l a0 => app_rows rB l [a0],
  fun l b0 b1 => app_rows rB l [b0, b1],
  fun l b0 b1 b2 => app_rows rB l [b0, b1, b2],
  fun l b0 b1 b2 b3 => app_rows rB l [b0, b1, b2, b3],
  fun n => rep_rows rB false n,
  bor_rows (fun _ => rfl),
  alRows (fun _ => rfl),
  nb_rows (fun _ => rfl)⟩
theorem R_u64 : (∀ (l : List Int) (i : Nat) (a0 : Int), (List.map (rK .u64) l).set i [.sc (.int .u64 a0)] = List.map (rK .u64) (l.set i a0)) ∧
  (∀ (l : List Int) (a0 : Int), List.map (rK .u64) l ++ [[.sc (.int .u64 a0)]] = List.map (rK .u64) (l ++ [a0])) ∧
  (∀ (l : List Int) (b0 b1 : Int), List.map (rK .u64) l ++ [[.sc (.int .u64 b0)], [.sc (.int .u64 b1)]] = List.map (rK .u64) (l ++ [b0, b1])) ∧
  (∀ (l : List Int) (b0 b1 b2 : Int), List.map (rK .u64) l ++ [[.sc (.int .u64 b0)], [.sc (.int .u64 b1)], [.sc (.int .u64 b2)]] = List.map (rK .u64) (l ++ [b0, b1, b2])) ∧
  (∀ (l : List Int) (b0 b1 b2 b3 : Int), List.map (rK .u64) l ++ [[.sc (.int .u64 b0)], [.sc (.int .u64 b1)], [.sc (.int .u64 b2)], [.sc (.int .u64 b3)]] = List.map (rK .u64) (l ++ [b0, b1, b2, b3])) ∧
  (∀ n : Nat, List.replicate n [.sc (.int .u64 0)] = List.map (rK .u64) (List.replicate n 0)) ∧
  (∀ l : List Int, borRows (List.map (rK .u64) l) = List.map (rK .u64) l) ∧
  (∀ l : List Int, aliveRows (List.map (rK .u64) l) = true) ∧
  (∀ l : List Int, noBorRows (List.map (rK .u64) l) = true) :=
  ⟨fun l i a0 => set_rows (rK .u64) l i a0,
  fun l a0 => app_rows (rK .u64) l [a0],
  fun l b0 b1 => app_rows (rK .u64) l [b0, b1],
  fun l b0 b1 b2 => app_rows (rK .u64) l [b0, b1, b2],
  fun l b0 b1 b2 b3 => app_rows (rK .u64) l [b0, b1, b2, b3],
  fun n => rep_rows (rK .u64) 0 n,
  bor_rows (fun _ => rfl),
  alRows (fun _ => rfl),
  nb_rows (fun _ => rfl)⟩
end Go.TV
namespace Go.TV.F
noncomputable def laws_big (code : List Int) : Option Bool :=
  some (decide ((code.length : Int) > 1048576))
noncomputable def spec_l01New_j1 (code : List Int) (h : Int) : Option (T_spec_l01Cur) :=
  some (T_spec_l01Cur.mk code 0 h)
noncomputable def spec_l01New_l1 (code : List Int) (h_1 : Int) (i : Int) : Option ((Int × Int) ⊕ (Int)) :=
  (if (decide (i < (code.length : Int))) then some (decide (i < 4000)) else some false).bind fun b => (if b then (geti code i).bind fun x => some (.inl ((bits .and .i64 (wk .i64 ((wk .i64 ((wk .i64 (h_1 * 131)) + (wk .i64 x))) + 7)) 1073741823), (wk .i64 (i + 1))))
  else some (.inr h_1))
noncomputable def spec_l01New (code : List Int) : Option T_spec_l01Cur :=
  (loopM (fun (s' : Int × Int) => spec_l01New_l1 code s'.1 s'.2) ((wk .i64 (73073 + (code.length : Int))), 0)).bind fun p => spec_l01New_j1 code p
noncomputable def spec_l01Byte (c : T_spec_l01Cur) : Option (Int × T_spec_l01Cur) :=
  (if (decide (c.i < (c.b.length : Int))) then (geti c.b c.i).bind fun x => some ((bits .and .i64 (wk .i64 ((bits .and .i64 (bits .xor .i64 (shrI .i64 (wk .i64 ((wk .i64 (c.h * 6364136223846793005)) + 1442695040888963407)) 33) (shrI .i64 (wk .i64 ((wk .i64 (c.h * 6364136223846793005)) + 1442695040888963407)) 45)) 255) + (wk .i64 x))) 255), (T_spec_l01Cur.mk c.b (wk .i64 (c.i + 1)) (wk .i64 ((wk .i64 (c.h * 6364136223846793005)) + 1442695040888963407))))
  else some ((bits .and .i64 (bits .xor .i64 (shrI .i64 (wk .i64 ((wk .i64 (c.h * 6364136223846793005)) + 1442695040888963407)) 33) (shrI .i64 (wk .i64 ((wk .i64 (c.h * 6364136223846793005)) + 1442695040888963407)) 45)) 255), (T_spec_l01Cur.mk c.b c.i (wk .i64 ((wk .i64 (c.h * 6364136223846793005)) + 1442695040888963407)))))
noncomputable def spec_l01Below (c : T_spec_l01Cur) (n : Int) : Option (Int × T_spec_l01Cur) :=
  (if (decide (n ≤ 0)) then some (0, (T_spec_l01Cur.mk c.b c.i c.h))
  else (if (decide (n ≤ 256)) then (spec_l01Byte (T_spec_l01Cur.mk c.b c.i c.h)).bind fun x14 => (chk (¬ n = 0)).bind fun u => some (((x14.1 : Int).tmod n), (T_spec_l01Cur.mk x14.2.b x14.2.i x14.2.h))
  else (spec_l01Byte (T_spec_l01Cur.mk c.b c.i c.h)).bind fun x18 => (spec_l01Byte (T_spec_l01Cur.mk x18.2.b x18.2.i x18.2.h)).bind fun x20 => (spec_l01Byte (T_spec_l01Cur.mk x20.2.b x20.2.i x20.2.h)).bind fun x22 => (spec_l01Byte (T_spec_l01Cur.mk x22.2.b x22.2.i x22.2.h)).bind fun x24 => (chk (¬ n = 0)).bind fun u_1 => some (((wk .i64 ((wk .i64 ((wk .i64 ((wk .i64 (x18.1 * 16777216)) + (wk .i64 (x20.1 * 65536)))) + (wk .i64 (x22.1 * 256)))) + x24.1)).tmod n), (T_spec_l01Cur.mk x24.2.b x24.2.i x24.2.h))))
noncomputable def spec_l01Once (c : T_spec_l01Cur) (n : Int) : Option (Bool × T_spec_l01Cur) :=
  (spec_l01Below (T_spec_l01Cur.mk c.b c.i c.h) n).bind fun x7 => some ((x7.1 == 0), (T_spec_l01Cur.mk x7.2.b x7.2.i x7.2.h))
noncomputable def spec_l01PickInt (c : T_spec_l01Cur) (list_ : List Int) : Option (Int × T_spec_l01Cur) :=
  (spec_l01Below (T_spec_l01Cur.mk c.b c.i c.h) (list_.length : Int)).bind fun x9 => (geti list_ x9.1).bind fun x => some (x, (T_spec_l01Cur.mk x9.2.b x9.2.i x9.2.h))
noncomputable def spec_DrawBitsOf_j1 (c : List Int) (c_1 : Int) (c_2 : Int) (out_ : List Int) : Option ((List Int)) :=
  (spec_l01Once (T_spec_l01Cur.mk c c_1 c_2) 8).bind fun x21 => (if x21.1 then (spec_l01PickInt (T_spec_l01Cur.mk x21.2.b x21.2.i x21.2.h) [(-1), 63, 64, 9223372036854775807]).bind fun x25 => (appn out_ [x25.1]).bind fun l => some l
  else some out_)
noncomputable def spec_DrawBitsOf_l1 (i : Int) (c_3 : List Int) (c_4 : Int) (c_5 : Int) (out__1 : List Int) : Option ((Int × (List Int) × Int × Int × (List Int)) ⊕ ((List Int) × Int × Int × (List Int))) :=
  (spec_l01Below (T_spec_l01Cur.mk c_3 c_4 c_5) 9).bind fun x11 => (if (decide (i < x11.1)) then (spec_l01Below (T_spec_l01Cur.mk x11.2.b x11.2.i x11.2.h) 64).bind fun x17 => (appn out__1 [x17.1]).bind fun l_1 => some (.inl ((wk .i64 (i + 1)), x17.2.b, x17.2.i, x17.2.h, l_1))
  else some (.inr (x11.2.b, x11.2.i, x11.2.h, out__1)))
noncomputable def spec_DrawBitsOf (code : List Int) : Option (List Int) :=
  (spec_l01New code).bind fun x7 => (loopM (fun (s' : Int × (List Int) × Int × Int × (List Int)) => spec_DrawBitsOf_l1 s'.1 s'.2.1 s'.2.2.1 s'.2.2.2.1 s'.2.2.2.2) (0, x7.b, x7.i, x7.h, [])).bind fun p => spec_DrawBitsOf_j1 p.1 p.2.1 p.2.2.1 p.2.2.2
noncomputable def impl_inRange (n : Int) (least : Int) (most : Int) : Option Bool :=
  (if (decide (n ≥ least)) then some (decide (n ≤ most)) else some false).bind fun b => some b
noncomputable def impl_setOf_j1 (s : Int) : Option (Int) :=
  some s
noncomputable def impl_setOf_l1 (list_ : List Int) (s_1 : Int) (x8 : Int) : Option ((Int × Int) ⊕ (Int)) :=
  (if (decide (x8 < (list_.length : Int))) then (geti list_ x8).bind fun x => (impl_inRange x 0 63).bind fun x13 => (if x13 then (chk (¬ (wk .u64 x) < 0)).bind fun u => some (.inl ((bits .or .u64 s_1 (shlI .u64 1 (wk .u64 x))), (wk .i64 (x8 + 1))))
  else some (.inl (s_1, (wk .i64 (x8 + 1)))))
  else some (.inr s_1))
noncomputable def impl_setOf (list_ : List Int) : Option Int :=
  (loopM (fun (s' : Int × Int) => impl_setOf_l1 list_ s'.1 s'.2) (0, 0)).bind fun p => impl_setOf_j1 p
noncomputable def impl_BitsOf_j1 (list_ : List Int) : Option ((List Int) × Bool) :=
  (impl_setOf list_).bind fun x18 => some ([(wk .u32 x18), (wk .u32 (shrI .u64 x18 32))], true)
noncomputable def impl_BitsOf_l1 (list_ : List Int) (x9 : Int) : Option ((Int) ⊕ (((List Int) × Bool) ⊕ (Unit))) :=
  (if (decide (x9 < (list_.length : Int))) then (geti list_ x9).bind fun x => (impl_inRange x 0 63).bind fun x14 => (if (!x14) then some (.inr (.inl ([], false)))
  else some (.inl (wk .i64 (x9 + 1))))
  else some (.inr (.inr ())))
noncomputable def impl_BitsOf (list_ : List Int) : Option ((List Int) × Bool) :=
  (loopM (fun (s' : Int) => impl_BitsOf_l1 list_ s') (0)).bind fun p => (match p with | .inl c' => some c' | .inr q => impl_BitsOf_j1 list_)
noncomputable def spec_l01In (x : Int) (least : Int) (most : Int) : Option Bool :=
  (if (decide (x ≥ least)) then some (decide (x ≤ most)) else some false).bind fun b => some b
noncomputable def spec_BitsOf_j1 (out_ : List Int) : Option ((List Int) × Bool) :=
  some (out_, true)
noncomputable def spec_BitsOf_l1 (list_ : List Int) (i : Int) (out__1 : List Int) : Option ((Int × (List Int)) ⊕ (((List Int) × Bool) ⊕ ((List Int)))) :=
  (if (decide (i < (list_.length : Int))) then (geti list_ i).bind fun x => (spec_l01In x 0 63).bind fun x18 => (if (!x18) then some (.inr (.inl ([], false)))
  else (geti out__1 (wk .i64 (x.tdiv 32))).bind fun x_1 => (chk (¬ (x.tmod 32) < 0)).bind fun u => some (.inl ((wk .i64 (i + 1)), (out__1.set ((wk .i64 (x.tdiv 32)).toNat) (bits .or .u32 x_1 (shlI .u32 1 (x.tmod 32)))))))
  else some (.inr (.inr out__1)))
noncomputable def spec_BitsOf (list_ : List Int) : Option ((List Int) × Bool) :=
  (loopM (fun (s' : Int × (List Int)) => spec_BitsOf_l1 list_ s'.1 s'.2) (0, [0, 0])).bind fun p => (match p with | .inl c' => some c' | .inr q => spec_BitsOf_j1 q)
noncomputable def impl_set_has (s : Int) (v : Int) : Option Bool :=
  (impl_inRange v 0 63).bind fun x6 => (if x6 then (chk (¬ (wk .u64 v) < 0)).bind fun u => some ((bits .and .u64 (shrI .u64 s (wk .u64 v)) 1) == 1) else some false).bind fun b => some b
noncomputable def impl_set_list_j1 (out_ : List Int) : Option ((List Int)) :=
  some out_
noncomputable def impl_set_list_l1 (s : Int) (x5 : Int) (out__1 : List Int) : Option ((Int × (List Int)) ⊕ ((List Int))) :=
  (if (decide (x5 < 64)) then (impl_set_has s x5).bind fun x10 => (if x10 then (appn out__1 [x5]).bind fun l => some (.inl ((wk .i64 (x5 + 1)), l))
  else some (.inl ((wk .i64 (x5 + 1)), out__1)))
  else some (.inr out__1))
noncomputable def impl_set_list (s : Int) : Option (List Int) :=
  (loopM (fun (s' : Int × (List Int)) => impl_set_list_l1 s s'.1 s'.2) (0, [])).bind fun p => impl_set_list_j1 p
noncomputable def impl_ListOf (bits_ : List Int) : Option ((List Int) × Bool) :=
  (if ((bits_.length : Int) != 2) then some ([], false)
  else (geti bits_ 0).bind fun x => (geti bits_ 1).bind fun x_1 => (impl_set_list (bits .or .u64 (wk .u64 x) (shlI .u64 (wk .u64 x_1) 32))).bind fun x17 => some (x17, true))
noncomputable def laws_within_j1 : Option (Bool) :=
  some false
noncomputable def laws_within_l1 (list_ : List Int) (x : Int) (i : Int) : Option ((Int) ⊕ ((Bool) ⊕ (Unit))) :=
  (if (decide (i < (list_.length : Int))) then (geti list_ i).bind fun x_1 => (if (x_1 == x) then some (.inr (.inl true))
  else some (.inl (wk .i64 (i + 1))))
  else some (.inr (.inr ())))
noncomputable def laws_within (list_ : List Int) (x : Int) : Option Bool :=
  (loopM (fun (s' : Int) => laws_within_l1 list_ x s') (0)).bind fun p => (match p with | .inl c' => some c' | .inr q => laws_within_j1)
noncomputable def spec_DrawListOf (code : List Int) : Option (List Int) :=
  (spec_l01New code).bind fun x6 => (spec_l01Below (T_spec_l01Cur.mk x6.b x6.i x6.h) 4294967296).bind fun x8 => (spec_l01Below (T_spec_l01Cur.mk x8.2.b x8.2.i x8.2.h) 4294967296).bind fun x11 => (spec_l01Once (T_spec_l01Cur.mk x11.2.b x11.2.i x11.2.h) 8).bind fun x15 => (if x15.1 then some [(wk .u32 x8.1)]
  else some [(wk .u32 x8.1), (wk .u32 x11.1)])
noncomputable def laws_FnBits_j1 (code : List Int) : Option (Bool) :=
  (spec_DrawListOf code).bind fun x85 => (if ((x85.length : Int) != 2) then some true
  else (impl_ListOf x85).bind fun x91 => (impl_BitsOf x91.1).bind fun x96 => (if x91.2 then some x96.2 else some false).bind fun b => (if b then some ((x96.1.length : Int) == 2) else some false).bind fun b_1 => (if b_1 then (geti x96.1 0).bind fun x => (geti x85 0).bind fun x_1 => some (x == x_1) else some false).bind fun b_2 => (if b_2 then (geti x96.1 1).bind fun x_2 => (geti x85 1).bind fun x_3 => some (x_2 == x_3) else some false).bind fun b_3 => some b_3)
noncomputable def laws_FnBits_l1 (x20 : (List Int)) (x37 : (List Int) × Bool) (i : Int) : Option ((Int) ⊕ ((Bool) ⊕ (Unit))) :=
  (if (decide (i < (x37.1.length : Int))) then (geti x37.1 i).bind fun x_4 => (laws_within x20 x_4).bind fun x66 => (if (!x66) then some true else (if (decide (i > 0)) then (geti x37.1 (wk .i64 (i - 1))).bind fun x_5 => some (decide (x_5 ≥ x_4)) else some false).bind fun b_5 => some b_5).bind fun b_4 => (if b_4 then some (.inr (.inl false))
  else some (.inl (wk .i64 (i + 1))))
  else some (.inr (.inr ())))
noncomputable def laws_FnBits_j2 (code : List Int) (x20 : (List Int)) (x37 : (List Int) × Bool) : Option (Bool) :=
  (loopM (fun (s' : Int) => laws_FnBits_l1 x20 x37 s') (0)).bind fun p => (match p with | .inl c' => some c' | .inr q => laws_FnBits_j1 code)
noncomputable def laws_FnBits_l2 (x20 : (List Int)) (x37 : (List Int) × Bool) (i_1 : Int) : Option ((Int) ⊕ ((Bool) ⊕ (Unit))) :=
  (if (decide (i_1 < (x20.length : Int))) then (geti x20 i_1).bind fun x_6 => (laws_within x37.1 x_6).bind fun x53 => (if (!x53) then some (.inr (.inl false))
  else some (.inl (wk .i64 (i_1 + 1))))
  else some (.inr (.inr ())))
noncomputable def laws_FnBits (code : List Int) : Option Bool :=
  (laws_big code).bind fun x18 => (if x18 then some true
  else (spec_DrawBitsOf code).bind fun x20 => (impl_BitsOf x20).bind fun x23 => (spec_BitsOf x20).bind fun x28 => (if (x23.2 != x28.2) then some false
  else (if x23.2 then (impl_ListOf x23.1).bind fun x37 => (if (!x37.2) then some false
  else (loopM (fun (s' : Int) => laws_FnBits_l2 x20 x37 s') (0)).bind fun p_1 => (match p_1 with | .inl c' => some c' | .inr q_1 => laws_FnBits_j2 code x20 x37))
  else laws_FnBits_j1 code)))
noncomputable def laws_szIntS (a : List Int) (left : Int) : Option Int :=
  (if (decide ((wk .i64 (left - (a.length : Int))) < 0)) then some (-1)
  else some (wk .i64 (left - (a.length : Int))))
noncomputable def laws_szIntSS_j1 (left_1 : Int) : Option (Int) :=
  some left_1
noncomputable def laws_szIntSS_l1 (a : List (List Int)) (left_2 : Int) (i : Int) : Option ((Int × Int) ⊕ ((Int) ⊕ (Int))) :=
  (if (decide (i < (a.length : Int))) then (geti a i).bind fun x => (laws_szIntS x left_2).bind fun x23 => (if (decide (x23 < 0)) then some (.inr (.inl (-1)))
  else some (.inl (x23, (wk .i64 (i + 1)))))
  else some (.inr (.inr left_2)))
noncomputable def laws_szIntSS (a : List (List Int)) (left : Int) : Option Int :=
  (if (decide ((wk .i64 (left - (a.length : Int))) < 0)) then some (-1)
  else (loopM (fun (s' : Int × Int) => laws_szIntSS_l1 a s'.1 s'.2) ((wk .i64 (left - (a.length : Int))), 0)).bind fun p => (match p with | .inl c' => some c' | .inr q => laws_szIntSS_j1 q))
noncomputable def laws_toIntS_j1 (out_ : List Int) : Option ((List Int)) :=
  some out_
noncomputable def laws_toIntS_l1 (a : List Int) (i : Int) (out__1 : List Int) : Option ((Int × (List Int)) ⊕ ((List Int))) :=
  (if (decide (i < (a.length : Int))) then (geti a i).bind fun x => (geti out__1 i).bind fun x_1 => some (.inl ((wk .i64 (i + 1)), (out__1.set i.toNat x)))
  else some (.inr out__1))
noncomputable def laws_toIntS (a : List Int) : Option (List Int) :=
  ((mkl (a.length : Int) (a.length : Int) 0 : Option (List Int))).bind fun x7 => (loopM (fun (s' : Int × (List Int)) => laws_toIntS_l1 a s'.1 s'.2) (0, x7)).bind fun p => laws_toIntS_j1 p
noncomputable def laws_toIntSS_j1 (out_ : List (List Int)) : Option ((List (List Int))) :=
  some out_
noncomputable def laws_toIntSS_l1 (a : List (List Int)) (i : Int) (out__1 : List (List Int)) : Option ((Int × (List (List Int))) ⊕ ((List (List Int)))) :=
  (if (decide (i < (a.length : Int))) then (geti a i).bind fun x => (laws_toIntS x).bind fun x20 => (geti out__1 i).bind fun x_1 => some (.inl ((wk .i64 (i + 1)), (out__1.set i.toNat x20)))
  else some (.inr out__1))
noncomputable def laws_toIntSS (a : List (List Int)) : Option (List (List Int)) :=
  ((mkl (a.length : Int) (a.length : Int) [] : Option (List (List Int)))).bind fun x7 => (loopM (fun (s' : Int × (List (List Int))) => laws_toIntSS_l1 a s'.1 s'.2) (0, x7)).bind fun p => laws_toIntSS_j1 p
noncomputable def spec_l05Rise_j1 : Option (Bool) :=
  some true
noncomputable def spec_l05Rise_l1 (list_ : List Int) (n : Int) (i : Int) : Option ((Int) ⊕ ((Bool) ⊕ (Unit))) :=
  (if (decide (i < (list_.length : Int))) then (geti list_ i).bind fun x => (spec_l01In x 0 (wk .i64 (n - 1))).bind fun x18 => (if (!x18) then some true else (if (decide (i > 0)) then (geti list_ (wk .i64 (i - 1))).bind fun x_1 => some (decide (x_1 ≥ x)) else some false).bind fun b_1 => some b_1).bind fun b => (if b then some (.inr (.inl false))
  else some (.inl (wk .i64 (i + 1))))
  else some (.inr (.inr ())))
noncomputable def spec_l05Rise (list_ : List Int) (n : Int) : Option Bool :=
  (loopM (fun (s' : Int) => spec_l05Rise_l1 list_ n s') (0)).bind fun p => (match p with | .inl c' => some c' | .inr q => spec_l05Rise_j1)
noncomputable def spec_GraphOk_j1 : Option (Bool) :=
  some true
noncomputable def spec_GraphOk_l1 (parents : List (List Int)) (v : Int) : Option ((Int) ⊕ ((Bool) ⊕ (Unit))) :=
  (if (decide (v < (parents.length : Int))) then (geti parents v).bind fun x => (if (decide ((x.length : Int) > 4)) then some true else (spec_l05Rise x v).bind fun x25 => some (!x25)).bind fun b => (if b then some (.inr (.inl false))
  else some (.inl (wk .i64 (v + 1))))
  else some (.inr (.inr ())))
noncomputable def spec_GraphOk (parents : List (List Int)) : Option Bool :=
  (if (decide ((parents.length : Int) > 40)) then some false
  else (loopM (fun (s' : Int) => spec_GraphOk_l1 parents s') (0)).bind fun p => (match p with | .inl c' => some c' | .inr q => spec_GraphOk_j1))
noncomputable def spec_l05Has (parents : List (List Int)) (v : Int) : Option Bool :=
  (spec_GraphOk parents).bind fun x6 => (if x6 then (spec_l01In v 0 (wk .i64 ((parents.length : Int) - 1))).bind fun x12 => some x12 else some false).bind fun b => some b
noncomputable def spec_l05Set_j2 (in__1 : List Bool) : Option ((List Bool)) :=
  some in__1
noncomputable def spec_l05Set_j3 (v : Int) (in__3 : List Bool) : Option ((Int × (List Bool)) ⊕ ((List Bool))) :=
  some (.inl ((wk .i64 (v - 1)), in__3))
noncomputable def spec_l05Set_l2 (parents : List (List Int)) (v : Int) (k : Int) (in__4 : List Bool) : Option ((Int × (List Bool)) ⊕ ((List Bool))) :=
  (geti parents v).bind fun x => (if (decide (k < (x.length : Int))) then (geti in__4 v).bind fun x_1 => some x_1 else some false).bind fun b => (if b then (geti parents v).bind fun x_2 => (geti x_2 k).bind fun x_3 => (geti in__4 x_3).bind fun x_4 => some (.inl ((wk .i64 (k + 1)), (in__4.set x_3.toNat true)))
  else some (.inr in__4))
noncomputable def spec_l05Set_l1 (parents : List (List Int)) (v : Int) (in__2 : List Bool) : Option ((Int × (List Bool)) ⊕ ((List Bool))) :=
  (if (decide (v ≥ 0)) then (loopM (fun (s' : Int × (List Bool)) => spec_l05Set_l2 parents v s'.1 s'.2) (0, in__2)).bind fun p_1 => spec_l05Set_j3 v p_1
  else some (.inr in__2))
noncomputable def spec_l05Set_j1 (parents : List (List Int)) (in_ : List Bool) : Option ((List Bool)) :=
  (loopM (fun (s' : Int × (List Bool)) => spec_l05Set_l1 parents s'.1 s'.2) ((wk .i64 ((parents.length : Int) - 1)), in_)).bind fun p => spec_l05Set_j2 p
noncomputable def spec_l05Set_l3 (parents : List (List Int)) (list_ : List Int) (i : Int) (in__5 : List Bool) : Option ((Int × (List Bool)) ⊕ ((List Bool))) :=
  (if (decide (i < (list_.length : Int))) then (geti list_ i).bind fun x_5 => (spec_l01In x_5 0 (wk .i64 ((parents.length : Int) - 1))).bind fun x25 => (if x25 then (geti in__5 x_5).bind fun x_6 => some (.inl ((wk .i64 (i + 1)), (in__5.set x_5.toNat true)))
  else some (.inl ((wk .i64 (i + 1)), in__5)))
  else some (.inr in__5))
noncomputable def spec_l05Set (parents : List (List Int)) (list_ : List Int) : Option (List Bool) :=
  ((mkl (parents.length : Int) (parents.length : Int) false : Option (List Bool))).bind fun x11 => (loopM (fun (s' : Int × (List Bool)) => spec_l05Set_l3 parents list_ s'.1 s'.2) (0, x11)).bind fun p_2 => spec_l05Set_j1 parents p_2
noncomputable def spec_l05List_j1 (out_ : List Int) : Option ((List Int)) :=
  some out_
noncomputable def spec_l05List_l1 (in_ : List Bool) (v : Int) (out__1 : List Int) : Option ((Int × (List Int)) ⊕ ((List Int))) :=
  (if (decide (v < (in_.length : Int))) then (geti in_ v).bind fun x => (if x then (appn out__1 [v]).bind fun l => some (.inl ((wk .i64 (v + 1)), l))
  else some (.inl ((wk .i64 (v + 1)), out__1)))
  else some (.inr out__1))
noncomputable def spec_l05List (in_ : List Bool) : Option (List Int) :=
  (loopM (fun (s' : Int × (List Int)) => spec_l05List_l1 in_ s'.1 s'.2) (0, [])).bind fun p => spec_l05List_j1 p
noncomputable def spec_ClosureOf (parents : List (List Int)) (v : Int) : Option (List Int) :=
  (spec_l05Has parents v).bind fun x7 => (if (!x7) then some []
  else (spec_l05Set parents [v]).bind fun x13 => (spec_l05List x13).bind fun x14 => some x14)
noncomputable def impl_isPlace (n : Int) (size : Int) : Option Bool :=
  (impl_inRange n 0 (wk .i64 (size - 1))).bind fun x8 => some x8
noncomputable def impl_ascends_j1 : Option (Bool) :=
  some true
noncomputable def impl_ascends_l1 (list_ : List Int) (below : Int) (x9 : Int) : Option ((Int) ⊕ ((Bool) ⊕ (Unit))) :=
  (if (decide (x9 < (list_.length : Int))) then (geti list_ x9).bind fun x => (impl_inRange x 0 (wk .i64 (below - 1))).bind fun x17 => (if (!x17) then some true else (if (decide (x9 > 0)) then (geti list_ (wk .i64 (x9 - 1))).bind fun x_1 => some (decide (x ≤ x_1)) else some false).bind fun b_1 => some b_1).bind fun b => (if b then some (.inr (.inl false))
  else some (.inl (wk .i64 (x9 + 1))))
  else some (.inr (.inr ())))
noncomputable def impl_ascends (list_ : List Int) (below : Int) : Option Bool :=
  (loopM (fun (s' : Int) => impl_ascends_l1 list_ below s') (0)).bind fun p => (match p with | .inl c' => some c' | .inr q => impl_ascends_j1)
noncomputable def impl_GraphOk_j1 (parents : List (List Int)) : Option (Bool) :=
  some (decide ((parents.length : Int) ≤ 40))
noncomputable def impl_GraphOk_l1 (parents : List (List Int)) (x7 : Int) : Option ((Int) ⊕ ((Bool) ⊕ (Unit))) :=
  (if (decide (x7 < (parents.length : Int))) then (geti parents x7).bind fun x => (if (decide ((x.length : Int) > 4)) then some true else (impl_ascends x x7).bind fun x18 => some (!x18)).bind fun b => (if b then some (.inr (.inl false))
  else some (.inl (wk .i64 (x7 + 1))))
  else some (.inr (.inr ())))
noncomputable def impl_GraphOk (parents : List (List Int)) : Option Bool :=
  (loopM (fun (s' : Int) => impl_GraphOk_l1 parents s') (0)).bind fun p => (match p with | .inl c' => some c' | .inr q => impl_GraphOk_j1 parents)
noncomputable def impl_unionOf_j1 (s : Int) : Option (Int) :=
  some s
noncomputable def impl_unionOf_l1 (closed : List Int) (list_ : List Int) (s_1 : Int) (x10 : Int) : Option ((Int × Int) ⊕ (Int)) :=
  (if (decide (x10 < (list_.length : Int))) then (geti list_ x10).bind fun x => (geti closed x).bind fun x_1 => some (.inl ((bits .or .u64 s_1 x_1), (wk .i64 (x10 + 1))))
  else some (.inr s_1))
noncomputable def impl_unionOf (closed : List Int) (list_ : List Int) : Option Int :=
  (loopM (fun (s' : Int × Int) => impl_unionOf_l1 closed list_ s'.1 s'.2) (0, 0)).bind fun p => impl_unionOf_j1 p
noncomputable def impl_closures_j1 (out_ : List Int) : Option ((List Int)) :=
  some out_
noncomputable def impl_closures_l1 (parents : List (List Int)) (x11 : Int) (out__1 : List Int) : Option ((Int × (List Int)) ⊕ ((List Int))) :=
  (if (decide (x11 < (parents.length : Int))) then (geti parents x11).bind fun x => (impl_unionOf out__1 x).bind fun x20 => (chk (¬ (wk .u64 x11) < 0)).bind fun u => (geti out__1 x11).bind fun x_1 => some (.inl ((wk .i64 (x11 + 1)), (out__1.set x11.toNat (bits .or .u64 x20 (shlI .u64 1 (wk .u64 x11))))))
  else some (.inr out__1))
noncomputable def impl_closures (parents : List (List Int)) : Option (List Int) :=
  ((mkl (parents.length : Int) (parents.length : Int) 0 : Option (List Int))).bind fun x8 => (loopM (fun (s' : Int × (List Int)) => impl_closures_l1 parents s'.1 s'.2) (0, x8)).bind fun p => impl_closures_j1 p
noncomputable def impl_ClosureOf (parents : List (List Int)) (v : Int) : Option (List Int) :=
  (impl_isPlace v (parents.length : Int)).bind fun x8 => (if (!x8) then some true else (impl_GraphOk parents).bind fun x12 => some (!x12)).bind fun b => (if b then some []
  else (impl_closures parents).bind fun x16 => (geti x16 v).bind fun x => (impl_set_list x).bind fun x20 => some x20)
noncomputable def laws_eqIntS_j1 : Option (Bool) :=
  some true
noncomputable def laws_eqIntS_l1 (a : List Int) (b : List Int) (i : Int) : Option ((Int) ⊕ ((Bool) ⊕ (Unit))) :=
  (if (decide (i < (a.length : Int))) then (geti a i).bind fun x => (geti b i).bind fun x_1 => (if (x != x_1) then some (.inr (.inl false))
  else some (.inl (wk .i64 (i + 1))))
  else some (.inr (.inr ())))
noncomputable def laws_eqIntS (a : List Int) (b : List Int) : Option Bool :=
  (if ((a.length : Int) != (b.length : Int)) then some false
  else (loopM (fun (s' : Int) => laws_eqIntS_l1 a b s') (0)).bind fun p => (match p with | .inl c' => some c' | .inr q => laws_eqIntS_j1))
noncomputable def laws_eqIntSS_j1 : Option (Bool) :=
  some true
noncomputable def laws_eqIntSS_l1 (a : List (List Int)) (b : List (List Int)) (i : Int) : Option ((Int) ⊕ ((Bool) ⊕ (Unit))) :=
  (if (decide (i < (a.length : Int))) then (geti a i).bind fun x => (geti b i).bind fun x_1 => (laws_eqIntS x x_1).bind fun x25 => (if (!x25) then some (.inr (.inl false))
  else some (.inl (wk .i64 (i + 1))))
  else some (.inr (.inr ())))
noncomputable def laws_eqIntSS (a : List (List Int)) (b : List (List Int)) : Option Bool :=
  (if ((a.length : Int) != (b.length : Int)) then some false
  else (loopM (fun (s' : Int) => laws_eqIntSS_l1 a b s') (0)).bind fun p => (match p with | .inl c' => some c' | .inr q => laws_eqIntSS_j1))
noncomputable def laws_markIntS_j1 (k_1 : Int) (a_1 : List Int) : Option (Int × (List Int)) :=
  some (k_1, a_1)
noncomputable def laws_markIntS_l1 (k_2 : Int) (i : Int) (a_2 : List Int) : Option ((Int × Int × (List Int)) ⊕ (Int × (List Int))) :=
  (if (decide (i < (a_2.length : Int))) then (geti a_2 i).bind fun x => some (.inl ((wk .i64 (k_2 + 1)), (wk .i64 (i + 1)), (a_2.set i.toNat k_2)))
  else some (.inr (k_2, a_2)))
noncomputable def laws_markIntS (a : List Int) (k : Int) : Option (Int × (List Int)) :=
  (loopM (fun (s' : Int × Int × (List Int)) => laws_markIntS_l1 s'.1 s'.2.1 s'.2.2) (k, 0, a)).bind fun p => laws_markIntS_j1 p.1 p.2
noncomputable def laws_markIntSS_j1 (k_1 : Int) (a_1 : List (List Int)) : Option (Int × (List (List Int))) :=
  some (k_1, a_1)
noncomputable def laws_markIntSS_l1 (k_2 : Int) (i : Int) (a_2 : List (List Int)) : Option ((Int × Int × (List (List Int))) ⊕ (Int × (List (List Int)))) :=
  (if (decide (i < (a_2.length : Int))) then (geti a_2 i).bind fun x => (laws_markIntS x k_2).bind fun x17 => some (.inl (x17.1, (wk .i64 (i + 1)), (a_2.set i.toNat x17.2)))
  else some (.inr (k_2, a_2)))
noncomputable def laws_markIntSS (a : List (List Int)) (k : Int) : Option (Int × (List (List Int))) :=
  (loopM (fun (s' : Int × Int × (List (List Int))) => laws_markIntSS_l1 s'.1 s'.2.1 s'.2.2) (k, 0, a)).bind fun p => laws_markIntSS_j1 p.1 p.2
noncomputable def laws_heldIntS_j1 (k_1 : Int) : Option (Int) :=
  some k_1
noncomputable def laws_heldIntS_l1 (a : List Int) (k_2 : Int) (i : Int) : Option ((Int × Int) ⊕ ((Int) ⊕ (Int))) :=
  (if (decide (i < (a.length : Int))) then (geti a i).bind fun x => (if (x != k_2) then some (.inr (.inl (-1)))
  else some (.inl ((wk .i64 (k_2 + 1)), (wk .i64 (i + 1)))))
  else some (.inr (.inr k_2)))
noncomputable def laws_heldIntS (a : List Int) (k : Int) : Option Int :=
  (loopM (fun (s' : Int × Int) => laws_heldIntS_l1 a s'.1 s'.2) (k, 0)).bind fun p => (match p with | .inl c' => some c' | .inr q => laws_heldIntS_j1 q)
noncomputable def laws_FnExactClosureOf (aParents : List (List Int)) (aV : Int) : Option Bool :=
  (laws_szIntSS aParents 1048576).bind fun x15 => (if (decide (x15 < 0)) then some true
  else (laws_toIntSS aParents).bind fun x19 => (spec_ClosureOf x19 aV).bind fun x21 => (laws_toIntSS aParents).bind fun x23 => (impl_ClosureOf x23 aV).bind fun x26 => (laws_eqIntS x26 x21).bind fun x29 => (if (!x29) then some false
  else (laws_toIntSS aParents).bind fun x33 => (laws_eqIntSS x23 x33).bind fun x34 => (if (!x34) then some false
  else (laws_markIntSS x23 1).bind fun x38 => (if (decide (x38.1 < 0)) then some true else (laws_eqIntS x26 x21).bind fun x44 => some (!x44)).bind fun b => (if b then some false
  else (laws_markIntS x26 1).bind fun x49 => (laws_heldIntS x49.2 1).bind fun x52 => (if (decide (x52 < 0)) then some false
  else (if (x52 != x49.1) then some false
  else (laws_toIntSS aParents).bind fun x59 => (impl_ClosureOf x59 aV).bind fun x61 => (laws_eqIntS x61 x21).bind fun x64 => (if (!x64) then some false
  else (laws_heldIntS x49.2 1).bind fun x68 => (if (decide (x68 < 0)) then some false
  else (if (x68 != x49.1) then some false
  else some true)))))))))
noncomputable def spec_Commons_j1 (out_ : List Int) : Option ((List Int)) :=
  some out_
noncomputable def spec_Commons_l1 (parents : List (List Int)) (x26 : (List Bool)) (x30 : (List Bool)) (v : Int) (out__1 : List Int) : Option ((Int × (List Int)) ⊕ ((List Int))) :=
  (if (decide (v < (parents.length : Int))) then (geti x26 v).bind fun x => (if x then (geti x30 v).bind fun x_1 => some x_1 else some false).bind fun b_2 => (if b_2 then (appn out__1 [v]).bind fun l => some (.inl ((wk .i64 (v + 1)), l))
  else some (.inl ((wk .i64 (v + 1)), out__1)))
  else some (.inr out__1))
noncomputable def spec_Commons (parents : List (List Int)) (a : Int) (b : Int) : Option (List Int) :=
  (spec_l05Has parents a).bind fun x14 => (if (!x14) then some true else (spec_l05Has parents b).bind fun x19 => some (!x19)).bind fun b_1 => (if b_1 then some []
  else (spec_l05Set parents [a]).bind fun x26 => (spec_l05Set parents [b]).bind fun x30 => (loopM (fun (s' : Int × (List Int)) => spec_Commons_l1 parents x26 x30 s'.1 s'.2) (0, [])).bind fun p => spec_Commons_j1 p)
noncomputable def impl_commons (parents : List (List Int)) (a : Int) (b : Int) : Option (Int × (List Int)) :=
  (impl_isPlace a (parents.length : Int)).bind fun x12 => (if (!x12) then some true else (impl_isPlace b (parents.length : Int)).bind fun x18 => some (!x18)).bind fun b_1 => (if b_1 then some true else (impl_GraphOk parents).bind fun x23 => some (!x23)).bind fun b_2 => (if b_2 then some (0, [])
  else (impl_closures parents).bind fun x27 => (geti x27 a).bind fun x => (geti x27 b).bind fun x_1 => some ((bits .and .u64 x x_1), x27))
noncomputable def impl_Commons (parents : List (List Int)) (a : Int) (b : Int) : Option (List Int) :=
  (impl_commons parents a b).bind fun x13 => (impl_set_list x13.1).bind fun x17 => some x17
noncomputable def laws_FnExactCommons (aParents : List (List Int)) (aA : Int) (aB : Int) : Option Bool :=
  (laws_szIntSS aParents 1048576).bind fun x17 => (if (decide (x17 < 0)) then some true
  else (laws_toIntSS aParents).bind fun x21 => (spec_Commons x21 aA aB).bind fun x24 => (laws_toIntSS aParents).bind fun x26 => (impl_Commons x26 aA aB).bind fun x30 => (laws_eqIntS x30 x24).bind fun x33 => (if (!x33) then some false
  else (laws_toIntSS aParents).bind fun x37 => (laws_eqIntSS x26 x37).bind fun x38 => (if (!x38) then some false
  else (laws_markIntSS x26 1).bind fun x42 => (if (decide (x42.1 < 0)) then some true else (laws_eqIntS x30 x24).bind fun x48 => some (!x48)).bind fun b => (if b then some false
  else (laws_markIntS x30 1).bind fun x53 => (laws_heldIntS x53.2 1).bind fun x56 => (if (decide (x56 < 0)) then some false
  else (if (x56 != x53.1) then some false
  else (laws_toIntSS aParents).bind fun x63 => (impl_Commons x63 aA aB).bind fun x66 => (laws_eqIntS x66 x24).bind fun x69 => (if (!x69) then some false
  else (laws_heldIntS x53.2 1).bind fun x73 => (if (decide (x73 < 0)) then some false
  else (if (x73 != x53.1) then some false
  else some true)))))))))
noncomputable def spec_ProperOf_j1 (parents : List (List Int)) (list_ : List Int) (ok : Bool) : Option ((List Int)) :=
  (if (!ok) then some []
  else (spec_l05Set parents list_).bind fun x31 => (spec_l05List x31).bind fun x32 => some x32)
noncomputable def spec_ProperOf_l1 (parents : List (List Int)) (list_ : List Int) (ok_1 : Bool) (i : Int) : Option ((Bool × Int) ⊕ (Bool)) :=
  (if (decide (i < (list_.length : Int))) then some ok_1 else some false).bind fun b => (if b then (geti list_ i).bind fun x => (spec_l01In x 0 (wk .i64 ((parents.length : Int) - 1))).bind fun x25 => some (.inl (x25, (wk .i64 (i + 1))))
  else some (.inr ok_1))
noncomputable def spec_ProperOf (parents : List (List Int)) (list_ : List Int) : Option (List Int) :=
  (spec_GraphOk parents).bind fun x8 => (loopM (fun (s' : Bool × Int) => spec_ProperOf_l1 parents list_ s'.1 s'.2) (x8, 0)).bind fun p => spec_ProperOf_j1 parents list_ p
noncomputable def impl_ProperOf_j1 (parents : List (List Int)) (list_ : List Int) : Option ((List Int)) :=
  (impl_closures parents).bind fun x23 => (impl_unionOf x23 list_).bind fun x25 => (impl_set_list x25).bind fun x26 => some x26
noncomputable def impl_ProperOf_l1 (parents : List (List Int)) (list_ : List Int) (x12 : Int) : Option ((Int) ⊕ (((List Int)) ⊕ (Unit))) :=
  (if (decide (x12 < (list_.length : Int))) then (geti list_ x12).bind fun x => (impl_isPlace x (parents.length : Int)).bind fun x19 => (if (!x19) then some (.inr (.inl []))
  else some (.inl (wk .i64 (x12 + 1))))
  else some (.inr (.inr ())))
noncomputable def impl_ProperOf (parents : List (List Int)) (list_ : List Int) : Option (List Int) :=
  (impl_GraphOk parents).bind fun x8 => (if (!x8) then some []
  else (loopM (fun (s' : Int) => impl_ProperOf_l1 parents list_ s') (0)).bind fun p => (match p with | .inl c' => some c' | .inr q => impl_ProperOf_j1 parents list_))
noncomputable def laws_FnExactProperOf (aParents : List (List Int)) (aList : List Int) : Option Bool :=
  (if (decide ((aList.length : Int) > 1048576)) then some true
  else (laws_szIntSS aParents 1048576).bind fun x19 => (if (decide (x19 < 0)) then some true
  else (laws_toIntSS aParents).bind fun x23 => (laws_toIntS aList).bind fun x25 => (spec_ProperOf x23 x25).bind fun x26 => (laws_toIntSS aParents).bind fun x28 => (laws_toIntS aList).bind fun x30 => (impl_ProperOf x28 x30).bind fun x33 => (laws_eqIntS x33 x26).bind fun x36 => (if (!x36) then some false
  else (laws_toIntSS aParents).bind fun x40 => (laws_eqIntSS x28 x40).bind fun x41 => (if (!x41) then some false
  else (laws_toIntS aList).bind fun x45 => (laws_eqIntS x30 x45).bind fun x46 => (if (!x46) then some false
  else (laws_markIntSS x28 1).bind fun x50 => (laws_markIntS x30 x50.1).bind fun x53 => (if (decide (x53.1 < 0)) then some true else (laws_eqIntS x33 x26).bind fun x59 => some (!x59)).bind fun b => (if b then some false
  else (laws_markIntS x33 1).bind fun x64 => (laws_heldIntS x64.2 1).bind fun x67 => (if (decide (x67 < 0)) then some false
  else (if (x67 != x64.1) then some false
  else (laws_toIntSS aParents).bind fun x74 => (laws_toIntS aList).bind fun x76 => (impl_ProperOf x74 x76).bind fun x77 => (laws_eqIntS x77 x26).bind fun x80 => (if (!x80) then some false
  else (laws_heldIntS x64.2 1).bind fun x84 => (if (decide (x84 < 0)) then some false
  else (if (x84 != x64.1) then some false
  else some true)))))))))))
noncomputable def spec_l05Parents_j1 (c_1 : List Int) (c_2 : Int) (c_3 : Int) (out_ : List Int) : Option ((List Int) × T_spec_l01Cur) :=
  some (out_, (T_spec_l01Cur.mk c_1 c_2 c_3))
noncomputable def spec_l05Parents_l1 (n : Int) (v : Int) (c_4 : List Int) (c_5 : Int) (c_6 : Int) (out__1 : List Int) : Option ((Int × (List Int) × Int × Int × (List Int)) ⊕ ((List Int) × Int × Int × (List Int))) :=
  (if (decide (v < n)) then (if (decide ((out__1.length : Int) < 4)) then (if (v == (wk .i64 (n - 1))) then (spec_l01Once (T_spec_l01Cur.mk c_4 c_5 c_6) 4).bind fun x23 => some ((!x23.1), x23.2.b, x23.2.i, x23.2.h) else some (false, c_4, c_5, c_6)).bind fun b_1 => (if b_1.1 then some (true, b_1.2.1, b_1.2.2.1, b_1.2.2.2) else (spec_l01Once (T_spec_l01Cur.mk b_1.2.1 b_1.2.2.1 b_1.2.2.2) (wk .i64 (n + 2))).bind fun x30 => some (x30.1, x30.2.b, x30.2.i, x30.2.h)).bind fun b_2 => some (b_2.1, b_2.2.1, b_2.2.2.1, b_2.2.2.2) else some (false, c_4, c_5, c_6)).bind fun b => (if b.1 then (appn out__1 [v]).bind fun l => some (.inl ((wk .i64 (v + 1)), b.2.1, b.2.2.1, b.2.2.2, l))
  else some (.inl ((wk .i64 (v + 1)), b.2.1, b.2.2.1, b.2.2.2, out__1)))
  else some (.inr (c_4, c_5, c_6, out__1)))
noncomputable def spec_l05Parents (c : T_spec_l01Cur) (n : Int) : Option ((List Int) × T_spec_l01Cur) :=
  (loopM (fun (s' : Int × (List Int) × Int × Int × (List Int)) => spec_l05Parents_l1 n s'.1 s'.2.1 s'.2.2.1 s'.2.2.2.1 s'.2.2.2.2) (0, c.b, c.i, c.h, [])).bind fun p => spec_l05Parents_j1 p.1 p.2.1 p.2.2.1 p.2.2.2
noncomputable def spec_DrawRightGraph_j1 (out_ : List (List Int)) : Option ((List (List Int))) :=
  some out_
noncomputable def spec_DrawRightGraph_l1 (v : Int) (c : List Int) (c_1 : Int) (c_2 : Int) (out__1 : List (List Int)) : Option ((Int × (List Int) × Int × Int × (List (List Int))) ⊕ ((List (List Int)))) :=
  (spec_l01Below (T_spec_l01Cur.mk c c_1 c_2) 12).bind fun x11 => (if (decide (v < (wk .i64 (1 + x11.1)))) then (spec_l05Parents (T_spec_l01Cur.mk x11.2.b x11.2.i x11.2.h) v).bind fun x19 => (appn out__1 [x19.1]).bind fun l => some (.inl ((wk .i64 (v + 1)), x19.2.b, x19.2.i, x19.2.h, l))
  else some (.inr out__1))
noncomputable def spec_DrawRightGraph (code : List Int) : Option (List (List Int)) :=
  (spec_l01New code).bind fun x7 => (loopM (fun (s' : Int × (List Int) × Int × Int × (List (List Int))) => spec_DrawRightGraph_l1 s'.1 s'.2.1 s'.2.2.1 s'.2.2.2.1 s'.2.2.2.2) (0, x7.b, x7.i, x7.h, [])).bind fun p => spec_DrawRightGraph_j1 p
noncomputable def impl_IsAncestor (parents : List (List Int)) (a : Int) (b : Int) : Option Bool :=
  (impl_isPlace a (parents.length : Int)).bind fun x10 => (if (!x10) then some true else (impl_isPlace b (parents.length : Int)).bind fun x16 => some (!x16)).bind fun b_1 => (if b_1 then some true else (impl_GraphOk parents).bind fun x21 => some (!x21)).bind fun b_2 => (if b_2 then some false
  else (impl_closures parents).bind fun x25 => (geti x25 b).bind fun x => (impl_set_has x a).bind fun x30 => some x30)
end Go.TV.F
