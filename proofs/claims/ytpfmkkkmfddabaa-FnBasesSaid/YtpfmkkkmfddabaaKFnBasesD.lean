/- Structures and their rows. -/
import Derived.Test.YtpfmkkkmfddabaaKFnBasesT4
set_option linter.unusedVariables false
set_option linter.unusedSimpArgs false
set_option maxHeartbeats 8000000
set_option maxRecDepth 100000
namespace Go.TV
structure T_spec_l01Cur where
  b : List Int
  i : Int
  h : Int
  deriving Inhabited
theorem R_u8 : (∀ (l : List Int) (i : Nat) (a0 : Int), (List.map (rK .u8) l).set i [.sc (.int .u8 a0)] = List.map (rK .u8) (l.set i a0)) ∧
  (∀ (l : List Int) (a0 : Int), List.map (rK .u8) l ++ [[.sc (.int .u8 a0)]] = List.map (rK .u8) (l ++ [a0])) ∧
  (∀ (l : List Int) (b0 b1 : Int), List.map (rK .u8) l ++ [[.sc (.int .u8 b0)], [.sc (.int .u8 b1)]] = List.map (rK .u8) (l ++ [b0, b1])) ∧
  (∀ (l : List Int) (b0 b1 b2 : Int), List.map (rK .u8) l ++ [[.sc (.int .u8 b0)], [.sc (.int .u8 b1)], [.sc (.int .u8 b2)]] = List.map (rK .u8) (l ++ [b0, b1, b2])) ∧
  (∀ (l : List Int) (b0 b1 b2 b3 : Int), List.map (rK .u8) l ++ [[.sc (.int .u8 b0)], [.sc (.int .u8 b1)], [.sc (.int .u8 b2)], [.sc (.int .u8 b3)]] = List.map (rK .u8) (l ++ [b0, b1, b2, b3])) ∧
  (∀ n : Nat, List.replicate n [.sc (.int .u8 0)] = List.map (rK .u8) (List.replicate n 0)) ∧
  (∀ l : List Int, borRows (List.map (rK .u8) l) = List.map (rK .u8) l) ∧
  (∀ l : List Int, aliveRows (List.map (rK .u8) l) = true) ∧
  (∀ l : List Int, noBorRows (List.map (rK .u8) l) = true) :=
  ⟨fun l i a0 => set_rows (rK .u8) l i a0,
  fun l a0 => app_rows (rK .u8) l [a0],
  fun l b0 b1 => app_rows (rK .u8) l [b0, b1],
  fun l b0 b1 b2 => app_rows (rK .u8) l [b0, b1, b2],
  fun l b0 b1 b2 b3 => app_rows (rK .u8) l [b0, b1, b2, b3],
  fun n => rep_rows (rK .u8) 0 n,
  bor_rows (fun _ => rfl),
  alRows (fun _ => rfl),
  nb_rows (fun _ => rfl)⟩
def r_T_spec_l01Cur (o : Bool) (x : T_spec_l01Cur) : List V := [.list o 1 (List.map (rK .u8) x.b), .sc (.int .i64 x.i), .sc (.int .i64 x.h)]
theorem R_i64 : (∀ (l : List Int) (i : Nat) (a0 : Int), (List.map (rK .i64) l).set i [.sc (.int .i64 a0)] = List.map (rK .i64) (l.set i a0)) ∧
  (∀ (l : List Int) (a0 : Int), List.map (rK .i64) l ++ [[.sc (.int .i64 a0)]] = List.map (rK .i64) (l ++ [a0])) ∧
  (∀ (l : List Int) (b0 b1 : Int), List.map (rK .i64) l ++ [[.sc (.int .i64 b0)], [.sc (.int .i64 b1)]] = List.map (rK .i64) (l ++ [b0, b1])) ∧
  (∀ (l : List Int) (b0 b1 b2 : Int), List.map (rK .i64) l ++ [[.sc (.int .i64 b0)], [.sc (.int .i64 b1)], [.sc (.int .i64 b2)]] = List.map (rK .i64) (l ++ [b0, b1, b2])) ∧
  (∀ (l : List Int) (b0 b1 b2 b3 : Int), List.map (rK .i64) l ++ [[.sc (.int .i64 b0)], [.sc (.int .i64 b1)], [.sc (.int .i64 b2)], [.sc (.int .i64 b3)]] = List.map (rK .i64) (l ++ [b0, b1, b2, b3])) ∧
  (∀ n : Nat, List.replicate n [.sc (.int .i64 0)] = List.map (rK .i64) (List.replicate n 0)) ∧
  (∀ l : List Int, borRows (List.map (rK .i64) l) = List.map (rK .i64) l) ∧
  (∀ l : List Int, aliveRows (List.map (rK .i64) l) = true) ∧
  (∀ l : List Int, noBorRows (List.map (rK .i64) l) = true) :=
  ⟨fun l i a0 => set_rows (rK .i64) l i a0,
  fun l a0 => app_rows (rK .i64) l [a0],
  fun l b0 b1 => app_rows (rK .i64) l [b0, b1],
  fun l b0 b1 b2 => app_rows (rK .i64) l [b0, b1, b2],
  fun l b0 b1 b2 b3 => app_rows (rK .i64) l [b0, b1, b2, b3],
  fun n => rep_rows (rK .i64) 0 n,
  bor_rows (fun _ => rfl),
  alRows (fun _ => rfl),
  nb_rows (fun _ => rfl)⟩
theorem R_Li64 : (∀ (l : List (List Int)) (i : Nat) (a0 : List Int), (List.map (rL true 1 (rK .i64)) l).set i [.list true 1 (List.map (rK .i64) a0)] = List.map (rL true 1 (rK .i64)) (l.set i a0)) ∧
  (∀ (l : List (List Int)) (a0 : List Int), List.map (rL true 1 (rK .i64)) l ++ [[.list true 1 (List.map (rK .i64) a0)]] = List.map (rL true 1 (rK .i64)) (l ++ [a0])) ∧
  (∀ n : Nat, List.replicate n [.list true 1 []] = List.map (rL true 1 (rK .i64)) (List.replicate n [])) ∧
  (∀ l : List (List Int), borRows (List.map (rL true 1 (rK .i64)) l) = List.map (rL false 1 (rK .i64)) l) ∧
  (∀ l : List (List Int), aliveRows (List.map (rL true 1 (rK .i64)) l) = true) ∧
  (∀ l : List (List Int), borRows (List.map (rL false 1 (rK .i64)) l) = List.map (rL false 1 (rK .i64)) l) ∧
  (∀ l : List (List Int), aliveRows (List.map (rL false 1 (rK .i64)) l) = true) ∧
  (∀ l : List (List Int), noBorRows (List.map (rL true 1 (rK .i64)) l) = true) :=
  ⟨fun l i a0 => set_rows (rL true 1 (rK .i64)) l i a0,
  fun l a0 => app_rows (rL true 1 (rK .i64)) l [a0],
  fun n => rep_rows (rL true 1 (rK .i64)) [] n,
  bor_rows (bor_rL (fun _ => rfl)),
  alRows (fun _ => rfl),
  bor_rows (bor_rL (fun _ => rfl)),
  alRows (fun _ => rfl),
  nb_rows (nb_rL (fun _ => rfl))⟩
theorem R_u64 : (∀ (l : List Int) (i : Nat) (a0 : Int), (List.map (rK .u64) l).set i [.sc (.int .u64 a0)] = List.map (rK .u64) (l.set i a0)) ∧
  (∀ (l : List Int) (a0 : Int), List.map (rK .u64) l ++ [[.sc (.int .u64 a0)]] = List.map (rK .u64) (l ++ [a0])) ∧
  (∀ (l : List Int) (b0 b1 : Int), List.map (rK .u64) l ++ [[.sc (.int .u64 b0)], [.sc (.int .u64 b1)]] = List.map (rK .u64) (l ++ [b0, b1])) ∧
  (∀ (l : List Int) (b0 b1 b2 : Int), List.map (rK .u64) l ++ [[.sc (.int .u64 b0)], [.sc (.int .u64 b1)], [.sc (.int .u64 b2)]] = List.map (rK .u64) (l ++ [b0, b1, b2])) ∧
  (∀ (l : List Int) (b0 b1 b2 b3 : Int), List.map (rK .u64) l ++ [[.sc (.int .u64 b0)], [.sc (.int .u64 b1)], [.sc (.int .u64 b2)], [.sc (.int .u64 b3)]] = List.map (rK .u64) (l ++ [b0, b1, b2, b3])) ∧
  (∀ n : Nat, List.replicate n [.sc (.int .u64 0)] = List.map (rK .u64) (List.replicate n 0)) ∧
  (∀ l : List Int, borRows (List.map (rK .u64) l) = List.map (rK .u64) l) ∧
  (∀ l : List Int, aliveRows (List.map (rK .u64) l) = true) ∧
  (∀ l : List Int, noBorRows (List.map (rK .u64) l) = true) :=
  ⟨fun l i a0 => set_rows (rK .u64) l i a0,
  fun l a0 => app_rows (rK .u64) l [a0],
  fun l b0 b1 => app_rows (rK .u64) l [b0, b1],
  fun l b0 b1 b2 => app_rows (rK .u64) l [b0, b1, b2],
  fun l b0 b1 b2 b3 => app_rows (rK .u64) l [b0, b1, b2, b3],
  fun n => rep_rows (rK .u64) 0 n,
  bor_rows (fun _ => rfl),
  alRows (fun _ => rfl),
  nb_rows (fun _ => rfl)⟩
theorem R_b : (∀ (l : List Bool) (i : Nat) (a0 : Bool), (List.map rB l).set i [.sc (.bool a0)] = List.map rB (l.set i a0)) ∧
  (∀ (l : List Bool) (a0 : Bool), List.map rB l ++ [[.sc (.bool a0)]] = List.map rB (l ++ [a0])) ∧
  (∀ (l : List Bool) (b0 b1 : Bool), List.map rB l ++ [[.sc (.bool b0)], [.sc (.bool b1)]] = List.map rB (l ++ [b0, b1])) ∧
  (∀ (l : List Bool) (b0 b1 b2 : Bool), List.map rB l ++ [[.sc (.bool b0)], [.sc (.bool b1)], [.sc (.bool b2)]] = List.map rB (l ++ [b0, b1, b2])) ∧
  (∀ (l : List Bool) (b0 b1 b2 b3 : Bool), List.map rB l ++ [[.sc (.bool b0)], [.sc (.bool b1)], [.sc (.bool b2)], [.sc (.bool b3)]] = List.map rB (l ++ [b0, b1, b2, b3])) ∧
  (∀ n : Nat, List.replicate n [.sc (.bool false)] = List.map rB (List.replicate n false)) ∧
  (∀ l : List Bool, borRows (List.map rB l) = List.map rB l) ∧
  (∀ l : List Bool, aliveRows (List.map rB l) = true) ∧
  (∀ l : List Bool, noBorRows (List.map rB l) = true) :=
  ⟨fun l i a0 => set_rows rB l i a0,
  fun l a0 => app_rows rB l [a0],
  fun l b0 b1 => app_rows rB l [b0, b1],
  fun l b0 b1 b2 => app_rows rB l [b0, b1, b2],
  fun l b0 b1 b2 b3 => app_rows rB l [b0, b1, b2, b3],
  fun n => rep_rows rB false n,
  bor_rows (fun _ => rfl),
  alRows (fun _ => rfl),
  nb_rows (fun _ => rfl)⟩
end Go.TV
namespace Go.TV.F
noncomputable def laws_big (code : List Int) : Option Bool :=
  some (decide ((code.length : Int) > 1048576))
noncomputable def spec_l01New_j1 (code : List Int) (h : Int) : Option (T_spec_l01Cur) :=
  some (T_spec_l01Cur.mk code 0 h)
noncomputable def spec_l01New_l1 (code : List Int) (h_1 : Int) (i : Int) : Option ((Int × Int) ⊕ (Int)) :=
  (if (decide (i < (code.length : Int))) then some (decide (i < 4000)) else some false).bind fun b => (if b then (geti code i).bind fun x => some (.inl ((bits .and .i64 (wk .i64 ((wk .i64 ((wk .i64 (h_1 * 131)) + (wk .i64 x))) + 7)) 1073741823), (wk .i64 (i + 1))))
  else some (.inr h_1))
noncomputable def spec_l01New (code : List Int) : Option T_spec_l01Cur :=
  (loopM (fun (s' : Int × Int) => spec_l01New_l1 code s'.1 s'.2) ((wk .i64 (73073 + (code.length : Int))), 0)).bind fun p => spec_l01New_j1 code p
noncomputable def spec_l01Byte (c : T_spec_l01Cur) : Option (Int × T_spec_l01Cur) :=
  (if (decide (c.i < (c.b.length : Int))) then (geti c.b c.i).bind fun x => some ((bits .and .i64 (wk .i64 ((bits .and .i64 (bits .xor .i64 (shrI .i64 (wk .i64 ((wk .i64 (c.h * 6364136223846793005)) + 1442695040888963407)) 33) (shrI .i64 (wk .i64 ((wk .i64 (c.h * 6364136223846793005)) + 1442695040888963407)) 45)) 255) + (wk .i64 x))) 255), (T_spec_l01Cur.mk c.b (wk .i64 (c.i + 1)) (wk .i64 ((wk .i64 (c.h * 6364136223846793005)) + 1442695040888963407))))
  else some ((bits .and .i64 (bits .xor .i64 (shrI .i64 (wk .i64 ((wk .i64 (c.h * 6364136223846793005)) + 1442695040888963407)) 33) (shrI .i64 (wk .i64 ((wk .i64 (c.h * 6364136223846793005)) + 1442695040888963407)) 45)) 255), (T_spec_l01Cur.mk c.b c.i (wk .i64 ((wk .i64 (c.h * 6364136223846793005)) + 1442695040888963407)))))
noncomputable def spec_l01Below (c : T_spec_l01Cur) (n : Int) : Option (Int × T_spec_l01Cur) :=
  (if (decide (n ≤ 0)) then some (0, (T_spec_l01Cur.mk c.b c.i c.h))
  else (if (decide (n ≤ 256)) then (spec_l01Byte (T_spec_l01Cur.mk c.b c.i c.h)).bind fun x14 => (chk (¬ n = 0)).bind fun u => some (((x14.1 : Int).tmod n), (T_spec_l01Cur.mk x14.2.b x14.2.i x14.2.h))
  else (spec_l01Byte (T_spec_l01Cur.mk c.b c.i c.h)).bind fun x18 => (spec_l01Byte (T_spec_l01Cur.mk x18.2.b x18.2.i x18.2.h)).bind fun x20 => (spec_l01Byte (T_spec_l01Cur.mk x20.2.b x20.2.i x20.2.h)).bind fun x22 => (spec_l01Byte (T_spec_l01Cur.mk x22.2.b x22.2.i x22.2.h)).bind fun x24 => (chk (¬ n = 0)).bind fun u_1 => some (((wk .i64 ((wk .i64 ((wk .i64 ((wk .i64 (x18.1 * 16777216)) + (wk .i64 (x20.1 * 65536)))) + (wk .i64 (x22.1 * 256)))) + x24.1)).tmod n), (T_spec_l01Cur.mk x24.2.b x24.2.i x24.2.h))))
noncomputable def spec_l01Once (c : T_spec_l01Cur) (n : Int) : Option (Bool × T_spec_l01Cur) :=
  (spec_l01Below (T_spec_l01Cur.mk c.b c.i c.h) n).bind fun x7 => some ((x7.1 == 0), (T_spec_l01Cur.mk x7.2.b x7.2.i x7.2.h))
noncomputable def spec_l05Parents_j1 (c_1 : List Int) (c_2 : Int) (c_3 : Int) (out_ : List Int) : Option ((List Int) × T_spec_l01Cur) :=
  some (out_, (T_spec_l01Cur.mk c_1 c_2 c_3))
noncomputable def spec_l05Parents_l1 (n : Int) (v : Int) (c_4 : List Int) (c_5 : Int) (c_6 : Int) (out__1 : List Int) : Option ((Int × (List Int) × Int × Int × (List Int)) ⊕ ((List Int) × Int × Int × (List Int))) :=
  (if (decide (v < n)) then (if (decide ((out__1.length : Int) < 4)) then (if (v == (wk .i64 (n - 1))) then (spec_l01Once (T_spec_l01Cur.mk c_4 c_5 c_6) 4).bind fun x23 => some ((!x23.1), x23.2.b, x23.2.i, x23.2.h) else some (false, c_4, c_5, c_6)).bind fun b_1 => (if b_1.1 then some (true, b_1.2.1, b_1.2.2.1, b_1.2.2.2) else (spec_l01Once (T_spec_l01Cur.mk b_1.2.1 b_1.2.2.1 b_1.2.2.2) (wk .i64 (n + 2))).bind fun x30 => some (x30.1, x30.2.b, x30.2.i, x30.2.h)).bind fun b_2 => some (b_2.1, b_2.2.1, b_2.2.2.1, b_2.2.2.2) else some (false, c_4, c_5, c_6)).bind fun b => (if b.1 then (appn out__1 [v]).bind fun l => some (.inl ((wk .i64 (v + 1)), b.2.1, b.2.2.1, b.2.2.2, l))
  else some (.inl ((wk .i64 (v + 1)), b.2.1, b.2.2.1, b.2.2.2, out__1)))
  else some (.inr (c_4, c_5, c_6, out__1)))
noncomputable def spec_l05Parents (c : T_spec_l01Cur) (n : Int) : Option ((List Int) × T_spec_l01Cur) :=
  (loopM (fun (s' : Int × (List Int) × Int × Int × (List Int)) => spec_l05Parents_l1 n s'.1 s'.2.1 s'.2.2.1 s'.2.2.2.1 s'.2.2.2.2) (0, c.b, c.i, c.h, [])).bind fun p => spec_l05Parents_j1 p.1 p.2.1 p.2.2.1 p.2.2.2
noncomputable def spec_DrawRightGraph_j1 (out_ : List (List Int)) : Option ((List (List Int))) :=
  some out_
noncomputable def spec_DrawRightGraph_l1 (v : Int) (c : List Int) (c_1 : Int) (c_2 : Int) (out__1 : List (List Int)) : Option ((Int × (List Int) × Int × Int × (List (List Int))) ⊕ ((List (List Int)))) :=
  (spec_l01Below (T_spec_l01Cur.mk c c_1 c_2) 12).bind fun x11 => (if (decide (v < (wk .i64 (1 + x11.1)))) then (spec_l05Parents (T_spec_l01Cur.mk x11.2.b x11.2.i x11.2.h) v).bind fun x19 => (appn out__1 [x19.1]).bind fun l => some (.inl ((wk .i64 (v + 1)), x19.2.b, x19.2.i, x19.2.h, l))
  else some (.inr out__1))
noncomputable def spec_DrawRightGraph (code : List Int) : Option (List (List Int)) :=
  (spec_l01New code).bind fun x7 => (loopM (fun (s' : Int × (List Int) × Int × Int × (List (List Int))) => spec_DrawRightGraph_l1 s'.1 s'.2.1 s'.2.2.1 s'.2.2.2.1 s'.2.2.2.2) (0, x7.b, x7.i, x7.h, [])).bind fun p => spec_DrawRightGraph_j1 p
noncomputable def spec_DrawPlaces_j1 (out_ : List Int) : Option ((List Int)) :=
  some out_
noncomputable def spec_DrawPlaces_l1 (i : Int) (c : List Int) (c_1 : Int) (c_2 : Int) (out__1 : List Int) : Option ((Int × (List Int) × Int × Int × (List Int)) ⊕ ((List Int))) :=
  (if (decide (i < 12)) then (spec_l01Below (T_spec_l01Cur.mk c c_1 c_2) 10000).bind fun x17 => (appn out__1 [x17.1]).bind fun l => some (.inl ((wk .i64 (i + 1)), x17.2.b, x17.2.i, x17.2.h, l))
  else some (.inr out__1))
noncomputable def spec_DrawPlaces (code : List Int) : Option (List Int) :=
  (spec_l01New code).bind fun x7 => (spec_l01Byte (T_spec_l01Cur.mk x7.b x7.i x7.h)).bind fun x9 => (loopM (fun (s' : Int × (List Int) × Int × Int × (List Int)) => spec_DrawPlaces_l1 s'.1 s'.2.1 s'.2.2.1 s'.2.2.2.1 s'.2.2.2.2) (0, x9.2.b, x9.2.i, x9.2.h, [])).bind fun p => spec_DrawPlaces_j1 p
noncomputable def impl_inRange (n : Int) (least : Int) (most : Int) : Option Bool :=
  (if (decide (n ≥ least)) then some (decide (n ≤ most)) else some false).bind fun b => some b
noncomputable def impl_isPlace (n : Int) (size : Int) : Option Bool :=
  (impl_inRange n 0 (wk .i64 (size - 1))).bind fun x8 => some x8
noncomputable def impl_ascends_j1 : Option (Bool) :=
  some true
noncomputable def impl_ascends_l1 (list_ : List Int) (below : Int) (x9 : Int) : Option ((Int) ⊕ ((Bool) ⊕ (Unit))) :=
  (if (decide (x9 < (list_.length : Int))) then (geti list_ x9).bind fun x => (impl_inRange x 0 (wk .i64 (below - 1))).bind fun x17 => (if (!x17) then some true else (if (decide (x9 > 0)) then (geti list_ (wk .i64 (x9 - 1))).bind fun x_1 => some (decide (x ≤ x_1)) else some false).bind fun b_1 => some b_1).bind fun b => (if b then some (.inr (.inl false))
  else some (.inl (wk .i64 (x9 + 1))))
  else some (.inr (.inr ())))
noncomputable def impl_ascends (list_ : List Int) (below : Int) : Option Bool :=
  (loopM (fun (s' : Int) => impl_ascends_l1 list_ below s') (0)).bind fun p => (match p with | .inl c' => some c' | .inr q => impl_ascends_j1)
noncomputable def impl_GraphOk_j1 (parents : List (List Int)) : Option (Bool) :=
  some (decide ((parents.length : Int) ≤ 40))
noncomputable def impl_GraphOk_l1 (parents : List (List Int)) (x7 : Int) : Option ((Int) ⊕ ((Bool) ⊕ (Unit))) :=
  (if (decide (x7 < (parents.length : Int))) then (geti parents x7).bind fun x => (if (decide ((x.length : Int) > 4)) then some true else (impl_ascends x x7).bind fun x18 => some (!x18)).bind fun b => (if b then some (.inr (.inl false))
  else some (.inl (wk .i64 (x7 + 1))))
  else some (.inr (.inr ())))
noncomputable def impl_GraphOk (parents : List (List Int)) : Option Bool :=
  (loopM (fun (s' : Int) => impl_GraphOk_l1 parents s') (0)).bind fun p => (match p with | .inl c' => some c' | .inr q => impl_GraphOk_j1 parents)
noncomputable def impl_unionOf_j1 (s : Int) : Option (Int) :=
  some s
noncomputable def impl_unionOf_l1 (closed : List Int) (list_ : List Int) (s_1 : Int) (x10 : Int) : Option ((Int × Int) ⊕ (Int)) :=
  (if (decide (x10 < (list_.length : Int))) then (geti list_ x10).bind fun x => (geti closed x).bind fun x_1 => some (.inl ((bits .or .u64 s_1 x_1), (wk .i64 (x10 + 1))))
  else some (.inr s_1))
noncomputable def impl_unionOf (closed : List Int) (list_ : List Int) : Option Int :=
  (loopM (fun (s' : Int × Int) => impl_unionOf_l1 closed list_ s'.1 s'.2) (0, 0)).bind fun p => impl_unionOf_j1 p
noncomputable def impl_closures_j1 (out_ : List Int) : Option ((List Int)) :=
  some out_
noncomputable def impl_closures_l1 (parents : List (List Int)) (x11 : Int) (out__1 : List Int) : Option ((Int × (List Int)) ⊕ ((List Int))) :=
  (if (decide (x11 < (parents.length : Int))) then (geti parents x11).bind fun x => (impl_unionOf out__1 x).bind fun x20 => (chk (¬ (wk .u64 x11) < 0)).bind fun u => (geti out__1 x11).bind fun x_1 => some (.inl ((wk .i64 (x11 + 1)), (out__1.set x11.toNat (bits .or .u64 x20 (shlI .u64 1 (wk .u64 x11))))))
  else some (.inr out__1))
noncomputable def impl_closures (parents : List (List Int)) : Option (List Int) :=
  ((mkl (parents.length : Int) (parents.length : Int) 0 : Option (List Int))).bind fun x8 => (loopM (fun (s' : Int × (List Int)) => impl_closures_l1 parents s'.1 s'.2) (0, x8)).bind fun p => impl_closures_j1 p
noncomputable def impl_commons (parents : List (List Int)) (a : Int) (b : Int) : Option (Int × (List Int)) :=
  (impl_isPlace a (parents.length : Int)).bind fun x12 => (if (!x12) then some true else (impl_isPlace b (parents.length : Int)).bind fun x18 => some (!x18)).bind fun b_1 => (if b_1 then some true else (impl_GraphOk parents).bind fun x23 => some (!x23)).bind fun b_2 => (if b_2 then some (0, [])
  else (impl_closures parents).bind fun x27 => (geti x27 a).bind fun x => (geti x27 b).bind fun x_1 => some ((bits .and .u64 x x_1), x27))
noncomputable def impl_set_has (s : Int) (v : Int) : Option Bool :=
  (impl_inRange v 0 63).bind fun x6 => (if x6 then (chk (¬ (wk .u64 v) < 0)).bind fun u => some ((bits .and .u64 (shrI .u64 s (wk .u64 v)) 1) == 1) else some false).bind fun b => some b
noncomputable def impl_set_list_j1 (out_ : List Int) : Option ((List Int)) :=
  some out_
noncomputable def impl_set_list_l1 (s : Int) (x5 : Int) (out__1 : List Int) : Option ((Int × (List Int)) ⊕ ((List Int))) :=
  (if (decide (x5 < 64)) then (impl_set_has s x5).bind fun x10 => (if x10 then (appn out__1 [x5]).bind fun l => some (.inl ((wk .i64 (x5 + 1)), l))
  else some (.inl ((wk .i64 (x5 + 1)), out__1)))
  else some (.inr out__1))
noncomputable def impl_set_list (s : Int) : Option (List Int) :=
  (loopM (fun (s' : Int × (List Int)) => impl_set_list_l1 s s'.1 s'.2) (0, [])).bind fun p => impl_set_list_j1 p
noncomputable def slices_Clone_int_int (s : List Int) : Option (List Int) :=
  appn ([] : List Int) s
noncomputable def impl_Bases_c1_c1 (other : Int) (c : Int) (c_1 : List Int) : Option Bool :=
  (if (other != c) then (geti c_1 other).bind fun x => (impl_set_has x c).bind fun x14 => some x14 else some false).bind fun b => some b
noncomputable def slices_IndexFunc_int_int_j1 : Option (Int) :=
  some (-1)
noncomputable def slices_IndexFunc_int_int_l1 (s : List Int) (f : Int → Option Bool) (x8 : Int) : Option ((Int) ⊕ ((Int) ⊕ (Unit))) :=
  (if (decide (x8 < (s.length : Int))) then (geti s x8).bind fun x => (f x).bind fun x16 => (if x16 then some (.inr (.inl x8))
  else some (.inl (wk .i64 (x8 + 1))))
  else some (.inr (.inr ())))
noncomputable def slices_IndexFunc_int_int (s : List Int) (f : Int → Option Bool) : Option Int :=
  (loopM (fun (s' : Int) => slices_IndexFunc_int_int_l1 s f s') (0)).bind fun p => (match p with | .inl c' => some c' | .inr q => slices_IndexFunc_int_int_j1)
noncomputable def slices_ContainsFunc_int_int (s : List Int) (f : Int → Option Bool) : Option Bool :=
  (slices_IndexFunc_int_int s f).bind fun x7 => some (decide (x7 ≥ 0))
noncomputable def impl_Bases_c1 (v : Int) (c : List Int) (c_1 : List Int) : Option Bool :=
  (slices_ContainsFunc_int_int c (fun z0' => impl_Bases_c1_c1 z0' v c_1)).bind fun x7 => some x7
noncomputable def slices_DeleteFunc_int_int_j1 (i : Int) (s_1 : List Int) : Option ((List Int)) :=
  (cutL s_1 i).bind fun x38 => (cutH (clrN 0 s_1 (i).toNat s_1.length) i).bind fun x41 => some x41
noncomputable def slices_DeleteFunc_int_int_l1 (del : Int → Option Bool) (i_1 : Int) (j : Int) (s_2 : List Int) : Option ((Int × Int × (List Int)) ⊕ (Int × (List Int))) :=
  (if (decide (j < (s_2.length : Int))) then (geti s_2 j).bind fun x => (del x).bind fun x28 => (if (!x28) then (geti s_2 i_1).bind fun x_1 => some (.inl ((wk .i64 (i_1 + 1)), (wk .i64 (j + 1)), (s_2.set i_1.toNat x)))
  else some (.inl (i_1, (wk .i64 (j + 1)), s_2)))
  else some (.inr (i_1, s_2)))
noncomputable def slices_DeleteFunc_int_int (s : List Int) (del : Int → Option Bool) : Option (List Int) :=
  (slices_IndexFunc_int_int s del).bind fun x10 => (if (x10 == (-1)) then some s
  else (loopM (fun (s' : Int × Int × (List Int)) => slices_DeleteFunc_int_int_l1 del s'.1 s'.2.1 s'.2.2) (x10, (wk .i64 (x10 + 1)), s)).bind fun p => slices_DeleteFunc_int_int_j1 p.1 p.2)
noncomputable def impl_Bases (parents : List (List Int)) (a : Int) (b : Int) : Option (List Int) :=
  (impl_commons parents a b).bind fun x14 => (impl_set_list x14.1).bind fun x18 => (slices_Clone_int_int x18).bind fun x20 => (slices_DeleteFunc_int_int x20 (fun z0' => impl_Bases_c1 z0' x18 x14.2)).bind fun x22 => some x22
noncomputable def impl_Commons (parents : List (List Int)) (a : Int) (b : Int) : Option (List Int) :=
  (impl_commons parents a b).bind fun x13 => (impl_set_list x13.1).bind fun x17 => some x17
noncomputable def spec_l01In (x : Int) (least : Int) (most : Int) : Option Bool :=
  (if (decide (x ≥ least)) then some (decide (x ≤ most)) else some false).bind fun b => some b
noncomputable def spec_l05Rise_j1 : Option (Bool) :=
  some true
noncomputable def spec_l05Rise_l1 (list_ : List Int) (n : Int) (i : Int) : Option ((Int) ⊕ ((Bool) ⊕ (Unit))) :=
  (if (decide (i < (list_.length : Int))) then (geti list_ i).bind fun x => (spec_l01In x 0 (wk .i64 (n - 1))).bind fun x18 => (if (!x18) then some true else (if (decide (i > 0)) then (geti list_ (wk .i64 (i - 1))).bind fun x_1 => some (decide (x_1 ≥ x)) else some false).bind fun b_1 => some b_1).bind fun b => (if b then some (.inr (.inl false))
  else some (.inl (wk .i64 (i + 1))))
  else some (.inr (.inr ())))
noncomputable def spec_l05Rise (list_ : List Int) (n : Int) : Option Bool :=
  (loopM (fun (s' : Int) => spec_l05Rise_l1 list_ n s') (0)).bind fun p => (match p with | .inl c' => some c' | .inr q => spec_l05Rise_j1)
noncomputable def spec_GraphOk_j1 : Option (Bool) :=
  some true
noncomputable def spec_GraphOk_l1 (parents : List (List Int)) (v : Int) : Option ((Int) ⊕ ((Bool) ⊕ (Unit))) :=
  (if (decide (v < (parents.length : Int))) then (geti parents v).bind fun x => (if (decide ((x.length : Int) > 4)) then some true else (spec_l05Rise x v).bind fun x25 => some (!x25)).bind fun b => (if b then some (.inr (.inl false))
  else some (.inl (wk .i64 (v + 1))))
  else some (.inr (.inr ())))
noncomputable def spec_GraphOk (parents : List (List Int)) : Option Bool :=
  (if (decide ((parents.length : Int) > 40)) then some false
  else (loopM (fun (s' : Int) => spec_GraphOk_l1 parents s') (0)).bind fun p => (match p with | .inl c' => some c' | .inr q => spec_GraphOk_j1))
noncomputable def spec_l05Has (parents : List (List Int)) (v : Int) : Option Bool :=
  (spec_GraphOk parents).bind fun x6 => (if x6 then (spec_l01In v 0 (wk .i64 ((parents.length : Int) - 1))).bind fun x12 => some x12 else some false).bind fun b => some b
noncomputable def spec_l05Set_j2 (in__1 : List Bool) : Option ((List Bool)) :=
  some in__1
noncomputable def spec_l05Set_j3 (v : Int) (in__3 : List Bool) : Option ((Int × (List Bool)) ⊕ ((List Bool))) :=
  some (.inl ((wk .i64 (v - 1)), in__3))
noncomputable def spec_l05Set_l2 (parents : List (List Int)) (v : Int) (k : Int) (in__4 : List Bool) : Option ((Int × (List Bool)) ⊕ ((List Bool))) :=
  (geti parents v).bind fun x => (if (decide (k < (x.length : Int))) then (geti in__4 v).bind fun x_1 => some x_1 else some false).bind fun b => (if b then (geti parents v).bind fun x_2 => (geti x_2 k).bind fun x_3 => (geti in__4 x_3).bind fun x_4 => some (.inl ((wk .i64 (k + 1)), (in__4.set x_3.toNat true)))
  else some (.inr in__4))
noncomputable def spec_l05Set_l1 (parents : List (List Int)) (v : Int) (in__2 : List Bool) : Option ((Int × (List Bool)) ⊕ ((List Bool))) :=
  (if (decide (v ≥ 0)) then (loopM (fun (s' : Int × (List Bool)) => spec_l05Set_l2 parents v s'.1 s'.2) (0, in__2)).bind fun p_1 => spec_l05Set_j3 v p_1
  else some (.inr in__2))
noncomputable def spec_l05Set_j1 (parents : List (List Int)) (in_ : List Bool) : Option ((List Bool)) :=
  (loopM (fun (s' : Int × (List Bool)) => spec_l05Set_l1 parents s'.1 s'.2) ((wk .i64 ((parents.length : Int) - 1)), in_)).bind fun p => spec_l05Set_j2 p
noncomputable def spec_l05Set_l3 (parents : List (List Int)) (list_ : List Int) (i : Int) (in__5 : List Bool) : Option ((Int × (List Bool)) ⊕ ((List Bool))) :=
  (if (decide (i < (list_.length : Int))) then (geti list_ i).bind fun x_5 => (spec_l01In x_5 0 (wk .i64 ((parents.length : Int) - 1))).bind fun x25 => (if x25 then (geti in__5 x_5).bind fun x_6 => some (.inl ((wk .i64 (i + 1)), (in__5.set x_5.toNat true)))
  else some (.inl ((wk .i64 (i + 1)), in__5)))
  else some (.inr in__5))
noncomputable def spec_l05Set (parents : List (List Int)) (list_ : List Int) : Option (List Bool) :=
  ((mkl (parents.length : Int) (parents.length : Int) false : Option (List Bool))).bind fun x11 => (loopM (fun (s' : Int × (List Bool)) => spec_l05Set_l3 parents list_ s'.1 s'.2) (0, x11)).bind fun p_2 => spec_l05Set_j1 parents p_2
noncomputable def spec_IsAncestor (parents : List (List Int)) (a : Int) (b : Int) : Option Bool :=
  (spec_l05Has parents a).bind fun x9 => (if x9 then (spec_l05Has parents b).bind fun x13 => some x13 else some false).bind fun b_1 => (if b_1 then (spec_l05Set parents [b]).bind fun x19 => (geti x19 a).bind fun x => some x else some false).bind fun b_2 => some b_2
noncomputable def laws_within_j1 : Option (Bool) :=
  some false
noncomputable def laws_within_l1 (list_ : List Int) (x : Int) (i : Int) : Option ((Int) ⊕ ((Bool) ⊕ (Unit))) :=
  (if (decide (i < (list_.length : Int))) then (geti list_ i).bind fun x_1 => (if (x_1 == x) then some (.inr (.inl true))
  else some (.inl (wk .i64 (i + 1))))
  else some (.inr (.inr ())))
noncomputable def laws_within (list_ : List Int) (x : Int) : Option Bool :=
  (loopM (fun (s' : Int) => laws_within_l1 list_ x s') (0)).bind fun p => (match p with | .inl c' => some c' | .inr q => laws_within_j1)
noncomputable def laws_sameInts_j1 : Option (Bool) :=
  some true
noncomputable def laws_sameInts_l1 (a : List Int) (b : List Int) (i : Int) : Option ((Int) ⊕ ((Bool) ⊕ (Unit))) :=
  (if (decide (i < (a.length : Int))) then (geti a i).bind fun x => (geti b i).bind fun x_1 => (if (x != x_1) then some (.inr (.inl false))
  else some (.inl (wk .i64 (i + 1))))
  else some (.inr (.inr ())))
noncomputable def laws_sameInts (a : List Int) (b : List Int) : Option Bool :=
  (if ((a.length : Int) != (b.length : Int)) then some false
  else (loopM (fun (s' : Int) => laws_sameInts_l1 a b s') (0)).bind fun p => (match p with | .inl c' => some c' | .inr q => laws_sameInts_j1))
noncomputable def laws_FnBases_j2 (x18 : (List (List Int))) (x : Int) (x_1 : Int) (x36 : (List Int)) : Option (Bool) :=
  (impl_Bases x18 (x_1.tmod (x18.length : Int)) (x.tmod (x18.length : Int))).bind fun x132 => (laws_sameInts x36 x132).bind fun x133 => (if x133 then (spec_IsAncestor x18 (x.tmod (x18.length : Int)) (x_1.tmod (x18.length : Int))).bind fun x138 => (if (!x138) then some true else (laws_sameInts x36 [(x.tmod (x18.length : Int))]).bind fun x144 => some x144).bind fun b_1 => some b_1 else some false).bind fun b => some b
noncomputable def laws_FnBases_j3 (x_2 : Int) : Option ((Int) ⊕ ((Bool) ⊕ (Unit))) :=
  some (.inl (wk .i64 (x_2 + 1)))
noncomputable def laws_FnBases_j4 (x40 : (List Int)) (x_2 : Int) (b_2 : Bool) (under : Bool) : Option ((Int) ⊕ ((Bool) ⊕ (Unit))) :=
  (if (b_2 != under) then some true else (laws_within x40 x_2).bind fun x125 => some (b_2 != x125)).bind fun b_3 => (if b_3 then some (.inr (.inl false))
  else laws_FnBases_j3 x_2)
noncomputable def laws_FnBases_l2 (x18 : (List (List Int))) (x36 : (List Int)) (x_2 : Int) (under_1 : Bool) (k : Int) : Option ((Bool × Int) ⊕ (Bool)) :=
  (if (decide (k < (x36.length : Int))) then (if under_1 then some true else (geti x36 k).bind fun x_3 => (spec_IsAncestor x18 x_2 x_3).bind fun x116 => some x116).bind fun b_4 => some (.inl (b_4, (wk .i64 (k + 1))))
  else some (.inr under_1))
noncomputable def laws_FnBases_l1 (x18 : (List (List Int))) (x : Int) (x_1 : Int) (x36 : (List Int)) (x40 : (List Int)) (x_2 : Int) : Option ((Int) ⊕ ((Bool) ⊕ (Unit))) :=
  (if (decide (x_2 < (x18.length : Int))) then (spec_IsAncestor x18 x_2 (x.tmod (x18.length : Int))).bind fun x95 => (if x95 then (spec_IsAncestor x18 x_2 (x_1.tmod (x18.length : Int))).bind fun x100 => some x100 else some false).bind fun b_2 => (loopM (fun (s' : Bool × Int) => laws_FnBases_l2 x18 x36 x_2 s'.1 s'.2) (false, 0)).bind fun p_1 => laws_FnBases_j4 x40 x_2 b_2 p_1
  else some (.inr (.inr ())))
noncomputable def laws_FnBases_j1 (x18 : (List (List Int))) (x : Int) (x_1 : Int) (x36 : (List Int)) (x40 : (List Int)) : Option (Bool) :=
  (loopM (fun (s' : Int) => laws_FnBases_l1 x18 x x_1 x36 x40 s') (0)).bind fun p => (match p with | .inl c' => some c' | .inr q => laws_FnBases_j2 x18 x x_1 x36)
noncomputable def laws_FnBases_j5 (i : Int) : Option ((Int) ⊕ ((Bool) ⊕ (Unit))) :=
  some (.inl (wk .i64 (i + 1)))
noncomputable def laws_FnBases_l4 (x18 : (List (List Int))) (x36 : (List Int)) (i : Int) (k_1 : Int) : Option ((Int) ⊕ (((Int) ⊕ ((Bool) ⊕ (Unit))) ⊕ (Unit))) :=
  (if (decide (k_1 < (x36.length : Int))) then (if (i != k_1) then (geti x36 i).bind fun x_5 => (geti x36 k_1).bind fun x_6 => (spec_IsAncestor x18 x_5 x_6).bind fun x84 => some x84 else some false).bind fun b_6 => (if b_6 then some (.inr (.inl (.inr (.inl false))))
  else some (.inl (wk .i64 (k_1 + 1))))
  else some (.inr (.inr ())))
noncomputable def laws_FnBases_l3 (x18 : (List (List Int))) (x : Int) (x_1 : Int) (x36 : (List Int)) (i : Int) : Option ((Int) ⊕ ((Bool) ⊕ (Unit))) :=
  (if (decide (i < (x36.length : Int))) then (geti x36 i).bind fun x_4 => (spec_IsAncestor x18 x_4 (x.tmod (x18.length : Int))).bind fun x53 => (if (!x53) then some true else (spec_IsAncestor x18 x_4 (x_1.tmod (x18.length : Int))).bind fun x62 => some (!x62)).bind fun b_5 => (if b_5 then some (.inr (.inl false))
  else (loopM (fun (s' : Int) => laws_FnBases_l4 x18 x36 i s') (0)).bind fun p_3 => (match p_3 with | .inl c' => some c' | .inr q_1 => laws_FnBases_j5 i))
  else some (.inr (.inr ())))
noncomputable def laws_FnBases (code : List Int) : Option Bool :=
  (laws_big code).bind fun x16 => (if x16 then some true
  else (spec_DrawRightGraph code).bind fun x18 => (spec_DrawPlaces code).bind fun x20 => (geti x20 0).bind fun x => (chk (¬ (x18.length : Int) = 0)).bind fun u => (geti x20 1).bind fun x_1 => (chk (¬ (x18.length : Int) = 0)).bind fun u_1 => (impl_Bases x18 (x.tmod (x18.length : Int)) (x_1.tmod (x18.length : Int))).bind fun x36 => (impl_Commons x18 (x.tmod (x18.length : Int)) (x_1.tmod (x18.length : Int))).bind fun x40 => (loopM (fun (s' : Int) => laws_FnBases_l3 x18 x x_1 x36 s') (0)).bind fun p_2 => (match p_2 with | .inl c' => some c' | .inr q_2 => laws_FnBases_j1 x18 x x_1 x36 x40))
noncomputable def impl_ClosureOf (parents : List (List Int)) (v : Int) : Option (List Int) :=
  (impl_isPlace v (parents.length : Int)).bind fun x8 => (if (!x8) then some true else (impl_GraphOk parents).bind fun x12 => some (!x12)).bind fun b => (if b then some []
  else (impl_closures parents).bind fun x16 => (geti x16 v).bind fun x => (impl_set_list x).bind fun x20 => some x20)
noncomputable def impl_IsAncestor (parents : List (List Int)) (a : Int) (b : Int) : Option Bool :=
  (impl_isPlace a (parents.length : Int)).bind fun x10 => (if (!x10) then some true else (impl_isPlace b (parents.length : Int)).bind fun x16 => some (!x16)).bind fun b_1 => (if b_1 then some true else (impl_GraphOk parents).bind fun x21 => some (!x21)).bind fun b_2 => (if b_2 then some false
  else (impl_closures parents).bind fun x25 => (geti x25 b).bind fun x => (impl_set_has x a).bind fun x30 => some x30)
noncomputable def impl_ProperOf_j1 (parents : List (List Int)) (list_ : List Int) : Option ((List Int)) :=
  (impl_closures parents).bind fun x23 => (impl_unionOf x23 list_).bind fun x25 => (impl_set_list x25).bind fun x26 => some x26
noncomputable def impl_ProperOf_l1 (parents : List (List Int)) (list_ : List Int) (x12 : Int) : Option ((Int) ⊕ (((List Int)) ⊕ (Unit))) :=
  (if (decide (x12 < (list_.length : Int))) then (geti list_ x12).bind fun x => (impl_isPlace x (parents.length : Int)).bind fun x19 => (if (!x19) then some (.inr (.inl []))
  else some (.inl (wk .i64 (x12 + 1))))
  else some (.inr (.inr ())))
noncomputable def impl_ProperOf (parents : List (List Int)) (list_ : List Int) : Option (List Int) :=
  (impl_GraphOk parents).bind fun x8 => (if (!x8) then some []
  else (loopM (fun (s' : Int) => impl_ProperOf_l1 parents list_ s') (0)).bind fun p => (match p with | .inl c' => some c' | .inr q => impl_ProperOf_j1 parents list_))
noncomputable def laws_FnClosures_j1 (x15 : (List (List Int))) : Option (Bool) :=
  (impl_GraphOk x15).bind fun x110 => some x110
noncomputable def laws_FnClosures_j2 (v : Int) : Option ((Int) ⊕ ((Bool) ⊕ (Unit))) :=
  some (.inl (wk .i64 (v + 1)))
noncomputable def laws_FnClosures_j4 (u : Int) : Option ((Int) ⊕ (((Int) ⊕ ((Bool) ⊕ (Unit))) ⊕ (Unit))) :=
  some (.inl (wk .i64 (u + 1)))
noncomputable def laws_FnClosures_l3 (x15 : (List (List Int))) (x24 : (List Int)) (x87 : (List Int)) (x90 : (List Int)) (x_1 : Int) : Option ((Int) ⊕ (((Int) ⊕ (((Int) ⊕ ((Bool) ⊕ (Unit))) ⊕ (Unit))) ⊕ (Unit))) :=
  (if (decide (x_1 < (x15.length : Int))) then (laws_within x87 x_1).bind fun x99 => (laws_within x24 x_1).bind fun x102 => (if x102 then some true else (laws_within x90 x_1).bind fun x106 => some x106).bind fun b_1 => (if (x99 != b_1) then some (.inr (.inl (.inr (.inl (.inr (.inl false))))))
  else some (.inl (wk .i64 (x_1 + 1))))
  else some (.inr (.inr ())))
noncomputable def laws_FnClosures_l2 (x15 : (List (List Int))) (v : Int) (x24 : (List Int)) (u : Int) : Option ((Int) ⊕ (((Int) ⊕ ((Bool) ⊕ (Unit))) ⊕ (Unit))) :=
  (if (decide (u < (x15.length : Int))) then (impl_IsAncestor x15 u v).bind fun x78 => (laws_within x24 u).bind fun x81 => (if (x78 != x81) then some (.inr (.inl (.inr (.inl false))))
  else (impl_ProperOf x15 [u, v]).bind fun x87 => (impl_ClosureOf x15 u).bind fun x90 => (loopM (fun (s' : Int) => laws_FnClosures_l3 x15 x24 x87 x90 s') (0)).bind fun p_2 => (match p_2 with | .inl c' => some c' | .inr q => laws_FnClosures_j4 u))
  else some (.inr (.inr ())))
noncomputable def laws_FnClosures_j3 (x15 : (List (List Int))) (v : Int) (x24 : (List Int)) : Option ((Int) ⊕ ((Bool) ⊕ (Unit))) :=
  (loopM (fun (s' : Int) => laws_FnClosures_l2 x15 v x24 s') (0)).bind fun p_1 => (match p_1 with | .inl c' => some c' | .inr q_1 => laws_FnClosures_j2 v)
noncomputable def laws_FnClosures_j5 (i : Int) : Option ((Int) ⊕ (((Int) ⊕ ((Bool) ⊕ (Unit))) ⊕ (Unit))) :=
  some (.inl (wk .i64 (i + 1)))
noncomputable def laws_FnClosures_l5 (x15 : (List (List Int))) (x24 : (List Int)) (i : Int) (k : Int) : Option ((Int) ⊕ (((Int) ⊕ (((Int) ⊕ ((Bool) ⊕ (Unit))) ⊕ (Unit))) ⊕ (Unit))) :=
  (geti x24 i).bind fun x_2 => (geti x15 x_2).bind fun x_3 => (if (decide (k < (x_3.length : Int))) then (geti x_3 k).bind fun x_4 => (laws_within x24 x_4).bind fun x67 => (if (!x67) then some (.inr (.inl (.inr (.inl (.inr (.inl false))))))
  else some (.inl (wk .i64 (k + 1))))
  else some (.inr (.inr ())))
noncomputable def laws_FnClosures_l4 (x15 : (List (List Int))) (x24 : (List Int)) (i : Int) : Option ((Int) ⊕ (((Int) ⊕ ((Bool) ⊕ (Unit))) ⊕ (Unit))) :=
  (if (decide (i < (x24.length : Int))) then (loopM (fun (s' : Int) => laws_FnClosures_l5 x15 x24 i s') (0)).bind fun p_4 => (match p_4 with | .inl c' => some c' | .inr q_2 => laws_FnClosures_j5 i)
  else some (.inr (.inr ())))
noncomputable def laws_FnClosures_l1 (x15 : (List (List Int))) (v : Int) : Option ((Int) ⊕ ((Bool) ⊕ (Unit))) :=
  (if (decide (v < (x15.length : Int))) then (impl_ClosureOf x15 v).bind fun x24 => (if ((x24.length : Int) == 0) then some true else (geti x24 (wk .i64 ((x24.length : Int) - 1))).bind fun x => some (x != v)).bind fun b => (if b then some (.inr (.inl false))
  else (loopM (fun (s' : Int) => laws_FnClosures_l4 x15 x24 s') (0)).bind fun p_3 => (match p_3 with | .inl c' => some c' | .inr q_3 => laws_FnClosures_j3 x15 v x24))
  else some (.inr (.inr ())))
noncomputable def laws_FnClosures (code : List Int) : Option Bool :=
  (laws_big code).bind fun x13 => (if x13 then some true
  else (spec_DrawRightGraph code).bind fun x15 => (loopM (fun (s' : Int) => laws_FnClosures_l1 x15 s') (0)).bind fun p => (match p with | .inl c' => some c' | .inr q_4 => laws_FnClosures_j1 x15))
noncomputable def laws_szIntS (a : List Int) (left : Int) : Option Int :=
  (if (decide ((wk .i64 (left - (a.length : Int))) < 0)) then some (-1)
  else some (wk .i64 (left - (a.length : Int))))
noncomputable def laws_szIntSS_j1 (left_1 : Int) : Option (Int) :=
  some left_1
noncomputable def laws_szIntSS_l1 (a : List (List Int)) (left_2 : Int) (i : Int) : Option ((Int × Int) ⊕ ((Int) ⊕ (Int))) :=
  (if (decide (i < (a.length : Int))) then (geti a i).bind fun x => (laws_szIntS x left_2).bind fun x23 => (if (decide (x23 < 0)) then some (.inr (.inl (-1)))
  else some (.inl (x23, (wk .i64 (i + 1)))))
  else some (.inr (.inr left_2)))
noncomputable def laws_szIntSS (a : List (List Int)) (left : Int) : Option Int :=
  (if (decide ((wk .i64 (left - (a.length : Int))) < 0)) then some (-1)
  else (loopM (fun (s' : Int × Int) => laws_szIntSS_l1 a s'.1 s'.2) ((wk .i64 (left - (a.length : Int))), 0)).bind fun p => (match p with | .inl c' => some c' | .inr q => laws_szIntSS_j1 q))
noncomputable def laws_toIntS_j1 (out_ : List Int) : Option ((List Int)) :=
  some out_
noncomputable def laws_toIntS_l1 (a : List Int) (i : Int) (out__1 : List Int) : Option ((Int × (List Int)) ⊕ ((List Int))) :=
  (if (decide (i < (a.length : Int))) then (geti a i).bind fun x => (geti out__1 i).bind fun x_1 => some (.inl ((wk .i64 (i + 1)), (out__1.set i.toNat x)))
  else some (.inr out__1))
noncomputable def laws_toIntS (a : List Int) : Option (List Int) :=
  ((mkl (a.length : Int) (a.length : Int) 0 : Option (List Int))).bind fun x7 => (loopM (fun (s' : Int × (List Int)) => laws_toIntS_l1 a s'.1 s'.2) (0, x7)).bind fun p => laws_toIntS_j1 p
noncomputable def laws_toIntSS_j1 (out_ : List (List Int)) : Option ((List (List Int))) :=
  some out_
noncomputable def laws_toIntSS_l1 (a : List (List Int)) (i : Int) (out__1 : List (List Int)) : Option ((Int × (List (List Int))) ⊕ ((List (List Int)))) :=
  (if (decide (i < (a.length : Int))) then (geti a i).bind fun x => (laws_toIntS x).bind fun x20 => (geti out__1 i).bind fun x_1 => some (.inl ((wk .i64 (i + 1)), (out__1.set i.toNat x20)))
  else some (.inr out__1))
noncomputable def laws_toIntSS (a : List (List Int)) : Option (List (List Int)) :=
  ((mkl (a.length : Int) (a.length : Int) [] : Option (List (List Int)))).bind fun x7 => (loopM (fun (s' : Int × (List (List Int))) => laws_toIntSS_l1 a s'.1 s'.2) (0, x7)).bind fun p => laws_toIntSS_j1 p
noncomputable def spec_l05List_j1 (out_ : List Int) : Option ((List Int)) :=
  some out_
noncomputable def spec_l05List_l1 (in_ : List Bool) (v : Int) (out__1 : List Int) : Option ((Int × (List Int)) ⊕ ((List Int))) :=
  (if (decide (v < (in_.length : Int))) then (geti in_ v).bind fun x => (if x then (appn out__1 [v]).bind fun l => some (.inl ((wk .i64 (v + 1)), l))
  else some (.inl ((wk .i64 (v + 1)), out__1)))
  else some (.inr out__1))
noncomputable def spec_l05List (in_ : List Bool) : Option (List Int) :=
  (loopM (fun (s' : Int × (List Int)) => spec_l05List_l1 in_ s'.1 s'.2) (0, [])).bind fun p => spec_l05List_j1 p
noncomputable def spec_ClosureOf (parents : List (List Int)) (v : Int) : Option (List Int) :=
  (spec_l05Has parents v).bind fun x7 => (if (!x7) then some []
  else (spec_l05Set parents [v]).bind fun x13 => (spec_l05List x13).bind fun x14 => some x14)
noncomputable def laws_eqIntS_j1 : Option (Bool) :=
  some true
noncomputable def laws_eqIntS_l1 (a : List Int) (b : List Int) (i : Int) : Option ((Int) ⊕ ((Bool) ⊕ (Unit))) :=
  (if (decide (i < (a.length : Int))) then (geti a i).bind fun x => (geti b i).bind fun x_1 => (if (x != x_1) then some (.inr (.inl false))
  else some (.inl (wk .i64 (i + 1))))
  else some (.inr (.inr ())))
noncomputable def laws_eqIntS (a : List Int) (b : List Int) : Option Bool :=
  (if ((a.length : Int) != (b.length : Int)) then some false
  else (loopM (fun (s' : Int) => laws_eqIntS_l1 a b s') (0)).bind fun p => (match p with | .inl c' => some c' | .inr q => laws_eqIntS_j1))
noncomputable def laws_eqIntSS_j1 : Option (Bool) :=
  some true
noncomputable def laws_eqIntSS_l1 (a : List (List Int)) (b : List (List Int)) (i : Int) : Option ((Int) ⊕ ((Bool) ⊕ (Unit))) :=
  (if (decide (i < (a.length : Int))) then (geti a i).bind fun x => (geti b i).bind fun x_1 => (laws_eqIntS x x_1).bind fun x25 => (if (!x25) then some (.inr (.inl false))
  else some (.inl (wk .i64 (i + 1))))
  else some (.inr (.inr ())))
noncomputable def laws_eqIntSS (a : List (List Int)) (b : List (List Int)) : Option Bool :=
  (if ((a.length : Int) != (b.length : Int)) then some false
  else (loopM (fun (s' : Int) => laws_eqIntSS_l1 a b s') (0)).bind fun p => (match p with | .inl c' => some c' | .inr q => laws_eqIntSS_j1))
noncomputable def laws_markIntS_j1 (k_1 : Int) (a_1 : List Int) : Option (Int × (List Int)) :=
  some (k_1, a_1)
noncomputable def laws_markIntS_l1 (k_2 : Int) (i : Int) (a_2 : List Int) : Option ((Int × Int × (List Int)) ⊕ (Int × (List Int))) :=
  (if (decide (i < (a_2.length : Int))) then (geti a_2 i).bind fun x => some (.inl ((wk .i64 (k_2 + 1)), (wk .i64 (i + 1)), (a_2.set i.toNat k_2)))
  else some (.inr (k_2, a_2)))
noncomputable def laws_markIntS (a : List Int) (k : Int) : Option (Int × (List Int)) :=
  (loopM (fun (s' : Int × Int × (List Int)) => laws_markIntS_l1 s'.1 s'.2.1 s'.2.2) (k, 0, a)).bind fun p => laws_markIntS_j1 p.1 p.2
noncomputable def laws_markIntSS_j1 (k_1 : Int) (a_1 : List (List Int)) : Option (Int × (List (List Int))) :=
  some (k_1, a_1)
noncomputable def laws_markIntSS_l1 (k_2 : Int) (i : Int) (a_2 : List (List Int)) : Option ((Int × Int × (List (List Int))) ⊕ (Int × (List (List Int)))) :=
  (if (decide (i < (a_2.length : Int))) then (geti a_2 i).bind fun x => (laws_markIntS x k_2).bind fun x17 => some (.inl (x17.1, (wk .i64 (i + 1)), (a_2.set i.toNat x17.2)))
  else some (.inr (k_2, a_2)))
noncomputable def laws_markIntSS (a : List (List Int)) (k : Int) : Option (Int × (List (List Int))) :=
  (loopM (fun (s' : Int × Int × (List (List Int))) => laws_markIntSS_l1 s'.1 s'.2.1 s'.2.2) (k, 0, a)).bind fun p => laws_markIntSS_j1 p.1 p.2
noncomputable def laws_heldIntS_j1 (k_1 : Int) : Option (Int) :=
  some k_1
noncomputable def laws_heldIntS_l1 (a : List Int) (k_2 : Int) (i : Int) : Option ((Int × Int) ⊕ ((Int) ⊕ (Int))) :=
  (if (decide (i < (a.length : Int))) then (geti a i).bind fun x => (if (x != k_2) then some (.inr (.inl (-1)))
  else some (.inl ((wk .i64 (k_2 + 1)), (wk .i64 (i + 1)))))
  else some (.inr (.inr k_2)))
noncomputable def laws_heldIntS (a : List Int) (k : Int) : Option Int :=
  (loopM (fun (s' : Int × Int) => laws_heldIntS_l1 a s'.1 s'.2) (k, 0)).bind fun p => (match p with | .inl c' => some c' | .inr q => laws_heldIntS_j1 q)
noncomputable def laws_FnExactClosureOf (aParents : List (List Int)) (aV : Int) : Option Bool :=
  (laws_szIntSS aParents 1048576).bind fun x15 => (if (decide (x15 < 0)) then some true
  else (laws_toIntSS aParents).bind fun x19 => (spec_ClosureOf x19 aV).bind fun x21 => (laws_toIntSS aParents).bind fun x23 => (impl_ClosureOf x23 aV).bind fun x26 => (laws_eqIntS x26 x21).bind fun x29 => (if (!x29) then some false
  else (laws_toIntSS aParents).bind fun x33 => (laws_eqIntSS x23 x33).bind fun x34 => (if (!x34) then some false
  else (laws_markIntSS x23 1).bind fun x38 => (if (decide (x38.1 < 0)) then some true else (laws_eqIntS x26 x21).bind fun x44 => some (!x44)).bind fun b => (if b then some false
  else (laws_markIntS x26 1).bind fun x49 => (laws_heldIntS x49.2 1).bind fun x52 => (if (decide (x52 < 0)) then some false
  else (if (x52 != x49.1) then some false
  else (laws_toIntSS aParents).bind fun x59 => (impl_ClosureOf x59 aV).bind fun x61 => (laws_eqIntS x61 x21).bind fun x64 => (if (!x64) then some false
  else (laws_heldIntS x49.2 1).bind fun x68 => (if (decide (x68 < 0)) then some false
  else (if (x68 != x49.1) then some false
  else some true)))))))))
noncomputable def spec_Commons_j1 (out_ : List Int) : Option ((List Int)) :=
  some out_
noncomputable def spec_Commons_l1 (parents : List (List Int)) (x26 : (List Bool)) (x30 : (List Bool)) (v : Int) (out__1 : List Int) : Option ((Int × (List Int)) ⊕ ((List Int))) :=
  (if (decide (v < (parents.length : Int))) then (geti x26 v).bind fun x => (if x then (geti x30 v).bind fun x_1 => some x_1 else some false).bind fun b_2 => (if b_2 then (appn out__1 [v]).bind fun l => some (.inl ((wk .i64 (v + 1)), l))
  else some (.inl ((wk .i64 (v + 1)), out__1)))
  else some (.inr out__1))
noncomputable def spec_Commons (parents : List (List Int)) (a : Int) (b : Int) : Option (List Int) :=
  (spec_l05Has parents a).bind fun x14 => (if (!x14) then some true else (spec_l05Has parents b).bind fun x19 => some (!x19)).bind fun b_1 => (if b_1 then some []
  else (spec_l05Set parents [a]).bind fun x26 => (spec_l05Set parents [b]).bind fun x30 => (loopM (fun (s' : Int × (List Int)) => spec_Commons_l1 parents x26 x30 s'.1 s'.2) (0, [])).bind fun p => spec_Commons_j1 p)
noncomputable def laws_FnExactCommons (aParents : List (List Int)) (aA : Int) (aB : Int) : Option Bool :=
  (laws_szIntSS aParents 1048576).bind fun x17 => (if (decide (x17 < 0)) then some true
  else (laws_toIntSS aParents).bind fun x21 => (spec_Commons x21 aA aB).bind fun x24 => (laws_toIntSS aParents).bind fun x26 => (impl_Commons x26 aA aB).bind fun x30 => (laws_eqIntS x30 x24).bind fun x33 => (if (!x33) then some false
  else (laws_toIntSS aParents).bind fun x37 => (laws_eqIntSS x26 x37).bind fun x38 => (if (!x38) then some false
  else (laws_markIntSS x26 1).bind fun x42 => (if (decide (x42.1 < 0)) then some true else (laws_eqIntS x30 x24).bind fun x48 => some (!x48)).bind fun b => (if b then some false
  else (laws_markIntS x30 1).bind fun x53 => (laws_heldIntS x53.2 1).bind fun x56 => (if (decide (x56 < 0)) then some false
  else (if (x56 != x53.1) then some false
  else (laws_toIntSS aParents).bind fun x63 => (impl_Commons x63 aA aB).bind fun x66 => (laws_eqIntS x66 x24).bind fun x69 => (if (!x69) then some false
  else (laws_heldIntS x53.2 1).bind fun x73 => (if (decide (x73 < 0)) then some false
  else (if (x73 != x53.1) then some false
  else some true)))))))))
noncomputable def spec_ProperOf_j1 (parents : List (List Int)) (list_ : List Int) (ok : Bool) : Option ((List Int)) :=
  (if (!ok) then some []
  else (spec_l05Set parents list_).bind fun x31 => (spec_l05List x31).bind fun x32 => some x32)
noncomputable def spec_ProperOf_l1 (parents : List (List Int)) (list_ : List Int) (ok_1 : Bool) (i : Int) : Option ((Bool × Int) ⊕ (Bool)) :=
  (if (decide (i < (list_.length : Int))) then some ok_1 else some false).bind fun b => (if b then (geti list_ i).bind fun x => (spec_l01In x 0 (wk .i64 ((parents.length : Int) - 1))).bind fun x25 => some (.inl (x25, (wk .i64 (i + 1))))
  else some (.inr ok_1))
noncomputable def spec_ProperOf (parents : List (List Int)) (list_ : List Int) : Option (List Int) :=
  (spec_GraphOk parents).bind fun x8 => (loopM (fun (s' : Bool × Int) => spec_ProperOf_l1 parents list_ s'.1 s'.2) (x8, 0)).bind fun p => spec_ProperOf_j1 parents list_ p
noncomputable def laws_FnExactProperOf (aParents : List (List Int)) (aList : List Int) : Option Bool :=
  (if (decide ((aList.length : Int) > 1048576)) then some true
  else (laws_szIntSS aParents 1048576).bind fun x19 => (if (decide (x19 < 0)) then some true
  else (laws_toIntSS aParents).bind fun x23 => (laws_toIntS aList).bind fun x25 => (spec_ProperOf x23 x25).bind fun x26 => (laws_toIntSS aParents).bind fun x28 => (laws_toIntS aList).bind fun x30 => (impl_ProperOf x28 x30).bind fun x33 => (laws_eqIntS x33 x26).bind fun x36 => (if (!x36) then some false
  else (laws_toIntSS aParents).bind fun x40 => (laws_eqIntSS x28 x40).bind fun x41 => (if (!x41) then some false
  else (laws_toIntS aList).bind fun x45 => (laws_eqIntS x30 x45).bind fun x46 => (if (!x46) then some false
  else (laws_markIntSS x28 1).bind fun x50 => (laws_markIntS x30 x50.1).bind fun x53 => (if (decide (x53.1 < 0)) then some true else (laws_eqIntS x33 x26).bind fun x59 => some (!x59)).bind fun b => (if b then some false
  else (laws_markIntS x33 1).bind fun x64 => (laws_heldIntS x64.2 1).bind fun x67 => (if (decide (x67 < 0)) then some false
  else (if (x67 != x64.1) then some false
  else (laws_toIntSS aParents).bind fun x74 => (laws_toIntS aList).bind fun x76 => (impl_ProperOf x74 x76).bind fun x77 => (laws_eqIntS x77 x26).bind fun x80 => (if (!x80) then some false
  else (laws_heldIntS x64.2 1).bind fun x84 => (if (decide (x84 < 0)) then some false
  else (if (x84 != x64.1) then some false
  else some true)))))))))))
noncomputable def impl_setOf_j1 (s : Int) : Option (Int) :=
  some s
noncomputable def impl_setOf_l1 (list_ : List Int) (s_1 : Int) (x8 : Int) : Option ((Int × Int) ⊕ (Int)) :=
  (if (decide (x8 < (list_.length : Int))) then (geti list_ x8).bind fun x => (impl_inRange x 0 63).bind fun x13 => (if x13 then (chk (¬ (wk .u64 x) < 0)).bind fun u => some (.inl ((bits .or .u64 s_1 (shlI .u64 1 (wk .u64 x))), (wk .i64 (x8 + 1))))
  else some (.inl (s_1, (wk .i64 (x8 + 1)))))
  else some (.inr s_1))
noncomputable def impl_setOf (list_ : List Int) : Option Int :=
  (loopM (fun (s' : Int × Int) => impl_setOf_l1 list_ s'.1 s'.2) (0, 0)).bind fun p => impl_setOf_j1 p
noncomputable def impl_Tips_j2 (out_ : List Int) : Option ((List Int)) :=
  some out_
noncomputable def impl_Tips_l1 (parents : List (List Int)) (used : Int) (x24 : Int) (out__1 : List Int) : Option ((Int × (List Int)) ⊕ ((List Int))) :=
  (if (decide (x24 < (parents.length : Int))) then (impl_set_has used x24).bind fun x29 => (if (!x29) then (appn out__1 [x24]).bind fun l => some (.inl ((wk .i64 (x24 + 1)), l))
  else some (.inl ((wk .i64 (x24 + 1)), out__1)))
  else some (.inr out__1))
noncomputable def impl_Tips_j1 (parents : List (List Int)) (used : Int) : Option ((List Int)) :=
  (loopM (fun (s' : Int × (List Int)) => impl_Tips_l1 parents used s'.1 s'.2) (0, [])).bind fun p => impl_Tips_j2 p
noncomputable def impl_Tips_l2 (parents : List (List Int)) (used_1 : Int) (x13 : Int) : Option ((Int × Int) ⊕ (Int)) :=
  (if (decide (x13 < (parents.length : Int))) then (geti parents x13).bind fun x => (impl_setOf x).bind fun x19 => some (.inl ((bits .or .u64 used_1 x19), (wk .i64 (x13 + 1))))
  else some (.inr used_1))
noncomputable def impl_Tips (parents : List (List Int)) : Option (List Int) :=
  (impl_GraphOk parents).bind fun x9 => (if (!x9) then some []
  else (loopM (fun (s' : Int × Int) => impl_Tips_l2 parents s'.1 s'.2) (0, 0)).bind fun p_1 => impl_Tips_j1 parents p_1)
noncomputable def impl_Levels_j1 (out_ : List Int) : Option ((List Int)) :=
  some out_
noncomputable def impl_Levels_j2 (x16 : Int) (out__2 : List Int) : Option ((Int × (List Int)) ⊕ ((List Int))) :=
  some (.inl ((wk .i64 (x16 + 1)), out__2))
noncomputable def impl_Levels_l2 (x16 : Int) (x : List Int) (x23 : Int) (out__3 : List Int) : Option ((Int × (List Int)) ⊕ ((List Int))) :=
  (if (decide (x23 < (x.length : Int))) then (geti x x23).bind fun x_1 => (geti out__3 x16).bind fun x_2 => (geti out__3 x_1).bind fun x_3 => some (.inl ((wk .i64 (x23 + 1)), (out__3.set x16.toNat (if (wk .i64 (x_3 + 1)) > x_2 then (wk .i64 (x_3 + 1)) else x_2))))
  else some (.inr out__3))
noncomputable def impl_Levels_l1 (parents : List (List Int)) (x16 : Int) (out__1 : List Int) : Option ((Int × (List Int)) ⊕ ((List Int))) :=
  (if (decide (x16 < (parents.length : Int))) then (geti parents x16).bind fun x => (loopM (fun (s' : Int × (List Int)) => impl_Levels_l2 x16 x s'.1 s'.2) (0, out__1)).bind fun p_1 => impl_Levels_j2 x16 p_1
  else some (.inr out__1))
noncomputable def impl_Levels (parents : List (List Int)) : Option (List Int) :=
  (impl_GraphOk parents).bind fun x9 => (if (!x9) then some []
  else ((mkl (parents.length : Int) (parents.length : Int) 0 : Option (List Int))).bind fun x13 => (loopM (fun (s' : Int × (List Int)) => impl_Levels_l1 parents s'.1 s'.2) (0, x13)).bind fun p => impl_Levels_j1 p)
noncomputable def laws_FnTips_j1 : Option (Bool) :=
  some true
noncomputable def laws_FnTips_j2 (v : Int) : Option ((Int) ⊕ ((Bool) ⊕ (Unit))) :=
  some (.inl (wk .i64 (v + 1)))
noncomputable def laws_FnTips_j4 (x13 : (List (List Int))) (x17 : (List Int)) (v : Int) : Option ((Int) ⊕ ((Bool) ⊕ (Unit))) :=
  (geti x13 v).bind fun x => (if ((x.length : Int) == 0) then (geti x17 v).bind fun x_1 => some (x_1 != 0) else some false).bind fun b_1 => (if b_1 then some (.inr (.inl false))
  else laws_FnTips_j2 v)
noncomputable def laws_FnTips_l2 (x13 : (List (List Int))) (x17 : (List Int)) (v : Int) (k : Int) : Option ((Int) ⊕ (((Int) ⊕ ((Bool) ⊕ (Unit))) ⊕ (Unit))) :=
  (geti x13 v).bind fun x_2 => (if (decide (k < (x_2.length : Int))) then (geti x_2 k).bind fun x_3 => (geti x17 x_3).bind fun x_4 => (geti x17 v).bind fun x_5 => (if (decide (x_4 ≥ x_5)) then some (.inr (.inl (.inr (.inl false))))
  else some (.inl (wk .i64 (k + 1))))
  else some (.inr (.inr ())))
noncomputable def laws_FnTips_j3 (x13 : (List (List Int))) (x15 : (List Int)) (x17 : (List Int)) (v : Int) (under : Bool) : Option ((Int) ⊕ ((Bool) ⊕ (Unit))) :=
  (laws_within x15 v).bind fun x56 => (if (under == x56) then some (.inr (.inl false))
  else (loopM (fun (s' : Int) => laws_FnTips_l2 x13 x17 v s') (0)).bind fun p_1 => (match p_1 with | .inl c' => some c' | .inr q => laws_FnTips_j4 x13 x17 v))
noncomputable def laws_FnTips_l3 (x13 : (List (List Int))) (v : Int) (under_1 : Bool) (u : Int) : Option ((Bool × Int) ⊕ (Bool)) :=
  (if (decide (u < (x13.length : Int))) then (if under_1 then some true else (spec_IsAncestor x13 v u).bind fun x51 => some x51).bind fun b_2 => some (.inl (b_2, (wk .i64 (u + 1))))
  else some (.inr under_1))
noncomputable def laws_FnTips_l1 (x13 : (List (List Int))) (x15 : (List Int)) (x17 : (List Int)) (v : Int) : Option ((Int) ⊕ ((Bool) ⊕ (Unit))) :=
  (if (decide (v < (x13.length : Int))) then (loopM (fun (s' : Bool × Int) => laws_FnTips_l3 x13 v s'.1 s'.2) (false, (wk .i64 (v + 1)))).bind fun p_2 => laws_FnTips_j3 x13 x15 x17 v p_2
  else some (.inr (.inr ())))
noncomputable def laws_FnTips (code : List Int) : Option Bool :=
  (laws_big code).bind fun x11 => (if x11 then some true
  else (spec_DrawRightGraph code).bind fun x13 => (impl_Tips x13).bind fun x15 => (impl_Levels x13).bind fun x17 => (if ((x17.length : Int) != (x13.length : Int)) then some true else (impl_ProperOf x13 x15).bind fun x26 => some ((x26.length : Int) != (x13.length : Int))).bind fun b => (if b then some false
  else (loopM (fun (s' : Int) => laws_FnTips_l1 x13 x15 x17 s') (0)).bind fun p => (match p with | .inl c' => some c' | .inr q_1 => laws_FnTips_j1)))
noncomputable def spec_Bases_j1 (out_ : List Int) : Option ((List Int)) :=
  some out_
noncomputable def spec_Bases_j2 (i : Int) (out__2 : List Int) : Option ((Int × (List Int)) ⊕ ((List Int))) :=
  some (.inl ((wk .i64 (i + 1)), out__2))
noncomputable def spec_Bases_j3 (x15 : (List Int)) (i : Int) (out__1 : List Int) (best : Bool) : Option ((Int × (List Int)) ⊕ ((List Int))) :=
  (if best then (geti x15 i).bind fun x => (appn out__1 [x]).bind fun l => spec_Bases_j2 i l
  else spec_Bases_j2 i out__1)
noncomputable def spec_Bases_l2 (parents : List (List Int)) (x15 : (List Int)) (i : Int) (best_1 : Bool) (k : Int) : Option ((Bool × Int) ⊕ (Bool)) :=
  (if (decide (k < (x15.length : Int))) then (if best_1 then (if (i == k) then some true else (geti x15 i).bind fun x_1 => (geti x15 k).bind fun x_2 => (spec_IsAncestor parents x_1 x_2).bind fun x44 => some (!x44)).bind fun b_2 => some b_2 else some false).bind fun b_1 => some (.inl (b_1, (wk .i64 (k + 1))))
  else some (.inr best_1))
noncomputable def spec_Bases_l1 (parents : List (List Int)) (x15 : (List Int)) (i : Int) (out__1 : List Int) : Option ((Int × (List Int)) ⊕ ((List Int))) :=
  (if (decide (i < (x15.length : Int))) then (loopM (fun (s' : Bool × Int) => spec_Bases_l2 parents x15 i s'.1 s'.2) (true, 0)).bind fun p_1 => spec_Bases_j3 x15 i out__1 p_1
  else some (.inr out__1))
noncomputable def spec_Bases (parents : List (List Int)) (a : Int) (b : Int) : Option (List Int) :=
  (spec_Commons parents a b).bind fun x15 => (loopM (fun (s' : Int × (List Int)) => spec_Bases_l1 parents x15 s'.1 s'.2) (0, [])).bind fun p => spec_Bases_j1 p
noncomputable def laws_FnExactBases (aParents : List (List Int)) (aA : Int) (aB : Int) : Option Bool :=
  (laws_szIntSS aParents 1048576).bind fun x17 => (if (decide (x17 < 0)) then some true
  else (laws_toIntSS aParents).bind fun x21 => (spec_Bases x21 aA aB).bind fun x24 => (laws_toIntSS aParents).bind fun x26 => (impl_Bases x26 aA aB).bind fun x30 => (laws_eqIntS x30 x24).bind fun x33 => (if (!x33) then some false
  else (laws_toIntSS aParents).bind fun x37 => (laws_eqIntSS x26 x37).bind fun x38 => (if (!x38) then some false
  else (laws_markIntSS x26 1).bind fun x42 => (if (decide (x42.1 < 0)) then some true else (laws_eqIntS x30 x24).bind fun x48 => some (!x48)).bind fun b => (if b then some false
  else (laws_markIntS x30 1).bind fun x53 => (laws_heldIntS x53.2 1).bind fun x56 => (if (decide (x56 < 0)) then some false
  else (if (x56 != x53.1) then some false
  else (laws_toIntSS aParents).bind fun x63 => (impl_Bases x63 aA aB).bind fun x66 => (laws_eqIntS x66 x24).bind fun x69 => (if (!x69) then some false
  else (laws_heldIntS x53.2 1).bind fun x73 => (if (decide (x73 < 0)) then some false
  else (if (x73 != x53.1) then some false
  else some true)))))))))
end Go.TV.F
