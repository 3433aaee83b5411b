/- Structures and their rows. -/
import Derived.Test.YthfhiepgdeghpaaDoorKFnIntentsT5
set_option linter.unusedVariables false
set_option linter.unusedSimpArgs false
set_option maxHeartbeats 8000000
set_option maxRecDepth 100000
namespace Go.TV
structure T_spec_l01Cur where
  b : List Int
  i : Int
  h : Int
  deriving Inhabited
structure T_impl_scanner where
  text : ByteArray
  at_ : Int
  bad : Bool
  deriving Inhabited
structure T_spec_l08Cur where
  text : ByteArray
  at_ : Int
  bad : Bool
  deriving Inhabited
theorem R_u8 : (∀ (l : List Int) (i : Nat) (a0 : Int), (List.map (rK .u8) l).set i [.sc (.int .u8 a0)] = List.map (rK .u8) (l.set i a0)) ∧
  (∀ (l : List Int) (a0 : Int), List.map (rK .u8) l ++ [[.sc (.int .u8 a0)]] = List.map (rK .u8) (l ++ [a0])) ∧
  (∀ (l : List Int) (b0 b1 : Int), List.map (rK .u8) l ++ [[.sc (.int .u8 b0)], [.sc (.int .u8 b1)]] = List.map (rK .u8) (l ++ [b0, b1])) ∧
  (∀ (l : List Int) (b0 b1 b2 : Int), List.map (rK .u8) l ++ [[.sc (.int .u8 b0)], [.sc (.int .u8 b1)], [.sc (.int .u8 b2)]] = List.map (rK .u8) (l ++ [b0, b1, b2])) ∧
  (∀ (l : List Int) (b0 b1 b2 b3 : Int), List.map (rK .u8) l ++ [[.sc (.int .u8 b0)], [.sc (.int .u8 b1)], [.sc (.int .u8 b2)], [.sc (.int .u8 b3)]] = List.map (rK .u8) (l ++ [b0, b1, b2, b3])) ∧
  (∀ n : Nat, List.replicate n [.sc (.int .u8 0)] = List.map (rK .u8) (List.replicate n 0)) ∧
  (∀ l : List Int, borRows (List.map (rK .u8) l) = List.map (rK .u8) l) ∧
  (∀ l : List Int, aliveRows (List.map (rK .u8) l) = true) ∧
  (∀ l : List Int, noBorRows (List.map (rK .u8) l) = true) :=
  ⟨fun l i a0 => set_rows (rK .u8) l i a0,
  fun l a0 => app_rows (rK .u8) l [a0],
  fun l b0 b1 => app_rows (rK .u8) l [b0, b1],
  fun l b0 b1 b2 => app_rows (rK .u8) l [b0, b1, b2],
  fun l b0 b1 b2 b3 => app_rows (rK .u8) l [b0, b1, b2, b3],
  fun n => rep_rows (rK .u8) 0 n,
  bor_rows (fun _ => rfl),
  alRows (fun _ => rfl),
  nb_rows (fun _ => rfl)⟩
theorem R_s : (∀ (l : List ByteArray) (i : Nat) (a0 : ByteArray), (List.map rS l).set i [.sc (.string a0)] = List.map rS (l.set i a0)) ∧
  (∀ (l : List ByteArray) (a0 : ByteArray), List.map rS l ++ [[.sc (.string a0)]] = List.map rS (l ++ [a0])) ∧
  (∀ (l : List ByteArray) (b0 b1 : ByteArray), List.map rS l ++ [[.sc (.string b0)], [.sc (.string b1)]] = List.map rS (l ++ [b0, b1])) ∧
  (∀ (l : List ByteArray) (b0 b1 b2 : ByteArray), List.map rS l ++ [[.sc (.string b0)], [.sc (.string b1)], [.sc (.string b2)]] = List.map rS (l ++ [b0, b1, b2])) ∧
  (∀ (l : List ByteArray) (b0 b1 b2 b3 : ByteArray), List.map rS l ++ [[.sc (.string b0)], [.sc (.string b1)], [.sc (.string b2)], [.sc (.string b3)]] = List.map rS (l ++ [b0, b1, b2, b3])) ∧
  (∀ n : Nat, List.replicate n [.sc (.string (ByteArray.mk #[]))] = List.map rS (List.replicate n (ByteArray.mk #[]))) ∧
  (∀ l : List ByteArray, borRows (List.map rS l) = List.map rS l) ∧
  (∀ l : List ByteArray, aliveRows (List.map rS l) = true) ∧
  (∀ l : List ByteArray, noBorRows (List.map rS l) = true) :=
  ⟨fun l i a0 => set_rows rS l i a0,
  fun l a0 => app_rows rS l [a0],
  fun l b0 b1 => app_rows rS l [b0, b1],
  fun l b0 b1 b2 => app_rows rS l [b0, b1, b2],
  fun l b0 b1 b2 b3 => app_rows rS l [b0, b1, b2, b3],
  fun n => rep_rows rS (ByteArray.mk #[]) n,
  bor_rows (fun _ => rfl),
  alRows (fun _ => rfl),
  nb_rows (fun _ => rfl)⟩
theorem R_i64 : (∀ (l : List Int) (i : Nat) (a0 : Int), (List.map (rK .i64) l).set i [.sc (.int .i64 a0)] = List.map (rK .i64) (l.set i a0)) ∧
  (∀ (l : List Int) (a0 : Int), List.map (rK .i64) l ++ [[.sc (.int .i64 a0)]] = List.map (rK .i64) (l ++ [a0])) ∧
  (∀ (l : List Int) (b0 b1 : Int), List.map (rK .i64) l ++ [[.sc (.int .i64 b0)], [.sc (.int .i64 b1)]] = List.map (rK .i64) (l ++ [b0, b1])) ∧
  (∀ (l : List Int) (b0 b1 b2 : Int), List.map (rK .i64) l ++ [[.sc (.int .i64 b0)], [.sc (.int .i64 b1)], [.sc (.int .i64 b2)]] = List.map (rK .i64) (l ++ [b0, b1, b2])) ∧
  (∀ (l : List Int) (b0 b1 b2 b3 : Int), List.map (rK .i64) l ++ [[.sc (.int .i64 b0)], [.sc (.int .i64 b1)], [.sc (.int .i64 b2)], [.sc (.int .i64 b3)]] = List.map (rK .i64) (l ++ [b0, b1, b2, b3])) ∧
  (∀ n : Nat, List.replicate n [.sc (.int .i64 0)] = List.map (rK .i64) (List.replicate n 0)) ∧
  (∀ l : List Int, borRows (List.map (rK .i64) l) = List.map (rK .i64) l) ∧
  (∀ l : List Int, aliveRows (List.map (rK .i64) l) = true) ∧
  (∀ l : List Int, noBorRows (List.map (rK .i64) l) = true) :=
  ⟨fun l i a0 => set_rows (rK .i64) l i a0,
  fun l a0 => app_rows (rK .i64) l [a0],
  fun l b0 b1 => app_rows (rK .i64) l [b0, b1],
  fun l b0 b1 b2 => app_rows (rK .i64) l [b0, b1, b2],
  fun l b0 b1 b2 b3 => app_rows (rK .i64) l [b0, b1, b2, b3],
  fun n => rep_rows (rK .i64) 0 n,
  bor_rows (fun _ => rfl),
  alRows (fun _ => rfl),
  nb_rows (fun _ => rfl)⟩
end Go.TV
namespace Go.TV
structure T_laws_Change where
  Kind : Int
  Path : ByteArray
  To : ByteArray
  Lines : List ByteArray
  deriving Inhabited
structure T_laws_Step where
  Parents : List Int
  Note : ByteArray
  Changes : List T_laws_Change
  deriving Inhabited
structure T_impl_Change where
  Kind : Int
  Path : ByteArray
  To : ByteArray
  Lines : List ByteArray
  deriving Inhabited
structure T_impl_Step where
  Parents : List Int
  Note : ByteArray
  Changes : List T_impl_Change
  deriving Inhabited
end Go.TV
namespace Go.TV.F
noncomputable def laws_big (code : List Int) : Option Bool :=
  some (decide ((code.length : Int) > 1048576))
noncomputable def spec_l01New_j1 (code : List Int) (h : Int) : Option (T_spec_l01Cur) :=
  some (T_spec_l01Cur.mk code 0 h)
noncomputable def spec_l01New_l1 (code : List Int) (h_1 : Int) (i : Int) : Option ((Int × Int) ⊕ (Int)) :=
  (if (decide (i < (code.length : Int))) then some (decide (i < 4000)) else some false).bind fun b => (if b then (geti code i).bind fun x => some (.inl ((bits .and .i64 (wk .i64 ((wk .i64 ((wk .i64 (h_1 * 131)) + (wk .i64 x))) + 7)) 1073741823), (wk .i64 (i + 1))))
  else some (.inr h_1))
noncomputable def spec_l01New (code : List Int) : Option T_spec_l01Cur :=
  (loopM (fun (s' : Int × Int) => spec_l01New_l1 code s'.1 s'.2) ((wk .i64 (73073 + (code.length : Int))), 0)).bind fun p => spec_l01New_j1 code p
noncomputable def spec_l01In (x : Int) (least : Int) (most : Int) : Option Bool :=
  (if (decide (x ≥ least)) then some (decide (x ≤ most)) else some false).bind fun b => some b
noncomputable def spec_l01Figure (x : Int) : Option Int :=
  (if (decide (x < 10)) then some (wk .u8 (wk .i64 (48 + x)))
  else some (wk .u8 (wk .i64 ((wk .i64 (97 + x)) - 10))))
noncomputable def spec_Decimal_j1 (n : Int) (s : ByteArray) : Option (ByteArray) :=
  (if (decide (n < 0)) then (sapp (ByteArray.mk #[45]) s).bind fun t => some t
  else some s)
noncomputable def spec_Decimal_j2 (n_1 : Int) (s_1 : ByteArray) (d : Int) : Option ((Int × ByteArray) ⊕ (ByteArray)) :=
  (spec_l01Figure d).bind fun x19 => (sapp (mkS [x19]) s_1).bind fun t_1 => some (.inl ((wk .i64 (n_1.tdiv 10)), t_1))
noncomputable def spec_Decimal_l1 (n_1 : Int) (s_1 : ByteArray) : Option ((Int × ByteArray) ⊕ (ByteArray)) :=
  (if (n_1 != 0) then (if (decide ((n_1.tmod 10) < 0)) then spec_Decimal_j2 n_1 s_1 (wk .i64 (0 - (n_1.tmod 10)))
  else spec_Decimal_j2 n_1 s_1 (n_1.tmod 10))
  else some (.inr s_1))
noncomputable def spec_Decimal (n : Int) : Option ByteArray :=
  (if (n == 0) then some (ByteArray.mk #[48])
  else (loopM (fun (s' : Int × ByteArray) => spec_Decimal_l1 s'.1 s'.2) (n, (ByteArray.mk #[]))).bind fun p => spec_Decimal_j1 n p)
noncomputable def spec_FileName (id : Int) : Option ByteArray :=
  (spec_l01In id 0 11).bind fun x4 => (if (!x4) then some (ByteArray.mk #[])
  else (spec_Decimal id).bind fun x7 => (sapp (ByteArray.mk #[119]) x7).bind fun t => some t)
noncomputable def spec_l01Byte (c : T_spec_l01Cur) : Option (Int × T_spec_l01Cur) :=
  (if (decide (c.i < (c.b.length : Int))) then (geti c.b c.i).bind fun x => some ((bits .and .i64 (wk .i64 ((bits .and .i64 (bits .xor .i64 (shrI .i64 (wk .i64 ((wk .i64 (c.h * 6364136223846793005)) + 1442695040888963407)) 33) (shrI .i64 (wk .i64 ((wk .i64 (c.h * 6364136223846793005)) + 1442695040888963407)) 45)) 255) + (wk .i64 x))) 255), (T_spec_l01Cur.mk c.b (wk .i64 (c.i + 1)) (wk .i64 ((wk .i64 (c.h * 6364136223846793005)) + 1442695040888963407))))
  else some ((bits .and .i64 (bits .xor .i64 (shrI .i64 (wk .i64 ((wk .i64 (c.h * 6364136223846793005)) + 1442695040888963407)) 33) (shrI .i64 (wk .i64 ((wk .i64 (c.h * 6364136223846793005)) + 1442695040888963407)) 45)) 255), (T_spec_l01Cur.mk c.b c.i (wk .i64 ((wk .i64 (c.h * 6364136223846793005)) + 1442695040888963407)))))
noncomputable def spec_l01Below (c : T_spec_l01Cur) (n : Int) : Option (Int × T_spec_l01Cur) :=
  (if (decide (n ≤ 0)) then some (0, (T_spec_l01Cur.mk c.b c.i c.h))
  else (if (decide (n ≤ 256)) then (spec_l01Byte (T_spec_l01Cur.mk c.b c.i c.h)).bind fun x14 => (chk (¬ n = 0)).bind fun u => some (((x14.1 : Int).tmod n), (T_spec_l01Cur.mk x14.2.b x14.2.i x14.2.h))
  else (spec_l01Byte (T_spec_l01Cur.mk c.b c.i c.h)).bind fun x18 => (spec_l01Byte (T_spec_l01Cur.mk x18.2.b x18.2.i x18.2.h)).bind fun x20 => (spec_l01Byte (T_spec_l01Cur.mk x20.2.b x20.2.i x20.2.h)).bind fun x22 => (spec_l01Byte (T_spec_l01Cur.mk x22.2.b x22.2.i x22.2.h)).bind fun x24 => (chk (¬ n = 0)).bind fun u_1 => some (((wk .i64 ((wk .i64 ((wk .i64 ((wk .i64 (x18.1 * 16777216)) + (wk .i64 (x20.1 * 65536)))) + (wk .i64 (x22.1 * 256)))) + x24.1)).tmod n), (T_spec_l01Cur.mk x24.2.b x24.2.i x24.2.h))))
noncomputable def spec_l01Once (c : T_spec_l01Cur) (n : Int) : Option (Bool × T_spec_l01Cur) :=
  (spec_l01Below (T_spec_l01Cur.mk c.b c.i c.h) n).bind fun x7 => some ((x7.1 == 0), (T_spec_l01Cur.mk x7.2.b x7.2.i x7.2.h))
noncomputable def spec_l01Pick (c : T_spec_l01Cur) (list_ : List ByteArray) : Option (ByteArray × T_spec_l01Cur) :=
  (spec_l01Below (T_spec_l01Cur.mk c.b c.i c.h) (list_.length : Int)).bind fun x9 => (geti list_ x9.1).bind fun x => some (x, (T_spec_l01Cur.mk x9.2.b x9.2.i x9.2.h))
noncomputable def spec_l18Names_j2 (c_1 : List Int) (c_2 : Int) (c_3 : Int) (out__1 : List ByteArray) : Option ((List ByteArray) × T_spec_l01Cur) :=
  (spec_l01Below (T_spec_l01Cur.mk c_1 c_2 c_3) 24).bind fun x65 => (if (x65.1 == 0) then (spec_l01Pick (T_spec_l01Cur.mk x65.2.b x65.2.i x65.2.h) [(ByteArray.mk #[120]), (ByteArray.mk #[119, 49, 50]), (ByteArray.mk #[105, 110, 116, 101, 110, 116]), (ByteArray.mk #[99, 111, 109, 109, 105, 116, 115])]).bind fun x71 => (appn out__1 [x71.1]).bind fun l => some (l, (T_spec_l01Cur.mk x71.2.b x71.2.i x71.2.h))
  else (if (x65.1 == 1) then (appn out__1 [(ByteArray.mk #[119, 50])]).bind fun l_1 => some (l_1, (T_spec_l01Cur.mk x65.2.b x65.2.i x65.2.h))
  else some (out__1, (T_spec_l01Cur.mk x65.2.b x65.2.i x65.2.h))))
noncomputable def spec_l18Names_j3 (i : Int) (out__3 : List ByteArray) : Option ((Int × (List ByteArray)) ⊕ ((List ByteArray))) :=
  some (.inl ((wk .i64 (i + 1)), out__3))
noncomputable def spec_l18Names_l2 (k : Int) (out__4 : List ByteArray) : Option ((Int × (List ByteArray)) ⊕ ((List ByteArray))) :=
  (if (decide ((wk .i64 (k + 1)) < (out__4.length : Int))) then (geti out__4 k).bind fun x => (geti out__4 (wk .i64 (k + 1))).bind fun x_1 => (if (!(Op.bytesLess x.toList x_1.toList || x.toList == x_1.toList)) then (geti (out__4.set k.toNat x_1) (wk .i64 (k + 1))).bind fun x_2 => some (.inl ((wk .i64 (k + 1)), ((out__4.set k.toNat x_1).set ((wk .i64 (k + 1)).toNat) x)))
  else some (.inl ((wk .i64 (k + 1)), out__4)))
  else some (.inr out__4))
noncomputable def spec_l18Names_l1 (i : Int) (out__2 : List ByteArray) : Option ((Int × (List ByteArray)) ⊕ ((List ByteArray))) :=
  (if (decide (i < (out__2.length : Int))) then (loopM (fun (s' : Int × (List ByteArray)) => spec_l18Names_l2 s'.1 s'.2) (0, out__2)).bind fun p_1 => spec_l18Names_j3 i p_1
  else some (.inr out__2))
noncomputable def spec_l18Names_j1 (c_1 : List Int) (c_2 : Int) (c_3 : Int) (out_ : List ByteArray) : Option ((List ByteArray) × T_spec_l01Cur) :=
  (loopM (fun (s' : Int × (List ByteArray)) => spec_l18Names_l1 s'.1 s'.2) (0, out_)).bind fun p => spec_l18Names_j2 c_1 c_2 c_3 p
noncomputable def spec_l18Names_j4 (i_1 : Int) (c_4 : List Int) (c_5 : Int) (c_6 : Int) (out__5 : List ByteArray) (name : ByteArray) : Option ((Int × (List Int) × Int × Int × (List ByteArray)) ⊕ ((List Int) × Int × Int × (List ByteArray))) :=
  (spec_l01Once (T_spec_l01Cur.mk c_4 c_5 c_6) 3).bind fun x19 => (if x19.1 then (appn out__5 [name]).bind fun l_2 => some (.inl ((wk .i64 (i_1 + 1)), x19.2.b, x19.2.i, x19.2.h, l_2))
  else some (.inl ((wk .i64 (i_1 + 1)), x19.2.b, x19.2.i, x19.2.h, out__5)))
noncomputable def spec_l18Names_l3 (i_1 : Int) (c_4 : List Int) (c_5 : Int) (c_6 : Int) (out__5 : List ByteArray) : Option ((Int × (List Int) × Int × Int × (List ByteArray)) ⊕ ((List Int) × Int × Int × (List ByteArray))) :=
  (if (decide (i_1 < 12)) then (if (decide (i_1 ≥ 0)) then (spec_FileName i_1).bind fun x17 => spec_l18Names_j4 i_1 c_4 c_5 c_6 out__5 x17
  else spec_l18Names_j4 i_1 c_4 c_5 c_6 out__5 (ByteArray.mk #[99, 111, 109, 109, 105, 116, 115]))
  else some (.inr (c_4, c_5, c_6, out__5)))
noncomputable def spec_l18Names (c : T_spec_l01Cur) : Option ((List ByteArray) × T_spec_l01Cur) :=
  (loopM (fun (s' : Int × (List Int) × Int × Int × (List ByteArray)) => spec_l18Names_l3 s'.1 s'.2.1 s'.2.2.1 s'.2.2.2.1 s'.2.2.2.2) ((-1), c.b, c.i, c.h, [])).bind fun p_2 => spec_l18Names_j1 p_2.1 p_2.2.1 p_2.2.2.1 p_2.2.2.2
noncomputable def spec_DrawIntentText (code : List Int) : Option (List ByteArray) :=
  (spec_l01New code).bind fun x4 => (spec_l18Names (T_spec_l01Cur.mk x4.b x4.i x4.h)).bind fun x5 => some x5.1
noncomputable def spec_l01Var_j1 (n_1 : Int) (out_ : List Int) : Option (ByteArray) :=
  (appn out_ [(wk .u8 n_1)]).bind fun l => some (mkS l)
noncomputable def spec_l01Var_l1 (n_2 : Int) (out__1 : List Int) : Option ((Int × (List Int)) ⊕ (Int × (List Int))) :=
  (if (decide (n_2 > 127)) then (appn out__1 [(wk .u8 (wk .i64 ((n_2.tmod 128) + 128)))]).bind fun l_1 => some (.inl ((wk .i64 (n_2.tdiv 128)), l_1))
  else some (.inr (n_2, out__1)))
noncomputable def spec_l01Var (n : Int) : Option ByteArray :=
  (loopM (fun (s' : Int × (List Int)) => spec_l01Var_l1 s'.1 s'.2) (n, [])).bind fun p => spec_l01Var_j1 p.1 p.2
noncomputable def spec_l18IsName_j1 (name : ByteArray) : Option (Bool) :=
  some (name.toList == (ByteArray.mk #[99, 111, 109, 109, 105, 116, 115]).toList)
noncomputable def spec_l18IsName_l1 (name : ByteArray) (i : Int) : Option ((Int) ⊕ ((Bool) ⊕ (Unit))) :=
  (if (decide (i < 12)) then (spec_FileName i).bind fun x10 => (if (name.toList == x10.toList) then some (.inr (.inl true))
  else some (.inl (wk .i64 (i + 1))))
  else some (.inr (.inr ())))
noncomputable def spec_l18IsName (name : ByteArray) : Option Bool :=
  (loopM (fun (s' : Int) => spec_l18IsName_l1 name s') (0)).bind fun p => (match p with | .inl c' => some c' | .inr q => spec_l18IsName_j1 name)
noncomputable def spec_l17Short (s : ByteArray) : Option ByteArray :=
  (spec_l01Var (s.size : Int)).bind fun x5 => (sapp x5 s).bind fun t => some t
noncomputable def spec_SumMore_j1 (sum_1 : Int) : Option (Int) :=
  some sum_1
noncomputable def spec_SumMore_j2 (i : Int) (sum_3 : Int) : Option ((Int × Int) ⊕ (Int)) :=
  some (.inl (sum_3, (wk .i64 (i + 1))))
noncomputable def spec_SumMore_l2 (sum_4 : Int) (k : Int) : Option ((Int × Int) ⊕ (Int)) :=
  (if (decide (k < 8)) then (if ((sum_4.tmod 2) == 1) then some (.inl ((bits .xor .u32 (wk .u32 (sum_4.tdiv 2)) 3558460437), (wk .i64 (k + 1))))
  else some (.inl ((wk .u32 (sum_4.tdiv 2)), (wk .i64 (k + 1)))))
  else some (.inr sum_4))
noncomputable def spec_SumMore_l1 (text : ByteArray) (sum_2 : Int) (i : Int) : Option ((Int × Int) ⊕ (Int)) :=
  (if (decide (i < (text.size : Int))) then (sidx text i).bind fun x17 => (loopM (fun (s' : Int × Int) => spec_SumMore_l2 s'.1 s'.2) ((bits .xor .u32 sum_2 (wk .u32 x17)), 0)).bind fun p_1 => spec_SumMore_j2 i p_1
  else some (.inr sum_2))
noncomputable def spec_SumMore (sum : Int) (text : ByteArray) : Option Int :=
  (loopM (fun (s' : Int × Int) => spec_SumMore_l1 text s'.1 s'.2) (sum, 0)).bind fun p => spec_SumMore_j1 p
noncomputable def spec_SumOf (text : ByteArray) : Option Int :=
  (spec_SumMore 4294967295 text).bind fun x4 => some x4
noncomputable def spec_l02Four (x : Int) : Option ByteArray :=
  some (mkS [(wk .u8 (shrI .u32 x 24)), (wk .u8 (shrI .u32 x 16)), (wk .u8 (shrI .u32 x 8)), (wk .u8 x)])
noncomputable def spec_Sealed (text : ByteArray) : Option (ByteArray × Bool) :=
  (if (decide ((text.size : Int) > 60000)) then some ((ByteArray.mk #[]), false)
  else (spec_SumOf text).bind fun x9 => (spec_l02Four x9).bind fun x10 => (sapp text x10).bind fun t => some (t, true))
noncomputable def spec_IntentText_j1 (s : ByteArray) : Option (ByteArray × Bool) :=
  (spec_Sealed s).bind fun x49 => some (x49.1, x49.2)
noncomputable def spec_IntentText_l1 (names : List ByteArray) (s_1 : ByteArray) (i : Int) : Option ((ByteArray × Int) ⊕ ((ByteArray × Bool) ⊕ (ByteArray))) :=
  (if (decide (i < (names.length : Int))) then (geti names i).bind fun x => (spec_l18IsName x).bind fun x23 => (if (!x23) then some true else (if (decide (i > 0)) then (geti names (wk .i64 (i - 1))).bind fun x_1 => some (!Op.bytesLess x_1.toList x.toList) else some false).bind fun b_1 => some b_1).bind fun b => (if b then some (.inr (.inl ((ByteArray.mk #[]), false)))
  else (geti names i).bind fun x_2 => (spec_l17Short x_2).bind fun x46 => (sapp s_1 x46).bind fun t_1 => some (.inl (t_1, (wk .i64 (i + 1)))))
  else some (.inr (.inr s_1)))
noncomputable def spec_IntentText (names : List ByteArray) : Option (ByteArray × Bool) :=
  (if (decide ((names.length : Int) > 13)) then some ((ByteArray.mk #[]), false)
  else (spec_l01Var (names.length : Int)).bind fun x11 => (sapp (ByteArray.mk #[84, 73, 49]) x11).bind fun t => (loopM (fun (s' : ByteArray × Int) => spec_IntentText_l1 names s'.1 s'.2) (t, 0)).bind fun p => (match p with | .inl c' => some c' | .inr q => spec_IntentText_j1 q))
noncomputable def impl_inRange (n : Int) (least : Int) (most : Int) : Option Bool :=
  (if (decide (n ≥ least)) then some (decide (n ≤ most)) else some false).bind fun b => some b
noncomputable def internal_strconv_small (i : Int) : Option ByteArray :=
  (if (decide (i < 10)) then (sub2 (ByteArray.mk #[48, 49, 50, 51, 52, 53, 54, 55, 56, 57, 97, 98, 99, 100, 101, 102, 103, 104, 105, 106, 107, 108, 109, 110, 111, 112, 113, 114, 115, 116, 117, 118, 119, 120, 121, 122]) i (wk .i64 (i + 1))).bind fun x8 => some x8
  else (sub2 (ByteArray.mk (List.toArray (List.append (List.append [48, 48, 48, 49, 48, 50, 48, 51, 48, 52, 48, 53, 48, 54, 48, 55, 48, 56, 48, 57, 49, 48, 49, 49, 49, 50, 49, 51, 49, 52, 49, 53, 49, 54, 49, 55, 49, 56, 49, 57, 50, 48, 50, 49, 50, 50, 50, 51, 50, 52] [50, 53, 50, 54, 50, 55, 50, 56, 50, 57, 51, 48, 51, 49, 51, 50, 51, 51, 51, 52, 51, 53, 51, 54, 51, 55, 51, 56, 51, 57, 52, 48, 52, 49, 52, 50, 52, 51, 52, 52, 52, 53, 52, 54, 52, 55, 52, 56, 52, 57]) (List.append [53, 48, 53, 49, 53, 50, 53, 51, 53, 52, 53, 53, 53, 54, 53, 55, 53, 56, 53, 57, 54, 48, 54, 49, 54, 50, 54, 51, 54, 52, 54, 53, 54, 54, 54, 55, 54, 56, 54, 57, 55, 48, 55, 49, 55, 50, 55, 51, 55, 52] [55, 53, 55, 54, 55, 55, 55, 56, 55, 57, 56, 48, 56, 49, 56, 50, 56, 51, 56, 52, 56, 53, 56, 54, 56, 55, 56, 56, 56, 57, 57, 48, 57, 49, 57, 50, 57, 51, 57, 52, 57, 53, 57, 54, 57, 55, 57, 56, 57, 57])))) (wk .i64 (i * 2)) (wk .i64 ((wk .i64 (i * 2)) + 2))).bind fun x14 => some x14)
noncomputable def internal_strconv_FormatInt (i : Int) (base_ : Int) : Option ByteArray :=
  (if (base_ == 10) then (if (decide (0 ≤ i)) then some (decide (i < 100)) else some false).bind fun b => (if b then (internal_strconv_small i).bind fun x19 => some x19
  else none)
  else none)
noncomputable def internal_strconv_Itoa (i : Int) : Option ByteArray :=
  (internal_strconv_FormatInt i 10).bind fun x4 => some x4
noncomputable def strconv_Itoa (i : Int) : Option ByteArray :=
  (internal_strconv_Itoa i).bind fun x4 => some x4
noncomputable def impl_Decimal (n : Int) : Option ByteArray :=
  (strconv_Itoa n).bind fun x4 => some x4
noncomputable def impl_FileName (id : Int) : Option ByteArray :=
  (impl_inRange id 0 11).bind fun x4 => (if (!x4) then some (ByteArray.mk #[])
  else (impl_Decimal id).bind fun x7 => (sapp (ByteArray.mk #[119]) x7).bind fun t => some t)
noncomputable def impl_isImageName_j1 : Option (Bool) :=
  some false
noncomputable def impl_isImageName_l1 (name : ByteArray) (x6 : Int) : Option ((Int) ⊕ ((Bool) ⊕ (Unit))) :=
  (if (decide (x6 < 12)) then (impl_FileName x6).bind fun x10 => (if (x10.toList == name.toList) then some (.inr (.inl true))
  else some (.inl (wk .i64 (x6 + 1))))
  else some (.inr (.inr ())))
noncomputable def impl_isImageName (name : ByteArray) : Option Bool :=
  (if (name.toList == (ByteArray.mk #[99, 111, 109, 109, 105, 116, 115]).toList) then some true
  else (loopM (fun (s' : Int) => impl_isImageName_l1 name s') (0)).bind fun p => (match p with | .inl c' => some c' | .inr q => impl_isImageName_j1))
noncomputable def impl_intentOk_j1 (names : List ByteArray) : Option (Bool) :=
  some (decide ((names.length : Int) ≤ 13))
noncomputable def impl_intentOk_l1 (names : List ByteArray) (x7 : Int) : Option ((Int) ⊕ ((Bool) ⊕ (Unit))) :=
  (if (decide (x7 < (names.length : Int))) then (geti names x7).bind fun x => (impl_isImageName x).bind fun x13 => (if (!x13) then some true else (if (decide (x7 > 0)) then (geti names (wk .i64 (x7 - 1))).bind fun x_1 => some (Op.bytesLess x.toList x_1.toList || x.toList == x_1.toList) else some false).bind fun b_1 => some b_1).bind fun b => (if b then some (.inr (.inl false))
  else some (.inl (wk .i64 (x7 + 1))))
  else some (.inr (.inr ())))
noncomputable def impl_intentOk (names : List ByteArray) : Option Bool :=
  (loopM (fun (s' : Int) => impl_intentOk_l1 names s') (0)).bind fun p => (match p with | .inl c' => some c' | .inr q => impl_intentOk_j1 names)
noncomputable def impl_varText_j1 (n_1 : Int) (out_ : List Int) : Option (ByteArray) :=
  (appn out_ [(wk .u8 n_1)]).bind fun l => some (mkS l)
noncomputable def impl_varText_l1 (n_2 : Int) (out__1 : List Int) : Option ((Int × (List Int)) ⊕ (Int × (List Int))) :=
  (if (decide (n_2 > 127)) then (appn out__1 [(wk .u8 (wk .i64 (128 + (n_2.tmod 128))))]).bind fun l_1 => some (.inl ((wk .i64 (n_2.tdiv 128)), l_1))
  else some (.inr (n_2, out__1)))
noncomputable def impl_varText (n : Int) : Option ByteArray :=
  (loopM (fun (s' : Int × (List Int)) => impl_varText_l1 s'.1 s'.2) (n, [])).bind fun p => impl_varText_j1 p.1 p.2
noncomputable def strings_Builder_WriteString (b : ByteArray) (x : ByteArray) : Option (ByteArray) :=
  if b.size + x.size ≤ 549755813888 then some (b ++ x) else none
noncomputable def impl_shortText (s : ByteArray) : Option ByteArray :=
  (impl_varText (s.size : Int)).bind fun x5 => (sapp x5 s).bind fun t => some t
noncomputable def strings_Builder_String (b : ByteArray) : Option (ByteArray) :=
  some b
noncomputable def impl_SumMore_j1 (sum_1 : Int) : Option (Int) :=
  some sum_1
noncomputable def impl_SumMore_j2 (i : Int) (sum_3 : Int) : Option ((Int × Int) ⊕ (Int)) :=
  some (.inl (sum_3, (wk .i64 (i + 1))))
noncomputable def impl_SumMore_l2 (sum_4 : Int) (x19 : Int) : Option ((Int × Int) ⊕ (Int)) :=
  (if (decide (x19 < 8)) then (if ((bits .and .u32 sum_4 1) == 1) then some (.inl ((bits .xor .u32 (shrI .u32 sum_4 1) 3558460437), (wk .i64 (x19 + 1))))
  else some (.inl ((shrI .u32 sum_4 1), (wk .i64 (x19 + 1)))))
  else some (.inr sum_4))
noncomputable def impl_SumMore_l1 (text : ByteArray) (sum_2 : Int) (i : Int) : Option ((Int × Int) ⊕ (Int)) :=
  (if (decide (i < (text.size : Int))) then (sidx text i).bind fun x16 => (loopM (fun (s' : Int × Int) => impl_SumMore_l2 s'.1 s'.2) ((bits .xor .u32 sum_2 (wk .u32 x16)), 0)).bind fun p_1 => impl_SumMore_j2 i p_1
  else some (.inr sum_2))
noncomputable def impl_SumMore (sum : Int) (text : ByteArray) : Option Int :=
  (loopM (fun (s' : Int × Int) => impl_SumMore_l1 text s'.1 s'.2) (sum, 0)).bind fun p => impl_SumMore_j1 p
noncomputable def impl_SumOf (text : ByteArray) : Option Int :=
  (impl_SumMore 4294967295 text).bind fun x4 => some x4
noncomputable def impl_sumText (text : ByteArray) : Option ByteArray :=
  (impl_SumOf text).bind fun x5 => some (mkS [(wk .u8 (shrI .u32 x5 24)), (wk .u8 (shrI .u32 x5 16)), (wk .u8 (shrI .u32 x5 8)), (wk .u8 x5)])
noncomputable def impl_Sealed (text : ByteArray) : Option (ByteArray × Bool) :=
  (if (decide ((text.size : Int) > 60000)) then some ((ByteArray.mk #[]), false)
  else (impl_sumText text).bind fun x9 => (sapp text x9).bind fun t => some (t, true))
noncomputable def impl_IntentText_j1 (b : ByteArray) : Option (ByteArray × Bool) :=
  (strings_Builder_String b).bind fun x25 => (impl_Sealed x25).bind fun x26 => some (x26.1, x26.2)
noncomputable def impl_IntentText_l1 (names : List ByteArray) (x17 : Int) (b_1 : ByteArray) : Option ((Int × ByteArray) ⊕ (ByteArray)) :=
  (if (decide (x17 < (names.length : Int))) then (geti names x17).bind fun x => (impl_shortText x).bind fun x22 => (strings_Builder_WriteString b_1 x22).bind fun x23 => some (.inl ((wk .i64 (x17 + 1)), x23))
  else some (.inr b_1))
noncomputable def impl_IntentText (names : List ByteArray) : Option (ByteArray × Bool) :=
  (impl_intentOk names).bind fun x8 => (if (!x8) then some ((ByteArray.mk #[]), false)
  else (impl_varText (names.length : Int)).bind fun x12 => (sapp (ByteArray.mk #[84, 73, 49]) x12).bind fun t => (strings_Builder_WriteString (ByteArray.mk #[]) t).bind fun x14 => (loopM (fun (s' : Int × ByteArray) => impl_IntentText_l1 names s'.1 s'.2) (0, x14)).bind fun p => impl_IntentText_j1 p)
noncomputable def impl_Unsealed (text : ByteArray) : Option (ByteArray × Bool) :=
  (if (decide ((wk .i64 ((text.size : Int) - 4)) < 0)) then some true else some (decide ((wk .i64 ((text.size : Int) - 4)) > 60000))).bind fun b => (if b then some true else (subH text (wk .i64 ((text.size : Int) - 4))).bind fun x17 => (impl_sumText x17).bind fun x18 => (subL text (wk .i64 ((text.size : Int) - 4))).bind fun x21 => some (!(x18.toList == x21.toList))).bind fun b_1 => (if b_1 then some ((ByteArray.mk #[]), false)
  else (subH text (wk .i64 ((text.size : Int) - 4))).bind fun x26 => some (x26, true))
noncomputable def impl_scanner_take (s : T_impl_scanner) (n : Int) : Option (ByteArray × T_impl_scanner) :=
  (if s.bad then some true else some (decide (n > (wk .i64 ((s.text.size : Int) - s.at_))))).bind fun b => (if b then some ((ByteArray.mk #[]), (T_impl_scanner.mk s.text s.at_ true))
  else (sub2 s.text (wk .i64 ((wk .i64 (s.at_ + n)) - n)) (wk .i64 (s.at_ + n))).bind fun x48 => some (x48, (T_impl_scanner.mk s.text (wk .i64 (s.at_ + n)) s.bad)))
noncomputable def impl_scanner_mark (s : T_impl_scanner) (mark : ByteArray) : Option T_impl_scanner :=
  (impl_scanner_take (T_impl_scanner.mk s.text s.at_ s.bad) (mark.size : Int)).bind fun x7 => (if (!(x7.1.toList == mark.toList)) then some (T_impl_scanner.mk x7.2.text x7.2.at_ true)
  else some (T_impl_scanner.mk x7.2.text x7.2.at_ x7.2.bad))
noncomputable def impl_ReadVar_j1 : Option (Int × Int × Bool) :=
  some (0, 0, false)
noncomputable def impl_ReadVar_l1 (text : ByteArray) (at_ : Int) (n : Int) (unit : Int) (i : Int) : Option ((Int × Int × Int) ⊕ ((Int × Int × Bool) ⊕ (Unit))) :=
  (if (decide (i < 5)) then some (decide ((wk .i64 (at_ + i)) < (text.size : Int))) else some false).bind fun b_1 => (if b_1 then (sidx text (wk .i64 (at_ + i))).bind fun x35 => (if (decide ((wk .i64 x35) ≥ 128)) then some (.inl ((wk .i64 (n + (wk .i64 (((wk .i64 x35).tmod 128) * unit)))), (wk .i64 (unit * 128)), (wk .i64 (i + 1))))
  else (if ((wk .i64 x35) == 0) then some (decide (i > 0)) else some false).bind fun b_2 => (if b_2 then some true else some (decide ((wk .i64 (n + (wk .i64 (((wk .i64 x35).tmod 128) * unit)))) > 1000000000))).bind fun b_3 => (if b_3 then some (.inr (.inl (0, 0, false)))
  else some (.inr (.inl ((wk .i64 (n + (wk .i64 (((wk .i64 x35).tmod 128) * unit)))), (wk .i64 ((wk .i64 (at_ + i)) + 1)), true)))))
  else some (.inr (.inr ())))
noncomputable def impl_ReadVar (text : ByteArray) (at_ : Int) : Option (Int × Int × Bool) :=
  (if (decide (at_ < 0)) then some true else some (decide (at_ > (text.size : Int)))).bind fun b => (if b then some (0, 0, false)
  else (loopM (fun (s' : Int × Int × Int) => impl_ReadVar_l1 text at_ s'.1 s'.2.1 s'.2.2) (0, 1, 0)).bind fun p => (match p with | .inl c' => some c' | .inr q => impl_ReadVar_j1))
noncomputable def impl_scanner_number (s : T_impl_scanner) : Option (Int × T_impl_scanner) :=
  (impl_ReadVar s.text s.at_).bind fun x15 => (if s.bad then some true else some (!x15.2.2)).bind fun b => (if b then some (0, (T_impl_scanner.mk s.text s.at_ true))
  else some (x15.1, (T_impl_scanner.mk s.text x15.2.1 s.bad)))
noncomputable def impl_scanner_count (s : T_impl_scanner) (most : Int) : Option (Int × T_impl_scanner) :=
  (impl_scanner_number (T_impl_scanner.mk s.text s.at_ s.bad)).bind fun x7 => (if (decide (x7.1 > most)) then some (0, (T_impl_scanner.mk x7.2.text x7.2.at_ true))
  else some (x7.1, (T_impl_scanner.mk x7.2.text x7.2.at_ x7.2.bad)))
noncomputable def impl_scanner_short_j1 (x5 : Int × T_impl_scanner) (s_1 : Bool) : Option (ByteArray × T_impl_scanner) :=
  (impl_scanner_take (T_impl_scanner.mk x5.2.text x5.2.at_ s_1) x5.1).bind fun x13 => some (x13.1, (T_impl_scanner.mk x13.2.text x13.2.at_ x13.2.bad))
noncomputable def impl_scanner_short (s : T_impl_scanner) : Option (ByteArray × T_impl_scanner) :=
  (impl_scanner_number (T_impl_scanner.mk s.text s.at_ s.bad)).bind fun x5 => (if (decide (x5.1 > 60000)) then impl_scanner_short_j1 x5 true
  else impl_scanner_short_j1 x5 x5.2.bad)
noncomputable def impl_scanner_done (s : T_impl_scanner) : Option Bool :=
  (if (!s.bad) then some (s.at_ == (s.text.size : Int)) else some false).bind fun b => some b
noncomputable def impl_ReadIntent_j1 (s : ByteArray) (s_1 : Int) (s_2 : Bool) (names : List ByteArray) : Option ((List ByteArray) × Bool) :=
  (impl_scanner_done (T_impl_scanner.mk s s_1 s_2)).bind fun x28 => (if (!x28) then some true else (impl_intentOk names).bind fun x32 => some (!x32)).bind fun b => (if b then some ([], false)
  else some (names, true))
noncomputable def impl_ReadIntent_l1 (x19 : Int × T_impl_scanner) (x20 : Int) (s_3 : ByteArray) (s_4 : Int) (s_5 : Bool) (names_1 : List ByteArray) : Option ((Int × ByteArray × Int × Bool × (List ByteArray)) ⊕ (ByteArray × Int × Bool × (List ByteArray))) :=
  (if (decide (x20 < x19.1)) then (impl_scanner_short (T_impl_scanner.mk s_3 s_4 s_5)).bind fun x22 => (appn names_1 [x22.1]).bind fun l => some (.inl ((wk .i64 (x20 + 1)), x22.2.text, x22.2.at_, x22.2.bad, l))
  else some (.inr (s_3, s_4, s_5, names_1)))
noncomputable def impl_ReadIntent (text : ByteArray) : Option ((List ByteArray) × Bool) :=
  (impl_Unsealed text).bind fun x11 => (impl_scanner_mark (T_impl_scanner.mk x11.1 0 (!x11.2)) (ByteArray.mk #[84, 73, 49])).bind fun x18 => (impl_scanner_count (T_impl_scanner.mk x18.text x18.at_ x18.bad) 13).bind fun x19 => (loopM (fun (s' : Int × ByteArray × Int × Bool × (List ByteArray)) => impl_ReadIntent_l1 x19 s'.1 s'.2.1 s'.2.2.1 s'.2.2.2.1 s'.2.2.2.2) (0, x19.2.text, x19.2.at_, x19.2.bad, [])).bind fun p => impl_ReadIntent_j1 p.1 p.2.1 p.2.2.1 p.2.2.2
noncomputable def laws_sameTexts_j1 : Option (Bool) :=
  some true
noncomputable def laws_sameTexts_l1 (a : List ByteArray) (b : List ByteArray) (i : Int) : Option ((Int) ⊕ ((Bool) ⊕ (Unit))) :=
  (if (decide (i < (a.length : Int))) then (geti a i).bind fun x => (geti b i).bind fun x_1 => (if (!(x.toList == x_1.toList)) then some (.inr (.inl false))
  else some (.inl (wk .i64 (i + 1))))
  else some (.inr (.inr ())))
noncomputable def laws_sameTexts (a : List ByteArray) (b : List ByteArray) : Option Bool :=
  (if ((a.length : Int) != (b.length : Int)) then some false
  else (loopM (fun (s' : Int) => laws_sameTexts_l1 a b s') (0)).bind fun p => (match p with | .inl c' => some c' | .inr q => laws_sameTexts_j1))
noncomputable def spec_DrawPlaces_j1 (out_ : List Int) : Option ((List Int)) :=
  some out_
noncomputable def spec_DrawPlaces_l1 (i : Int) (c : List Int) (c_1 : Int) (c_2 : Int) (out__1 : List Int) : Option ((Int × (List Int) × Int × Int × (List Int)) ⊕ ((List Int))) :=
  (if (decide (i < 12)) then (spec_l01Below (T_spec_l01Cur.mk c c_1 c_2) 10000).bind fun x17 => (appn out__1 [x17.1]).bind fun l => some (.inl ((wk .i64 (i + 1)), x17.2.b, x17.2.i, x17.2.h, l))
  else some (.inr out__1))
noncomputable def spec_DrawPlaces (code : List Int) : Option (List Int) :=
  (spec_l01New code).bind fun x7 => (spec_l01Byte (T_spec_l01Cur.mk x7.b x7.i x7.h)).bind fun x9 => (loopM (fun (s' : Int × (List Int) × Int × Int × (List Int)) => spec_DrawPlaces_l1 s'.1 s'.2.1 s'.2.2.1 s'.2.2.2.1 s'.2.2.2.2) (0, x9.2.b, x9.2.i, x9.2.h, [])).bind fun p => spec_DrawPlaces_j1 p
noncomputable def laws_FnIntents_j1 (code : List Int) (names : List ByteArray) : Option (Bool) :=
  (impl_IntentText names).bind fun x31 => (impl_ReadIntent x31.1).bind fun x36 => (if (!x31.2) then some true else some (!x36.2)).bind fun b => (if b then some true else (laws_sameTexts x36.1 names).bind fun x48 => some (!x48)).bind fun b_1 => (if b_1 then some true else some ((x31.1.size : Int) == 0)).bind fun b_2 => (if b_2 then some false
  else (spec_DrawPlaces code).bind fun x57 => (geti x57 0).bind fun x => (chk (¬ ((bytesL x31.1).length : Int) = 0)).bind fun u => (geti (bytesL x31.1) (x.tmod ((bytesL x31.1).length : Int))).bind fun x_1 => (geti x57 1).bind fun x_2 => (impl_ReadIntent (mkS ((bytesL x31.1).set ((x.tmod ((bytesL x31.1).length : Int)).toNat) (bits .xor .u8 x_1 (wk .u8 (wk .i64 (1 + (x_2.tmod 255)))))))).bind fun x83 => (geti x57 2).bind fun x_3 => (chk (¬ (x31.1.size : Int) = 0)).bind fun u_1 => (subH x31.1 (x_3.tmod (x31.1.size : Int))).bind fun x94 => (impl_ReadIntent x94).bind fun x95 => (if (!x83.2) then some (!x95.2) else some false).bind fun b_3 => some b_3)
noncomputable def laws_FnIntents (code : List Int) : Option Bool :=
  (laws_big code).bind fun x18 => (if x18 then some true
  else (spec_DrawIntentText code).bind fun x20 => (spec_IntentText x20).bind fun x23 => (if (!x23.2) then laws_FnIntents_j1 code [(ByteArray.mk #[99, 111, 109, 109, 105, 116, 115]), (ByteArray.mk #[119, 48]), (ByteArray.mk #[119, 49, 48]), (ByteArray.mk #[119, 50])]
  else laws_FnIntents_j1 code x20))
noncomputable def spec_Unsealed (text : ByteArray) : Option (ByteArray × Bool) :=
  (if (decide ((wk .i64 ((text.size : Int) - 4)) < 0)) then some true else some (decide ((wk .i64 ((text.size : Int) - 4)) > 60000))).bind fun b => (if b then some true else (subL text (wk .i64 ((text.size : Int) - 4))).bind fun x17 => (subH text (wk .i64 ((text.size : Int) - 4))).bind fun x20 => (spec_SumOf x20).bind fun x21 => (spec_l02Four x21).bind fun x22 => some (!(x17.toList == x22.toList))).bind fun b_1 => (if b_1 then some ((ByteArray.mk #[]), false)
  else (subH text (wk .i64 ((text.size : Int) - 4))).bind fun x27 => some (x27, true))
noncomputable def spec_l08Take (c : T_spec_l08Cur) (n : Int) : Option (ByteArray × T_spec_l08Cur) :=
  (if c.bad then some true else some (decide (n > (wk .i64 ((c.text.size : Int) - c.at_))))).bind fun b => (if b then some ((ByteArray.mk #[]), (T_spec_l08Cur.mk c.text c.at_ true))
  else (sub2 c.text (wk .i64 ((wk .i64 (c.at_ + n)) - n)) (wk .i64 (c.at_ + n))).bind fun x49 => some (x49, (T_spec_l08Cur.mk c.text (wk .i64 (c.at_ + n)) c.bad)))
noncomputable def spec_ReadVar_j1 : Option (Int × Int × Bool) :=
  some (0, 0, false)
noncomputable def spec_ReadVar_l1 (text : ByteArray) (at_ : Int) (n : Int) (scale : Int) (i : Int) : Option ((Int × Int × Int) ⊕ ((Int × Int × Bool) ⊕ (Unit))) :=
  (if (decide (i < (text.size : Int))) then some (decide (i < (wk .i64 (at_ + 5)))) else some false).bind fun b => (if b then (sidx text i).bind fun x31 => (if (decide (x31 < 128)) then (if (decide ((wk .i64 (n + (wk .i64 (((wk .i64 x31).tmod 128) * scale)))) > 1000000000)) then some true else (spec_l01Var (wk .i64 (n + (wk .i64 (((wk .i64 x31).tmod 128) * scale))))).bind fun x47 => (sub2 text at_ (wk .i64 (i + 1))).bind fun x52 => some (!(x47.toList == x52.toList))).bind fun b_1 => (if b_1 then some (.inr (.inl (0, 0, false)))
  else some (.inr (.inl ((wk .i64 (n + (wk .i64 (((wk .i64 x31).tmod 128) * scale)))), (wk .i64 (i + 1)), true))))
  else some (.inl ((wk .i64 (n + (wk .i64 (((wk .i64 x31).tmod 128) * scale)))), (wk .i64 (scale * 128)), (wk .i64 (i + 1)))))
  else some (.inr (.inr ())))
noncomputable def spec_ReadVar (text : ByteArray) (at_ : Int) : Option (Int × Int × Bool) :=
  (spec_l01In at_ 0 (text.size : Int)).bind fun x13 => (if (!x13) then some (0, 0, false)
  else (loopM (fun (s' : Int × Int × Int) => spec_ReadVar_l1 text at_ s'.1 s'.2.1 s'.2.2) (0, 1, at_)).bind fun p => (match p with | .inl c' => some c' | .inr q => spec_ReadVar_j1))
noncomputable def spec_l08Var (c : T_spec_l08Cur) (most : Int) : Option (Int × T_spec_l08Cur) :=
  (spec_ReadVar c.text c.at_).bind fun x17 => (if c.bad then some true else some (!x17.2.2)).bind fun b => (if b then some true else some (decide (x17.1 > most))).bind fun b_1 => (if b_1 then some (0, (T_spec_l08Cur.mk c.text c.at_ true))
  else some (x17.1, (T_spec_l08Cur.mk c.text x17.2.1 c.bad)))
noncomputable def spec_ReadShort (text : ByteArray) (at_ : Int) : Option (ByteArray × Int × Bool) :=
  (spec_ReadVar text at_).bind fun x13 => (if (!x13.2.2) then some true else some (decide (x13.1 > 60000))).bind fun b => (if b then some true else some (decide (x13.1 > (wk .i64 ((text.size : Int) - x13.2.1))))).bind fun b_1 => (if b_1 then some ((ByteArray.mk #[]), 0, false)
  else (sub2 text x13.2.1 (wk .i64 (x13.2.1 + x13.1))).bind fun x36 => some (x36, (wk .i64 (x13.2.1 + x13.1)), true))
noncomputable def spec_l08Short (c : T_spec_l08Cur) : Option (ByteArray × T_spec_l08Cur) :=
  (spec_ReadShort c.text c.at_).bind fun x15 => (if c.bad then some true else some (!x15.2.2)).bind fun b => (if b then some ((ByteArray.mk #[]), (T_spec_l08Cur.mk c.text c.at_ true))
  else some (x15.1, (T_spec_l08Cur.mk c.text x15.2.1 c.bad)))
noncomputable def spec_ReadIntent_j1 (text : ByteArray) (c : ByteArray) (c_1 : Int) (c_2 : Bool) (out_ : List ByteArray) : Option ((List ByteArray) × Bool) :=
  (spec_IntentText out_).bind fun x46 => (if c_2 then some true else some (!x46.2)).bind fun b => (if b then some true else some (!(x46.1.toList == text.toList))).bind fun b_1 => (if b_1 then some ([], false)
  else some (out_, true))
noncomputable def spec_ReadIntent_l1 (x25 : Int × T_spec_l08Cur) (i : Int) (c_3 : ByteArray) (c_4 : Int) (c_5 : Bool) (out__1 : List ByteArray) : Option ((Int × ByteArray × Int × Bool × (List ByteArray)) ⊕ (ByteArray × Int × Bool × (List ByteArray))) :=
  (if (decide (i < x25.1)) then some (!c_5) else some false).bind fun b_2 => (if b_2 then (spec_l08Short (T_spec_l08Cur.mk c_3 c_4 c_5)).bind fun x41 => (appn out__1 [x41.1]).bind fun l => some (.inl ((wk .i64 (i + 1)), x41.2.text, x41.2.at_, x41.2.bad, l))
  else some (.inr (c_3, c_4, c_5, out__1)))
noncomputable def spec_ReadIntent (text : ByteArray) : Option ((List ByteArray) × Bool) :=
  (spec_Unsealed text).bind fun x14 => (spec_l08Take (T_spec_l08Cur.mk x14.1 0 (!x14.2)) 3).bind fun x23 => (spec_l08Var (T_spec_l08Cur.mk x23.2.text x23.2.at_ x23.2.bad) 13).bind fun x25 => (loopM (fun (s' : Int × ByteArray × Int × Bool × (List ByteArray)) => spec_ReadIntent_l1 x25 s'.1 s'.2.1 s'.2.2.1 s'.2.2.2.1 s'.2.2.2.2) (0, x25.2.text, x25.2.at_, x25.2.bad, [])).bind fun p => spec_ReadIntent_j1 text p.1 p.2.1 p.2.2.1 p.2.2.2
end Go.TV.F
