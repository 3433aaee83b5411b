/- Structures and their rows. -/
import Derived.Test.YthfhiepgdeghpaaDoorKFnExactShowToldT5
set_option linter.unusedVariables false
set_option linter.unusedSimpArgs false
set_option maxHeartbeats 8000000
set_option maxRecDepth 100000
namespace Go.TV
structure T_laws_Told where
  Kind : Int
  Code : Int
  Number : Int
  Lines : List ByteArray
  deriving Inhabited
structure T_impl_Told where
  Kind : Int
  Code : Int
  Number : Int
  Lines : List ByteArray
  deriving Inhabited
theorem R_s : (∀ (l : List ByteArray) (i : Nat) (a0 : ByteArray), (List.map rS l).set i [.sc (.string a0)] = List.map rS (l.set i a0)) ∧
  (∀ (l : List ByteArray) (a0 : ByteArray), List.map rS l ++ [[.sc (.string a0)]] = List.map rS (l ++ [a0])) ∧
  (∀ (l : List ByteArray) (b0 b1 : ByteArray), List.map rS l ++ [[.sc (.string b0)], [.sc (.string b1)]] = List.map rS (l ++ [b0, b1])) ∧
  (∀ (l : List ByteArray) (b0 b1 b2 : ByteArray), List.map rS l ++ [[.sc (.string b0)], [.sc (.string b1)], [.sc (.string b2)]] = List.map rS (l ++ [b0, b1, b2])) ∧
  (∀ (l : List ByteArray) (b0 b1 b2 b3 : ByteArray), List.map rS l ++ [[.sc (.string b0)], [.sc (.string b1)], [.sc (.string b2)], [.sc (.string b3)]] = List.map rS (l ++ [b0, b1, b2, b3])) ∧
  (∀ n : Nat, List.replicate n [.sc (.string (ByteArray.mk #[]))] = List.map rS (List.replicate n (ByteArray.mk #[]))) ∧
  (∀ l : List ByteArray, borRows (List.map rS l) = List.map rS l) ∧
  (∀ l : List ByteArray, aliveRows (List.map rS l) = true) ∧
  (∀ l : List ByteArray, noBorRows (List.map rS l) = true) :=
  ⟨fun l i a0 => set_rows rS l i a0,
  fun l a0 => app_rows rS l [a0],
  fun l b0 b1 => app_rows rS l [b0, b1],
  fun l b0 b1 b2 => app_rows rS l [b0, b1, b2],
  fun l b0 b1 b2 b3 => app_rows rS l [b0, b1, b2, b3],
  fun n => rep_rows rS (ByteArray.mk #[]) n,
  bor_rows (fun _ => rfl),
  alRows (fun _ => rfl),
  nb_rows (fun _ => rfl)⟩
def r_T_laws_Told (o : Bool) (x : T_laws_Told) : List V := [.sc (.int .i64 x.Kind), .sc (.int .i64 x.Code), .sc (.int .i64 x.Number), .list o 1 (List.map rS x.Lines)]
theorem R_u8 : (∀ (l : List Int) (i : Nat) (a0 : Int), (List.map (rK .u8) l).set i [.sc (.int .u8 a0)] = List.map (rK .u8) (l.set i a0)) ∧
  (∀ (l : List Int) (a0 : Int), List.map (rK .u8) l ++ [[.sc (.int .u8 a0)]] = List.map (rK .u8) (l ++ [a0])) ∧
  (∀ (l : List Int) (b0 b1 : Int), List.map (rK .u8) l ++ [[.sc (.int .u8 b0)], [.sc (.int .u8 b1)]] = List.map (rK .u8) (l ++ [b0, b1])) ∧
  (∀ (l : List Int) (b0 b1 b2 : Int), List.map (rK .u8) l ++ [[.sc (.int .u8 b0)], [.sc (.int .u8 b1)], [.sc (.int .u8 b2)]] = List.map (rK .u8) (l ++ [b0, b1, b2])) ∧
  (∀ (l : List Int) (b0 b1 b2 b3 : Int), List.map (rK .u8) l ++ [[.sc (.int .u8 b0)], [.sc (.int .u8 b1)], [.sc (.int .u8 b2)], [.sc (.int .u8 b3)]] = List.map (rK .u8) (l ++ [b0, b1, b2, b3])) ∧
  (∀ n : Nat, List.replicate n [.sc (.int .u8 0)] = List.map (rK .u8) (List.replicate n 0)) ∧
  (∀ l : List Int, borRows (List.map (rK .u8) l) = List.map (rK .u8) l) ∧
  (∀ l : List Int, aliveRows (List.map (rK .u8) l) = true) ∧
  (∀ l : List Int, noBorRows (List.map (rK .u8) l) = true) :=
  ⟨fun l i a0 => set_rows (rK .u8) l i a0,
  fun l a0 => app_rows (rK .u8) l [a0],
  fun l b0 b1 => app_rows (rK .u8) l [b0, b1],
  fun l b0 b1 b2 => app_rows (rK .u8) l [b0, b1, b2],
  fun l b0 b1 b2 b3 => app_rows (rK .u8) l [b0, b1, b2, b3],
  fun n => rep_rows (rK .u8) 0 n,
  bor_rows (fun _ => rfl),
  alRows (fun _ => rfl),
  nb_rows (fun _ => rfl)⟩
end Go.TV
namespace Go.TV
structure T_laws_Change where
  Kind : Int
  Path : ByteArray
  To : ByteArray
  Lines : List ByteArray
  deriving Inhabited
structure T_laws_Step where
  Parents : List Int
  Note : ByteArray
  Changes : List T_laws_Change
  deriving Inhabited
structure T_impl_Change where
  Kind : Int
  Path : ByteArray
  To : ByteArray
  Lines : List ByteArray
  deriving Inhabited
structure T_impl_Step where
  Parents : List Int
  Note : ByteArray
  Changes : List T_impl_Change
  deriving Inhabited
end Go.TV
namespace Go.TV.F
noncomputable def laws_szStringS_j1 (left_1 : Int) : Option (Int) :=
  some left_1
noncomputable def laws_szStringS_l1 (a : List ByteArray) (left_2 : Int) (i : Int) : Option ((Int × Int) ⊕ ((Int) ⊕ (Int))) :=
  (if (decide (i < (a.length : Int))) then (geti a i).bind fun x => (if (decide ((wk .i64 (left_2 - (x.size : Int))) < 0)) then some (.inr (.inl (-1)))
  else some (.inl ((wk .i64 (left_2 - (x.size : Int))), (wk .i64 (i + 1)))))
  else some (.inr (.inr left_2)))
noncomputable def laws_szStringS (a : List ByteArray) (left : Int) : Option Int :=
  (if (decide ((wk .i64 (left - (a.length : Int))) < 0)) then some (-1)
  else (loopM (fun (s' : Int × Int) => laws_szStringS_l1 a s'.1 s'.2) ((wk .i64 (left - (a.length : Int))), 0)).bind fun p => (match p with | .inl c' => some c' | .inr q => laws_szStringS_j1 q))
noncomputable def laws_szTold (a : T_laws_Told) (left : Int) : Option Int :=
  (laws_szStringS a.Lines left).bind fun x8 => (if (decide (x8 < 0)) then some (-1)
  else some x8)
noncomputable def laws_toStringS_j1 (out_ : List ByteArray) : Option ((List ByteArray)) :=
  some out_
noncomputable def laws_toStringS_l1 (a : List ByteArray) (i : Int) (out__1 : List ByteArray) : Option ((Int × (List ByteArray)) ⊕ ((List ByteArray))) :=
  (if (decide (i < (a.length : Int))) then (geti a i).bind fun x => (geti out__1 i).bind fun x_1 => some (.inl ((wk .i64 (i + 1)), (out__1.set i.toNat x)))
  else some (.inr out__1))
noncomputable def laws_toStringS (a : List ByteArray) : Option (List ByteArray) :=
  ((mkl (a.length : Int) (a.length : Int) (ByteArray.mk #[]) : Option (List ByteArray))).bind fun x7 => (loopM (fun (s' : Int × (List ByteArray)) => laws_toStringS_l1 a s'.1 s'.2) (0, x7)).bind fun p => laws_toStringS_j1 p
noncomputable def laws_toTold (a : T_laws_Told) : Option T_impl_Told :=
  (laws_toStringS a.Lines).bind fun x15 => some (T_impl_Told.mk a.Kind a.Code a.Number x15)
noncomputable def spec_l01In (x : Int) (least : Int) (most : Int) : Option Bool :=
  (if (decide (x ≥ least)) then some (decide (x ≤ most)) else some false).bind fun b => some b
noncomputable def spec_l01Figure (x : Int) : Option Int :=
  (if (decide (x < 10)) then some (wk .u8 (wk .i64 (48 + x)))
  else some (wk .u8 (wk .i64 ((wk .i64 (97 + x)) - 10))))
noncomputable def spec_Decimal_j1 (n : Int) (s : ByteArray) : Option (ByteArray) :=
  (if (decide (n < 0)) then (sapp (ByteArray.mk #[45]) s).bind fun t => some t
  else some s)
noncomputable def spec_Decimal_j2 (n_1 : Int) (s_1 : ByteArray) (d : Int) : Option ((Int × ByteArray) ⊕ (ByteArray)) :=
  (spec_l01Figure d).bind fun x19 => (sapp (mkS [x19]) s_1).bind fun t_1 => some (.inl ((wk .i64 (n_1.tdiv 10)), t_1))
noncomputable def spec_Decimal_l1 (n_1 : Int) (s_1 : ByteArray) : Option ((Int × ByteArray) ⊕ (ByteArray)) :=
  (if (n_1 != 0) then (if (decide ((n_1.tmod 10) < 0)) then spec_Decimal_j2 n_1 s_1 (wk .i64 (0 - (n_1.tmod 10)))
  else spec_Decimal_j2 n_1 s_1 (n_1.tmod 10))
  else some (.inr s_1))
noncomputable def spec_Decimal (n : Int) : Option ByteArray :=
  (if (n == 0) then some (ByteArray.mk #[48])
  else (loopM (fun (s' : Int × ByteArray) => spec_Decimal_l1 s'.1 s'.2) (n, (ByteArray.mk #[]))).bind fun p => spec_Decimal_j1 n p)
noncomputable def spec_ShowTold_j2 (out_ : List Int) : Option (ByteArray) :=
  some (mkS out_)
noncomputable def spec_ShowTold_l1 (t : T_impl_Told) (i : Int) (out__1 : List Int) : Option ((Int × (List Int)) ⊕ ((List Int))) :=
  (if (decide (i < (t.Lines.length : Int))) then some (decide (i < 300)) else some false).bind fun b => (if b then (geti t.Lines i).bind fun x => (sapp (ByteArray.mk #[124, 32]) x).bind fun t_6 => (sapp t_6 (ByteArray.mk #[10])).bind fun t_7 => (appn out__1 (bytesL t_7)).bind fun l => some (.inl ((wk .i64 (i + 1)), l))
  else some (.inr out__1))
noncomputable def spec_ShowTold_j1 (t : T_impl_Told) (s : ByteArray) : Option (ByteArray) :=
  (sapp s (ByteArray.mk #[32])).bind fun t_1 => (spec_Decimal t.Code).bind fun x20 => (sapp t_1 x20).bind fun t_2 => (sapp t_2 (ByteArray.mk #[32])).bind fun t_3 => (spec_Decimal t.Number).bind fun x25 => (sapp t_3 x25).bind fun t_4 => (sapp t_4 (ByteArray.mk #[10])).bind fun t_5 => (loopM (fun (s' : Int × (List Int)) => spec_ShowTold_l1 t s'.1 s'.2) (0, (bytesL t_5))).bind fun p => spec_ShowTold_j2 p
noncomputable def spec_ShowTold (t : T_impl_Told) : Option ByteArray :=
  (spec_l01In t.Kind 1 5).bind fun x10 => (if x10 then (geti [(ByteArray.mk #[110, 111, 110, 101]), (ByteArray.mk #[99, 111, 109, 109, 105, 116]), (ByteArray.mk #[116, 101, 120, 116]), (ByteArray.mk #[110, 111, 116, 101, 115]), (ByteArray.mk #[109, 101, 114, 103, 101]), (ByteArray.mk #[110, 97, 109, 101, 115])] t.Kind).bind fun x_1 => spec_ShowTold_j1 t x_1
  else spec_ShowTold_j1 t (ByteArray.mk #[110, 111, 110, 101]))
noncomputable def impl_kindName (kind : Int) : Option ByteArray :=
  (if (kind == 1) then some (ByteArray.mk #[99, 111, 109, 109, 105, 116])
  else (if (kind == 2) then some (ByteArray.mk #[116, 101, 120, 116])
  else (if (kind == 3) then some (ByteArray.mk #[110, 111, 116, 101, 115])
  else (if (kind == 4) then some (ByteArray.mk #[109, 101, 114, 103, 101])
  else (if (kind == 5) then some (ByteArray.mk #[110, 97, 109, 101, 115])
  else some (ByteArray.mk #[110, 111, 110, 101]))))))
noncomputable def strconv_Itoa (i : Int) : Option ByteArray :=
  if -9223372036854775808 ≤ i ∧ i ≤ 9223372036854775807 then some ⟨(Go.Lib.itoa i).toArray⟩ else none
noncomputable def impl_Decimal (n : Int) : Option ByteArray :=
  (strconv_Itoa n).bind fun x4 => some x4
noncomputable def strings_Builder_WriteString (b : ByteArray) (x : ByteArray) : Option (ByteArray) :=
  if b.size + x.size ≤ 549755813888 then some (b ++ x) else none
noncomputable def strings_Builder_String (b : ByteArray) : Option (ByteArray) :=
  some b
noncomputable def impl_ShowTold_j1 (b : ByteArray) : Option (ByteArray) :=
  (strings_Builder_String b).bind fun x38 => some x38
noncomputable def impl_ShowTold_l1 (x27 : List ByteArray) (x29 : Int) (b_1 : ByteArray) : Option ((Int × ByteArray) ⊕ (ByteArray)) :=
  (if (decide (x29 < (x27.length : Int))) then (geti x27 x29).bind fun x => (sapp (ByteArray.mk #[124, 32]) x).bind fun t_6 => (sapp t_6 (ByteArray.mk #[10])).bind fun t_7 => (strings_Builder_WriteString b_1 t_7).bind fun x36 => some (.inl ((wk .i64 (x29 + 1)), x36))
  else some (.inr b_1))
noncomputable def impl_ShowTold (t : T_impl_Told) : Option ByteArray :=
  (impl_kindName t.Kind).bind fun x8 => (sapp x8 (ByteArray.mk #[32])).bind fun t_1 => (impl_Decimal t.Code).bind fun x12 => (sapp t_1 x12).bind fun t_2 => (sapp t_2 (ByteArray.mk #[32])).bind fun t_3 => (impl_Decimal t.Number).bind fun x17 => (sapp t_3 x17).bind fun t_4 => (sapp t_4 (ByteArray.mk #[10])).bind fun t_5 => (strings_Builder_WriteString (ByteArray.mk #[]) t_5).bind fun x20 => (cutH t.Lines (if 300 < (t.Lines.length : Int) then 300 else (t.Lines.length : Int))).bind fun x27 => (loopM (fun (s' : Int × ByteArray) => impl_ShowTold_l1 x27 s'.1 s'.2) (0, x20)).bind fun p => impl_ShowTold_j1 p
noncomputable def laws_eqStringS_j1 : Option (Bool) :=
  some true
noncomputable def laws_eqStringS_l1 (a : List ByteArray) (b : List ByteArray) (i : Int) : Option ((Int) ⊕ ((Bool) ⊕ (Unit))) :=
  (if (decide (i < (a.length : Int))) then (geti a i).bind fun x => (geti b i).bind fun x_1 => (if (!(x.toList == x_1.toList)) then some (.inr (.inl false))
  else some (.inl (wk .i64 (i + 1))))
  else some (.inr (.inr ())))
noncomputable def laws_eqStringS (a : List ByteArray) (b : List ByteArray) : Option Bool :=
  (if ((a.length : Int) != (b.length : Int)) then some false
  else (loopM (fun (s' : Int) => laws_eqStringS_l1 a b s') (0)).bind fun p => (match p with | .inl c' => some c' | .inr q => laws_eqStringS_j1))
noncomputable def laws_eqTold (a : T_impl_Told) (b : T_impl_Told) : Option Bool :=
  (if (a.Kind != b.Kind) then some false
  else (if (a.Code != b.Code) then some false
  else (if (a.Number != b.Number) then some false
  else (laws_eqStringS a.Lines b.Lines).bind fun x24 => (if (!x24) then some false
  else some true))))
noncomputable def laws_FnExactShowTold (aT : T_laws_Told) : Option Bool :=
  (laws_szTold (T_laws_Told.mk aT.Kind aT.Code aT.Number aT.Lines) 1048576).bind fun x9 => (if (decide (x9 < 0)) then some true
  else (laws_toTold (T_laws_Told.mk aT.Kind aT.Code aT.Number aT.Lines)).bind fun x13 => (spec_ShowTold (T_impl_Told.mk x13.Kind x13.Code x13.Number x13.Lines)).bind fun x14 => (laws_toTold (T_laws_Told.mk aT.Kind aT.Code aT.Number aT.Lines)).bind fun x16 => (impl_ShowTold (T_impl_Told.mk x16.Kind x16.Code x16.Number x16.Lines)).bind fun x18 => (if (!(x18.toList == x14.toList)) then some false
  else (laws_toTold (T_laws_Told.mk aT.Kind aT.Code aT.Number aT.Lines)).bind fun x24 => (laws_eqTold (T_impl_Told.mk x16.Kind x16.Code x16.Number x16.Lines) (T_impl_Told.mk x24.Kind x24.Code x24.Number x24.Lines)).bind fun x25 => (if (!x25) then some false
  else some true)))
end Go.TV.F
