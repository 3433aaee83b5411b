/- Structures and their rows. -/
import Derived.Test.YthfhiepgdeghpaaKFnExactReadCommitsT4
set_option linter.unusedVariables false
set_option linter.unusedSimpArgs false
set_option maxHeartbeats 8000000
set_option maxRecDepth 100000
namespace Go.TV
structure T_spec_l08Cur where
  text : ByteArray
  at_ : Int
  bad : Bool
  deriving Inhabited
structure T_impl_Name where
  Path : ByteArray
  Id : Int
  Version : Int
  deriving Inhabited
structure T_impl_Commit where
  Parents : List Int
  Note : ByteArray
  Names : List T_impl_Name
  deriving Inhabited
structure T_impl_scanner where
  text : ByteArray
  at_ : Int
  bad : Bool
  deriving Inhabited
def r_T_spec_l08Cur (o : Bool) (x : T_spec_l08Cur) : List V := [.sc (.string x.text), .sc (.int .i64 x.at_), .sc (.bool x.bad)]
theorem R_u8 : (∀ (l : List Int) (i : Nat) (a0 : Int), (List.map (rK .u8) l).set i [.sc (.int .u8 a0)] = List.map (rK .u8) (l.set i a0)) ∧
  (∀ (l : List Int) (a0 : Int), List.map (rK .u8) l ++ [[.sc (.int .u8 a0)]] = List.map (rK .u8) (l ++ [a0])) ∧
  (∀ (l : List Int) (b0 b1 : Int), List.map (rK .u8) l ++ [[.sc (.int .u8 b0)], [.sc (.int .u8 b1)]] = List.map (rK .u8) (l ++ [b0, b1])) ∧
  (∀ (l : List Int) (b0 b1 b2 : Int), List.map (rK .u8) l ++ [[.sc (.int .u8 b0)], [.sc (.int .u8 b1)], [.sc (.int .u8 b2)]] = List.map (rK .u8) (l ++ [b0, b1, b2])) ∧
  (∀ (l : List Int) (b0 b1 b2 b3 : Int), List.map (rK .u8) l ++ [[.sc (.int .u8 b0)], [.sc (.int .u8 b1)], [.sc (.int .u8 b2)], [.sc (.int .u8 b3)]] = List.map (rK .u8) (l ++ [b0, b1, b2, b3])) ∧
  (∀ n : Nat, List.replicate n [.sc (.int .u8 0)] = List.map (rK .u8) (List.replicate n 0)) ∧
  (∀ l : List Int, borRows (List.map (rK .u8) l) = List.map (rK .u8) l) ∧
  (∀ l : List Int, aliveRows (List.map (rK .u8) l) = true) ∧
  (∀ l : List Int, noBorRows (List.map (rK .u8) l) = true) :=
  ⟨fun l i a0 => set_rows (rK .u8) l i a0,
  fun l a0 => app_rows (rK .u8) l [a0],
  fun l b0 b1 => app_rows (rK .u8) l [b0, b1],
  fun l b0 b1 b2 => app_rows (rK .u8) l [b0, b1, b2],
  fun l b0 b1 b2 b3 => app_rows (rK .u8) l [b0, b1, b2, b3],
  fun n => rep_rows (rK .u8) 0 n,
  bor_rows (fun _ => rfl),
  alRows (fun _ => rfl),
  nb_rows (fun _ => rfl)⟩
theorem R_i64 : (∀ (l : List Int) (i : Nat) (a0 : Int), (List.map (rK .i64) l).set i [.sc (.int .i64 a0)] = List.map (rK .i64) (l.set i a0)) ∧
  (∀ (l : List Int) (a0 : Int), List.map (rK .i64) l ++ [[.sc (.int .i64 a0)]] = List.map (rK .i64) (l ++ [a0])) ∧
  (∀ (l : List Int) (b0 b1 : Int), List.map (rK .i64) l ++ [[.sc (.int .i64 b0)], [.sc (.int .i64 b1)]] = List.map (rK .i64) (l ++ [b0, b1])) ∧
  (∀ (l : List Int) (b0 b1 b2 : Int), List.map (rK .i64) l ++ [[.sc (.int .i64 b0)], [.sc (.int .i64 b1)], [.sc (.int .i64 b2)]] = List.map (rK .i64) (l ++ [b0, b1, b2])) ∧
  (∀ (l : List Int) (b0 b1 b2 b3 : Int), List.map (rK .i64) l ++ [[.sc (.int .i64 b0)], [.sc (.int .i64 b1)], [.sc (.int .i64 b2)], [.sc (.int .i64 b3)]] = List.map (rK .i64) (l ++ [b0, b1, b2, b3])) ∧
  (∀ n : Nat, List.replicate n [.sc (.int .i64 0)] = List.map (rK .i64) (List.replicate n 0)) ∧
  (∀ l : List Int, borRows (List.map (rK .i64) l) = List.map (rK .i64) l) ∧
  (∀ l : List Int, aliveRows (List.map (rK .i64) l) = true) ∧
  (∀ l : List Int, noBorRows (List.map (rK .i64) l) = true) :=
  ⟨fun l i a0 => set_rows (rK .i64) l i a0,
  fun l a0 => app_rows (rK .i64) l [a0],
  fun l b0 b1 => app_rows (rK .i64) l [b0, b1],
  fun l b0 b1 b2 => app_rows (rK .i64) l [b0, b1, b2],
  fun l b0 b1 b2 b3 => app_rows (rK .i64) l [b0, b1, b2, b3],
  fun n => rep_rows (rK .i64) 0 n,
  bor_rows (fun _ => rfl),
  alRows (fun _ => rfl),
  nb_rows (fun _ => rfl)⟩
def r_T_impl_Name (o : Bool) (x : T_impl_Name) : List V := [.sc (.string x.Path), .sc (.int .i64 x.Id), .sc (.int .i64 x.Version)]
theorem R_T_impl_Name : (∀ (l : List T_impl_Name) (i : Nat) (a0 : ByteArray) (a1 : Int) (a2 : Int), (List.map (r_T_impl_Name true) l).set i [.sc (.string a0), .sc (.int .i64 a1), .sc (.int .i64 a2)] = List.map (r_T_impl_Name true) (l.set i (T_impl_Name.mk a0 a1 a2))) ∧
  (∀ (l : List T_impl_Name) (a0 : ByteArray) (a1 : Int) (a2 : Int), List.map (r_T_impl_Name true) l ++ [[.sc (.string a0), .sc (.int .i64 a1), .sc (.int .i64 a2)]] = List.map (r_T_impl_Name true) (l ++ [(T_impl_Name.mk a0 a1 a2)])) ∧
  (∀ n : Nat, List.replicate n [.sc (.string (ByteArray.mk #[])), .sc (.int .i64 0), .sc (.int .i64 0)] = List.map (r_T_impl_Name true) (List.replicate n (T_impl_Name.mk (ByteArray.mk #[]) 0 0))) ∧
  (∀ l : List T_impl_Name, borRows (List.map (r_T_impl_Name true) l) = List.map (r_T_impl_Name false) l) ∧
  (∀ l : List T_impl_Name, aliveRows (List.map (r_T_impl_Name true) l) = true) ∧
  (∀ l : List T_impl_Name, borRows (List.map (r_T_impl_Name false) l) = List.map (r_T_impl_Name false) l) ∧
  (∀ l : List T_impl_Name, aliveRows (List.map (r_T_impl_Name false) l) = true) ∧
  (∀ l : List T_impl_Name, noBorRows (List.map (r_T_impl_Name true) l) = true) ∧
  (∀ x : T_impl_Name, r_T_impl_Name true x = [.sc (.string x.Path), .sc (.int .i64 x.Id), .sc (.int .i64 x.Version)]) ∧
  (∀ x : T_impl_Name, r_T_impl_Name false x = [.sc (.string x.Path), .sc (.int .i64 x.Id), .sc (.int .i64 x.Version)]) :=
  ⟨fun l i a0 a1 a2 => set_rows (r_T_impl_Name true) l i (T_impl_Name.mk a0 a1 a2),
  fun l a0 a1 a2 => app_rows (r_T_impl_Name true) l [(T_impl_Name.mk a0 a1 a2)],
  fun n => rep_rows (r_T_impl_Name true) (T_impl_Name.mk (ByteArray.mk #[]) 0 0) n,
  bor_rows (fun _ => rfl),
  alRows (fun _ => rfl),
  bor_rows (fun _ => rfl),
  alRows (fun _ => rfl),
  nb_rows (fun _ => rfl),
  fun _ => rfl,
  fun _ => rfl⟩
def r_T_impl_Commit (o : Bool) (x : T_impl_Commit) : List V := [.list o 1 (List.map (rK .i64) x.Parents), .sc (.string x.Note), .list o 3 (List.map (r_T_impl_Name o) x.Names)]
theorem R_T_impl_Commit : (∀ (l : List T_impl_Commit) (i : Nat) (a0 : List Int) (a1 : ByteArray) (a2 : List T_impl_Name), (List.map (r_T_impl_Commit true) l).set i [.list true 1 (List.map (rK .i64) a0), .sc (.string a1), .list true 3 (List.map (r_T_impl_Name true) a2)] = List.map (r_T_impl_Commit true) (l.set i (T_impl_Commit.mk a0 a1 a2))) ∧
  (∀ (l : List T_impl_Commit) (a0 : List Int) (a1 : ByteArray) (a2 : List T_impl_Name), List.map (r_T_impl_Commit true) l ++ [[.list true 1 (List.map (rK .i64) a0), .sc (.string a1), .list true 3 (List.map (r_T_impl_Name true) a2)]] = List.map (r_T_impl_Commit true) (l ++ [(T_impl_Commit.mk a0 a1 a2)])) ∧
  (∀ n : Nat, List.replicate n [.list true 1 [], .sc (.string (ByteArray.mk #[])), .list true 3 []] = List.map (r_T_impl_Commit true) (List.replicate n (T_impl_Commit.mk [] (ByteArray.mk #[]) []))) ∧
  (∀ l : List T_impl_Commit, borRows (List.map (r_T_impl_Commit true) l) = List.map (r_T_impl_Commit false) l) ∧
  (∀ l : List T_impl_Commit, aliveRows (List.map (r_T_impl_Commit true) l) = true) ∧
  (∀ l : List T_impl_Commit, borRows (List.map (r_T_impl_Commit false) l) = List.map (r_T_impl_Commit false) l) ∧
  (∀ l : List T_impl_Commit, aliveRows (List.map (r_T_impl_Commit false) l) = true) ∧
  (∀ l : List T_impl_Commit, noBorRows (List.map (r_T_impl_Commit true) l) = true) ∧
  (∀ x : T_impl_Commit, r_T_impl_Commit true x = [.list true 1 (List.map (rK .i64) x.Parents), .sc (.string x.Note), .list true 3 (List.map (r_T_impl_Name true) x.Names)]) ∧
  (∀ x : T_impl_Commit, r_T_impl_Commit false x = [.list false 1 (List.map (rK .i64) x.Parents), .sc (.string x.Note), .list false 3 (List.map (r_T_impl_Name false) x.Names)]) :=
  ⟨fun l i a0 a1 a2 => set_rows (r_T_impl_Commit true) l i (T_impl_Commit.mk a0 a1 a2),
  fun l a0 a1 a2 => app_rows (r_T_impl_Commit true) l [(T_impl_Commit.mk a0 a1 a2)],
  fun n => rep_rows (r_T_impl_Commit true) (T_impl_Commit.mk [] (ByteArray.mk #[]) []) n,
  bor_rows (fun x => by simp only [r_T_impl_Commit, borRow, V.bor, (show ∀ l : List Int, borRows (List.map (rK .i64) l) = List.map (rK .i64) l from bor_rows (fun _ => rfl)), (show ∀ l : List T_impl_Name, borRows (List.map (r_T_impl_Name true) l) = List.map (r_T_impl_Name false) l from bor_rows (fun _ => rfl))]),
  alRows (fun _ => rfl),
  bor_rows (fun x => by simp only [r_T_impl_Commit, borRow, V.bor, (show ∀ l : List Int, borRows (List.map (rK .i64) l) = List.map (rK .i64) l from bor_rows (fun _ => rfl)), (show ∀ l : List T_impl_Name, borRows (List.map (r_T_impl_Name false) l) = List.map (r_T_impl_Name false) l from bor_rows (fun _ => rfl))]),
  alRows (fun _ => rfl),
  nb_rows (fun x => by simp only [r_T_impl_Commit, noBorRow, V.noBor, Bool.and_true, Bool.true_and, (show ∀ l : List Int, noBorRows (List.map (rK .i64) l) = true from nb_rows (fun _ => rfl)), (show ∀ l : List T_impl_Name, noBorRows (List.map (r_T_impl_Name true) l) = true from nb_rows (fun _ => rfl))]),
  fun _ => rfl,
  fun _ => rfl⟩
def r_T_impl_scanner (o : Bool) (x : T_impl_scanner) : List V := [.sc (.string x.text), .sc (.int .i64 x.at_), .sc (.bool x.bad)]
end Go.TV
namespace Go.TV.F
noncomputable def spec_SumMore_j1 (sum_1 : Int) : Option (Int) :=
  some sum_1
noncomputable def spec_SumMore_j2 (i : Int) (sum_3 : Int) : Option ((Int × Int) ⊕ (Int)) :=
  some (.inl (sum_3, (wk .i64 (i + 1))))
noncomputable def spec_SumMore_l2 (sum_4 : Int) (k : Int) : Option ((Int × Int) ⊕ (Int)) :=
  (if (decide (k < 8)) then (if ((sum_4.tmod 2) == 1) then some (.inl ((bits .xor .u32 (wk .u32 (sum_4.tdiv 2)) 3558460437), (wk .i64 (k + 1))))
  else some (.inl ((wk .u32 (sum_4.tdiv 2)), (wk .i64 (k + 1)))))
  else some (.inr sum_4))
noncomputable def spec_SumMore_l1 (text : ByteArray) (sum_2 : Int) (i : Int) : Option ((Int × Int) ⊕ (Int)) :=
  (if (decide (i < (text.size : Int))) then (sidx text i).bind fun x17 => (loopM (fun (s' : Int × Int) => spec_SumMore_l2 s'.1 s'.2) ((bits .xor .u32 sum_2 (wk .u32 x17)), 0)).bind fun p_1 => spec_SumMore_j2 i p_1
  else some (.inr sum_2))
noncomputable def spec_SumMore (sum : Int) (text : ByteArray) : Option Int :=
  (loopM (fun (s' : Int × Int) => spec_SumMore_l1 text s'.1 s'.2) (sum, 0)).bind fun p => spec_SumMore_j1 p
noncomputable def spec_SumOf (text : ByteArray) : Option Int :=
  (spec_SumMore 4294967295 text).bind fun x4 => some x4
noncomputable def spec_l02Four (x : Int) : Option ByteArray :=
  some (mkS [(wk .u8 (shrI .u32 x 24)), (wk .u8 (shrI .u32 x 16)), (wk .u8 (shrI .u32 x 8)), (wk .u8 x)])
noncomputable def spec_Unsealed (text : ByteArray) : Option (ByteArray × Bool) :=
  (if (decide ((wk .i64 ((text.size : Int) - 4)) < 0)) then some true else some (decide ((wk .i64 ((text.size : Int) - 4)) > 60000))).bind fun b => (if b then some true else (subL text (wk .i64 ((text.size : Int) - 4))).bind fun x17 => (subH text (wk .i64 ((text.size : Int) - 4))).bind fun x20 => (spec_SumOf x20).bind fun x21 => (spec_l02Four x21).bind fun x22 => some (!(x17.toList == x22.toList))).bind fun b_1 => (if b_1 then some ((ByteArray.mk #[]), false)
  else (subH text (wk .i64 ((text.size : Int) - 4))).bind fun x27 => some (x27, true))
noncomputable def spec_l08Take (c : T_spec_l08Cur) (n : Int) : Option (ByteArray × T_spec_l08Cur) :=
  (if c.bad then some true else some (decide (n > (wk .i64 ((c.text.size : Int) - c.at_))))).bind fun b => (if b then some ((ByteArray.mk #[]), (T_spec_l08Cur.mk c.text c.at_ true))
  else (sub2 c.text (wk .i64 ((wk .i64 (c.at_ + n)) - n)) (wk .i64 (c.at_ + n))).bind fun x49 => some (x49, (T_spec_l08Cur.mk c.text (wk .i64 (c.at_ + n)) c.bad)))
noncomputable def spec_l01In (x : Int) (least : Int) (most : Int) : Option Bool :=
  (if (decide (x ≥ least)) then some (decide (x ≤ most)) else some false).bind fun b => some b
noncomputable def spec_l01Var_j1 (n_1 : Int) (out_ : List Int) : Option (ByteArray) :=
  (appn out_ [(wk .u8 n_1)]).bind fun l => some (mkS l)
noncomputable def spec_l01Var_l1 (n_2 : Int) (out__1 : List Int) : Option ((Int × (List Int)) ⊕ (Int × (List Int))) :=
  (if (decide (n_2 > 127)) then (appn out__1 [(wk .u8 (wk .i64 ((n_2.tmod 128) + 128)))]).bind fun l_1 => some (.inl ((wk .i64 (n_2.tdiv 128)), l_1))
  else some (.inr (n_2, out__1)))
noncomputable def spec_l01Var (n : Int) : Option ByteArray :=
  (loopM (fun (s' : Int × (List Int)) => spec_l01Var_l1 s'.1 s'.2) (n, [])).bind fun p => spec_l01Var_j1 p.1 p.2
noncomputable def spec_ReadVar_j1 : Option (Int × Int × Bool) :=
  some (0, 0, false)
noncomputable def spec_ReadVar_l1 (text : ByteArray) (at_ : Int) (n : Int) (scale : Int) (i : Int) : Option ((Int × Int × Int) ⊕ ((Int × Int × Bool) ⊕ (Unit))) :=
  (if (decide (i < (text.size : Int))) then some (decide (i < (wk .i64 (at_ + 5)))) else some false).bind fun b => (if b then (sidx text i).bind fun x31 => (if (decide (x31 < 128)) then (if (decide ((wk .i64 (n + (wk .i64 (((wk .i64 x31).tmod 128) * scale)))) > 1000000000)) then some true else (spec_l01Var (wk .i64 (n + (wk .i64 (((wk .i64 x31).tmod 128) * scale))))).bind fun x47 => (sub2 text at_ (wk .i64 (i + 1))).bind fun x52 => some (!(x47.toList == x52.toList))).bind fun b_1 => (if b_1 then some (.inr (.inl (0, 0, false)))
  else some (.inr (.inl ((wk .i64 (n + (wk .i64 (((wk .i64 x31).tmod 128) * scale)))), (wk .i64 (i + 1)), true))))
  else some (.inl ((wk .i64 (n + (wk .i64 (((wk .i64 x31).tmod 128) * scale)))), (wk .i64 (scale * 128)), (wk .i64 (i + 1)))))
  else some (.inr (.inr ())))
noncomputable def spec_ReadVar (text : ByteArray) (at_ : Int) : Option (Int × Int × Bool) :=
  (spec_l01In at_ 0 (text.size : Int)).bind fun x13 => (if (!x13) then some (0, 0, false)
  else (loopM (fun (s' : Int × Int × Int) => spec_ReadVar_l1 text at_ s'.1 s'.2.1 s'.2.2) (0, 1, at_)).bind fun p => (match p with | .inl c' => some c' | .inr q => spec_ReadVar_j1))
noncomputable def spec_l08Var (c : T_spec_l08Cur) (most : Int) : Option (Int × T_spec_l08Cur) :=
  (spec_ReadVar c.text c.at_).bind fun x17 => (if c.bad then some true else some (!x17.2.2)).bind fun b => (if b then some true else some (decide (x17.1 > most))).bind fun b_1 => (if b_1 then some (0, (T_spec_l08Cur.mk c.text c.at_ true))
  else some (x17.1, (T_spec_l08Cur.mk c.text x17.2.1 c.bad)))
noncomputable def spec_ReadShort (text : ByteArray) (at_ : Int) : Option (ByteArray × Int × Bool) :=
  (spec_ReadVar text at_).bind fun x13 => (if (!x13.2.2) then some true else some (decide (x13.1 > 60000))).bind fun b => (if b then some true else some (decide (x13.1 > (wk .i64 ((text.size : Int) - x13.2.1))))).bind fun b_1 => (if b_1 then some ((ByteArray.mk #[]), 0, false)
  else (sub2 text x13.2.1 (wk .i64 (x13.2.1 + x13.1))).bind fun x36 => some (x36, (wk .i64 (x13.2.1 + x13.1)), true))
noncomputable def spec_l08Short (c : T_spec_l08Cur) : Option (ByteArray × T_spec_l08Cur) :=
  (spec_ReadShort c.text c.at_).bind fun x15 => (if c.bad then some true else some (!x15.2.2)).bind fun b => (if b then some ((ByteArray.mk #[]), (T_spec_l08Cur.mk c.text c.at_ true))
  else some (x15.1, (T_spec_l08Cur.mk c.text x15.2.1 c.bad)))
noncomputable def spec_ReadCommits_j1 (x17 : ByteArray × Bool) (c : ByteArray) (c_1 : Int) (c_2 : Bool) (out_ : List T_impl_Commit) : Option ((List T_impl_Commit) × Bool) :=
  (if c_2 then some true else some (c_1 != (x17.1.size : Int))).bind fun b => (if b then some ([], false)
  else some (out_, true))
noncomputable def spec_ReadCommits_j2 (i : Int) (c_6 : ByteArray) (c_7 : Int) (c_8 : Bool) (out__2 : List T_impl_Commit) : Option ((Int × ByteArray × Int × Bool × (List T_impl_Commit)) ⊕ (ByteArray × Int × Bool × (List T_impl_Commit))) :=
  some (.inl ((wk .i64 (i + 1)), c_6, c_7, c_8, out__2))
noncomputable def spec_ReadCommits_j4 (i : Int) (out__1 : List T_impl_Commit) (x : List Int) (x67 : ByteArray × T_spec_l08Cur) (c_12 : ByteArray) (c_13 : Int) (c_14 : Bool) (x_1 : List T_impl_Name) : Option ((Int × ByteArray × Int × Bool × (List T_impl_Commit)) ⊕ (ByteArray × Int × Bool × (List T_impl_Commit))) :=
  (appn out__1 [(T_impl_Commit.mk x x67.1 x_1)]).bind fun l => spec_ReadCommits_j2 i c_12 c_13 c_14 l
noncomputable def spec_ReadCommits_l2 (x70 : Int × T_spec_l08Cur) (k : Int) (c_15 : ByteArray) (c_16 : Int) (c_17 : Bool) (x_2 : List T_impl_Name) : Option ((Int × ByteArray × Int × Bool × (List T_impl_Name)) ⊕ (ByteArray × Int × Bool × (List T_impl_Name))) :=
  (if (decide (k < x70.1)) then some (!c_17) else some false).bind fun b_2 => (if b_2 then (spec_l08Short (T_spec_l08Cur.mk c_15 c_16 c_17)).bind fun x85 => (spec_l08Var (T_spec_l08Cur.mk x85.2.text x85.2.at_ x85.2.bad) 1000000000).bind fun x88 => (spec_l08Var (T_spec_l08Cur.mk x88.2.text x88.2.at_ x88.2.bad) 1000000000).bind fun x91 => (appn x_2 [(T_impl_Name.mk x85.1 x88.1 x91.1)]).bind fun l_1 => some (.inl ((wk .i64 (k + 1)), x91.2.text, x91.2.at_, x91.2.bad, l_1))
  else some (.inr (c_15, c_16, c_17, x_2)))
noncomputable def spec_ReadCommits_j3 (i : Int) (out__1 : List T_impl_Commit) (c_9 : ByteArray) (c_10 : Int) (c_11 : Bool) (x : List Int) : Option ((Int × ByteArray × Int × Bool × (List T_impl_Commit)) ⊕ (ByteArray × Int × Bool × (List T_impl_Commit))) :=
  (spec_l08Short (T_spec_l08Cur.mk c_9 c_10 c_11)).bind fun x67 => (spec_l08Var (T_spec_l08Cur.mk x67.2.text x67.2.at_ x67.2.bad) 12).bind fun x70 => (loopM (fun (s' : Int × ByteArray × Int × Bool × (List T_impl_Name)) => spec_ReadCommits_l2 x70 s'.1 s'.2.1 s'.2.2.1 s'.2.2.2.1 s'.2.2.2.2) (0, x70.2.text, x70.2.at_, x70.2.bad, [])).bind fun p_1 => spec_ReadCommits_j4 i out__1 x x67 p_1.1 p_1.2.1 p_1.2.2.1 p_1.2.2.2
noncomputable def spec_ReadCommits_l3 (x46 : Int × T_spec_l08Cur) (k_1 : Int) (c_18 : ByteArray) (c_19 : Int) (c_20 : Bool) (x_3 : List Int) : Option ((Int × ByteArray × Int × Bool × (List Int)) ⊕ (ByteArray × Int × Bool × (List Int))) :=
  (if (decide (k_1 < x46.1)) then some (!c_20) else some false).bind fun b_3 => (if b_3 then (spec_l08Var (T_spec_l08Cur.mk c_18 c_19 c_20) 1000000000).bind fun x62 => (appn x_3 [x62.1]).bind fun l_2 => some (.inl ((wk .i64 (k_1 + 1)), x62.2.text, x62.2.at_, x62.2.bad, l_2))
  else some (.inr (c_18, c_19, c_20, x_3)))
noncomputable def spec_ReadCommits_l1 (x31 : Int × T_spec_l08Cur) (i : Int) (c_3 : ByteArray) (c_4 : Int) (c_5 : Bool) (out__1 : List T_impl_Commit) : Option ((Int × ByteArray × Int × Bool × (List T_impl_Commit)) ⊕ (ByteArray × Int × Bool × (List T_impl_Commit))) :=
  (if (decide (i < x31.1)) then some (!c_5) else some false).bind fun b_1 => (if b_1 then (spec_l08Var (T_spec_l08Cur.mk c_3 c_4 c_5) 4).bind fun x46 => (loopM (fun (s' : Int × ByteArray × Int × Bool × (List Int)) => spec_ReadCommits_l3 x46 s'.1 s'.2.1 s'.2.2.1 s'.2.2.2.1 s'.2.2.2.2) (0, x46.2.text, x46.2.at_, x46.2.bad, [])).bind fun p_2 => spec_ReadCommits_j3 i out__1 p_2.1 p_2.2.1 p_2.2.2.1 p_2.2.2.2
  else some (.inr (c_3, c_4, c_5, out__1)))
noncomputable def spec_ReadCommits (text : ByteArray) : Option ((List T_impl_Commit) × Bool) :=
  (spec_Unsealed text).bind fun x17 => (spec_l08Take (T_spec_l08Cur.mk x17.1 0 (!x17.2)) 3).bind fun x26 => (if (!(x26.1.toList == (ByteArray.mk #[84, 67, 49]).toList)) then some ([], false)
  else (spec_l08Var (T_spec_l08Cur.mk x26.2.text x26.2.at_ x26.2.bad) 40).bind fun x31 => (loopM (fun (s' : Int × ByteArray × Int × Bool × (List T_impl_Commit)) => spec_ReadCommits_l1 x31 s'.1 s'.2.1 s'.2.2.1 s'.2.2.2.1 s'.2.2.2.2) (0, x31.2.text, x31.2.at_, x31.2.bad, [])).bind fun p => spec_ReadCommits_j1 x17 p.1 p.2.1 p.2.2.1 p.2.2.2)
noncomputable def impl_SumMore_j1 (sum_1 : Int) : Option (Int) :=
  some sum_1
noncomputable def impl_SumMore_j2 (i : Int) (sum_3 : Int) : Option ((Int × Int) ⊕ (Int)) :=
  some (.inl (sum_3, (wk .i64 (i + 1))))
noncomputable def impl_SumMore_l2 (sum_4 : Int) (x19 : Int) : Option ((Int × Int) ⊕ (Int)) :=
  (if (decide (x19 < 8)) then (if ((bits .and .u32 sum_4 1) == 1) then some (.inl ((bits .xor .u32 (shrI .u32 sum_4 1) 3558460437), (wk .i64 (x19 + 1))))
  else some (.inl ((shrI .u32 sum_4 1), (wk .i64 (x19 + 1)))))
  else some (.inr sum_4))
noncomputable def impl_SumMore_l1 (text : ByteArray) (sum_2 : Int) (i : Int) : Option ((Int × Int) ⊕ (Int)) :=
  (if (decide (i < (text.size : Int))) then (sidx text i).bind fun x16 => (loopM (fun (s' : Int × Int) => impl_SumMore_l2 s'.1 s'.2) ((bits .xor .u32 sum_2 (wk .u32 x16)), 0)).bind fun p_1 => impl_SumMore_j2 i p_1
  else some (.inr sum_2))
noncomputable def impl_SumMore (sum : Int) (text : ByteArray) : Option Int :=
  (loopM (fun (s' : Int × Int) => impl_SumMore_l1 text s'.1 s'.2) (sum, 0)).bind fun p => impl_SumMore_j1 p
noncomputable def impl_SumOf (text : ByteArray) : Option Int :=
  (impl_SumMore 4294967295 text).bind fun x4 => some x4
noncomputable def impl_sumText (text : ByteArray) : Option ByteArray :=
  (impl_SumOf text).bind fun x5 => some (mkS [(wk .u8 (shrI .u32 x5 24)), (wk .u8 (shrI .u32 x5 16)), (wk .u8 (shrI .u32 x5 8)), (wk .u8 x5)])
noncomputable def impl_Unsealed (text : ByteArray) : Option (ByteArray × Bool) :=
  (if (decide ((wk .i64 ((text.size : Int) - 4)) < 0)) then some true else some (decide ((wk .i64 ((text.size : Int) - 4)) > 60000))).bind fun b => (if b then some true else (subH text (wk .i64 ((text.size : Int) - 4))).bind fun x17 => (impl_sumText x17).bind fun x18 => (subL text (wk .i64 ((text.size : Int) - 4))).bind fun x21 => some (!(x18.toList == x21.toList))).bind fun b_1 => (if b_1 then some ((ByteArray.mk #[]), false)
  else (subH text (wk .i64 ((text.size : Int) - 4))).bind fun x26 => some (x26, true))
noncomputable def impl_scanner_take (s : T_impl_scanner) (n : Int) : Option (ByteArray × T_impl_scanner) :=
  (if s.bad then some true else some (decide (n > (wk .i64 ((s.text.size : Int) - s.at_))))).bind fun b => (if b then some ((ByteArray.mk #[]), (T_impl_scanner.mk s.text s.at_ true))
  else (sub2 s.text (wk .i64 ((wk .i64 (s.at_ + n)) - n)) (wk .i64 (s.at_ + n))).bind fun x48 => some (x48, (T_impl_scanner.mk s.text (wk .i64 (s.at_ + n)) s.bad)))
noncomputable def impl_scanner_mark (s : T_impl_scanner) (mark : ByteArray) : Option T_impl_scanner :=
  (impl_scanner_take (T_impl_scanner.mk s.text s.at_ s.bad) (mark.size : Int)).bind fun x7 => (if (!(x7.1.toList == mark.toList)) then some (T_impl_scanner.mk x7.2.text x7.2.at_ true)
  else some (T_impl_scanner.mk x7.2.text x7.2.at_ x7.2.bad))
noncomputable def impl_ReadVar_j1 : Option (Int × Int × Bool) :=
  some (0, 0, false)
noncomputable def impl_ReadVar_l1 (text : ByteArray) (at_ : Int) (n : Int) (unit : Int) (i : Int) : Option ((Int × Int × Int) ⊕ ((Int × Int × Bool) ⊕ (Unit))) :=
  (if (decide (i < 5)) then some (decide ((wk .i64 (at_ + i)) < (text.size : Int))) else some false).bind fun b_1 => (if b_1 then (sidx text (wk .i64 (at_ + i))).bind fun x35 => (if (decide ((wk .i64 x35) ≥ 128)) then some (.inl ((wk .i64 (n + (wk .i64 (((wk .i64 x35).tmod 128) * unit)))), (wk .i64 (unit * 128)), (wk .i64 (i + 1))))
  else (if ((wk .i64 x35) == 0) then some (decide (i > 0)) else some false).bind fun b_2 => (if b_2 then some true else some (decide ((wk .i64 (n + (wk .i64 (((wk .i64 x35).tmod 128) * unit)))) > 1000000000))).bind fun b_3 => (if b_3 then some (.inr (.inl (0, 0, false)))
  else some (.inr (.inl ((wk .i64 (n + (wk .i64 (((wk .i64 x35).tmod 128) * unit)))), (wk .i64 ((wk .i64 (at_ + i)) + 1)), true)))))
  else some (.inr (.inr ())))
noncomputable def impl_ReadVar (text : ByteArray) (at_ : Int) : Option (Int × Int × Bool) :=
  (if (decide (at_ < 0)) then some true else some (decide (at_ > (text.size : Int)))).bind fun b => (if b then some (0, 0, false)
  else (loopM (fun (s' : Int × Int × Int) => impl_ReadVar_l1 text at_ s'.1 s'.2.1 s'.2.2) (0, 1, 0)).bind fun p => (match p with | .inl c' => some c' | .inr q => impl_ReadVar_j1))
noncomputable def impl_scanner_number (s : T_impl_scanner) : Option (Int × T_impl_scanner) :=
  (impl_ReadVar s.text s.at_).bind fun x15 => (if s.bad then some true else some (!x15.2.2)).bind fun b => (if b then some (0, (T_impl_scanner.mk s.text s.at_ true))
  else some (x15.1, (T_impl_scanner.mk s.text x15.2.1 s.bad)))
noncomputable def impl_scanner_count (s : T_impl_scanner) (most : Int) : Option (Int × T_impl_scanner) :=
  (impl_scanner_number (T_impl_scanner.mk s.text s.at_ s.bad)).bind fun x7 => (if (decide (x7.1 > most)) then some (0, (T_impl_scanner.mk x7.2.text x7.2.at_ true))
  else some (x7.1, (T_impl_scanner.mk x7.2.text x7.2.at_ x7.2.bad)))
noncomputable def impl_scanner_numbers_j1 (s_1 : ByteArray) (s_2 : Int) (s_3 : Bool) (out_ : List Int) : Option ((List Int) × T_impl_scanner) :=
  some (out_, (T_impl_scanner.mk s_1 s_2 s_3))
noncomputable def impl_scanner_numbers_l1 (x9 : Int × T_impl_scanner) (x10 : Int) (s_4 : ByteArray) (s_5 : Int) (s_6 : Bool) (out__1 : List Int) : Option ((Int × ByteArray × Int × Bool × (List Int)) ⊕ (ByteArray × Int × Bool × (List Int))) :=
  (if (decide (x10 < x9.1)) then (impl_scanner_number (T_impl_scanner.mk s_4 s_5 s_6)).bind fun x13 => (appn out__1 [x13.1]).bind fun l => some (.inl ((wk .i64 (x10 + 1)), x13.2.text, x13.2.at_, x13.2.bad, l))
  else some (.inr (s_4, s_5, s_6, out__1)))
noncomputable def impl_scanner_numbers (s : T_impl_scanner) (most : Int) : Option ((List Int) × T_impl_scanner) :=
  (impl_scanner_count (T_impl_scanner.mk s.text s.at_ s.bad) most).bind fun x9 => (loopM (fun (s' : Int × ByteArray × Int × Bool × (List Int)) => impl_scanner_numbers_l1 x9 s'.1 s'.2.1 s'.2.2.1 s'.2.2.2.1 s'.2.2.2.2) (0, x9.2.text, x9.2.at_, x9.2.bad, [])).bind fun p => impl_scanner_numbers_j1 p.1 p.2.1 p.2.2.1 p.2.2.2
noncomputable def impl_scanner_short_j1 (x5 : Int × T_impl_scanner) (s_1 : Bool) : Option (ByteArray × T_impl_scanner) :=
  (impl_scanner_take (T_impl_scanner.mk x5.2.text x5.2.at_ s_1) x5.1).bind fun x13 => some (x13.1, (T_impl_scanner.mk x13.2.text x13.2.at_ x13.2.bad))
noncomputable def impl_scanner_short (s : T_impl_scanner) : Option (ByteArray × T_impl_scanner) :=
  (impl_scanner_number (T_impl_scanner.mk s.text s.at_ s.bad)).bind fun x5 => (if (decide (x5.1 > 60000)) then impl_scanner_short_j1 x5 true
  else impl_scanner_short_j1 x5 x5.2.bad)
noncomputable def impl_scanner_commit_j1 (x6 : (List Int) × T_impl_scanner) (x9 : ByteArray × T_impl_scanner) (s_1 : ByteArray) (s_2 : Int) (s_3 : Bool) (c : List T_impl_Name) : Option (T_impl_Commit × T_impl_scanner) :=
  some ((T_impl_Commit.mk x6.1 x9.1 c), (T_impl_scanner.mk s_1 s_2 s_3))
noncomputable def impl_scanner_commit_l1 (x12 : Int × T_impl_scanner) (x13 : Int) (s_4 : ByteArray) (s_5 : Int) (s_6 : Bool) (c_1 : List T_impl_Name) : Option ((Int × ByteArray × Int × Bool × (List T_impl_Name)) ⊕ (ByteArray × Int × Bool × (List T_impl_Name))) :=
  (if (decide (x13 < x12.1)) then (impl_scanner_short (T_impl_scanner.mk s_4 s_5 s_6)).bind fun x16 => (impl_scanner_number (T_impl_scanner.mk x16.2.text x16.2.at_ x16.2.bad)).bind fun x19 => (impl_scanner_number (T_impl_scanner.mk x19.2.text x19.2.at_ x19.2.bad)).bind fun x22 => (appn c_1 [(T_impl_Name.mk x16.1 x19.1 x22.1)]).bind fun l => some (.inl ((wk .i64 (x13 + 1)), x22.2.text, x22.2.at_, x22.2.bad, l))
  else some (.inr (s_4, s_5, s_6, c_1)))
noncomputable def impl_scanner_commit (s : T_impl_scanner) : Option (T_impl_Commit × T_impl_scanner) :=
  (impl_scanner_numbers (T_impl_scanner.mk s.text s.at_ s.bad) 4).bind fun x6 => (impl_scanner_short (T_impl_scanner.mk x6.2.text x6.2.at_ x6.2.bad)).bind fun x9 => (impl_scanner_count (T_impl_scanner.mk x9.2.text x9.2.at_ x9.2.bad) 12).bind fun x12 => (loopM (fun (s' : Int × ByteArray × Int × Bool × (List T_impl_Name)) => impl_scanner_commit_l1 x12 s'.1 s'.2.1 s'.2.2.1 s'.2.2.2.1 s'.2.2.2.2) (0, x12.2.text, x12.2.at_, x12.2.bad, [])).bind fun p => impl_scanner_commit_j1 x6 x9 p.1 p.2.1 p.2.2.1 p.2.2.2
noncomputable def impl_scanner_done (s : T_impl_scanner) : Option Bool :=
  (if (!s.bad) then some (s.at_ == (s.text.size : Int)) else some false).bind fun b => some b
noncomputable def impl_ReadCommits_j1 (s : ByteArray) (s_1 : Int) (s_2 : Bool) (list_ : List T_impl_Commit) : Option ((List T_impl_Commit) × Bool) :=
  (impl_scanner_done (T_impl_scanner.mk s s_1 s_2)).bind fun x28 => (if (!x28) then some ([], false)
  else some (list_, true))
noncomputable def impl_ReadCommits_l1 (x19 : Int × T_impl_scanner) (x20 : Int) (s_3 : ByteArray) (s_4 : Int) (s_5 : Bool) (list__1 : List T_impl_Commit) : Option ((Int × ByteArray × Int × Bool × (List T_impl_Commit)) ⊕ (ByteArray × Int × Bool × (List T_impl_Commit))) :=
  (if (decide (x20 < x19.1)) then (impl_scanner_commit (T_impl_scanner.mk s_3 s_4 s_5)).bind fun x22 => (appn list__1 [(T_impl_Commit.mk x22.1.Parents x22.1.Note x22.1.Names)]).bind fun l => some (.inl ((wk .i64 (x20 + 1)), x22.2.text, x22.2.at_, x22.2.bad, l))
  else some (.inr (s_3, s_4, s_5, list__1)))
noncomputable def impl_ReadCommits (text : ByteArray) : Option ((List T_impl_Commit) × Bool) :=
  (impl_Unsealed text).bind fun x11 => (impl_scanner_mark (T_impl_scanner.mk x11.1 0 (!x11.2)) (ByteArray.mk #[84, 67, 49])).bind fun x18 => (impl_scanner_count (T_impl_scanner.mk x18.text x18.at_ x18.bad) 40).bind fun x19 => (loopM (fun (s' : Int × ByteArray × Int × Bool × (List T_impl_Commit)) => impl_ReadCommits_l1 x19 s'.1 s'.2.1 s'.2.2.1 s'.2.2.2.1 s'.2.2.2.2) (0, x19.2.text, x19.2.at_, x19.2.bad, [])).bind fun p => impl_ReadCommits_j1 p.1 p.2.1 p.2.2.1 p.2.2.2
noncomputable def laws_eqIntS_j1 : Option (Bool) :=
  some true
noncomputable def laws_eqIntS_l1 (a : List Int) (b : List Int) (i : Int) : Option ((Int) ⊕ ((Bool) ⊕ (Unit))) :=
  (if (decide (i < (a.length : Int))) then (geti a i).bind fun x => (geti b i).bind fun x_1 => (if (x != x_1) then some (.inr (.inl false))
  else some (.inl (wk .i64 (i + 1))))
  else some (.inr (.inr ())))
noncomputable def laws_eqIntS (a : List Int) (b : List Int) : Option Bool :=
  (if ((a.length : Int) != (b.length : Int)) then some false
  else (loopM (fun (s' : Int) => laws_eqIntS_l1 a b s') (0)).bind fun p => (match p with | .inl c' => some c' | .inr q => laws_eqIntS_j1))
noncomputable def laws_eqName (a : T_impl_Name) (b : T_impl_Name) : Option Bool :=
  (if (!(a.Path.toList == b.Path.toList)) then some false
  else (if (a.Id != b.Id) then some false
  else (if (a.Version != b.Version) then some false
  else some true)))
noncomputable def laws_eqNameS_j1 : Option (Bool) :=
  some true
noncomputable def laws_eqNameS_l1 (a : List T_impl_Name) (b : List T_impl_Name) (i : Int) : Option ((Int) ⊕ ((Bool) ⊕ (Unit))) :=
  (if (decide (i < (a.length : Int))) then (geti a i).bind fun x => (geti b i).bind fun x_1 => (laws_eqName (T_impl_Name.mk x.Path x.Id x.Version) (T_impl_Name.mk x_1.Path x_1.Id x_1.Version)).bind fun x25 => (if (!x25) then some (.inr (.inl false))
  else some (.inl (wk .i64 (i + 1))))
  else some (.inr (.inr ())))
noncomputable def laws_eqNameS (a : List T_impl_Name) (b : List T_impl_Name) : Option Bool :=
  (if ((a.length : Int) != (b.length : Int)) then some false
  else (loopM (fun (s' : Int) => laws_eqNameS_l1 a b s') (0)).bind fun p => (match p with | .inl c' => some c' | .inr q => laws_eqNameS_j1))
noncomputable def laws_eqCommit (a : T_impl_Commit) (b : T_impl_Commit) : Option Bool :=
  (laws_eqIntS a.Parents b.Parents).bind fun x9 => (if (!x9) then some false
  else (if (!(a.Note.toList == b.Note.toList)) then some false
  else (laws_eqNameS a.Names b.Names).bind fun x20 => (if (!x20) then some false
  else some true)))
noncomputable def laws_eqCommitS_j1 : Option (Bool) :=
  some true
noncomputable def laws_eqCommitS_l1 (a : List T_impl_Commit) (b : List T_impl_Commit) (i : Int) : Option ((Int) ⊕ ((Bool) ⊕ (Unit))) :=
  (if (decide (i < (a.length : Int))) then (geti a i).bind fun x => (geti b i).bind fun x_1 => (laws_eqCommit (T_impl_Commit.mk x.Parents x.Note x.Names) (T_impl_Commit.mk x_1.Parents x_1.Note x_1.Names)).bind fun x25 => (if (!x25) then some (.inr (.inl false))
  else some (.inl (wk .i64 (i + 1))))
  else some (.inr (.inr ())))
noncomputable def laws_eqCommitS (a : List T_impl_Commit) (b : List T_impl_Commit) : Option Bool :=
  (if ((a.length : Int) != (b.length : Int)) then some false
  else (loopM (fun (s' : Int) => laws_eqCommitS_l1 a b s') (0)).bind fun p => (match p with | .inl c' => some c' | .inr q => laws_eqCommitS_j1))
noncomputable def laws_markIntS_j1 (k_1 : Int) (a_1 : List Int) : Option (Int × (List Int)) :=
  some (k_1, a_1)
noncomputable def laws_markIntS_l1 (k_2 : Int) (i : Int) (a_2 : List Int) : Option ((Int × Int × (List Int)) ⊕ (Int × (List Int))) :=
  (if (decide (i < (a_2.length : Int))) then (geti a_2 i).bind fun x => some (.inl ((wk .i64 (k_2 + 1)), (wk .i64 (i + 1)), (a_2.set i.toNat k_2)))
  else some (.inr (k_2, a_2)))
noncomputable def laws_markIntS (a : List Int) (k : Int) : Option (Int × (List Int)) :=
  (loopM (fun (s' : Int × Int × (List Int)) => laws_markIntS_l1 s'.1 s'.2.1 s'.2.2) (k, 0, a)).bind fun p => laws_markIntS_j1 p.1 p.2
noncomputable def laws_markText_j1 (out_ : ByteArray) : Option (ByteArray) :=
  (sapp (ByteArray.mk #[109]) out_).bind fun t => some t
noncomputable def laws_markText_l1 (k_1 : Int) (out__1 : ByteArray) : Option ((Int × ByteArray) ⊕ (ByteArray)) :=
  (if (decide (k_1 > 0)) then (sapp (mkS [(wk .u8 (wk .i64 (48 + (k_1.tmod 10))))]) out__1).bind fun t_1 => some (.inl ((wk .i64 (k_1.tdiv 10)), t_1))
  else some (.inr out__1))
noncomputable def laws_markText (k : Int) : Option ByteArray :=
  (if (decide (k ≤ 0)) then some (ByteArray.mk #[109, 48])
  else (loopM (fun (s' : Int × ByteArray) => laws_markText_l1 s'.1 s'.2) (k, (ByteArray.mk #[]))).bind fun p => laws_markText_j1 p)
noncomputable def laws_markNameS_j1 (k_1 : Int) (a_1 : List T_impl_Name) : Option (Int × (List T_impl_Name)) :=
  some (k_1, a_1)
noncomputable def laws_markNameS_l1 (k_2 : Int) (i : Int) (a_2 : List T_impl_Name) : Option ((Int × Int × (List T_impl_Name)) ⊕ (Int × (List T_impl_Name))) :=
  (if (decide (i < (a_2.length : Int))) then (laws_markText k_2).bind fun x15 => (geti a_2 i).bind fun x => (geti (a_2.set i.toNat (T_impl_Name.mk x15 x.Id x.Version)) i).bind fun x_1 => (geti (a_2.set i.toNat (T_impl_Name.mk x_1.Path (wk .i64 (k_2 + 1)) x_1.Version)) i).bind fun x_2 => some (.inl ((wk .i64 ((wk .i64 ((wk .i64 (k_2 + 1)) + 1)) + 1)), (wk .i64 (i + 1)), (a_2.set i.toNat (T_impl_Name.mk x_2.Path x_2.Id (wk .i64 ((wk .i64 (k_2 + 1)) + 1))))))
  else some (.inr (k_2, a_2)))
noncomputable def laws_markNameS (a : List T_impl_Name) (k : Int) : Option (Int × (List T_impl_Name)) :=
  (loopM (fun (s' : Int × Int × (List T_impl_Name)) => laws_markNameS_l1 s'.1 s'.2.1 s'.2.2) (k, 0, a)).bind fun p => laws_markNameS_j1 p.1 p.2
noncomputable def laws_markCommitS_j1 (k_1 : Int) (a_1 : List T_impl_Commit) : Option (Int × (List T_impl_Commit)) :=
  some (k_1, a_1)
noncomputable def laws_markCommitS_l1 (k_2 : Int) (i : Int) (a_2 : List T_impl_Commit) : Option ((Int × Int × (List T_impl_Commit)) ⊕ (Int × (List T_impl_Commit))) :=
  (if (decide (i < (a_2.length : Int))) then (geti a_2 i).bind fun x => (laws_markIntS x.Parents k_2).bind fun x18 => (laws_markText x18.1).bind fun x22 => (geti (a_2.set i.toNat (T_impl_Commit.mk x18.2 x.Note x.Names)) i).bind fun x_1 => (geti (a_2.set i.toNat (T_impl_Commit.mk x_1.Parents x22 x_1.Names)) i).bind fun x_2 => (laws_markNameS x_2.Names (wk .i64 (x18.1 + 1))).bind fun x33 => some (.inl (x33.1, (wk .i64 (i + 1)), (a_2.set i.toNat (T_impl_Commit.mk x_2.Parents x_2.Note x33.2))))
  else some (.inr (k_2, a_2)))
noncomputable def laws_markCommitS (a : List T_impl_Commit) (k : Int) : Option (Int × (List T_impl_Commit)) :=
  (loopM (fun (s' : Int × Int × (List T_impl_Commit)) => laws_markCommitS_l1 s'.1 s'.2.1 s'.2.2) (k, 0, a)).bind fun p => laws_markCommitS_j1 p.1 p.2
noncomputable def laws_heldIntS_j1 (k_1 : Int) : Option (Int) :=
  some k_1
noncomputable def laws_heldIntS_l1 (a : List Int) (k_2 : Int) (i : Int) : Option ((Int × Int) ⊕ ((Int) ⊕ (Int))) :=
  (if (decide (i < (a.length : Int))) then (geti a i).bind fun x => (if (x != k_2) then some (.inr (.inl (-1)))
  else some (.inl ((wk .i64 (k_2 + 1)), (wk .i64 (i + 1)))))
  else some (.inr (.inr k_2)))
noncomputable def laws_heldIntS (a : List Int) (k : Int) : Option Int :=
  (loopM (fun (s' : Int × Int) => laws_heldIntS_l1 a s'.1 s'.2) (k, 0)).bind fun p => (match p with | .inl c' => some c' | .inr q => laws_heldIntS_j1 q)
noncomputable def laws_heldNameS_j1 (k_1 : Int) : Option (Int) :=
  some k_1
noncomputable def laws_heldNameS_l1 (a : List T_impl_Name) (k_2 : Int) (i : Int) : Option ((Int × Int) ⊕ ((Int) ⊕ (Int))) :=
  (if (decide (i < (a.length : Int))) then (geti a i).bind fun x => (laws_markText k_2).bind fun x18 => (if (!(x.Path.toList == x18.toList)) then some (.inr (.inl (-1)))
  else (if (x.Id != (wk .i64 (k_2 + 1))) then some (.inr (.inl (-1)))
  else (if (x.Version != (wk .i64 ((wk .i64 (k_2 + 1)) + 1))) then some (.inr (.inl (-1)))
  else some (.inl ((wk .i64 ((wk .i64 ((wk .i64 (k_2 + 1)) + 1)) + 1)), (wk .i64 (i + 1)))))))
  else some (.inr (.inr k_2)))
noncomputable def laws_heldNameS (a : List T_impl_Name) (k : Int) : Option Int :=
  (loopM (fun (s' : Int × Int) => laws_heldNameS_l1 a s'.1 s'.2) (k, 0)).bind fun p => (match p with | .inl c' => some c' | .inr q => laws_heldNameS_j1 q)
noncomputable def laws_heldCommitS_j1 (k_1 : Int) : Option (Int) :=
  some k_1
noncomputable def laws_heldCommitS_l1 (a : List T_impl_Commit) (k_2 : Int) (i : Int) : Option ((Int × Int) ⊕ ((Int) ⊕ (Int))) :=
  (if (decide (i < (a.length : Int))) then (geti a i).bind fun x => (laws_heldIntS x.Parents k_2).bind fun x18 => (if (decide (x18 < 0)) then some (.inr (.inl (-1)))
  else (laws_markText x18).bind fun x27 => (if (!(x.Note.toList == x27.toList)) then some (.inr (.inl (-1)))
  else (laws_heldNameS x.Names (wk .i64 (x18 + 1))).bind fun x37 => (if (decide (x37 < 0)) then some (.inr (.inl (-1)))
  else some (.inl (x37, (wk .i64 (i + 1)))))))
  else some (.inr (.inr k_2)))
noncomputable def laws_heldCommitS (a : List T_impl_Commit) (k : Int) : Option Int :=
  (loopM (fun (s' : Int × Int) => laws_heldCommitS_l1 a s'.1 s'.2) (k, 0)).bind fun p => (match p with | .inl c' => some c' | .inr q => laws_heldCommitS_j1 q)
noncomputable def laws_FnExactReadCommits (aText : ByteArray) : Option Bool :=
  (if (decide ((aText.size : Int) > 1048576)) then some true
  else (spec_ReadCommits aText).bind fun x16 => (impl_ReadCommits aText).bind fun x21 => (laws_eqCommitS x21.1 x16.1).bind fun x26 => (if (!x26) then some true else some (x21.2 != x16.2)).bind fun b => (if b then some false
  else (laws_markCommitS x21.1 1).bind fun x35 => (laws_heldCommitS x35.2 1).bind fun x38 => (if (decide (x38 < 0)) then some false
  else (if (x38 != x35.1) then some false
  else (impl_ReadCommits aText).bind fun x46 => (laws_eqCommitS x46.1 x16.1).bind fun x51 => (if (!x51) then some true else some (x46.2 != x16.2)).bind fun b_1 => (if b_1 then some false
  else (laws_heldCommitS x35.2 1).bind fun x60 => (if (decide (x60 < 0)) then some false
  else (if (x60 != x35.1) then some false
  else some true)))))))
end Go.TV.F
