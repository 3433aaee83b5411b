/- Structures and their rows. -/
import Derived.Test.YtmoglghkjfjalaaKFnExactReadBundleT5
set_option linter.unusedVariables false
set_option linter.unusedSimpArgs false
set_option maxHeartbeats 8000000
set_option maxRecDepth 100000
namespace Go.TV
structure T_spec_l08Cur where
  text : ByteArray
  at_ : Int
  bad : Bool
  deriving Inhabited
structure T_impl_Change where
  Kind : Int
  Path : ByteArray
  To : ByteArray
  Lines : List ByteArray
  deriving Inhabited
structure T_impl_Step where
  Parents : List Int
  Note : ByteArray
  Changes : List T_impl_Change
  deriving Inhabited
structure T_impl_scanner where
  text : ByteArray
  at_ : Int
  bad : Bool
  deriving Inhabited
theorem R_u8 : (∀ (l : List Int) (i : Nat) (a0 : Int), (List.map (rK .u8) l).set i [.sc (.int .u8 a0)] = List.map (rK .u8) (l.set i a0)) ∧
  (∀ (l : List Int) (a0 : Int), List.map (rK .u8) l ++ [[.sc (.int .u8 a0)]] = List.map (rK .u8) (l ++ [a0])) ∧
  (∀ (l : List Int) (b0 b1 : Int), List.map (rK .u8) l ++ [[.sc (.int .u8 b0)], [.sc (.int .u8 b1)]] = List.map (rK .u8) (l ++ [b0, b1])) ∧
  (∀ (l : List Int) (b0 b1 b2 : Int), List.map (rK .u8) l ++ [[.sc (.int .u8 b0)], [.sc (.int .u8 b1)], [.sc (.int .u8 b2)]] = List.map (rK .u8) (l ++ [b0, b1, b2])) ∧
  (∀ (l : List Int) (b0 b1 b2 b3 : Int), List.map (rK .u8) l ++ [[.sc (.int .u8 b0)], [.sc (.int .u8 b1)], [.sc (.int .u8 b2)], [.sc (.int .u8 b3)]] = List.map (rK .u8) (l ++ [b0, b1, b2, b3])) ∧
  (∀ n : Nat, List.replicate n [.sc (.int .u8 0)] = List.map (rK .u8) (List.replicate n 0)) ∧
  (∀ l : List Int, borRows (List.map (rK .u8) l) = List.map (rK .u8) l) ∧
  (∀ l : List Int, aliveRows (List.map (rK .u8) l) = true) ∧
  (∀ l : List Int, noBorRows (List.map (rK .u8) l) = true) :=
  ⟨fun l i a0 => set_rows (rK .u8) l i a0,
  fun l a0 => app_rows (rK .u8) l [a0],
  fun l b0 b1 => app_rows (rK .u8) l [b0, b1],
  fun l b0 b1 b2 => app_rows (rK .u8) l [b0, b1, b2],
  fun l b0 b1 b2 b3 => app_rows (rK .u8) l [b0, b1, b2, b3],
  fun n => rep_rows (rK .u8) 0 n,
  bor_rows (fun _ => rfl),
  alRows (fun _ => rfl),
  nb_rows (fun _ => rfl)⟩
theorem R_s : (∀ (l : List ByteArray) (i : Nat) (a0 : ByteArray), (List.map rS l).set i [.sc (.string a0)] = List.map rS (l.set i a0)) ∧
  (∀ (l : List ByteArray) (a0 : ByteArray), List.map rS l ++ [[.sc (.string a0)]] = List.map rS (l ++ [a0])) ∧
  (∀ (l : List ByteArray) (b0 b1 : ByteArray), List.map rS l ++ [[.sc (.string b0)], [.sc (.string b1)]] = List.map rS (l ++ [b0, b1])) ∧
  (∀ (l : List ByteArray) (b0 b1 b2 : ByteArray), List.map rS l ++ [[.sc (.string b0)], [.sc (.string b1)], [.sc (.string b2)]] = List.map rS (l ++ [b0, b1, b2])) ∧
  (∀ (l : List ByteArray) (b0 b1 b2 b3 : ByteArray), List.map rS l ++ [[.sc (.string b0)], [.sc (.string b1)], [.sc (.string b2)], [.sc (.string b3)]] = List.map rS (l ++ [b0, b1, b2, b3])) ∧
  (∀ n : Nat, List.replicate n [.sc (.string (ByteArray.mk #[]))] = List.map rS (List.replicate n (ByteArray.mk #[]))) ∧
  (∀ l : List ByteArray, borRows (List.map rS l) = List.map rS l) ∧
  (∀ l : List ByteArray, aliveRows (List.map rS l) = true) ∧
  (∀ l : List ByteArray, noBorRows (List.map rS l) = true) :=
  ⟨fun l i a0 => set_rows rS l i a0,
  fun l a0 => app_rows rS l [a0],
  fun l b0 b1 => app_rows rS l [b0, b1],
  fun l b0 b1 b2 => app_rows rS l [b0, b1, b2],
  fun l b0 b1 b2 b3 => app_rows rS l [b0, b1, b2, b3],
  fun n => rep_rows rS (ByteArray.mk #[]) n,
  bor_rows (fun _ => rfl),
  alRows (fun _ => rfl),
  nb_rows (fun _ => rfl)⟩
def r_T_impl_Change (o : Bool) (x : T_impl_Change) : List V := [.sc (.int .i64 x.Kind), .sc (.string x.Path), .sc (.string x.To), .list o 1 (List.map rS x.Lines)]
theorem R_i64 : (∀ (l : List Int) (i : Nat) (a0 : Int), (List.map (rK .i64) l).set i [.sc (.int .i64 a0)] = List.map (rK .i64) (l.set i a0)) ∧
  (∀ (l : List Int) (a0 : Int), List.map (rK .i64) l ++ [[.sc (.int .i64 a0)]] = List.map (rK .i64) (l ++ [a0])) ∧
  (∀ (l : List Int) (b0 b1 : Int), List.map (rK .i64) l ++ [[.sc (.int .i64 b0)], [.sc (.int .i64 b1)]] = List.map (rK .i64) (l ++ [b0, b1])) ∧
  (∀ (l : List Int) (b0 b1 b2 : Int), List.map (rK .i64) l ++ [[.sc (.int .i64 b0)], [.sc (.int .i64 b1)], [.sc (.int .i64 b2)]] = List.map (rK .i64) (l ++ [b0, b1, b2])) ∧
  (∀ (l : List Int) (b0 b1 b2 b3 : Int), List.map (rK .i64) l ++ [[.sc (.int .i64 b0)], [.sc (.int .i64 b1)], [.sc (.int .i64 b2)], [.sc (.int .i64 b3)]] = List.map (rK .i64) (l ++ [b0, b1, b2, b3])) ∧
  (∀ n : Nat, List.replicate n [.sc (.int .i64 0)] = List.map (rK .i64) (List.replicate n 0)) ∧
  (∀ l : List Int, borRows (List.map (rK .i64) l) = List.map (rK .i64) l) ∧
  (∀ l : List Int, aliveRows (List.map (rK .i64) l) = true) ∧
  (∀ l : List Int, noBorRows (List.map (rK .i64) l) = true) :=
  ⟨fun l i a0 => set_rows (rK .i64) l i a0,
  fun l a0 => app_rows (rK .i64) l [a0],
  fun l b0 b1 => app_rows (rK .i64) l [b0, b1],
  fun l b0 b1 b2 => app_rows (rK .i64) l [b0, b1, b2],
  fun l b0 b1 b2 b3 => app_rows (rK .i64) l [b0, b1, b2, b3],
  fun n => rep_rows (rK .i64) 0 n,
  bor_rows (fun _ => rfl),
  alRows (fun _ => rfl),
  nb_rows (fun _ => rfl)⟩
theorem R_T_impl_Change : (∀ (l : List T_impl_Change) (i : Nat) (a0 : Int) (a1 : ByteArray) (a2 : ByteArray) (a3 : List ByteArray), (List.map (r_T_impl_Change true) l).set i [.sc (.int .i64 a0), .sc (.string a1), .sc (.string a2), .list true 1 (List.map rS a3)] = List.map (r_T_impl_Change true) (l.set i (T_impl_Change.mk a0 a1 a2 a3))) ∧
  (∀ (l : List T_impl_Change) (a0 : Int) (a1 : ByteArray) (a2 : ByteArray) (a3 : List ByteArray), List.map (r_T_impl_Change true) l ++ [[.sc (.int .i64 a0), .sc (.string a1), .sc (.string a2), .list true 1 (List.map rS a3)]] = List.map (r_T_impl_Change true) (l ++ [(T_impl_Change.mk a0 a1 a2 a3)])) ∧
  (∀ (l : List T_impl_Change) (i : Nat) (a0 : Int) (a1 : ByteArray) (a2 : ByteArray) (a3 : List ByteArray), (List.map (r_T_impl_Change false) l).set i [.sc (.int .i64 a0), .sc (.string a1), .sc (.string a2), .list false 1 (List.map rS a3)] = List.map (r_T_impl_Change false) (l.set i (T_impl_Change.mk a0 a1 a2 a3))) ∧
  (∀ (l : List T_impl_Change) (a0 : Int) (a1 : ByteArray) (a2 : ByteArray) (a3 : List ByteArray), List.map (r_T_impl_Change false) l ++ [[.sc (.int .i64 a0), .sc (.string a1), .sc (.string a2), .list false 1 (List.map rS a3)]] = List.map (r_T_impl_Change false) (l ++ [(T_impl_Change.mk a0 a1 a2 a3)])) ∧
  (∀ (l : List T_impl_Change) (i : Nat) (a0 : Int) (a1 : ByteArray) (a2 : ByteArray), (List.map (r_T_impl_Change true) l).set i [.sc (.int .i64 a0), .sc (.string a1), .sc (.string a2), .list true 1 []] = List.map (r_T_impl_Change true) (l.set i (T_impl_Change.mk a0 a1 a2 []))) ∧
  (∀ (l : List T_impl_Change) (a0 : Int) (a1 : ByteArray) (a2 : ByteArray), List.map (r_T_impl_Change true) l ++ [[.sc (.int .i64 a0), .sc (.string a1), .sc (.string a2), .list true 1 []]] = List.map (r_T_impl_Change true) (l ++ [(T_impl_Change.mk a0 a1 a2 [])])) ∧
  (∀ l : List T_impl_Change, borRows (List.map (r_T_impl_Change true) l) = List.map (r_T_impl_Change false) l) ∧
  (∀ l : List T_impl_Change, aliveRows (List.map (r_T_impl_Change true) l) = true) ∧
  (∀ l : List T_impl_Change, borRows (List.map (r_T_impl_Change false) l) = List.map (r_T_impl_Change false) l) ∧
  (∀ l : List T_impl_Change, aliveRows (List.map (r_T_impl_Change false) l) = true) ∧
  (∀ l : List T_impl_Change, noBorRows (List.map (r_T_impl_Change true) l) = true) ∧
  (∀ x : T_impl_Change, r_T_impl_Change true x = [.sc (.int .i64 x.Kind), .sc (.string x.Path), .sc (.string x.To), .list true 1 (List.map rS x.Lines)]) ∧
  (∀ x : T_impl_Change, r_T_impl_Change false x = [.sc (.int .i64 x.Kind), .sc (.string x.Path), .sc (.string x.To), .list false 1 (List.map rS x.Lines)]) :=
  ⟨fun l i a0 a1 a2 a3 => set_rows (r_T_impl_Change true) l i (T_impl_Change.mk a0 a1 a2 a3),
  fun l a0 a1 a2 a3 => app_rows (r_T_impl_Change true) l [(T_impl_Change.mk a0 a1 a2 a3)],
  fun l i a0 a1 a2 a3 => set_rows (r_T_impl_Change false) l i (T_impl_Change.mk a0 a1 a2 a3),
  fun l a0 a1 a2 a3 => app_rows (r_T_impl_Change false) l [(T_impl_Change.mk a0 a1 a2 a3)],
  fun l i a0 a1 a2 => set_rows (r_T_impl_Change true) l i (T_impl_Change.mk a0 a1 a2 []),
  fun l a0 a1 a2 => app_rows (r_T_impl_Change true) l [(T_impl_Change.mk a0 a1 a2 [])],
  bor_rows (fun x => by simp only [r_T_impl_Change, borRow, V.bor, (show ∀ l : List ByteArray, borRows (List.map rS l) = List.map rS l from bor_rows (fun _ => rfl))]),
  alRows (fun _ => rfl),
  bor_rows (fun x => by simp only [r_T_impl_Change, borRow, V.bor, (show ∀ l : List ByteArray, borRows (List.map rS l) = List.map rS l from bor_rows (fun _ => rfl))]),
  alRows (fun _ => rfl),
  nb_rows (fun x => by simp only [r_T_impl_Change, noBorRow, V.noBor, Bool.and_true, Bool.true_and, (show ∀ l : List ByteArray, noBorRows (List.map rS l) = true from nb_rows (fun _ => rfl))]),
  fun _ => rfl,
  fun _ => rfl⟩
def r_T_impl_Step (o : Bool) (x : T_impl_Step) : List V := [.list o 1 (List.map (rK .i64) x.Parents), .sc (.string x.Note), .list o 4 (List.map (r_T_impl_Change o) x.Changes)]
theorem R_T_impl_Step : (∀ (l : List T_impl_Step) (i : Nat) (a0 : List Int) (a1 : ByteArray) (a2 : List T_impl_Change), (List.map (r_T_impl_Step true) l).set i [.list true 1 (List.map (rK .i64) a0), .sc (.string a1), .list true 4 (List.map (r_T_impl_Change true) a2)] = List.map (r_T_impl_Step true) (l.set i (T_impl_Step.mk a0 a1 a2))) ∧
  (∀ (l : List T_impl_Step) (a0 : List Int) (a1 : ByteArray) (a2 : List T_impl_Change), List.map (r_T_impl_Step true) l ++ [[.list true 1 (List.map (rK .i64) a0), .sc (.string a1), .list true 4 (List.map (r_T_impl_Change true) a2)]] = List.map (r_T_impl_Step true) (l ++ [(T_impl_Step.mk a0 a1 a2)])) ∧
  (∀ (l : List T_impl_Step) (i : Nat) (a0 : List Int) (a1 : ByteArray) (a2 : List T_impl_Change), (List.map (r_T_impl_Step false) l).set i [.list false 1 (List.map (rK .i64) a0), .sc (.string a1), .list false 4 (List.map (r_T_impl_Change false) a2)] = List.map (r_T_impl_Step false) (l.set i (T_impl_Step.mk a0 a1 a2))) ∧
  (∀ (l : List T_impl_Step) (a0 : List Int) (a1 : ByteArray) (a2 : List T_impl_Change), List.map (r_T_impl_Step false) l ++ [[.list false 1 (List.map (rK .i64) a0), .sc (.string a1), .list false 4 (List.map (r_T_impl_Change false) a2)]] = List.map (r_T_impl_Step false) (l ++ [(T_impl_Step.mk a0 a1 a2)])) ∧
  (∀ (l : List T_impl_Step) (i : Nat) (a1 : ByteArray) (a2 : List T_impl_Change), (List.map (r_T_impl_Step true) l).set i [.list true 1 [], .sc (.string a1), .list true 4 (List.map (r_T_impl_Change true) a2)] = List.map (r_T_impl_Step true) (l.set i (T_impl_Step.mk [] a1 a2))) ∧
  (∀ (l : List T_impl_Step) (a1 : ByteArray) (a2 : List T_impl_Change), List.map (r_T_impl_Step true) l ++ [[.list true 1 [], .sc (.string a1), .list true 4 (List.map (r_T_impl_Change true) a2)]] = List.map (r_T_impl_Step true) (l ++ [(T_impl_Step.mk [] a1 a2)])) ∧
  (∀ (l : List T_impl_Step) (i : Nat) (a0 : List Int) (a1 : ByteArray), (List.map (r_T_impl_Step true) l).set i [.list true 1 (List.map (rK .i64) a0), .sc (.string a1), .list true 4 []] = List.map (r_T_impl_Step true) (l.set i (T_impl_Step.mk a0 a1 []))) ∧
  (∀ (l : List T_impl_Step) (a0 : List Int) (a1 : ByteArray), List.map (r_T_impl_Step true) l ++ [[.list true 1 (List.map (rK .i64) a0), .sc (.string a1), .list true 4 []]] = List.map (r_T_impl_Step true) (l ++ [(T_impl_Step.mk a0 a1 [])])) ∧
  (∀ (l : List T_impl_Step) (i : Nat) (a1 : ByteArray), (List.map (r_T_impl_Step true) l).set i [.list true 1 [], .sc (.string a1), .list true 4 []] = List.map (r_T_impl_Step true) (l.set i (T_impl_Step.mk [] a1 []))) ∧
  (∀ (l : List T_impl_Step) (a1 : ByteArray), List.map (r_T_impl_Step true) l ++ [[.list true 1 [], .sc (.string a1), .list true 4 []]] = List.map (r_T_impl_Step true) (l ++ [(T_impl_Step.mk [] a1 [])])) ∧
  (∀ l : List T_impl_Step, borRows (List.map (r_T_impl_Step true) l) = List.map (r_T_impl_Step false) l) ∧
  (∀ l : List T_impl_Step, aliveRows (List.map (r_T_impl_Step true) l) = true) ∧
  (∀ l : List T_impl_Step, borRows (List.map (r_T_impl_Step false) l) = List.map (r_T_impl_Step false) l) ∧
  (∀ l : List T_impl_Step, aliveRows (List.map (r_T_impl_Step false) l) = true) ∧
  (∀ l : List T_impl_Step, noBorRows (List.map (r_T_impl_Step true) l) = true) ∧
  (∀ x : T_impl_Step, r_T_impl_Step true x = [.list true 1 (List.map (rK .i64) x.Parents), .sc (.string x.Note), .list true 4 (List.map (r_T_impl_Change true) x.Changes)]) ∧
  (∀ x : T_impl_Step, r_T_impl_Step false x = [.list false 1 (List.map (rK .i64) x.Parents), .sc (.string x.Note), .list false 4 (List.map (r_T_impl_Change false) x.Changes)]) :=
  ⟨fun l i a0 a1 a2 => set_rows (r_T_impl_Step true) l i (T_impl_Step.mk a0 a1 a2),
  fun l a0 a1 a2 => app_rows (r_T_impl_Step true) l [(T_impl_Step.mk a0 a1 a2)],
  fun l i a0 a1 a2 => set_rows (r_T_impl_Step false) l i (T_impl_Step.mk a0 a1 a2),
  fun l a0 a1 a2 => app_rows (r_T_impl_Step false) l [(T_impl_Step.mk a0 a1 a2)],
  fun l i a1 a2 => set_rows (r_T_impl_Step true) l i (T_impl_Step.mk [] a1 a2),
  fun l a1 a2 => app_rows (r_T_impl_Step true) l [(T_impl_Step.mk [] a1 a2)],
  fun l i a0 a1 => set_rows (r_T_impl_Step true) l i (T_impl_Step.mk a0 a1 []),
  fun l a0 a1 => app_rows (r_T_impl_Step true) l [(T_impl_Step.mk a0 a1 [])],
  fun l i a1 => set_rows (r_T_impl_Step true) l i (T_impl_Step.mk [] a1 []),
  fun l a1 => app_rows (r_T_impl_Step true) l [(T_impl_Step.mk [] a1 [])],
  bor_rows (fun x => by simp only [r_T_impl_Step, borRow, V.bor, (show ∀ l : List Int, borRows (List.map (rK .i64) l) = List.map (rK .i64) l from bor_rows (fun _ => rfl)), (show ∀ l : List T_impl_Change, borRows (List.map (r_T_impl_Change true) l) = List.map (r_T_impl_Change false) l from bor_rows (fun x => by simp only [r_T_impl_Change, borRow, V.bor, (show ∀ l : List ByteArray, borRows (List.map rS l) = List.map rS l from bor_rows (fun _ => rfl))]))]),
  alRows (fun _ => rfl),
  bor_rows (fun x => by simp only [r_T_impl_Step, borRow, V.bor, (show ∀ l : List Int, borRows (List.map (rK .i64) l) = List.map (rK .i64) l from bor_rows (fun _ => rfl)), (show ∀ l : List T_impl_Change, borRows (List.map (r_T_impl_Change false) l) = List.map (r_T_impl_Change false) l from bor_rows (fun x => by simp only [r_T_impl_Change, borRow, V.bor, (show ∀ l : List ByteArray, borRows (List.map rS l) = List.map rS l from bor_rows (fun _ => rfl))]))]),
  alRows (fun _ => rfl),
  nb_rows (fun x => by simp only [r_T_impl_Step, noBorRow, V.noBor, Bool.and_true, Bool.true_and, (show ∀ l : List Int, noBorRows (List.map (rK .i64) l) = true from nb_rows (fun _ => rfl)), (show ∀ l : List T_impl_Change, noBorRows (List.map (r_T_impl_Change true) l) = true from nb_rows (fun x => by simp only [r_T_impl_Change, noBorRow, V.noBor, Bool.and_true, Bool.true_and, (show ∀ l : List ByteArray, noBorRows (List.map rS l) = true from nb_rows (fun _ => rfl))]))]),
  fun _ => rfl,
  fun _ => rfl⟩
end Go.TV
namespace Go.TV
structure T_laws_Change where
  Kind : Int
  Path : ByteArray
  To : ByteArray
  Lines : List ByteArray
  deriving Inhabited
structure T_laws_Step where
  Parents : List Int
  Note : ByteArray
  Changes : List T_laws_Change
  deriving Inhabited
structure T_strings_Builder where
  addr : ByteArray
  buf : List Int
  deriving Inhabited
end Go.TV
namespace Go.TV.F
noncomputable def spec_SumMore_j1 (sum_1 : Int) : Option (Int) :=
  some sum_1
noncomputable def spec_SumMore_j2 (i : Int) (sum_3 : Int) : Option ((Int × Int) ⊕ (Int)) :=
  some (.inl (sum_3, (wk .i64 (i + 1))))
noncomputable def spec_SumMore_l2 (sum_4 : Int) (k : Int) : Option ((Int × Int) ⊕ (Int)) :=
  (if (decide (k < 8)) then (if ((sum_4.tmod 2) == 1) then some (.inl ((bits .xor .u32 (wk .u32 (sum_4.tdiv 2)) 3558460437), (wk .i64 (k + 1))))
  else some (.inl ((wk .u32 (sum_4.tdiv 2)), (wk .i64 (k + 1)))))
  else some (.inr sum_4))
noncomputable def spec_SumMore_l1 (text : ByteArray) (sum_2 : Int) (i : Int) : Option ((Int × Int) ⊕ (Int)) :=
  (if (decide (i < (text.size : Int))) then (sidx text i).bind fun x17 => (loopM (fun (s' : Int × Int) => spec_SumMore_l2 s'.1 s'.2) ((bits .xor .u32 sum_2 (wk .u32 x17)), 0)).bind fun p_1 => spec_SumMore_j2 i p_1
  else some (.inr sum_2))
noncomputable def spec_SumMore (sum : Int) (text : ByteArray) : Option Int :=
  (loopM (fun (s' : Int × Int) => spec_SumMore_l1 text s'.1 s'.2) (sum, 0)).bind fun p => spec_SumMore_j1 p
noncomputable def spec_SumOf (text : ByteArray) : Option Int :=
  (spec_SumMore 4294967295 text).bind fun x4 => some x4
noncomputable def spec_l02Four (x : Int) : Option ByteArray :=
  some (mkS [(wk .u8 (shrI .u32 x 24)), (wk .u8 (shrI .u32 x 16)), (wk .u8 (shrI .u32 x 8)), (wk .u8 x)])
noncomputable def spec_Unsealed (text : ByteArray) : Option (ByteArray × Bool) :=
  (if (decide ((wk .i64 ((text.size : Int) - 4)) < 0)) then some true else some (decide ((wk .i64 ((text.size : Int) - 4)) > 60000))).bind fun b => (if b then some true else (subL text (wk .i64 ((text.size : Int) - 4))).bind fun x17 => (subH text (wk .i64 ((text.size : Int) - 4))).bind fun x20 => (spec_SumOf x20).bind fun x21 => (spec_l02Four x21).bind fun x22 => some (!(x17.toList == x22.toList))).bind fun b_1 => (if b_1 then some ((ByteArray.mk #[]), false)
  else (subH text (wk .i64 ((text.size : Int) - 4))).bind fun x27 => some (x27, true))
noncomputable def spec_l08Take (c : T_spec_l08Cur) (n : Int) : Option (ByteArray × T_spec_l08Cur) :=
  (if c.bad then some true else some (decide (n > (wk .i64 ((c.text.size : Int) - c.at_))))).bind fun b => (if b then some ((ByteArray.mk #[]), (T_spec_l08Cur.mk c.text c.at_ true))
  else (sub2 c.text (wk .i64 ((wk .i64 (c.at_ + n)) - n)) (wk .i64 (c.at_ + n))).bind fun x49 => some (x49, (T_spec_l08Cur.mk c.text (wk .i64 (c.at_ + n)) c.bad)))
noncomputable def spec_l01In (x : Int) (least : Int) (most : Int) : Option Bool :=
  (if (decide (x ≥ least)) then some (decide (x ≤ most)) else some false).bind fun b => some b
noncomputable def spec_l01Var_j1 (n_1 : Int) (out_ : List Int) : Option (ByteArray) :=
  (appn out_ [(wk .u8 n_1)]).bind fun l => some (mkS l)
noncomputable def spec_l01Var_l1 (n_2 : Int) (out__1 : List Int) : Option ((Int × (List Int)) ⊕ (Int × (List Int))) :=
  (if (decide (n_2 > 127)) then (appn out__1 [(wk .u8 (wk .i64 ((n_2.tmod 128) + 128)))]).bind fun l_1 => some (.inl ((wk .i64 (n_2.tdiv 128)), l_1))
  else some (.inr (n_2, out__1)))
noncomputable def spec_l01Var (n : Int) : Option ByteArray :=
  (loopM (fun (s' : Int × (List Int)) => spec_l01Var_l1 s'.1 s'.2) (n, [])).bind fun p => spec_l01Var_j1 p.1 p.2
noncomputable def spec_ReadVar_j1 : Option (Int × Int × Bool) :=
  some (0, 0, false)
noncomputable def spec_ReadVar_l1 (text : ByteArray) (at_ : Int) (n : Int) (scale : Int) (i : Int) : Option ((Int × Int × Int) ⊕ ((Int × Int × Bool) ⊕ (Unit))) :=
  (if (decide (i < (text.size : Int))) then some (decide (i < (wk .i64 (at_ + 5)))) else some false).bind fun b => (if b then (sidx text i).bind fun x31 => (if (decide (x31 < 128)) then (if (decide ((wk .i64 (n + (wk .i64 (((wk .i64 x31).tmod 128) * scale)))) > 1000000000)) then some true else (spec_l01Var (wk .i64 (n + (wk .i64 (((wk .i64 x31).tmod 128) * scale))))).bind fun x47 => (sub2 text at_ (wk .i64 (i + 1))).bind fun x52 => some (!(x47.toList == x52.toList))).bind fun b_1 => (if b_1 then some (.inr (.inl (0, 0, false)))
  else some (.inr (.inl ((wk .i64 (n + (wk .i64 (((wk .i64 x31).tmod 128) * scale)))), (wk .i64 (i + 1)), true))))
  else some (.inl ((wk .i64 (n + (wk .i64 (((wk .i64 x31).tmod 128) * scale)))), (wk .i64 (scale * 128)), (wk .i64 (i + 1)))))
  else some (.inr (.inr ())))
noncomputable def spec_ReadVar (text : ByteArray) (at_ : Int) : Option (Int × Int × Bool) :=
  (spec_l01In at_ 0 (text.size : Int)).bind fun x13 => (if (!x13) then some (0, 0, false)
  else (loopM (fun (s' : Int × Int × Int) => spec_ReadVar_l1 text at_ s'.1 s'.2.1 s'.2.2) (0, 1, at_)).bind fun p => (match p with | .inl c' => some c' | .inr q => spec_ReadVar_j1))
noncomputable def spec_l08Var (c : T_spec_l08Cur) (most : Int) : Option (Int × T_spec_l08Cur) :=
  (spec_ReadVar c.text c.at_).bind fun x17 => (if c.bad then some true else some (!x17.2.2)).bind fun b => (if b then some true else some (decide (x17.1 > most))).bind fun b_1 => (if b_1 then some (0, (T_spec_l08Cur.mk c.text c.at_ true))
  else some (x17.1, (T_spec_l08Cur.mk c.text x17.2.1 c.bad)))
noncomputable def spec_ReadShort (text : ByteArray) (at_ : Int) : Option (ByteArray × Int × Bool) :=
  (spec_ReadVar text at_).bind fun x13 => (if (!x13.2.2) then some true else some (decide (x13.1 > 60000))).bind fun b => (if b then some true else some (decide (x13.1 > (wk .i64 ((text.size : Int) - x13.2.1))))).bind fun b_1 => (if b_1 then some ((ByteArray.mk #[]), 0, false)
  else (sub2 text x13.2.1 (wk .i64 (x13.2.1 + x13.1))).bind fun x36 => some (x36, (wk .i64 (x13.2.1 + x13.1)), true))
noncomputable def spec_l08Short (c : T_spec_l08Cur) : Option (ByteArray × T_spec_l08Cur) :=
  (spec_ReadShort c.text c.at_).bind fun x15 => (if c.bad then some true else some (!x15.2.2)).bind fun b => (if b then some ((ByteArray.mk #[]), (T_spec_l08Cur.mk c.text c.at_ true))
  else some (x15.1, (T_spec_l08Cur.mk c.text x15.2.1 c.bad)))
noncomputable def spec_l17Short (s : ByteArray) : Option ByteArray :=
  (spec_l01Var (s.size : Int)).bind fun x5 => (sapp x5 s).bind fun t => some t
noncomputable def spec_LineOk_j1 (line : ByteArray) : Option (Bool) :=
  some (decide ((line.size : Int) ≤ 60))
noncomputable def spec_LineOk_l1 (line : ByteArray) (i : Int) : Option ((Int) ⊕ ((Bool) ⊕ (Unit))) :=
  (if (decide (i < (line.size : Int))) then (sidx line i).bind fun x12 => (if (x12 == 10) then some (.inr (.inl false))
  else some (.inl (wk .i64 (i + 1))))
  else some (.inr (.inr ())))
noncomputable def spec_LineOk (line : ByteArray) : Option Bool :=
  (loopM (fun (s' : Int) => spec_LineOk_l1 line s') (0)).bind fun p => (match p with | .inl c' => some c' | .inr q => spec_LineOk_j1 line)
noncomputable def spec_l03All_j1 : Option (Bool) :=
  some true
noncomputable def spec_l03All_l1 (list_ : List ByteArray) (i : Int) : Option ((Int) ⊕ ((Bool) ⊕ (Unit))) :=
  (if (decide (i < (list_.length : Int))) then (geti list_ i).bind fun x => (spec_LineOk x).bind fun x20 => (if (!x20) then some (.inr (.inl false))
  else some (.inl (wk .i64 (i + 1))))
  else some (.inr (.inr ())))
noncomputable def spec_l03All (list_ : List ByteArray) (most : Int) : Option Bool :=
  (if (decide ((list_.length : Int) > most)) then some false
  else (loopM (fun (s' : Int) => spec_l03All_l1 list_ s') (0)).bind fun p => (match p with | .inl c' => some c' | .inr q => spec_l03All_j1))
noncomputable def spec_LinesOk (list_ : List ByteArray) : Option Bool :=
  (spec_l03All list_ 80).bind fun x4 => some x4
noncomputable def spec_l22ChangeOk (x : T_impl_Change) : Option Bool :=
  (spec_l01In x.Kind 0 255).bind fun x5 => (if x5 then some (decide ((x.Path.size : Int) ≤ 60000)) else some false).bind fun b => (if b then some (decide ((x.To.size : Int) ≤ 60000)) else some false).bind fun b_1 => (if b_1 then (spec_LinesOk x.Lines).bind fun x21 => some x21 else some false).bind fun b_2 => some b_2
noncomputable def spec_Sealed (text : ByteArray) : Option (ByteArray × Bool) :=
  (if (decide ((text.size : Int) > 60000)) then some ((ByteArray.mk #[]), false)
  else (spec_SumOf text).bind fun x9 => (spec_l02Four x9).bind fun x10 => (sapp text x10).bind fun t => some (t, true))
noncomputable def spec_BundleText_j1 (out_ : List Int) : Option (ByteArray × Bool) :=
  (spec_Sealed (mkS out_)).bind fun x145 => some (x145.1, x145.2)
noncomputable def spec_BundleText_j2 (i : Int) (out__2 : List Int) : Option ((Int × (List Int)) ⊕ ((ByteArray × Bool) ⊕ ((List Int)))) :=
  some (.inl ((wk .i64 (i + 1)), out__2))
noncomputable def spec_BundleText_j4 (i : Int) (out__3 : List Int) : Option ((Int × (List Int)) ⊕ ((ByteArray × Bool) ⊕ ((List Int)))) :=
  (if (decide ((out__3.length : Int) > 60000)) then some (.inr (.inl ((ByteArray.mk #[]), false)))
  else spec_BundleText_j2 i out__3)
noncomputable def spec_BundleText_j5 (k : Int) (out__5 : List Int) : Option ((Int × (List Int)) ⊕ (((Int × (List Int)) ⊕ ((ByteArray × Bool) ⊕ ((List Int)))) ⊕ ((List Int)))) :=
  some (.inl ((wk .i64 (k + 1)), out__5))
noncomputable def spec_BundleText_j6 (k : Int) (out__4 : List Int) (s_1 : ByteArray) : Option ((Int × (List Int)) ⊕ (((Int × (List Int)) ⊕ ((ByteArray × Bool) ⊕ ((List Int)))) ⊕ ((List Int)))) :=
  (appn out__4 (bytesL s_1)).bind fun l_1 => (if (decide ((l_1.length : Int) > 60000)) then some (.inr (.inl (.inr (.inl ((ByteArray.mk #[]), false)))))
  else spec_BundleText_j5 k l_1)
noncomputable def spec_BundleText_l3 (x_1 : T_impl_Change) (s_2 : ByteArray) (j : Int) : Option ((ByteArray × Int) ⊕ (ByteArray)) :=
  (if (decide (j < (x_1.Lines.length : Int))) then (geti x_1.Lines j).bind fun x_2 => (spec_l17Short x_2).bind fun x131 => (sapp s_2 x131).bind fun t_6 => some (.inl (t_6, (wk .i64 (j + 1))))
  else some (.inr s_2))
noncomputable def spec_BundleText_l2 (x : T_impl_Step) (k : Int) (out__4 : List Int) : Option ((Int × (List Int)) ⊕ (((Int × (List Int)) ⊕ ((ByteArray × Bool) ⊕ ((List Int)))) ⊕ ((List Int)))) :=
  (if (decide (k < (x.Changes.length : Int))) then (geti x.Changes k).bind fun x_1 => (spec_l22ChangeOk (T_impl_Change.mk x_1.Kind x_1.Path x_1.To x_1.Lines)).bind fun x98 => (if (!x98) then some (.inr (.inl (.inr (.inl ((ByteArray.mk #[]), false)))))
  else (spec_l17Short x_1.Path).bind fun x107 => (sapp (mkS [(wk .u8 x_1.Kind)]) x107).bind fun t_3 => (spec_l17Short x_1.To).bind fun x111 => (sapp t_3 x111).bind fun t_4 => (spec_l01Var (x_1.Lines.length : Int)).bind fun x116 => (sapp t_4 x116).bind fun t_5 => (loopM (fun (s' : ByteArray × Int) => spec_BundleText_l3 x_1 s'.1 s'.2) (t_5, 0)).bind fun p_2 => spec_BundleText_j6 k out__4 p_2)
  else some (.inr (.inr out__4)))
noncomputable def spec_BundleText_j3 (i : Int) (out__1 : List Int) (x : T_impl_Step) (s : ByteArray) : Option ((Int × (List Int)) ⊕ ((ByteArray × Bool) ⊕ ((List Int)))) :=
  (spec_l17Short x.Note).bind fun x76 => (sapp s x76).bind fun t_1 => (spec_l01Var (x.Changes.length : Int)).bind fun x81 => (sapp t_1 x81).bind fun t_2 => (appn out__1 (bytesL t_2)).bind fun l => (loopM (fun (s' : Int × (List Int)) => spec_BundleText_l2 x s'.1 s'.2) (0, l)).bind fun p_1 => (match p_1 with | .inl c' => some c' | .inr q => spec_BundleText_j4 i q)
noncomputable def spec_BundleText_l4 (x : T_impl_Step) (s_3 : ByteArray) (k_1 : Int) : Option ((ByteArray × Int) ⊕ (((Int × (List Int)) ⊕ ((ByteArray × Bool) ⊕ ((List Int)))) ⊕ (ByteArray))) :=
  (if (decide (k_1 < (x.Parents.length : Int))) then (geti x.Parents k_1).bind fun x_3 => (spec_l01In x_3 0 1000000000).bind fun x62 => (if (!x62) then some (.inr (.inl (.inr (.inl ((ByteArray.mk #[]), false)))))
  else (spec_l01Var x_3).bind fun x70 => (sapp s_3 x70).bind fun t_7 => some (.inl (t_7, (wk .i64 (k_1 + 1)))))
  else some (.inr (.inr s_3)))
noncomputable def spec_BundleText_l1 (list_ : List T_impl_Step) (i : Int) (out__1 : List Int) : Option ((Int × (List Int)) ⊕ ((ByteArray × Bool) ⊕ ((List Int)))) :=
  (if (decide (i < (list_.length : Int))) then (geti list_ i).bind fun x => (if (decide ((x.Parents.length : Int) > 4)) then some true else some (decide ((x.Changes.length : Int) > 8))).bind fun b => (if b then some true else some (decide ((x.Note.size : Int) > 60000))).bind fun b_1 => (if b_1 then some (.inr (.inl ((ByteArray.mk #[]), false)))
  else (spec_l01Var (x.Parents.length : Int)).bind fun x49 => (loopM (fun (s' : ByteArray × Int) => spec_BundleText_l4 x s'.1 s'.2) (x49, 0)).bind fun p_3 => (match p_3 with | .inl c' => some c' | .inr q_1 => spec_BundleText_j3 i out__1 x q_1))
  else some (.inr (.inr out__1)))
noncomputable def spec_BundleText (list_ : List T_impl_Step) : Option (ByteArray × Bool) :=
  (if (decide ((list_.length : Int) > 40)) then some ((ByteArray.mk #[]), false)
  else (spec_l01Var (list_.length : Int)).bind fun x17 => (sapp (ByteArray.mk #[84, 66, 49]) x17).bind fun t => (loopM (fun (s' : Int × (List Int)) => spec_BundleText_l1 list_ s'.1 s'.2) (0, (bytesL t))).bind fun p => (match p with | .inl c' => some c' | .inr q_2 => spec_BundleText_j1 q_2))
noncomputable def spec_ReadBundle_j1 (text : ByteArray) (c : ByteArray) (c_1 : Int) (c_2 : Bool) (out_ : List T_impl_Step) : Option ((List T_impl_Step) × Bool) :=
  (spec_BundleText out_).bind fun x135 => (if c_2 then some true else some (!x135.2)).bind fun b => (if b then some true else some (!(x135.1.toList == text.toList))).bind fun b_1 => (if b_1 then some ([], false)
  else some (out_, true))
noncomputable def spec_ReadBundle_j2 (i : Int) (c_6 : ByteArray) (c_7 : Int) (c_8 : Bool) (out__2 : List T_impl_Step) : Option ((Int × ByteArray × Int × Bool × (List T_impl_Step)) ⊕ (ByteArray × Int × Bool × (List T_impl_Step))) :=
  some (.inl ((wk .i64 (i + 1)), c_6, c_7, c_8, out__2))
noncomputable def spec_ReadBundle_j4 (i : Int) (out__1 : List T_impl_Step) (x : List Int) (x69 : ByteArray × T_spec_l08Cur) (c_12 : ByteArray) (c_13 : Int) (c_14 : Bool) (x_1 : List T_impl_Change) : Option ((Int × ByteArray × Int × Bool × (List T_impl_Step)) ⊕ (ByteArray × Int × Bool × (List T_impl_Step))) :=
  (appn out__1 [(T_impl_Step.mk x x69.1 x_1)]).bind fun l => spec_ReadBundle_j2 i c_12 c_13 c_14 l
noncomputable def spec_ReadBundle_j5 (k : Int) (c_18 : ByteArray) (c_19 : Int) (c_20 : Bool) (x_3 : List T_impl_Change) : Option ((Int × ByteArray × Int × Bool × (List T_impl_Change)) ⊕ (ByteArray × Int × Bool × (List T_impl_Change))) :=
  some (.inl ((wk .i64 (k + 1)), c_18, c_19, c_20, x_3))
noncomputable def spec_ReadBundle_j7 (k : Int) (x_2 : List T_impl_Change) (y : Int) (x98 : ByteArray × T_spec_l08Cur) (x101 : ByteArray × T_spec_l08Cur) (c_21 : ByteArray) (c_22 : Int) (c_23 : Bool) (y_1 : List ByteArray) : Option ((Int × ByteArray × Int × Bool × (List T_impl_Change)) ⊕ (ByteArray × Int × Bool × (List T_impl_Change))) :=
  (appn x_2 [(T_impl_Change.mk y x98.1 x101.1 y_1)]).bind fun l_1 => spec_ReadBundle_j5 k c_21 c_22 c_23 l_1
noncomputable def spec_ReadBundle_l3 (j : Int) (c_24 : ByteArray) (c_25 : Int) (c_26 : Bool) (y_2 : List ByteArray) : Option ((Int × ByteArray × Int × Bool × (List ByteArray)) ⊕ (ByteArray × Int × Bool × (List ByteArray))) :=
  (if (decide (j > 0)) then some (!c_26) else some false).bind fun b_4 => (if b_4 then (spec_l08Short (T_spec_l08Cur.mk c_24 c_25 c_26)).bind fun x119 => (appn y_2 [x119.1]).bind fun l_2 => some (.inl ((wk .i64 (j - 1)), x119.2.text, x119.2.at_, x119.2.bad, l_2))
  else some (.inr (c_24, c_25, c_26, y_2)))
noncomputable def spec_ReadBundle_j6 (k : Int) (x_2 : List T_impl_Change) (x87 : ByteArray × T_spec_l08Cur) (y : Int) : Option ((Int × ByteArray × Int × Bool × (List T_impl_Change)) ⊕ (ByteArray × Int × Bool × (List T_impl_Change))) :=
  (spec_l08Short (T_spec_l08Cur.mk x87.2.text x87.2.at_ x87.2.bad)).bind fun x98 => (spec_l08Short (T_spec_l08Cur.mk x98.2.text x98.2.at_ x98.2.bad)).bind fun x101 => (spec_l08Var (T_spec_l08Cur.mk x101.2.text x101.2.at_ x101.2.bad) 80).bind fun x104 => (loopM (fun (s' : Int × ByteArray × Int × Bool × (List ByteArray)) => spec_ReadBundle_l3 s'.1 s'.2.1 s'.2.2.1 s'.2.2.2.1 s'.2.2.2.2) (x104.1, x104.2.text, x104.2.at_, x104.2.bad, [])).bind fun p_2 => spec_ReadBundle_j7 k x_2 y x98 x101 p_2.1 p_2.2.1 p_2.2.2.1 p_2.2.2.2
noncomputable def spec_ReadBundle_l2 (x72 : Int × T_spec_l08Cur) (k : Int) (c_15 : ByteArray) (c_16 : Int) (c_17 : Bool) (x_2 : List T_impl_Change) : Option ((Int × ByteArray × Int × Bool × (List T_impl_Change)) ⊕ (ByteArray × Int × Bool × (List T_impl_Change))) :=
  (if (decide (k < x72.1)) then some (!c_17) else some false).bind fun b_3 => (if b_3 then (spec_l08Take (T_spec_l08Cur.mk c_15 c_16 c_17) 1).bind fun x87 => (if (!x87.2.bad) then (sidx x87.1 0).bind fun x94 => spec_ReadBundle_j6 k x_2 x87 (wk .i64 x94)
  else spec_ReadBundle_j6 k x_2 x87 0)
  else some (.inr (c_15, c_16, c_17, x_2)))
noncomputable def spec_ReadBundle_j3 (i : Int) (out__1 : List T_impl_Step) (c_9 : ByteArray) (c_10 : Int) (c_11 : Bool) (x : List Int) : Option ((Int × ByteArray × Int × Bool × (List T_impl_Step)) ⊕ (ByteArray × Int × Bool × (List T_impl_Step))) :=
  (spec_l08Short (T_spec_l08Cur.mk c_9 c_10 c_11)).bind fun x69 => (spec_l08Var (T_spec_l08Cur.mk x69.2.text x69.2.at_ x69.2.bad) 8).bind fun x72 => (loopM (fun (s' : Int × ByteArray × Int × Bool × (List T_impl_Change)) => spec_ReadBundle_l2 x72 s'.1 s'.2.1 s'.2.2.1 s'.2.2.2.1 s'.2.2.2.2) (0, x72.2.text, x72.2.at_, x72.2.bad, [])).bind fun p_1 => spec_ReadBundle_j4 i out__1 x x69 p_1.1 p_1.2.1 p_1.2.2.1 p_1.2.2.2
noncomputable def spec_ReadBundle_l4 (x48 : Int × T_spec_l08Cur) (k_1 : Int) (c_27 : ByteArray) (c_28 : Int) (c_29 : Bool) (x_4 : List Int) : Option ((Int × ByteArray × Int × Bool × (List Int)) ⊕ (ByteArray × Int × Bool × (List Int))) :=
  (if (decide (k_1 < x48.1)) then some (!c_29) else some false).bind fun b_5 => (if b_5 then (spec_l08Var (T_spec_l08Cur.mk c_27 c_28 c_29) 1000000000).bind fun x64 => (appn x_4 [x64.1]).bind fun l_3 => some (.inl ((wk .i64 (k_1 + 1)), x64.2.text, x64.2.at_, x64.2.bad, l_3))
  else some (.inr (c_27, c_28, c_29, x_4)))
noncomputable def spec_ReadBundle_l1 (x33 : Int × T_spec_l08Cur) (i : Int) (c_3 : ByteArray) (c_4 : Int) (c_5 : Bool) (out__1 : List T_impl_Step) : Option ((Int × ByteArray × Int × Bool × (List T_impl_Step)) ⊕ (ByteArray × Int × Bool × (List T_impl_Step))) :=
  (if (decide (i < x33.1)) then some (!c_5) else some false).bind fun b_2 => (if b_2 then (spec_l08Var (T_spec_l08Cur.mk c_3 c_4 c_5) 4).bind fun x48 => (loopM (fun (s' : Int × ByteArray × Int × Bool × (List Int)) => spec_ReadBundle_l4 x48 s'.1 s'.2.1 s'.2.2.1 s'.2.2.2.1 s'.2.2.2.2) (0, x48.2.text, x48.2.at_, x48.2.bad, [])).bind fun p_3 => spec_ReadBundle_j3 i out__1 p_3.1 p_3.2.1 p_3.2.2.1 p_3.2.2.2
  else some (.inr (c_3, c_4, c_5, out__1)))
noncomputable def spec_ReadBundle (text : ByteArray) : Option ((List T_impl_Step) × Bool) :=
  (spec_Unsealed text).bind fun x21 => (spec_l08Take (T_spec_l08Cur.mk x21.1 0 (!x21.2)) 3).bind fun x30 => (spec_l08Var (T_spec_l08Cur.mk x30.2.text x30.2.at_ x30.2.bad) 40).bind fun x33 => (loopM (fun (s' : Int × ByteArray × Int × Bool × (List T_impl_Step)) => spec_ReadBundle_l1 x33 s'.1 s'.2.1 s'.2.2.1 s'.2.2.2.1 s'.2.2.2.2) (0, x33.2.text, x33.2.at_, x33.2.bad, [])).bind fun p => spec_ReadBundle_j1 text p.1 p.2.1 p.2.2.1 p.2.2.2
noncomputable def impl_SumMore_j1 (sum_1 : Int) : Option (Int) :=
  some sum_1
noncomputable def impl_SumMore_j2 (i : Int) (sum_3 : Int) : Option ((Int × Int) ⊕ (Int)) :=
  some (.inl (sum_3, (wk .i64 (i + 1))))
noncomputable def impl_SumMore_l2 (sum_4 : Int) (x19 : Int) : Option ((Int × Int) ⊕ (Int)) :=
  (if (decide (x19 < 8)) then (if ((bits .and .u32 sum_4 1) == 1) then some (.inl ((bits .xor .u32 (shrI .u32 sum_4 1) 3558460437), (wk .i64 (x19 + 1))))
  else some (.inl ((shrI .u32 sum_4 1), (wk .i64 (x19 + 1)))))
  else some (.inr sum_4))
noncomputable def impl_SumMore_l1 (text : ByteArray) (sum_2 : Int) (i : Int) : Option ((Int × Int) ⊕ (Int)) :=
  (if (decide (i < (text.size : Int))) then (sidx text i).bind fun x16 => (loopM (fun (s' : Int × Int) => impl_SumMore_l2 s'.1 s'.2) ((bits .xor .u32 sum_2 (wk .u32 x16)), 0)).bind fun p_1 => impl_SumMore_j2 i p_1
  else some (.inr sum_2))
noncomputable def impl_SumMore (sum : Int) (text : ByteArray) : Option Int :=
  (loopM (fun (s' : Int × Int) => impl_SumMore_l1 text s'.1 s'.2) (sum, 0)).bind fun p => impl_SumMore_j1 p
noncomputable def impl_SumOf (text : ByteArray) : Option Int :=
  (impl_SumMore 4294967295 text).bind fun x4 => some x4
noncomputable def impl_sumText (text : ByteArray) : Option ByteArray :=
  (impl_SumOf text).bind fun x5 => some (mkS [(wk .u8 (shrI .u32 x5 24)), (wk .u8 (shrI .u32 x5 16)), (wk .u8 (shrI .u32 x5 8)), (wk .u8 x5)])
noncomputable def impl_Unsealed (text : ByteArray) : Option (ByteArray × Bool) :=
  (if (decide ((wk .i64 ((text.size : Int) - 4)) < 0)) then some true else some (decide ((wk .i64 ((text.size : Int) - 4)) > 60000))).bind fun b => (if b then some true else (subH text (wk .i64 ((text.size : Int) - 4))).bind fun x17 => (impl_sumText x17).bind fun x18 => (subL text (wk .i64 ((text.size : Int) - 4))).bind fun x21 => some (!(x18.toList == x21.toList))).bind fun b_1 => (if b_1 then some ((ByteArray.mk #[]), false)
  else (subH text (wk .i64 ((text.size : Int) - 4))).bind fun x26 => some (x26, true))
noncomputable def impl_scanner_take (s : T_impl_scanner) (n : Int) : Option (ByteArray × T_impl_scanner) :=
  (if s.bad then some true else some (decide (n > (wk .i64 ((s.text.size : Int) - s.at_))))).bind fun b => (if b then some ((ByteArray.mk #[]), (T_impl_scanner.mk s.text s.at_ true))
  else (sub2 s.text (wk .i64 ((wk .i64 (s.at_ + n)) - n)) (wk .i64 (s.at_ + n))).bind fun x48 => some (x48, (T_impl_scanner.mk s.text (wk .i64 (s.at_ + n)) s.bad)))
noncomputable def impl_scanner_mark (s : T_impl_scanner) (mark : ByteArray) : Option T_impl_scanner :=
  (impl_scanner_take (T_impl_scanner.mk s.text s.at_ s.bad) (mark.size : Int)).bind fun x7 => (if (!(x7.1.toList == mark.toList)) then some (T_impl_scanner.mk x7.2.text x7.2.at_ true)
  else some (T_impl_scanner.mk x7.2.text x7.2.at_ x7.2.bad))
noncomputable def impl_ReadVar_j1 : Option (Int × Int × Bool) :=
  some (0, 0, false)
noncomputable def impl_ReadVar_l1 (text : ByteArray) (at_ : Int) (n : Int) (unit : Int) (i : Int) : Option ((Int × Int × Int) ⊕ ((Int × Int × Bool) ⊕ (Unit))) :=
  (if (decide (i < 5)) then some (decide ((wk .i64 (at_ + i)) < (text.size : Int))) else some false).bind fun b_1 => (if b_1 then (sidx text (wk .i64 (at_ + i))).bind fun x35 => (if (decide ((wk .i64 x35) ≥ 128)) then some (.inl ((wk .i64 (n + (wk .i64 (((wk .i64 x35).tmod 128) * unit)))), (wk .i64 (unit * 128)), (wk .i64 (i + 1))))
  else (if ((wk .i64 x35) == 0) then some (decide (i > 0)) else some false).bind fun b_2 => (if b_2 then some true else some (decide ((wk .i64 (n + (wk .i64 (((wk .i64 x35).tmod 128) * unit)))) > 1000000000))).bind fun b_3 => (if b_3 then some (.inr (.inl (0, 0, false)))
  else some (.inr (.inl ((wk .i64 (n + (wk .i64 (((wk .i64 x35).tmod 128) * unit)))), (wk .i64 ((wk .i64 (at_ + i)) + 1)), true)))))
  else some (.inr (.inr ())))
noncomputable def impl_ReadVar (text : ByteArray) (at_ : Int) : Option (Int × Int × Bool) :=
  (if (decide (at_ < 0)) then some true else some (decide (at_ > (text.size : Int)))).bind fun b => (if b then some (0, 0, false)
  else (loopM (fun (s' : Int × Int × Int) => impl_ReadVar_l1 text at_ s'.1 s'.2.1 s'.2.2) (0, 1, 0)).bind fun p => (match p with | .inl c' => some c' | .inr q => impl_ReadVar_j1))
noncomputable def impl_scanner_number (s : T_impl_scanner) : Option (Int × T_impl_scanner) :=
  (impl_ReadVar s.text s.at_).bind fun x15 => (if s.bad then some true else some (!x15.2.2)).bind fun b => (if b then some (0, (T_impl_scanner.mk s.text s.at_ true))
  else some (x15.1, (T_impl_scanner.mk s.text x15.2.1 s.bad)))
noncomputable def impl_scanner_count (s : T_impl_scanner) (most : Int) : Option (Int × T_impl_scanner) :=
  (impl_scanner_number (T_impl_scanner.mk s.text s.at_ s.bad)).bind fun x7 => (if (decide (x7.1 > most)) then some (0, (T_impl_scanner.mk x7.2.text x7.2.at_ true))
  else some (x7.1, (T_impl_scanner.mk x7.2.text x7.2.at_ x7.2.bad)))
noncomputable def impl_scanner_numbers_j1 (s_1 : ByteArray) (s_2 : Int) (s_3 : Bool) (out_ : List Int) : Option ((List Int) × T_impl_scanner) :=
  some (out_, (T_impl_scanner.mk s_1 s_2 s_3))
noncomputable def impl_scanner_numbers_l1 (x9 : Int × T_impl_scanner) (x10 : Int) (s_4 : ByteArray) (s_5 : Int) (s_6 : Bool) (out__1 : List Int) : Option ((Int × ByteArray × Int × Bool × (List Int)) ⊕ (ByteArray × Int × Bool × (List Int))) :=
  (if (decide (x10 < x9.1)) then (impl_scanner_number (T_impl_scanner.mk s_4 s_5 s_6)).bind fun x13 => (appn out__1 [x13.1]).bind fun l => some (.inl ((wk .i64 (x10 + 1)), x13.2.text, x13.2.at_, x13.2.bad, l))
  else some (.inr (s_4, s_5, s_6, out__1)))
noncomputable def impl_scanner_numbers (s : T_impl_scanner) (most : Int) : Option ((List Int) × T_impl_scanner) :=
  (impl_scanner_count (T_impl_scanner.mk s.text s.at_ s.bad) most).bind fun x9 => (loopM (fun (s' : Int × ByteArray × Int × Bool × (List Int)) => impl_scanner_numbers_l1 x9 s'.1 s'.2.1 s'.2.2.1 s'.2.2.2.1 s'.2.2.2.2) (0, x9.2.text, x9.2.at_, x9.2.bad, [])).bind fun p => impl_scanner_numbers_j1 p.1 p.2.1 p.2.2.1 p.2.2.2
noncomputable def impl_scanner_short_j1 (x5 : Int × T_impl_scanner) (s_1 : Bool) : Option (ByteArray × T_impl_scanner) :=
  (impl_scanner_take (T_impl_scanner.mk x5.2.text x5.2.at_ s_1) x5.1).bind fun x13 => some (x13.1, (T_impl_scanner.mk x13.2.text x13.2.at_ x13.2.bad))
noncomputable def impl_scanner_short (s : T_impl_scanner) : Option (ByteArray × T_impl_scanner) :=
  (impl_scanner_number (T_impl_scanner.mk s.text s.at_ s.bad)).bind fun x5 => (if (decide (x5.1 > 60000)) then impl_scanner_short_j1 x5 true
  else impl_scanner_short_j1 x5 x5.2.bad)
noncomputable def impl_scanner_octet (s : T_impl_scanner) : Option (Int × T_impl_scanner) :=
  (impl_scanner_take (T_impl_scanner.mk s.text s.at_ s.bad) 1).bind fun x5 => (if (x5.1.toList == (ByteArray.mk #[]).toList) then some (0, (T_impl_scanner.mk x5.2.text x5.2.at_ x5.2.bad))
  else (sidx x5.1 0).bind fun x9 => some ((wk .i64 x9), (T_impl_scanner.mk x5.2.text x5.2.at_ x5.2.bad)))
noncomputable def impl_scanner_change_j1 (x6 : Int × T_impl_scanner) (x9 : ByteArray × T_impl_scanner) (x12 : ByteArray × T_impl_scanner) (s_1 : ByteArray) (s_2 : Int) (s_3 : Bool) (c : List ByteArray) : Option (T_impl_Change × T_impl_scanner) :=
  some ((T_impl_Change.mk x6.1 x9.1 x12.1 c), (T_impl_scanner.mk s_1 s_2 s_3))
noncomputable def impl_scanner_change_l1 (x15 : Int × T_impl_scanner) (x16 : Int) (s_4 : ByteArray) (s_5 : Int) (s_6 : Bool) (c_1 : List ByteArray) : Option ((Int × ByteArray × Int × Bool × (List ByteArray)) ⊕ (ByteArray × Int × Bool × (List ByteArray))) :=
  (if (decide (x16 < x15.1)) then (impl_scanner_short (T_impl_scanner.mk s_4 s_5 s_6)).bind fun x19 => (appn c_1 [x19.1]).bind fun l => some (.inl ((wk .i64 (x16 + 1)), x19.2.text, x19.2.at_, x19.2.bad, l))
  else some (.inr (s_4, s_5, s_6, c_1)))
noncomputable def impl_scanner_change (s : T_impl_scanner) : Option (T_impl_Change × T_impl_scanner) :=
  (impl_scanner_octet (T_impl_scanner.mk s.text s.at_ s.bad)).bind fun x6 => (impl_scanner_short (T_impl_scanner.mk x6.2.text x6.2.at_ x6.2.bad)).bind fun x9 => (impl_scanner_short (T_impl_scanner.mk x9.2.text x9.2.at_ x9.2.bad)).bind fun x12 => (impl_scanner_count (T_impl_scanner.mk x12.2.text x12.2.at_ x12.2.bad) 80).bind fun x15 => (loopM (fun (s' : Int × ByteArray × Int × Bool × (List ByteArray)) => impl_scanner_change_l1 x15 s'.1 s'.2.1 s'.2.2.1 s'.2.2.2.1 s'.2.2.2.2) (0, x15.2.text, x15.2.at_, x15.2.bad, [])).bind fun p => impl_scanner_change_j1 x6 x9 x12 p.1 p.2.1 p.2.2.1 p.2.2.2
noncomputable def impl_inRange (n : Int) (least : Int) (most : Int) : Option Bool :=
  (if (decide (n ≥ least)) then some (decide (n ≤ most)) else some false).bind fun b => some b
noncomputable def impl_numbersOk_j1 : Option (Bool) :=
  some true
noncomputable def impl_numbersOk_l1 (list_ : List Int) (x7 : Int) : Option ((Int) ⊕ ((Bool) ⊕ (Unit))) :=
  (if (decide (x7 < (list_.length : Int))) then (geti list_ x7).bind fun x => (impl_inRange x 0 1000000000).bind fun x12 => (if (!x12) then some (.inr (.inl false))
  else some (.inl (wk .i64 (x7 + 1))))
  else some (.inr (.inr ())))
noncomputable def impl_numbersOk (list_ : List Int) : Option Bool :=
  (loopM (fun (s' : Int) => impl_numbersOk_l1 list_ s') (0)).bind fun p => (match p with | .inl c' => some c' | .inr q => impl_numbersOk_j1)
noncomputable def strings_Contains (s : ByteArray) (x : ByteArray) : Option Bool :=
  if s.size < 4294967281 then some (Go.Lib.contains s.data.toList x.data.toList) else none
noncomputable def impl_LineOk (line : ByteArray) : Option Bool :=
  (if (decide ((line.size : Int) ≤ 60)) then (strings_Contains line (ByteArray.mk #[10])).bind fun x8 => some (!x8) else some false).bind fun b => some b
noncomputable def impl_areLines_j1 : Option (Bool) :=
  some true
noncomputable def impl_areLines_l1 (list_ : List ByteArray) (x7 : Int) : Option ((Int) ⊕ ((Bool) ⊕ (Unit))) :=
  (if (decide (x7 < (list_.length : Int))) then (geti list_ x7).bind fun x => (impl_LineOk x).bind fun x12 => (if (!x12) then some (.inr (.inl false))
  else some (.inl (wk .i64 (x7 + 1))))
  else some (.inr (.inr ())))
noncomputable def impl_areLines (list_ : List ByteArray) : Option Bool :=
  (loopM (fun (s' : Int) => impl_areLines_l1 list_ s') (0)).bind fun p => (match p with | .inl c' => some c' | .inr q => impl_areLines_j1)
noncomputable def impl_LinesOk (list_ : List ByteArray) : Option Bool :=
  (if (decide ((list_.length : Int) ≤ 80)) then (impl_areLines list_).bind fun x8 => some x8 else some false).bind fun b => some b
noncomputable def impl_stepOk_j1 : Option (Bool) :=
  some true
noncomputable def impl_stepOk_l1 (x : T_impl_Step) (x30 : Int) : Option ((Int) ⊕ ((Bool) ⊕ (Unit))) :=
  (if (decide (x30 < (x.Changes.length : Int))) then (geti x.Changes x30).bind fun x_1 => (impl_inRange x_1.Kind 0 255).bind fun x36 => (if (!x36) then some true else some (decide ((x_1.Path.size : Int) > 60000))).bind fun b_3 => (if b_3 then some true else some (decide ((x_1.To.size : Int) > 60000))).bind fun b_4 => (if b_4 then some true else (impl_LinesOk x_1.Lines).bind fun x53 => some (!x53)).bind fun b_5 => (if b_5 then some (.inr (.inl false))
  else some (.inl (wk .i64 (x30 + 1))))
  else some (.inr (.inr ())))
noncomputable def impl_stepOk (x : T_impl_Step) : Option Bool :=
  (if (decide ((x.Parents.length : Int) > 4)) then some true else (impl_numbersOk x.Parents).bind fun x12 => some (!x12)).bind fun b => (if b then some true else some (decide ((x.Changes.length : Int) > 8))).bind fun b_1 => (if b_1 then some true else some (decide ((x.Note.size : Int) > 60000))).bind fun b_2 => (if b_2 then some false
  else (loopM (fun (s' : Int) => impl_stepOk_l1 x s') (0)).bind fun p => (match p with | .inl c' => some c' | .inr q => impl_stepOk_j1))
noncomputable def impl_scanner_done (s : T_impl_scanner) : Option Bool :=
  (if (!s.bad) then some (s.at_ == (s.text.size : Int)) else some false).bind fun b => some b
noncomputable def impl_ReadBundle_j1 (s : ByteArray) (s_1 : Int) (s_2 : Bool) (list_ : List T_impl_Step) : Option ((List T_impl_Step) × Bool) :=
  (impl_scanner_done (T_impl_scanner.mk s s_1 s_2)).bind fun x51 => (if (!x51) then some ([], false)
  else some (list_, true))
noncomputable def impl_ReadBundle_j2 (x21 : Int) (s_6 : ByteArray) (s_7 : Int) (s_8 : Bool) (list__2 : List T_impl_Step) : Option ((Int × ByteArray × Int × Bool × (List T_impl_Step)) ⊕ (ByteArray × Int × Bool × (List T_impl_Step))) :=
  some (.inl ((wk .i64 (x21 + 1)), s_6, s_7, s_8, list__2))
noncomputable def impl_ReadBundle_j3 (x21 : Int) (list__1 : List T_impl_Step) (x23 : (List Int) × T_impl_scanner) (x25 : ByteArray × T_impl_scanner) (s_9 : ByteArray) (s_10 : Int) (s_11 : Bool) (x : List T_impl_Change) : Option ((Int × ByteArray × Int × Bool × (List T_impl_Step)) ⊕ (ByteArray × Int × Bool × (List T_impl_Step))) :=
  (if s_11 then some true else (impl_stepOk (T_impl_Step.mk x23.1 x25.1 x)).bind fun x42 => some (!x42)).bind fun b => (appn list__1 [(T_impl_Step.mk x23.1 x25.1 x)]).bind fun l => impl_ReadBundle_j2 x21 s_9 s_10 b l
noncomputable def impl_ReadBundle_l2 (x27 : Int × T_impl_scanner) (x28 : Int) (s_12 : ByteArray) (s_13 : Int) (s_14 : Bool) (x_1 : List T_impl_Change) : Option ((Int × ByteArray × Int × Bool × (List T_impl_Change)) ⊕ (ByteArray × Int × Bool × (List T_impl_Change))) :=
  (if (decide (x28 < x27.1)) then (impl_scanner_change (T_impl_scanner.mk s_12 s_13 s_14)).bind fun x30 => (appn x_1 [(T_impl_Change.mk x30.1.Kind x30.1.Path x30.1.To x30.1.Lines)]).bind fun l_1 => some (.inl ((wk .i64 (x28 + 1)), x30.2.text, x30.2.at_, x30.2.bad, l_1))
  else some (.inr (s_12, s_13, s_14, x_1)))
noncomputable def impl_ReadBundle_l1 (x20 : Int × T_impl_scanner) (x21 : Int) (s_3 : ByteArray) (s_4 : Int) (s_5 : Bool) (list__1 : List T_impl_Step) : Option ((Int × ByteArray × Int × Bool × (List T_impl_Step)) ⊕ (ByteArray × Int × Bool × (List T_impl_Step))) :=
  (if (decide (x21 < x20.1)) then (impl_scanner_numbers (T_impl_scanner.mk s_3 s_4 s_5) 4).bind fun x23 => (impl_scanner_short (T_impl_scanner.mk x23.2.text x23.2.at_ x23.2.bad)).bind fun x25 => (impl_scanner_count (T_impl_scanner.mk x25.2.text x25.2.at_ x25.2.bad) 8).bind fun x27 => (loopM (fun (s' : Int × ByteArray × Int × Bool × (List T_impl_Change)) => impl_ReadBundle_l2 x27 s'.1 s'.2.1 s'.2.2.1 s'.2.2.2.1 s'.2.2.2.2) (0, x27.2.text, x27.2.at_, x27.2.bad, [])).bind fun p_1 => impl_ReadBundle_j3 x21 list__1 x23 x25 p_1.1 p_1.2.1 p_1.2.2.1 p_1.2.2.2
  else some (.inr (s_3, s_4, s_5, list__1)))
noncomputable def impl_ReadBundle (text : ByteArray) : Option ((List T_impl_Step) × Bool) :=
  (impl_Unsealed text).bind fun x12 => (impl_scanner_mark (T_impl_scanner.mk x12.1 0 (!x12.2)) (ByteArray.mk #[84, 66, 49])).bind fun x19 => (impl_scanner_count (T_impl_scanner.mk x19.text x19.at_ x19.bad) 40).bind fun x20 => (loopM (fun (s' : Int × ByteArray × Int × Bool × (List T_impl_Step)) => impl_ReadBundle_l1 x20 s'.1 s'.2.1 s'.2.2.1 s'.2.2.2.1 s'.2.2.2.2) (0, x20.2.text, x20.2.at_, x20.2.bad, [])).bind fun p => impl_ReadBundle_j1 p.1 p.2.1 p.2.2.1 p.2.2.2
noncomputable def laws_eqIntS_j1 : Option (Bool) :=
  some true
noncomputable def laws_eqIntS_l1 (a : List Int) (b : List Int) (i : Int) : Option ((Int) ⊕ ((Bool) ⊕ (Unit))) :=
  (if (decide (i < (a.length : Int))) then (geti a i).bind fun x => (geti b i).bind fun x_1 => (if (x != x_1) then some (.inr (.inl false))
  else some (.inl (wk .i64 (i + 1))))
  else some (.inr (.inr ())))
noncomputable def laws_eqIntS (a : List Int) (b : List Int) : Option Bool :=
  (if ((a.length : Int) != (b.length : Int)) then some false
  else (loopM (fun (s' : Int) => laws_eqIntS_l1 a b s') (0)).bind fun p => (match p with | .inl c' => some c' | .inr q => laws_eqIntS_j1))
noncomputable def laws_eqStringS_j1 : Option (Bool) :=
  some true
noncomputable def laws_eqStringS_l1 (a : List ByteArray) (b : List ByteArray) (i : Int) : Option ((Int) ⊕ ((Bool) ⊕ (Unit))) :=
  (if (decide (i < (a.length : Int))) then (geti a i).bind fun x => (geti b i).bind fun x_1 => (if (!(x.toList == x_1.toList)) then some (.inr (.inl false))
  else some (.inl (wk .i64 (i + 1))))
  else some (.inr (.inr ())))
noncomputable def laws_eqStringS (a : List ByteArray) (b : List ByteArray) : Option Bool :=
  (if ((a.length : Int) != (b.length : Int)) then some false
  else (loopM (fun (s' : Int) => laws_eqStringS_l1 a b s') (0)).bind fun p => (match p with | .inl c' => some c' | .inr q => laws_eqStringS_j1))
noncomputable def laws_eqChange (a : T_impl_Change) (b : T_impl_Change) : Option Bool :=
  (if (a.Kind != b.Kind) then some false
  else (if (!(a.Path.toList == b.Path.toList)) then some false
  else (if (!(a.To.toList == b.To.toList)) then some false
  else (laws_eqStringS a.Lines b.Lines).bind fun x24 => (if (!x24) then some false
  else some true))))
noncomputable def laws_eqChangeS_j1 : Option (Bool) :=
  some true
noncomputable def laws_eqChangeS_l1 (a : List T_impl_Change) (b : List T_impl_Change) (i : Int) : Option ((Int) ⊕ ((Bool) ⊕ (Unit))) :=
  (if (decide (i < (a.length : Int))) then (geti a i).bind fun x => (geti b i).bind fun x_1 => (laws_eqChange (T_impl_Change.mk x.Kind x.Path x.To x.Lines) (T_impl_Change.mk x_1.Kind x_1.Path x_1.To x_1.Lines)).bind fun x25 => (if (!x25) then some (.inr (.inl false))
  else some (.inl (wk .i64 (i + 1))))
  else some (.inr (.inr ())))
noncomputable def laws_eqChangeS (a : List T_impl_Change) (b : List T_impl_Change) : Option Bool :=
  (if ((a.length : Int) != (b.length : Int)) then some false
  else (loopM (fun (s' : Int) => laws_eqChangeS_l1 a b s') (0)).bind fun p => (match p with | .inl c' => some c' | .inr q => laws_eqChangeS_j1))
noncomputable def laws_eqStep (a : T_impl_Step) (b : T_impl_Step) : Option Bool :=
  (laws_eqIntS a.Parents b.Parents).bind fun x9 => (if (!x9) then some false
  else (if (!(a.Note.toList == b.Note.toList)) then some false
  else (laws_eqChangeS a.Changes b.Changes).bind fun x20 => (if (!x20) then some false
  else some true)))
noncomputable def laws_eqStepS_j1 : Option (Bool) :=
  some true
noncomputable def laws_eqStepS_l1 (a : List T_impl_Step) (b : List T_impl_Step) (i : Int) : Option ((Int) ⊕ ((Bool) ⊕ (Unit))) :=
  (if (decide (i < (a.length : Int))) then (geti a i).bind fun x => (geti b i).bind fun x_1 => (laws_eqStep (T_impl_Step.mk x.Parents x.Note x.Changes) (T_impl_Step.mk x_1.Parents x_1.Note x_1.Changes)).bind fun x25 => (if (!x25) then some (.inr (.inl false))
  else some (.inl (wk .i64 (i + 1))))
  else some (.inr (.inr ())))
noncomputable def laws_eqStepS (a : List T_impl_Step) (b : List T_impl_Step) : Option Bool :=
  (if ((a.length : Int) != (b.length : Int)) then some false
  else (loopM (fun (s' : Int) => laws_eqStepS_l1 a b s') (0)).bind fun p => (match p with | .inl c' => some c' | .inr q => laws_eqStepS_j1))
noncomputable def laws_markIntS_j1 (k_1 : Int) (a_1 : List Int) : Option (Int × (List Int)) :=
  some (k_1, a_1)
noncomputable def laws_markIntS_l1 (k_2 : Int) (i : Int) (a_2 : List Int) : Option ((Int × Int × (List Int)) ⊕ (Int × (List Int))) :=
  (if (decide (i < (a_2.length : Int))) then (geti a_2 i).bind fun x => some (.inl ((wk .i64 (k_2 + 1)), (wk .i64 (i + 1)), (a_2.set i.toNat k_2)))
  else some (.inr (k_2, a_2)))
noncomputable def laws_markIntS (a : List Int) (k : Int) : Option (Int × (List Int)) :=
  (loopM (fun (s' : Int × Int × (List Int)) => laws_markIntS_l1 s'.1 s'.2.1 s'.2.2) (k, 0, a)).bind fun p => laws_markIntS_j1 p.1 p.2
noncomputable def laws_markText_j1 (out_ : ByteArray) : Option (ByteArray) :=
  (sapp (ByteArray.mk #[109]) out_).bind fun t => some t
noncomputable def laws_markText_l1 (k_1 : Int) (out__1 : ByteArray) : Option ((Int × ByteArray) ⊕ (ByteArray)) :=
  (if (decide (k_1 > 0)) then (sapp (mkS [(wk .u8 (wk .i64 (48 + (k_1.tmod 10))))]) out__1).bind fun t_1 => some (.inl ((wk .i64 (k_1.tdiv 10)), t_1))
  else some (.inr out__1))
noncomputable def laws_markText (k : Int) : Option ByteArray :=
  (if (decide (k ≤ 0)) then some (ByteArray.mk #[109, 48])
  else (loopM (fun (s' : Int × ByteArray) => laws_markText_l1 s'.1 s'.2) (k, (ByteArray.mk #[]))).bind fun p => laws_markText_j1 p)
noncomputable def laws_markStringS_j1 (k_1 : Int) (a_1 : List ByteArray) : Option (Int × (List ByteArray)) :=
  some (k_1, a_1)
noncomputable def laws_markStringS_l1 (k_2 : Int) (i : Int) (a_2 : List ByteArray) : Option ((Int × Int × (List ByteArray)) ⊕ (Int × (List ByteArray))) :=
  (if (decide (i < (a_2.length : Int))) then (laws_markText k_2).bind fun x15 => (geti a_2 i).bind fun x => some (.inl ((wk .i64 (k_2 + 1)), (wk .i64 (i + 1)), (a_2.set i.toNat x15)))
  else some (.inr (k_2, a_2)))
noncomputable def laws_markStringS (a : List ByteArray) (k : Int) : Option (Int × (List ByteArray)) :=
  (loopM (fun (s' : Int × Int × (List ByteArray)) => laws_markStringS_l1 s'.1 s'.2.1 s'.2.2) (k, 0, a)).bind fun p => laws_markStringS_j1 p.1 p.2
noncomputable def laws_markChangeS_j1 (k_1 : Int) (a_1 : List T_impl_Change) : Option (Int × (List T_impl_Change)) :=
  some (k_1, a_1)
noncomputable def laws_markChangeS_l1 (k_2 : Int) (i : Int) (a_2 : List T_impl_Change) : Option ((Int × Int × (List T_impl_Change)) ⊕ (Int × (List T_impl_Change))) :=
  (if (decide (i < (a_2.length : Int))) then (geti a_2 i).bind fun x => (laws_markText (wk .i64 (k_2 + 1))).bind fun x22 => (geti (a_2.set i.toNat (T_impl_Change.mk k_2 x.Path x.To x.Lines)) i).bind fun x_1 => (laws_markText (wk .i64 ((wk .i64 (k_2 + 1)) + 1))).bind fun x30 => (geti (a_2.set i.toNat (T_impl_Change.mk x_1.Kind x22 x_1.To x_1.Lines)) i).bind fun x_2 => (geti (a_2.set i.toNat (T_impl_Change.mk x_2.Kind x_2.Path x30 x_2.Lines)) i).bind fun x_3 => (laws_markStringS x_3.Lines (wk .i64 ((wk .i64 ((wk .i64 (k_2 + 1)) + 1)) + 1))).bind fun x41 => some (.inl (x41.1, (wk .i64 (i + 1)), (a_2.set i.toNat (T_impl_Change.mk x_3.Kind x_3.Path x_3.To x41.2))))
  else some (.inr (k_2, a_2)))
noncomputable def laws_markChangeS (a : List T_impl_Change) (k : Int) : Option (Int × (List T_impl_Change)) :=
  (loopM (fun (s' : Int × Int × (List T_impl_Change)) => laws_markChangeS_l1 s'.1 s'.2.1 s'.2.2) (k, 0, a)).bind fun p => laws_markChangeS_j1 p.1 p.2
noncomputable def laws_markStepS_j1 (k_1 : Int) (a_1 : List T_impl_Step) : Option (Int × (List T_impl_Step)) :=
  some (k_1, a_1)
noncomputable def laws_markStepS_l1 (k_2 : Int) (i : Int) (a_2 : List T_impl_Step) : Option ((Int × Int × (List T_impl_Step)) ⊕ (Int × (List T_impl_Step))) :=
  (if (decide (i < (a_2.length : Int))) then (geti a_2 i).bind fun x => (laws_markIntS x.Parents k_2).bind fun x18 => (laws_markText x18.1).bind fun x22 => (geti (a_2.set i.toNat (T_impl_Step.mk x18.2 x.Note x.Changes)) i).bind fun x_1 => (geti (a_2.set i.toNat (T_impl_Step.mk x_1.Parents x22 x_1.Changes)) i).bind fun x_2 => (laws_markChangeS x_2.Changes (wk .i64 (x18.1 + 1))).bind fun x33 => some (.inl (x33.1, (wk .i64 (i + 1)), (a_2.set i.toNat (T_impl_Step.mk x_2.Parents x_2.Note x33.2))))
  else some (.inr (k_2, a_2)))
noncomputable def laws_markStepS (a : List T_impl_Step) (k : Int) : Option (Int × (List T_impl_Step)) :=
  (loopM (fun (s' : Int × Int × (List T_impl_Step)) => laws_markStepS_l1 s'.1 s'.2.1 s'.2.2) (k, 0, a)).bind fun p => laws_markStepS_j1 p.1 p.2
noncomputable def laws_heldIntS_j1 (k_1 : Int) : Option (Int) :=
  some k_1
noncomputable def laws_heldIntS_l1 (a : List Int) (k_2 : Int) (i : Int) : Option ((Int × Int) ⊕ ((Int) ⊕ (Int))) :=
  (if (decide (i < (a.length : Int))) then (geti a i).bind fun x => (if (x != k_2) then some (.inr (.inl (-1)))
  else some (.inl ((wk .i64 (k_2 + 1)), (wk .i64 (i + 1)))))
  else some (.inr (.inr k_2)))
noncomputable def laws_heldIntS (a : List Int) (k : Int) : Option Int :=
  (loopM (fun (s' : Int × Int) => laws_heldIntS_l1 a s'.1 s'.2) (k, 0)).bind fun p => (match p with | .inl c' => some c' | .inr q => laws_heldIntS_j1 q)
noncomputable def laws_heldStringS_j1 (k_1 : Int) : Option (Int) :=
  some k_1
noncomputable def laws_heldStringS_l1 (a : List ByteArray) (k_2 : Int) (i : Int) : Option ((Int × Int) ⊕ ((Int) ⊕ (Int))) :=
  (if (decide (i < (a.length : Int))) then (geti a i).bind fun x => (laws_markText k_2).bind fun x17 => (if (!(x.toList == x17.toList)) then some (.inr (.inl (-1)))
  else some (.inl ((wk .i64 (k_2 + 1)), (wk .i64 (i + 1)))))
  else some (.inr (.inr k_2)))
noncomputable def laws_heldStringS (a : List ByteArray) (k : Int) : Option Int :=
  (loopM (fun (s' : Int × Int) => laws_heldStringS_l1 a s'.1 s'.2) (k, 0)).bind fun p => (match p with | .inl c' => some c' | .inr q => laws_heldStringS_j1 q)
noncomputable def laws_heldChangeS_j1 (k_1 : Int) : Option (Int) :=
  some k_1
noncomputable def laws_heldChangeS_l1 (a : List T_impl_Change) (k_2 : Int) (i : Int) : Option ((Int × Int) ⊕ ((Int) ⊕ (Int))) :=
  (if (decide (i < (a.length : Int))) then (geti a i).bind fun x => (if (x.Kind != k_2) then some (.inr (.inl (-1)))
  else (laws_markText (wk .i64 (k_2 + 1))).bind fun x27 => (if (!(x.Path.toList == x27.toList)) then some (.inr (.inl (-1)))
  else (laws_markText (wk .i64 ((wk .i64 (k_2 + 1)) + 1))).bind fun x37 => (if (!(x.To.toList == x37.toList)) then some (.inr (.inl (-1)))
  else (laws_heldStringS x.Lines (wk .i64 ((wk .i64 ((wk .i64 (k_2 + 1)) + 1)) + 1))).bind fun x47 => (if (decide (x47 < 0)) then some (.inr (.inl (-1)))
  else some (.inl (x47, (wk .i64 (i + 1))))))))
  else some (.inr (.inr k_2)))
noncomputable def laws_heldChangeS (a : List T_impl_Change) (k : Int) : Option Int :=
  (loopM (fun (s' : Int × Int) => laws_heldChangeS_l1 a s'.1 s'.2) (k, 0)).bind fun p => (match p with | .inl c' => some c' | .inr q => laws_heldChangeS_j1 q)
noncomputable def laws_heldStepS_j1 (k_1 : Int) : Option (Int) :=
  some k_1
noncomputable def laws_heldStepS_l1 (a : List T_impl_Step) (k_2 : Int) (i : Int) : Option ((Int × Int) ⊕ ((Int) ⊕ (Int))) :=
  (if (decide (i < (a.length : Int))) then (geti a i).bind fun x => (laws_heldIntS x.Parents k_2).bind fun x18 => (if (decide (x18 < 0)) then some (.inr (.inl (-1)))
  else (laws_markText x18).bind fun x27 => (if (!(x.Note.toList == x27.toList)) then some (.inr (.inl (-1)))
  else (laws_heldChangeS x.Changes (wk .i64 (x18 + 1))).bind fun x37 => (if (decide (x37 < 0)) then some (.inr (.inl (-1)))
  else some (.inl (x37, (wk .i64 (i + 1)))))))
  else some (.inr (.inr k_2)))
noncomputable def laws_heldStepS (a : List T_impl_Step) (k : Int) : Option Int :=
  (loopM (fun (s' : Int × Int) => laws_heldStepS_l1 a s'.1 s'.2) (k, 0)).bind fun p => (match p with | .inl c' => some c' | .inr q => laws_heldStepS_j1 q)
noncomputable def laws_FnExactReadBundle (aText : ByteArray) : Option Bool :=
  (if (decide ((aText.size : Int) > 1048576)) then some true
  else (spec_ReadBundle aText).bind fun x16 => (impl_ReadBundle aText).bind fun x21 => (laws_eqStepS x21.1 x16.1).bind fun x26 => (if (!x26) then some true else some (x21.2 != x16.2)).bind fun b => (if b then some false
  else (laws_markStepS x21.1 1).bind fun x35 => (laws_heldStepS x35.2 1).bind fun x38 => (if (decide (x38 < 0)) then some false
  else (if (x38 != x35.1) then some false
  else (impl_ReadBundle aText).bind fun x46 => (laws_eqStepS x46.1 x16.1).bind fun x51 => (if (!x51) then some true else some (x46.2 != x16.2)).bind fun b_1 => (if b_1 then some false
  else (laws_heldStepS x35.2 1).bind fun x60 => (if (decide (x60 < 0)) then some false
  else (if (x60 != x35.1) then some false
  else some true)))))))
noncomputable def strings_Builder_WriteString (b : ByteArray) (x : ByteArray) : Option (ByteArray) :=
  if b.size + x.size ≤ 549755813888 then some (b ++ x) else none
noncomputable def strings_Builder_String (b : ByteArray) : Option (ByteArray) :=
  some b
noncomputable def impl_varText_j1 (n_1 : Int) (out_ : List Int) : Option (ByteArray) :=
  (appn out_ [(wk .u8 n_1)]).bind fun l => some (mkS l)
noncomputable def impl_varText_l1 (n_2 : Int) (out__1 : List Int) : Option ((Int × (List Int)) ⊕ (Int × (List Int))) :=
  (if (decide (n_2 > 127)) then (appn out__1 [(wk .u8 (wk .i64 (128 + (n_2.tmod 128))))]).bind fun l_1 => some (.inl ((wk .i64 (n_2.tdiv 128)), l_1))
  else some (.inr (n_2, out__1)))
noncomputable def impl_varText (n : Int) : Option ByteArray :=
  (loopM (fun (s' : Int × (List Int)) => impl_varText_l1 s'.1 s'.2) (n, [])).bind fun p => impl_varText_j1 p.1 p.2
noncomputable def impl_shortText (s : ByteArray) : Option ByteArray :=
  (impl_varText (s.size : Int)).bind fun x5 => (sapp x5 s).bind fun t => some t
noncomputable def impl_Sealed (text : ByteArray) : Option (ByteArray × Bool) :=
  (if (decide ((text.size : Int) > 60000)) then some ((ByteArray.mk #[]), false)
  else (impl_sumText text).bind fun x9 => (sapp text x9).bind fun t => some (t, true))
noncomputable def impl_listText_j1 (b : ByteArray) : Option (ByteArray) :=
  (strings_Builder_String b).bind fun x20 => some x20
noncomputable def impl_listText_l1 (list_ : List Int) (x12 : Int) (b_1 : ByteArray) : Option ((Int × ByteArray) ⊕ (ByteArray)) :=
  (if (decide (x12 < (list_.length : Int))) then (geti list_ x12).bind fun x => (impl_varText x).bind fun x17 => (strings_Builder_WriteString b_1 x17).bind fun x18 => some (.inl ((wk .i64 (x12 + 1)), x18))
  else some (.inr b_1))
noncomputable def impl_listText (list_ : List Int) : Option ByteArray :=
  (impl_varText (list_.length : Int)).bind fun x8 => (strings_Builder_WriteString (ByteArray.mk #[]) x8).bind fun x9 => (loopM (fun (s' : Int × ByteArray) => impl_listText_l1 list_ s'.1 s'.2) (0, x9)).bind fun p => impl_listText_j1 p
noncomputable def impl_stepText_j1 (b : ByteArray) : Option (ByteArray) :=
  (strings_Builder_String b).bind fun x59 => some x59
noncomputable def impl_stepText_j2 (x24 : Int) (b_2 : ByteArray) : Option ((Int × ByteArray) ⊕ (ByteArray)) :=
  some (.inl ((wk .i64 (x24 + 1)), b_2))
noncomputable def impl_stepText_l2 (x_1 : T_impl_Change) (x50 : Int) (b_3 : ByteArray) : Option ((Int × ByteArray) ⊕ (ByteArray)) :=
  (if (decide (x50 < (x_1.Lines.length : Int))) then (geti x_1.Lines x50).bind fun x_2 => (impl_shortText x_2).bind fun x55 => (strings_Builder_WriteString b_3 x55).bind fun x56 => some (.inl ((wk .i64 (x50 + 1)), x56))
  else some (.inr b_3))
noncomputable def impl_stepText_l1 (x : T_impl_Step) (x24 : Int) (b_1 : ByteArray) : Option ((Int × ByteArray) ⊕ (ByteArray)) :=
  (if (decide (x24 < (x.Changes.length : Int))) then (geti x.Changes x24).bind fun x_1 => (impl_shortText x_1.Path).bind fun x35 => (sapp (mkS [(wk .u8 x_1.Kind)]) x35).bind fun t_2 => (impl_shortText x_1.To).bind fun x39 => (sapp t_2 x39).bind fun t_3 => (impl_varText (x_1.Lines.length : Int)).bind fun x44 => (sapp t_3 x44).bind fun t_4 => (strings_Builder_WriteString b_1 t_4).bind fun x46 => (loopM (fun (s' : Int × ByteArray) => impl_stepText_l2 x_1 s'.1 s'.2) (0, x46)).bind fun p_1 => impl_stepText_j2 x24 p_1
  else some (.inr b_1))
noncomputable def impl_stepText (x : T_impl_Step) : Option ByteArray :=
  (impl_listText x.Parents).bind fun x10 => (impl_shortText x.Note).bind fun x13 => (sapp x10 x13).bind fun t => (impl_varText (x.Changes.length : Int)).bind fun x18 => (sapp t x18).bind fun t_1 => (strings_Builder_WriteString (ByteArray.mk #[]) t_1).bind fun x20 => (loopM (fun (s' : Int × ByteArray) => impl_stepText_l1 x s'.1 s'.2) (0, x20)).bind fun p => impl_stepText_j1 p
noncomputable def impl_BundleText_j1 (b : ByteArray) : Option (ByteArray × Bool) :=
  (strings_Builder_String b).bind fun x28 => (impl_Sealed x28).bind fun x29 => some (x29.1, x29.2)
noncomputable def impl_BundleText_l1 (list_ : List T_impl_Step) (x17 : Int) (b_1 : ByteArray) : Option ((Int × ByteArray) ⊕ ((ByteArray × Bool) ⊕ (ByteArray))) :=
  (if (decide (x17 < (list_.length : Int))) then (geti list_ x17).bind fun x => (impl_stepOk (T_impl_Step.mk x.Parents x.Note x.Changes)).bind fun x22 => (if (!x22) then some (.inr (.inl ((ByteArray.mk #[]), false)))
  else (impl_stepText (T_impl_Step.mk x.Parents x.Note x.Changes)).bind fun x25 => (strings_Builder_WriteString b_1 x25).bind fun x26 => some (.inl ((wk .i64 (x17 + 1)), x26)))
  else some (.inr (.inr b_1)))
noncomputable def impl_BundleText (list_ : List T_impl_Step) : Option (ByteArray × Bool) :=
  (if (decide ((list_.length : Int) > 40)) then some ((ByteArray.mk #[]), false)
  else (impl_varText (list_.length : Int)).bind fun x12 => (sapp (ByteArray.mk #[84, 66, 49]) x12).bind fun t => (strings_Builder_WriteString (ByteArray.mk #[]) t).bind fun x14 => (loopM (fun (s' : Int × ByteArray) => impl_BundleText_l1 list_ s'.1 s'.2) (0, x14)).bind fun p => (match p with | .inl c' => some c' | .inr q => impl_BundleText_j1 q))
end Go.TV.F
