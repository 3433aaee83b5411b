/- Structures and their rows. -/
import Derived.Test.YthfhiepgdeghpaaKFnExactBundleTextT5
set_option linter.unusedVariables false
set_option linter.unusedSimpArgs false
set_option maxHeartbeats 8000000
set_option maxRecDepth 100000
namespace Go.TV
structure T_laws_Change where
  Kind : Int
  Path : ByteArray
  To : ByteArray
  Lines : List ByteArray
  deriving Inhabited
structure T_laws_Step where
  Parents : List Int
  Note : ByteArray
  Changes : List T_laws_Change
  deriving Inhabited
structure T_impl_Change where
  Kind : Int
  Path : ByteArray
  To : ByteArray
  Lines : List ByteArray
  deriving Inhabited
structure T_impl_Step where
  Parents : List Int
  Note : ByteArray
  Changes : List T_impl_Change
  deriving Inhabited
theorem R_i64 : (∀ (l : List Int) (i : Nat) (a0 : Int), (List.map (rK .i64) l).set i [.sc (.int .i64 a0)] = List.map (rK .i64) (l.set i a0)) ∧
  (∀ (l : List Int) (a0 : Int), List.map (rK .i64) l ++ [[.sc (.int .i64 a0)]] = List.map (rK .i64) (l ++ [a0])) ∧
  (∀ (l : List Int) (b0 b1 : Int), List.map (rK .i64) l ++ [[.sc (.int .i64 b0)], [.sc (.int .i64 b1)]] = List.map (rK .i64) (l ++ [b0, b1])) ∧
  (∀ (l : List Int) (b0 b1 b2 : Int), List.map (rK .i64) l ++ [[.sc (.int .i64 b0)], [.sc (.int .i64 b1)], [.sc (.int .i64 b2)]] = List.map (rK .i64) (l ++ [b0, b1, b2])) ∧
  (∀ (l : List Int) (b0 b1 b2 b3 : Int), List.map (rK .i64) l ++ [[.sc (.int .i64 b0)], [.sc (.int .i64 b1)], [.sc (.int .i64 b2)], [.sc (.int .i64 b3)]] = List.map (rK .i64) (l ++ [b0, b1, b2, b3])) ∧
  (∀ n : Nat, List.replicate n [.sc (.int .i64 0)] = List.map (rK .i64) (List.replicate n 0)) ∧
  (∀ l : List Int, borRows (List.map (rK .i64) l) = List.map (rK .i64) l) ∧
  (∀ l : List Int, aliveRows (List.map (rK .i64) l) = true) ∧
  (∀ l : List Int, noBorRows (List.map (rK .i64) l) = true) :=
  ⟨fun l i a0 => set_rows (rK .i64) l i a0,
  fun l a0 => app_rows (rK .i64) l [a0],
  fun l b0 b1 => app_rows (rK .i64) l [b0, b1],
  fun l b0 b1 b2 => app_rows (rK .i64) l [b0, b1, b2],
  fun l b0 b1 b2 b3 => app_rows (rK .i64) l [b0, b1, b2, b3],
  fun n => rep_rows (rK .i64) 0 n,
  bor_rows (fun _ => rfl),
  alRows (fun _ => rfl),
  nb_rows (fun _ => rfl)⟩
theorem R_s : (∀ (l : List ByteArray) (i : Nat) (a0 : ByteArray), (List.map rS l).set i [.sc (.string a0)] = List.map rS (l.set i a0)) ∧
  (∀ (l : List ByteArray) (a0 : ByteArray), List.map rS l ++ [[.sc (.string a0)]] = List.map rS (l ++ [a0])) ∧
  (∀ (l : List ByteArray) (b0 b1 : ByteArray), List.map rS l ++ [[.sc (.string b0)], [.sc (.string b1)]] = List.map rS (l ++ [b0, b1])) ∧
  (∀ (l : List ByteArray) (b0 b1 b2 : ByteArray), List.map rS l ++ [[.sc (.string b0)], [.sc (.string b1)], [.sc (.string b2)]] = List.map rS (l ++ [b0, b1, b2])) ∧
  (∀ (l : List ByteArray) (b0 b1 b2 b3 : ByteArray), List.map rS l ++ [[.sc (.string b0)], [.sc (.string b1)], [.sc (.string b2)], [.sc (.string b3)]] = List.map rS (l ++ [b0, b1, b2, b3])) ∧
  (∀ n : Nat, List.replicate n [.sc (.string (ByteArray.mk #[]))] = List.map rS (List.replicate n (ByteArray.mk #[]))) ∧
  (∀ l : List ByteArray, borRows (List.map rS l) = List.map rS l) ∧
  (∀ l : List ByteArray, aliveRows (List.map rS l) = true) ∧
  (∀ l : List ByteArray, noBorRows (List.map rS l) = true) :=
  ⟨fun l i a0 => set_rows rS l i a0,
  fun l a0 => app_rows rS l [a0],
  fun l b0 b1 => app_rows rS l [b0, b1],
  fun l b0 b1 b2 => app_rows rS l [b0, b1, b2],
  fun l b0 b1 b2 b3 => app_rows rS l [b0, b1, b2, b3],
  fun n => rep_rows rS (ByteArray.mk #[]) n,
  bor_rows (fun _ => rfl),
  alRows (fun _ => rfl),
  nb_rows (fun _ => rfl)⟩
def r_T_laws_Change (o : Bool) (x : T_laws_Change) : List V := [.sc (.int .i64 x.Kind), .sc (.string x.Path), .sc (.string x.To), .list o 1 (List.map rS x.Lines)]
theorem R_T_laws_Change : (∀ (l : List T_laws_Change) (i : Nat) (a0 : Int) (a1 : ByteArray) (a2 : ByteArray) (a3 : List ByteArray), (List.map (r_T_laws_Change true) l).set i [.sc (.int .i64 a0), .sc (.string a1), .sc (.string a2), .list true 1 (List.map rS a3)] = List.map (r_T_laws_Change true) (l.set i (T_laws_Change.mk a0 a1 a2 a3))) ∧
  (∀ (l : List T_laws_Change) (a0 : Int) (a1 : ByteArray) (a2 : ByteArray) (a3 : List ByteArray), List.map (r_T_laws_Change true) l ++ [[.sc (.int .i64 a0), .sc (.string a1), .sc (.string a2), .list true 1 (List.map rS a3)]] = List.map (r_T_laws_Change true) (l ++ [(T_laws_Change.mk a0 a1 a2 a3)])) ∧
  (∀ n : Nat, List.replicate n [.sc (.int .i64 0), .sc (.string (ByteArray.mk #[])), .sc (.string (ByteArray.mk #[])), .list true 1 []] = List.map (r_T_laws_Change true) (List.replicate n (T_laws_Change.mk 0 (ByteArray.mk #[]) (ByteArray.mk #[]) []))) ∧
  (∀ l : List T_laws_Change, borRows (List.map (r_T_laws_Change true) l) = List.map (r_T_laws_Change false) l) ∧
  (∀ l : List T_laws_Change, aliveRows (List.map (r_T_laws_Change true) l) = true) ∧
  (∀ l : List T_laws_Change, borRows (List.map (r_T_laws_Change false) l) = List.map (r_T_laws_Change false) l) ∧
  (∀ l : List T_laws_Change, aliveRows (List.map (r_T_laws_Change false) l) = true) ∧
  (∀ l : List T_laws_Change, noBorRows (List.map (r_T_laws_Change true) l) = true) ∧
  (∀ x : T_laws_Change, r_T_laws_Change true x = [.sc (.int .i64 x.Kind), .sc (.string x.Path), .sc (.string x.To), .list true 1 (List.map rS x.Lines)]) ∧
  (∀ x : T_laws_Change, r_T_laws_Change false x = [.sc (.int .i64 x.Kind), .sc (.string x.Path), .sc (.string x.To), .list false 1 (List.map rS x.Lines)]) :=
  ⟨fun l i a0 a1 a2 a3 => set_rows (r_T_laws_Change true) l i (T_laws_Change.mk a0 a1 a2 a3),
  fun l a0 a1 a2 a3 => app_rows (r_T_laws_Change true) l [(T_laws_Change.mk a0 a1 a2 a3)],
  fun n => rep_rows (r_T_laws_Change true) (T_laws_Change.mk 0 (ByteArray.mk #[]) (ByteArray.mk #[]) []) n,
  bor_rows (fun x => by simp only [r_T_laws_Change, borRow, V.bor, (show ∀ l : List ByteArray, borRows (List.map rS l) = List.map rS l from bor_rows (fun _ => rfl))]),
  alRows (fun _ => rfl),
  bor_rows (fun x => by simp only [r_T_laws_Change, borRow, V.bor, (show ∀ l : List ByteArray, borRows (List.map rS l) = List.map rS l from bor_rows (fun _ => rfl))]),
  alRows (fun _ => rfl),
  nb_rows (fun x => by simp only [r_T_laws_Change, noBorRow, V.noBor, Bool.and_true, Bool.true_and, (show ∀ l : List ByteArray, noBorRows (List.map rS l) = true from nb_rows (fun _ => rfl))]),
  fun _ => rfl,
  fun _ => rfl⟩
def r_T_laws_Step (o : Bool) (x : T_laws_Step) : List V := [.list o 1 (List.map (rK .i64) x.Parents), .sc (.string x.Note), .list o 4 (List.map (r_T_laws_Change o) x.Changes)]
theorem R_T_laws_Step : (∀ (l : List T_laws_Step) (i : Nat) (a0 : List Int) (a1 : ByteArray) (a2 : List T_laws_Change), (List.map (r_T_laws_Step true) l).set i [.list true 1 (List.map (rK .i64) a0), .sc (.string a1), .list true 4 (List.map (r_T_laws_Change true) a2)] = List.map (r_T_laws_Step true) (l.set i (T_laws_Step.mk a0 a1 a2))) ∧
  (∀ (l : List T_laws_Step) (a0 : List Int) (a1 : ByteArray) (a2 : List T_laws_Change), List.map (r_T_laws_Step true) l ++ [[.list true 1 (List.map (rK .i64) a0), .sc (.string a1), .list true 4 (List.map (r_T_laws_Change true) a2)]] = List.map (r_T_laws_Step true) (l ++ [(T_laws_Step.mk a0 a1 a2)])) ∧
  (∀ n : Nat, List.replicate n [.list true 1 [], .sc (.string (ByteArray.mk #[])), .list true 4 []] = List.map (r_T_laws_Step true) (List.replicate n (T_laws_Step.mk [] (ByteArray.mk #[]) []))) ∧
  (∀ l : List T_laws_Step, borRows (List.map (r_T_laws_Step true) l) = List.map (r_T_laws_Step false) l) ∧
  (∀ l : List T_laws_Step, aliveRows (List.map (r_T_laws_Step true) l) = true) ∧
  (∀ l : List T_laws_Step, borRows (List.map (r_T_laws_Step false) l) = List.map (r_T_laws_Step false) l) ∧
  (∀ l : List T_laws_Step, aliveRows (List.map (r_T_laws_Step false) l) = true) ∧
  (∀ l : List T_laws_Step, noBorRows (List.map (r_T_laws_Step true) l) = true) ∧
  (∀ x : T_laws_Step, r_T_laws_Step true x = [.list true 1 (List.map (rK .i64) x.Parents), .sc (.string x.Note), .list true 4 (List.map (r_T_laws_Change true) x.Changes)]) ∧
  (∀ x : T_laws_Step, r_T_laws_Step false x = [.list false 1 (List.map (rK .i64) x.Parents), .sc (.string x.Note), .list false 4 (List.map (r_T_laws_Change false) x.Changes)]) :=
  ⟨fun l i a0 a1 a2 => set_rows (r_T_laws_Step true) l i (T_laws_Step.mk a0 a1 a2),
  fun l a0 a1 a2 => app_rows (r_T_laws_Step true) l [(T_laws_Step.mk a0 a1 a2)],
  fun n => rep_rows (r_T_laws_Step true) (T_laws_Step.mk [] (ByteArray.mk #[]) []) n,
  bor_rows (fun x => by simp only [r_T_laws_Step, borRow, V.bor, (show ∀ l : List Int, borRows (List.map (rK .i64) l) = List.map (rK .i64) l from bor_rows (fun _ => rfl)), (show ∀ l : List T_laws_Change, borRows (List.map (r_T_laws_Change true) l) = List.map (r_T_laws_Change false) l from bor_rows (fun x => by simp only [r_T_laws_Change, borRow, V.bor, (show ∀ l : List ByteArray, borRows (List.map rS l) = List.map rS l from bor_rows (fun _ => rfl))]))]),
  alRows (fun _ => rfl),
  bor_rows (fun x => by simp only [r_T_laws_Step, borRow, V.bor, (show ∀ l : List Int, borRows (List.map (rK .i64) l) = List.map (rK .i64) l from bor_rows (fun _ => rfl)), (show ∀ l : List T_laws_Change, borRows (List.map (r_T_laws_Change false) l) = List.map (r_T_laws_Change false) l from bor_rows (fun x => by simp only [r_T_laws_Change, borRow, V.bor, (show ∀ l : List ByteArray, borRows (List.map rS l) = List.map rS l from bor_rows (fun _ => rfl))]))]),
  alRows (fun _ => rfl),
  nb_rows (fun x => by simp only [r_T_laws_Step, noBorRow, V.noBor, Bool.and_true, Bool.true_and, (show ∀ l : List Int, noBorRows (List.map (rK .i64) l) = true from nb_rows (fun _ => rfl)), (show ∀ l : List T_laws_Change, noBorRows (List.map (r_T_laws_Change true) l) = true from nb_rows (fun x => by simp only [r_T_laws_Change, noBorRow, V.noBor, Bool.and_true, Bool.true_and, (show ∀ l : List ByteArray, noBorRows (List.map rS l) = true from nb_rows (fun _ => rfl))]))]),
  fun _ => rfl,
  fun _ => rfl⟩
def r_T_impl_Change (o : Bool) (x : T_impl_Change) : List V := [.sc (.int .i64 x.Kind), .sc (.string x.Path), .sc (.string x.To), .list o 1 (List.map rS x.Lines)]
theorem R_T_impl_Change : (∀ (l : List T_impl_Change) (i : Nat) (a0 : Int) (a1 : ByteArray) (a2 : ByteArray) (a3 : List ByteArray), (List.map (r_T_impl_Change true) l).set i [.sc (.int .i64 a0), .sc (.string a1), .sc (.string a2), .list true 1 (List.map rS a3)] = List.map (r_T_impl_Change true) (l.set i (T_impl_Change.mk a0 a1 a2 a3))) ∧
  (∀ (l : List T_impl_Change) (a0 : Int) (a1 : ByteArray) (a2 : ByteArray) (a3 : List ByteArray), List.map (r_T_impl_Change true) l ++ [[.sc (.int .i64 a0), .sc (.string a1), .sc (.string a2), .list true 1 (List.map rS a3)]] = List.map (r_T_impl_Change true) (l ++ [(T_impl_Change.mk a0 a1 a2 a3)])) ∧
  (∀ n : Nat, List.replicate n [.sc (.int .i64 0), .sc (.string (ByteArray.mk #[])), .sc (.string (ByteArray.mk #[])), .list true 1 []] = List.map (r_T_impl_Change true) (List.replicate n (T_impl_Change.mk 0 (ByteArray.mk #[]) (ByteArray.mk #[]) []))) ∧
  (∀ l : List T_impl_Change, borRows (List.map (r_T_impl_Change true) l) = List.map (r_T_impl_Change false) l) ∧
  (∀ l : List T_impl_Change, aliveRows (List.map (r_T_impl_Change true) l) = true) ∧
  (∀ l : List T_impl_Change, borRows (List.map (r_T_impl_Change false) l) = List.map (r_T_impl_Change false) l) ∧
  (∀ l : List T_impl_Change, aliveRows (List.map (r_T_impl_Change false) l) = true) ∧
  (∀ l : List T_impl_Change, noBorRows (List.map (r_T_impl_Change true) l) = true) ∧
  (∀ x : T_impl_Change, r_T_impl_Change true x = [.sc (.int .i64 x.Kind), .sc (.string x.Path), .sc (.string x.To), .list true 1 (List.map rS x.Lines)]) ∧
  (∀ x : T_impl_Change, r_T_impl_Change false x = [.sc (.int .i64 x.Kind), .sc (.string x.Path), .sc (.string x.To), .list false 1 (List.map rS x.Lines)]) :=
  ⟨fun l i a0 a1 a2 a3 => set_rows (r_T_impl_Change true) l i (T_impl_Change.mk a0 a1 a2 a3),
  fun l a0 a1 a2 a3 => app_rows (r_T_impl_Change true) l [(T_impl_Change.mk a0 a1 a2 a3)],
  fun n => rep_rows (r_T_impl_Change true) (T_impl_Change.mk 0 (ByteArray.mk #[]) (ByteArray.mk #[]) []) n,
  bor_rows (fun x => by simp only [r_T_impl_Change, borRow, V.bor, (show ∀ l : List ByteArray, borRows (List.map rS l) = List.map rS l from bor_rows (fun _ => rfl))]),
  alRows (fun _ => rfl),
  bor_rows (fun x => by simp only [r_T_impl_Change, borRow, V.bor, (show ∀ l : List ByteArray, borRows (List.map rS l) = List.map rS l from bor_rows (fun _ => rfl))]),
  alRows (fun _ => rfl),
  nb_rows (fun x => by simp only [r_T_impl_Change, noBorRow, V.noBor, Bool.and_true, Bool.true_and, (show ∀ l : List ByteArray, noBorRows (List.map rS l) = true from nb_rows (fun _ => rfl))]),
  fun _ => rfl,
  fun _ => rfl⟩
def r_T_impl_Step (o : Bool) (x : T_impl_Step) : List V := [.list o 1 (List.map (rK .i64) x.Parents), .sc (.string x.Note), .list o 4 (List.map (r_T_impl_Change o) x.Changes)]
theorem R_T_impl_Step : (∀ (l : List T_impl_Step) (i : Nat) (a0 : List Int) (a1 : ByteArray) (a2 : List T_impl_Change), (List.map (r_T_impl_Step true) l).set i [.list true 1 (List.map (rK .i64) a0), .sc (.string a1), .list true 4 (List.map (r_T_impl_Change true) a2)] = List.map (r_T_impl_Step true) (l.set i (T_impl_Step.mk a0 a1 a2))) ∧
  (∀ (l : List T_impl_Step) (a0 : List Int) (a1 : ByteArray) (a2 : List T_impl_Change), List.map (r_T_impl_Step true) l ++ [[.list true 1 (List.map (rK .i64) a0), .sc (.string a1), .list true 4 (List.map (r_T_impl_Change true) a2)]] = List.map (r_T_impl_Step true) (l ++ [(T_impl_Step.mk a0 a1 a2)])) ∧
  (∀ n : Nat, List.replicate n [.list true 1 [], .sc (.string (ByteArray.mk #[])), .list true 4 []] = List.map (r_T_impl_Step true) (List.replicate n (T_impl_Step.mk [] (ByteArray.mk #[]) []))) ∧
  (∀ l : List T_impl_Step, borRows (List.map (r_T_impl_Step true) l) = List.map (r_T_impl_Step false) l) ∧
  (∀ l : List T_impl_Step, aliveRows (List.map (r_T_impl_Step true) l) = true) ∧
  (∀ l : List T_impl_Step, borRows (List.map (r_T_impl_Step false) l) = List.map (r_T_impl_Step false) l) ∧
  (∀ l : List T_impl_Step, aliveRows (List.map (r_T_impl_Step false) l) = true) ∧
  (∀ l : List T_impl_Step, noBorRows (List.map (r_T_impl_Step true) l) = true) ∧
  (∀ x : T_impl_Step, r_T_impl_Step true x = [.list true 1 (List.map (rK .i64) x.Parents), .sc (.string x.Note), .list true 4 (List.map (r_T_impl_Change true) x.Changes)]) ∧
  (∀ x : T_impl_Step, r_T_impl_Step false x = [.list false 1 (List.map (rK .i64) x.Parents), .sc (.string x.Note), .list false 4 (List.map (r_T_impl_Change false) x.Changes)]) :=
  ⟨fun l i a0 a1 a2 => set_rows (r_T_impl_Step true) l i (T_impl_Step.mk a0 a1 a2),
  fun l a0 a1 a2 => app_rows (r_T_impl_Step true) l [(T_impl_Step.mk a0 a1 a2)],
  fun n => rep_rows (r_T_impl_Step true) (T_impl_Step.mk [] (ByteArray.mk #[]) []) n,
  bor_rows (fun x => by simp only [r_T_impl_Step, borRow, V.bor, (show ∀ l : List Int, borRows (List.map (rK .i64) l) = List.map (rK .i64) l from bor_rows (fun _ => rfl)), (show ∀ l : List T_impl_Change, borRows (List.map (r_T_impl_Change true) l) = List.map (r_T_impl_Change false) l from bor_rows (fun x => by simp only [r_T_impl_Change, borRow, V.bor, (show ∀ l : List ByteArray, borRows (List.map rS l) = List.map rS l from bor_rows (fun _ => rfl))]))]),
  alRows (fun _ => rfl),
  bor_rows (fun x => by simp only [r_T_impl_Step, borRow, V.bor, (show ∀ l : List Int, borRows (List.map (rK .i64) l) = List.map (rK .i64) l from bor_rows (fun _ => rfl)), (show ∀ l : List T_impl_Change, borRows (List.map (r_T_impl_Change false) l) = List.map (r_T_impl_Change false) l from bor_rows (fun x => by simp only [r_T_impl_Change, borRow, V.bor, (show ∀ l : List ByteArray, borRows (List.map rS l) = List.map rS l from bor_rows (fun _ => rfl))]))]),
  alRows (fun _ => rfl),
  nb_rows (fun x => by simp only [r_T_impl_Step, noBorRow, V.noBor, Bool.and_true, Bool.true_and, (show ∀ l : List Int, noBorRows (List.map (rK .i64) l) = true from nb_rows (fun _ => rfl)), (show ∀ l : List T_impl_Change, noBorRows (List.map (r_T_impl_Change true) l) = true from nb_rows (fun x => by simp only [r_T_impl_Change, noBorRow, V.noBor, Bool.and_true, Bool.true_and, (show ∀ l : List ByteArray, noBorRows (List.map rS l) = true from nb_rows (fun _ => rfl))]))]),
  fun _ => rfl,
  fun _ => rfl⟩
theorem R_u8 : (∀ (l : List Int) (i : Nat) (a0 : Int), (List.map (rK .u8) l).set i [.sc (.int .u8 a0)] = List.map (rK .u8) (l.set i a0)) ∧
  (∀ (l : List Int) (a0 : Int), List.map (rK .u8) l ++ [[.sc (.int .u8 a0)]] = List.map (rK .u8) (l ++ [a0])) ∧
  (∀ (l : List Int) (b0 b1 : Int), List.map (rK .u8) l ++ [[.sc (.int .u8 b0)], [.sc (.int .u8 b1)]] = List.map (rK .u8) (l ++ [b0, b1])) ∧
  (∀ (l : List Int) (b0 b1 b2 : Int), List.map (rK .u8) l ++ [[.sc (.int .u8 b0)], [.sc (.int .u8 b1)], [.sc (.int .u8 b2)]] = List.map (rK .u8) (l ++ [b0, b1, b2])) ∧
  (∀ (l : List Int) (b0 b1 b2 b3 : Int), List.map (rK .u8) l ++ [[.sc (.int .u8 b0)], [.sc (.int .u8 b1)], [.sc (.int .u8 b2)], [.sc (.int .u8 b3)]] = List.map (rK .u8) (l ++ [b0, b1, b2, b3])) ∧
  (∀ n : Nat, List.replicate n [.sc (.int .u8 0)] = List.map (rK .u8) (List.replicate n 0)) ∧
  (∀ l : List Int, borRows (List.map (rK .u8) l) = List.map (rK .u8) l) ∧
  (∀ l : List Int, aliveRows (List.map (rK .u8) l) = true) ∧
  (∀ l : List Int, noBorRows (List.map (rK .u8) l) = true) :=
  ⟨fun l i a0 => set_rows (rK .u8) l i a0,
  fun l a0 => app_rows (rK .u8) l [a0],
  fun l b0 b1 => app_rows (rK .u8) l [b0, b1],
  fun l b0 b1 b2 => app_rows (rK .u8) l [b0, b1, b2],
  fun l b0 b1 b2 b3 => app_rows (rK .u8) l [b0, b1, b2, b3],
  fun n => rep_rows (rK .u8) 0 n,
  bor_rows (fun _ => rfl),
  alRows (fun _ => rfl),
  nb_rows (fun _ => rfl)⟩
end Go.TV
namespace Go.TV.F
noncomputable def laws_szIntS (a : List Int) (left : Int) : Option Int :=
  (if (decide ((wk .i64 (left - (a.length : Int))) < 0)) then some (-1)
  else some (wk .i64 (left - (a.length : Int))))
noncomputable def laws_szStringS_j1 (left_1 : Int) : Option (Int) :=
  some left_1
noncomputable def laws_szStringS_l1 (a : List ByteArray) (left_2 : Int) (i : Int) : Option ((Int × Int) ⊕ ((Int) ⊕ (Int))) :=
  (if (decide (i < (a.length : Int))) then (geti a i).bind fun x => (if (decide ((wk .i64 (left_2 - (x.size : Int))) < 0)) then some (.inr (.inl (-1)))
  else some (.inl ((wk .i64 (left_2 - (x.size : Int))), (wk .i64 (i + 1)))))
  else some (.inr (.inr left_2)))
noncomputable def laws_szStringS (a : List ByteArray) (left : Int) : Option Int :=
  (if (decide ((wk .i64 (left - (a.length : Int))) < 0)) then some (-1)
  else (loopM (fun (s' : Int × Int) => laws_szStringS_l1 a s'.1 s'.2) ((wk .i64 (left - (a.length : Int))), 0)).bind fun p => (match p with | .inl c' => some c' | .inr q => laws_szStringS_j1 q))
noncomputable def laws_szChange (a : T_laws_Change) (left : Int) : Option Int :=
  (if (decide ((wk .i64 (left - (a.Path.size : Int))) < 0)) then some (-1)
  else (if (decide ((wk .i64 ((wk .i64 (left - (a.Path.size : Int))) - (a.To.size : Int))) < 0)) then some (-1)
  else (laws_szStringS a.Lines (wk .i64 ((wk .i64 (left - (a.Path.size : Int))) - (a.To.size : Int)))).bind fun x22 => (if (decide (x22 < 0)) then some (-1)
  else some x22)))
noncomputable def laws_szChangeS_j1 (left_1 : Int) : Option (Int) :=
  some left_1
noncomputable def laws_szChangeS_l1 (a : List T_laws_Change) (left_2 : Int) (i : Int) : Option ((Int × Int) ⊕ ((Int) ⊕ (Int))) :=
  (if (decide (i < (a.length : Int))) then (geti a i).bind fun x => (laws_szChange (T_laws_Change.mk x.Kind x.Path x.To x.Lines) left_2).bind fun x23 => (if (decide (x23 < 0)) then some (.inr (.inl (-1)))
  else some (.inl (x23, (wk .i64 (i + 1)))))
  else some (.inr (.inr left_2)))
noncomputable def laws_szChangeS (a : List T_laws_Change) (left : Int) : Option Int :=
  (if (decide ((wk .i64 (left - (a.length : Int))) < 0)) then some (-1)
  else (loopM (fun (s' : Int × Int) => laws_szChangeS_l1 a s'.1 s'.2) ((wk .i64 (left - (a.length : Int))), 0)).bind fun p => (match p with | .inl c' => some c' | .inr q => laws_szChangeS_j1 q))
noncomputable def laws_szStep (a : T_laws_Step) (left : Int) : Option Int :=
  (laws_szIntS a.Parents left).bind fun x8 => (if (decide (x8 < 0)) then some (-1)
  else (if (decide ((wk .i64 (x8 - (a.Note.size : Int))) < 0)) then some (-1)
  else (laws_szChangeS a.Changes (wk .i64 (x8 - (a.Note.size : Int)))).bind fun x21 => (if (decide (x21 < 0)) then some (-1)
  else some x21)))
noncomputable def laws_szStepS_j1 (left_1 : Int) : Option (Int) :=
  some left_1
noncomputable def laws_szStepS_l1 (a : List T_laws_Step) (left_2 : Int) (i : Int) : Option ((Int × Int) ⊕ ((Int) ⊕ (Int))) :=
  (if (decide (i < (a.length : Int))) then (geti a i).bind fun x => (laws_szStep (T_laws_Step.mk x.Parents x.Note x.Changes) left_2).bind fun x23 => (if (decide (x23 < 0)) then some (.inr (.inl (-1)))
  else some (.inl (x23, (wk .i64 (i + 1)))))
  else some (.inr (.inr left_2)))
noncomputable def laws_szStepS (a : List T_laws_Step) (left : Int) : Option Int :=
  (if (decide ((wk .i64 (left - (a.length : Int))) < 0)) then some (-1)
  else (loopM (fun (s' : Int × Int) => laws_szStepS_l1 a s'.1 s'.2) ((wk .i64 (left - (a.length : Int))), 0)).bind fun p => (match p with | .inl c' => some c' | .inr q => laws_szStepS_j1 q))
noncomputable def laws_toIntS_j1 (out_ : List Int) : Option ((List Int)) :=
  some out_
noncomputable def laws_toIntS_l1 (a : List Int) (i : Int) (out__1 : List Int) : Option ((Int × (List Int)) ⊕ ((List Int))) :=
  (if (decide (i < (a.length : Int))) then (geti a i).bind fun x => (geti out__1 i).bind fun x_1 => some (.inl ((wk .i64 (i + 1)), (out__1.set i.toNat x)))
  else some (.inr out__1))
noncomputable def laws_toIntS (a : List Int) : Option (List Int) :=
  ((mkl (a.length : Int) (a.length : Int) 0 : Option (List Int))).bind fun x7 => (loopM (fun (s' : Int × (List Int)) => laws_toIntS_l1 a s'.1 s'.2) (0, x7)).bind fun p => laws_toIntS_j1 p
noncomputable def laws_toStringS_j1 (out_ : List ByteArray) : Option ((List ByteArray)) :=
  some out_
noncomputable def laws_toStringS_l1 (a : List ByteArray) (i : Int) (out__1 : List ByteArray) : Option ((Int × (List ByteArray)) ⊕ ((List ByteArray))) :=
  (if (decide (i < (a.length : Int))) then (geti a i).bind fun x => (geti out__1 i).bind fun x_1 => some (.inl ((wk .i64 (i + 1)), (out__1.set i.toNat x)))
  else some (.inr out__1))
noncomputable def laws_toStringS (a : List ByteArray) : Option (List ByteArray) :=
  ((mkl (a.length : Int) (a.length : Int) (ByteArray.mk #[]) : Option (List ByteArray))).bind fun x7 => (loopM (fun (s' : Int × (List ByteArray)) => laws_toStringS_l1 a s'.1 s'.2) (0, x7)).bind fun p => laws_toStringS_j1 p
noncomputable def laws_toChange (a : T_laws_Change) : Option T_impl_Change :=
  (laws_toStringS a.Lines).bind fun x15 => some (T_impl_Change.mk a.Kind a.Path a.To x15)
noncomputable def laws_toChangeS_j1 (out_ : List T_impl_Change) : Option ((List T_impl_Change)) :=
  some out_
noncomputable def laws_toChangeS_l1 (a : List T_laws_Change) (i : Int) (out__1 : List T_impl_Change) : Option ((Int × (List T_impl_Change)) ⊕ ((List T_impl_Change))) :=
  (if (decide (i < (a.length : Int))) then (geti a i).bind fun x => (laws_toChange (T_laws_Change.mk x.Kind x.Path x.To x.Lines)).bind fun x20 => (geti out__1 i).bind fun x_1 => some (.inl ((wk .i64 (i + 1)), (out__1.set i.toNat (T_impl_Change.mk x20.Kind x20.Path x20.To x20.Lines))))
  else some (.inr out__1))
noncomputable def laws_toChangeS (a : List T_laws_Change) : Option (List T_impl_Change) :=
  ((mkl (a.length : Int) (a.length : Int) (T_impl_Change.mk 0 (ByteArray.mk #[]) (ByteArray.mk #[]) []) : Option (List T_impl_Change))).bind fun x7 => (loopM (fun (s' : Int × (List T_impl_Change)) => laws_toChangeS_l1 a s'.1 s'.2) (0, x7)).bind fun p => laws_toChangeS_j1 p
noncomputable def laws_toStep (a : T_laws_Step) : Option T_impl_Step :=
  (laws_toIntS a.Parents).bind fun x6 => (laws_toChangeS a.Changes).bind fun x13 => some (T_impl_Step.mk x6 a.Note x13)
noncomputable def laws_toStepS_j1 (out_ : List T_impl_Step) : Option ((List T_impl_Step)) :=
  some out_
noncomputable def laws_toStepS_l1 (a : List T_laws_Step) (i : Int) (out__1 : List T_impl_Step) : Option ((Int × (List T_impl_Step)) ⊕ ((List T_impl_Step))) :=
  (if (decide (i < (a.length : Int))) then (geti a i).bind fun x => (laws_toStep (T_laws_Step.mk x.Parents x.Note x.Changes)).bind fun x20 => (geti out__1 i).bind fun x_1 => some (.inl ((wk .i64 (i + 1)), (out__1.set i.toNat (T_impl_Step.mk x20.Parents x20.Note x20.Changes))))
  else some (.inr out__1))
noncomputable def laws_toStepS (a : List T_laws_Step) : Option (List T_impl_Step) :=
  ((mkl (a.length : Int) (a.length : Int) (T_impl_Step.mk [] (ByteArray.mk #[]) []) : Option (List T_impl_Step))).bind fun x7 => (loopM (fun (s' : Int × (List T_impl_Step)) => laws_toStepS_l1 a s'.1 s'.2) (0, x7)).bind fun p => laws_toStepS_j1 p
noncomputable def spec_l01Var_j1 (n_1 : Int) (out_ : List Int) : Option (ByteArray) :=
  (appn out_ [(wk .u8 n_1)]).bind fun l => some (mkS l)
noncomputable def spec_l01Var_l1 (n_2 : Int) (out__1 : List Int) : Option ((Int × (List Int)) ⊕ (Int × (List Int))) :=
  (if (decide (n_2 > 127)) then (appn out__1 [(wk .u8 (wk .i64 ((n_2.tmod 128) + 128)))]).bind fun l_1 => some (.inl ((wk .i64 (n_2.tdiv 128)), l_1))
  else some (.inr (n_2, out__1)))
noncomputable def spec_l01Var (n : Int) : Option ByteArray :=
  (loopM (fun (s' : Int × (List Int)) => spec_l01Var_l1 s'.1 s'.2) (n, [])).bind fun p => spec_l01Var_j1 p.1 p.2
noncomputable def spec_l01In (x : Int) (least : Int) (most : Int) : Option Bool :=
  (if (decide (x ≥ least)) then some (decide (x ≤ most)) else some false).bind fun b => some b
noncomputable def spec_l17Short (s : ByteArray) : Option ByteArray :=
  (spec_l01Var (s.size : Int)).bind fun x5 => (sapp x5 s).bind fun t => some t
noncomputable def spec_LineOk_j1 (line : ByteArray) : Option (Bool) :=
  some (decide ((line.size : Int) ≤ 60))
noncomputable def spec_LineOk_l1 (line : ByteArray) (i : Int) : Option ((Int) ⊕ ((Bool) ⊕ (Unit))) :=
  (if (decide (i < (line.size : Int))) then (sidx line i).bind fun x12 => (if (x12 == 10) then some (.inr (.inl false))
  else some (.inl (wk .i64 (i + 1))))
  else some (.inr (.inr ())))
noncomputable def spec_LineOk (line : ByteArray) : Option Bool :=
  (loopM (fun (s' : Int) => spec_LineOk_l1 line s') (0)).bind fun p => (match p with | .inl c' => some c' | .inr q => spec_LineOk_j1 line)
noncomputable def spec_l03All_j1 : Option (Bool) :=
  some true
noncomputable def spec_l03All_l1 (list_ : List ByteArray) (i : Int) : Option ((Int) ⊕ ((Bool) ⊕ (Unit))) :=
  (if (decide (i < (list_.length : Int))) then (geti list_ i).bind fun x => (spec_LineOk x).bind fun x20 => (if (!x20) then some (.inr (.inl false))
  else some (.inl (wk .i64 (i + 1))))
  else some (.inr (.inr ())))
noncomputable def spec_l03All (list_ : List ByteArray) (most : Int) : Option Bool :=
  (if (decide ((list_.length : Int) > most)) then some false
  else (loopM (fun (s' : Int) => spec_l03All_l1 list_ s') (0)).bind fun p => (match p with | .inl c' => some c' | .inr q => spec_l03All_j1))
noncomputable def spec_LinesOk (list_ : List ByteArray) : Option Bool :=
  (spec_l03All list_ 80).bind fun x4 => some x4
noncomputable def spec_l22ChangeOk (x : T_impl_Change) : Option Bool :=
  (spec_l01In x.Kind 0 255).bind fun x5 => (if x5 then some (decide ((x.Path.size : Int) ≤ 60000)) else some false).bind fun b => (if b then some (decide ((x.To.size : Int) ≤ 60000)) else some false).bind fun b_1 => (if b_1 then (spec_LinesOk x.Lines).bind fun x21 => some x21 else some false).bind fun b_2 => some b_2
noncomputable def spec_SumMore_j1 (sum_1 : Int) : Option (Int) :=
  some sum_1
noncomputable def spec_SumMore_j2 (i : Int) (sum_3 : Int) : Option ((Int × Int) ⊕ (Int)) :=
  some (.inl (sum_3, (wk .i64 (i + 1))))
noncomputable def spec_SumMore_l2 (sum_4 : Int) (k : Int) : Option ((Int × Int) ⊕ (Int)) :=
  (if (decide (k < 8)) then (if ((sum_4.tmod 2) == 1) then some (.inl ((bits .xor .u32 (wk .u32 (sum_4.tdiv 2)) 3558460437), (wk .i64 (k + 1))))
  else some (.inl ((wk .u32 (sum_4.tdiv 2)), (wk .i64 (k + 1)))))
  else some (.inr sum_4))
noncomputable def spec_SumMore_l1 (text : ByteArray) (sum_2 : Int) (i : Int) : Option ((Int × Int) ⊕ (Int)) :=
  (if (decide (i < (text.size : Int))) then (sidx text i).bind fun x17 => (loopM (fun (s' : Int × Int) => spec_SumMore_l2 s'.1 s'.2) ((bits .xor .u32 sum_2 (wk .u32 x17)), 0)).bind fun p_1 => spec_SumMore_j2 i p_1
  else some (.inr sum_2))
noncomputable def spec_SumMore (sum : Int) (text : ByteArray) : Option Int :=
  (loopM (fun (s' : Int × Int) => spec_SumMore_l1 text s'.1 s'.2) (sum, 0)).bind fun p => spec_SumMore_j1 p
noncomputable def spec_SumOf (text : ByteArray) : Option Int :=
  (spec_SumMore 4294967295 text).bind fun x4 => some x4
noncomputable def spec_l02Four (x : Int) : Option ByteArray :=
  some (mkS [(wk .u8 (shrI .u32 x 24)), (wk .u8 (shrI .u32 x 16)), (wk .u8 (shrI .u32 x 8)), (wk .u8 x)])
noncomputable def spec_Sealed (text : ByteArray) : Option (ByteArray × Bool) :=
  (if (decide ((text.size : Int) > 60000)) then some ((ByteArray.mk #[]), false)
  else (spec_SumOf text).bind fun x9 => (spec_l02Four x9).bind fun x10 => (sapp text x10).bind fun t => some (t, true))
noncomputable def spec_BundleText_j1 (out_ : List Int) : Option (ByteArray × Bool) :=
  (spec_Sealed (mkS out_)).bind fun x145 => some (x145.1, x145.2)
noncomputable def spec_BundleText_j2 (i : Int) (out__2 : List Int) : Option ((Int × (List Int)) ⊕ ((ByteArray × Bool) ⊕ ((List Int)))) :=
  some (.inl ((wk .i64 (i + 1)), out__2))
noncomputable def spec_BundleText_j4 (i : Int) (out__3 : List Int) : Option ((Int × (List Int)) ⊕ ((ByteArray × Bool) ⊕ ((List Int)))) :=
  (if (decide ((out__3.length : Int) > 60000)) then some (.inr (.inl ((ByteArray.mk #[]), false)))
  else spec_BundleText_j2 i out__3)
noncomputable def spec_BundleText_j5 (k : Int) (out__5 : List Int) : Option ((Int × (List Int)) ⊕ (((Int × (List Int)) ⊕ ((ByteArray × Bool) ⊕ ((List Int)))) ⊕ ((List Int)))) :=
  some (.inl ((wk .i64 (k + 1)), out__5))
noncomputable def spec_BundleText_j6 (k : Int) (out__4 : List Int) (s_1 : ByteArray) : Option ((Int × (List Int)) ⊕ (((Int × (List Int)) ⊕ ((ByteArray × Bool) ⊕ ((List Int)))) ⊕ ((List Int)))) :=
  (appn out__4 (bytesL s_1)).bind fun l_1 => (if (decide ((l_1.length : Int) > 60000)) then some (.inr (.inl (.inr (.inl ((ByteArray.mk #[]), false)))))
  else spec_BundleText_j5 k l_1)
noncomputable def spec_BundleText_l3 (x_1 : T_impl_Change) (s_2 : ByteArray) (j : Int) : Option ((ByteArray × Int) ⊕ (ByteArray)) :=
  (if (decide (j < (x_1.Lines.length : Int))) then (geti x_1.Lines j).bind fun x_2 => (spec_l17Short x_2).bind fun x131 => (sapp s_2 x131).bind fun t_6 => some (.inl (t_6, (wk .i64 (j + 1))))
  else some (.inr s_2))
noncomputable def spec_BundleText_l2 (x : T_impl_Step) (k : Int) (out__4 : List Int) : Option ((Int × (List Int)) ⊕ (((Int × (List Int)) ⊕ ((ByteArray × Bool) ⊕ ((List Int)))) ⊕ ((List Int)))) :=
  (if (decide (k < (x.Changes.length : Int))) then (geti x.Changes k).bind fun x_1 => (spec_l22ChangeOk (T_impl_Change.mk x_1.Kind x_1.Path x_1.To x_1.Lines)).bind fun x98 => (if (!x98) then some (.inr (.inl (.inr (.inl ((ByteArray.mk #[]), false)))))
  else (spec_l17Short x_1.Path).bind fun x107 => (sapp (mkS [(wk .u8 x_1.Kind)]) x107).bind fun t_3 => (spec_l17Short x_1.To).bind fun x111 => (sapp t_3 x111).bind fun t_4 => (spec_l01Var (x_1.Lines.length : Int)).bind fun x116 => (sapp t_4 x116).bind fun t_5 => (loopM (fun (s' : ByteArray × Int) => spec_BundleText_l3 x_1 s'.1 s'.2) (t_5, 0)).bind fun p_2 => spec_BundleText_j6 k out__4 p_2)
  else some (.inr (.inr out__4)))
noncomputable def spec_BundleText_j3 (i : Int) (out__1 : List Int) (x : T_impl_Step) (s : ByteArray) : Option ((Int × (List Int)) ⊕ ((ByteArray × Bool) ⊕ ((List Int)))) :=
  (spec_l17Short x.Note).bind fun x76 => (sapp s x76).bind fun t_1 => (spec_l01Var (x.Changes.length : Int)).bind fun x81 => (sapp t_1 x81).bind fun t_2 => (appn out__1 (bytesL t_2)).bind fun l => (loopM (fun (s' : Int × (List Int)) => spec_BundleText_l2 x s'.1 s'.2) (0, l)).bind fun p_1 => (match p_1 with | .inl c' => some c' | .inr q => spec_BundleText_j4 i q)
noncomputable def spec_BundleText_l4 (x : T_impl_Step) (s_3 : ByteArray) (k_1 : Int) : Option ((ByteArray × Int) ⊕ (((Int × (List Int)) ⊕ ((ByteArray × Bool) ⊕ ((List Int)))) ⊕ (ByteArray))) :=
  (if (decide (k_1 < (x.Parents.length : Int))) then (geti x.Parents k_1).bind fun x_3 => (spec_l01In x_3 0 1000000000).bind fun x62 => (if (!x62) then some (.inr (.inl (.inr (.inl ((ByteArray.mk #[]), false)))))
  else (spec_l01Var x_3).bind fun x70 => (sapp s_3 x70).bind fun t_7 => some (.inl (t_7, (wk .i64 (k_1 + 1)))))
  else some (.inr (.inr s_3)))
noncomputable def spec_BundleText_l1 (list_ : List T_impl_Step) (i : Int) (out__1 : List Int) : Option ((Int × (List Int)) ⊕ ((ByteArray × Bool) ⊕ ((List Int)))) :=
  (if (decide (i < (list_.length : Int))) then (geti list_ i).bind fun x => (if (decide ((x.Parents.length : Int) > 4)) then some true else some (decide ((x.Changes.length : Int) > 8))).bind fun b => (if b then some true else some (decide ((x.Note.size : Int) > 60000))).bind fun b_1 => (if b_1 then some (.inr (.inl ((ByteArray.mk #[]), false)))
  else (spec_l01Var (x.Parents.length : Int)).bind fun x49 => (loopM (fun (s' : ByteArray × Int) => spec_BundleText_l4 x s'.1 s'.2) (x49, 0)).bind fun p_3 => (match p_3 with | .inl c' => some c' | .inr q_1 => spec_BundleText_j3 i out__1 x q_1))
  else some (.inr (.inr out__1)))
noncomputable def spec_BundleText (list_ : List T_impl_Step) : Option (ByteArray × Bool) :=
  (if (decide ((list_.length : Int) > 40)) then some ((ByteArray.mk #[]), false)
  else (spec_l01Var (list_.length : Int)).bind fun x17 => (sapp (ByteArray.mk #[84, 66, 49]) x17).bind fun t => (loopM (fun (s' : Int × (List Int)) => spec_BundleText_l1 list_ s'.1 s'.2) (0, (bytesL t))).bind fun p => (match p with | .inl c' => some c' | .inr q_2 => spec_BundleText_j1 q_2))
noncomputable def impl_varText_j1 (n_1 : Int) (out_ : List Int) : Option (ByteArray) :=
  (appn out_ [(wk .u8 n_1)]).bind fun l => some (mkS l)
noncomputable def impl_varText_l1 (n_2 : Int) (out__1 : List Int) : Option ((Int × (List Int)) ⊕ (Int × (List Int))) :=
  (if (decide (n_2 > 127)) then (appn out__1 [(wk .u8 (wk .i64 (128 + (n_2.tmod 128))))]).bind fun l_1 => some (.inl ((wk .i64 (n_2.tdiv 128)), l_1))
  else some (.inr (n_2, out__1)))
noncomputable def impl_varText (n : Int) : Option ByteArray :=
  (loopM (fun (s' : Int × (List Int)) => impl_varText_l1 s'.1 s'.2) (n, [])).bind fun p => impl_varText_j1 p.1 p.2
noncomputable def strings_Builder_WriteString (b : ByteArray) (x : ByteArray) : Option (ByteArray) :=
  if b.size + x.size ≤ 549755813888 then some (b ++ x) else none
noncomputable def impl_inRange (n : Int) (least : Int) (most : Int) : Option Bool :=
  (if (decide (n ≥ least)) then some (decide (n ≤ most)) else some false).bind fun b => some b
noncomputable def impl_numbersOk_j1 : Option (Bool) :=
  some true
noncomputable def impl_numbersOk_l1 (list_ : List Int) (x7 : Int) : Option ((Int) ⊕ ((Bool) ⊕ (Unit))) :=
  (if (decide (x7 < (list_.length : Int))) then (geti list_ x7).bind fun x => (impl_inRange x 0 1000000000).bind fun x12 => (if (!x12) then some (.inr (.inl false))
  else some (.inl (wk .i64 (x7 + 1))))
  else some (.inr (.inr ())))
noncomputable def impl_numbersOk (list_ : List Int) : Option Bool :=
  (loopM (fun (s' : Int) => impl_numbersOk_l1 list_ s') (0)).bind fun p => (match p with | .inl c' => some c' | .inr q => impl_numbersOk_j1)
noncomputable def internal_stringslite_IndexByte (s : ByteArray) (c : Int) : Option Int :=
  some (idxB s c)
noncomputable def internal_stringslite_Index (s : ByteArray) (substr : ByteArray) : Option Int :=
  (if ((substr.size : Int) == 0) then some true else some (substr.toList == s.toList)).bind fun b => (if b then some 0
  else (if ((substr.size : Int) == 1) then (sidx substr 0).bind fun x29 => (internal_stringslite_IndexByte s x29).bind fun x30 => some x30
  else (if (decide ((substr.size : Int) ≥ (s.size : Int))) then some (-1)
  else none)))
noncomputable def strings_Index (s : ByteArray) (substr : ByteArray) : Option Int :=
  (internal_stringslite_Index s substr).bind fun x7 => some x7
noncomputable def strings_Contains (s : ByteArray) (substr : ByteArray) : Option Bool :=
  (strings_Index s substr).bind fun x7 => some (decide (x7 ≥ 0))
noncomputable def impl_LineOk (line : ByteArray) : Option Bool :=
  (if (decide ((line.size : Int) ≤ 60)) then (strings_Contains line (ByteArray.mk #[10])).bind fun x8 => some (!x8) else some false).bind fun b => some b
noncomputable def impl_areLines_j1 : Option (Bool) :=
  some true
noncomputable def impl_areLines_l1 (list_ : List ByteArray) (x7 : Int) : Option ((Int) ⊕ ((Bool) ⊕ (Unit))) :=
  (if (decide (x7 < (list_.length : Int))) then (geti list_ x7).bind fun x => (impl_LineOk x).bind fun x12 => (if (!x12) then some (.inr (.inl false))
  else some (.inl (wk .i64 (x7 + 1))))
  else some (.inr (.inr ())))
noncomputable def impl_areLines (list_ : List ByteArray) : Option Bool :=
  (loopM (fun (s' : Int) => impl_areLines_l1 list_ s') (0)).bind fun p => (match p with | .inl c' => some c' | .inr q => impl_areLines_j1)
noncomputable def impl_LinesOk (list_ : List ByteArray) : Option Bool :=
  (if (decide ((list_.length : Int) ≤ 80)) then (impl_areLines list_).bind fun x8 => some x8 else some false).bind fun b => some b
noncomputable def impl_stepOk_j1 : Option (Bool) :=
  some true
noncomputable def impl_stepOk_l1 (x : T_impl_Step) (x30 : Int) : Option ((Int) ⊕ ((Bool) ⊕ (Unit))) :=
  (if (decide (x30 < (x.Changes.length : Int))) then (geti x.Changes x30).bind fun x_1 => (impl_inRange x_1.Kind 0 255).bind fun x36 => (if (!x36) then some true else some (decide ((x_1.Path.size : Int) > 60000))).bind fun b_3 => (if b_3 then some true else some (decide ((x_1.To.size : Int) > 60000))).bind fun b_4 => (if b_4 then some true else (impl_LinesOk x_1.Lines).bind fun x53 => some (!x53)).bind fun b_5 => (if b_5 then some (.inr (.inl false))
  else some (.inl (wk .i64 (x30 + 1))))
  else some (.inr (.inr ())))
noncomputable def impl_stepOk (x : T_impl_Step) : Option Bool :=
  (if (decide ((x.Parents.length : Int) > 4)) then some true else (impl_numbersOk x.Parents).bind fun x12 => some (!x12)).bind fun b => (if b then some true else some (decide ((x.Changes.length : Int) > 8))).bind fun b_1 => (if b_1 then some true else some (decide ((x.Note.size : Int) > 60000))).bind fun b_2 => (if b_2 then some false
  else (loopM (fun (s' : Int) => impl_stepOk_l1 x s') (0)).bind fun p => (match p with | .inl c' => some c' | .inr q => impl_stepOk_j1))
noncomputable def strings_Builder_String (b : ByteArray) : Option (ByteArray) :=
  some b
noncomputable def impl_listText_j1 (b : ByteArray) : Option (ByteArray) :=
  (strings_Builder_String b).bind fun x20 => some x20
noncomputable def impl_listText_l1 (list_ : List Int) (x12 : Int) (b_1 : ByteArray) : Option ((Int × ByteArray) ⊕ (ByteArray)) :=
  (if (decide (x12 < (list_.length : Int))) then (geti list_ x12).bind fun x => (impl_varText x).bind fun x17 => (strings_Builder_WriteString b_1 x17).bind fun x18 => some (.inl ((wk .i64 (x12 + 1)), x18))
  else some (.inr b_1))
noncomputable def impl_listText (list_ : List Int) : Option ByteArray :=
  (impl_varText (list_.length : Int)).bind fun x8 => (strings_Builder_WriteString (ByteArray.mk #[]) x8).bind fun x9 => (loopM (fun (s' : Int × ByteArray) => impl_listText_l1 list_ s'.1 s'.2) (0, x9)).bind fun p => impl_listText_j1 p
noncomputable def impl_shortText (s : ByteArray) : Option ByteArray :=
  (impl_varText (s.size : Int)).bind fun x5 => (sapp x5 s).bind fun t => some t
noncomputable def impl_stepText_j1 (b : ByteArray) : Option (ByteArray) :=
  (strings_Builder_String b).bind fun x59 => some x59
noncomputable def impl_stepText_j2 (x24 : Int) (b_2 : ByteArray) : Option ((Int × ByteArray) ⊕ (ByteArray)) :=
  some (.inl ((wk .i64 (x24 + 1)), b_2))
noncomputable def impl_stepText_l2 (x_1 : T_impl_Change) (x50 : Int) (b_3 : ByteArray) : Option ((Int × ByteArray) ⊕ (ByteArray)) :=
  (if (decide (x50 < (x_1.Lines.length : Int))) then (geti x_1.Lines x50).bind fun x_2 => (impl_shortText x_2).bind fun x55 => (strings_Builder_WriteString b_3 x55).bind fun x56 => some (.inl ((wk .i64 (x50 + 1)), x56))
  else some (.inr b_3))
noncomputable def impl_stepText_l1 (x : T_impl_Step) (x24 : Int) (b_1 : ByteArray) : Option ((Int × ByteArray) ⊕ (ByteArray)) :=
  (if (decide (x24 < (x.Changes.length : Int))) then (geti x.Changes x24).bind fun x_1 => (impl_shortText x_1.Path).bind fun x35 => (sapp (mkS [(wk .u8 x_1.Kind)]) x35).bind fun t_2 => (impl_shortText x_1.To).bind fun x39 => (sapp t_2 x39).bind fun t_3 => (impl_varText (x_1.Lines.length : Int)).bind fun x44 => (sapp t_3 x44).bind fun t_4 => (strings_Builder_WriteString b_1 t_4).bind fun x46 => (loopM (fun (s' : Int × ByteArray) => impl_stepText_l2 x_1 s'.1 s'.2) (0, x46)).bind fun p_1 => impl_stepText_j2 x24 p_1
  else some (.inr b_1))
noncomputable def impl_stepText (x : T_impl_Step) : Option ByteArray :=
  (impl_listText x.Parents).bind fun x10 => (impl_shortText x.Note).bind fun x13 => (sapp x10 x13).bind fun t => (impl_varText (x.Changes.length : Int)).bind fun x18 => (sapp t x18).bind fun t_1 => (strings_Builder_WriteString (ByteArray.mk #[]) t_1).bind fun x20 => (loopM (fun (s' : Int × ByteArray) => impl_stepText_l1 x s'.1 s'.2) (0, x20)).bind fun p => impl_stepText_j1 p
noncomputable def impl_SumMore_j1 (sum_1 : Int) : Option (Int) :=
  some sum_1
noncomputable def impl_SumMore_j2 (i : Int) (sum_3 : Int) : Option ((Int × Int) ⊕ (Int)) :=
  some (.inl (sum_3, (wk .i64 (i + 1))))
noncomputable def impl_SumMore_l2 (sum_4 : Int) (x19 : Int) : Option ((Int × Int) ⊕ (Int)) :=
  (if (decide (x19 < 8)) then (if ((bits .and .u32 sum_4 1) == 1) then some (.inl ((bits .xor .u32 (shrI .u32 sum_4 1) 3558460437), (wk .i64 (x19 + 1))))
  else some (.inl ((shrI .u32 sum_4 1), (wk .i64 (x19 + 1)))))
  else some (.inr sum_4))
noncomputable def impl_SumMore_l1 (text : ByteArray) (sum_2 : Int) (i : Int) : Option ((Int × Int) ⊕ (Int)) :=
  (if (decide (i < (text.size : Int))) then (sidx text i).bind fun x16 => (loopM (fun (s' : Int × Int) => impl_SumMore_l2 s'.1 s'.2) ((bits .xor .u32 sum_2 (wk .u32 x16)), 0)).bind fun p_1 => impl_SumMore_j2 i p_1
  else some (.inr sum_2))
noncomputable def impl_SumMore (sum : Int) (text : ByteArray) : Option Int :=
  (loopM (fun (s' : Int × Int) => impl_SumMore_l1 text s'.1 s'.2) (sum, 0)).bind fun p => impl_SumMore_j1 p
noncomputable def impl_SumOf (text : ByteArray) : Option Int :=
  (impl_SumMore 4294967295 text).bind fun x4 => some x4
noncomputable def impl_sumText (text : ByteArray) : Option ByteArray :=
  (impl_SumOf text).bind fun x5 => some (mkS [(wk .u8 (shrI .u32 x5 24)), (wk .u8 (shrI .u32 x5 16)), (wk .u8 (shrI .u32 x5 8)), (wk .u8 x5)])
noncomputable def impl_Sealed (text : ByteArray) : Option (ByteArray × Bool) :=
  (if (decide ((text.size : Int) > 60000)) then some ((ByteArray.mk #[]), false)
  else (impl_sumText text).bind fun x9 => (sapp text x9).bind fun t => some (t, true))
noncomputable def impl_BundleText_j1 (b : ByteArray) : Option (ByteArray × Bool) :=
  (strings_Builder_String b).bind fun x28 => (impl_Sealed x28).bind fun x29 => some (x29.1, x29.2)
noncomputable def impl_BundleText_l1 (list_ : List T_impl_Step) (x17 : Int) (b_1 : ByteArray) : Option ((Int × ByteArray) ⊕ ((ByteArray × Bool) ⊕ (ByteArray))) :=
  (if (decide (x17 < (list_.length : Int))) then (geti list_ x17).bind fun x => (impl_stepOk (T_impl_Step.mk x.Parents x.Note x.Changes)).bind fun x22 => (if (!x22) then some (.inr (.inl ((ByteArray.mk #[]), false)))
  else (impl_stepText (T_impl_Step.mk x.Parents x.Note x.Changes)).bind fun x25 => (strings_Builder_WriteString b_1 x25).bind fun x26 => some (.inl ((wk .i64 (x17 + 1)), x26)))
  else some (.inr (.inr b_1)))
noncomputable def impl_BundleText (list_ : List T_impl_Step) : Option (ByteArray × Bool) :=
  (if (decide ((list_.length : Int) > 40)) then some ((ByteArray.mk #[]), false)
  else (impl_varText (list_.length : Int)).bind fun x12 => (sapp (ByteArray.mk #[84, 66, 49]) x12).bind fun t => (strings_Builder_WriteString (ByteArray.mk #[]) t).bind fun x14 => (loopM (fun (s' : Int × ByteArray) => impl_BundleText_l1 list_ s'.1 s'.2) (0, x14)).bind fun p => (match p with | .inl c' => some c' | .inr q => impl_BundleText_j1 q))
noncomputable def laws_eqIntS_j1 : Option (Bool) :=
  some true
noncomputable def laws_eqIntS_l1 (a : List Int) (b : List Int) (i : Int) : Option ((Int) ⊕ ((Bool) ⊕ (Unit))) :=
  (if (decide (i < (a.length : Int))) then (geti a i).bind fun x => (geti b i).bind fun x_1 => (if (x != x_1) then some (.inr (.inl false))
  else some (.inl (wk .i64 (i + 1))))
  else some (.inr (.inr ())))
noncomputable def laws_eqIntS (a : List Int) (b : List Int) : Option Bool :=
  (if ((a.length : Int) != (b.length : Int)) then some false
  else (loopM (fun (s' : Int) => laws_eqIntS_l1 a b s') (0)).bind fun p => (match p with | .inl c' => some c' | .inr q => laws_eqIntS_j1))
noncomputable def laws_eqStringS_j1 : Option (Bool) :=
  some true
noncomputable def laws_eqStringS_l1 (a : List ByteArray) (b : List ByteArray) (i : Int) : Option ((Int) ⊕ ((Bool) ⊕ (Unit))) :=
  (if (decide (i < (a.length : Int))) then (geti a i).bind fun x => (geti b i).bind fun x_1 => (if (!(x.toList == x_1.toList)) then some (.inr (.inl false))
  else some (.inl (wk .i64 (i + 1))))
  else some (.inr (.inr ())))
noncomputable def laws_eqStringS (a : List ByteArray) (b : List ByteArray) : Option Bool :=
  (if ((a.length : Int) != (b.length : Int)) then some false
  else (loopM (fun (s' : Int) => laws_eqStringS_l1 a b s') (0)).bind fun p => (match p with | .inl c' => some c' | .inr q => laws_eqStringS_j1))
noncomputable def laws_eqChange (a : T_impl_Change) (b : T_impl_Change) : Option Bool :=
  (if (a.Kind != b.Kind) then some false
  else (if (!(a.Path.toList == b.Path.toList)) then some false
  else (if (!(a.To.toList == b.To.toList)) then some false
  else (laws_eqStringS a.Lines b.Lines).bind fun x24 => (if (!x24) then some false
  else some true))))
noncomputable def laws_eqChangeS_j1 : Option (Bool) :=
  some true
noncomputable def laws_eqChangeS_l1 (a : List T_impl_Change) (b : List T_impl_Change) (i : Int) : Option ((Int) ⊕ ((Bool) ⊕ (Unit))) :=
  (if (decide (i < (a.length : Int))) then (geti a i).bind fun x => (geti b i).bind fun x_1 => (laws_eqChange (T_impl_Change.mk x.Kind x.Path x.To x.Lines) (T_impl_Change.mk x_1.Kind x_1.Path x_1.To x_1.Lines)).bind fun x25 => (if (!x25) then some (.inr (.inl false))
  else some (.inl (wk .i64 (i + 1))))
  else some (.inr (.inr ())))
noncomputable def laws_eqChangeS (a : List T_impl_Change) (b : List T_impl_Change) : Option Bool :=
  (if ((a.length : Int) != (b.length : Int)) then some false
  else (loopM (fun (s' : Int) => laws_eqChangeS_l1 a b s') (0)).bind fun p => (match p with | .inl c' => some c' | .inr q => laws_eqChangeS_j1))
noncomputable def laws_eqStep (a : T_impl_Step) (b : T_impl_Step) : Option Bool :=
  (laws_eqIntS a.Parents b.Parents).bind fun x9 => (if (!x9) then some false
  else (if (!(a.Note.toList == b.Note.toList)) then some false
  else (laws_eqChangeS a.Changes b.Changes).bind fun x20 => (if (!x20) then some false
  else some true)))
noncomputable def laws_eqStepS_j1 : Option (Bool) :=
  some true
noncomputable def laws_eqStepS_l1 (a : List T_impl_Step) (b : List T_impl_Step) (i : Int) : Option ((Int) ⊕ ((Bool) ⊕ (Unit))) :=
  (if (decide (i < (a.length : Int))) then (geti a i).bind fun x => (geti b i).bind fun x_1 => (laws_eqStep (T_impl_Step.mk x.Parents x.Note x.Changes) (T_impl_Step.mk x_1.Parents x_1.Note x_1.Changes)).bind fun x25 => (if (!x25) then some (.inr (.inl false))
  else some (.inl (wk .i64 (i + 1))))
  else some (.inr (.inr ())))
noncomputable def laws_eqStepS (a : List T_impl_Step) (b : List T_impl_Step) : Option Bool :=
  (if ((a.length : Int) != (b.length : Int)) then some false
  else (loopM (fun (s' : Int) => laws_eqStepS_l1 a b s') (0)).bind fun p => (match p with | .inl c' => some c' | .inr q => laws_eqStepS_j1))
noncomputable def laws_FnExactBundleText (aList : List T_laws_Step) : Option Bool :=
  (laws_szStepS aList 1048576).bind fun x11 => (if (decide (x11 < 0)) then some true
  else (laws_toStepS aList).bind fun x16 => (spec_BundleText x16).bind fun x17 => (laws_toStepS aList).bind fun x21 => (impl_BundleText x21).bind fun x24 => (if (!(x24.1.toList == x17.1.toList)) then some true else some (x24.2 != x17.2)).bind fun b => (if b then some false
  else (laws_toStepS aList).bind fun x37 => (laws_eqStepS x21 x37).bind fun x38 => (if (!x38) then some false
  else some true)))
end Go.TV.F
