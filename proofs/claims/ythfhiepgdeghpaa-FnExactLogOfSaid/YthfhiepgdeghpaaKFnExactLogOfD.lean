/- Structures and their rows. -/
import Derived.Test.YthfhiepgdeghpaaKFnExactLogOfT5
set_option linter.unusedVariables false
set_option linter.unusedSimpArgs false
set_option maxHeartbeats 8000000
set_option maxRecDepth 100000
namespace Go.TV
structure T_laws_Name where
  Path : ByteArray
  Id : Int
  Version : Int
  deriving Inhabited
structure T_laws_Commit where
  Parents : List Int
  Note : ByteArray
  Names : List T_laws_Name
  deriving Inhabited
structure T_impl_Name where
  Path : ByteArray
  Id : Int
  Version : Int
  deriving Inhabited
structure T_impl_Commit where
  Parents : List Int
  Note : ByteArray
  Names : List T_impl_Name
  deriving Inhabited
theorem R_i64 : (∀ (l : List Int) (i : Nat) (a0 : Int), (List.map (rK .i64) l).set i [.sc (.int .i64 a0)] = List.map (rK .i64) (l.set i a0)) ∧
  (∀ (l : List Int) (a0 : Int), List.map (rK .i64) l ++ [[.sc (.int .i64 a0)]] = List.map (rK .i64) (l ++ [a0])) ∧
  (∀ (l : List Int) (b0 b1 : Int), List.map (rK .i64) l ++ [[.sc (.int .i64 b0)], [.sc (.int .i64 b1)]] = List.map (rK .i64) (l ++ [b0, b1])) ∧
  (∀ (l : List Int) (b0 b1 b2 : Int), List.map (rK .i64) l ++ [[.sc (.int .i64 b0)], [.sc (.int .i64 b1)], [.sc (.int .i64 b2)]] = List.map (rK .i64) (l ++ [b0, b1, b2])) ∧
  (∀ (l : List Int) (b0 b1 b2 b3 : Int), List.map (rK .i64) l ++ [[.sc (.int .i64 b0)], [.sc (.int .i64 b1)], [.sc (.int .i64 b2)], [.sc (.int .i64 b3)]] = List.map (rK .i64) (l ++ [b0, b1, b2, b3])) ∧
  (∀ n : Nat, List.replicate n [.sc (.int .i64 0)] = List.map (rK .i64) (List.replicate n 0)) ∧
  (∀ l : List Int, borRows (List.map (rK .i64) l) = List.map (rK .i64) l) ∧
  (∀ l : List Int, aliveRows (List.map (rK .i64) l) = true) ∧
  (∀ l : List Int, noBorRows (List.map (rK .i64) l) = true) :=
  ⟨fun l i a0 => set_rows (rK .i64) l i a0,
  fun l a0 => app_rows (rK .i64) l [a0],
  fun l b0 b1 => app_rows (rK .i64) l [b0, b1],
  fun l b0 b1 b2 => app_rows (rK .i64) l [b0, b1, b2],
  fun l b0 b1 b2 b3 => app_rows (rK .i64) l [b0, b1, b2, b3],
  fun n => rep_rows (rK .i64) 0 n,
  bor_rows (fun _ => rfl),
  alRows (fun _ => rfl),
  nb_rows (fun _ => rfl)⟩
def r_T_laws_Name (o : Bool) (x : T_laws_Name) : List V := [.sc (.string x.Path), .sc (.int .i64 x.Id), .sc (.int .i64 x.Version)]
theorem R_T_laws_Name : (∀ (l : List T_laws_Name) (i : Nat) (a0 : ByteArray) (a1 : Int) (a2 : Int), (List.map (r_T_laws_Name true) l).set i [.sc (.string a0), .sc (.int .i64 a1), .sc (.int .i64 a2)] = List.map (r_T_laws_Name true) (l.set i (T_laws_Name.mk a0 a1 a2))) ∧
  (∀ (l : List T_laws_Name) (a0 : ByteArray) (a1 : Int) (a2 : Int), List.map (r_T_laws_Name true) l ++ [[.sc (.string a0), .sc (.int .i64 a1), .sc (.int .i64 a2)]] = List.map (r_T_laws_Name true) (l ++ [(T_laws_Name.mk a0 a1 a2)])) ∧
  (∀ (l : List T_laws_Name) (i : Nat) (a0 : ByteArray) (a1 : Int) (a2 : Int), (List.map (r_T_laws_Name false) l).set i [.sc (.string a0), .sc (.int .i64 a1), .sc (.int .i64 a2)] = List.map (r_T_laws_Name false) (l.set i (T_laws_Name.mk a0 a1 a2))) ∧
  (∀ (l : List T_laws_Name) (a0 : ByteArray) (a1 : Int) (a2 : Int), List.map (r_T_laws_Name false) l ++ [[.sc (.string a0), .sc (.int .i64 a1), .sc (.int .i64 a2)]] = List.map (r_T_laws_Name false) (l ++ [(T_laws_Name.mk a0 a1 a2)])) ∧
  (∀ l : List T_laws_Name, borRows (List.map (r_T_laws_Name true) l) = List.map (r_T_laws_Name false) l) ∧
  (∀ l : List T_laws_Name, aliveRows (List.map (r_T_laws_Name true) l) = true) ∧
  (∀ l : List T_laws_Name, borRows (List.map (r_T_laws_Name false) l) = List.map (r_T_laws_Name false) l) ∧
  (∀ l : List T_laws_Name, aliveRows (List.map (r_T_laws_Name false) l) = true) ∧
  (∀ l : List T_laws_Name, noBorRows (List.map (r_T_laws_Name true) l) = true) ∧
  (∀ x : T_laws_Name, r_T_laws_Name true x = [.sc (.string x.Path), .sc (.int .i64 x.Id), .sc (.int .i64 x.Version)]) ∧
  (∀ x : T_laws_Name, r_T_laws_Name false x = [.sc (.string x.Path), .sc (.int .i64 x.Id), .sc (.int .i64 x.Version)]) :=
  ⟨fun l i a0 a1 a2 => set_rows (r_T_laws_Name true) l i (T_laws_Name.mk a0 a1 a2),
  fun l a0 a1 a2 => app_rows (r_T_laws_Name true) l [(T_laws_Name.mk a0 a1 a2)],
  fun l i a0 a1 a2 => set_rows (r_T_laws_Name false) l i (T_laws_Name.mk a0 a1 a2),
  fun l a0 a1 a2 => app_rows (r_T_laws_Name false) l [(T_laws_Name.mk a0 a1 a2)],
  bor_rows (fun _ => rfl),
  alRows (fun _ => rfl),
  bor_rows (fun _ => rfl),
  alRows (fun _ => rfl),
  nb_rows (fun _ => rfl),
  fun _ => rfl,
  fun _ => rfl⟩
def r_T_laws_Commit (o : Bool) (x : T_laws_Commit) : List V := [.list o 1 (List.map (rK .i64) x.Parents), .sc (.string x.Note), .list o 3 (List.map (r_T_laws_Name o) x.Names)]
theorem R_T_laws_Commit : (∀ (l : List T_laws_Commit) (i : Nat) (a0 : List Int) (a1 : ByteArray) (a2 : List T_laws_Name), (List.map (r_T_laws_Commit true) l).set i [.list true 1 (List.map (rK .i64) a0), .sc (.string a1), .list true 3 (List.map (r_T_laws_Name true) a2)] = List.map (r_T_laws_Commit true) (l.set i (T_laws_Commit.mk a0 a1 a2))) ∧
  (∀ (l : List T_laws_Commit) (a0 : List Int) (a1 : ByteArray) (a2 : List T_laws_Name), List.map (r_T_laws_Commit true) l ++ [[.list true 1 (List.map (rK .i64) a0), .sc (.string a1), .list true 3 (List.map (r_T_laws_Name true) a2)]] = List.map (r_T_laws_Commit true) (l ++ [(T_laws_Commit.mk a0 a1 a2)])) ∧
  (∀ (l : List T_laws_Commit) (i : Nat) (a0 : List Int) (a1 : ByteArray) (a2 : List T_laws_Name), (List.map (r_T_laws_Commit false) l).set i [.list false 1 (List.map (rK .i64) a0), .sc (.string a1), .list false 3 (List.map (r_T_laws_Name false) a2)] = List.map (r_T_laws_Commit false) (l.set i (T_laws_Commit.mk a0 a1 a2))) ∧
  (∀ (l : List T_laws_Commit) (a0 : List Int) (a1 : ByteArray) (a2 : List T_laws_Name), List.map (r_T_laws_Commit false) l ++ [[.list false 1 (List.map (rK .i64) a0), .sc (.string a1), .list false 3 (List.map (r_T_laws_Name false) a2)]] = List.map (r_T_laws_Commit false) (l ++ [(T_laws_Commit.mk a0 a1 a2)])) ∧
  (∀ (l : List T_laws_Commit) (i : Nat) (a1 : ByteArray) (a2 : List T_laws_Name), (List.map (r_T_laws_Commit true) l).set i [.list true 1 [], .sc (.string a1), .list true 3 (List.map (r_T_laws_Name true) a2)] = List.map (r_T_laws_Commit true) (l.set i (T_laws_Commit.mk [] a1 a2))) ∧
  (∀ (l : List T_laws_Commit) (a1 : ByteArray) (a2 : List T_laws_Name), List.map (r_T_laws_Commit true) l ++ [[.list true 1 [], .sc (.string a1), .list true 3 (List.map (r_T_laws_Name true) a2)]] = List.map (r_T_laws_Commit true) (l ++ [(T_laws_Commit.mk [] a1 a2)])) ∧
  (∀ (l : List T_laws_Commit) (i : Nat) (a0 : List Int) (a1 : ByteArray), (List.map (r_T_laws_Commit true) l).set i [.list true 1 (List.map (rK .i64) a0), .sc (.string a1), .list true 3 []] = List.map (r_T_laws_Commit true) (l.set i (T_laws_Commit.mk a0 a1 []))) ∧
  (∀ (l : List T_laws_Commit) (a0 : List Int) (a1 : ByteArray), List.map (r_T_laws_Commit true) l ++ [[.list true 1 (List.map (rK .i64) a0), .sc (.string a1), .list true 3 []]] = List.map (r_T_laws_Commit true) (l ++ [(T_laws_Commit.mk a0 a1 [])])) ∧
  (∀ (l : List T_laws_Commit) (i : Nat) (a1 : ByteArray), (List.map (r_T_laws_Commit true) l).set i [.list true 1 [], .sc (.string a1), .list true 3 []] = List.map (r_T_laws_Commit true) (l.set i (T_laws_Commit.mk [] a1 []))) ∧
  (∀ (l : List T_laws_Commit) (a1 : ByteArray), List.map (r_T_laws_Commit true) l ++ [[.list true 1 [], .sc (.string a1), .list true 3 []]] = List.map (r_T_laws_Commit true) (l ++ [(T_laws_Commit.mk [] a1 [])])) ∧
  (∀ l : List T_laws_Commit, borRows (List.map (r_T_laws_Commit true) l) = List.map (r_T_laws_Commit false) l) ∧
  (∀ l : List T_laws_Commit, aliveRows (List.map (r_T_laws_Commit true) l) = true) ∧
  (∀ l : List T_laws_Commit, borRows (List.map (r_T_laws_Commit false) l) = List.map (r_T_laws_Commit false) l) ∧
  (∀ l : List T_laws_Commit, aliveRows (List.map (r_T_laws_Commit false) l) = true) ∧
  (∀ l : List T_laws_Commit, noBorRows (List.map (r_T_laws_Commit true) l) = true) ∧
  (∀ x : T_laws_Commit, r_T_laws_Commit true x = [.list true 1 (List.map (rK .i64) x.Parents), .sc (.string x.Note), .list true 3 (List.map (r_T_laws_Name true) x.Names)]) ∧
  (∀ x : T_laws_Commit, r_T_laws_Commit false x = [.list false 1 (List.map (rK .i64) x.Parents), .sc (.string x.Note), .list false 3 (List.map (r_T_laws_Name false) x.Names)]) :=
  ⟨fun l i a0 a1 a2 => set_rows (r_T_laws_Commit true) l i (T_laws_Commit.mk a0 a1 a2),
  fun l a0 a1 a2 => app_rows (r_T_laws_Commit true) l [(T_laws_Commit.mk a0 a1 a2)],
  fun l i a0 a1 a2 => set_rows (r_T_laws_Commit false) l i (T_laws_Commit.mk a0 a1 a2),
  fun l a0 a1 a2 => app_rows (r_T_laws_Commit false) l [(T_laws_Commit.mk a0 a1 a2)],
  fun l i a1 a2 => set_rows (r_T_laws_Commit true) l i (T_laws_Commit.mk [] a1 a2),
  fun l a1 a2 => app_rows (r_T_laws_Commit true) l [(T_laws_Commit.mk [] a1 a2)],
  fun l i a0 a1 => set_rows (r_T_laws_Commit true) l i (T_laws_Commit.mk a0 a1 []),
  fun l a0 a1 => app_rows (r_T_laws_Commit true) l [(T_laws_Commit.mk a0 a1 [])],
  fun l i a1 => set_rows (r_T_laws_Commit true) l i (T_laws_Commit.mk [] a1 []),
  fun l a1 => app_rows (r_T_laws_Commit true) l [(T_laws_Commit.mk [] a1 [])],
  bor_rows (fun x => by simp only [r_T_laws_Commit, borRow, V.bor, (show ∀ l : List Int, borRows (List.map (rK .i64) l) = List.map (rK .i64) l from bor_rows (fun _ => rfl)), (show ∀ l : List T_laws_Name, borRows (List.map (r_T_laws_Name true) l) = List.map (r_T_laws_Name false) l from bor_rows (fun _ => rfl))]),
  alRows (fun _ => rfl),
  bor_rows (fun x => by simp only [r_T_laws_Commit, borRow, V.bor, (show ∀ l : List Int, borRows (List.map (rK .i64) l) = List.map (rK .i64) l from bor_rows (fun _ => rfl)), (show ∀ l : List T_laws_Name, borRows (List.map (r_T_laws_Name false) l) = List.map (r_T_laws_Name false) l from bor_rows (fun _ => rfl))]),
  alRows (fun _ => rfl),
  nb_rows (fun x => by simp only [r_T_laws_Commit, noBorRow, V.noBor, Bool.and_true, Bool.true_and, (show ∀ l : List Int, noBorRows (List.map (rK .i64) l) = true from nb_rows (fun _ => rfl)), (show ∀ l : List T_laws_Name, noBorRows (List.map (r_T_laws_Name true) l) = true from nb_rows (fun _ => rfl))]),
  fun _ => rfl,
  fun _ => rfl⟩
def r_T_impl_Name (o : Bool) (x : T_impl_Name) : List V := [.sc (.string x.Path), .sc (.int .i64 x.Id), .sc (.int .i64 x.Version)]
theorem R_T_impl_Name : (∀ (l : List T_impl_Name) (i : Nat) (a0 : ByteArray) (a1 : Int) (a2 : Int), (List.map (r_T_impl_Name true) l).set i [.sc (.string a0), .sc (.int .i64 a1), .sc (.int .i64 a2)] = List.map (r_T_impl_Name true) (l.set i (T_impl_Name.mk a0 a1 a2))) ∧
  (∀ (l : List T_impl_Name) (a0 : ByteArray) (a1 : Int) (a2 : Int), List.map (r_T_impl_Name true) l ++ [[.sc (.string a0), .sc (.int .i64 a1), .sc (.int .i64 a2)]] = List.map (r_T_impl_Name true) (l ++ [(T_impl_Name.mk a0 a1 a2)])) ∧
  (∀ (l : List T_impl_Name) (i : Nat) (a0 : ByteArray) (a1 : Int) (a2 : Int), (List.map (r_T_impl_Name false) l).set i [.sc (.string a0), .sc (.int .i64 a1), .sc (.int .i64 a2)] = List.map (r_T_impl_Name false) (l.set i (T_impl_Name.mk a0 a1 a2))) ∧
  (∀ (l : List T_impl_Name) (a0 : ByteArray) (a1 : Int) (a2 : Int), List.map (r_T_impl_Name false) l ++ [[.sc (.string a0), .sc (.int .i64 a1), .sc (.int .i64 a2)]] = List.map (r_T_impl_Name false) (l ++ [(T_impl_Name.mk a0 a1 a2)])) ∧
  (∀ l : List T_impl_Name, borRows (List.map (r_T_impl_Name true) l) = List.map (r_T_impl_Name false) l) ∧
  (∀ l : List T_impl_Name, aliveRows (List.map (r_T_impl_Name true) l) = true) ∧
  (∀ l : List T_impl_Name, borRows (List.map (r_T_impl_Name false) l) = List.map (r_T_impl_Name false) l) ∧
  (∀ l : List T_impl_Name, aliveRows (List.map (r_T_impl_Name false) l) = true) ∧
  (∀ l : List T_impl_Name, noBorRows (List.map (r_T_impl_Name true) l) = true) ∧
  (∀ x : T_impl_Name, r_T_impl_Name true x = [.sc (.string x.Path), .sc (.int .i64 x.Id), .sc (.int .i64 x.Version)]) ∧
  (∀ x : T_impl_Name, r_T_impl_Name false x = [.sc (.string x.Path), .sc (.int .i64 x.Id), .sc (.int .i64 x.Version)]) :=
  ⟨fun l i a0 a1 a2 => set_rows (r_T_impl_Name true) l i (T_impl_Name.mk a0 a1 a2),
  fun l a0 a1 a2 => app_rows (r_T_impl_Name true) l [(T_impl_Name.mk a0 a1 a2)],
  fun l i a0 a1 a2 => set_rows (r_T_impl_Name false) l i (T_impl_Name.mk a0 a1 a2),
  fun l a0 a1 a2 => app_rows (r_T_impl_Name false) l [(T_impl_Name.mk a0 a1 a2)],
  bor_rows (fun _ => rfl),
  alRows (fun _ => rfl),
  bor_rows (fun _ => rfl),
  alRows (fun _ => rfl),
  nb_rows (fun _ => rfl),
  fun _ => rfl,
  fun _ => rfl⟩
def r_T_impl_Commit (o : Bool) (x : T_impl_Commit) : List V := [.list o 1 (List.map (rK .i64) x.Parents), .sc (.string x.Note), .list o 3 (List.map (r_T_impl_Name o) x.Names)]
theorem R_T_impl_Commit : (∀ (l : List T_impl_Commit) (i : Nat) (a0 : List Int) (a1 : ByteArray) (a2 : List T_impl_Name), (List.map (r_T_impl_Commit true) l).set i [.list true 1 (List.map (rK .i64) a0), .sc (.string a1), .list true 3 (List.map (r_T_impl_Name true) a2)] = List.map (r_T_impl_Commit true) (l.set i (T_impl_Commit.mk a0 a1 a2))) ∧
  (∀ (l : List T_impl_Commit) (a0 : List Int) (a1 : ByteArray) (a2 : List T_impl_Name), List.map (r_T_impl_Commit true) l ++ [[.list true 1 (List.map (rK .i64) a0), .sc (.string a1), .list true 3 (List.map (r_T_impl_Name true) a2)]] = List.map (r_T_impl_Commit true) (l ++ [(T_impl_Commit.mk a0 a1 a2)])) ∧
  (∀ (l : List T_impl_Commit) (i : Nat) (a0 : List Int) (a1 : ByteArray) (a2 : List T_impl_Name), (List.map (r_T_impl_Commit false) l).set i [.list false 1 (List.map (rK .i64) a0), .sc (.string a1), .list false 3 (List.map (r_T_impl_Name false) a2)] = List.map (r_T_impl_Commit false) (l.set i (T_impl_Commit.mk a0 a1 a2))) ∧
  (∀ (l : List T_impl_Commit) (a0 : List Int) (a1 : ByteArray) (a2 : List T_impl_Name), List.map (r_T_impl_Commit false) l ++ [[.list false 1 (List.map (rK .i64) a0), .sc (.string a1), .list false 3 (List.map (r_T_impl_Name false) a2)]] = List.map (r_T_impl_Commit false) (l ++ [(T_impl_Commit.mk a0 a1 a2)])) ∧
  (∀ (l : List T_impl_Commit) (i : Nat) (a1 : ByteArray) (a2 : List T_impl_Name), (List.map (r_T_impl_Commit true) l).set i [.list true 1 [], .sc (.string a1), .list true 3 (List.map (r_T_impl_Name true) a2)] = List.map (r_T_impl_Commit true) (l.set i (T_impl_Commit.mk [] a1 a2))) ∧
  (∀ (l : List T_impl_Commit) (a1 : ByteArray) (a2 : List T_impl_Name), List.map (r_T_impl_Commit true) l ++ [[.list true 1 [], .sc (.string a1), .list true 3 (List.map (r_T_impl_Name true) a2)]] = List.map (r_T_impl_Commit true) (l ++ [(T_impl_Commit.mk [] a1 a2)])) ∧
  (∀ (l : List T_impl_Commit) (i : Nat) (a0 : List Int) (a1 : ByteArray), (List.map (r_T_impl_Commit true) l).set i [.list true 1 (List.map (rK .i64) a0), .sc (.string a1), .list true 3 []] = List.map (r_T_impl_Commit true) (l.set i (T_impl_Commit.mk a0 a1 []))) ∧
  (∀ (l : List T_impl_Commit) (a0 : List Int) (a1 : ByteArray), List.map (r_T_impl_Commit true) l ++ [[.list true 1 (List.map (rK .i64) a0), .sc (.string a1), .list true 3 []]] = List.map (r_T_impl_Commit true) (l ++ [(T_impl_Commit.mk a0 a1 [])])) ∧
  (∀ (l : List T_impl_Commit) (i : Nat) (a1 : ByteArray), (List.map (r_T_impl_Commit true) l).set i [.list true 1 [], .sc (.string a1), .list true 3 []] = List.map (r_T_impl_Commit true) (l.set i (T_impl_Commit.mk [] a1 []))) ∧
  (∀ (l : List T_impl_Commit) (a1 : ByteArray), List.map (r_T_impl_Commit true) l ++ [[.list true 1 [], .sc (.string a1), .list true 3 []]] = List.map (r_T_impl_Commit true) (l ++ [(T_impl_Commit.mk [] a1 [])])) ∧
  (∀ l : List T_impl_Commit, borRows (List.map (r_T_impl_Commit true) l) = List.map (r_T_impl_Commit false) l) ∧
  (∀ l : List T_impl_Commit, aliveRows (List.map (r_T_impl_Commit true) l) = true) ∧
  (∀ l : List T_impl_Commit, borRows (List.map (r_T_impl_Commit false) l) = List.map (r_T_impl_Commit false) l) ∧
  (∀ l : List T_impl_Commit, aliveRows (List.map (r_T_impl_Commit false) l) = true) ∧
  (∀ l : List T_impl_Commit, noBorRows (List.map (r_T_impl_Commit true) l) = true) ∧
  (∀ x : T_impl_Commit, r_T_impl_Commit true x = [.list true 1 (List.map (rK .i64) x.Parents), .sc (.string x.Note), .list true 3 (List.map (r_T_impl_Name true) x.Names)]) ∧
  (∀ x : T_impl_Commit, r_T_impl_Commit false x = [.list false 1 (List.map (rK .i64) x.Parents), .sc (.string x.Note), .list false 3 (List.map (r_T_impl_Name false) x.Names)]) :=
  ⟨fun l i a0 a1 a2 => set_rows (r_T_impl_Commit true) l i (T_impl_Commit.mk a0 a1 a2),
  fun l a0 a1 a2 => app_rows (r_T_impl_Commit true) l [(T_impl_Commit.mk a0 a1 a2)],
  fun l i a0 a1 a2 => set_rows (r_T_impl_Commit false) l i (T_impl_Commit.mk a0 a1 a2),
  fun l a0 a1 a2 => app_rows (r_T_impl_Commit false) l [(T_impl_Commit.mk a0 a1 a2)],
  fun l i a1 a2 => set_rows (r_T_impl_Commit true) l i (T_impl_Commit.mk [] a1 a2),
  fun l a1 a2 => app_rows (r_T_impl_Commit true) l [(T_impl_Commit.mk [] a1 a2)],
  fun l i a0 a1 => set_rows (r_T_impl_Commit true) l i (T_impl_Commit.mk a0 a1 []),
  fun l a0 a1 => app_rows (r_T_impl_Commit true) l [(T_impl_Commit.mk a0 a1 [])],
  fun l i a1 => set_rows (r_T_impl_Commit true) l i (T_impl_Commit.mk [] a1 []),
  fun l a1 => app_rows (r_T_impl_Commit true) l [(T_impl_Commit.mk [] a1 [])],
  bor_rows (fun x => by simp only [r_T_impl_Commit, borRow, V.bor, (show ∀ l : List Int, borRows (List.map (rK .i64) l) = List.map (rK .i64) l from bor_rows (fun _ => rfl)), (show ∀ l : List T_impl_Name, borRows (List.map (r_T_impl_Name true) l) = List.map (r_T_impl_Name false) l from bor_rows (fun _ => rfl))]),
  alRows (fun _ => rfl),
  bor_rows (fun x => by simp only [r_T_impl_Commit, borRow, V.bor, (show ∀ l : List Int, borRows (List.map (rK .i64) l) = List.map (rK .i64) l from bor_rows (fun _ => rfl)), (show ∀ l : List T_impl_Name, borRows (List.map (r_T_impl_Name false) l) = List.map (r_T_impl_Name false) l from bor_rows (fun _ => rfl))]),
  alRows (fun _ => rfl),
  nb_rows (fun x => by simp only [r_T_impl_Commit, noBorRow, V.noBor, Bool.and_true, Bool.true_and, (show ∀ l : List Int, noBorRows (List.map (rK .i64) l) = true from nb_rows (fun _ => rfl)), (show ∀ l : List T_impl_Name, noBorRows (List.map (r_T_impl_Name true) l) = true from nb_rows (fun _ => rfl))]),
  fun _ => rfl,
  fun _ => rfl⟩
theorem R_Li64 : (∀ (l : List (List Int)) (i : Nat) (a0 : List Int), (List.map (rL true 1 (rK .i64)) l).set i [.list true 1 (List.map (rK .i64) a0)] = List.map (rL true 1 (rK .i64)) (l.set i a0)) ∧
  (∀ (l : List (List Int)) (a0 : List Int), List.map (rL true 1 (rK .i64)) l ++ [[.list true 1 (List.map (rK .i64) a0)]] = List.map (rL true 1 (rK .i64)) (l ++ [a0])) ∧
  (∀ (l : List (List Int)) (i : Nat) (a0 : List Int), (List.map (rL false 1 (rK .i64)) l).set i [.list false 1 (List.map (rK .i64) a0)] = List.map (rL false 1 (rK .i64)) (l.set i a0)) ∧
  (∀ (l : List (List Int)) (a0 : List Int), List.map (rL false 1 (rK .i64)) l ++ [[.list false 1 (List.map (rK .i64) a0)]] = List.map (rL false 1 (rK .i64)) (l ++ [a0])) ∧
  (∀ (l : List (List Int)) (i : Nat), (List.map (rL true 1 (rK .i64)) l).set i [.list true 1 []] = List.map (rL true 1 (rK .i64)) (l.set i [])) ∧
  (∀ (l : List (List Int)), List.map (rL true 1 (rK .i64)) l ++ [[.list true 1 []]] = List.map (rL true 1 (rK .i64)) (l ++ [[]])) ∧
  (∀ l : List (List Int), borRows (List.map (rL true 1 (rK .i64)) l) = List.map (rL false 1 (rK .i64)) l) ∧
  (∀ l : List (List Int), aliveRows (List.map (rL true 1 (rK .i64)) l) = true) ∧
  (∀ l : List (List Int), borRows (List.map (rL false 1 (rK .i64)) l) = List.map (rL false 1 (rK .i64)) l) ∧
  (∀ l : List (List Int), aliveRows (List.map (rL false 1 (rK .i64)) l) = true) ∧
  (∀ l : List (List Int), noBorRows (List.map (rL true 1 (rK .i64)) l) = true) :=
  ⟨fun l i a0 => set_rows (rL true 1 (rK .i64)) l i a0,
  fun l a0 => app_rows (rL true 1 (rK .i64)) l [a0],
  fun l i a0 => set_rows (rL false 1 (rK .i64)) l i a0,
  fun l a0 => app_rows (rL false 1 (rK .i64)) l [a0],
  fun l i => set_rows (rL true 1 (rK .i64)) l i [],
  fun l => app_rows (rL true 1 (rK .i64)) l [[]],
  bor_rows (bor_rL (fun _ => rfl)),
  alRows (fun _ => rfl),
  bor_rows (bor_rL (fun _ => rfl)),
  alRows (fun _ => rfl),
  nb_rows (nb_rL (fun _ => rfl))⟩
theorem R_b : (∀ (l : List Bool) (i : Nat) (a0 : Bool), (List.map rB l).set i [.sc (.bool a0)] = List.map rB (l.set i a0)) ∧
  (∀ (l : List Bool) (a0 : Bool), List.map rB l ++ [[.sc (.bool a0)]] = List.map rB (l ++ [a0])) ∧
  (∀ (l : List Bool) (b0 b1 : Bool), List.map rB l ++ [[.sc (.bool b0)], [.sc (.bool b1)]] = List.map rB (l ++ [b0, b1])) ∧
  (∀ (l : List Bool) (b0 b1 b2 : Bool), List.map rB l ++ [[.sc (.bool b0)], [.sc (.bool b1)], [.sc (.bool b2)]] = List.map rB (l ++ [b0, b1, b2])) ∧
  (∀ (l : List Bool) (b0 b1 b2 b3 : Bool), List.map rB l ++ [[.sc (.bool b0)], [.sc (.bool b1)], [.sc (.bool b2)], [.sc (.bool b3)]] = List.map rB (l ++ [b0, b1, b2, b3])) ∧
  (∀ n : Nat, List.replicate n [.sc (.bool false)] = List.map rB (List.replicate n false)) ∧
  (∀ l : List Bool, borRows (List.map rB l) = List.map rB l) ∧
  (∀ l : List Bool, aliveRows (List.map rB l) = true) ∧
  (∀ l : List Bool, noBorRows (List.map rB l) = true) :=
  ⟨fun l i a0 => set_rows rB l i a0,
  fun l a0 => app_rows rB l [a0],
  fun l b0 b1 => app_rows rB l [b0, b1],
  fun l b0 b1 b2 => app_rows rB l [b0, b1, b2],
  fun l b0 b1 b2 b3 => app_rows rB l [b0, b1, b2, b3],
  fun n => rep_rows rB false n,
  bor_rows (fun _ => rfl),
  alRows (fun _ => rfl),
  nb_rows (fun _ => rfl)⟩
theorem R_u64 : (∀ (l : List Int) (i : Nat) (a0 : Int), (List.map (rK .u64) l).set i [.sc (.int .u64 a0)] = List.map (rK .u64) (l.set i a0)) ∧
  (∀ (l : List Int) (a0 : Int), List.map (rK .u64) l ++ [[.sc (.int .u64 a0)]] = List.map (rK .u64) (l ++ [a0])) ∧
  (∀ (l : List Int) (b0 b1 : Int), List.map (rK .u64) l ++ [[.sc (.int .u64 b0)], [.sc (.int .u64 b1)]] = List.map (rK .u64) (l ++ [b0, b1])) ∧
  (∀ (l : List Int) (b0 b1 b2 : Int), List.map (rK .u64) l ++ [[.sc (.int .u64 b0)], [.sc (.int .u64 b1)], [.sc (.int .u64 b2)]] = List.map (rK .u64) (l ++ [b0, b1, b2])) ∧
  (∀ (l : List Int) (b0 b1 b2 b3 : Int), List.map (rK .u64) l ++ [[.sc (.int .u64 b0)], [.sc (.int .u64 b1)], [.sc (.int .u64 b2)], [.sc (.int .u64 b3)]] = List.map (rK .u64) (l ++ [b0, b1, b2, b3])) ∧
  (∀ n : Nat, List.replicate n [.sc (.int .u64 0)] = List.map (rK .u64) (List.replicate n 0)) ∧
  (∀ l : List Int, borRows (List.map (rK .u64) l) = List.map (rK .u64) l) ∧
  (∀ l : List Int, aliveRows (List.map (rK .u64) l) = true) ∧
  (∀ l : List Int, noBorRows (List.map (rK .u64) l) = true) :=
  ⟨fun l i a0 => set_rows (rK .u64) l i a0,
  fun l a0 => app_rows (rK .u64) l [a0],
  fun l b0 b1 => app_rows (rK .u64) l [b0, b1],
  fun l b0 b1 b2 => app_rows (rK .u64) l [b0, b1, b2],
  fun l b0 b1 b2 b3 => app_rows (rK .u64) l [b0, b1, b2, b3],
  fun n => rep_rows (rK .u64) 0 n,
  bor_rows (fun _ => rfl),
  alRows (fun _ => rfl),
  nb_rows (fun _ => rfl)⟩
end Go.TV
namespace Go.TV.F
noncomputable def laws_szIntS (a : List Int) (left : Int) : Option Int :=
  (if (decide ((wk .i64 (left - (a.length : Int))) < 0)) then some (-1)
  else some (wk .i64 (left - (a.length : Int))))
noncomputable def laws_szName (a : T_laws_Name) (left : Int) : Option Int :=
  (if (decide ((wk .i64 (left - (a.Path.size : Int))) < 0)) then some (-1)
  else some (wk .i64 (left - (a.Path.size : Int))))
noncomputable def laws_szNameS_j1 (left_1 : Int) : Option (Int) :=
  some left_1
noncomputable def laws_szNameS_l1 (a : List T_laws_Name) (left_2 : Int) (i : Int) : Option ((Int × Int) ⊕ ((Int) ⊕ (Int))) :=
  (if (decide (i < (a.length : Int))) then (geti a i).bind fun x => (laws_szName (T_laws_Name.mk x.Path x.Id x.Version) left_2).bind fun x23 => (if (decide (x23 < 0)) then some (.inr (.inl (-1)))
  else some (.inl (x23, (wk .i64 (i + 1)))))
  else some (.inr (.inr left_2)))
noncomputable def laws_szNameS (a : List T_laws_Name) (left : Int) : Option Int :=
  (if (decide ((wk .i64 (left - (a.length : Int))) < 0)) then some (-1)
  else (loopM (fun (s' : Int × Int) => laws_szNameS_l1 a s'.1 s'.2) ((wk .i64 (left - (a.length : Int))), 0)).bind fun p => (match p with | .inl c' => some c' | .inr q => laws_szNameS_j1 q))
noncomputable def laws_szCommit (a : T_laws_Commit) (left : Int) : Option Int :=
  (laws_szIntS a.Parents left).bind fun x8 => (if (decide (x8 < 0)) then some (-1)
  else (if (decide ((wk .i64 (x8 - (a.Note.size : Int))) < 0)) then some (-1)
  else (laws_szNameS a.Names (wk .i64 (x8 - (a.Note.size : Int)))).bind fun x21 => (if (decide (x21 < 0)) then some (-1)
  else some x21)))
noncomputable def laws_szCommitS_j1 (left_1 : Int) : Option (Int) :=
  some left_1
noncomputable def laws_szCommitS_l1 (a : List T_laws_Commit) (left_2 : Int) (i : Int) : Option ((Int × Int) ⊕ ((Int) ⊕ (Int))) :=
  (if (decide (i < (a.length : Int))) then (geti a i).bind fun x => (laws_szCommit (T_laws_Commit.mk x.Parents x.Note x.Names) left_2).bind fun x23 => (if (decide (x23 < 0)) then some (.inr (.inl (-1)))
  else some (.inl (x23, (wk .i64 (i + 1)))))
  else some (.inr (.inr left_2)))
noncomputable def laws_szCommitS (a : List T_laws_Commit) (left : Int) : Option Int :=
  (if (decide ((wk .i64 (left - (a.length : Int))) < 0)) then some (-1)
  else (loopM (fun (s' : Int × Int) => laws_szCommitS_l1 a s'.1 s'.2) ((wk .i64 (left - (a.length : Int))), 0)).bind fun p => (match p with | .inl c' => some c' | .inr q => laws_szCommitS_j1 q))
noncomputable def laws_toIntS_j1 (out_ : List Int) : Option ((List Int)) :=
  some out_
noncomputable def laws_toIntS_l1 (a : List Int) (i : Int) (out__1 : List Int) : Option ((Int × (List Int)) ⊕ ((List Int))) :=
  (if (decide (i < (a.length : Int))) then (geti a i).bind fun x => (geti out__1 i).bind fun x_1 => some (.inl ((wk .i64 (i + 1)), (out__1.set i.toNat x)))
  else some (.inr out__1))
noncomputable def laws_toIntS (a : List Int) : Option (List Int) :=
  ((mkl (a.length : Int) (a.length : Int) 0 : Option (List Int))).bind fun x7 => (loopM (fun (s' : Int × (List Int)) => laws_toIntS_l1 a s'.1 s'.2) (0, x7)).bind fun p => laws_toIntS_j1 p
noncomputable def laws_toName (a : T_laws_Name) : Option T_impl_Name :=
  some (T_impl_Name.mk a.Path a.Id a.Version)
noncomputable def laws_toNameS_j1 (out_ : List T_impl_Name) : Option ((List T_impl_Name)) :=
  some out_
noncomputable def laws_toNameS_l1 (a : List T_laws_Name) (i : Int) (out__1 : List T_impl_Name) : Option ((Int × (List T_impl_Name)) ⊕ ((List T_impl_Name))) :=
  (if (decide (i < (a.length : Int))) then (geti a i).bind fun x => (laws_toName (T_laws_Name.mk x.Path x.Id x.Version)).bind fun x20 => (geti out__1 i).bind fun x_1 => some (.inl ((wk .i64 (i + 1)), (out__1.set i.toNat (T_impl_Name.mk x20.Path x20.Id x20.Version))))
  else some (.inr out__1))
noncomputable def laws_toNameS (a : List T_laws_Name) : Option (List T_impl_Name) :=
  ((mkl (a.length : Int) (a.length : Int) (T_impl_Name.mk (ByteArray.mk #[]) 0 0) : Option (List T_impl_Name))).bind fun x7 => (loopM (fun (s' : Int × (List T_impl_Name)) => laws_toNameS_l1 a s'.1 s'.2) (0, x7)).bind fun p => laws_toNameS_j1 p
noncomputable def laws_toCommit (a : T_laws_Commit) : Option T_impl_Commit :=
  (laws_toIntS a.Parents).bind fun x6 => (laws_toNameS a.Names).bind fun x13 => some (T_impl_Commit.mk x6 a.Note x13)
noncomputable def laws_toCommitS_j1 (out_ : List T_impl_Commit) : Option ((List T_impl_Commit)) :=
  some out_
noncomputable def laws_toCommitS_l1 (a : List T_laws_Commit) (i : Int) (out__1 : List T_impl_Commit) : Option ((Int × (List T_impl_Commit)) ⊕ ((List T_impl_Commit))) :=
  (if (decide (i < (a.length : Int))) then (geti a i).bind fun x => (laws_toCommit (T_laws_Commit.mk x.Parents x.Note x.Names)).bind fun x20 => (geti out__1 i).bind fun x_1 => some (.inl ((wk .i64 (i + 1)), (out__1.set i.toNat (T_impl_Commit.mk x20.Parents x20.Note x20.Names))))
  else some (.inr out__1))
noncomputable def laws_toCommitS (a : List T_laws_Commit) : Option (List T_impl_Commit) :=
  ((mkl (a.length : Int) (a.length : Int) (T_impl_Commit.mk [] (ByteArray.mk #[]) []) : Option (List T_impl_Commit))).bind fun x7 => (loopM (fun (s' : Int × (List T_impl_Commit)) => laws_toCommitS_l1 a s'.1 s'.2) (0, x7)).bind fun p => laws_toCommitS_j1 p
noncomputable def spec_l14Graph_j1 (out_ : List (List Int)) : Option ((List (List Int))) :=
  some out_
noncomputable def spec_l14Graph_l1 (list_ : List T_impl_Commit) (i : Int) (out__1 : List (List Int)) : Option ((Int × (List (List Int))) ⊕ ((List (List Int)))) :=
  (if (decide (i < (list_.length : Int))) then (geti list_ i).bind fun x => (appn out__1 [x.Parents]).bind fun l => some (.inl ((wk .i64 (i + 1)), l))
  else some (.inr out__1))
noncomputable def spec_l14Graph (list_ : List T_impl_Commit) : Option (List (List Int)) :=
  (loopM (fun (s' : Int × (List (List Int))) => spec_l14Graph_l1 list_ s'.1 s'.2) (0, [])).bind fun p => spec_l14Graph_j1 p
noncomputable def spec_l01In (x : Int) (least : Int) (most : Int) : Option Bool :=
  (if (decide (x ≥ least)) then some (decide (x ≤ most)) else some false).bind fun b => some b
noncomputable def spec_l05Rise_j1 : Option (Bool) :=
  some true
noncomputable def spec_l05Rise_l1 (list_ : List Int) (n : Int) (i : Int) : Option ((Int) ⊕ ((Bool) ⊕ (Unit))) :=
  (if (decide (i < (list_.length : Int))) then (geti list_ i).bind fun x => (spec_l01In x 0 (wk .i64 (n - 1))).bind fun x18 => (if (!x18) then some true else (if (decide (i > 0)) then (geti list_ (wk .i64 (i - 1))).bind fun x_1 => some (decide (x_1 ≥ x)) else some false).bind fun b_1 => some b_1).bind fun b => (if b then some (.inr (.inl false))
  else some (.inl (wk .i64 (i + 1))))
  else some (.inr (.inr ())))
noncomputable def spec_l05Rise (list_ : List Int) (n : Int) : Option Bool :=
  (loopM (fun (s' : Int) => spec_l05Rise_l1 list_ n s') (0)).bind fun p => (match p with | .inl c' => some c' | .inr q => spec_l05Rise_j1)
noncomputable def spec_GraphOk_j1 : Option (Bool) :=
  some true
noncomputable def spec_GraphOk_l1 (parents : List (List Int)) (v : Int) : Option ((Int) ⊕ ((Bool) ⊕ (Unit))) :=
  (if (decide (v < (parents.length : Int))) then (geti parents v).bind fun x => (if (decide ((x.length : Int) > 4)) then some true else (spec_l05Rise x v).bind fun x25 => some (!x25)).bind fun b => (if b then some (.inr (.inl false))
  else some (.inl (wk .i64 (v + 1))))
  else some (.inr (.inr ())))
noncomputable def spec_GraphOk (parents : List (List Int)) : Option Bool :=
  (if (decide ((parents.length : Int) > 40)) then some false
  else (loopM (fun (s' : Int) => spec_GraphOk_l1 parents s') (0)).bind fun p => (match p with | .inl c' => some c' | .inr q => spec_GraphOk_j1))
noncomputable def spec_NoteOk_j1 (note : ByteArray) : Option (Bool) :=
  some (decide ((note.size : Int) ≤ 40))
noncomputable def spec_NoteOk_l1 (note : ByteArray) (i : Int) : Option ((Int) ⊕ ((Bool) ⊕ (Unit))) :=
  (if (decide (i < (note.size : Int))) then some (decide ((note.size : Int) ≤ 40)) else some false).bind fun b => (if b then (sidx note i).bind fun x17 => (if (decide (x17 < 32)) then some true else some (decide (x17 > 126))).bind fun b_1 => (if b_1 then some (.inr (.inl false))
  else some (.inl (wk .i64 (i + 1))))
  else some (.inr (.inr ())))
noncomputable def spec_NoteOk (note : ByteArray) : Option Bool :=
  (loopM (fun (s' : Int) => spec_NoteOk_l1 note s') (0)).bind fun p => (match p with | .inl c' => some c' | .inr q => spec_NoteOk_j1 note)
noncomputable def spec_PathOk_j1 : Option (Bool) :=
  some true
noncomputable def spec_PathOk_l1 (path : ByteArray) (i : Int) : Option ((Int) ⊕ ((Bool) ⊕ (Unit))) :=
  (if (decide (i < (path.size : Int))) then (sidx path i).bind fun x30 => (if (decide (x30 ≥ 97)) then some (decide (x30 ≤ 122)) else some false).bind fun b_2 => (if b_2 then some true else (if (decide (x30 ≥ 48)) then some (decide (x30 ≤ 57)) else some false).bind fun b_4 => some b_4).bind fun b_3 => (if b_3 then some true else some (x30 == 46)).bind fun b_5 => (if b_5 then some true else some (x30 == 45)).bind fun b_6 => (if b_6 then some true else some (x30 == 47)).bind fun b_7 => (if (!b_7) then some true else (if (decide (i > 0)) then some (x30 == 47) else some false).bind fun b_9 => (if b_9 then (sidx path (wk .i64 (i - 1))).bind fun x69 => some (x69 == 47) else some false).bind fun b_10 => some b_10).bind fun b_8 => (if b_8 then some (.inr (.inl false))
  else some (.inl (wk .i64 (i + 1))))
  else some (.inr (.inr ())))
noncomputable def spec_PathOk (path : ByteArray) : Option Bool :=
  (spec_l01In (path.size : Int) 1 24).bind fun x9 => (if (!x9) then some true else (sidx path 0).bind fun x13 => some (x13 == 47)).bind fun b => (if b then some true else (sidx path (wk .i64 ((path.size : Int) - 1))).bind fun x20 => some (x20 == 47)).bind fun b_1 => (if b_1 then some false
  else (loopM (fun (s' : Int) => spec_PathOk_l1 path s') (0)).bind fun p => (match p with | .inl c' => some c' | .inr q => spec_PathOk_j1))
noncomputable def spec_NamesOk_j1 : Option (Bool) :=
  some true
noncomputable def spec_NamesOk_j2 (i : Int) : Option ((Int) ⊕ ((Bool) ⊕ (Unit))) :=
  some (.inl (wk .i64 (i + 1)))
noncomputable def spec_NamesOk_l2 (list_ : List T_impl_Name) (i : Int) (x : T_impl_Name) (k : Int) : Option ((Int) ⊕ (((Int) ⊕ ((Bool) ⊕ (Unit))) ⊕ (Unit))) :=
  (if (decide (k < i)) then (geti list_ k).bind fun x_2 => (if (x_2.Id == x.Id) then some (.inr (.inl (.inr (.inl false))))
  else some (.inl (wk .i64 (k + 1))))
  else some (.inr (.inr ())))
noncomputable def spec_NamesOk_l1 (list_ : List T_impl_Name) (i : Int) : Option ((Int) ⊕ ((Bool) ⊕ (Unit))) :=
  (if (decide (i < (list_.length : Int))) then (geti list_ i).bind fun x => (spec_PathOk x.Path).bind fun x21 => (if (!x21) then some true else (if (decide (i > 0)) then (geti list_ (wk .i64 (i - 1))).bind fun x_1 => some (!Op.bytesLess x_1.Path.toList x.Path.toList) else some false).bind fun b_1 => some b_1).bind fun b => (if b then some true else (spec_l01In x.Id 0 11).bind fun x41 => some (!x41)).bind fun b_2 => (if b_2 then some true else (spec_l01In x.Version 0 39).bind fun x47 => some (!x47)).bind fun b_3 => (if b_3 then some (.inr (.inl false))
  else (loopM (fun (s' : Int) => spec_NamesOk_l2 list_ i x s') (0)).bind fun p_1 => (match p_1 with | .inl c' => some c' | .inr q => spec_NamesOk_j2 i))
  else some (.inr (.inr ())))
noncomputable def spec_NamesOk (list_ : List T_impl_Name) : Option Bool :=
  (if (decide ((list_.length : Int) > 12)) then some false
  else (loopM (fun (s' : Int) => spec_NamesOk_l1 list_ s') (0)).bind fun p => (match p with | .inl c' => some c' | .inr q_1 => spec_NamesOk_j1))
noncomputable def spec_CommitsOk_j2 : Option (Bool) :=
  some true
noncomputable def spec_CommitsOk_j3 (i : Int) : Option ((Int) ⊕ ((Bool) ⊕ (Unit))) :=
  some (.inl (wk .i64 (i + 1)))
noncomputable def spec_CommitsOk_l2 (list_ : List T_impl_Commit) (versions : List Int) (i : Int) (k : Int) : Option ((Int) ⊕ (((Int) ⊕ ((Bool) ⊕ (Unit))) ⊕ (Unit))) :=
  (geti list_ i).bind fun x_1 => (if (decide (k < (x_1.Names.length : Int))) then (geti x_1.Names k).bind fun x_2 => (if (decide (x_2.Id ≥ (versions.length : Int))) then some true else (geti versions x_2.Id).bind fun x_3 => some (decide (x_2.Version ≥ x_3))).bind fun b_3 => (if b_3 then some (.inr (.inl (.inr (.inl false))))
  else some (.inl (wk .i64 (k + 1))))
  else some (.inr (.inr ())))
noncomputable def spec_CommitsOk_l1 (list_ : List T_impl_Commit) (versions : List Int) (i : Int) : Option ((Int) ⊕ ((Bool) ⊕ (Unit))) :=
  (if (decide (i < (list_.length : Int))) then (geti list_ i).bind fun x => (spec_NoteOk x.Note).bind fun x46 => (if (!x46) then some true else (spec_NamesOk x.Names).bind fun x54 => some (!x54)).bind fun b_2 => (if b_2 then some (.inr (.inl false))
  else (loopM (fun (s' : Int) => spec_CommitsOk_l2 list_ versions i s') (0)).bind fun p_1 => (match p_1 with | .inl c' => some c' | .inr q => spec_CommitsOk_j3 i))
  else some (.inr (.inr ())))
noncomputable def spec_CommitsOk_j1 (list_ : List T_impl_Commit) (versions : List Int) : Option (Bool) :=
  (loopM (fun (s' : Int) => spec_CommitsOk_l1 list_ versions s') (0)).bind fun p => (match p with | .inl c' => some c' | .inr q_1 => spec_CommitsOk_j2)
noncomputable def spec_CommitsOk_l3 (versions : List Int) (i_1 : Int) : Option ((Int) ⊕ ((Bool) ⊕ (Unit))) :=
  (if (decide (i_1 < (versions.length : Int))) then (geti versions i_1).bind fun x_4 => (spec_l01In x_4 0 40).bind fun x33 => (if (!x33) then some (.inr (.inl false))
  else some (.inl (wk .i64 (i_1 + 1))))
  else some (.inr (.inr ())))
noncomputable def spec_CommitsOk (list_ : List T_impl_Commit) (versions : List Int) : Option Bool :=
  (if (decide ((list_.length : Int) > 40)) then some true else some (decide ((versions.length : Int) > 12))).bind fun b => (if b then some true else (spec_l14Graph list_).bind fun x19 => (spec_GraphOk x19).bind fun x20 => some (!x20)).bind fun b_1 => (if b_1 then some false
  else (loopM (fun (s' : Int) => spec_CommitsOk_l3 versions s') (0)).bind fun p_2 => (match p_2 with | .inl c' => some c' | .inr q_2 => spec_CommitsOk_j1 list_ versions))
noncomputable def spec_l05Set_j2 (in__1 : List Bool) : Option ((List Bool)) :=
  some in__1
noncomputable def spec_l05Set_j3 (v : Int) (in__3 : List Bool) : Option ((Int × (List Bool)) ⊕ ((List Bool))) :=
  some (.inl ((wk .i64 (v - 1)), in__3))
noncomputable def spec_l05Set_l2 (parents : List (List Int)) (v : Int) (k : Int) (in__4 : List Bool) : Option ((Int × (List Bool)) ⊕ ((List Bool))) :=
  (geti parents v).bind fun x => (if (decide (k < (x.length : Int))) then (geti in__4 v).bind fun x_1 => some x_1 else some false).bind fun b => (if b then (geti parents v).bind fun x_2 => (geti x_2 k).bind fun x_3 => (geti in__4 x_3).bind fun x_4 => some (.inl ((wk .i64 (k + 1)), (in__4.set x_3.toNat true)))
  else some (.inr in__4))
noncomputable def spec_l05Set_l1 (parents : List (List Int)) (v : Int) (in__2 : List Bool) : Option ((Int × (List Bool)) ⊕ ((List Bool))) :=
  (if (decide (v ≥ 0)) then (loopM (fun (s' : Int × (List Bool)) => spec_l05Set_l2 parents v s'.1 s'.2) (0, in__2)).bind fun p_1 => spec_l05Set_j3 v p_1
  else some (.inr in__2))
noncomputable def spec_l05Set_j1 (parents : List (List Int)) (in_ : List Bool) : Option ((List Bool)) :=
  (loopM (fun (s' : Int × (List Bool)) => spec_l05Set_l1 parents s'.1 s'.2) ((wk .i64 ((parents.length : Int) - 1)), in_)).bind fun p => spec_l05Set_j2 p
noncomputable def spec_l05Set_l3 (parents : List (List Int)) (list_ : List Int) (i : Int) (in__5 : List Bool) : Option ((Int × (List Bool)) ⊕ ((List Bool))) :=
  (if (decide (i < (list_.length : Int))) then (geti list_ i).bind fun x_5 => (spec_l01In x_5 0 (wk .i64 ((parents.length : Int) - 1))).bind fun x25 => (if x25 then (geti in__5 x_5).bind fun x_6 => some (.inl ((wk .i64 (i + 1)), (in__5.set x_5.toNat true)))
  else some (.inl ((wk .i64 (i + 1)), in__5)))
  else some (.inr in__5))
noncomputable def spec_l05Set (parents : List (List Int)) (list_ : List Int) : Option (List Bool) :=
  ((mkl (parents.length : Int) (parents.length : Int) false : Option (List Bool))).bind fun x11 => (loopM (fun (s' : Int × (List Bool)) => spec_l05Set_l3 parents list_ s'.1 s'.2) (0, x11)).bind fun p_2 => spec_l05Set_j1 parents p_2
noncomputable def spec_LogOf_j1 (out_ : List Int) : Option ((List Int)) :=
  some out_
noncomputable def spec_LogOf_l1 (x28 : (List Bool)) (v : Int) (out__1 : List Int) : Option ((Int × (List Int)) ⊕ ((List Int))) :=
  (if (decide (v ≥ 0)) then (geti x28 v).bind fun x => (if x then (appn out__1 [v]).bind fun l => some (.inl ((wk .i64 (v - 1)), l))
  else some (.inl ((wk .i64 (v - 1)), out__1)))
  else some (.inr out__1))
noncomputable def spec_LogOf (list_ : List T_impl_Commit) (versions : List Int) (c : Int) : Option (List Int) :=
  (spec_CommitsOk list_ versions).bind fun x13 => (if (!x13) then some true else (spec_l01In c 0 (wk .i64 ((list_.length : Int) - 1))).bind fun x20 => some (!x20)).bind fun b => (if b then some []
  else (spec_l14Graph list_).bind fun x25 => (spec_l05Set x25 [c]).bind fun x28 => (loopM (fun (s' : Int × (List Int)) => spec_LogOf_l1 x28 s'.1 s'.2) ((wk .i64 ((list_.length : Int) - 1)), [])).bind fun p => spec_LogOf_j1 p)
noncomputable def impl_inRange (n : Int) (least : Int) (most : Int) : Option Bool :=
  (if (decide (n ≥ least)) then some (decide (n ≤ most)) else some false).bind fun b => some b
noncomputable def impl_isPlace (n : Int) (size : Int) : Option Bool :=
  (impl_inRange n 0 (wk .i64 (size - 1))).bind fun x8 => some x8
noncomputable def impl_graphOf_j1 (out_ : List (List Int)) : Option ((List (List Int))) :=
  some out_
noncomputable def impl_graphOf_l1 (list_ : List T_impl_Commit) (x8 : Int) (out__1 : List (List Int)) : Option ((Int × (List (List Int))) ⊕ ((List (List Int)))) :=
  (if (decide (x8 < (list_.length : Int))) then (geti list_ x8).bind fun x => (appn out__1 [x.Parents]).bind fun l => some (.inl ((wk .i64 (x8 + 1)), l))
  else some (.inr out__1))
noncomputable def impl_graphOf (list_ : List T_impl_Commit) : Option (List (List Int)) :=
  (loopM (fun (s' : Int × (List (List Int))) => impl_graphOf_l1 list_ s'.1 s'.2) (0, [])).bind fun p => impl_graphOf_j1 p
noncomputable def impl_ascends_j1 : Option (Bool) :=
  some true
noncomputable def impl_ascends_l1 (list_ : List Int) (below : Int) (x9 : Int) : Option ((Int) ⊕ ((Bool) ⊕ (Unit))) :=
  (if (decide (x9 < (list_.length : Int))) then (geti list_ x9).bind fun x => (impl_inRange x 0 (wk .i64 (below - 1))).bind fun x17 => (if (!x17) then some true else (if (decide (x9 > 0)) then (geti list_ (wk .i64 (x9 - 1))).bind fun x_1 => some (decide (x ≤ x_1)) else some false).bind fun b_1 => some b_1).bind fun b => (if b then some (.inr (.inl false))
  else some (.inl (wk .i64 (x9 + 1))))
  else some (.inr (.inr ())))
noncomputable def impl_ascends (list_ : List Int) (below : Int) : Option Bool :=
  (loopM (fun (s' : Int) => impl_ascends_l1 list_ below s') (0)).bind fun p => (match p with | .inl c' => some c' | .inr q => impl_ascends_j1)
noncomputable def impl_GraphOk_j1 (parents : List (List Int)) : Option (Bool) :=
  some (decide ((parents.length : Int) ≤ 40))
noncomputable def impl_GraphOk_l1 (parents : List (List Int)) (x7 : Int) : Option ((Int) ⊕ ((Bool) ⊕ (Unit))) :=
  (if (decide (x7 < (parents.length : Int))) then (geti parents x7).bind fun x => (if (decide ((x.length : Int) > 4)) then some true else (impl_ascends x x7).bind fun x18 => some (!x18)).bind fun b => (if b then some (.inr (.inl false))
  else some (.inl (wk .i64 (x7 + 1))))
  else some (.inr (.inr ())))
noncomputable def impl_GraphOk (parents : List (List Int)) : Option Bool :=
  (loopM (fun (s' : Int) => impl_GraphOk_l1 parents s') (0)).bind fun p => (match p with | .inl c' => some c' | .inr q => impl_GraphOk_j1 parents)
noncomputable def impl_NoteOk_j1 (note : ByteArray) : Option (Bool) :=
  some (decide ((note.size : Int) ≤ 40))
noncomputable def impl_NoteOk_l1 (note : ByteArray) (i : Int) : Option ((Int) ⊕ ((Bool) ⊕ (Unit))) :=
  (if (decide (i < (note.size : Int))) then (sidx note i).bind fun x12 => (if (decide (x12 < 32)) then some true else some (decide (x12 > 126))).bind fun b => (if b then some (.inr (.inl false))
  else some (.inl (wk .i64 (i + 1))))
  else some (.inr (.inr ())))
noncomputable def impl_NoteOk (note : ByteArray) : Option Bool :=
  (loopM (fun (s' : Int) => impl_NoteOk_l1 note s') (0)).bind fun p => (match p with | .inl c' => some c' | .inr q => impl_NoteOk_j1 note)
noncomputable def internal_stringslite_HasPrefix (s : ByteArray) (prefix_ : ByteArray) : Option Bool :=
  (if (decide ((s.size : Int) ≥ (prefix_.size : Int))) then (subH s (prefix_.size : Int)).bind fun x14 => some (x14.toList == prefix_.toList) else some false).bind fun b => some b
noncomputable def strings_HasPrefix (s : ByteArray) (prefix_ : ByteArray) : Option Bool :=
  (internal_stringslite_HasPrefix s prefix_).bind fun x7 => some x7
noncomputable def internal_stringslite_HasSuffix (s : ByteArray) (suffix : ByteArray) : Option Bool :=
  (if (decide ((s.size : Int) ≥ (suffix.size : Int))) then (subL s (wk .i64 ((s.size : Int) - (suffix.size : Int)))).bind fun x17 => some (x17.toList == suffix.toList) else some false).bind fun b => some b
noncomputable def strings_HasSuffix (s : ByteArray) (suffix : ByteArray) : Option Bool :=
  (internal_stringslite_HasSuffix s suffix).bind fun x7 => some x7
noncomputable def strings_Contains (s : ByteArray) (x : ByteArray) : Option Bool :=
  if s.size < 4294967281 then some (Go.Lib.contains s.data.toList x.data.toList) else none
noncomputable def impl_PathOk_j1 (path : ByteArray) : Option (Bool) :=
  (impl_inRange (path.size : Int) 1 24).bind fun x43 => (if (!x43) then some false
  else (strings_HasPrefix path (ByteArray.mk #[47])).bind fun x46 => (if (!x46) then (strings_HasSuffix path (ByteArray.mk #[47])).bind fun x50 => some (!x50) else some false).bind fun b => (if b then (strings_Contains path (ByteArray.mk #[47, 47])).bind fun x55 => some (!x55) else some false).bind fun b_1 => some b_1)
noncomputable def impl_PathOk_l1 (path : ByteArray) (i : Int) : Option ((Int) ⊕ ((Bool) ⊕ (Unit))) :=
  (if (decide (i < (path.size : Int))) then (sidx path i).bind fun x13 => (if (decide (x13 ≥ 97)) then some (decide (x13 ≤ 122)) else some false).bind fun b_2 => (if b_2 then some true else (if (decide (x13 ≥ 48)) then some (decide (x13 ≤ 57)) else some false).bind fun b_4 => some b_4).bind fun b_3 => (if b_3 then some true else some (x13 == 46)).bind fun b_5 => (if b_5 then some true else some (x13 == 45)).bind fun b_6 => (if b_6 then some true else some (x13 == 47)).bind fun b_7 => (if (!b_7) then some (.inr (.inl false))
  else some (.inl (wk .i64 (i + 1))))
  else some (.inr (.inr ())))
noncomputable def impl_PathOk (path : ByteArray) : Option Bool :=
  (loopM (fun (s' : Int) => impl_PathOk_l1 path s') (0)).bind fun p => (match p with | .inl c' => some c' | .inr q => impl_PathOk_j1 path)
noncomputable def impl_idAt_c1 (n : T_impl_Name) (c : Int) : Option Bool :=
  some (n.Id == c)
noncomputable def slices_IndexFunc_impl_Name_impl_Name_j1 : Option (Int) :=
  some (-1)
noncomputable def slices_IndexFunc_impl_Name_impl_Name_l1 (s : List T_impl_Name) (f : T_impl_Name → Option Bool) (x8 : Int) : Option ((Int) ⊕ ((Int) ⊕ (Unit))) :=
  (if (decide (x8 < (s.length : Int))) then (geti s x8).bind fun x => (f (T_impl_Name.mk x.Path x.Id x.Version)).bind fun x16 => (if x16 then some (.inr (.inl x8))
  else some (.inl (wk .i64 (x8 + 1))))
  else some (.inr (.inr ())))
noncomputable def slices_IndexFunc_impl_Name_impl_Name (s : List T_impl_Name) (f : T_impl_Name → Option Bool) : Option Int :=
  (loopM (fun (s' : Int) => slices_IndexFunc_impl_Name_impl_Name_l1 s f s') (0)).bind fun p => (match p with | .inl c' => some c' | .inr q => slices_IndexFunc_impl_Name_impl_Name_j1)
noncomputable def impl_idAt (list_ : List T_impl_Name) (id : Int) : Option Int :=
  (slices_IndexFunc_impl_Name_impl_Name list_ (fun z0' => impl_idAt_c1 z0' id)).bind fun x7 => some x7
noncomputable def impl_NamesOk_j1 : Option (Bool) :=
  some true
noncomputable def impl_NamesOk_l1 (list_ : List T_impl_Name) (x10 : Int) : Option ((Int) ⊕ ((Bool) ⊕ (Unit))) :=
  (if (decide (x10 < (list_.length : Int))) then (geti list_ x10).bind fun x => (impl_PathOk x.Path).bind fun x17 => (if (!x17) then some true else (impl_inRange x.Id 0 11).bind fun x22 => some (!x22)).bind fun b => (if b then some true else (impl_inRange x.Version 0 39).bind fun x28 => some (!x28)).bind fun b_1 => (if b_1 then some (.inr (.inl false))
  else (if (decide (x10 > 0)) then (geti list_ (wk .i64 (x10 - 1))).bind fun x_1 => some (Op.bytesLess x.Path.toList x_1.Path.toList || x.Path.toList == x_1.Path.toList) else some false).bind fun b_2 => (if b_2 then some true else (impl_idAt list_ x.Id).bind fun x48 => some (x48 != x10)).bind fun b_3 => (if b_3 then some (.inr (.inl false))
  else some (.inl (wk .i64 (x10 + 1)))))
  else some (.inr (.inr ())))
noncomputable def impl_NamesOk (list_ : List T_impl_Name) : Option Bool :=
  (if (decide ((list_.length : Int) > 12)) then some false
  else (loopM (fun (s' : Int) => impl_NamesOk_l1 list_ s') (0)).bind fun p => (match p with | .inl c' => some c' | .inr q => impl_NamesOk_j1))
noncomputable def impl_CommitsOk_j2 : Option (Bool) :=
  some true
noncomputable def impl_CommitsOk_j3 (x37 : Int) : Option ((Int) ⊕ ((Bool) ⊕ (Unit))) :=
  some (.inl (wk .i64 (x37 + 1)))
noncomputable def impl_CommitsOk_l2 (versions : List Int) (x : T_impl_Commit) (x54 : Int) : Option ((Int) ⊕ (((Int) ⊕ ((Bool) ⊕ (Unit))) ⊕ (Unit))) :=
  (if (decide (x54 < (x.Names.length : Int))) then (geti x.Names x54).bind fun x_1 => (if (decide (x_1.Id ≥ (versions.length : Int))) then some true else (geti versions x_1.Id).bind fun x_2 => some (decide (x_1.Version ≥ x_2))).bind fun b_3 => (if b_3 then some (.inr (.inl (.inr (.inl false))))
  else some (.inl (wk .i64 (x54 + 1))))
  else some (.inr (.inr ())))
noncomputable def impl_CommitsOk_l1 (list_ : List T_impl_Commit) (versions : List Int) (x37 : Int) : Option ((Int) ⊕ ((Bool) ⊕ (Unit))) :=
  (if (decide (x37 < (list_.length : Int))) then (geti list_ x37).bind fun x => (impl_NoteOk x.Note).bind fun x43 => (if (!x43) then some true else (impl_NamesOk x.Names).bind fun x48 => some (!x48)).bind fun b_2 => (if b_2 then some (.inr (.inl false))
  else (loopM (fun (s' : Int) => impl_CommitsOk_l2 versions x s') (0)).bind fun p_1 => (match p_1 with | .inl c' => some c' | .inr q => impl_CommitsOk_j3 x37))
  else some (.inr (.inr ())))
noncomputable def impl_CommitsOk_j1 (list_ : List T_impl_Commit) (versions : List Int) : Option (Bool) :=
  (loopM (fun (s' : Int) => impl_CommitsOk_l1 list_ versions s') (0)).bind fun p => (match p with | .inl c' => some c' | .inr q_1 => impl_CommitsOk_j2)
noncomputable def impl_CommitsOk_l3 (versions : List Int) (x27 : Int) : Option ((Int) ⊕ ((Bool) ⊕ (Unit))) :=
  (if (decide (x27 < (versions.length : Int))) then (geti versions x27).bind fun x_3 => (impl_inRange x_3 0 40).bind fun x32 => (if (!x32) then some (.inr (.inl false))
  else some (.inl (wk .i64 (x27 + 1))))
  else some (.inr (.inr ())))
noncomputable def impl_CommitsOk (list_ : List T_impl_Commit) (versions : List Int) : Option Bool :=
  (if (decide ((list_.length : Int) > 40)) then some true else (impl_graphOf list_).bind fun x16 => (impl_GraphOk x16).bind fun x17 => some (!x17)).bind fun b => (if b then some true else some (decide ((versions.length : Int) > 12))).bind fun b_1 => (if b_1 then some false
  else (loopM (fun (s' : Int) => impl_CommitsOk_l3 versions s') (0)).bind fun p_2 => (match p_2 with | .inl c' => some c' | .inr q_2 => impl_CommitsOk_j1 list_ versions))
noncomputable def impl_unionOf_j1 (s : Int) : Option (Int) :=
  some s
noncomputable def impl_unionOf_l1 (closed : List Int) (list_ : List Int) (s_1 : Int) (x10 : Int) : Option ((Int × Int) ⊕ (Int)) :=
  (if (decide (x10 < (list_.length : Int))) then (geti list_ x10).bind fun x => (geti closed x).bind fun x_1 => some (.inl ((bits .or .u64 s_1 x_1), (wk .i64 (x10 + 1))))
  else some (.inr s_1))
noncomputable def impl_unionOf (closed : List Int) (list_ : List Int) : Option Int :=
  (loopM (fun (s' : Int × Int) => impl_unionOf_l1 closed list_ s'.1 s'.2) (0, 0)).bind fun p => impl_unionOf_j1 p
noncomputable def impl_closures_j1 (out_ : List Int) : Option ((List Int)) :=
  some out_
noncomputable def impl_closures_l1 (parents : List (List Int)) (x11 : Int) (out__1 : List Int) : Option ((Int × (List Int)) ⊕ ((List Int))) :=
  (if (decide (x11 < (parents.length : Int))) then (geti parents x11).bind fun x => (impl_unionOf out__1 x).bind fun x20 => (chk (¬ (wk .u64 x11) < 0)).bind fun u => (geti out__1 x11).bind fun x_1 => some (.inl ((wk .i64 (x11 + 1)), (out__1.set x11.toNat (bits .or .u64 x20 (shlI .u64 1 (wk .u64 x11))))))
  else some (.inr out__1))
noncomputable def impl_closures (parents : List (List Int)) : Option (List Int) :=
  ((mkl (parents.length : Int) (parents.length : Int) 0 : Option (List Int))).bind fun x8 => (loopM (fun (s' : Int × (List Int)) => impl_closures_l1 parents s'.1 s'.2) (0, x8)).bind fun p => impl_closures_j1 p
noncomputable def impl_set_has (s : Int) (v : Int) : Option Bool :=
  (impl_inRange v 0 63).bind fun x6 => (if x6 then (chk (¬ (wk .u64 v) < 0)).bind fun u => some ((bits .and .u64 (shrI .u64 s (wk .u64 v)) 1) == 1) else some false).bind fun b => some b
noncomputable def impl_set_list_j1 (out_ : List Int) : Option ((List Int)) :=
  some out_
noncomputable def impl_set_list_l1 (s : Int) (x5 : Int) (out__1 : List Int) : Option ((Int × (List Int)) ⊕ ((List Int))) :=
  (if (decide (x5 < 64)) then (impl_set_has s x5).bind fun x10 => (if x10 then (appn out__1 [x5]).bind fun l => some (.inl ((wk .i64 (x5 + 1)), l))
  else some (.inl ((wk .i64 (x5 + 1)), out__1)))
  else some (.inr out__1))
noncomputable def impl_set_list (s : Int) : Option (List Int) :=
  (loopM (fun (s' : Int × (List Int)) => impl_set_list_l1 s s'.1 s'.2) (0, [])).bind fun p => impl_set_list_j1 p
noncomputable def slices_Reverse_int_int_l1 (i : Int) (j : Int) (s_1 : List Int) : Option ((Int × Int × (List Int)) ⊕ ((List Int))) :=
  (if (decide (i < j)) then (geti s_1 j).bind fun x => (geti s_1 i).bind fun x_1 => (geti (s_1.set i.toNat x) j).bind fun x_2 => some (.inl ((wk .i64 (i + 1)), (wk .i64 (j - 1)), ((s_1.set i.toNat x).set j.toNat x_1)))
  else some (.inr s_1))
noncomputable def slices_Reverse_int_int (s : List Int) : Option (List Int) :=
  (loopM (fun (s' : Int × Int × (List Int)) => slices_Reverse_int_int_l1 s'.1 s'.2.1 s'.2.2) (0, (wk .i64 ((s.length : Int) - 1)), s)).bind fun p => some p
noncomputable def impl_LogOf (list_ : List T_impl_Commit) (versions : List Int) (c : Int) : Option (List Int) :=
  (impl_isPlace c (list_.length : Int)).bind fun x11 => (if (!x11) then some true else (impl_CommitsOk list_ versions).bind fun x16 => some (!x16)).bind fun b => (if b then some []
  else (impl_graphOf list_).bind fun x20 => (impl_closures x20).bind fun x21 => (geti x21 c).bind fun x => (impl_set_list x).bind fun x25 => (slices_Reverse_int_int x25).bind fun x27 => some x27)
noncomputable def laws_eqIntS_j1 : Option (Bool) :=
  some true
noncomputable def laws_eqIntS_l1 (a : List Int) (b : List Int) (i : Int) : Option ((Int) ⊕ ((Bool) ⊕ (Unit))) :=
  (if (decide (i < (a.length : Int))) then (geti a i).bind fun x => (geti b i).bind fun x_1 => (if (x != x_1) then some (.inr (.inl false))
  else some (.inl (wk .i64 (i + 1))))
  else some (.inr (.inr ())))
noncomputable def laws_eqIntS (a : List Int) (b : List Int) : Option Bool :=
  (if ((a.length : Int) != (b.length : Int)) then some false
  else (loopM (fun (s' : Int) => laws_eqIntS_l1 a b s') (0)).bind fun p => (match p with | .inl c' => some c' | .inr q => laws_eqIntS_j1))
noncomputable def laws_eqName (a : T_impl_Name) (b : T_impl_Name) : Option Bool :=
  (if (!(a.Path.toList == b.Path.toList)) then some false
  else (if (a.Id != b.Id) then some false
  else (if (a.Version != b.Version) then some false
  else some true)))
noncomputable def laws_eqNameS_j1 : Option (Bool) :=
  some true
noncomputable def laws_eqNameS_l1 (a : List T_impl_Name) (b : List T_impl_Name) (i : Int) : Option ((Int) ⊕ ((Bool) ⊕ (Unit))) :=
  (if (decide (i < (a.length : Int))) then (geti a i).bind fun x => (geti b i).bind fun x_1 => (laws_eqName (T_impl_Name.mk x.Path x.Id x.Version) (T_impl_Name.mk x_1.Path x_1.Id x_1.Version)).bind fun x25 => (if (!x25) then some (.inr (.inl false))
  else some (.inl (wk .i64 (i + 1))))
  else some (.inr (.inr ())))
noncomputable def laws_eqNameS (a : List T_impl_Name) (b : List T_impl_Name) : Option Bool :=
  (if ((a.length : Int) != (b.length : Int)) then some false
  else (loopM (fun (s' : Int) => laws_eqNameS_l1 a b s') (0)).bind fun p => (match p with | .inl c' => some c' | .inr q => laws_eqNameS_j1))
noncomputable def laws_eqCommit (a : T_impl_Commit) (b : T_impl_Commit) : Option Bool :=
  (laws_eqIntS a.Parents b.Parents).bind fun x9 => (if (!x9) then some false
  else (if (!(a.Note.toList == b.Note.toList)) then some false
  else (laws_eqNameS a.Names b.Names).bind fun x20 => (if (!x20) then some false
  else some true)))
noncomputable def laws_eqCommitS_j1 : Option (Bool) :=
  some true
noncomputable def laws_eqCommitS_l1 (a : List T_impl_Commit) (b : List T_impl_Commit) (i : Int) : Option ((Int) ⊕ ((Bool) ⊕ (Unit))) :=
  (if (decide (i < (a.length : Int))) then (geti a i).bind fun x => (geti b i).bind fun x_1 => (laws_eqCommit (T_impl_Commit.mk x.Parents x.Note x.Names) (T_impl_Commit.mk x_1.Parents x_1.Note x_1.Names)).bind fun x25 => (if (!x25) then some (.inr (.inl false))
  else some (.inl (wk .i64 (i + 1))))
  else some (.inr (.inr ())))
noncomputable def laws_eqCommitS (a : List T_impl_Commit) (b : List T_impl_Commit) : Option Bool :=
  (if ((a.length : Int) != (b.length : Int)) then some false
  else (loopM (fun (s' : Int) => laws_eqCommitS_l1 a b s') (0)).bind fun p => (match p with | .inl c' => some c' | .inr q => laws_eqCommitS_j1))
noncomputable def laws_markIntS_j1 (k_1 : Int) (a_1 : List Int) : Option (Int × (List Int)) :=
  some (k_1, a_1)
noncomputable def laws_markIntS_l1 (k_2 : Int) (i : Int) (a_2 : List Int) : Option ((Int × Int × (List Int)) ⊕ (Int × (List Int))) :=
  (if (decide (i < (a_2.length : Int))) then (geti a_2 i).bind fun x => some (.inl ((wk .i64 (k_2 + 1)), (wk .i64 (i + 1)), (a_2.set i.toNat k_2)))
  else some (.inr (k_2, a_2)))
noncomputable def laws_markIntS (a : List Int) (k : Int) : Option (Int × (List Int)) :=
  (loopM (fun (s' : Int × Int × (List Int)) => laws_markIntS_l1 s'.1 s'.2.1 s'.2.2) (k, 0, a)).bind fun p => laws_markIntS_j1 p.1 p.2
noncomputable def laws_markText_j1 (out_ : ByteArray) : Option (ByteArray) :=
  (sapp (ByteArray.mk #[109]) out_).bind fun t => some t
noncomputable def laws_markText_l1 (k_1 : Int) (out__1 : ByteArray) : Option ((Int × ByteArray) ⊕ (ByteArray)) :=
  (if (decide (k_1 > 0)) then (sapp (mkS [(wk .u8 (wk .i64 (48 + (k_1.tmod 10))))]) out__1).bind fun t_1 => some (.inl ((wk .i64 (k_1.tdiv 10)), t_1))
  else some (.inr out__1))
noncomputable def laws_markText (k : Int) : Option ByteArray :=
  (if (decide (k ≤ 0)) then some (ByteArray.mk #[109, 48])
  else (loopM (fun (s' : Int × ByteArray) => laws_markText_l1 s'.1 s'.2) (k, (ByteArray.mk #[]))).bind fun p => laws_markText_j1 p)
noncomputable def laws_markNameS_j1 (k_1 : Int) (a_1 : List T_impl_Name) : Option (Int × (List T_impl_Name)) :=
  some (k_1, a_1)
noncomputable def laws_markNameS_l1 (k_2 : Int) (i : Int) (a_2 : List T_impl_Name) : Option ((Int × Int × (List T_impl_Name)) ⊕ (Int × (List T_impl_Name))) :=
  (if (decide (i < (a_2.length : Int))) then (laws_markText k_2).bind fun x15 => (geti a_2 i).bind fun x => (geti (a_2.set i.toNat (T_impl_Name.mk x15 x.Id x.Version)) i).bind fun x_1 => (geti (a_2.set i.toNat (T_impl_Name.mk x_1.Path (wk .i64 (k_2 + 1)) x_1.Version)) i).bind fun x_2 => some (.inl ((wk .i64 ((wk .i64 ((wk .i64 (k_2 + 1)) + 1)) + 1)), (wk .i64 (i + 1)), (a_2.set i.toNat (T_impl_Name.mk x_2.Path x_2.Id (wk .i64 ((wk .i64 (k_2 + 1)) + 1))))))
  else some (.inr (k_2, a_2)))
noncomputable def laws_markNameS (a : List T_impl_Name) (k : Int) : Option (Int × (List T_impl_Name)) :=
  (loopM (fun (s' : Int × Int × (List T_impl_Name)) => laws_markNameS_l1 s'.1 s'.2.1 s'.2.2) (k, 0, a)).bind fun p => laws_markNameS_j1 p.1 p.2
noncomputable def laws_markCommitS_j1 (k_1 : Int) (a_1 : List T_impl_Commit) : Option (Int × (List T_impl_Commit)) :=
  some (k_1, a_1)
noncomputable def laws_markCommitS_l1 (k_2 : Int) (i : Int) (a_2 : List T_impl_Commit) : Option ((Int × Int × (List T_impl_Commit)) ⊕ (Int × (List T_impl_Commit))) :=
  (if (decide (i < (a_2.length : Int))) then (geti a_2 i).bind fun x => (laws_markIntS x.Parents k_2).bind fun x18 => (laws_markText x18.1).bind fun x22 => (geti (a_2.set i.toNat (T_impl_Commit.mk x18.2 x.Note x.Names)) i).bind fun x_1 => (geti (a_2.set i.toNat (T_impl_Commit.mk x_1.Parents x22 x_1.Names)) i).bind fun x_2 => (laws_markNameS x_2.Names (wk .i64 (x18.1 + 1))).bind fun x33 => some (.inl (x33.1, (wk .i64 (i + 1)), (a_2.set i.toNat (T_impl_Commit.mk x_2.Parents x_2.Note x33.2))))
  else some (.inr (k_2, a_2)))
noncomputable def laws_markCommitS (a : List T_impl_Commit) (k : Int) : Option (Int × (List T_impl_Commit)) :=
  (loopM (fun (s' : Int × Int × (List T_impl_Commit)) => laws_markCommitS_l1 s'.1 s'.2.1 s'.2.2) (k, 0, a)).bind fun p => laws_markCommitS_j1 p.1 p.2
noncomputable def laws_heldIntS_j1 (k_1 : Int) : Option (Int) :=
  some k_1
noncomputable def laws_heldIntS_l1 (a : List Int) (k_2 : Int) (i : Int) : Option ((Int × Int) ⊕ ((Int) ⊕ (Int))) :=
  (if (decide (i < (a.length : Int))) then (geti a i).bind fun x => (if (x != k_2) then some (.inr (.inl (-1)))
  else some (.inl ((wk .i64 (k_2 + 1)), (wk .i64 (i + 1)))))
  else some (.inr (.inr k_2)))
noncomputable def laws_heldIntS (a : List Int) (k : Int) : Option Int :=
  (loopM (fun (s' : Int × Int) => laws_heldIntS_l1 a s'.1 s'.2) (k, 0)).bind fun p => (match p with | .inl c' => some c' | .inr q => laws_heldIntS_j1 q)
noncomputable def laws_FnExactLogOf (aList : List T_laws_Commit) (aVersions : List Int) (aC : Int) : Option Bool :=
  (if (decide ((aVersions.length : Int) > 1048576)) then some true
  else (laws_szCommitS aList 1048576).bind fun x21 => (if (decide (x21 < 0)) then some true
  else (laws_toCommitS aList).bind fun x25 => (laws_toIntS aVersions).bind fun x27 => (spec_LogOf x25 x27 aC).bind fun x29 => (laws_toCommitS aList).bind fun x31 => (laws_toIntS aVersions).bind fun x33 => (impl_LogOf x31 x33 aC).bind fun x37 => (laws_eqIntS x37 x29).bind fun x40 => (if (!x40) then some false
  else (laws_toCommitS aList).bind fun x44 => (laws_eqCommitS x31 x44).bind fun x45 => (if (!x45) then some false
  else (laws_toIntS aVersions).bind fun x49 => (laws_eqIntS x33 x49).bind fun x50 => (if (!x50) then some false
  else (laws_markCommitS x31 1).bind fun x54 => (laws_markIntS x33 x54.1).bind fun x57 => (if (decide (x57.1 < 0)) then some true else (laws_eqIntS x37 x29).bind fun x63 => some (!x63)).bind fun b => (if b then some false
  else (laws_markIntS x37 1).bind fun x68 => (laws_heldIntS x68.2 1).bind fun x71 => (if (decide (x71 < 0)) then some false
  else (if (x71 != x68.1) then some false
  else (laws_toCommitS aList).bind fun x78 => (laws_toIntS aVersions).bind fun x80 => (impl_LogOf x78 x80 aC).bind fun x82 => (laws_eqIntS x82 x29).bind fun x85 => (if (!x85) then some false
  else (laws_heldIntS x68.2 1).bind fun x89 => (if (decide (x89 < 0)) then some false
  else (if (x89 != x68.1) then some false
  else some true)))))))))))
end Go.TV.F
