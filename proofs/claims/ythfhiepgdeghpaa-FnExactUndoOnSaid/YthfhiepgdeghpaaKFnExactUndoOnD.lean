/- Structures and their rows. -/
import Derived.Test.YthfhiepgdeghpaaKFnExactUndoOnT5
set_option linter.unusedVariables false
set_option linter.unusedSimpArgs false
set_option maxHeartbeats 8000000
set_option maxRecDepth 100000
namespace Go.TV
structure T_laws_Body where
  Line : ByteArray
  Ins : Int
  Ord : Int
  Dels : List Int
  deriving Inhabited
structure T_laws_Weave where
  Parents : List (List Int)
  Bodies : List T_laws_Body
  deriving Inhabited
structure T_impl_Body where
  Line : ByteArray
  Ins : Int
  Ord : Int
  Dels : List Int
  deriving Inhabited
structure T_impl_Weave where
  Parents : List (List Int)
  Bodies : List T_impl_Body
  deriving Inhabited
theorem R_i64 : (∀ (l : List Int) (i : Nat) (a0 : Int), (List.map (rK .i64) l).set i [.sc (.int .i64 a0)] = List.map (rK .i64) (l.set i a0)) ∧
  (∀ (l : List Int) (a0 : Int), List.map (rK .i64) l ++ [[.sc (.int .i64 a0)]] = List.map (rK .i64) (l ++ [a0])) ∧
  (∀ (l : List Int) (b0 b1 : Int), List.map (rK .i64) l ++ [[.sc (.int .i64 b0)], [.sc (.int .i64 b1)]] = List.map (rK .i64) (l ++ [b0, b1])) ∧
  (∀ (l : List Int) (b0 b1 b2 : Int), List.map (rK .i64) l ++ [[.sc (.int .i64 b0)], [.sc (.int .i64 b1)], [.sc (.int .i64 b2)]] = List.map (rK .i64) (l ++ [b0, b1, b2])) ∧
  (∀ (l : List Int) (b0 b1 b2 b3 : Int), List.map (rK .i64) l ++ [[.sc (.int .i64 b0)], [.sc (.int .i64 b1)], [.sc (.int .i64 b2)], [.sc (.int .i64 b3)]] = List.map (rK .i64) (l ++ [b0, b1, b2, b3])) ∧
  (∀ n : Nat, List.replicate n [.sc (.int .i64 0)] = List.map (rK .i64) (List.replicate n 0)) ∧
  (∀ l : List Int, borRows (List.map (rK .i64) l) = List.map (rK .i64) l) ∧
  (∀ l : List Int, aliveRows (List.map (rK .i64) l) = true) ∧
  (∀ l : List Int, noBorRows (List.map (rK .i64) l) = true) :=
  ⟨fun l i a0 => set_rows (rK .i64) l i a0,
  fun l a0 => app_rows (rK .i64) l [a0],
  fun l b0 b1 => app_rows (rK .i64) l [b0, b1],
  fun l b0 b1 b2 => app_rows (rK .i64) l [b0, b1, b2],
  fun l b0 b1 b2 b3 => app_rows (rK .i64) l [b0, b1, b2, b3],
  fun n => rep_rows (rK .i64) 0 n,
  bor_rows (fun _ => rfl),
  alRows (fun _ => rfl),
  nb_rows (fun _ => rfl)⟩
theorem R_Li64 : (∀ (l : List (List Int)) (i : Nat) (a0 : List Int), (List.map (rL true 1 (rK .i64)) l).set i [.list true 1 (List.map (rK .i64) a0)] = List.map (rL true 1 (rK .i64)) (l.set i a0)) ∧
  (∀ (l : List (List Int)) (a0 : List Int), List.map (rL true 1 (rK .i64)) l ++ [[.list true 1 (List.map (rK .i64) a0)]] = List.map (rL true 1 (rK .i64)) (l ++ [a0])) ∧
  (∀ (l : List (List Int)) (i : Nat) (a0 : List Int), (List.map (rL false 1 (rK .i64)) l).set i [.list false 1 (List.map (rK .i64) a0)] = List.map (rL false 1 (rK .i64)) (l.set i a0)) ∧
  (∀ (l : List (List Int)) (a0 : List Int), List.map (rL false 1 (rK .i64)) l ++ [[.list false 1 (List.map (rK .i64) a0)]] = List.map (rL false 1 (rK .i64)) (l ++ [a0])) ∧
  (∀ n : Nat, List.replicate n [.list true 1 []] = List.map (rL true 1 (rK .i64)) (List.replicate n [])) ∧
  (∀ l : List (List Int), borRows (List.map (rL true 1 (rK .i64)) l) = List.map (rL false 1 (rK .i64)) l) ∧
  (∀ l : List (List Int), aliveRows (List.map (rL true 1 (rK .i64)) l) = true) ∧
  (∀ l : List (List Int), borRows (List.map (rL false 1 (rK .i64)) l) = List.map (rL false 1 (rK .i64)) l) ∧
  (∀ l : List (List Int), aliveRows (List.map (rL false 1 (rK .i64)) l) = true) ∧
  (∀ l : List (List Int), noBorRows (List.map (rL true 1 (rK .i64)) l) = true) :=
  ⟨fun l i a0 => set_rows (rL true 1 (rK .i64)) l i a0,
  fun l a0 => app_rows (rL true 1 (rK .i64)) l [a0],
  fun l i a0 => set_rows (rL false 1 (rK .i64)) l i a0,
  fun l a0 => app_rows (rL false 1 (rK .i64)) l [a0],
  fun n => rep_rows (rL true 1 (rK .i64)) [] n,
  bor_rows (bor_rL (fun _ => rfl)),
  alRows (fun _ => rfl),
  bor_rows (bor_rL (fun _ => rfl)),
  alRows (fun _ => rfl),
  nb_rows (nb_rL (fun _ => rfl))⟩
def r_T_laws_Body (o : Bool) (x : T_laws_Body) : List V := [.sc (.string x.Line), .sc (.int .i64 x.Ins), .sc (.int .i64 x.Ord), .list o 1 (List.map (rK .i64) x.Dels)]
theorem R_T_laws_Body : (∀ (l : List T_laws_Body) (i : Nat) (a0 : ByteArray) (a1 : Int) (a2 : Int) (a3 : List Int), (List.map (r_T_laws_Body true) l).set i [.sc (.string a0), .sc (.int .i64 a1), .sc (.int .i64 a2), .list true 1 (List.map (rK .i64) a3)] = List.map (r_T_laws_Body true) (l.set i (T_laws_Body.mk a0 a1 a2 a3))) ∧
  (∀ (l : List T_laws_Body) (a0 : ByteArray) (a1 : Int) (a2 : Int) (a3 : List Int), List.map (r_T_laws_Body true) l ++ [[.sc (.string a0), .sc (.int .i64 a1), .sc (.int .i64 a2), .list true 1 (List.map (rK .i64) a3)]] = List.map (r_T_laws_Body true) (l ++ [(T_laws_Body.mk a0 a1 a2 a3)])) ∧
  (∀ (l : List T_laws_Body) (i : Nat) (a0 : ByteArray) (a1 : Int) (a2 : Int) (a3 : List Int), (List.map (r_T_laws_Body false) l).set i [.sc (.string a0), .sc (.int .i64 a1), .sc (.int .i64 a2), .list false 1 (List.map (rK .i64) a3)] = List.map (r_T_laws_Body false) (l.set i (T_laws_Body.mk a0 a1 a2 a3))) ∧
  (∀ (l : List T_laws_Body) (a0 : ByteArray) (a1 : Int) (a2 : Int) (a3 : List Int), List.map (r_T_laws_Body false) l ++ [[.sc (.string a0), .sc (.int .i64 a1), .sc (.int .i64 a2), .list false 1 (List.map (rK .i64) a3)]] = List.map (r_T_laws_Body false) (l ++ [(T_laws_Body.mk a0 a1 a2 a3)])) ∧
  (∀ n : Nat, List.replicate n [.sc (.string (ByteArray.mk #[])), .sc (.int .i64 0), .sc (.int .i64 0), .list true 1 []] = List.map (r_T_laws_Body true) (List.replicate n (T_laws_Body.mk (ByteArray.mk #[]) 0 0 []))) ∧
  (∀ l : List T_laws_Body, borRows (List.map (r_T_laws_Body true) l) = List.map (r_T_laws_Body false) l) ∧
  (∀ l : List T_laws_Body, aliveRows (List.map (r_T_laws_Body true) l) = true) ∧
  (∀ l : List T_laws_Body, borRows (List.map (r_T_laws_Body false) l) = List.map (r_T_laws_Body false) l) ∧
  (∀ l : List T_laws_Body, aliveRows (List.map (r_T_laws_Body false) l) = true) ∧
  (∀ l : List T_laws_Body, noBorRows (List.map (r_T_laws_Body true) l) = true) ∧
  (∀ x : T_laws_Body, r_T_laws_Body true x = [.sc (.string x.Line), .sc (.int .i64 x.Ins), .sc (.int .i64 x.Ord), .list true 1 (List.map (rK .i64) x.Dels)]) ∧
  (∀ x : T_laws_Body, r_T_laws_Body false x = [.sc (.string x.Line), .sc (.int .i64 x.Ins), .sc (.int .i64 x.Ord), .list false 1 (List.map (rK .i64) x.Dels)]) :=
  ⟨fun l i a0 a1 a2 a3 => set_rows (r_T_laws_Body true) l i (T_laws_Body.mk a0 a1 a2 a3),
  fun l a0 a1 a2 a3 => app_rows (r_T_laws_Body true) l [(T_laws_Body.mk a0 a1 a2 a3)],
  fun l i a0 a1 a2 a3 => set_rows (r_T_laws_Body false) l i (T_laws_Body.mk a0 a1 a2 a3),
  fun l a0 a1 a2 a3 => app_rows (r_T_laws_Body false) l [(T_laws_Body.mk a0 a1 a2 a3)],
  fun n => rep_rows (r_T_laws_Body true) (T_laws_Body.mk (ByteArray.mk #[]) 0 0 []) n,
  bor_rows (fun x => by simp only [r_T_laws_Body, borRow, V.bor, (show ∀ l : List Int, borRows (List.map (rK .i64) l) = List.map (rK .i64) l from bor_rows (fun _ => rfl))]),
  alRows (fun _ => rfl),
  bor_rows (fun x => by simp only [r_T_laws_Body, borRow, V.bor, (show ∀ l : List Int, borRows (List.map (rK .i64) l) = List.map (rK .i64) l from bor_rows (fun _ => rfl))]),
  alRows (fun _ => rfl),
  nb_rows (fun x => by simp only [r_T_laws_Body, noBorRow, V.noBor, Bool.and_true, Bool.true_and, (show ∀ l : List Int, noBorRows (List.map (rK .i64) l) = true from nb_rows (fun _ => rfl))]),
  fun _ => rfl,
  fun _ => rfl⟩
def r_T_laws_Weave (o : Bool) (x : T_laws_Weave) : List V := [.list o 1 (List.map (rL o 1 (rK .i64)) x.Parents), .list o 4 (List.map (r_T_laws_Body o) x.Bodies)]
def r_T_impl_Body (o : Bool) (x : T_impl_Body) : List V := [.sc (.string x.Line), .sc (.int .i64 x.Ins), .sc (.int .i64 x.Ord), .list o 1 (List.map (rK .i64) x.Dels)]
theorem R_T_impl_Body : (∀ (l : List T_impl_Body) (i : Nat) (a0 : ByteArray) (a1 : Int) (a2 : Int) (a3 : List Int), (List.map (r_T_impl_Body true) l).set i [.sc (.string a0), .sc (.int .i64 a1), .sc (.int .i64 a2), .list true 1 (List.map (rK .i64) a3)] = List.map (r_T_impl_Body true) (l.set i (T_impl_Body.mk a0 a1 a2 a3))) ∧
  (∀ (l : List T_impl_Body) (a0 : ByteArray) (a1 : Int) (a2 : Int) (a3 : List Int), List.map (r_T_impl_Body true) l ++ [[.sc (.string a0), .sc (.int .i64 a1), .sc (.int .i64 a2), .list true 1 (List.map (rK .i64) a3)]] = List.map (r_T_impl_Body true) (l ++ [(T_impl_Body.mk a0 a1 a2 a3)])) ∧
  (∀ (l : List T_impl_Body) (i : Nat) (a0 : ByteArray) (a1 : Int) (a2 : Int) (a3 : List Int), (List.map (r_T_impl_Body false) l).set i [.sc (.string a0), .sc (.int .i64 a1), .sc (.int .i64 a2), .list false 1 (List.map (rK .i64) a3)] = List.map (r_T_impl_Body false) (l.set i (T_impl_Body.mk a0 a1 a2 a3))) ∧
  (∀ (l : List T_impl_Body) (a0 : ByteArray) (a1 : Int) (a2 : Int) (a3 : List Int), List.map (r_T_impl_Body false) l ++ [[.sc (.string a0), .sc (.int .i64 a1), .sc (.int .i64 a2), .list false 1 (List.map (rK .i64) a3)]] = List.map (r_T_impl_Body false) (l ++ [(T_impl_Body.mk a0 a1 a2 a3)])) ∧
  (∀ n : Nat, List.replicate n [.sc (.string (ByteArray.mk #[])), .sc (.int .i64 0), .sc (.int .i64 0), .list true 1 []] = List.map (r_T_impl_Body true) (List.replicate n (T_impl_Body.mk (ByteArray.mk #[]) 0 0 []))) ∧
  (∀ l : List T_impl_Body, borRows (List.map (r_T_impl_Body true) l) = List.map (r_T_impl_Body false) l) ∧
  (∀ l : List T_impl_Body, aliveRows (List.map (r_T_impl_Body true) l) = true) ∧
  (∀ l : List T_impl_Body, borRows (List.map (r_T_impl_Body false) l) = List.map (r_T_impl_Body false) l) ∧
  (∀ l : List T_impl_Body, aliveRows (List.map (r_T_impl_Body false) l) = true) ∧
  (∀ l : List T_impl_Body, noBorRows (List.map (r_T_impl_Body true) l) = true) ∧
  (∀ x : T_impl_Body, r_T_impl_Body true x = [.sc (.string x.Line), .sc (.int .i64 x.Ins), .sc (.int .i64 x.Ord), .list true 1 (List.map (rK .i64) x.Dels)]) ∧
  (∀ x : T_impl_Body, r_T_impl_Body false x = [.sc (.string x.Line), .sc (.int .i64 x.Ins), .sc (.int .i64 x.Ord), .list false 1 (List.map (rK .i64) x.Dels)]) :=
  ⟨fun l i a0 a1 a2 a3 => set_rows (r_T_impl_Body true) l i (T_impl_Body.mk a0 a1 a2 a3),
  fun l a0 a1 a2 a3 => app_rows (r_T_impl_Body true) l [(T_impl_Body.mk a0 a1 a2 a3)],
  fun l i a0 a1 a2 a3 => set_rows (r_T_impl_Body false) l i (T_impl_Body.mk a0 a1 a2 a3),
  fun l a0 a1 a2 a3 => app_rows (r_T_impl_Body false) l [(T_impl_Body.mk a0 a1 a2 a3)],
  fun n => rep_rows (r_T_impl_Body true) (T_impl_Body.mk (ByteArray.mk #[]) 0 0 []) n,
  bor_rows (fun x => by simp only [r_T_impl_Body, borRow, V.bor, (show ∀ l : List Int, borRows (List.map (rK .i64) l) = List.map (rK .i64) l from bor_rows (fun _ => rfl))]),
  alRows (fun _ => rfl),
  bor_rows (fun x => by simp only [r_T_impl_Body, borRow, V.bor, (show ∀ l : List Int, borRows (List.map (rK .i64) l) = List.map (rK .i64) l from bor_rows (fun _ => rfl))]),
  alRows (fun _ => rfl),
  nb_rows (fun x => by simp only [r_T_impl_Body, noBorRow, V.noBor, Bool.and_true, Bool.true_and, (show ∀ l : List Int, noBorRows (List.map (rK .i64) l) = true from nb_rows (fun _ => rfl))]),
  fun _ => rfl,
  fun _ => rfl⟩
def r_T_impl_Weave (o : Bool) (x : T_impl_Weave) : List V := [.list o 1 (List.map (rL o 1 (rK .i64)) x.Parents), .list o 4 (List.map (r_T_impl_Body o) x.Bodies)]
theorem R_b : (∀ (l : List Bool) (i : Nat) (a0 : Bool), (List.map rB l).set i [.sc (.bool a0)] = List.map rB (l.set i a0)) ∧
  (∀ (l : List Bool) (a0 : Bool), List.map rB l ++ [[.sc (.bool a0)]] = List.map rB (l ++ [a0])) ∧
  (∀ (l : List Bool) (b0 b1 : Bool), List.map rB l ++ [[.sc (.bool b0)], [.sc (.bool b1)]] = List.map rB (l ++ [b0, b1])) ∧
  (∀ (l : List Bool) (b0 b1 b2 : Bool), List.map rB l ++ [[.sc (.bool b0)], [.sc (.bool b1)], [.sc (.bool b2)]] = List.map rB (l ++ [b0, b1, b2])) ∧
  (∀ (l : List Bool) (b0 b1 b2 b3 : Bool), List.map rB l ++ [[.sc (.bool b0)], [.sc (.bool b1)], [.sc (.bool b2)], [.sc (.bool b3)]] = List.map rB (l ++ [b0, b1, b2, b3])) ∧
  (∀ n : Nat, List.replicate n [.sc (.bool false)] = List.map rB (List.replicate n false)) ∧
  (∀ l : List Bool, borRows (List.map rB l) = List.map rB l) ∧
  (∀ l : List Bool, aliveRows (List.map rB l) = true) ∧
  (∀ l : List Bool, noBorRows (List.map rB l) = true) :=
  ⟨fun l i a0 => set_rows rB l i a0,
  fun l a0 => app_rows rB l [a0],
  fun l b0 b1 => app_rows rB l [b0, b1],
  fun l b0 b1 b2 => app_rows rB l [b0, b1, b2],
  fun l b0 b1 b2 b3 => app_rows rB l [b0, b1, b2, b3],
  fun n => rep_rows rB false n,
  bor_rows (fun _ => rfl),
  alRows (fun _ => rfl),
  nb_rows (fun _ => rfl)⟩
theorem R_Lb : (∀ (l : List (List Bool)) (i : Nat) (a0 : List Bool), (List.map (rL true 1 rB) l).set i [.list true 1 (List.map rB a0)] = List.map (rL true 1 rB) (l.set i a0)) ∧
  (∀ (l : List (List Bool)) (a0 : List Bool), List.map (rL true 1 rB) l ++ [[.list true 1 (List.map rB a0)]] = List.map (rL true 1 rB) (l ++ [a0])) ∧
  (∀ (l : List (List Bool)) (i : Nat) (a0 : List Bool), (List.map (rL false 1 rB) l).set i [.list false 1 (List.map rB a0)] = List.map (rL false 1 rB) (l.set i a0)) ∧
  (∀ (l : List (List Bool)) (a0 : List Bool), List.map (rL false 1 rB) l ++ [[.list false 1 (List.map rB a0)]] = List.map (rL false 1 rB) (l ++ [a0])) ∧
  (∀ n : Nat, List.replicate n [.list true 1 []] = List.map (rL true 1 rB) (List.replicate n [])) ∧
  (∀ l : List (List Bool), borRows (List.map (rL true 1 rB) l) = List.map (rL false 1 rB) l) ∧
  (∀ l : List (List Bool), aliveRows (List.map (rL true 1 rB) l) = true) ∧
  (∀ l : List (List Bool), borRows (List.map (rL false 1 rB) l) = List.map (rL false 1 rB) l) ∧
  (∀ l : List (List Bool), aliveRows (List.map (rL false 1 rB) l) = true) ∧
  (∀ l : List (List Bool), noBorRows (List.map (rL true 1 rB) l) = true) :=
  ⟨fun l i a0 => set_rows (rL true 1 rB) l i a0,
  fun l a0 => app_rows (rL true 1 rB) l [a0],
  fun l i a0 => set_rows (rL false 1 rB) l i a0,
  fun l a0 => app_rows (rL false 1 rB) l [a0],
  fun n => rep_rows (rL true 1 rB) [] n,
  bor_rows (bor_rL (fun _ => rfl)),
  alRows (fun _ => rfl),
  bor_rows (bor_rL (fun _ => rfl)),
  alRows (fun _ => rfl),
  nb_rows (nb_rL (fun _ => rfl))⟩
theorem R_s : (∀ (l : List ByteArray) (i : Nat) (a0 : ByteArray), (List.map rS l).set i [.sc (.string a0)] = List.map rS (l.set i a0)) ∧
  (∀ (l : List ByteArray) (a0 : ByteArray), List.map rS l ++ [[.sc (.string a0)]] = List.map rS (l ++ [a0])) ∧
  (∀ (l : List ByteArray) (b0 b1 : ByteArray), List.map rS l ++ [[.sc (.string b0)], [.sc (.string b1)]] = List.map rS (l ++ [b0, b1])) ∧
  (∀ (l : List ByteArray) (b0 b1 b2 : ByteArray), List.map rS l ++ [[.sc (.string b0)], [.sc (.string b1)], [.sc (.string b2)]] = List.map rS (l ++ [b0, b1, b2])) ∧
  (∀ (l : List ByteArray) (b0 b1 b2 b3 : ByteArray), List.map rS l ++ [[.sc (.string b0)], [.sc (.string b1)], [.sc (.string b2)], [.sc (.string b3)]] = List.map rS (l ++ [b0, b1, b2, b3])) ∧
  (∀ n : Nat, List.replicate n [.sc (.string (ByteArray.mk #[]))] = List.map rS (List.replicate n (ByteArray.mk #[]))) ∧
  (∀ l : List ByteArray, borRows (List.map rS l) = List.map rS l) ∧
  (∀ l : List ByteArray, aliveRows (List.map rS l) = true) ∧
  (∀ l : List ByteArray, noBorRows (List.map rS l) = true) :=
  ⟨fun l i a0 => set_rows rS l i a0,
  fun l a0 => app_rows rS l [a0],
  fun l b0 b1 => app_rows rS l [b0, b1],
  fun l b0 b1 b2 => app_rows rS l [b0, b1, b2],
  fun l b0 b1 b2 b3 => app_rows rS l [b0, b1, b2, b3],
  fun n => rep_rows rS (ByteArray.mk #[]) n,
  bor_rows (fun _ => rfl),
  alRows (fun _ => rfl),
  nb_rows (fun _ => rfl)⟩
theorem R_u64 : (∀ (l : List Int) (i : Nat) (a0 : Int), (List.map (rK .u64) l).set i [.sc (.int .u64 a0)] = List.map (rK .u64) (l.set i a0)) ∧
  (∀ (l : List Int) (a0 : Int), List.map (rK .u64) l ++ [[.sc (.int .u64 a0)]] = List.map (rK .u64) (l ++ [a0])) ∧
  (∀ (l : List Int) (b0 b1 : Int), List.map (rK .u64) l ++ [[.sc (.int .u64 b0)], [.sc (.int .u64 b1)]] = List.map (rK .u64) (l ++ [b0, b1])) ∧
  (∀ (l : List Int) (b0 b1 b2 : Int), List.map (rK .u64) l ++ [[.sc (.int .u64 b0)], [.sc (.int .u64 b1)], [.sc (.int .u64 b2)]] = List.map (rK .u64) (l ++ [b0, b1, b2])) ∧
  (∀ (l : List Int) (b0 b1 b2 b3 : Int), List.map (rK .u64) l ++ [[.sc (.int .u64 b0)], [.sc (.int .u64 b1)], [.sc (.int .u64 b2)], [.sc (.int .u64 b3)]] = List.map (rK .u64) (l ++ [b0, b1, b2, b3])) ∧
  (∀ n : Nat, List.replicate n [.sc (.int .u64 0)] = List.map (rK .u64) (List.replicate n 0)) ∧
  (∀ l : List Int, borRows (List.map (rK .u64) l) = List.map (rK .u64) l) ∧
  (∀ l : List Int, aliveRows (List.map (rK .u64) l) = true) ∧
  (∀ l : List Int, noBorRows (List.map (rK .u64) l) = true) :=
  ⟨fun l i a0 => set_rows (rK .u64) l i a0,
  fun l a0 => app_rows (rK .u64) l [a0],
  fun l b0 b1 => app_rows (rK .u64) l [b0, b1],
  fun l b0 b1 b2 => app_rows (rK .u64) l [b0, b1, b2],
  fun l b0 b1 b2 b3 => app_rows (rK .u64) l [b0, b1, b2, b3],
  fun n => rep_rows (rK .u64) 0 n,
  bor_rows (fun _ => rfl),
  alRows (fun _ => rfl),
  nb_rows (fun _ => rfl)⟩
end Go.TV
namespace Go.TV.F
noncomputable def laws_szIntS (a : List Int) (left : Int) : Option Int :=
  (if (decide ((wk .i64 (left - (a.length : Int))) < 0)) then some (-1)
  else some (wk .i64 (left - (a.length : Int))))
noncomputable def laws_szIntSS_j1 (left_1 : Int) : Option (Int) :=
  some left_1
noncomputable def laws_szIntSS_l1 (a : List (List Int)) (left_2 : Int) (i : Int) : Option ((Int × Int) ⊕ ((Int) ⊕ (Int))) :=
  (if (decide (i < (a.length : Int))) then (geti a i).bind fun x => (laws_szIntS x left_2).bind fun x23 => (if (decide (x23 < 0)) then some (.inr (.inl (-1)))
  else some (.inl (x23, (wk .i64 (i + 1)))))
  else some (.inr (.inr left_2)))
noncomputable def laws_szIntSS (a : List (List Int)) (left : Int) : Option Int :=
  (if (decide ((wk .i64 (left - (a.length : Int))) < 0)) then some (-1)
  else (loopM (fun (s' : Int × Int) => laws_szIntSS_l1 a s'.1 s'.2) ((wk .i64 (left - (a.length : Int))), 0)).bind fun p => (match p with | .inl c' => some c' | .inr q => laws_szIntSS_j1 q))
noncomputable def laws_szBody (a : T_laws_Body) (left : Int) : Option Int :=
  (if (decide ((wk .i64 (left - (a.Line.size : Int))) < 0)) then some (-1)
  else (laws_szIntS a.Dels (wk .i64 (left - (a.Line.size : Int)))).bind fun x15 => (if (decide (x15 < 0)) then some (-1)
  else some x15))
noncomputable def laws_szBodyS_j1 (left_1 : Int) : Option (Int) :=
  some left_1
noncomputable def laws_szBodyS_l1 (a : List T_laws_Body) (left_2 : Int) (i : Int) : Option ((Int × Int) ⊕ ((Int) ⊕ (Int))) :=
  (if (decide (i < (a.length : Int))) then (geti a i).bind fun x => (laws_szBody (T_laws_Body.mk x.Line x.Ins x.Ord x.Dels) left_2).bind fun x23 => (if (decide (x23 < 0)) then some (.inr (.inl (-1)))
  else some (.inl (x23, (wk .i64 (i + 1)))))
  else some (.inr (.inr left_2)))
noncomputable def laws_szBodyS (a : List T_laws_Body) (left : Int) : Option Int :=
  (if (decide ((wk .i64 (left - (a.length : Int))) < 0)) then some (-1)
  else (loopM (fun (s' : Int × Int) => laws_szBodyS_l1 a s'.1 s'.2) ((wk .i64 (left - (a.length : Int))), 0)).bind fun p => (match p with | .inl c' => some c' | .inr q => laws_szBodyS_j1 q))
noncomputable def laws_szWeave (a : T_laws_Weave) (left : Int) : Option Int :=
  (laws_szIntSS a.Parents left).bind fun x8 => (if (decide (x8 < 0)) then some (-1)
  else (laws_szBodyS a.Bodies x8).bind fun x14 => (if (decide (x14 < 0)) then some (-1)
  else some x14))
noncomputable def laws_toIntS_j1 (out_ : List Int) : Option ((List Int)) :=
  some out_
noncomputable def laws_toIntS_l1 (a : List Int) (i : Int) (out__1 : List Int) : Option ((Int × (List Int)) ⊕ ((List Int))) :=
  (if (decide (i < (a.length : Int))) then (geti a i).bind fun x => (geti out__1 i).bind fun x_1 => some (.inl ((wk .i64 (i + 1)), (out__1.set i.toNat x)))
  else some (.inr out__1))
noncomputable def laws_toIntS (a : List Int) : Option (List Int) :=
  ((mkl (a.length : Int) (a.length : Int) 0 : Option (List Int))).bind fun x7 => (loopM (fun (s' : Int × (List Int)) => laws_toIntS_l1 a s'.1 s'.2) (0, x7)).bind fun p => laws_toIntS_j1 p
noncomputable def laws_toIntSS_j1 (out_ : List (List Int)) : Option ((List (List Int))) :=
  some out_
noncomputable def laws_toIntSS_l1 (a : List (List Int)) (i : Int) (out__1 : List (List Int)) : Option ((Int × (List (List Int))) ⊕ ((List (List Int)))) :=
  (if (decide (i < (a.length : Int))) then (geti a i).bind fun x => (laws_toIntS x).bind fun x20 => (geti out__1 i).bind fun x_1 => some (.inl ((wk .i64 (i + 1)), (out__1.set i.toNat x20)))
  else some (.inr out__1))
noncomputable def laws_toIntSS (a : List (List Int)) : Option (List (List Int)) :=
  ((mkl (a.length : Int) (a.length : Int) [] : Option (List (List Int)))).bind fun x7 => (loopM (fun (s' : Int × (List (List Int))) => laws_toIntSS_l1 a s'.1 s'.2) (0, x7)).bind fun p => laws_toIntSS_j1 p
noncomputable def laws_toBody (a : T_laws_Body) : Option T_impl_Body :=
  (laws_toIntS a.Dels).bind fun x15 => some (T_impl_Body.mk a.Line a.Ins a.Ord x15)
noncomputable def laws_toBodyS_j1 (out_ : List T_impl_Body) : Option ((List T_impl_Body)) :=
  some out_
noncomputable def laws_toBodyS_l1 (a : List T_laws_Body) (i : Int) (out__1 : List T_impl_Body) : Option ((Int × (List T_impl_Body)) ⊕ ((List T_impl_Body))) :=
  (if (decide (i < (a.length : Int))) then (geti a i).bind fun x => (laws_toBody (T_laws_Body.mk x.Line x.Ins x.Ord x.Dels)).bind fun x20 => (geti out__1 i).bind fun x_1 => some (.inl ((wk .i64 (i + 1)), (out__1.set i.toNat (T_impl_Body.mk x20.Line x20.Ins x20.Ord x20.Dels))))
  else some (.inr out__1))
noncomputable def laws_toBodyS (a : List T_laws_Body) : Option (List T_impl_Body) :=
  ((mkl (a.length : Int) (a.length : Int) (T_impl_Body.mk (ByteArray.mk #[]) 0 0 []) : Option (List T_impl_Body))).bind fun x7 => (loopM (fun (s' : Int × (List T_impl_Body)) => laws_toBodyS_l1 a s'.1 s'.2) (0, x7)).bind fun p => laws_toBodyS_j1 p
noncomputable def laws_toWeave (a : T_laws_Weave) : Option T_impl_Weave :=
  (laws_toIntSS a.Parents).bind fun x6 => (laws_toBodyS a.Bodies).bind fun x10 => some (T_impl_Weave.mk x6 x10)
noncomputable def spec_l01In (x : Int) (least : Int) (most : Int) : Option Bool :=
  (if (decide (x ≥ least)) then some (decide (x ≤ most)) else some false).bind fun b => some b
noncomputable def spec_l05Rise_j1 : Option (Bool) :=
  some true
noncomputable def spec_l05Rise_l1 (list_ : List Int) (n : Int) (i : Int) : Option ((Int) ⊕ ((Bool) ⊕ (Unit))) :=
  (if (decide (i < (list_.length : Int))) then (geti list_ i).bind fun x => (spec_l01In x 0 (wk .i64 (n - 1))).bind fun x18 => (if (!x18) then some true else (if (decide (i > 0)) then (geti list_ (wk .i64 (i - 1))).bind fun x_1 => some (decide (x_1 ≥ x)) else some false).bind fun b_1 => some b_1).bind fun b => (if b then some (.inr (.inl false))
  else some (.inl (wk .i64 (i + 1))))
  else some (.inr (.inr ())))
noncomputable def spec_l05Rise (list_ : List Int) (n : Int) : Option Bool :=
  (loopM (fun (s' : Int) => spec_l05Rise_l1 list_ n s') (0)).bind fun p => (match p with | .inl c' => some c' | .inr q => spec_l05Rise_j1)
noncomputable def spec_GraphOk_j1 : Option (Bool) :=
  some true
noncomputable def spec_GraphOk_l1 (parents : List (List Int)) (v : Int) : Option ((Int) ⊕ ((Bool) ⊕ (Unit))) :=
  (if (decide (v < (parents.length : Int))) then (geti parents v).bind fun x => (if (decide ((x.length : Int) > 4)) then some true else (spec_l05Rise x v).bind fun x25 => some (!x25)).bind fun b => (if b then some (.inr (.inl false))
  else some (.inl (wk .i64 (v + 1))))
  else some (.inr (.inr ())))
noncomputable def spec_GraphOk (parents : List (List Int)) : Option Bool :=
  (if (decide ((parents.length : Int) > 40)) then some false
  else (loopM (fun (s' : Int) => spec_GraphOk_l1 parents s') (0)).bind fun p => (match p with | .inl c' => some c' | .inr q => spec_GraphOk_j1))
noncomputable def spec_l05Set_j2 (in__1 : List Bool) : Option ((List Bool)) :=
  some in__1
noncomputable def spec_l05Set_j3 (v : Int) (in__3 : List Bool) : Option ((Int × (List Bool)) ⊕ ((List Bool))) :=
  some (.inl ((wk .i64 (v - 1)), in__3))
noncomputable def spec_l05Set_l2 (parents : List (List Int)) (v : Int) (k : Int) (in__4 : List Bool) : Option ((Int × (List Bool)) ⊕ ((List Bool))) :=
  (geti parents v).bind fun x => (if (decide (k < (x.length : Int))) then (geti in__4 v).bind fun x_1 => some x_1 else some false).bind fun b => (if b then (geti parents v).bind fun x_2 => (geti x_2 k).bind fun x_3 => (geti in__4 x_3).bind fun x_4 => some (.inl ((wk .i64 (k + 1)), (in__4.set x_3.toNat true)))
  else some (.inr in__4))
noncomputable def spec_l05Set_l1 (parents : List (List Int)) (v : Int) (in__2 : List Bool) : Option ((Int × (List Bool)) ⊕ ((List Bool))) :=
  (if (decide (v ≥ 0)) then (loopM (fun (s' : Int × (List Bool)) => spec_l05Set_l2 parents v s'.1 s'.2) (0, in__2)).bind fun p_1 => spec_l05Set_j3 v p_1
  else some (.inr in__2))
noncomputable def spec_l05Set_j1 (parents : List (List Int)) (in_ : List Bool) : Option ((List Bool)) :=
  (loopM (fun (s' : Int × (List Bool)) => spec_l05Set_l1 parents s'.1 s'.2) ((wk .i64 ((parents.length : Int) - 1)), in_)).bind fun p => spec_l05Set_j2 p
noncomputable def spec_l05Set_l3 (parents : List (List Int)) (list_ : List Int) (i : Int) (in__5 : List Bool) : Option ((Int × (List Bool)) ⊕ ((List Bool))) :=
  (if (decide (i < (list_.length : Int))) then (geti list_ i).bind fun x_5 => (spec_l01In x_5 0 (wk .i64 ((parents.length : Int) - 1))).bind fun x25 => (if x25 then (geti in__5 x_5).bind fun x_6 => some (.inl ((wk .i64 (i + 1)), (in__5.set x_5.toNat true)))
  else some (.inl ((wk .i64 (i + 1)), in__5)))
  else some (.inr in__5))
noncomputable def spec_l05Set (parents : List (List Int)) (list_ : List Int) : Option (List Bool) :=
  ((mkl (parents.length : Int) (parents.length : Int) false : Option (List Bool))).bind fun x11 => (loopM (fun (s' : Int × (List Bool)) => spec_l05Set_l3 parents list_ s'.1 s'.2) (0, x11)).bind fun p_2 => spec_l05Set_j1 parents p_2
noncomputable def spec_LineOk_j1 (line : ByteArray) : Option (Bool) :=
  some (decide ((line.size : Int) ≤ 60))
noncomputable def spec_LineOk_l1 (line : ByteArray) (i : Int) : Option ((Int) ⊕ ((Bool) ⊕ (Unit))) :=
  (if (decide (i < (line.size : Int))) then (sidx line i).bind fun x12 => (if (x12 == 10) then some (.inr (.inl false))
  else some (.inl (wk .i64 (i + 1))))
  else some (.inr (.inr ())))
noncomputable def spec_LineOk (line : ByteArray) : Option Bool :=
  (loopM (fun (s' : Int) => spec_LineOk_l1 line s') (0)).bind fun p => (match p with | .inl c' => some c' | .inr q => spec_LineOk_j1 line)
noncomputable def spec_l06Live_j1 : Option (Bool) :=
  some true
noncomputable def spec_l06Live_l1 (b : T_impl_Body) (in_ : List Bool) (i : Int) : Option ((Int) ⊕ ((Bool) ⊕ (Unit))) :=
  (if (decide (i < (b.Dels.length : Int))) then (geti b.Dels i).bind fun x_1 => (spec_l01In x_1 0 (wk .i64 ((in_.length : Int) - 1))).bind fun x36 => (if x36 then (geti in_ x_1).bind fun x_2 => some x_2 else some false).bind fun b_2 => (if b_2 then some (.inr (.inl false))
  else some (.inl (wk .i64 (i + 1))))
  else some (.inr (.inr ())))
noncomputable def spec_l06Live (b : T_impl_Body) (in_ : List Bool) : Option Bool :=
  (spec_l01In b.Ins 0 (wk .i64 ((in_.length : Int) - 1))).bind fun x11 => (if (!x11) then some true else (geti in_ b.Ins).bind fun x => some (!x)).bind fun b_1 => (if b_1 then some false
  else (loopM (fun (s' : Int) => spec_l06Live_l1 b in_ s') (0)).bind fun p => (match p with | .inl c' => some c' | .inr q => spec_l06Live_j1))
noncomputable def spec_l06Closure (w : T_impl_Weave) (v : Int) : Option (List Bool) :=
  (spec_l05Set w.Parents [v]).bind fun x9 => some x9
noncomputable def spec_l06Places_j1 (out_ : List Int) : Option ((List Int)) :=
  some out_
noncomputable def spec_l06Places_l1 (w : T_impl_Weave) (in_ : List Bool) (i : Int) (out__1 : List Int) : Option ((Int × (List Int)) ⊕ ((List Int))) :=
  (if (decide (i < (w.Bodies.length : Int))) then (geti w.Bodies i).bind fun x => (spec_l06Live (T_impl_Body.mk x.Line x.Ins x.Ord x.Dels) in_).bind fun x21 => (if x21 then (appn out__1 [i]).bind fun l => some (.inl ((wk .i64 (i + 1)), l))
  else some (.inl ((wk .i64 (i + 1)), out__1)))
  else some (.inr out__1))
noncomputable def spec_l06Places (w : T_impl_Weave) (in_ : List Bool) : Option (List Int) :=
  (loopM (fun (s' : Int × (List Int)) => spec_l06Places_l1 w in_ s'.1 s'.2) (0, [])).bind fun p => spec_l06Places_j1 p
noncomputable def spec_WeaveOk_j3 : Option (Bool) :=
  some true
noncomputable def spec_WeaveOk_l1 (w : T_impl_Weave) (born : List Int) (v : Int) : Option ((Int) ⊕ ((Bool) ⊕ (Unit))) :=
  (if (decide (v < (w.Parents.length : Int))) then (geti born v).bind fun x => (if (decide (x > 80)) then some true else (spec_l06Closure (T_impl_Weave.mk w.Parents w.Bodies) v).bind fun x126 => (spec_l06Places (T_impl_Weave.mk w.Parents w.Bodies) x126).bind fun x127 => some (decide ((x127.length : Int) > 80))).bind fun b_1 => (if b_1 then some (.inr (.inl false))
  else some (.inl (wk .i64 (v + 1))))
  else some (.inr (.inr ())))
noncomputable def spec_WeaveOk_j2 (w : T_impl_Weave) (born : List Int) : Option (Bool) :=
  (loopM (fun (s' : Int) => spec_WeaveOk_l1 w born s') (0)).bind fun p => (match p with | .inl c' => some c' | .inr q => spec_WeaveOk_j3)
noncomputable def spec_WeaveOk_j4 (i : Int) (born_2 : List Int) : Option ((Int × (List Int)) ⊕ ((Bool) ⊕ ((List Int)))) :=
  some (.inl ((wk .i64 (i + 1)), born_2))
noncomputable def spec_WeaveOk_l3 (proper : List (List Bool)) (x_1 : T_impl_Body) (k : Int) : Option ((Int) ⊕ (((Int × (List Int)) ⊕ ((Bool) ⊕ ((List Int)))) ⊕ (Unit))) :=
  (if (decide (k < (x_1.Dels.length : Int))) then (geti x_1.Dels k).bind fun x_4 => (geti proper x_4).bind fun x_5 => (spec_l06Live (T_impl_Body.mk x_1.Line x_1.Ins x_1.Ord x_1.Dels) x_5).bind fun x110 => (if (!x110) then some (.inr (.inl (.inr (.inl false))))
  else some (.inl (wk .i64 (k + 1))))
  else some (.inr (.inr ())))
noncomputable def spec_WeaveOk_l2 (w : T_impl_Weave) (proper : List (List Bool)) (i : Int) (born_1 : List Int) : Option ((Int × (List Int)) ⊕ ((Bool) ⊕ ((List Int)))) :=
  (if (decide (i < (w.Bodies.length : Int))) then (geti w.Bodies i).bind fun x_1 => (spec_LineOk x_1.Line).bind fun x57 => (if (!x57) then some true else (spec_l01In x_1.Ins 0 (wk .i64 ((w.Parents.length : Int) - 1))).bind fun x64 => some (!x64)).bind fun b_2 => (if b_2 then some true else (geti born_1 x_1.Ins).bind fun x_2 => some (x_1.Ord != x_2)).bind fun b_3 => (if b_3 then some true else (spec_l05Rise x_1.Dels (w.Parents.length : Int)).bind fun x81 => some (!x81)).bind fun b_4 => (if b_4 then some (.inr (.inl false))
  else (geti born_1 x_1.Ins).bind fun x_3 => (loopM (fun (s' : Int) => spec_WeaveOk_l3 proper x_1 s') (0)).bind fun p_2 => (match p_2 with | .inl c' => some c' | .inr q_1 => spec_WeaveOk_j4 i (born_1.set x_1.Ins.toNat (wk .i64 (x_3 + 1)))))
  else some (.inr (.inr born_1)))
noncomputable def spec_WeaveOk_j1 (w : T_impl_Weave) (x25 : List Int) (proper : List (List Bool)) : Option (Bool) :=
  (loopM (fun (s' : Int × (List Int)) => spec_WeaveOk_l2 w proper s'.1 s'.2) (0, x25)).bind fun p_1 => (match p_1 with | .inl c' => some c' | .inr q_2 => spec_WeaveOk_j2 w q_2)
noncomputable def spec_WeaveOk_l4 (w : T_impl_Weave) (v_1 : Int) (proper_1 : List (List Bool)) : Option ((Int × (List (List Bool))) ⊕ ((List (List Bool)))) :=
  (if (decide (v_1 < (w.Parents.length : Int))) then (geti w.Parents v_1).bind fun x_6 => (spec_l05Set w.Parents x_6).bind fun x40 => (appn proper_1 [x40]).bind fun l => some (.inl ((wk .i64 (v_1 + 1)), l))
  else some (.inr proper_1))
noncomputable def spec_WeaveOk (w : T_impl_Weave) : Option Bool :=
  (spec_GraphOk w.Parents).bind fun x13 => (if (!x13) then some true else some (decide ((w.Bodies.length : Int) > 300))).bind fun b => (if b then some false
  else ((mkl (w.Parents.length : Int) (w.Parents.length : Int) 0 : Option (List Int))).bind fun x25 => (loopM (fun (s' : Int × (List (List Bool))) => spec_WeaveOk_l4 w s'.1 s'.2) (0, [])).bind fun p_3 => spec_WeaveOk_j1 w x25 p_3)
noncomputable def spec_l06Has (w : T_impl_Weave) (v : Int) : Option Bool :=
  (spec_l01In v 0 (wk .i64 ((w.Parents.length : Int) - 1))).bind fun x10 => some x10
noncomputable def spec_l23Code (w : T_impl_Weave) (a : Int) (b : Int) : Option Int :=
  (spec_WeaveOk (T_impl_Weave.mk w.Parents w.Bodies)).bind fun x8 => (if (!x8) then some 1
  else (spec_l06Has (T_impl_Weave.mk w.Parents w.Bodies) a).bind fun x12 => (if (!x12) then some true else (spec_l06Has (T_impl_Weave.mk w.Parents w.Bodies) b).bind fun x17 => some (!x17)).bind fun b_1 => (if b_1 then some 2
  else some 0))
noncomputable def spec_l07Without_j1 (out_ : List Int) : Option ((List Int)) :=
  some out_
noncomputable def spec_l07Without_l1 (list_ : List Int) (x : Int) (i : Int) (out__1 : List Int) : Option ((Int × (List Int)) ⊕ ((List Int))) :=
  (if (decide (i < (list_.length : Int))) then (geti list_ i).bind fun x_1 => (if (x_1 != x) then (appn out__1 [x_1]).bind fun l => some (.inl ((wk .i64 (i + 1)), l))
  else some (.inl ((wk .i64 (i + 1)), out__1)))
  else some (.inr out__1))
noncomputable def spec_l07Without (list_ : List Int) (x : Int) : Option (List Int) :=
  (loopM (fun (s' : Int × (List Int)) => spec_l07Without_l1 list_ x s'.1 s'.2) (0, [])).bind fun p => spec_l07Without_j1 p
noncomputable def spec_UndoOn_j1 (n : Int) (out_ : List ByteArray) : Option ((List ByteArray) × Int × Int) :=
  some (out_, n, 0)
noncomputable def spec_UndoOn_j2 (v : Int) (n_1 : Int) (i : Int) (x : T_impl_Body) (x42 : Bool) (out__2 : List ByteArray) : Option ((Int × Int × (List ByteArray)) ⊕ (Int × (List ByteArray))) :=
  (if (x.Ins == v) then some (!x42) else some false).bind fun b => (if b then some (.inl ((wk .i64 (n_1 + 1)), (wk .i64 (i + 1)), out__2))
  else some (.inl (n_1, (wk .i64 (i + 1)), out__2)))
noncomputable def spec_UndoOn_l1 (w : T_impl_Weave) (v : Int) (x27 : (List Bool)) (n_1 : Int) (i : Int) (out__1 : List ByteArray) : Option ((Int × Int × (List ByteArray)) ⊕ (Int × (List ByteArray))) :=
  (if (decide (i < (w.Bodies.length : Int))) then (geti w.Bodies i).bind fun x => (spec_l06Live (T_impl_Body.mk x.Line x.Ins x.Ord x.Dels) x27).bind fun x42 => (spec_l07Without x.Dels v).bind fun x46 => (if x42 then some (x.Ins != v) else some false).bind fun b_1 => (if b_1 then some true else (if (!x42) then (spec_l06Live (T_impl_Body.mk x.Line x.Ins x.Ord x46) x27).bind fun x61 => some x61 else some false).bind fun b_3 => some b_3).bind fun b_2 => (if b_2 then (appn out__1 [x.Line]).bind fun l => spec_UndoOn_j2 v n_1 i x x42 l
  else spec_UndoOn_j2 v n_1 i x x42 out__1)
  else some (.inr (n_1, out__1)))
noncomputable def spec_UndoOn (w : T_impl_Weave) (onto : Int) (v : Int) : Option ((List ByteArray) × Int × Int) :=
  (spec_l23Code (T_impl_Weave.mk w.Parents w.Bodies) onto v).bind fun x20 => (if (x20 != 0) then some ([], 0, x20)
  else (spec_l06Closure (T_impl_Weave.mk w.Parents w.Bodies) onto).bind fun x27 => (loopM (fun (s' : Int × Int × (List ByteArray)) => spec_UndoOn_l1 w v x27 s'.1 s'.2.1 s'.2.2) (0, 0, [])).bind fun p => spec_UndoOn_j1 p.1 p.2)
noncomputable def impl_inRange (n : Int) (least : Int) (most : Int) : Option Bool :=
  (if (decide (n ≥ least)) then some (decide (n ≤ most)) else some false).bind fun b => some b
noncomputable def impl_ascends_j1 : Option (Bool) :=
  some true
noncomputable def impl_ascends_l1 (list_ : List Int) (below : Int) (x9 : Int) : Option ((Int) ⊕ ((Bool) ⊕ (Unit))) :=
  (if (decide (x9 < (list_.length : Int))) then (geti list_ x9).bind fun x => (impl_inRange x 0 (wk .i64 (below - 1))).bind fun x17 => (if (!x17) then some true else (if (decide (x9 > 0)) then (geti list_ (wk .i64 (x9 - 1))).bind fun x_1 => some (decide (x ≤ x_1)) else some false).bind fun b_1 => some b_1).bind fun b => (if b then some (.inr (.inl false))
  else some (.inl (wk .i64 (x9 + 1))))
  else some (.inr (.inr ())))
noncomputable def impl_ascends (list_ : List Int) (below : Int) : Option Bool :=
  (loopM (fun (s' : Int) => impl_ascends_l1 list_ below s') (0)).bind fun p => (match p with | .inl c' => some c' | .inr q => impl_ascends_j1)
noncomputable def impl_GraphOk_j1 (parents : List (List Int)) : Option (Bool) :=
  some (decide ((parents.length : Int) ≤ 40))
noncomputable def impl_GraphOk_l1 (parents : List (List Int)) (x7 : Int) : Option ((Int) ⊕ ((Bool) ⊕ (Unit))) :=
  (if (decide (x7 < (parents.length : Int))) then (geti parents x7).bind fun x => (if (decide ((x.length : Int) > 4)) then some true else (impl_ascends x x7).bind fun x18 => some (!x18)).bind fun b => (if b then some (.inr (.inl false))
  else some (.inl (wk .i64 (x7 + 1))))
  else some (.inr (.inr ())))
noncomputable def impl_GraphOk (parents : List (List Int)) : Option Bool :=
  (loopM (fun (s' : Int) => impl_GraphOk_l1 parents s') (0)).bind fun p => (match p with | .inl c' => some c' | .inr q => impl_GraphOk_j1 parents)
noncomputable def impl_unionOf_j1 (s : Int) : Option (Int) :=
  some s
noncomputable def impl_unionOf_l1 (closed : List Int) (list_ : List Int) (s_1 : Int) (x10 : Int) : Option ((Int × Int) ⊕ (Int)) :=
  (if (decide (x10 < (list_.length : Int))) then (geti list_ x10).bind fun x => (geti closed x).bind fun x_1 => some (.inl ((bits .or .u64 s_1 x_1), (wk .i64 (x10 + 1))))
  else some (.inr s_1))
noncomputable def impl_unionOf (closed : List Int) (list_ : List Int) : Option Int :=
  (loopM (fun (s' : Int × Int) => impl_unionOf_l1 closed list_ s'.1 s'.2) (0, 0)).bind fun p => impl_unionOf_j1 p
noncomputable def impl_closures_j1 (out_ : List Int) : Option ((List Int)) :=
  some out_
noncomputable def impl_closures_l1 (parents : List (List Int)) (x11 : Int) (out__1 : List Int) : Option ((Int × (List Int)) ⊕ ((List Int))) :=
  (if (decide (x11 < (parents.length : Int))) then (geti parents x11).bind fun x => (impl_unionOf out__1 x).bind fun x20 => (chk (¬ (wk .u64 x11) < 0)).bind fun u => (geti out__1 x11).bind fun x_1 => some (.inl ((wk .i64 (x11 + 1)), (out__1.set x11.toNat (bits .or .u64 x20 (shlI .u64 1 (wk .u64 x11))))))
  else some (.inr out__1))
noncomputable def impl_closures (parents : List (List Int)) : Option (List Int) :=
  ((mkl (parents.length : Int) (parents.length : Int) 0 : Option (List Int))).bind fun x8 => (loopM (fun (s' : Int × (List Int)) => impl_closures_l1 parents s'.1 s'.2) (0, x8)).bind fun p => impl_closures_j1 p
noncomputable def internal_stringslite_IndexByte (s : ByteArray) (c : Int) : Option Int :=
  some (idxB s c)
noncomputable def internal_stringslite_Index (s : ByteArray) (substr : ByteArray) : Option Int :=
  (if ((substr.size : Int) == 0) then some true else some (substr.toList == s.toList)).bind fun b => (if b then some 0
  else (if ((substr.size : Int) == 1) then (sidx substr 0).bind fun x29 => (internal_stringslite_IndexByte s x29).bind fun x30 => some x30
  else (if (decide ((substr.size : Int) ≥ (s.size : Int))) then some (-1)
  else none)))
noncomputable def strings_Index (s : ByteArray) (substr : ByteArray) : Option Int :=
  (internal_stringslite_Index s substr).bind fun x7 => some x7
noncomputable def strings_Contains (s : ByteArray) (substr : ByteArray) : Option Bool :=
  (strings_Index s substr).bind fun x7 => some (decide (x7 ≥ 0))
noncomputable def impl_LineOk (line : ByteArray) : Option Bool :=
  (if (decide ((line.size : Int) ≤ 60)) then (strings_Contains line (ByteArray.mk #[10])).bind fun x8 => some (!x8) else some false).bind fun b => some b
noncomputable def impl_isPlace (n : Int) (size : Int) : Option Bool :=
  (impl_inRange n 0 (wk .i64 (size - 1))).bind fun x8 => some x8
noncomputable def impl_set_has (s : Int) (v : Int) : Option Bool :=
  (impl_inRange v 0 63).bind fun x6 => (if x6 then (chk (¬ (wk .u64 v) < 0)).bind fun u => some ((bits .and .u64 (shrI .u64 s (wk .u64 v)) 1) == 1) else some false).bind fun b => some b
noncomputable def impl_setOf_j1 (s : Int) : Option (Int) :=
  some s
noncomputable def impl_setOf_l1 (list_ : List Int) (s_1 : Int) (x8 : Int) : Option ((Int × Int) ⊕ (Int)) :=
  (if (decide (x8 < (list_.length : Int))) then (geti list_ x8).bind fun x => (impl_inRange x 0 63).bind fun x13 => (if x13 then (chk (¬ (wk .u64 x) < 0)).bind fun u => some (.inl ((bits .or .u64 s_1 (shlI .u64 1 (wk .u64 x))), (wk .i64 (x8 + 1))))
  else some (.inl (s_1, (wk .i64 (x8 + 1)))))
  else some (.inr s_1))
noncomputable def impl_setOf (list_ : List Int) : Option Int :=
  (loopM (fun (s' : Int × Int) => impl_setOf_l1 list_ s'.1 s'.2) (0, 0)).bind fun p => impl_setOf_j1 p
noncomputable def impl_Body_isLive (b : T_impl_Body) (s : Int) : Option Bool :=
  (impl_set_has s b.Ins).bind fun x8 => (if x8 then (impl_setOf b.Dels).bind fun x12 => some ((bits .and .u64 x12 s) == 0) else some false).bind fun b_1 => some b_1
noncomputable def impl_Weave_liveIn_j1 (out_ : List Int) : Option ((List Int)) :=
  some out_
noncomputable def impl_Weave_liveIn_l1 (w : T_impl_Weave) (s : Int) (x13 : Int) (out__1 : List Int) : Option ((Int × (List Int)) ⊕ ((List Int))) :=
  (if (decide (x13 < (w.Bodies.length : Int))) then (geti w.Bodies x13).bind fun x => (impl_Body_isLive (T_impl_Body.mk x.Line x.Ins x.Ord x.Dels) s).bind fun x20 => (if x20 then (appn out__1 [x13]).bind fun l => some (.inl ((wk .i64 (x13 + 1)), l))
  else some (.inl ((wk .i64 (x13 + 1)), out__1)))
  else some (.inr out__1))
noncomputable def impl_Weave_liveIn (w : T_impl_Weave) (s : Int) : Option (List Int) :=
  (loopM (fun (s' : Int × (List Int)) => impl_Weave_liveIn_l1 w s s'.1 s'.2) (0, [])).bind fun p => impl_Weave_liveIn_j1 p
noncomputable def impl_bodiesOk_j2 : Option (Bool) :=
  some true
noncomputable def impl_bodiesOk_l1 (w : T_impl_Weave) (closed : List Int) (born : List Int) (x80 : Int) : Option ((Int) ⊕ ((Bool) ⊕ (Unit))) :=
  (if (decide (x80 < (closed.length : Int))) then (geti closed x80).bind fun x => (geti born x80).bind fun x_1 => (if (decide (x_1 > 80)) then some true else (impl_Weave_liveIn (T_impl_Weave.mk w.Parents w.Bodies) x).bind fun x92 => some (decide ((x92.length : Int) > 80))).bind fun b => (if b then some (.inr (.inl false))
  else some (.inl (wk .i64 (x80 + 1))))
  else some (.inr (.inr ())))
noncomputable def impl_bodiesOk_j1 (w : T_impl_Weave) (closed : List Int) (born : List Int) : Option (Bool) :=
  (loopM (fun (s' : Int) => impl_bodiesOk_l1 w closed born s') (0)).bind fun p => (match p with | .inl c' => some c' | .inr q => impl_bodiesOk_j2)
noncomputable def impl_bodiesOk_j3 (x18 : Int) (born_2 : List Int) : Option ((Int × (List Int)) ⊕ ((Bool) ⊕ ((List Int)))) :=
  some (.inl ((wk .i64 (x18 + 1)), born_2))
noncomputable def impl_bodiesOk_l3 (w : T_impl_Weave) (closed : List Int) (x_2 : T_impl_Body) (x62 : Int) : Option ((Int) ⊕ (((Int × (List Int)) ⊕ ((Bool) ⊕ ((List Int)))) ⊕ (Unit))) :=
  (if (decide (x62 < (x_2.Dels.length : Int))) then (geti x_2.Dels x62).bind fun x_5 => (geti w.Parents x_5).bind fun x_6 => (impl_unionOf closed x_6).bind fun x73 => (impl_Body_isLive (T_impl_Body.mk x_2.Line x_2.Ins x_2.Ord x_2.Dels) x73).bind fun x74 => (if (!x74) then some (.inr (.inl (.inr (.inl false))))
  else some (.inl (wk .i64 (x62 + 1))))
  else some (.inr (.inr ())))
noncomputable def impl_bodiesOk_l2 (w : T_impl_Weave) (closed : List Int) (x18 : Int) (born_1 : List Int) : Option ((Int × (List Int)) ⊕ ((Bool) ⊕ ((List Int)))) :=
  (if (decide (x18 < (w.Bodies.length : Int))) then (geti w.Bodies x18).bind fun x_2 => (impl_LineOk x_2.Line).bind fun x24 => (if (!x24) then some true else (impl_isPlace x_2.Ins (closed.length : Int)).bind fun x31 => some (!x31)).bind fun b_1 => (if b_1 then some true else (geti born_1 x_2.Ins).bind fun x_3 => some (x_2.Ord != x_3)).bind fun b_2 => (if b_2 then some true else (impl_ascends x_2.Dels (closed.length : Int)).bind fun x49 => some (!x49)).bind fun b_3 => (if b_3 then some (.inr (.inl false))
  else (geti born_1 x_2.Ins).bind fun x_4 => (loopM (fun (s' : Int) => impl_bodiesOk_l3 w closed x_2 s') (0)).bind fun p_2 => (match p_2 with | .inl c' => some c' | .inr q_1 => impl_bodiesOk_j3 x18 (born_1.set x_2.Ins.toNat (wk .i64 (x_4 + 1)))))
  else some (.inr (.inr born_1)))
noncomputable def impl_bodiesOk (w : T_impl_Weave) (closed : List Int) : Option Bool :=
  ((mkl (closed.length : Int) (closed.length : Int) 0 : Option (List Int))).bind fun x14 => (loopM (fun (s' : Int × (List Int)) => impl_bodiesOk_l2 w closed s'.1 s'.2) (0, x14)).bind fun p_1 => (match p_1 with | .inl c' => some c' | .inr q_2 => impl_bodiesOk_j1 w closed q_2)
noncomputable def impl_WeaveOk (w : T_impl_Weave) : Option Bool :=
  (if (decide ((w.Bodies.length : Int) ≤ 300)) then (impl_GraphOk w.Parents).bind fun x10 => some x10 else some false).bind fun b => (if b then (impl_closures w.Parents).bind fun x16 => (impl_bodiesOk (T_impl_Weave.mk w.Parents w.Bodies) x16).bind fun x17 => some x17 else some false).bind fun b_1 => some b_1
noncomputable def impl_Weave_areVersions_j1 : Option (Bool) :=
  some true
noncomputable def impl_Weave_areVersions_l1 (w : T_impl_Weave) (list_ : List Int) (x9 : Int) : Option ((Int) ⊕ ((Bool) ⊕ (Unit))) :=
  (if (decide (x9 < (list_.length : Int))) then (geti list_ x9).bind fun x => (impl_isPlace x (w.Parents.length : Int)).bind fun x19 => (if (!x19) then some (.inr (.inl false))
  else some (.inl (wk .i64 (x9 + 1))))
  else some (.inr (.inr ())))
noncomputable def impl_Weave_areVersions (w : T_impl_Weave) (list_ : List Int) : Option Bool :=
  (loopM (fun (s' : Int) => impl_Weave_areVersions_l1 w list_ s') (0)).bind fun p => (match p with | .inl c' => some c' | .inr q => impl_Weave_areVersions_j1)
noncomputable def impl_versionsCode (w : T_impl_Weave) (list_ : List Int) : Option Int :=
  (impl_WeaveOk (T_impl_Weave.mk w.Parents w.Bodies)).bind fun x7 => (if (!x7) then some 1
  else (impl_Weave_areVersions (T_impl_Weave.mk w.Parents w.Bodies) list_).bind fun x11 => (if (!x11) then some 2
  else some 0))
noncomputable def impl_Body_isLiveWithout (b : T_impl_Body) (s : Int) (v : Int) : Option Bool :=
  (impl_set_has s b.Ins).bind fun x10 => (if x10 then (impl_setOf b.Dels).bind fun x14 => (impl_setOf [v]).bind fun x17 => some ((bits .and .u64 (bits .andNot .u64 x14 x17) s) == 0) else some false).bind fun b_1 => some b_1
noncomputable def impl_UndoOn_c1 (b : T_impl_Body) (c : Int) (c_1 : Int) : Option Bool :=
  (impl_Body_isLive (T_impl_Body.mk b.Line b.Ins b.Ord b.Dels) c).bind fun x7 => (if x7 then some (b.Ins != c_1)
  else (impl_Body_isLiveWithout (T_impl_Body.mk b.Line b.Ins b.Ord b.Dels) c c_1).bind fun x15 => some x15)
noncomputable def impl_UndoOn_c2 (b : T_impl_Body) (c : Int) (c_1 : Int) : Option Bool :=
  (if (b.Ins == c) then (impl_Body_isLive (T_impl_Body.mk b.Line b.Ins b.Ord b.Dels) c_1).bind fun x12 => some (!x12) else some false).bind fun b_1 => some b_1
noncomputable def impl_pickBy_j1 (n : Int) (out_ : List ByteArray) : Option ((List ByteArray) × Int) :=
  some (out_, n)
noncomputable def impl_pickBy_j2 (miss : T_impl_Body → Option Bool) (n_1 : Int) (x15 : Int) (x : T_impl_Body) (out__2 : List ByteArray) : Option ((Int × Int × (List ByteArray)) ⊕ (Int × (List ByteArray))) :=
  (miss (T_impl_Body.mk x.Line x.Ins x.Ord x.Dels)).bind fun x29 => (if x29 then some (.inl ((wk .i64 (n_1 + 1)), (wk .i64 (x15 + 1)), out__2))
  else some (.inl (n_1, (wk .i64 (x15 + 1)), out__2)))
noncomputable def impl_pickBy_l1 (w : T_impl_Weave) (take : T_impl_Body → Option Bool) (miss : T_impl_Body → Option Bool) (n_1 : Int) (x15 : Int) (out__1 : List ByteArray) : Option ((Int × Int × (List ByteArray)) ⊕ (Int × (List ByteArray))) :=
  (if (decide (x15 < (w.Bodies.length : Int))) then (geti w.Bodies x15).bind fun x => (take (T_impl_Body.mk x.Line x.Ins x.Ord x.Dels)).bind fun x21 => (if x21 then (appn out__1 [x.Line]).bind fun l => impl_pickBy_j2 miss n_1 x15 x l
  else impl_pickBy_j2 miss n_1 x15 x out__1)
  else some (.inr (n_1, out__1)))
noncomputable def impl_pickBy (w : T_impl_Weave) (take : T_impl_Body → Option Bool) (miss : T_impl_Body → Option Bool) : Option ((List ByteArray) × Int) :=
  (loopM (fun (s' : Int × Int × (List ByteArray)) => impl_pickBy_l1 w take miss s'.1 s'.2.1 s'.2.2) (0, 0, [])).bind fun p => impl_pickBy_j1 p.1 p.2
noncomputable def impl_UndoOn (w : T_impl_Weave) (onto : Int) (v : Int) : Option ((List ByteArray) × Int × Int) :=
  (impl_versionsCode (T_impl_Weave.mk w.Parents w.Bodies) [onto, v]).bind fun x17 => (if (x17 != 0) then some ([], 0, x17)
  else (impl_closures w.Parents).bind fun x23 => (geti x23 onto).bind fun x => (impl_pickBy (T_impl_Weave.mk w.Parents w.Bodies) (fun z0' => impl_UndoOn_c1 z0' x v) (fun z0' => impl_UndoOn_c2 z0' v x)).bind fun x31 => some (x31.1, x31.2, 0))
noncomputable def laws_eqStringS_j1 : Option (Bool) :=
  some true
noncomputable def laws_eqStringS_l1 (a : List ByteArray) (b : List ByteArray) (i : Int) : Option ((Int) ⊕ ((Bool) ⊕ (Unit))) :=
  (if (decide (i < (a.length : Int))) then (geti a i).bind fun x => (geti b i).bind fun x_1 => (if (!(x.toList == x_1.toList)) then some (.inr (.inl false))
  else some (.inl (wk .i64 (i + 1))))
  else some (.inr (.inr ())))
noncomputable def laws_eqStringS (a : List ByteArray) (b : List ByteArray) : Option Bool :=
  (if ((a.length : Int) != (b.length : Int)) then some false
  else (loopM (fun (s' : Int) => laws_eqStringS_l1 a b s') (0)).bind fun p => (match p with | .inl c' => some c' | .inr q => laws_eqStringS_j1))
noncomputable def laws_eqIntS_j1 : Option (Bool) :=
  some true
noncomputable def laws_eqIntS_l1 (a : List Int) (b : List Int) (i : Int) : Option ((Int) ⊕ ((Bool) ⊕ (Unit))) :=
  (if (decide (i < (a.length : Int))) then (geti a i).bind fun x => (geti b i).bind fun x_1 => (if (x != x_1) then some (.inr (.inl false))
  else some (.inl (wk .i64 (i + 1))))
  else some (.inr (.inr ())))
noncomputable def laws_eqIntS (a : List Int) (b : List Int) : Option Bool :=
  (if ((a.length : Int) != (b.length : Int)) then some false
  else (loopM (fun (s' : Int) => laws_eqIntS_l1 a b s') (0)).bind fun p => (match p with | .inl c' => some c' | .inr q => laws_eqIntS_j1))
noncomputable def laws_eqIntSS_j1 : Option (Bool) :=
  some true
noncomputable def laws_eqIntSS_l1 (a : List (List Int)) (b : List (List Int)) (i : Int) : Option ((Int) ⊕ ((Bool) ⊕ (Unit))) :=
  (if (decide (i < (a.length : Int))) then (geti a i).bind fun x => (geti b i).bind fun x_1 => (laws_eqIntS x x_1).bind fun x25 => (if (!x25) then some (.inr (.inl false))
  else some (.inl (wk .i64 (i + 1))))
  else some (.inr (.inr ())))
noncomputable def laws_eqIntSS (a : List (List Int)) (b : List (List Int)) : Option Bool :=
  (if ((a.length : Int) != (b.length : Int)) then some false
  else (loopM (fun (s' : Int) => laws_eqIntSS_l1 a b s') (0)).bind fun p => (match p with | .inl c' => some c' | .inr q => laws_eqIntSS_j1))
noncomputable def laws_eqBody (a : T_impl_Body) (b : T_impl_Body) : Option Bool :=
  (if (!(a.Line.toList == b.Line.toList)) then some false
  else (if (a.Ins != b.Ins) then some false
  else (if (a.Ord != b.Ord) then some false
  else (laws_eqIntS a.Dels b.Dels).bind fun x24 => (if (!x24) then some false
  else some true))))
noncomputable def laws_eqBodyS_j1 : Option (Bool) :=
  some true
noncomputable def laws_eqBodyS_l1 (a : List T_impl_Body) (b : List T_impl_Body) (i : Int) : Option ((Int) ⊕ ((Bool) ⊕ (Unit))) :=
  (if (decide (i < (a.length : Int))) then (geti a i).bind fun x => (geti b i).bind fun x_1 => (laws_eqBody (T_impl_Body.mk x.Line x.Ins x.Ord x.Dels) (T_impl_Body.mk x_1.Line x_1.Ins x_1.Ord x_1.Dels)).bind fun x25 => (if (!x25) then some (.inr (.inl false))
  else some (.inl (wk .i64 (i + 1))))
  else some (.inr (.inr ())))
noncomputable def laws_eqBodyS (a : List T_impl_Body) (b : List T_impl_Body) : Option Bool :=
  (if ((a.length : Int) != (b.length : Int)) then some false
  else (loopM (fun (s' : Int) => laws_eqBodyS_l1 a b s') (0)).bind fun p => (match p with | .inl c' => some c' | .inr q => laws_eqBodyS_j1))
noncomputable def laws_eqWeave (a : T_impl_Weave) (b : T_impl_Weave) : Option Bool :=
  (laws_eqIntSS a.Parents b.Parents).bind fun x9 => (if (!x9) then some false
  else (laws_eqBodyS a.Bodies b.Bodies).bind fun x15 => (if (!x15) then some false
  else some true))
noncomputable def laws_markIntS_j1 (k_1 : Int) (a_1 : List Int) : Option (Int × (List Int)) :=
  some (k_1, a_1)
noncomputable def laws_markIntS_l1 (k_2 : Int) (i : Int) (a_2 : List Int) : Option ((Int × Int × (List Int)) ⊕ (Int × (List Int))) :=
  (if (decide (i < (a_2.length : Int))) then (geti a_2 i).bind fun x => some (.inl ((wk .i64 (k_2 + 1)), (wk .i64 (i + 1)), (a_2.set i.toNat k_2)))
  else some (.inr (k_2, a_2)))
noncomputable def laws_markIntS (a : List Int) (k : Int) : Option (Int × (List Int)) :=
  (loopM (fun (s' : Int × Int × (List Int)) => laws_markIntS_l1 s'.1 s'.2.1 s'.2.2) (k, 0, a)).bind fun p => laws_markIntS_j1 p.1 p.2
noncomputable def laws_markIntSS_j1 (k_1 : Int) (a_1 : List (List Int)) : Option (Int × (List (List Int))) :=
  some (k_1, a_1)
noncomputable def laws_markIntSS_l1 (k_2 : Int) (i : Int) (a_2 : List (List Int)) : Option ((Int × Int × (List (List Int))) ⊕ (Int × (List (List Int)))) :=
  (if (decide (i < (a_2.length : Int))) then (geti a_2 i).bind fun x => (laws_markIntS x k_2).bind fun x17 => some (.inl (x17.1, (wk .i64 (i + 1)), (a_2.set i.toNat x17.2)))
  else some (.inr (k_2, a_2)))
noncomputable def laws_markIntSS (a : List (List Int)) (k : Int) : Option (Int × (List (List Int))) :=
  (loopM (fun (s' : Int × Int × (List (List Int))) => laws_markIntSS_l1 s'.1 s'.2.1 s'.2.2) (k, 0, a)).bind fun p => laws_markIntSS_j1 p.1 p.2
noncomputable def laws_markText_j1 (out_ : ByteArray) : Option (ByteArray) :=
  (sapp (ByteArray.mk #[109]) out_).bind fun t => some t
noncomputable def laws_markText_l1 (k_1 : Int) (out__1 : ByteArray) : Option ((Int × ByteArray) ⊕ (ByteArray)) :=
  (if (decide (k_1 > 0)) then (sapp (mkS [(wk .u8 (wk .i64 (48 + (k_1.tmod 10))))]) out__1).bind fun t_1 => some (.inl ((wk .i64 (k_1.tdiv 10)), t_1))
  else some (.inr out__1))
noncomputable def laws_markText (k : Int) : Option ByteArray :=
  (if (decide (k ≤ 0)) then some (ByteArray.mk #[109, 48])
  else (loopM (fun (s' : Int × ByteArray) => laws_markText_l1 s'.1 s'.2) (k, (ByteArray.mk #[]))).bind fun p => laws_markText_j1 p)
noncomputable def laws_markBodyS_j1 (k_1 : Int) (a_1 : List T_impl_Body) : Option (Int × (List T_impl_Body)) :=
  some (k_1, a_1)
noncomputable def laws_markBodyS_l1 (k_2 : Int) (i : Int) (a_2 : List T_impl_Body) : Option ((Int × Int × (List T_impl_Body)) ⊕ (Int × (List T_impl_Body))) :=
  (if (decide (i < (a_2.length : Int))) then (laws_markText k_2).bind fun x15 => (geti a_2 i).bind fun x => (geti (a_2.set i.toNat (T_impl_Body.mk x15 x.Ins x.Ord x.Dels)) i).bind fun x_1 => (geti (a_2.set i.toNat (T_impl_Body.mk x_1.Line (wk .i64 (k_2 + 1)) x_1.Ord x_1.Dels)) i).bind fun x_2 => (geti (a_2.set i.toNat (T_impl_Body.mk x_2.Line x_2.Ins (wk .i64 ((wk .i64 (k_2 + 1)) + 1)) x_2.Dels)) i).bind fun x_3 => (laws_markIntS x_3.Dels (wk .i64 ((wk .i64 ((wk .i64 (k_2 + 1)) + 1)) + 1))).bind fun x40 => some (.inl (x40.1, (wk .i64 (i + 1)), (a_2.set i.toNat (T_impl_Body.mk x_3.Line x_3.Ins x_3.Ord x40.2))))
  else some (.inr (k_2, a_2)))
noncomputable def laws_markBodyS (a : List T_impl_Body) (k : Int) : Option (Int × (List T_impl_Body)) :=
  (loopM (fun (s' : Int × Int × (List T_impl_Body)) => laws_markBodyS_l1 s'.1 s'.2.1 s'.2.2) (k, 0, a)).bind fun p => laws_markBodyS_j1 p.1 p.2
noncomputable def laws_markWeave (a : T_impl_Weave) (k : Int) : Option Int :=
  (laws_markIntSS a.Parents k).bind fun x8 => (laws_markBodyS a.Bodies x8.1).bind fun x12 => some x12.1
noncomputable def laws_markStringS_j1 (k_1 : Int) (a_1 : List ByteArray) : Option (Int × (List ByteArray)) :=
  some (k_1, a_1)
noncomputable def laws_markStringS_l1 (k_2 : Int) (i : Int) (a_2 : List ByteArray) : Option ((Int × Int × (List ByteArray)) ⊕ (Int × (List ByteArray))) :=
  (if (decide (i < (a_2.length : Int))) then (laws_markText k_2).bind fun x15 => (geti a_2 i).bind fun x => some (.inl ((wk .i64 (k_2 + 1)), (wk .i64 (i + 1)), (a_2.set i.toNat x15)))
  else some (.inr (k_2, a_2)))
noncomputable def laws_markStringS (a : List ByteArray) (k : Int) : Option (Int × (List ByteArray)) :=
  (loopM (fun (s' : Int × Int × (List ByteArray)) => laws_markStringS_l1 s'.1 s'.2.1 s'.2.2) (k, 0, a)).bind fun p => laws_markStringS_j1 p.1 p.2
noncomputable def laws_heldStringS_j1 (k_1 : Int) : Option (Int) :=
  some k_1
noncomputable def laws_heldStringS_l1 (a : List ByteArray) (k_2 : Int) (i : Int) : Option ((Int × Int) ⊕ ((Int) ⊕ (Int))) :=
  (if (decide (i < (a.length : Int))) then (geti a i).bind fun x => (laws_markText k_2).bind fun x17 => (if (!(x.toList == x17.toList)) then some (.inr (.inl (-1)))
  else some (.inl ((wk .i64 (k_2 + 1)), (wk .i64 (i + 1)))))
  else some (.inr (.inr k_2)))
noncomputable def laws_heldStringS (a : List ByteArray) (k : Int) : Option Int :=
  (loopM (fun (s' : Int × Int) => laws_heldStringS_l1 a s'.1 s'.2) (k, 0)).bind fun p => (match p with | .inl c' => some c' | .inr q => laws_heldStringS_j1 q)
noncomputable def laws_FnExactUndoOn (aW : T_laws_Weave) (aOnto : Int) (aV : Int) : Option Bool :=
  (laws_szWeave (T_laws_Weave.mk aW.Parents aW.Bodies) 1048576).bind fun x23 => (if (decide (x23 < 0)) then some true
  else (laws_toWeave (T_laws_Weave.mk aW.Parents aW.Bodies)).bind fun x28 => (spec_UndoOn (T_impl_Weave.mk x28.Parents x28.Bodies) aOnto aV).bind fun x31 => (laws_toWeave (T_laws_Weave.mk aW.Parents aW.Bodies)).bind fun x36 => (impl_UndoOn (T_impl_Weave.mk x36.Parents x36.Bodies) aOnto aV).bind fun x41 => (laws_eqStringS x41.1 x31.1).bind fun x47 => (if (!x47) then some true else some (x41.2.1 != x31.2.1)).bind fun b => (if b then some true else some (x41.2.2 != x31.2.2)).bind fun b_1 => (if b_1 then some false
  else (laws_toWeave (T_laws_Weave.mk aW.Parents aW.Bodies)).bind fun x61 => (laws_eqWeave (T_impl_Weave.mk x36.Parents x36.Bodies) (T_impl_Weave.mk x61.Parents x61.Bodies)).bind fun x62 => (if (!x62) then some false
  else (laws_markWeave (T_impl_Weave.mk x36.Parents x36.Bodies) 1).bind fun x66 => (if (decide (x66 < 0)) then some true else (laws_eqStringS x41.1 x31.1).bind fun x72 => some (!x72)).bind fun b_2 => (if b_2 then some true else some (x41.2.1 != x31.2.1)).bind fun b_3 => (if b_3 then some true else some (x41.2.2 != x31.2.2)).bind fun b_4 => (if b_4 then some false
  else (laws_markStringS x41.1 1).bind fun x87 => (laws_heldStringS x87.2 1).bind fun x90 => (if (decide (x90 < 0)) then some false
  else (if (x90 != x87.1) then some false
  else (laws_toWeave (T_laws_Weave.mk aW.Parents aW.Bodies)).bind fun x98 => (impl_UndoOn (T_impl_Weave.mk x98.Parents x98.Bodies) aOnto aV).bind fun x101 => (laws_eqStringS x101.1 x31.1).bind fun x107 => (if (!x107) then some true else some (x101.2.1 != x31.2.1)).bind fun b_5 => (if b_5 then some true else some (x101.2.2 != x31.2.2)).bind fun b_6 => (if b_6 then some false
  else (laws_heldStringS x87.2 1).bind fun x121 => (if (decide (x121 < 0)) then some false
  else (if (x121 != x87.1) then some false
  else some true)))))))))
noncomputable def spec_l06Parents (w : T_impl_Weave) (parents : List Int) : Option Bool :=
  (if (decide ((parents.length : Int) ≤ 4)) then (spec_l05Rise parents (w.Parents.length : Int)).bind fun x13 => some x13 else some false).bind fun b => some b
noncomputable def spec_l06Seen (w : T_impl_Weave) (parents : List Int) : Option (List Int) :=
  (spec_l05Set w.Parents parents).bind fun x9 => (spec_l06Places (T_impl_Weave.mk w.Parents w.Bodies) x9).bind fun x10 => some x10
noncomputable def spec_l06Lines_j1 (out_ : List ByteArray) : Option ((List ByteArray)) :=
  some out_
noncomputable def spec_l06Lines_l1 (w : T_impl_Weave) (places : List Int) (i : Int) (out__1 : List ByteArray) : Option ((Int × (List ByteArray)) ⊕ ((List ByteArray))) :=
  (if (decide (i < (places.length : Int))) then (geti places i).bind fun x => (geti w.Bodies x).bind fun x_1 => (appn out__1 [x_1.Line]).bind fun l => some (.inl ((wk .i64 (i + 1)), l))
  else some (.inr out__1))
noncomputable def spec_l06Lines (w : T_impl_Weave) (places : List Int) : Option (List ByteArray) :=
  (loopM (fun (s' : Int × (List ByteArray)) => spec_l06Lines_l1 w places s'.1 s'.2) (0, [])).bind fun p => spec_l06Lines_j1 p
noncomputable def spec_Blend (w : T_impl_Weave) (list_ : List Int) : Option ((List ByteArray) × Int) :=
  (spec_WeaveOk (T_impl_Weave.mk w.Parents w.Bodies)).bind fun x8 => (if (!x8) then some ([], 1)
  else (spec_l06Parents (T_impl_Weave.mk w.Parents w.Bodies) list_).bind fun x13 => (if (!x13) then some ([], 2)
  else (spec_l06Seen (T_impl_Weave.mk w.Parents w.Bodies) list_).bind fun x19 => (spec_l06Lines (T_impl_Weave.mk w.Parents w.Bodies) x19).bind fun x20 => (if (decide ((x20.length : Int) > 80)) then some ([], 3)
  else some (x20, 0))))
noncomputable def impl_Weave_linesAt_j1 (out_ : List ByteArray) : Option ((List ByteArray)) :=
  some out_
noncomputable def impl_Weave_linesAt_l1 (w : T_impl_Weave) (places : List Int) (x10 : Int) (out__1 : List ByteArray) : Option ((Int × (List ByteArray)) ⊕ ((List ByteArray))) :=
  (if (decide (x10 < (places.length : Int))) then (geti places x10).bind fun x => (geti w.Bodies x).bind fun x_1 => (appn out__1 [x_1.Line]).bind fun l => some (.inl ((wk .i64 (x10 + 1)), l))
  else some (.inr out__1))
noncomputable def impl_Weave_linesAt (w : T_impl_Weave) (places : List Int) : Option (List ByteArray) :=
  (loopM (fun (s' : Int × (List ByteArray)) => impl_Weave_linesAt_l1 w places s'.1 s'.2) (0, [])).bind fun p => impl_Weave_linesAt_j1 p
noncomputable def impl_SeenBy (w : T_impl_Weave) (parents : List Int) : Option (List ByteArray) :=
  (impl_Weave_areVersions (T_impl_Weave.mk w.Parents w.Bodies) parents).bind fun x6 => (if (!x6) then some true else (impl_WeaveOk (T_impl_Weave.mk w.Parents w.Bodies)).bind fun x10 => some (!x10)).bind fun b => (if b then some []
  else (impl_closures w.Parents).bind fun x15 => (impl_unionOf x15 parents).bind fun x17 => (impl_Weave_liveIn (T_impl_Weave.mk w.Parents w.Bodies) x17).bind fun x18 => (impl_Weave_linesAt (T_impl_Weave.mk w.Parents w.Bodies) x18).bind fun x19 => some x19)
noncomputable def impl_Blend (w : T_impl_Weave) (list_ : List Int) : Option ((List ByteArray) × Int) :=
  (impl_WeaveOk (T_impl_Weave.mk w.Parents w.Bodies)).bind fun x8 => (if (!x8) then some ([], 1)
  else (if (decide ((list_.length : Int) > 4)) then some true else (impl_ascends list_ (w.Parents.length : Int)).bind fun x18 => some (!x18)).bind fun b => (if b then some ([], 2)
  else (impl_SeenBy (T_impl_Weave.mk w.Parents w.Bodies) list_).bind fun x23 => (if (decide ((x23.length : Int) > 80)) then some ([], 3)
  else some (x23, 0))))
noncomputable def laws_FnExactBlend (aW : T_laws_Weave) (aList : List Int) : Option Bool :=
  (if (decide ((aList.length : Int) > 1048576)) then some true
  else (laws_szWeave (T_laws_Weave.mk aW.Parents aW.Bodies) 1048576).bind fun x22 => (if (decide (x22 < 0)) then some true
  else (laws_toWeave (T_laws_Weave.mk aW.Parents aW.Bodies)).bind fun x27 => (laws_toIntS aList).bind fun x29 => (spec_Blend (T_impl_Weave.mk x27.Parents x27.Bodies) x29).bind fun x30 => (laws_toWeave (T_laws_Weave.mk aW.Parents aW.Bodies)).bind fun x34 => (laws_toIntS aList).bind fun x36 => (impl_Blend (T_impl_Weave.mk x34.Parents x34.Bodies) x36).bind fun x40 => (laws_eqStringS x40.1 x30.1).bind fun x45 => (if (!x45) then some true else some (x40.2 != x30.2)).bind fun b => (if b then some false
  else (laws_toWeave (T_laws_Weave.mk aW.Parents aW.Bodies)).bind fun x54 => (laws_eqWeave (T_impl_Weave.mk x34.Parents x34.Bodies) (T_impl_Weave.mk x54.Parents x54.Bodies)).bind fun x55 => (if (!x55) then some false
  else (laws_toIntS aList).bind fun x59 => (laws_eqIntS x36 x59).bind fun x60 => (if (!x60) then some false
  else (laws_markWeave (T_impl_Weave.mk x34.Parents x34.Bodies) 1).bind fun x64 => (laws_markIntS x36 x64).bind fun x67 => (if (decide (x67.1 < 0)) then some true else (laws_eqStringS x40.1 x30.1).bind fun x73 => some (!x73)).bind fun b_1 => (if b_1 then some true else some (x40.2 != x30.2)).bind fun b_2 => (if b_2 then some false
  else (laws_markStringS x40.1 1).bind fun x83 => (laws_heldStringS x83.2 1).bind fun x86 => (if (decide (x86 < 0)) then some false
  else (if (x86 != x83.1) then some false
  else (laws_toWeave (T_laws_Weave.mk aW.Parents aW.Bodies)).bind fun x94 => (laws_toIntS aList).bind fun x96 => (impl_Blend (T_impl_Weave.mk x94.Parents x94.Bodies) x96).bind fun x97 => (laws_eqStringS x97.1 x30.1).bind fun x102 => (if (!x102) then some true else some (x97.2 != x30.2)).bind fun b_3 => (if b_3 then some false
  else (laws_heldStringS x83.2 1).bind fun x111 => (if (decide (x111 < 0)) then some false
  else (if (x111 != x83.1) then some false
  else some true)))))))))))
noncomputable def spec_l07In_j1 : Option (Bool) :=
  some false
noncomputable def spec_l07In_l1 (list_ : List Int) (x : Int) (i : Int) : Option ((Int) ⊕ ((Bool) ⊕ (Unit))) :=
  (if (decide (i < (list_.length : Int))) then (geti list_ i).bind fun x_1 => (if (x_1 == x) then some (.inr (.inl true))
  else some (.inl (wk .i64 (i + 1))))
  else some (.inr (.inr ())))
noncomputable def spec_l07In (list_ : List Int) (x : Int) : Option Bool :=
  (loopM (fun (s' : Int) => spec_l07In_l1 list_ x s') (0)).bind fun p => (match p with | .inl c' => some c' | .inr q => spec_l07In_j1)
noncomputable def spec_PickOn_j1 (n : Int) (out_ : List ByteArray) : Option ((List ByteArray) × Int × Int) :=
  some (out_, n, 0)
noncomputable def spec_PickOn_j2 (n_1 : Int) (i : Int) (x43 : Bool) (x47 : Bool) (out__2 : List ByteArray) : Option ((Int × Int × (List ByteArray)) ⊕ (Int × (List ByteArray))) :=
  (if x47 then some (!x43) else some false).bind fun b => (if b then some (.inl ((wk .i64 (n_1 + 1)), (wk .i64 (i + 1)), out__2))
  else some (.inl (n_1, (wk .i64 (i + 1)), out__2)))
noncomputable def spec_PickOn_l1 (w : T_impl_Weave) (v : Int) (x28 : (List Bool)) (n_1 : Int) (i : Int) (out__1 : List ByteArray) : Option ((Int × Int × (List ByteArray)) ⊕ (Int × (List ByteArray))) :=
  (if (decide (i < (w.Bodies.length : Int))) then (geti w.Bodies i).bind fun x => (spec_l06Live (T_impl_Body.mk x.Line x.Ins x.Ord x.Dels) x28).bind fun x43 => (spec_l07In x.Dels v).bind fun x47 => (if x43 then some (!x47) else some false).bind fun b_1 => (if b_1 then some true else some (x.Ins == v)).bind fun b_2 => (if b_2 then (appn out__1 [x.Line]).bind fun l => spec_PickOn_j2 n_1 i x43 x47 l
  else spec_PickOn_j2 n_1 i x43 x47 out__1)
  else some (.inr (n_1, out__1)))
noncomputable def spec_PickOn (w : T_impl_Weave) (onto : Int) (v : Int) : Option ((List ByteArray) × Int × Int) :=
  (spec_l23Code (T_impl_Weave.mk w.Parents w.Bodies) onto v).bind fun x21 => (if (x21 != 0) then some ([], 0, x21)
  else (spec_l06Closure (T_impl_Weave.mk w.Parents w.Bodies) onto).bind fun x28 => (loopM (fun (s' : Int × Int × (List ByteArray)) => spec_PickOn_l1 w v x28 s'.1 s'.2.1 s'.2.2) (0, 0, [])).bind fun p => spec_PickOn_j1 p.1 p.2)
noncomputable def slices_Index_int_int_j1 : Option (Int) :=
  some (-1)
noncomputable def slices_Index_int_int_l1 (s : List Int) (v : Int) (x8 : Int) : Option ((Int) ⊕ ((Int) ⊕ (Unit))) :=
  (if (decide (x8 < (s.length : Int))) then (geti s x8).bind fun x => (if (v == x) then some (.inr (.inl x8))
  else some (.inl (wk .i64 (x8 + 1))))
  else some (.inr (.inr ())))
noncomputable def slices_Index_int_int (s : List Int) (v : Int) : Option Int :=
  (loopM (fun (s' : Int) => slices_Index_int_int_l1 s v s') (0)).bind fun p => (match p with | .inl c' => some c' | .inr q => slices_Index_int_int_j1)
noncomputable def slices_Contains_int_int (s : List Int) (v : Int) : Option Bool :=
  (slices_Index_int_int s v).bind fun x7 => some (decide (x7 ≥ 0))
noncomputable def impl_Body_hasDel (b : T_impl_Body) (v : Int) : Option Bool :=
  (slices_Contains_int_int b.Dels v).bind fun x8 => some x8
noncomputable def impl_PickOn_c1 (b : T_impl_Body) (c : Int) (c_1 : Int) : Option Bool :=
  (impl_Body_isLive (T_impl_Body.mk b.Line b.Ins b.Ord b.Dels) c).bind fun x7 => (if x7 then (impl_Body_hasDel (T_impl_Body.mk b.Line b.Ins b.Ord b.Dels) c_1).bind fun x11 => some (!x11) else some false).bind fun b_1 => (if b_1 then some true else some (b.Ins == c_1)).bind fun b_2 => some b_2
noncomputable def impl_PickOn_c2 (b : T_impl_Body) (c : Int) (c_1 : Int) : Option Bool :=
  (impl_Body_hasDel (T_impl_Body.mk b.Line b.Ins b.Ord b.Dels) c).bind fun x7 => (if x7 then (impl_Body_isLive (T_impl_Body.mk b.Line b.Ins b.Ord b.Dels) c_1).bind fun x11 => some (!x11) else some false).bind fun b_1 => some b_1
noncomputable def impl_PickOn (w : T_impl_Weave) (onto : Int) (v : Int) : Option ((List ByteArray) × Int × Int) :=
  (impl_versionsCode (T_impl_Weave.mk w.Parents w.Bodies) [onto, v]).bind fun x17 => (if (x17 != 0) then some ([], 0, x17)
  else (impl_closures w.Parents).bind fun x23 => (geti x23 onto).bind fun x => (impl_pickBy (T_impl_Weave.mk w.Parents w.Bodies) (fun z0' => impl_PickOn_c1 z0' x v) (fun z0' => impl_PickOn_c2 z0' v x)).bind fun x31 => some (x31.1, x31.2, 0))
noncomputable def laws_FnExactPickOn (aW : T_laws_Weave) (aOnto : Int) (aV : Int) : Option Bool :=
  (laws_szWeave (T_laws_Weave.mk aW.Parents aW.Bodies) 1048576).bind fun x23 => (if (decide (x23 < 0)) then some true
  else (laws_toWeave (T_laws_Weave.mk aW.Parents aW.Bodies)).bind fun x28 => (spec_PickOn (T_impl_Weave.mk x28.Parents x28.Bodies) aOnto aV).bind fun x31 => (laws_toWeave (T_laws_Weave.mk aW.Parents aW.Bodies)).bind fun x36 => (impl_PickOn (T_impl_Weave.mk x36.Parents x36.Bodies) aOnto aV).bind fun x41 => (laws_eqStringS x41.1 x31.1).bind fun x47 => (if (!x47) then some true else some (x41.2.1 != x31.2.1)).bind fun b => (if b then some true else some (x41.2.2 != x31.2.2)).bind fun b_1 => (if b_1 then some false
  else (laws_toWeave (T_laws_Weave.mk aW.Parents aW.Bodies)).bind fun x61 => (laws_eqWeave (T_impl_Weave.mk x36.Parents x36.Bodies) (T_impl_Weave.mk x61.Parents x61.Bodies)).bind fun x62 => (if (!x62) then some false
  else (laws_markWeave (T_impl_Weave.mk x36.Parents x36.Bodies) 1).bind fun x66 => (if (decide (x66 < 0)) then some true else (laws_eqStringS x41.1 x31.1).bind fun x72 => some (!x72)).bind fun b_2 => (if b_2 then some true else some (x41.2.1 != x31.2.1)).bind fun b_3 => (if b_3 then some true else some (x41.2.2 != x31.2.2)).bind fun b_4 => (if b_4 then some false
  else (laws_markStringS x41.1 1).bind fun x87 => (laws_heldStringS x87.2 1).bind fun x90 => (if (decide (x90 < 0)) then some false
  else (if (x90 != x87.1) then some false
  else (laws_toWeave (T_laws_Weave.mk aW.Parents aW.Bodies)).bind fun x98 => (impl_PickOn (T_impl_Weave.mk x98.Parents x98.Bodies) aOnto aV).bind fun x101 => (laws_eqStringS x101.1 x31.1).bind fun x107 => (if (!x107) then some true else some (x101.2.1 != x31.2.1)).bind fun b_5 => (if b_5 then some true else some (x101.2.2 != x31.2.2)).bind fun b_6 => (if b_6 then some false
  else (laws_heldStringS x87.2 1).bind fun x121 => (if (decide (x121 < 0)) then some false
  else (if (x121 != x87.1) then some false
  else some true)))))))))
noncomputable def impl_set_list_j1 (out_ : List Int) : Option ((List Int)) :=
  some out_
noncomputable def impl_set_list_l1 (s : Int) (x5 : Int) (out__1 : List Int) : Option ((Int × (List Int)) ⊕ ((List Int))) :=
  (if (decide (x5 < 64)) then (impl_set_has s x5).bind fun x10 => (if x10 then (appn out__1 [x5]).bind fun l => some (.inl ((wk .i64 (x5 + 1)), l))
  else some (.inl ((wk .i64 (x5 + 1)), out__1)))
  else some (.inr out__1))
noncomputable def impl_set_list (s : Int) : Option (List Int) :=
  (loopM (fun (s' : Int × (List Int)) => impl_set_list_l1 s s'.1 s'.2) (0, [])).bind fun p => impl_set_list_j1 p
noncomputable def impl_ClosureOf (parents : List (List Int)) (v : Int) : Option (List Int) :=
  (impl_isPlace v (parents.length : Int)).bind fun x8 => (if (!x8) then some true else (impl_GraphOk parents).bind fun x12 => some (!x12)).bind fun b => (if b then some []
  else (impl_closures parents).bind fun x16 => (geti x16 v).bind fun x => (impl_set_list x).bind fun x20 => some x20)
noncomputable def spec_l03All_j1 : Option (Bool) :=
  some true
noncomputable def spec_l03All_l1 (list_ : List ByteArray) (i : Int) : Option ((Int) ⊕ ((Bool) ⊕ (Unit))) :=
  (if (decide (i < (list_.length : Int))) then (geti list_ i).bind fun x => (spec_LineOk x).bind fun x20 => (if (!x20) then some (.inr (.inl false))
  else some (.inl (wk .i64 (i + 1))))
  else some (.inr (.inr ())))
noncomputable def spec_l03All (list_ : List ByteArray) (most : Int) : Option Bool :=
  (if (decide ((list_.length : Int) > most)) then some false
  else (loopM (fun (s' : Int) => spec_l03All_l1 list_ s') (0)).bind fun p => (match p with | .inl c' => some c' | .inr q => spec_l03All_j1))
noncomputable def spec_LinesOk (list_ : List ByteArray) : Option Bool :=
  (spec_l03All list_ 80).bind fun x4 => some x4
noncomputable def impl_areLines_j1 : Option (Bool) :=
  some true
noncomputable def impl_areLines_l1 (list_ : List ByteArray) (x7 : Int) : Option ((Int) ⊕ ((Bool) ⊕ (Unit))) :=
  (if (decide (x7 < (list_.length : Int))) then (geti list_ x7).bind fun x => (impl_LineOk x).bind fun x12 => (if (!x12) then some (.inr (.inl false))
  else some (.inl (wk .i64 (x7 + 1))))
  else some (.inr (.inr ())))
noncomputable def impl_areLines (list_ : List ByteArray) : Option Bool :=
  (loopM (fun (s' : Int) => impl_areLines_l1 list_ s') (0)).bind fun p => (match p with | .inl c' => some c' | .inr q => impl_areLines_j1)
noncomputable def impl_LinesOk (list_ : List ByteArray) : Option Bool :=
  (if (decide ((list_.length : Int) ≤ 80)) then (impl_areLines list_).bind fun x8 => some x8 else some false).bind fun b => some b
noncomputable def spec_l05Has (parents : List (List Int)) (v : Int) : Option Bool :=
  (spec_GraphOk parents).bind fun x6 => (if x6 then (spec_l01In v 0 (wk .i64 ((parents.length : Int) - 1))).bind fun x12 => some x12 else some false).bind fun b => some b
noncomputable def spec_l05List_j1 (out_ : List Int) : Option ((List Int)) :=
  some out_
noncomputable def spec_l05List_l1 (in_ : List Bool) (v : Int) (out__1 : List Int) : Option ((Int × (List Int)) ⊕ ((List Int))) :=
  (if (decide (v < (in_.length : Int))) then (geti in_ v).bind fun x => (if x then (appn out__1 [v]).bind fun l => some (.inl ((wk .i64 (v + 1)), l))
  else some (.inl ((wk .i64 (v + 1)), out__1)))
  else some (.inr out__1))
noncomputable def spec_l05List (in_ : List Bool) : Option (List Int) :=
  (loopM (fun (s' : Int × (List Int)) => spec_l05List_l1 in_ s'.1 s'.2) (0, [])).bind fun p => spec_l05List_j1 p
noncomputable def spec_ClosureOf (parents : List (List Int)) (v : Int) : Option (List Int) :=
  (spec_l05Has parents v).bind fun x7 => (if (!x7) then some []
  else (spec_l05Set parents [v]).bind fun x13 => (spec_l05List x13).bind fun x14 => some x14)
end Go.TV.F
