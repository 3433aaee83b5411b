/- Structures and their rows. -/
import Derived.Test.YtbapbpnchdpbhaaGreatKFnRecordsT4
set_option linter.unusedVariables false
set_option linter.unusedSimpArgs false
set_option maxHeartbeats 8000000
set_option maxRecDepth 100000
namespace Go.TV
structure T_spec_l01Cur where
 b:List Int
 i:Int
 h:Int
 deriving Inhabited
structure T_impl_Body where
 Line:ByteArray
 Ins:Int
 Ord:Int
 Dels:List Int
 deriving Inhabited
structure T_impl_Weave where
 Parents:List (List Int)
 Bodies:List T_impl_Body
 deriving Inhabited
structure T_impl_Rec where
 Kind:Int
 Version:Int
 Line:ByteArray
 deriving Inhabited
structure T_impl_walker where
 open_:Bool
 ins:Int
 dels:List Int
 deriving Inhabited
structure T_impl_Name where
 Path:ByteArray
 Id:Int
 Version:Int
 deriving Inhabited
structure T_impl_Commit where
 Parents:List Int
 Note:ByteArray
 Names:List T_impl_Name
 deriving Inhabited
structure T_impl_Store where
 Commits:List T_impl_Commit
 Files:List T_impl_Weave
 deriving Inhabited
theorem R_u8:(∀ (l:List Int) (i:Nat) (a0:Int),(List.map (rK .u8) l).set i [.sc (.int .u8 a0)]=List.map (rK .u8) (l.set i a0)) ∧
 (∀ (l:List Int) (a0:Int),List.map (rK .u8) l++[[.sc (.int .u8 a0)]]=List.map (rK .u8) (l++[a0])) ∧
 (∀ (l:List Int) (b0 b1:Int),List.map (rK .u8) l++[[.sc (.int .u8 b0)],[.sc (.int .u8 b1)]]=List.map (rK .u8) (l++[b0,b1])) ∧
 (∀ (l:List Int) (b0 b1 b2:Int),List.map (rK .u8) l++[[.sc (.int .u8 b0)],[.sc (.int .u8 b1)],[.sc (.int .u8 b2)]]=List.map (rK .u8) (l++[b0,b1,b2])) ∧
 (∀ (l:List Int) (b0 b1 b2 b3:Int),List.map (rK .u8) l++[[.sc (.int .u8 b0)],[.sc (.int .u8 b1)],[.sc (.int .u8 b2)],[.sc (.int .u8 b3)]]=List.map (rK .u8) (l++[b0,b1,b2,b3])) ∧
 (∀ n:Nat,List.replicate n [.sc (.int .u8 0)]=List.map (rK .u8) (List.replicate n 0)) ∧
 (∀ l:List Int,borRows (List.map (rK .u8) l)=List.map (rK .u8) l) ∧
 (∀ l:List Int,qE (List.map (rK .u8) l)=true) ∧
 (∀ l:List Int,zK (List.map (rK .u8) l)=true) ∧
 (∀ l:List Int,scRows (List.map (rK .u8) l)=true):=
 ⟨fun l i a0=>set_rows (rK .u8) l i a0,
 fun l a0=>zZ (rK .u8) l [a0],
 fun l b0 b1=>zZ (rK .u8) l [b0,b1],
 fun l b0 b1 b2=>zZ (rK .u8) l [b0,b1,b2],
 fun l b0 b1 b2 b3=>zZ (rK .u8) l [b0,b1,b2,b3],
 fun n=>rep_rows (rK .u8) 0 n,
 bor_rows (fun _=>rfl),
 alRows (fun _=>rfl),
 nb_rows (fun _=>rfl),
 scRw (fun _=>rfl)⟩
theorem R_i64:(∀ (l:List Int) (i:Nat) (a0:Int),(List.map (rK .i64) l).set i [.sc (.int .i64 a0)]=List.map (rK .i64) (l.set i a0)) ∧
 (∀ (l:List Int) (a0:Int),List.map (rK .i64) l++[[.sc (.int .i64 a0)]]=List.map (rK .i64) (l++[a0])) ∧
 (∀ (l:List Int) (b0 b1:Int),List.map (rK .i64) l++[[.sc (.int .i64 b0)],[.sc (.int .i64 b1)]]=List.map (rK .i64) (l++[b0,b1])) ∧
 (∀ (l:List Int) (b0 b1 b2:Int),List.map (rK .i64) l++[[.sc (.int .i64 b0)],[.sc (.int .i64 b1)],[.sc (.int .i64 b2)]]=List.map (rK .i64) (l++[b0,b1,b2])) ∧
 (∀ (l:List Int) (b0 b1 b2 b3:Int),List.map (rK .i64) l++[[.sc (.int .i64 b0)],[.sc (.int .i64 b1)],[.sc (.int .i64 b2)],[.sc (.int .i64 b3)]]=List.map (rK .i64) (l++[b0,b1,b2,b3])) ∧
 (∀ n:Nat,List.replicate n [.sc (.int .i64 0)]=List.map (rK .i64) (List.replicate n 0)) ∧
 (∀ l:List Int,borRows (List.map (rK .i64) l)=List.map (rK .i64) l) ∧
 (∀ l:List Int,qE (List.map (rK .i64) l)=true) ∧
 (∀ l:List Int,zK (List.map (rK .i64) l)=true) ∧
 (∀ l:List Int,scRows (List.map (rK .i64) l)=true):=
 ⟨fun l i a0=>set_rows (rK .i64) l i a0,
 fun l a0=>zZ (rK .i64) l [a0],
 fun l b0 b1=>zZ (rK .i64) l [b0,b1],
 fun l b0 b1 b2=>zZ (rK .i64) l [b0,b1,b2],
 fun l b0 b1 b2 b3=>zZ (rK .i64) l [b0,b1,b2,b3],
 fun n=>rep_rows (rK .i64) 0 n,
 bor_rows (fun _=>rfl),
 alRows (fun _=>rfl),
 nb_rows (fun _=>rfl),
 scRw (fun _=>rfl)⟩
theorem R_b:(∀ (l:List Bool) (i:Nat) (a0:Bool),(List.map rB l).set i [.sc (.bool a0)]=List.map rB (l.set i a0)) ∧
 (∀ (l:List Bool) (a0:Bool),List.map rB l++[[.sc (.bool a0)]]=List.map rB (l++[a0])) ∧
 (∀ (l:List Bool) (b0 b1:Bool),List.map rB l++[[.sc (.bool b0)],[.sc (.bool b1)]]=List.map rB (l++[b0,b1])) ∧
 (∀ (l:List Bool) (b0 b1 b2:Bool),List.map rB l++[[.sc (.bool b0)],[.sc (.bool b1)],[.sc (.bool b2)]]=List.map rB (l++[b0,b1,b2])) ∧
 (∀ (l:List Bool) (b0 b1 b2 b3:Bool),List.map rB l++[[.sc (.bool b0)],[.sc (.bool b1)],[.sc (.bool b2)],[.sc (.bool b3)]]=List.map rB (l++[b0,b1,b2,b3])) ∧
 (∀ n:Nat,List.replicate n [.sc (.bool false)]=List.map rB (List.replicate n false)) ∧
 (∀ l:List Bool,borRows (List.map rB l)=List.map rB l) ∧
 (∀ l:List Bool,qE (List.map rB l)=true) ∧
 (∀ l:List Bool,zK (List.map rB l)=true) ∧
 (∀ l:List Bool,scRows (List.map rB l)=true):=
 ⟨fun l i a0=>set_rows rB l i a0,
 fun l a0=>zZ rB l [a0],
 fun l b0 b1=>zZ rB l [b0,b1],
 fun l b0 b1 b2=>zZ rB l [b0,b1,b2],
 fun l b0 b1 b2 b3=>zZ rB l [b0,b1,b2,b3],
 fun n=>rep_rows rB false n,
 bor_rows (fun _=>rfl),
 alRows (fun _=>rfl),
 nb_rows (fun _=>rfl),
 scRw (fun _=>rfl)⟩
theorem R_Li64:(∀ (l:List (List Int)) (i:Nat) (a0:List Int),(List.map (rL true 1 (rK .i64)) l).set i [.list true 1 (List.map (rK .i64) a0)]=List.map (rL true 1 (rK .i64)) (l.set i a0)) ∧
 (∀ (l:List (List Int)) (a0:List Int),List.map (rL true 1 (rK .i64)) l++[[.list true 1 (List.map (rK .i64) a0)]]=List.map (rL true 1 (rK .i64)) (l++[a0])) ∧
 (∀ (l:List (List Int)) (i:Nat) (a0:List Int),(List.map (rL false 1 (rK .i64)) l).set i [.list false 1 (List.map (rK .i64) a0)]=List.map (rL false 1 (rK .i64)) (l.set i a0)) ∧
 (∀ (l:List (List Int)) (a0:List Int),List.map (rL false 1 (rK .i64)) l++[[.list false 1 (List.map (rK .i64) a0)]]=List.map (rL false 1 (rK .i64)) (l++[a0])) ∧
 (∀ (l:List (List Int)) (i:Nat),(List.map (rL true 1 (rK .i64)) l).set i [.list true 1 []]=List.map (rL true 1 (rK .i64)) (l.set i [])) ∧
 (∀ (l:List (List Int)),List.map (rL true 1 (rK .i64)) l++[[.list true 1 []]]=List.map (rL true 1 (rK .i64)) (l++[[]])) ∧
 (∀ l:List (List Int),borRows (List.map (rL true 1 (rK .i64)) l)=List.map (rL false 1 (rK .i64)) l) ∧
 (∀ l:List (List Int),qE (List.map (rL true 1 (rK .i64)) l)=true) ∧
 (∀ l:List (List Int),borRows (List.map (rL false 1 (rK .i64)) l)=List.map (rL false 1 (rK .i64)) l) ∧
 (∀ l:List (List Int),qE (List.map (rL false 1 (rK .i64)) l)=true) ∧
 (∀ l:List (List Int),zK (List.map (rL true 1 (rK .i64)) l)=true):=
 ⟨fun l i a0=>set_rows (rL true 1 (rK .i64)) l i a0,
 fun l a0=>zZ (rL true 1 (rK .i64)) l [a0],
 fun l i a0=>set_rows (rL false 1 (rK .i64)) l i a0,
 fun l a0=>zZ (rL false 1 (rK .i64)) l [a0],
 fun l i=>set_rows (rL true 1 (rK .i64)) l i [],
 fun l=>zZ (rL true 1 (rK .i64)) l [[]],
 bor_rows (bor_rL (fun _=>rfl)),
 alRows (fun _=>rfl),
 bor_rows (bor_rL (fun _=>rfl)),
 alRows (fun _=>rfl),
 nb_rows (nb_rL (fun _=>rfl))⟩
def zA (o:Bool) (x:T_impl_Body):List V:=[.sc (.string x.Line),.sc (.int .i64 x.Ins),.sc (.int .i64 x.Ord),.list o 1 (List.map (rK .i64) x.Dels)]
theorem zV:(∀ (l:List T_impl_Body) (i:Nat) (a0:ByteArray) (a1:Int) (a2:Int) (a3:List Int),(List.map (zA true) l).set i [.sc (.string a0),.sc (.int .i64 a1),.sc (.int .i64 a2),.list true 1 (List.map (rK .i64) a3)]=List.map (zA true) (l.set i (T_impl_Body.mk a0 a1 a2 a3))) ∧
 (∀ (l:List T_impl_Body) (a0:ByteArray) (a1:Int) (a2:Int) (a3:List Int),List.map (zA true) l++[[.sc (.string a0),.sc (.int .i64 a1),.sc (.int .i64 a2),.list true 1 (List.map (rK .i64) a3)]]=List.map (zA true) (l++[(T_impl_Body.mk a0 a1 a2 a3)])) ∧
 (∀ (l:List T_impl_Body) (i:Nat) (a0:ByteArray) (a1:Int) (a2:Int) (a3:List Int),(List.map (zA false) l).set i [.sc (.string a0),.sc (.int .i64 a1),.sc (.int .i64 a2),.list false 1 (List.map (rK .i64) a3)]=List.map (zA false) (l.set i (T_impl_Body.mk a0 a1 a2 a3))) ∧
 (∀ (l:List T_impl_Body) (a0:ByteArray) (a1:Int) (a2:Int) (a3:List Int),List.map (zA false) l++[[.sc (.string a0),.sc (.int .i64 a1),.sc (.int .i64 a2),.list false 1 (List.map (rK .i64) a3)]]=List.map (zA false) (l++[(T_impl_Body.mk a0 a1 a2 a3)])) ∧
 (∀ (l:List T_impl_Body) (i:Nat) (a0:ByteArray) (a1:Int) (a2:Int),(List.map (zA true) l).set i [.sc (.string a0),.sc (.int .i64 a1),.sc (.int .i64 a2),.list true 1 []]=List.map (zA true) (l.set i (T_impl_Body.mk a0 a1 a2 []))) ∧
 (∀ (l:List T_impl_Body) (a0:ByteArray) (a1:Int) (a2:Int),List.map (zA true) l++[[.sc (.string a0),.sc (.int .i64 a1),.sc (.int .i64 a2),.list true 1 []]]=List.map (zA true) (l++[(T_impl_Body.mk a0 a1 a2 [])])) ∧
 (∀ l:List T_impl_Body,borRows (List.map (zA true) l)=List.map (zA false) l) ∧
 (∀ l:List T_impl_Body,qE (List.map (zA true) l)=true) ∧
 (∀ l:List T_impl_Body,borRows (List.map (zA false) l)=List.map (zA false) l) ∧
 (∀ l:List T_impl_Body,qE (List.map (zA false) l)=true) ∧
 (∀ l:List T_impl_Body,zK (List.map (zA true) l)=true) ∧
 (∀ x:T_impl_Body,zA true x=[.sc (.string x.Line),.sc (.int .i64 x.Ins),.sc (.int .i64 x.Ord),.list true 1 (List.map (rK .i64) x.Dels)]) ∧
 (∀ x:T_impl_Body,zA false x=[.sc (.string x.Line),.sc (.int .i64 x.Ins),.sc (.int .i64 x.Ord),.list false 1 (List.map (rK .i64) x.Dels)]):=
 ⟨fun l i a0 a1 a2 a3=>set_rows (zA true) l i (T_impl_Body.mk a0 a1 a2 a3),
 fun l a0 a1 a2 a3=>zZ (zA true) l [(T_impl_Body.mk a0 a1 a2 a3)],
 fun l i a0 a1 a2 a3=>set_rows (zA false) l i (T_impl_Body.mk a0 a1 a2 a3),
 fun l a0 a1 a2 a3=>zZ (zA false) l [(T_impl_Body.mk a0 a1 a2 a3)],
 fun l i a0 a1 a2=>set_rows (zA true) l i (T_impl_Body.mk a0 a1 a2 []),
 fun l a0 a1 a2=>zZ (zA true) l [(T_impl_Body.mk a0 a1 a2 [])],
 bor_rows (fun x=>by simp only [zA,borRow,V.bor,(show ∀ l:List Int,borRows (List.map (rK .i64) l)=List.map (rK .i64) l from bor_rows (fun _=>rfl))]),
 alRows (fun _=>rfl),
 bor_rows (fun x=>by simp only [zA,borRow,V.bor,(show ∀ l:List Int,borRows (List.map (rK .i64) l)=List.map (rK .i64) l from bor_rows (fun _=>rfl))]),
 alRows (fun _=>rfl),
 nb_rows (fun x=>by simp only [zA,zO,V.noBor,Bool.and_true,Bool.true_and,(show ∀ l:List Int,zK (List.map (rK .i64) l)=true from nb_rows (fun _=>rfl))]),
 fun _=>rfl,
 fun _=>rfl⟩
theorem R_s:(∀ (l:List ByteArray) (i:Nat) (a0:ByteArray),(List.map rS l).set i [.sc (.string a0)]=List.map rS (l.set i a0)) ∧
 (∀ (l:List ByteArray) (a0:ByteArray),List.map rS l++[[.sc (.string a0)]]=List.map rS (l++[a0])) ∧
 (∀ (l:List ByteArray) (b0 b1:ByteArray),List.map rS l++[[.sc (.string b0)],[.sc (.string b1)]]=List.map rS (l++[b0,b1])) ∧
 (∀ (l:List ByteArray) (b0 b1 b2:ByteArray),List.map rS l++[[.sc (.string b0)],[.sc (.string b1)],[.sc (.string b2)]]=List.map rS (l++[b0,b1,b2])) ∧
 (∀ (l:List ByteArray) (b0 b1 b2 b3:ByteArray),List.map rS l++[[.sc (.string b0)],[.sc (.string b1)],[.sc (.string b2)],[.sc (.string b3)]]=List.map rS (l++[b0,b1,b2,b3])) ∧
 (∀ n:Nat,List.replicate n [.sc (.string (ByteArray.mk #[]))]=List.map rS (List.replicate n (ByteArray.mk #[]))) ∧
 (∀ l:List ByteArray,borRows (List.map rS l)=List.map rS l) ∧
 (∀ l:List ByteArray,qE (List.map rS l)=true) ∧
 (∀ l:List ByteArray,zK (List.map rS l)=true) ∧
 (∀ l:List ByteArray,scRows (List.map rS l)=true):=
 ⟨fun l i a0=>set_rows rS l i a0,
 fun l a0=>zZ rS l [a0],
 fun l b0 b1=>zZ rS l [b0,b1],
 fun l b0 b1 b2=>zZ rS l [b0,b1,b2],
 fun l b0 b1 b2 b3=>zZ rS l [b0,b1,b2,b3],
 fun n=>rep_rows rS (ByteArray.mk #[]) n,
 bor_rows (fun _=>rfl),
 alRows (fun _=>rfl),
 nb_rows (fun _=>rfl),
 scRw (fun _=>rfl)⟩
theorem R_Ls:(∀ (l:List (List ByteArray)) (i:Nat) (a0:List ByteArray),(List.map (rL true 1 rS) l).set i [.list true 1 (List.map rS a0)]=List.map (rL true 1 rS) (l.set i a0)) ∧
 (∀ (l:List (List ByteArray)) (a0:List ByteArray),List.map (rL true 1 rS) l++[[.list true 1 (List.map rS a0)]]=List.map (rL true 1 rS) (l++[a0])) ∧
 (∀ (l:List (List ByteArray)) (i:Nat) (a0:List ByteArray),(List.map (rL false 1 rS) l).set i [.list false 1 (List.map rS a0)]=List.map (rL false 1 rS) (l.set i a0)) ∧
 (∀ (l:List (List ByteArray)) (a0:List ByteArray),List.map (rL false 1 rS) l++[[.list false 1 (List.map rS a0)]]=List.map (rL false 1 rS) (l++[a0])) ∧
 (∀ (l:List (List ByteArray)) (i:Nat),(List.map (rL true 1 rS) l).set i [.list true 1 []]=List.map (rL true 1 rS) (l.set i [])) ∧
 (∀ (l:List (List ByteArray)),List.map (rL true 1 rS) l++[[.list true 1 []]]=List.map (rL true 1 rS) (l++[[]])) ∧
 (∀ l:List (List ByteArray),borRows (List.map (rL true 1 rS) l)=List.map (rL false 1 rS) l) ∧
 (∀ l:List (List ByteArray),qE (List.map (rL true 1 rS) l)=true) ∧
 (∀ l:List (List ByteArray),borRows (List.map (rL false 1 rS) l)=List.map (rL false 1 rS) l) ∧
 (∀ l:List (List ByteArray),qE (List.map (rL false 1 rS) l)=true) ∧
 (∀ l:List (List ByteArray),zK (List.map (rL true 1 rS) l)=true):=
 ⟨fun l i a0=>set_rows (rL true 1 rS) l i a0,
 fun l a0=>zZ (rL true 1 rS) l [a0],
 fun l i a0=>set_rows (rL false 1 rS) l i a0,
 fun l a0=>zZ (rL false 1 rS) l [a0],
 fun l i=>set_rows (rL true 1 rS) l i [],
 fun l=>zZ (rL true 1 rS) l [[]],
 bor_rows (bor_rL (fun _=>rfl)),
 alRows (fun _=>rfl),
 bor_rows (bor_rL (fun _=>rfl)),
 alRows (fun _=>rfl),
 nb_rows (nb_rL (fun _=>rfl))⟩
theorem R_u64:(∀ (l:List Int) (i:Nat) (a0:Int),(List.map (rK .u64) l).set i [.sc (.int .u64 a0)]=List.map (rK .u64) (l.set i a0)) ∧
 (∀ (l:List Int) (a0:Int),List.map (rK .u64) l++[[.sc (.int .u64 a0)]]=List.map (rK .u64) (l++[a0])) ∧
 (∀ (l:List Int) (b0 b1:Int),List.map (rK .u64) l++[[.sc (.int .u64 b0)],[.sc (.int .u64 b1)]]=List.map (rK .u64) (l++[b0,b1])) ∧
 (∀ (l:List Int) (b0 b1 b2:Int),List.map (rK .u64) l++[[.sc (.int .u64 b0)],[.sc (.int .u64 b1)],[.sc (.int .u64 b2)]]=List.map (rK .u64) (l++[b0,b1,b2])) ∧
 (∀ (l:List Int) (b0 b1 b2 b3:Int),List.map (rK .u64) l++[[.sc (.int .u64 b0)],[.sc (.int .u64 b1)],[.sc (.int .u64 b2)],[.sc (.int .u64 b3)]]=List.map (rK .u64) (l++[b0,b1,b2,b3])) ∧
 (∀ n:Nat,List.replicate n [.sc (.int .u64 0)]=List.map (rK .u64) (List.replicate n 0)) ∧
 (∀ l:List Int,borRows (List.map (rK .u64) l)=List.map (rK .u64) l) ∧
 (∀ l:List Int,qE (List.map (rK .u64) l)=true) ∧
 (∀ l:List Int,zK (List.map (rK .u64) l)=true) ∧
 (∀ l:List Int,scRows (List.map (rK .u64) l)=true):=
 ⟨fun l i a0=>set_rows (rK .u64) l i a0,
 fun l a0=>zZ (rK .u64) l [a0],
 fun l b0 b1=>zZ (rK .u64) l [b0,b1],
 fun l b0 b1 b2=>zZ (rK .u64) l [b0,b1,b2],
 fun l b0 b1 b2 b3=>zZ (rK .u64) l [b0,b1,b2,b3],
 fun n=>rep_rows (rK .u64) 0 n,
 bor_rows (fun _=>rfl),
 alRows (fun _=>rfl),
 nb_rows (fun _=>rfl),
 scRw (fun _=>rfl)⟩
def zC (o:Bool) (x:T_impl_Rec):List V:=[.sc (.int .i64 x.Kind),.sc (.int .i64 x.Version),.sc (.string x.Line)]
theorem R_T_impl_Rec:(∀ (l:List T_impl_Rec) (i:Nat) (a0:Int) (a1:Int) (a2:ByteArray),(List.map (zC true) l).set i [.sc (.int .i64 a0),.sc (.int .i64 a1),.sc (.string a2)]=List.map (zC true) (l.set i (T_impl_Rec.mk a0 a1 a2))) ∧
 (∀ (l:List T_impl_Rec) (a0:Int) (a1:Int) (a2:ByteArray),List.map (zC true) l++[[.sc (.int .i64 a0),.sc (.int .i64 a1),.sc (.string a2)]]=List.map (zC true) (l++[(T_impl_Rec.mk a0 a1 a2)])) ∧
 (∀ (l:List T_impl_Rec) (i:Nat) (a0:Int) (a1:Int) (a2:ByteArray),(List.map (zC true) l).set i [.sc (.int .i64 a0),.sc (.int .i64 a1),.sc (.string a2)]=List.map (zC true) (l.set i (T_impl_Rec.mk a0 a1 a2))) ∧
 (∀ (l:List T_impl_Rec) (a0:Int) (a1:Int) (a2:ByteArray),List.map (zC true) l++[[.sc (.int .i64 a0),.sc (.int .i64 a1),.sc (.string a2)]]=List.map (zC true) (l++[(T_impl_Rec.mk a0 a1 a2)])) ∧
 (∀ l:List T_impl_Rec,borRows (List.map (zC true) l)=List.map (zC true) l) ∧
 (∀ l:List T_impl_Rec,qE (List.map (zC true) l)=true) ∧
 (∀ l:List T_impl_Rec,borRows (List.map (zC true) l)=List.map (zC true) l) ∧
 (∀ l:List T_impl_Rec,qE (List.map (zC true) l)=true) ∧
 (∀ l:List T_impl_Rec,zK (List.map (zC true) l)=true) ∧
 (∀ l:List T_impl_Rec,scRows (List.map (zC true) l)=true) ∧
 (∀ x:T_impl_Rec,zC true x=[.sc (.int .i64 x.Kind),.sc (.int .i64 x.Version),.sc (.string x.Line)]) ∧
 (∀ x:T_impl_Rec,zC false x=[.sc (.int .i64 x.Kind),.sc (.int .i64 x.Version),.sc (.string x.Line)]):=
 ⟨fun l i a0 a1 a2=>set_rows (zC true) l i (T_impl_Rec.mk a0 a1 a2),
 fun l a0 a1 a2=>zZ (zC true) l [(T_impl_Rec.mk a0 a1 a2)],
 fun l i a0 a1 a2=>set_rows (zC true) l i (T_impl_Rec.mk a0 a1 a2),
 fun l a0 a1 a2=>zZ (zC true) l [(T_impl_Rec.mk a0 a1 a2)],
 bor_rows (fun _=>rfl),
 alRows (fun _=>rfl),
 bor_rows (fun _=>rfl),
 alRows (fun _=>rfl),
 nb_rows (fun _=>rfl),
 scRw (fun _=>rfl),
 fun _=>rfl,
 fun _=>rfl⟩
end Go.TV
namespace Go.TV.F
noncomputable def laws_big (code:List Int):Option Bool:=
 some (decide ((code.length:Int) > 1048576))
noncomputable def spec_l01New_j1 (code:List Int) (h:Int):Option (T_spec_l01Cur):=
 some (T_spec_l01Cur.mk code 0 h)
noncomputable def spec_l01New_l1 (code:List Int) (h_1:Int) (i:Int):Option ((Int×Int)⊕(Int)):=
 (if (decide (i < (code.length:Int))) then some (decide (i < 4000)) else some false).bind fun b=>(if b then (geti code i).bind fun x=>some (.inl ((bits .and .i64 (wk .i64 ((wk .i64 ((wk .i64 (h_1 * 131))+(wk .i64 x)))+7)) 1073741823),(wk .i64 (i+1))))
 else some (.inr h_1))
noncomputable def spec_l01New (code:List Int):Option T_spec_l01Cur:=
 (zG (fun (s':Int×Int)=>spec_l01New_l1 code s'.1 s'.2) ((wk .i64 (73073+(code.length:Int))),0)).bind fun p=>spec_l01New_j1 code p
noncomputable def spec_l06Size (code:List Int):Option Int:=
 (if (decide ((wk .i64 (3+(wk .i64 ((code.length:Int).tdiv 25)))) > 12)) then some 12
 else some (wk .i64 (3+(wk .i64 ((code.length:Int).tdiv 25)))))
noncomputable def spec_l01Byte (c:T_spec_l01Cur):Option (Int×T_spec_l01Cur):=
 (if (decide (c.i < (c.b.length:Int))) then (geti c.b c.i).bind fun x=>some ((bits .and .i64 (wk .i64 ((bits .and .i64 (bits .xor .i64 (shrI .i64 (wk .i64 ((wk .i64 (c.h * 6364136223846793005))+1442695040888963407)) 33) (shrI .i64 (wk .i64 ((wk .i64 (c.h * 6364136223846793005))+1442695040888963407)) 45)) 255)+(wk .i64 x))) 255),(T_spec_l01Cur.mk c.b (wk .i64 (c.i+1)) (wk .i64 ((wk .i64 (c.h * 6364136223846793005))+1442695040888963407))))
 else some ((bits .and .i64 (bits .xor .i64 (shrI .i64 (wk .i64 ((wk .i64 (c.h * 6364136223846793005))+1442695040888963407)) 33) (shrI .i64 (wk .i64 ((wk .i64 (c.h * 6364136223846793005))+1442695040888963407)) 45)) 255),(T_spec_l01Cur.mk c.b c.i (wk .i64 ((wk .i64 (c.h * 6364136223846793005))+1442695040888963407)))))
noncomputable def qY (c:T_spec_l01Cur) (n:Int):Option (Int×T_spec_l01Cur):=
 (if (decide (n≤0)) then some (0,(T_spec_l01Cur.mk c.b c.i c.h))
 else (if (decide (n≤256)) then (spec_l01Byte (T_spec_l01Cur.mk c.b c.i c.h)).bind fun x14=>(chk (¬n=0)).bind fun u=>some (((x14.1:Int).tmod n),(T_spec_l01Cur.mk x14.2.b x14.2.i x14.2.h))
 else (spec_l01Byte (T_spec_l01Cur.mk c.b c.i c.h)).bind fun x18=>(spec_l01Byte (T_spec_l01Cur.mk x18.2.b x18.2.i x18.2.h)).bind fun x20=>(spec_l01Byte (T_spec_l01Cur.mk x20.2.b x20.2.i x20.2.h)).bind fun x22=>(spec_l01Byte (T_spec_l01Cur.mk x22.2.b x22.2.i x22.2.h)).bind fun x24=>(chk (¬n=0)).bind fun u_1=>some (((wk .i64 ((wk .i64 ((wk .i64 ((wk .i64 (x18.1 * 16777216))+(wk .i64 (x20.1 * 65536))))+(wk .i64 (x22.1 * 256))))+x24.1)).tmod n),(T_spec_l01Cur.mk x24.2.b x24.2.i x24.2.h))))
noncomputable def spec_l01Once (c:T_spec_l01Cur) (n:Int):Option (Bool×T_spec_l01Cur):=
 (qY (T_spec_l01Cur.mk c.b c.i c.h) n).bind fun x7=>some ((x7.1 == 0),(T_spec_l01Cur.mk x7.2.b x7.2.i x7.2.h))
noncomputable def spec_l05Parents_j1 (c_1:List Int) (c_2:Int) (c_3:Int) (out_:List Int):Option ((List Int)×T_spec_l01Cur):=
 some (out_,(T_spec_l01Cur.mk c_1 c_2 c_3))
noncomputable def spec_l05Parents_l1 (n:Int) (v:Int) (c_4:List Int) (c_5:Int) (c_6:Int) (out__1:List Int):Option ((Int×(List Int)×Int×Int×(List Int))⊕((List Int)×Int×Int×(List Int))):=
 (if (decide (v < n)) then (if (decide ((out__1.length:Int) < 4)) then (if (v == (wk .i64 (n - 1))) then (spec_l01Once (T_spec_l01Cur.mk c_4 c_5 c_6) 4).bind fun x23=>some ((!x23.1),x23.2.b,x23.2.i,x23.2.h) else some (false,c_4,c_5,c_6)).bind fun b_1=>(if b_1.1 then some (true,b_1.2.1,b_1.2.2.1,b_1.2.2.2) else (spec_l01Once (T_spec_l01Cur.mk b_1.2.1 b_1.2.2.1 b_1.2.2.2) (wk .i64 (n+2))).bind fun x30=>some (x30.1,x30.2.b,x30.2.i,x30.2.h)).bind fun b_2=>some (b_2.1,b_2.2.1,b_2.2.2.1,b_2.2.2.2) else some (false,c_4,c_5,c_6)).bind fun b=>(if b.1 then (appn out__1 [v]).bind fun l=>some (.inl ((wk .i64 (v+1)),b.2.1,b.2.2.1,b.2.2.2,l))
 else some (.inl ((wk .i64 (v+1)),b.2.1,b.2.2.1,b.2.2.2,out__1)))
 else some (.inr (c_4,c_5,c_6,out__1)))
noncomputable def spec_l05Parents (c:T_spec_l01Cur) (n:Int):Option ((List Int)×T_spec_l01Cur):=
 (zG (fun (s':Int×(List Int)×Int×Int×(List Int))=>spec_l05Parents_l1 n s'.1 s'.2.1 s'.2.2.1 s'.2.2.2.1 s'.2.2.2.2) (0,c.b,c.i,c.h,[])).bind fun p=>spec_l05Parents_j1 p.1 p.2.1 p.2.2.1 p.2.2.2
noncomputable def spec_l01In (x:Int) (least:Int) (most:Int):Option Bool:=
 (if (decide (x≥least)) then some (decide (x≤most)) else some false).bind fun b=>some b
noncomputable def spec_l05Set_j2 (in__1:List Bool):Option ((List Bool)):=
 some in__1
noncomputable def spec_l05Set_j3 (v:Int) (in__3:List Bool):Option ((Int×(List Bool))⊕((List Bool))):=
 some (.inl ((wk .i64 (v - 1)),in__3))
noncomputable def spec_l05Set_l2 (parents:List (List Int)) (v:Int) (k:Int) (in__4:List Bool):Option ((Int×(List Bool))⊕((List Bool))):=
 (geti parents v).bind fun x=>(if (decide (k < (x.length:Int))) then (geti in__4 v).bind fun x_1=>some x_1 else some false).bind fun b=>(if b then (geti parents v).bind fun x_2=>(geti x_2 k).bind fun x_3=>(geti in__4 x_3).bind fun x_4=>some (.inl ((wk .i64 (k+1)),(in__4.set x_3.toNat true)))
 else some (.inr in__4))
noncomputable def spec_l05Set_l1 (parents:List (List Int)) (v:Int) (in__2:List Bool):Option ((Int×(List Bool))⊕((List Bool))):=
 (if (decide (v≥0)) then (zG (fun (s':Int×(List Bool))=>spec_l05Set_l2 parents v s'.1 s'.2) (0,in__2)).bind fun p_1=>spec_l05Set_j3 v p_1
 else some (.inr in__2))
noncomputable def spec_l05Set_j1 (parents:List (List Int)) (in_:List Bool):Option ((List Bool)):=
 (zG (fun (s':Int×(List Bool))=>spec_l05Set_l1 parents s'.1 s'.2) ((wk .i64 ((parents.length:Int) - 1)),in_)).bind fun p=>spec_l05Set_j2 p
noncomputable def spec_l05Set_l3 (parents:List (List Int)) (list_:List Int) (i:Int) (in__5:List Bool):Option ((Int×(List Bool))⊕((List Bool))):=
 (if (decide (i < (list_.length:Int))) then (geti list_ i).bind fun x_5=>(spec_l01In x_5 0 (wk .i64 ((parents.length:Int) - 1))).bind fun x25=>(if x25 then (geti in__5 x_5).bind fun x_6=>some (.inl ((wk .i64 (i+1)),(in__5.set x_5.toNat true)))
 else some (.inl ((wk .i64 (i+1)),in__5)))
 else some (.inr in__5))
noncomputable def spec_l05Set (parents:List (List Int)) (list_:List Int):Option (List Bool):=
 ((mkl (parents.length:Int) (parents.length:Int) false:Option (List Bool))).bind fun x11=>(zG (fun (s':Int×(List Bool))=>spec_l05Set_l3 parents list_ s'.1 s'.2) (0,x11)).bind fun p_2=>spec_l05Set_j1 parents p_2
noncomputable def spec_l06Live_j1:Option (Bool):=
 some true
noncomputable def spec_l06Live_l1 (b:T_impl_Body) (in_:List Bool) (i:Int):Option ((Int)⊕((Bool)⊕(Unit))):=
 (if (decide (i < (b.Dels.length:Int))) then (geti b.Dels i).bind fun x_1=>(spec_l01In x_1 0 (wk .i64 ((in_.length:Int) - 1))).bind fun x36=>(if x36 then (geti in_ x_1).bind fun x_2=>some x_2 else some false).bind fun b_2=>(if b_2 then some (.inr (.inl false))
 else some (.inl (wk .i64 (i+1))))
 else some (.inr (.inr ())))
noncomputable def spec_l06Live (b:T_impl_Body) (in_:List Bool):Option Bool:=
 (spec_l01In b.Ins 0 (wk .i64 ((in_.length:Int) - 1))).bind fun x11=>(if (!x11) then some true else (geti in_ b.Ins).bind fun x=>some (!x)).bind fun b_1=>(if b_1 then some false
 else (zG (fun (s':Int)=>spec_l06Live_l1 b in_ s') (0)).bind fun p=>(match p with | .inl c'=>some c' | .inr q=>spec_l06Live_j1))
noncomputable def spec_l06Places_j1 (out_:List Int):Option ((List Int)):=
 some out_
noncomputable def jF (w:T_impl_Weave) (in_:List Bool) (i:Int) (out__1:List Int):Option ((Int×(List Int))⊕((List Int))):=
 (if (decide (i < (w.Bodies.length:Int))) then (geti w.Bodies i).bind fun x=>(spec_l06Live (T_impl_Body.mk x.Line x.Ins x.Ord x.Dels) in_).bind fun x21=>(if x21 then (appn out__1 [i]).bind fun l=>some (.inl ((wk .i64 (i+1)),l))
 else some (.inl ((wk .i64 (i+1)),out__1)))
 else some (.inr out__1))
noncomputable def spec_l06Places (w:T_impl_Weave) (in_:List Bool):Option (List Int):=
 (zG (fun (s':Int×(List Int))=>jF w in_ s'.1 s'.2) (0,[])).bind fun p=>spec_l06Places_j1 p
noncomputable def spec_l06Seen (w:T_impl_Weave) (parents:List Int):Option (List Int):=
 (spec_l05Set w.Parents parents).bind fun x9=>(spec_l06Places (T_impl_Weave.mk w.Parents w.Bodies) x9).bind fun x10=>some x10
noncomputable def spec_l06Lines_j1 (out_:List ByteArray):Option ((List ByteArray)):=
 some out_
noncomputable def spec_l06Lines_l1 (w:T_impl_Weave) (places:List Int) (i:Int) (out__1:List ByteArray):Option ((Int×(List ByteArray))⊕((List ByteArray))):=
 (if (decide (i < (places.length:Int))) then (geti places i).bind fun x=>(geti w.Bodies x).bind fun x_1=>(appn out__1 [x_1.Line]).bind fun l=>some (.inl ((wk .i64 (i+1)),l))
 else some (.inr out__1))
noncomputable def spec_l06Lines (w:T_impl_Weave) (places:List Int):Option (List ByteArray):=
 (zG (fun (s':Int×(List ByteArray))=>spec_l06Lines_l1 w places s'.1 s'.2) (0,[])).bind fun p=>spec_l06Lines_j1 p
noncomputable def spec_l01Pick (c:T_spec_l01Cur) (list_:List ByteArray):Option (ByteArray×T_spec_l01Cur):=
 (qY (T_spec_l01Cur.mk c.b c.i c.h) (list_.length:Int)).bind fun x9=>(geti list_ x9.1).bind fun x=>some (x,(T_spec_l01Cur.mk x9.2.b x9.2.i x9.2.h))
noncomputable def spec_l03Line (c:T_spec_l01Cur):Option (ByteArray×T_spec_l01Cur):=
 (spec_l01Pick (T_spec_l01Cur.mk c.b c.i c.h) [(ByteArray.mk #[97]),(ByteArray.mk #[98]),(ByteArray.mk #[99]),(ByteArray.mk #[100]),(ByteArray.mk #[101]),(ByteArray.mk #[]),(ByteArray.mk #[105,102,32,120]),(ByteArray.mk #[101,110,100]),(ByteArray.mk #[97]),(ByteArray.mk #[98])]).bind fun x5=>some (x5.1,(T_spec_l01Cur.mk x5.2.b x5.2.i x5.2.h))
noncomputable def spec_l04Near_j1 (c_1:List Int) (c_2:Int) (c_3:Int) (out_:List ByteArray):Option ((List ByteArray)×T_spec_l01Cur):=
 (spec_l01Once (T_spec_l01Cur.mk c_1 c_2 c_3) 4).bind fun x44=>(if x44.1 then (spec_l03Line (T_spec_l01Cur.mk x44.2.b x44.2.i x44.2.h)).bind fun x47=>(appn out_ [x47.1]).bind fun l=>some (l,(T_spec_l01Cur.mk x47.2.b x47.2.i x47.2.h))
 else some (out_,(T_spec_l01Cur.mk x44.2.b x44.2.i x44.2.h)))
noncomputable def spec_l04Near_l1 (a:List ByteArray) (i:Int) (c_4:List Int) (c_5:Int) (c_6:Int) (out__1:List ByteArray):Option ((Int×(List Int)×Int×Int×(List ByteArray))⊕((List Int)×Int×Int×(List ByteArray))):=
 (if (decide (i < (a.length:Int))) then (qY (T_spec_l01Cur.mk c_4 c_5 c_6) 6).bind fun x15=>(if (x15.1 == 0) then (spec_l03Line (T_spec_l01Cur.mk x15.2.b x15.2.i x15.2.h)).bind fun x27=>(appn out__1 [x27.1]).bind fun l_1=>some (.inl ((wk .i64 (i+1)),x27.2.b,x27.2.i,x27.2.h,l_1))
 else (if (x15.1 == 1) then (geti a i).bind fun x=>(spec_l03Line (T_spec_l01Cur.mk x15.2.b x15.2.i x15.2.h)).bind fun x34=>(appn out__1 [x34.1,x]).bind fun l_2=>some (.inl ((wk .i64 (i+1)),x34.2.b,x34.2.i,x34.2.h,l_2))
 else (if (x15.1 == 2) then some (.inl ((wk .i64 (i+1)),x15.2.b,x15.2.i,x15.2.h,out__1))
 else (geti a i).bind fun x_1=>(appn out__1 [x_1]).bind fun l_3=>some (.inl ((wk .i64 (i+1)),x15.2.b,x15.2.i,x15.2.h,l_3)))))
 else some (.inr (c_4,c_5,c_6,out__1)))
noncomputable def spec_l04Near (c:T_spec_l01Cur) (a:List ByteArray):Option ((List ByteArray)×T_spec_l01Cur):=
 (zG (fun (s':Int×(List Int)×Int×Int×(List ByteArray))=>spec_l04Near_l1 a s'.1 s'.2.1 s'.2.2.1 s'.2.2.2.1 s'.2.2.2.2) (0,c.b,c.i,c.h,[])).bind fun p=>spec_l04Near_j1 p.1 p.2.1 p.2.2.1 p.2.2.2
noncomputable def spec_l03Lines_j1 (c_1:List Int) (c_2:Int) (c_3:Int) (out_:List ByteArray):Option ((List ByteArray)×T_spec_l01Cur):=
 some (out_,(T_spec_l01Cur.mk c_1 c_2 c_3))
noncomputable def spec_l03Lines_l1 (n:Int) (i:Int) (c_4:List Int) (c_5:Int) (c_6:Int) (out__1:List ByteArray):Option ((Int×(List Int)×Int×Int×(List ByteArray))⊕((List Int)×Int×Int×(List ByteArray))):=
 (qY (T_spec_l01Cur.mk c_4 c_5 c_6) (wk .i64 (n+1))).bind fun x12=>(if (decide (i < x12.1)) then (spec_l03Line (T_spec_l01Cur.mk x12.2.b x12.2.i x12.2.h)).bind fun x18=>(appn out__1 [x18.1]).bind fun l=>some (.inl ((wk .i64 (i+1)),x18.2.b,x18.2.i,x18.2.h,l))
 else some (.inr (x12.2.b,x12.2.i,x12.2.h,out__1)))
noncomputable def spec_l03Lines (c:T_spec_l01Cur) (n:Int):Option ((List ByteArray)×T_spec_l01Cur):=
 (zG (fun (s':Int×(List Int)×Int×Int×(List ByteArray))=>spec_l03Lines_l1 n s'.1 s'.2.1 s'.2.2.1 s'.2.2.2.1 s'.2.2.2.2) (0,c.b,c.i,c.h,[])).bind fun p=>spec_l03Lines_j1 p.1 p.2.1 p.2.2.1 p.2.2.2
noncomputable def spec_l05Rise_j1:Option (Bool):=
 some true
noncomputable def qZ (list_:List Int) (n:Int) (i:Int):Option ((Int)⊕((Bool)⊕(Unit))):=
 (if (decide (i < (list_.length:Int))) then (geti list_ i).bind fun x=>(spec_l01In x 0 (wk .i64 (n - 1))).bind fun x18=>(if (!x18) then some true else (if (decide (i > 0)) then (geti list_ (wk .i64 (i - 1))).bind fun x_1=>some (decide (x_1≥x)) else some false).bind fun b_1=>some b_1).bind fun b=>(if b then some (.inr (.inl false))
 else some (.inl (wk .i64 (i+1))))
 else some (.inr (.inr ())))
noncomputable def spec_l05Rise (list_:List Int) (n:Int):Option Bool:=
 (zG (fun (s':Int)=>qZ list_ n s') (0)).bind fun p=>(match p with | .inl c'=>some c' | .inr q=>spec_l05Rise_j1)
noncomputable def spec_l06Parents (w:T_impl_Weave) (parents:List Int):Option Bool:=
 (if (decide ((parents.length:Int)≤4)) then (spec_l05Rise parents (w.Parents.length:Int)).bind fun x13=>some x13 else some false).bind fun b=>some b
noncomputable def spec_LineOk_j1 (line:ByteArray):Option (Bool):=
 some (decide ((line.size:Int)≤60))
noncomputable def spec_LineOk_l1 (line:ByteArray) (i:Int):Option ((Int)⊕((Bool)⊕(Unit))):=
 (if (decide (i < (line.size:Int))) then (sidx line i).bind fun x12=>(if (x12 == 10) then some (.inr (.inl false))
 else some (.inl (wk .i64 (i+1))))
 else some (.inr (.inr ())))
noncomputable def spec_LineOk (line:ByteArray):Option Bool:=
 (zG (fun (s':Int)=>spec_LineOk_l1 line s') (0)).bind fun p=>(match p with | .inl c'=>some c' | .inr q=>spec_LineOk_j1 line)
noncomputable def spec_l03All_j1:Option (Bool):=
 some true
noncomputable def spec_l03All_l1 (list_:List ByteArray) (i:Int):Option ((Int)⊕((Bool)⊕(Unit))):=
 (if (decide (i < (list_.length:Int))) then (geti list_ i).bind fun x=>(spec_LineOk x).bind fun x20=>(if (!x20) then some (.inr (.inl false))
 else some (.inl (wk .i64 (i+1))))
 else some (.inr (.inr ())))
noncomputable def spec_l03All (list_:List ByteArray) (most:Int):Option Bool:=
 (if (decide ((list_.length:Int) > most)) then some false
 else (zG (fun (s':Int)=>spec_l03All_l1 list_ s') (0)).bind fun p=>(match p with | .inl c'=>some c' | .inr q=>spec_l03All_j1))
noncomputable def spec_LinesOk (list_:List ByteArray):Option Bool:=
 (spec_l03All list_ 80).bind fun x4=>some x4
noncomputable def spec_l04Ok (a:List ByteArray):Option Bool:=
 (spec_l03All a 300).bind fun x4=>some x4
noncomputable def spec_l04Table_j1 (t:List (List Int)):Option ((List (List Int))):=
 some t
noncomputable def spec_l04Table_j2 (i:Int) (t_2:List (List Int)):Option ((Int×(List (List Int)))⊕((List (List Int)))):=
 some (.inl ((wk .i64 (i - 1)),t_2))
noncomputable def spec_l04Table_j4 (i:Int) (j:Int) (t_3:List (List Int)) (x_4:Int):Option ((Int×(List (List Int)))⊕((List (List Int)))):=
 (geti t_3 i).bind fun x_5=>(geti x_5 j).bind fun x_6=>some (.inl ((wk .i64 (j - 1)),(t_3.set i.toNat (x_5.set j.toNat x_4))))
noncomputable def spec_l04Table_j3 (a:List ByteArray) (b:List ByteArray) (i:Int) (j:Int) (t_3:List (List Int)) (x_3:Int):Option ((Int×(List (List Int)))⊕((List (List Int)))):=
 (geti a i).bind fun x_7=>(geti b j).bind fun x_8=>(if (x_7.toList == x_8.toList) then (geti t_3 (wk .i64 (i+1))).bind fun x_9=>(geti x_9 (wk .i64 (j+1))).bind fun x_10=>spec_l04Table_j4 i j t_3 (wk .i64 (x_10+1))
 else spec_l04Table_j4 i j t_3 x_3)
noncomputable def qV (a:List ByteArray) (b:List ByteArray) (i:Int) (j:Int) (t_3:List (List Int)):Option ((Int×(List (List Int)))⊕((List (List Int)))):=
 (if (decide (j≥0)) then some (decide (i < (a.length:Int))) else some false).bind fun b_1=>(if b_1 then (geti t_3 (wk .i64 (i+1))).bind fun x_1=>(geti x_1 j).bind fun x_2=>(geti t_3 i).bind fun x_11=>(geti x_11 (wk .i64 (j+1))).bind fun x_12=>(if (decide (x_12 > x_2)) then spec_l04Table_j3 a b i j t_3 x_12
 else spec_l04Table_j3 a b i j t_3 x_2)
 else some (.inr t_3))
noncomputable def jC (a:List ByteArray) (b:List ByteArray) (i:Int) (t_1:List (List Int)):Option ((Int×(List (List Int)))⊕((List (List Int)))):=
 (if (decide (i≥0)) then ((mkl (wk .i64 ((b.length:Int)+1)) (wk .i64 ((b.length:Int)+1)) 0:Option (List Int))).bind fun x24=>(geti t_1 i).bind fun x=>(zG (fun (s':Int×(List (List Int)))=>qV a b i s'.1 s'.2) ((wk .i64 ((b.length:Int) - 1)),(t_1.set i.toNat x24))).bind fun p_1=>spec_l04Table_j2 i p_1
 else some (.inr t_1))
noncomputable def spec_l04Table (a:List ByteArray) (b:List ByteArray):Option (List (List Int)):=
 ((mkl (wk .i64 ((a.length:Int)+1)) (wk .i64 ((a.length:Int)+1)) []:Option (List (List Int)))).bind fun x12=>(zG (fun (s':Int×(List (List Int)))=>jC a b s'.1 s'.2) ((a.length:Int),x12)).bind fun p=>spec_l04Table_j1 p
noncomputable def spec_Align_j2 (out__1:List Int):Option ((List Int)):=
 some out__1
noncomputable def spec_Align_l1 (b:List ByteArray) (j_1:Int) (out__2:List Int):Option ((Int×(List Int))⊕((List Int))):=
 (if (decide (j_1 < (b.length:Int))) then (appn out__2 [(-1)]).bind fun l=>some (.inl ((wk .i64 (j_1+1)),l))
 else some (.inr out__2))
noncomputable def spec_Align_j1 (b:List ByteArray) (j:Int) (out_:List Int):Option ((List Int)):=
 (zG (fun (s':Int×(List Int))=>spec_Align_l1 b s'.1 s'.2) (j,out_)).bind fun p=>spec_Align_j2 p
noncomputable def spec_Align_l2 (a:List ByteArray) (b:List ByteArray) (x21:(List (List Int))) (i:Int) (j_2:Int) (out__3:List Int):Option ((Int×Int×(List Int))⊕(Int×(List Int))):=
 (if (decide (i < (a.length:Int))) then some (decide (j_2 < (b.length:Int))) else some false).bind fun b_2=>(if b_2 then (geti a i).bind fun x=>(geti b j_2).bind fun x_1=>(if (x.toList == x_1.toList) then (appn out__3 [i]).bind fun l_1=>some (.inl ((wk .i64 (i+1)),(wk .i64 (j_2+1)),l_1))
 else (geti x21 (wk .i64 (i+1))).bind fun x_2=>(geti x_2 j_2).bind fun x_3=>(geti x21 i).bind fun x_4=>(geti x_4 (wk .i64 (j_2+1))).bind fun x_5=>(if (decide (x_3≥x_5)) then some (.inl ((wk .i64 (i+1)),j_2,out__3))
 else (appn out__3 [(-1)]).bind fun l_2=>some (.inl (i,(wk .i64 (j_2+1)),l_2))))
 else some (.inr (j_2,out__3)))
noncomputable def spec_Align (a:List ByteArray) (b:List ByteArray):Option (List Int):=
 (spec_l04Ok a).bind fun x11=>(if (!x11) then some true else (spec_l04Ok b).bind fun x15=>some (!x15)).bind fun b_1=>(if b_1 then some []
 else (spec_l04Table a b).bind fun x21=>(zG (fun (s':Int×Int×(List Int))=>spec_Align_l2 a b x21 s'.1 s'.2.1 s'.2.2) (0,0,[])).bind fun p_1=>spec_Align_j1 b p_1.1 p_1.2)
noncomputable def spec_l06Add_j3 (w:T_impl_Weave) (l_1:List (List Int)) (out__1:List T_impl_Body):Option (T_impl_Weave×Int×Int):=
 (if (decide ((out__1.length:Int) > 300)) then some ((T_impl_Weave.mk [] []),0,4)
 else some ((T_impl_Weave.mk l_1 out__1),(w.Parents.length:Int),0))
noncomputable def spec_l06Add_j4 (i:Int) (ord_1:Int) (out__3:List T_impl_Body):Option ((Int×Int×(List T_impl_Body))⊕((List T_impl_Body))):=
 some (.inl (ord_1,(wk .i64 (i+1)),out__3))
noncomputable def spec_l06Add_l2 (w:T_impl_Weave) (behind:List (List ByteArray)) (i:Int) (ord_2:Int) (k:Int) (out__5:List T_impl_Body):Option ((Int×Int×(List T_impl_Body))⊕(Int×(List T_impl_Body))):=
 (geti behind i).bind fun x=>(if (decide (k < (x.length:Int))) then (geti x k).bind fun x_1=>(appn out__5 [(T_impl_Body.mk x_1 (w.Parents.length:Int) ord_2 [])]).bind fun l_2=>some (.inl ((wk .i64 (ord_2+1)),(wk .i64 (k+1)),l_2))
 else some (.inr (ord_2,out__5)))
noncomputable def spec_l06Add_j5 (w:T_impl_Weave) (behind:List (List ByteArray)) (ord:Int) (i:Int) (out__4:List T_impl_Body):Option ((Int×Int×(List T_impl_Body))⊕((List T_impl_Body))):=
 (zG (fun (s':Int×Int×(List T_impl_Body))=>spec_l06Add_l2 w behind i s'.1 s'.2.1 s'.2.2) (ord,0,out__4)).bind fun p_1=>spec_l06Add_j4 i p_1.1 p_1.2
noncomputable def spec_l06Add_j6 (w:T_impl_Weave) (behind:List (List ByteArray)) (ord:Int) (i:Int) (out__2:List T_impl_Body) (x_2:T_impl_Body) (b:List Int):Option ((Int×Int×(List T_impl_Body))⊕((List T_impl_Body))):=
 (appn out__2 [(T_impl_Body.mk x_2.Line x_2.Ins x_2.Ord b)]).bind fun l_4=>spec_l06Add_j5 w behind ord i l_4
noncomputable def qM (w:T_impl_Weave) (behind:List (List ByteArray)) (stays:List Bool) (x120:(List Bool)) (ord:Int) (i:Int) (out__2:List T_impl_Body):Option ((Int×Int×(List T_impl_Body))⊕((List T_impl_Body))):=
 (if (decide (i≤(w.Bodies.length:Int))) then (if (decide (i > 0)) then (geti w.Bodies (wk .i64 (i - 1))).bind fun x_2=>(appn ([]:List Int) x_2.Dels).bind fun l_3=>(geti stays (wk .i64 (i - 1))).bind fun x_3=>(if (!x_3) then (spec_l06Live (T_impl_Body.mk x_2.Line x_2.Ins x_2.Ord l_3) x120).bind fun x150=>some x150 else some false).bind fun b_1=>(if b_1 then (appn l_3 [(w.Parents.length:Int)]).bind fun l_5=>spec_l06Add_j6 w behind ord i out__2 x_2 l_5
 else spec_l06Add_j6 w behind ord i out__2 x_2 l_3)
 else spec_l06Add_j5 w behind ord i out__2)
 else some (.inr out__2))
noncomputable def spec_l06Add_j2 (w:T_impl_Weave) (parents:List Int) (behind:List (List ByteArray)) (stays:List Bool) (out_:List (List Int)):Option (T_impl_Weave×Int×Int):=
 (appn ([]:List Int) parents).bind fun l=>(appn out_ [l]).bind fun l_1=>(spec_l05Set w.Parents parents).bind fun x120=>(zG (fun (s':Int×Int×(List T_impl_Body))=>qM w behind stays x120 s'.1 s'.2.1 s'.2.2) (0,0,[])).bind fun p=>spec_l06Add_j3 w l_1 p
noncomputable def spec_l06Add_l3 (w:T_impl_Weave) (k_1:Int) (out__6:List (List Int)):Option ((Int×(List (List Int)))⊕((List (List Int)))):=
 (if (decide (k_1 < (w.Parents.length:Int))) then (geti w.Parents k_1).bind fun x_4=>(appn ([]:List Int) x_4).bind fun l_6=>(appn out__6 [l_6]).bind fun l_7=>some (.inl ((wk .i64 (k_1+1)),l_7))
 else some (.inr out__6))
noncomputable def spec_l06Add_j1 (w:T_impl_Weave) (parents:List Int) (behind:List (List ByteArray)) (stays:List Bool):Option (T_impl_Weave×Int×Int):=
 (zG (fun (s':Int×(List (List Int)))=>spec_l06Add_l3 w s'.1 s'.2) (0,[])).bind fun p_2=>spec_l06Add_j2 w parents behind stays p_2
noncomputable def spec_l06Add_l4 (lines:List ByteArray) (x40:(List Int)) (x45:(List Int)) (at_:Int) (i_1:Int) (behind_1:List (List ByteArray)) (stays_1:List Bool):Option ((Int×Int×(List (List ByteArray))×(List Bool))⊕((List (List ByteArray))×(List Bool))):=
 (if (decide (i_1 < (lines.length:Int))) then (geti x45 i_1).bind fun x_5=>(if (decide (x_5≥0)) then (geti x40 x_5).bind fun x_6=>(geti stays_1 (wk .i64 ((wk .i64 (x_6+1)) - 1))).bind fun x_7=>some (.inl ((wk .i64 (x_6+1)),(wk .i64 (i_1+1)),behind_1,(stays_1.set ((wk .i64 ((wk .i64 (x_6+1)) - 1)).toNat) true)))
 else (geti behind_1 at_).bind fun x_8=>(geti lines i_1).bind fun x_9=>(appn x_8 [x_9]).bind fun l_8=>some (.inl (at_,(wk .i64 (i_1+1)),(behind_1.set at_.toNat l_8),stays_1)))
 else some (.inr (behind_1,stays_1)))
noncomputable def spec_l06Add (w:T_impl_Weave) (parents:List Int) (lines:List ByteArray):Option (T_impl_Weave×Int×Int):=
 (spec_l06Parents (T_impl_Weave.mk w.Parents w.Bodies) parents).bind fun x25=>(if (!x25) then some ((T_impl_Weave.mk [] []),0,2)
 else (spec_LinesOk lines).bind fun x29=>(if (!x29) then some ((T_impl_Weave.mk [] []),0,3)
 else (if ((w.Parents.length:Int) == 40) then some ((T_impl_Weave.mk [] []),0,4)
 else (spec_l06Seen (T_impl_Weave.mk w.Parents w.Bodies) parents).bind fun x40=>(spec_l06Lines (T_impl_Weave.mk w.Parents w.Bodies) x40).bind fun x43=>(spec_Align x43 lines).bind fun x45=>((mkl (wk .i64 ((w.Bodies.length:Int)+1)) (wk .i64 ((w.Bodies.length:Int)+1)) []:Option (List (List ByteArray)))).bind fun x50=>((mkl (w.Bodies.length:Int) (w.Bodies.length:Int) false:Option (List Bool))).bind fun x54=>(zG (fun (s':Int×Int×(List (List ByteArray))×(List Bool))=>spec_l06Add_l4 lines x40 x45 s'.1 s'.2.1 s'.2.2.1 s'.2.2.2) (0,0,x50,x54)).bind fun p_3=>spec_l06Add_j1 w parents p_3.1 p_3.2)))
noncomputable def spec_l06Right_j1 (c_1:List Int) (c_2:Int) (c_3:Int) (w:List (List Int)) (w_1:List T_impl_Body):Option (T_impl_Weave×T_spec_l01Cur):=
 some ((T_impl_Weave.mk w w_1),(T_spec_l01Cur.mk c_1 c_2 c_3))
noncomputable def spec_l06Right_j3 (v:Int) (w_2:List (List Int)) (w_3:List T_impl_Body) (x20:(List Int)×T_spec_l01Cur) (c_7:List Int) (c_8:Int) (c_9:Int) (lines_1:List ByteArray):Option ((Int×(List Int)×Int×Int×(List (List Int))×(List T_impl_Body))⊕((List Int)×Int×Int×(List (List Int))×(List T_impl_Body))):=
 (spec_l06Add (T_impl_Weave.mk w_2 w_3) x20.1 lines_1).bind fun x45=>(if (x45.2.2 == 0) then some (.inl ((wk .i64 (v+1)),c_7,c_8,c_9,x45.1.Parents,x45.1.Bodies))
 else some (.inl ((wk .i64 (v+1)),c_7,c_8,c_9,w_2,w_3)))
noncomputable def spec_l06Right_j2 (v:Int) (w_2:List (List Int)) (w_3:List T_impl_Body) (x20:(List Int)×T_spec_l01Cur) (c_7:List Int) (c_8:Int) (c_9:Int) (lines:List ByteArray):Option ((Int×(List Int)×Int×Int×(List (List Int))×(List T_impl_Body))⊕((List Int)×Int×Int×(List (List Int))×(List T_impl_Body))):=
 (if (decide ((lines.length:Int) > 30)) then (cutH lines 30).bind fun x40=>spec_l06Right_j3 v w_2 w_3 x20 c_7 c_8 c_9 x40
 else spec_l06Right_j3 v w_2 w_3 x20 c_7 c_8 c_9 lines)
noncomputable def spec_l06Right_l1 (n:Int) (v:Int) (c_4:List Int) (c_5:Int) (c_6:Int) (w_2:List (List Int)) (w_3:List T_impl_Body):Option ((Int×(List Int)×Int×Int×(List (List Int))×(List T_impl_Body))⊕((List Int)×Int×Int×(List (List Int))×(List T_impl_Body))):=
 (if (decide (v < n)) then (spec_l05Parents (T_spec_l01Cur.mk c_4 c_5 c_6) v).bind fun x20=>(spec_l06Seen (T_impl_Weave.mk w_2 w_3) x20.1).bind fun x25=>(spec_l06Lines (T_impl_Weave.mk w_2 w_3) x25).bind fun x26=>(spec_l04Near (T_spec_l01Cur.mk x20.2.b x20.2.i x20.2.h) x26).bind fun x27=>(if (v == 0) then some (true,x27.2.b,x27.2.i,x27.2.h) else (spec_l01Once (T_spec_l01Cur.mk x27.2.b x27.2.i x27.2.h) 12).bind fun x32=>some (x32.1,x32.2.b,x32.2.i,x32.2.h)).bind fun b=>(if b.1 then (spec_l03Lines (T_spec_l01Cur.mk b.2.1 b.2.2.1 b.2.2.2) 9).bind fun x35=>spec_l06Right_j2 v w_2 w_3 x20 x35.2.b x35.2.i x35.2.h x35.1
 else spec_l06Right_j2 v w_2 w_3 x20 b.2.1 b.2.2.1 b.2.2.2 x27.1)
 else some (.inr (c_4,c_5,c_6,w_2,w_3)))
noncomputable def spec_l06Right (c:T_spec_l01Cur) (n:Int):Option (T_impl_Weave×T_spec_l01Cur):=
 (zG (fun (s':Int×(List Int)×Int×Int×(List (List Int))×(List T_impl_Body))=>spec_l06Right_l1 n s'.1 s'.2.1 s'.2.2.1 s'.2.2.2.1 s'.2.2.2.2.1 s'.2.2.2.2.2) (0,c.b,c.i,c.h,[],[])).bind fun p=>spec_l06Right_j1 p.1 p.2.1 p.2.2.1 p.2.2.2.1 p.2.2.2.2
noncomputable def spec_DrawPair (code:List Int):Option (T_impl_Weave×Int×Int):=
 (spec_l01New code).bind fun x9=>(spec_l06Size code).bind fun x13=>(qY (T_spec_l01Cur.mk x9.b x9.i x9.h) x13).bind fun x14=>(spec_l06Right (T_spec_l01Cur.mk x14.2.b x14.2.i x14.2.h) (wk .i64 (2+x14.1))).bind fun x16=>(qY (T_spec_l01Cur.mk x16.2.b x16.2.i x16.2.h) (x16.1.Parents.length:Int)).bind fun x21=>(qY (T_spec_l01Cur.mk x21.2.b x21.2.i x21.2.h) (x16.1.Parents.length:Int)).bind fun x28=>some ((T_impl_Weave.mk x16.1.Parents x16.1.Bodies),x21.1,x28.1)
noncomputable def impl_inRange (n:Int) (least:Int) (most:Int):Option Bool:=
 (if (decide (n≥least)) then some (decide (n≤most)) else some false).bind fun b=>some b
noncomputable def impl_ascends_j1:Option (Bool):=
 some true
noncomputable def jA (list_:List Int) (below:Int) (x9:Int):Option ((Int)⊕((Bool)⊕(Unit))):=
 (if (decide (x9 < (list_.length:Int))) then (geti list_ x9).bind fun x=>(impl_inRange x 0 (wk .i64 (below - 1))).bind fun x17=>(if (!x17) then some true else (if (decide (x9 > 0)) then (geti list_ (wk .i64 (x9 - 1))).bind fun x_1=>some (decide (x≤x_1)) else some false).bind fun b_1=>some b_1).bind fun b=>(if b then some (.inr (.inl false))
 else some (.inl (wk .i64 (x9+1))))
 else some (.inr (.inr ())))
noncomputable def impl_ascends (list_:List Int) (below:Int):Option Bool:=
 (zG (fun (s':Int)=>jA list_ below s') (0)).bind fun p=>(match p with | .inl c'=>some c' | .inr q=>impl_ascends_j1)
noncomputable def impl_GraphOk_j1 (parents:List (List Int)):Option (Bool):=
 some (decide ((parents.length:Int)≤40))
noncomputable def jB (parents:List (List Int)) (x7:Int):Option ((Int)⊕((Bool)⊕(Unit))):=
 (if (decide (x7 < (parents.length:Int))) then (geti parents x7).bind fun x=>(if (decide ((x.length:Int) > 4)) then some true else (impl_ascends x x7).bind fun x18=>some (!x18)).bind fun b=>(if b then some (.inr (.inl false))
 else some (.inl (wk .i64 (x7+1))))
 else some (.inr (.inr ())))
noncomputable def impl_GraphOk (parents:List (List Int)):Option Bool:=
 (zG (fun (s':Int)=>jB parents s') (0)).bind fun p=>(match p with | .inl c'=>some c' | .inr q=>impl_GraphOk_j1 parents)
noncomputable def impl_unionOf_j1 (s:Int):Option (Int):=
 some s
noncomputable def impl_unionOf_l1 (closed:List Int) (list_:List Int) (s_1:Int) (x10:Int):Option ((Int×Int)⊕(Int)):=
 (if (decide (x10 < (list_.length:Int))) then (geti list_ x10).bind fun x=>(geti closed x).bind fun x_1=>some (.inl ((bits .or .u64 s_1 x_1),(wk .i64 (x10+1))))
 else some (.inr s_1))
noncomputable def impl_unionOf (closed:List Int) (list_:List Int):Option Int:=
 (zG (fun (s':Int×Int)=>impl_unionOf_l1 closed list_ s'.1 s'.2) (0,0)).bind fun p=>impl_unionOf_j1 p
noncomputable def impl_closures_j1 (out_:List Int):Option ((List Int)):=
 some out_
noncomputable def impl_closures_l1 (parents:List (List Int)) (x11:Int) (out__1:List Int):Option ((Int×(List Int))⊕((List Int))):=
 (if (decide (x11 < (parents.length:Int))) then (geti parents x11).bind fun x=>(impl_unionOf out__1 x).bind fun x20=>(chk (¬(wk .u64 x11) < 0)).bind fun u=>(geti out__1 x11).bind fun x_1=>some (.inl ((wk .i64 (x11+1)),(out__1.set x11.toNat (bits .or .u64 x20 (shlI .u64 1 (wk .u64 x11))))))
 else some (.inr out__1))
noncomputable def impl_closures (parents:List (List Int)):Option (List Int):=
 ((mkl (parents.length:Int) (parents.length:Int) 0:Option (List Int))).bind fun x8=>(zG (fun (s':Int×(List Int))=>impl_closures_l1 parents s'.1 s'.2) (0,x8)).bind fun p=>impl_closures_j1 p
noncomputable def strings_Contains (s:ByteArray) (x:ByteArray):Option Bool:=
 if s.size < 4294967281 then some (Go.Lib.contains s.data.toList x.data.toList) else none
noncomputable def impl_LineOk (line:ByteArray):Option Bool:=
 (if (decide ((line.size:Int)≤60)) then (strings_Contains line (ByteArray.mk #[10])).bind fun x8=>some (!x8) else some false).bind fun b=>some b
noncomputable def impl_isPlace (n:Int) (size:Int):Option Bool:=
 (impl_inRange n 0 (wk .i64 (size - 1))).bind fun x8=>some x8
noncomputable def impl_set_has (s:Int) (v:Int):Option Bool:=
 (impl_inRange v 0 63).bind fun x6=>(if x6 then (chk (¬(wk .u64 v) < 0)).bind fun u=>some ((bits .and .u64 (shrI .u64 s (wk .u64 v)) 1) == 1) else some false).bind fun b=>some b
noncomputable def impl_setOf_j1 (s:Int):Option (Int):=
 some s
noncomputable def impl_setOf_l1 (list_:List Int) (s_1:Int) (x8:Int):Option ((Int×Int)⊕(Int)):=
 (if (decide (x8 < (list_.length:Int))) then (geti list_ x8).bind fun x=>(impl_inRange x 0 63).bind fun x13=>(if x13 then (chk (¬(wk .u64 x) < 0)).bind fun u=>some (.inl ((bits .or .u64 s_1 (shlI .u64 1 (wk .u64 x))),(wk .i64 (x8+1))))
 else some (.inl (s_1,(wk .i64 (x8+1)))))
 else some (.inr s_1))
noncomputable def impl_setOf (list_:List Int):Option Int:=
 (zG (fun (s':Int×Int)=>impl_setOf_l1 list_ s'.1 s'.2) (0,0)).bind fun p=>impl_setOf_j1 p
noncomputable def impl_Body_isLive (b:T_impl_Body) (s:Int):Option Bool:=
 (impl_set_has s b.Ins).bind fun x8=>(if x8 then (impl_setOf b.Dels).bind fun x12=>some ((bits .and .u64 x12 s) == 0) else some false).bind fun b_1=>some b_1
noncomputable def impl_Weave_liveIn_j1 (out_:List Int):Option ((List Int)):=
 some out_
noncomputable def qU (w:T_impl_Weave) (s:Int) (x13:Int) (out__1:List Int):Option ((Int×(List Int))⊕((List Int))):=
 (if (decide (x13 < (w.Bodies.length:Int))) then (geti w.Bodies x13).bind fun x=>(impl_Body_isLive (T_impl_Body.mk x.Line x.Ins x.Ord x.Dels) s).bind fun x20=>(if x20 then (appn out__1 [x13]).bind fun l=>some (.inl ((wk .i64 (x13+1)),l))
 else some (.inl ((wk .i64 (x13+1)),out__1)))
 else some (.inr out__1))
noncomputable def qR (w:T_impl_Weave) (s:Int):Option (List Int):=
 (zG (fun (s':Int×(List Int))=>qU w s s'.1 s'.2) (0,[])).bind fun p=>impl_Weave_liveIn_j1 p
noncomputable def impl_bodiesOk_j2:Option (Bool):=
 some true
noncomputable def impl_bodiesOk_l1 (w:T_impl_Weave) (closed:List Int) (born:List Int) (x80:Int):Option ((Int)⊕((Bool)⊕(Unit))):=
 (if (decide (x80 < (closed.length:Int))) then (geti closed x80).bind fun x=>(geti born x80).bind fun x_1=>(if (decide (x_1 > 80)) then some true else (qR (T_impl_Weave.mk w.Parents w.Bodies) x).bind fun x92=>some (decide ((x92.length:Int) > 80))).bind fun b=>(if b then some (.inr (.inl false))
 else some (.inl (wk .i64 (x80+1))))
 else some (.inr (.inr ())))
noncomputable def impl_bodiesOk_j1 (w:T_impl_Weave) (closed:List Int) (born:List Int):Option (Bool):=
 (zG (fun (s':Int)=>impl_bodiesOk_l1 w closed born s') (0)).bind fun p=>(match p with | .inl c'=>some c' | .inr q=>impl_bodiesOk_j2)
noncomputable def impl_bodiesOk_j3 (x18:Int) (born_2:List Int):Option ((Int×(List Int))⊕((Bool)⊕((List Int)))):=
 some (.inl ((wk .i64 (x18+1)),born_2))
noncomputable def impl_bodiesOk_l3 (w:T_impl_Weave) (closed:List Int) (x_2:T_impl_Body) (x62:Int):Option ((Int)⊕(((Int×(List Int))⊕((Bool)⊕((List Int))))⊕(Unit))):=
 (if (decide (x62 < (x_2.Dels.length:Int))) then (geti x_2.Dels x62).bind fun x_5=>(geti w.Parents x_5).bind fun x_6=>(impl_unionOf closed x_6).bind fun x73=>(impl_Body_isLive (T_impl_Body.mk x_2.Line x_2.Ins x_2.Ord x_2.Dels) x73).bind fun x74=>(if (!x74) then some (.inr (.inl (.inr (.inl false))))
 else some (.inl (wk .i64 (x62+1))))
 else some (.inr (.inr ())))
noncomputable def qP (w:T_impl_Weave) (closed:List Int) (x18:Int) (born_1:List Int):Option ((Int×(List Int))⊕((Bool)⊕((List Int)))):=
 (if (decide (x18 < (w.Bodies.length:Int))) then (geti w.Bodies x18).bind fun x_2=>(impl_LineOk x_2.Line).bind fun x24=>(if (!x24) then some true else (impl_isPlace x_2.Ins (closed.length:Int)).bind fun x31=>some (!x31)).bind fun b_1=>(if b_1 then some true else (geti born_1 x_2.Ins).bind fun x_3=>some (x_2.Ord != x_3)).bind fun b_2=>(if b_2 then some true else (impl_ascends x_2.Dels (closed.length:Int)).bind fun x49=>some (!x49)).bind fun b_3=>(if b_3 then some (.inr (.inl false))
 else (geti born_1 x_2.Ins).bind fun x_4=>(zG (fun (s':Int)=>impl_bodiesOk_l3 w closed x_2 s') (0)).bind fun p_2=>(match p_2 with | .inl c'=>some c' | .inr q_1=>impl_bodiesOk_j3 x18 (born_1.set x_2.Ins.toNat (wk .i64 (x_4+1)))))
 else some (.inr (.inr born_1)))
noncomputable def impl_bodiesOk (w:T_impl_Weave) (closed:List Int):Option Bool:=
 ((mkl (closed.length:Int) (closed.length:Int) 0:Option (List Int))).bind fun x14=>(zG (fun (s':Int×(List Int))=>qP w closed s'.1 s'.2) (0,x14)).bind fun p_1=>(match p_1 with | .inl c'=>some c' | .inr q_2=>impl_bodiesOk_j1 w closed q_2)
noncomputable def impl_WeaveOk (w:T_impl_Weave):Option Bool:=
 (if (decide ((w.Bodies.length:Int)≤300)) then (impl_GraphOk w.Parents).bind fun x10=>some x10 else some false).bind fun b=>(if b then (impl_closures w.Parents).bind fun x16=>(impl_bodiesOk (T_impl_Weave.mk w.Parents w.Bodies) x16).bind fun x17=>some x17 else some false).bind fun b_1=>some b_1
noncomputable def slices_Index_int_int_j1:Option (Int):=
 some (-1)
noncomputable def qS (s:List Int) (v:Int) (x8:Int):Option ((Int)⊕((Int)⊕(Unit))):=
 (if (decide (x8 < (s.length:Int))) then (geti s x8).bind fun x=>(if (v == x) then some (.inr (.inl x8))
 else some (.inl (wk .i64 (x8+1))))
 else some (.inr (.inr ())))
noncomputable def jD (s:List Int) (v:Int):Option Int:=
 (zG (fun (s':Int)=>qS s v s') (0)).bind fun p=>(match p with | .inl c'=>some c' | .inr q=>slices_Index_int_int_j1)
noncomputable def qK (s:List Int) (v:Int):Option Bool:=
 (jD s v).bind fun x7=>some (decide (x7≥0))
noncomputable def impl_marks_j4 (out__3:List T_impl_Rec):Option ((List T_impl_Rec)):=
 some out__3
noncomputable def impl_marks_l1 (dels:List Int) (nextDels:List Int) (x61:Int) (out__4:List T_impl_Rec):Option ((Int×(List T_impl_Rec))⊕((List T_impl_Rec))):=
 (if (decide (x61 < (nextDels.length:Int))) then (geti nextDels x61).bind fun x=>(qK dels x).bind fun x67=>(if (!x67) then (appn out__4 [(T_impl_Rec.mk 4 x (ByteArray.mk #[]))]).bind fun l=>some (.inl ((wk .i64 (x61+1)),l))
 else some (.inl ((wk .i64 (x61+1)),out__4)))
 else some (.inr out__4))
noncomputable def impl_marks_j3 (dels:List Int) (nextDels:List Int) (out__2:List T_impl_Rec):Option ((List T_impl_Rec)):=
 (zG (fun (s':Int×(List T_impl_Rec))=>impl_marks_l1 dels nextDels s'.1 s'.2) (0,out__2)).bind fun p=>impl_marks_j4 p
noncomputable def impl_marks_j2 (ins:Int) (dels:List Int) (nextIns:Int) (nextDels:List Int) (out__1:List T_impl_Rec):Option ((List T_impl_Rec)):=
 (if (ins != nextIns) then some (decide (nextIns≥0)) else some false).bind fun b=>(if b then (appn out__1 [(T_impl_Rec.mk 2 nextIns (ByteArray.mk #[]))]).bind fun l_1=>impl_marks_j3 dels nextDels l_1
 else impl_marks_j3 dels nextDels out__1)
noncomputable def impl_marks_j1 (ins:Int) (dels:List Int) (nextIns:Int) (nextDels:List Int) (out_:List T_impl_Rec):Option ((List T_impl_Rec)):=
 (if (ins != nextIns) then some (decide (ins≥0)) else some false).bind fun b_1=>(if b_1 then (appn out_ [(T_impl_Rec.mk 3 ins (ByteArray.mk #[]))]).bind fun l_2=>impl_marks_j2 ins dels nextIns nextDels l_2
 else impl_marks_j2 ins dels nextIns nextDels out_)
noncomputable def impl_marks_l2 (dels:List Int) (nextDels:List Int) (i:Int) (out__5:List T_impl_Rec):Option ((Int×(List T_impl_Rec))⊕((List T_impl_Rec))):=
 (if (decide (i≥0)) then (geti dels i).bind fun x_1=>(qK nextDels x_1).bind fun x25=>(if (!x25) then (appn out__5 [(T_impl_Rec.mk 5 x_1 (ByteArray.mk #[]))]).bind fun l_3=>some (.inl ((wk .i64 (i - 1)),l_3))
 else some (.inl ((wk .i64 (i - 1)),out__5)))
 else some (.inr out__5))
noncomputable def impl_marks (ins:Int) (dels:List Int) (nextIns:Int) (nextDels:List Int):Option (List T_impl_Rec):=
 (zG (fun (s':Int×(List T_impl_Rec))=>impl_marks_l2 dels nextDels s'.1 s'.2) ((wk .i64 ((dels.length:Int) - 1)),[])).bind fun p_1=>impl_marks_j1 ins dels nextIns nextDels p_1
noncomputable def impl_records_j1 (ins:Int) (dels:List Int) (out_:List T_impl_Rec):Option ((List T_impl_Rec)):=
 (impl_marks ins dels (-1) ([]:List Int)).bind fun x38=>(appn out_ x38).bind fun l=>some l
noncomputable def impl_records_l1 (w:T_impl_Weave) (ins_1:Int) (dels_1:List Int) (x11:Int) (out__1:List T_impl_Rec):Option ((Int×(List Int)×Int×(List T_impl_Rec))⊕(Int×(List Int)×(List T_impl_Rec))):=
 (if (decide (x11 < (w.Bodies.length:Int))) then (geti w.Bodies x11).bind fun x=>(impl_marks ins_1 dels_1 x.Ins x.Dels).bind fun x22=>(appn out__1 x22).bind fun l_1=>(appn l_1 [(T_impl_Rec.mk 1 0 x.Line)]).bind fun l_2=>some (.inl (x.Ins,x.Dels,(wk .i64 (x11+1)),l_2))
 else some (.inr (ins_1,dels_1,out__1)))
noncomputable def impl_records (w:T_impl_Weave):Option (List T_impl_Rec):=
 (zG (fun (s':Int×(List Int)×Int×(List T_impl_Rec))=>impl_records_l1 w s'.1 s'.2.1 s'.2.2.1 s'.2.2.2) ((-1),[],0,[])).bind fun p=>impl_records_j1 p.1 p.2.1 p.2.2
noncomputable def impl_Records (w:T_impl_Weave):Option ((List T_impl_Rec)×Bool):=
 (impl_WeaveOk (T_impl_Weave.mk w.Parents w.Bodies)).bind fun x6=>(if (!x6) then some ([],false)
 else (impl_records (T_impl_Weave.mk w.Parents w.Bodies)).bind fun x9=>(if (decide ((x9.length:Int) > 4000)) then some ([],false)
 else some (x9,true)))
noncomputable def slices_Clone_int_int (s:List Int):Option (List Int):=
 appn ([]:List Int) s
noncomputable def impl_copyGraph_j1 (out_:List (List Int)):Option ((List (List Int))):=
 some out_
noncomputable def impl_copyGraph_l1 (parents:List (List Int)) (x8:Int) (out__1:List (List Int)):Option ((Int×(List (List Int)))⊕((List (List Int)))):=
 (if (decide (x8 < (parents.length:Int))) then (geti parents x8).bind fun x=>(slices_Clone_int_int x).bind fun x14=>(appn out__1 [x14]).bind fun l=>some (.inl ((wk .i64 (x8+1)),l))
 else some (.inr out__1))
noncomputable def impl_copyGraph (parents:List (List Int)):Option (List (List Int)):=
 (zG (fun (s':Int×(List (List Int)))=>impl_copyGraph_l1 parents s'.1 s'.2) (0,[])).bind fun p=>impl_copyGraph_j1 p
noncomputable def jH (s:List Int) (i:Int) (j:Int):Option (List Int):=
 if s.length≤549755813888 then del1 s i j else none
noncomputable def qO (o:T_impl_walker) (r:T_impl_Rec):Option (Bool×T_impl_walker):=
 (jD o.dels r.Version).bind fun x12=>(if (r.Kind == 2) then (if o.open_ then some (false,(T_impl_walker.mk o.open_ o.ins o.dels))
 else some (true,(T_impl_walker.mk true r.Version o.dels)))
 else (if (r.Kind == 3) then (if (!o.open_) then some true else some (o.ins != r.Version)).bind fun b=>(if b then some (false,(T_impl_walker.mk o.open_ o.ins o.dels))
 else some (true,(T_impl_walker.mk false o.ins o.dels)))
 else (if (r.Kind == 4) then (if (decide (x12≥0)) then some (false,(T_impl_walker.mk o.open_ o.ins o.dels))
 else (appn o.dels [r.Version]).bind fun l=>some (true,(T_impl_walker.mk o.open_ o.ins l)))
 else (if (r.Kind == 5) then (if (decide (x12 < 0)) then some (false,(T_impl_walker.mk o.open_ o.ins o.dels))
 else (jH o.dels x12 (wk .i64 (x12+1))).bind fun x75=>some (true,(T_impl_walker.mk o.open_ o.ins x75)))
 else (if (r.Kind == 1) then some (o.open_,(T_impl_walker.mk o.open_ o.ins o.dels))
 else some (false,(T_impl_walker.mk o.open_ o.ins o.dels)))))))
noncomputable def slices_Values_int_int (s:List Int):Option (List Int):=
 some s
noncomputable def slices_Sorted_int (s:List Int):Option (List Int):=
 if s.length≤549755813888 then some (s.mergeSort fun x y=>decide (x≤y)) else none
noncomputable def slices_Equal_impl_Rec_impl_Rec_j1:Option (Bool):=
 some true
noncomputable def qC (s1:List T_impl_Rec) (s2:List T_impl_Rec) (x13:Int):Option ((Int)⊕((Bool)⊕(Unit))):=
 (if (decide (x13 < (s1.length:Int))) then (geti s1 x13).bind fun x=>(geti s2 x13).bind fun x_1=>(if (!((x.Kind == x_1.Kind) && ((x.Version == x_1.Version) && (x.Line.toList == x_1.Line.toList)))) then some (.inr (.inl false))
 else some (.inl (wk .i64 (x13+1))))
 else some (.inr (.inr ())))
noncomputable def qT (s1:List T_impl_Rec) (s2:List T_impl_Rec):Option Bool:=
 (if ((s1.length:Int) != (s2.length:Int)) then some false
 else (zG (fun (s':Int)=>qC s1 s2 s') (0)).bind fun p=>(match p with | .inl c'=>some c' | .inr q=>slices_Equal_impl_Rec_impl_Rec_j1))
noncomputable def impl_FromRecords_j1 (list_:List T_impl_Rec) (x21:(List (List Int))) (w:List T_impl_Body):Option (T_impl_Weave×Bool):=
 (impl_WeaveOk (T_impl_Weave.mk x21 w)).bind fun x75=>(if (!x75) then some true else (impl_records (T_impl_Weave.mk x21 w)).bind fun x79=>(qT x79 list_).bind fun x81=>some (!x81)).bind fun b_1=>(if b_1 then some ((T_impl_Weave.mk [] []),false)
 else some ((T_impl_Weave.mk x21 w),true))
noncomputable def jG (parents:List (List Int)) (list_:List T_impl_Rec) (x29:Int) (w_1:List T_impl_Body) (o:Bool) (o_1:Int) (o_2:List Int) (born:List Int):Option ((Int×(List T_impl_Body)×Bool×Int×(List Int)×(List Int))⊕((T_impl_Weave×Bool)⊕((List T_impl_Body)))):=
 (if (decide (x29 < (list_.length:Int))) then (geti list_ x29).bind fun x=>(qO (T_impl_walker.mk o o_1 o_2) (T_impl_Rec.mk x.Kind x.Version x.Line)).bind fun x34=>(if (!x34.1) then some (.inr (.inl ((T_impl_Weave.mk [] []),false)))
 else (if (x.Kind != 1) then some (.inl ((wk .i64 (x29+1)),w_1,x34.2.open_,x34.2.ins,x34.2.dels,born))
 else (impl_isPlace x34.2.ins (parents.length:Int)).bind fun x44=>(if (!x44) then some (.inr (.inl ((T_impl_Weave.mk [] []),false)))
 else (geti born x34.2.ins).bind fun x_1=>(slices_Values_int_int x34.2.dels).bind fun x60=>(slices_Sorted_int x60).bind fun x61=>(appn w_1 [(T_impl_Body.mk x.Line x34.2.ins x_1 x61)]).bind fun l=>(geti born x34.2.ins).bind fun x_2=>some (.inl ((wk .i64 (x29+1)),l,x34.2.open_,x34.2.ins,x34.2.dels,(born.set x34.2.ins.toNat (wk .i64 (x_2+1))))))))
 else some (.inr (.inr w_1)))
noncomputable def impl_FromRecords (parents:List (List Int)) (list_:List T_impl_Rec):Option (T_impl_Weave×Bool):=
 (if (decide ((list_.length:Int) > 4000)) then some true else (impl_GraphOk parents).bind fun x16=>some (!x16)).bind fun b=>(if b then some ((T_impl_Weave.mk [] []),false)
 else (impl_copyGraph parents).bind fun x21=>((mkl (parents.length:Int) (parents.length:Int) 0:Option (List Int))).bind fun x26=>(zG (fun (s':Int×(List T_impl_Body)×Bool×Int×(List Int)×(List Int))=>jG parents list_ s'.1 s'.2.1 s'.2.2.1 s'.2.2.2.1 s'.2.2.2.2.1 s'.2.2.2.2.2) (0,[],false,0,[],x26)).bind fun p=>(match p with | .inl c'=>some c' | .inr q=>impl_FromRecords_j1 list_ x21 q))
noncomputable def laws_sameInts_j1:Option (Bool):=
 some true
noncomputable def laws_sameInts_l1 (a:List Int) (b:List Int) (i:Int):Option ((Int)⊕((Bool)⊕(Unit))):=
 (if (decide (i < (a.length:Int))) then (geti a i).bind fun x=>(geti b i).bind fun x_1=>(if (x != x_1) then some (.inr (.inl false))
 else some (.inl (wk .i64 (i+1))))
 else some (.inr (.inr ())))
noncomputable def laws_sameInts (a:List Int) (b:List Int):Option Bool:=
 (if ((a.length:Int) != (b.length:Int)) then some false
 else (zG (fun (s':Int)=>laws_sameInts_l1 a b s') (0)).bind fun p=>(match p with | .inl c'=>some c' | .inr q=>laws_sameInts_j1))
noncomputable def laws_sameWeave_j2:Option (Bool):=
 some true
noncomputable def laws_sameWeave_l1 (a:T_impl_Weave) (b:T_impl_Weave) (i:Int):Option ((Int)⊕((Bool)⊕(Unit))):=
 (if (decide (i < (a.Bodies.length:Int))) then (geti a.Bodies i).bind fun x=>(geti b.Bodies i).bind fun x_1=>(if (!(x.Line.toList == x_1.Line.toList)) then some true else some (x.Ins != x_1.Ins)).bind fun b_2=>(if b_2 then some true else (geti a.Bodies i).bind fun x_2=>(geti b.Bodies i).bind fun x_3=>some (x_2.Ord != x_3.Ord)).bind fun b_3=>(if b_3 then some true else (geti a.Bodies i).bind fun x_4=>(geti b.Bodies i).bind fun x_5=>(laws_sameInts x_4.Dels x_5.Dels).bind fun x105=>some (!x105)).bind fun b_4=>(if b_4 then some (.inr (.inl false))
 else some (.inl (wk .i64 (i+1))))
 else some (.inr (.inr ())))
noncomputable def laws_sameWeave_j1 (a:T_impl_Weave) (b:T_impl_Weave):Option (Bool):=
 (zG (fun (s':Int)=>laws_sameWeave_l1 a b s') (0)).bind fun p=>(match p with | .inl c'=>some c' | .inr q=>laws_sameWeave_j2)
noncomputable def laws_sameWeave_l2 (a:T_impl_Weave) (b:T_impl_Weave) (v:Int):Option ((Int)⊕((Bool)⊕(Unit))):=
 (if (decide (v < (a.Parents.length:Int))) then (geti a.Parents v).bind fun x_6=>(geti b.Parents v).bind fun x_7=>(laws_sameInts x_6 x_7).bind fun x40=>(if (!x40) then some (.inr (.inl false))
 else some (.inl (wk .i64 (v+1))))
 else some (.inr (.inr ())))
noncomputable def laws_sameWeave (a:T_impl_Weave) (b:T_impl_Weave):Option Bool:=
 (if ((a.Parents.length:Int) != (b.Parents.length:Int)) then some true else some ((a.Bodies.length:Int) != (b.Bodies.length:Int))).bind fun b_1=>(if b_1 then some false
 else (zG (fun (s':Int)=>laws_sameWeave_l2 a b s') (0)).bind fun p_1=>(match p_1 with | .inl c'=>some c' | .inr q_1=>laws_sameWeave_j1 a b))
noncomputable def impl_set_list_j1 (out_:List Int):Option ((List Int)):=
 some out_
noncomputable def impl_set_list_l1 (s:Int) (x5:Int) (out__1:List Int):Option ((Int×(List Int))⊕((List Int))):=
 (if (decide (x5 < 64)) then (impl_set_has s x5).bind fun x10=>(if x10 then (appn out__1 [x5]).bind fun l=>some (.inl ((wk .i64 (x5+1)),l))
 else some (.inl ((wk .i64 (x5+1)),out__1)))
 else some (.inr out__1))
noncomputable def impl_set_list (s:Int):Option (List Int):=
 (zG (fun (s':Int×(List Int))=>impl_set_list_l1 s s'.1 s'.2) (0,[])).bind fun p=>impl_set_list_j1 p
noncomputable def impl_ClosureOf (parents:List (List Int)) (v:Int):Option (List Int):=
 (impl_isPlace v (parents.length:Int)).bind fun x8=>(if (!x8) then some true else (impl_GraphOk parents).bind fun x12=>some (!x12)).bind fun b=>(if b then some []
 else (impl_closures parents).bind fun x16=>(geti x16 v).bind fun x=>(impl_set_list x).bind fun x20=>some x20)
noncomputable def impl_walker_sees_j1:Option (Bool):=
 some true
noncomputable def impl_walker_sees_l1 (o:T_impl_walker) (set:List Int) (x19:Int):Option ((Int)⊕((Bool)⊕(Unit))):=
 (if (decide (x19 < (o.dels.length:Int))) then (geti o.dels x19).bind fun x=>(qK set x).bind fun x25=>(if x25 then some (.inr (.inl false))
 else some (.inl (wk .i64 (x19+1))))
 else some (.inr (.inr ())))
noncomputable def impl_walker_sees (o:T_impl_walker) (set:List Int):Option Bool:=
 (qK set o.ins).bind fun x12=>(if (!x12) then some false
 else (zG (fun (s':Int)=>impl_walker_sees_l1 o set s') (0)).bind fun p=>(match p with | .inl c'=>some c' | .inr q=>impl_walker_sees_j1))
noncomputable def impl_Walk_j1 (out_:List ByteArray) (o:Bool) (o_1:Int) (o_2:List Int):Option ((List ByteArray)×Bool):=
 (if o then some true else some (decide ((o_2.length:Int) > 0))).bind fun b=>(if b then some ([],false)
 else some (out_,true))
noncomputable def impl_Walk_l1 (list_:List T_impl_Rec) (set:List Int) (x16:Int) (out__1:List ByteArray) (o_3:Bool) (o_4:Int) (o_5:List Int):Option ((Int×(List ByteArray)×Bool×Int×(List Int))⊕(((List ByteArray)×Bool)⊕((List ByteArray)×Bool×Int×(List Int)))):=
 (if (decide (x16 < (list_.length:Int))) then (geti list_ x16).bind fun x=>(qO (T_impl_walker.mk o_3 o_4 o_5) (T_impl_Rec.mk x.Kind x.Version x.Line)).bind fun x21=>(if (!x21.1) then some (.inr (.inl ([],false)))
 else (if (x.Kind == 1) then (impl_walker_sees (T_impl_walker.mk x21.2.open_ x21.2.ins x21.2.dels) set).bind fun x28=>some x28 else some false).bind fun b_1=>(if b_1 then (appn out__1 [x.Line]).bind fun l=>some (.inl ((wk .i64 (x16+1)),l,x21.2.open_,x21.2.ins,x21.2.dels))
 else some (.inl ((wk .i64 (x16+1)),out__1,x21.2.open_,x21.2.ins,x21.2.dels))))
 else some (.inr (.inr (out__1,o_3,o_4,o_5))))
noncomputable def impl_Walk (list_:List T_impl_Rec) (set:List Int):Option ((List ByteArray)×Bool):=
 (if (decide ((list_.length:Int) > 4000)) then some ([],false)
 else (zG (fun (s':Int×(List ByteArray)×Bool×Int×(List Int))=>impl_Walk_l1 list_ set s'.1 s'.2.1 s'.2.2.1 s'.2.2.2.1 s'.2.2.2.2) (0,[],false,0,[])).bind fun p=>(match p with | .inl c'=>some c' | .inr q=>impl_Walk_j1 q.1 q.2.1 q.2.2.1 q.2.2.2))
noncomputable def impl_Weave_areVersions_j1:Option (Bool):=
 some true
noncomputable def qX (w:T_impl_Weave) (list_:List Int) (x9:Int):Option ((Int)⊕((Bool)⊕(Unit))):=
 (if (decide (x9 < (list_.length:Int))) then (geti list_ x9).bind fun x=>(impl_isPlace x (w.Parents.length:Int)).bind fun x19=>(if (!x19) then some (.inr (.inl false))
 else some (.inl (wk .i64 (x9+1))))
 else some (.inr (.inr ())))
noncomputable def jE (w:T_impl_Weave) (list_:List Int):Option Bool:=
 (zG (fun (s':Int)=>qX w list_ s') (0)).bind fun p=>(match p with | .inl c'=>some c' | .inr q=>impl_Weave_areVersions_j1)
noncomputable def impl_versionsCode (w:T_impl_Weave) (list_:List Int):Option Int:=
 (impl_WeaveOk (T_impl_Weave.mk w.Parents w.Bodies)).bind fun x7=>(if (!x7) then some 1
 else (jE (T_impl_Weave.mk w.Parents w.Bodies) list_).bind fun x11=>(if (!x11) then some 2
 else some 0))
noncomputable def impl_Weave_linesAt_j1 (out_:List ByteArray):Option ((List ByteArray)):=
 some out_
noncomputable def qQ (w:T_impl_Weave) (places:List Int) (x10:Int) (out__1:List ByteArray):Option ((Int×(List ByteArray))⊕((List ByteArray))):=
 (if (decide (x10 < (places.length:Int))) then (geti places x10).bind fun x=>(geti w.Bodies x).bind fun x_1=>(appn out__1 [x_1.Line]).bind fun l=>some (.inl ((wk .i64 (x10+1)),l))
 else some (.inr out__1))
noncomputable def impl_Weave_linesAt (w:T_impl_Weave) (places:List Int):Option (List ByteArray):=
 (zG (fun (s':Int×(List ByteArray))=>qQ w places s'.1 s'.2) (0,[])).bind fun p=>impl_Weave_linesAt_j1 p
noncomputable def impl_Weave_extract (w:T_impl_Weave) (v:Int):Option (List ByteArray):=
 (impl_closures w.Parents).bind fun x11=>(geti x11 v).bind fun x=>(qR (T_impl_Weave.mk w.Parents w.Bodies) x).bind fun x15=>(impl_Weave_linesAt (T_impl_Weave.mk w.Parents w.Bodies) x15).bind fun x16=>some x16
noncomputable def impl_Extract (w:T_impl_Weave) (v:Int):Option ((List ByteArray)×Int):=
 (impl_versionsCode (T_impl_Weave.mk w.Parents w.Bodies) [v]).bind fun x10=>(if (x10 != 0) then some ([],x10)
 else (impl_Weave_extract (T_impl_Weave.mk w.Parents w.Bodies) v).bind fun x15=>some (x15,0))
noncomputable def laws_sameTexts_j1:Option (Bool):=
 some true
noncomputable def laws_sameTexts_l1 (a:List ByteArray) (b:List ByteArray) (i:Int):Option ((Int)⊕((Bool)⊕(Unit))):=
 (if (decide (i < (a.length:Int))) then (geti a i).bind fun x=>(geti b i).bind fun x_1=>(if (!(x.toList == x_1.toList)) then some (.inr (.inl false))
 else some (.inl (wk .i64 (i+1))))
 else some (.inr (.inr ())))
noncomputable def laws_sameTexts (a:List ByteArray) (b:List ByteArray):Option Bool:=
 (if ((a.length:Int) != (b.length:Int)) then some false
 else (zG (fun (s':Int)=>laws_sameTexts_l1 a b s') (0)).bind fun p=>(match p with | .inl c'=>some c' | .inr q=>laws_sameTexts_j1))
noncomputable def impl_LiveIn (w:T_impl_Weave) (set:List Int):Option (List Int):=
 (impl_WeaveOk (T_impl_Weave.mk w.Parents w.Bodies)).bind fun x6=>(if (!x6) then some []
 else (impl_setOf set).bind fun x9=>(qR (T_impl_Weave.mk w.Parents w.Bodies) x9).bind fun x10=>some x10)
noncomputable def laws_FnRecords_j1:Option (Bool):=
 some true
noncomputable def laws_FnRecords_l1 (x23:T_impl_Weave×Int×Int) (x84:(List ByteArray)×Bool) (x89:(List Int)) (i:Int):Option ((Int)⊕((Bool)⊕(Unit))):=
 (if (decide (i < (x84.1.length:Int))) then (geti x84.1 i).bind fun x=>(geti x89 i).bind fun x_1=>(geti x23.1.Bodies x_1).bind fun x_2=>(if (!(x.toList == x_2.Line.toList)) then some (.inr (.inl false))
 else some (.inl (wk .i64 (i+1))))
 else some (.inr (.inr ())))
noncomputable def laws_FnRecords (code:List Int):Option Bool:=
 (laws_big code).bind fun x20=>(if x20 then some true
 else (spec_DrawPair code).bind fun x23=>(impl_Records (T_impl_Weave.mk x23.1.Parents x23.1.Bodies)).bind fun x29=>(impl_FromRecords x23.1.Parents x29.1).bind fun x36=>(if (!x29.2) then some true else some (!x36.2)).bind fun b=>(if b then some true else (laws_sameWeave (T_impl_Weave.mk x36.1.Parents x36.1.Bodies) (T_impl_Weave.mk x23.1.Parents x23.1.Bodies)).bind fun x48=>some (!x48)).bind fun b_1=>(if b_1 then some false
 else (impl_ClosureOf x23.1.Parents x23.2.1).bind fun x56=>(impl_Walk x29.1 x56).bind fun x57=>(impl_Extract (T_impl_Weave.mk x23.1.Parents x23.1.Bodies) x23.2.1).bind fun x63=>(if (!x57.2) then some true else some (x63.2 != 0)).bind fun b_2=>(if b_2 then some true else (laws_sameTexts x57.1 x63.1).bind fun x75=>some (!x75)).bind fun b_3=>(if b_3 then some false
 else (impl_Walk x29.1 [x23.2.1,x23.2.2]).bind fun x84=>(impl_LiveIn (T_impl_Weave.mk x23.1.Parents x23.1.Bodies) [x23.2.1,x23.2.2]).bind fun x89=>(if (!x84.2) then some true else some ((x84.1.length:Int) != (x89.length:Int))).bind fun b_4=>(if b_4 then some false
 else (zG (fun (s':Int)=>laws_FnRecords_l1 x23 x84 x89 s') (0)).bind fun p=>(match p with | .inl c'=>some c' | .inr q=>laws_FnRecords_j1)))))
end Go.TV.F
