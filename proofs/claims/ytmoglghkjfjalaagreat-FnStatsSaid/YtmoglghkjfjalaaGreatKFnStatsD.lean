/- Structures and their rows. -/
import Derived.Test.YtmoglghkjfjalaaGreatKFnStatsT4
set_option linter.unusedVariables false
set_option linter.unusedSimpArgs false
set_option maxHeartbeats 8000000
set_option maxRecDepth 100000
namespace Go.TV
structure T_spec_l01Cur where
 b:List Int
 i:Int
 h:Int
 deriving Inhabited
structure T_impl_Name where
 Path:ByteArray
 Id:Int
 Version:Int
 deriving Inhabited
structure T_impl_Commit where
 Parents:List Int
 Note:ByteArray
 Names:List T_impl_Name
 deriving Inhabited
structure T_impl_Body where
 Line:ByteArray
 Ins:Int
 Ord:Int
 Dels:List Int
 deriving Inhabited
structure T_impl_Weave where
 Parents:List (List Int)
 Bodies:List T_impl_Body
 deriving Inhabited
structure T_impl_Store where
 Commits:List T_impl_Commit
 Files:List T_impl_Weave
 deriving Inhabited
structure T_impl_Change where
 Kind:Int
 Path:ByteArray
 To:ByteArray
 Lines:List ByteArray
 deriving Inhabited
structure T_spec_l15Plan where
 names:List T_impl_Name
 lines:List Int
 files:Int
 deriving Inhabited
structure T_impl_Stats where
 Commits:Int
 Files:Int
 Versions:Int
 Bodies:Int
 Whole:Int
 Bytes:Int
 deriving Inhabited
theorem R_u8:(∀ (l:List Int) (i:Nat) (a0:Int),(List.map (rK .u8) l).set i [.sc (.int .u8 a0)]=List.map (rK .u8) (l.set i a0)) ∧
 (∀ (l:List Int) (a0:Int),List.map (rK .u8) l++[[.sc (.int .u8 a0)]]=List.map (rK .u8) (l++[a0])) ∧
 (∀ (l:List Int) (b0 b1:Int),List.map (rK .u8) l++[[.sc (.int .u8 b0)],[.sc (.int .u8 b1)]]=List.map (rK .u8) (l++[b0,b1])) ∧
 (∀ (l:List Int) (b0 b1 b2:Int),List.map (rK .u8) l++[[.sc (.int .u8 b0)],[.sc (.int .u8 b1)],[.sc (.int .u8 b2)]]=List.map (rK .u8) (l++[b0,b1,b2])) ∧
 (∀ (l:List Int) (b0 b1 b2 b3:Int),List.map (rK .u8) l++[[.sc (.int .u8 b0)],[.sc (.int .u8 b1)],[.sc (.int .u8 b2)],[.sc (.int .u8 b3)]]=List.map (rK .u8) (l++[b0,b1,b2,b3])) ∧
 (∀ n:Nat,List.replicate n [.sc (.int .u8 0)]=List.map (rK .u8) (List.replicate n 0)) ∧
 (∀ l:List Int,qA (List.map (rK .u8) l)=List.map (rK .u8) l) ∧
 (∀ l:List Int,qQ (List.map (rK .u8) l)=true) ∧
 (∀ l:List Int,zM (List.map (rK .u8) l)=true) ∧
 (∀ l:List Int,scRows (List.map (rK .u8) l)=true):=
 ⟨fun l i a0=>qO (rK .u8) l i a0,
 fun l a0=>zO (rK .u8) l [a0],
 fun l b0 b1=>zO (rK .u8) l [b0,b1],
 fun l b0 b1 b2=>zO (rK .u8) l [b0,b1,b2],
 fun l b0 b1 b2 b3=>zO (rK .u8) l [b0,b1,b2,b3],
 fun n=>rep_rows (rK .u8) 0 n,
 qG (fun _=>rfl),
 alRows (fun _=>rfl),
 nb_rows (fun _=>rfl),
 scRw (fun _=>rfl)⟩
theorem R_i64:(∀ (l:List Int) (i:Nat) (a0:Int),(List.map (rK .i64) l).set i [.sc (.int .i64 a0)]=List.map (rK .i64) (l.set i a0)) ∧
 (∀ (l:List Int) (a0:Int),List.map (rK .i64) l++[[.sc (.int .i64 a0)]]=List.map (rK .i64) (l++[a0])) ∧
 (∀ (l:List Int) (b0 b1:Int),List.map (rK .i64) l++[[.sc (.int .i64 b0)],[.sc (.int .i64 b1)]]=List.map (rK .i64) (l++[b0,b1])) ∧
 (∀ (l:List Int) (b0 b1 b2:Int),List.map (rK .i64) l++[[.sc (.int .i64 b0)],[.sc (.int .i64 b1)],[.sc (.int .i64 b2)]]=List.map (rK .i64) (l++[b0,b1,b2])) ∧
 (∀ (l:List Int) (b0 b1 b2 b3:Int),List.map (rK .i64) l++[[.sc (.int .i64 b0)],[.sc (.int .i64 b1)],[.sc (.int .i64 b2)],[.sc (.int .i64 b3)]]=List.map (rK .i64) (l++[b0,b1,b2,b3])) ∧
 (∀ n:Nat,List.replicate n [.sc (.int .i64 0)]=List.map (rK .i64) (List.replicate n 0)) ∧
 (∀ l:List Int,qA (List.map (rK .i64) l)=List.map (rK .i64) l) ∧
 (∀ l:List Int,qQ (List.map (rK .i64) l)=true) ∧
 (∀ l:List Int,zM (List.map (rK .i64) l)=true) ∧
 (∀ l:List Int,scRows (List.map (rK .i64) l)=true):=
 ⟨fun l i a0=>qO (rK .i64) l i a0,
 fun l a0=>zO (rK .i64) l [a0],
 fun l b0 b1=>zO (rK .i64) l [b0,b1],
 fun l b0 b1 b2=>zO (rK .i64) l [b0,b1,b2],
 fun l b0 b1 b2 b3=>zO (rK .i64) l [b0,b1,b2,b3],
 fun n=>rep_rows (rK .i64) 0 n,
 qG (fun _=>rfl),
 alRows (fun _=>rfl),
 nb_rows (fun _=>rfl),
 scRw (fun _=>rfl)⟩
theorem R_s:(∀ (l:List ByteArray) (i:Nat) (a0:ByteArray),(List.map rS l).set i [.sc (.string a0)]=List.map rS (l.set i a0)) ∧
 (∀ (l:List ByteArray) (a0:ByteArray),List.map rS l++[[.sc (.string a0)]]=List.map rS (l++[a0])) ∧
 (∀ (l:List ByteArray) (b0 b1:ByteArray),List.map rS l++[[.sc (.string b0)],[.sc (.string b1)]]=List.map rS (l++[b0,b1])) ∧
 (∀ (l:List ByteArray) (b0 b1 b2:ByteArray),List.map rS l++[[.sc (.string b0)],[.sc (.string b1)],[.sc (.string b2)]]=List.map rS (l++[b0,b1,b2])) ∧
 (∀ (l:List ByteArray) (b0 b1 b2 b3:ByteArray),List.map rS l++[[.sc (.string b0)],[.sc (.string b1)],[.sc (.string b2)],[.sc (.string b3)]]=List.map rS (l++[b0,b1,b2,b3])) ∧
 (∀ n:Nat,List.replicate n [.sc (.string (ByteArray.mk #[]))]=List.map rS (List.replicate n (ByteArray.mk #[]))) ∧
 (∀ l:List ByteArray,qA (List.map rS l)=List.map rS l) ∧
 (∀ l:List ByteArray,qQ (List.map rS l)=true) ∧
 (∀ l:List ByteArray,zM (List.map rS l)=true) ∧
 (∀ l:List ByteArray,scRows (List.map rS l)=true):=
 ⟨fun l i a0=>qO rS l i a0,
 fun l a0=>zO rS l [a0],
 fun l b0 b1=>zO rS l [b0,b1],
 fun l b0 b1 b2=>zO rS l [b0,b1,b2],
 fun l b0 b1 b2 b3=>zO rS l [b0,b1,b2,b3],
 fun n=>rep_rows rS (ByteArray.mk #[]) n,
 qG (fun _=>rfl),
 alRows (fun _=>rfl),
 nb_rows (fun _=>rfl),
 scRw (fun _=>rfl)⟩
theorem qX:(∀ (l:List (List Int)) (i:Nat) (a0:List Int),(List.map (rL true 1 (rK .i64)) l).set i [.list true 1 (List.map (rK .i64) a0)]=List.map (rL true 1 (rK .i64)) (l.set i a0)) ∧
 (∀ (l:List (List Int)) (a0:List Int),List.map (rL true 1 (rK .i64)) l++[[.list true 1 (List.map (rK .i64) a0)]]=List.map (rL true 1 (rK .i64)) (l++[a0])) ∧
 (∀ (l:List (List Int)) (i:Nat) (a0:List Int),(List.map (rL false 1 (rK .i64)) l).set i [.list false 1 (List.map (rK .i64) a0)]=List.map (rL false 1 (rK .i64)) (l.set i a0)) ∧
 (∀ (l:List (List Int)) (a0:List Int),List.map (rL false 1 (rK .i64)) l++[[.list false 1 (List.map (rK .i64) a0)]]=List.map (rL false 1 (rK .i64)) (l++[a0])) ∧
 (∀ (l:List (List Int)) (i:Nat),(List.map (rL true 1 (rK .i64)) l).set i [.list true 1 []]=List.map (rL true 1 (rK .i64)) (l.set i [])) ∧
 (∀ (l:List (List Int)),List.map (rL true 1 (rK .i64)) l++[[.list true 1 []]]=List.map (rL true 1 (rK .i64)) (l++[[]])) ∧
 (∀ l:List (List Int),qA (List.map (rL true 1 (rK .i64)) l)=List.map (rL false 1 (rK .i64)) l) ∧
 (∀ l:List (List Int),qQ (List.map (rL true 1 (rK .i64)) l)=true) ∧
 (∀ l:List (List Int),qA (List.map (rL false 1 (rK .i64)) l)=List.map (rL false 1 (rK .i64)) l) ∧
 (∀ l:List (List Int),qQ (List.map (rL false 1 (rK .i64)) l)=true) ∧
 (∀ l:List (List Int),zM (List.map (rL true 1 (rK .i64)) l)=true):=
 ⟨fun l i a0=>qO (rL true 1 (rK .i64)) l i a0,
 fun l a0=>zO (rL true 1 (rK .i64)) l [a0],
 fun l i a0=>qO (rL false 1 (rK .i64)) l i a0,
 fun l a0=>zO (rL false 1 (rK .i64)) l [a0],
 fun l i=>qO (rL true 1 (rK .i64)) l i [],
 fun l=>zO (rL true 1 (rK .i64)) l [[]],
 qG (bor_rL (fun _=>rfl)),
 alRows (fun _=>rfl),
 qG (bor_rL (fun _=>rfl)),
 alRows (fun _=>rfl),
 nb_rows (nb_rL (fun _=>rfl))⟩
theorem R_LLi64:(∀ (l:List (List (List Int))) (i:Nat) (a0:List (List Int)),(List.map (rL true 1 (rL true 1 (rK .i64))) l).set i [.list true 1 (List.map (rL true 1 (rK .i64)) a0)]=List.map (rL true 1 (rL true 1 (rK .i64))) (l.set i a0)) ∧
 (∀ (l:List (List (List Int))) (a0:List (List Int)),List.map (rL true 1 (rL true 1 (rK .i64))) l++[[.list true 1 (List.map (rL true 1 (rK .i64)) a0)]]=List.map (rL true 1 (rL true 1 (rK .i64))) (l++[a0])) ∧
 (∀ (l:List (List (List Int))) (i:Nat) (a0:List (List Int)),(List.map (rL false 1 (rL false 1 (rK .i64))) l).set i [.list false 1 (List.map (rL false 1 (rK .i64)) a0)]=List.map (rL false 1 (rL false 1 (rK .i64))) (l.set i a0)) ∧
 (∀ (l:List (List (List Int))) (a0:List (List Int)),List.map (rL false 1 (rL false 1 (rK .i64))) l++[[.list false 1 (List.map (rL false 1 (rK .i64)) a0)]]=List.map (rL false 1 (rL false 1 (rK .i64))) (l++[a0])) ∧
 (∀ (l:List (List (List Int))) (i:Nat),(List.map (rL true 1 (rL true 1 (rK .i64))) l).set i [.list true 1 []]=List.map (rL true 1 (rL true 1 (rK .i64))) (l.set i [])) ∧
 (∀ (l:List (List (List Int))),List.map (rL true 1 (rL true 1 (rK .i64))) l++[[.list true 1 []]]=List.map (rL true 1 (rL true 1 (rK .i64))) (l++[[]])) ∧
 (∀ l:List (List (List Int)),qA (List.map (rL true 1 (rL true 1 (rK .i64))) l)=List.map (rL false 1 (rL false 1 (rK .i64))) l) ∧
 (∀ l:List (List (List Int)),qQ (List.map (rL true 1 (rL true 1 (rK .i64))) l)=true) ∧
 (∀ l:List (List (List Int)),qA (List.map (rL false 1 (rL false 1 (rK .i64))) l)=List.map (rL false 1 (rL false 1 (rK .i64))) l) ∧
 (∀ l:List (List (List Int)),qQ (List.map (rL false 1 (rL false 1 (rK .i64))) l)=true) ∧
 (∀ l:List (List (List Int)),zM (List.map (rL true 1 (rL true 1 (rK .i64))) l)=true):=
 ⟨fun l i a0=>qO (rL true 1 (rL true 1 (rK .i64))) l i a0,
 fun l a0=>zO (rL true 1 (rL true 1 (rK .i64))) l [a0],
 fun l i a0=>qO (rL false 1 (rL false 1 (rK .i64))) l i a0,
 fun l a0=>zO (rL false 1 (rL false 1 (rK .i64))) l [a0],
 fun l i=>qO (rL true 1 (rL true 1 (rK .i64))) l i [],
 fun l=>zO (rL true 1 (rL true 1 (rK .i64))) l [[]],
 qG (bor_rL (bor_rL (fun _=>rfl))),
 alRows (fun _=>rfl),
 qG (bor_rL (bor_rL (fun _=>rfl))),
 alRows (fun _=>rfl),
 nb_rows (nb_rL (nb_rL (fun _=>rfl)))⟩
def zD (o:Bool) (x:T_impl_Name):List V:=[.sc (.string x.Path),.sc (.int .i64 x.Id),.sc (.int .i64 x.Version)]
theorem zT:(∀ (l:List T_impl_Name) (i:Nat) (a0:ByteArray) (a1:Int) (a2:Int),(List.map (zD true) l).set i [.sc (.string a0),.sc (.int .i64 a1),.sc (.int .i64 a2)]=List.map (zD true) (l.set i (T_impl_Name.mk a0 a1 a2))) ∧
 (∀ (l:List T_impl_Name) (a0:ByteArray) (a1:Int) (a2:Int),List.map (zD true) l++[[.sc (.string a0),.sc (.int .i64 a1),.sc (.int .i64 a2)]]=List.map (zD true) (l++[(T_impl_Name.mk a0 a1 a2)])) ∧
 (∀ (l:List T_impl_Name) (i:Nat) (a0:ByteArray) (a1:Int) (a2:Int),(List.map (zD true) l).set i [.sc (.string a0),.sc (.int .i64 a1),.sc (.int .i64 a2)]=List.map (zD true) (l.set i (T_impl_Name.mk a0 a1 a2))) ∧
 (∀ (l:List T_impl_Name) (a0:ByteArray) (a1:Int) (a2:Int),List.map (zD true) l++[[.sc (.string a0),.sc (.int .i64 a1),.sc (.int .i64 a2)]]=List.map (zD true) (l++[(T_impl_Name.mk a0 a1 a2)])) ∧
 (∀ l:List T_impl_Name,qA (List.map (zD true) l)=List.map (zD true) l) ∧
 (∀ l:List T_impl_Name,qQ (List.map (zD true) l)=true) ∧
 (∀ l:List T_impl_Name,qA (List.map (zD true) l)=List.map (zD true) l) ∧
 (∀ l:List T_impl_Name,qQ (List.map (zD true) l)=true) ∧
 (∀ l:List T_impl_Name,zM (List.map (zD true) l)=true) ∧
 (∀ l:List T_impl_Name,scRows (List.map (zD true) l)=true) ∧
 (∀ x:T_impl_Name,zD true x=[.sc (.string x.Path),.sc (.int .i64 x.Id),.sc (.int .i64 x.Version)]) ∧
 (∀ x:T_impl_Name,zD false x=[.sc (.string x.Path),.sc (.int .i64 x.Id),.sc (.int .i64 x.Version)]):=
 ⟨fun l i a0 a1 a2=>qO (zD true) l i (T_impl_Name.mk a0 a1 a2),
 fun l a0 a1 a2=>zO (zD true) l [(T_impl_Name.mk a0 a1 a2)],
 fun l i a0 a1 a2=>qO (zD true) l i (T_impl_Name.mk a0 a1 a2),
 fun l a0 a1 a2=>zO (zD true) l [(T_impl_Name.mk a0 a1 a2)],
 qG (fun _=>rfl),
 alRows (fun _=>rfl),
 qG (fun _=>rfl),
 alRows (fun _=>rfl),
 nb_rows (fun _=>rfl),
 scRw (fun _=>rfl),
 fun _=>rfl,
 fun _=>rfl⟩
def zA (o:Bool) (x:T_impl_Commit):List V:=[.list o 1 (List.map (rK .i64) x.Parents),.sc (.string x.Note),.list o 3 (List.map (zD true) x.Names)]
theorem qK:(∀ (l:List T_impl_Commit) (i:Nat) (a0:List Int) (a1:ByteArray) (a2:List T_impl_Name),(List.map (zA true) l).set i [.list true 1 (List.map (rK .i64) a0),.sc (.string a1),.list true 3 (List.map (zD true) a2)]=List.map (zA true) (l.set i (T_impl_Commit.mk a0 a1 a2))) ∧
 (∀ (l:List T_impl_Commit) (a0:List Int) (a1:ByteArray) (a2:List T_impl_Name),List.map (zA true) l++[[.list true 1 (List.map (rK .i64) a0),.sc (.string a1),.list true 3 (List.map (zD true) a2)]]=List.map (zA true) (l++[(T_impl_Commit.mk a0 a1 a2)])) ∧
 (∀ (l:List T_impl_Commit) (i:Nat) (a0:List Int) (a1:ByteArray) (a2:List T_impl_Name),(List.map (zA false) l).set i [.list false 1 (List.map (rK .i64) a0),.sc (.string a1),.list false 3 (List.map (zD true) a2)]=List.map (zA false) (l.set i (T_impl_Commit.mk a0 a1 a2))) ∧
 (∀ (l:List T_impl_Commit) (a0:List Int) (a1:ByteArray) (a2:List T_impl_Name),List.map (zA false) l++[[.list false 1 (List.map (rK .i64) a0),.sc (.string a1),.list false 3 (List.map (zD true) a2)]]=List.map (zA false) (l++[(T_impl_Commit.mk a0 a1 a2)])) ∧
 (∀ (l:List T_impl_Commit) (i:Nat) (a1:ByteArray) (a2:List T_impl_Name),(List.map (zA true) l).set i [.list true 1 [],.sc (.string a1),.list true 3 (List.map (zD true) a2)]=List.map (zA true) (l.set i (T_impl_Commit.mk [] a1 a2))) ∧
 (∀ (l:List T_impl_Commit) (a1:ByteArray) (a2:List T_impl_Name),List.map (zA true) l++[[.list true 1 [],.sc (.string a1),.list true 3 (List.map (zD true) a2)]]=List.map (zA true) (l++[(T_impl_Commit.mk [] a1 a2)])) ∧
 (∀ (l:List T_impl_Commit) (i:Nat) (a0:List Int) (a1:ByteArray),(List.map (zA true) l).set i [.list true 1 (List.map (rK .i64) a0),.sc (.string a1),.list true 3 []]=List.map (zA true) (l.set i (T_impl_Commit.mk a0 a1 []))) ∧
 (∀ (l:List T_impl_Commit) (a0:List Int) (a1:ByteArray),List.map (zA true) l++[[.list true 1 (List.map (rK .i64) a0),.sc (.string a1),.list true 3 []]]=List.map (zA true) (l++[(T_impl_Commit.mk a0 a1 [])])) ∧
 (∀ (l:List T_impl_Commit) (i:Nat) (a1:ByteArray),(List.map (zA true) l).set i [.list true 1 [],.sc (.string a1),.list true 3 []]=List.map (zA true) (l.set i (T_impl_Commit.mk [] a1 []))) ∧
 (∀ (l:List T_impl_Commit) (a1:ByteArray),List.map (zA true) l++[[.list true 1 [],.sc (.string a1),.list true 3 []]]=List.map (zA true) (l++[(T_impl_Commit.mk [] a1 [])])) ∧
 (∀ l:List T_impl_Commit,qA (List.map (zA true) l)=List.map (zA false) l) ∧
 (∀ l:List T_impl_Commit,qQ (List.map (zA true) l)=true) ∧
 (∀ l:List T_impl_Commit,qA (List.map (zA false) l)=List.map (zA false) l) ∧
 (∀ l:List T_impl_Commit,qQ (List.map (zA false) l)=true) ∧
 (∀ l:List T_impl_Commit,zM (List.map (zA true) l)=true) ∧
 (∀ x:T_impl_Commit,zA true x=[.list true 1 (List.map (rK .i64) x.Parents),.sc (.string x.Note),.list true 3 (List.map (zD true) x.Names)]) ∧
 (∀ x:T_impl_Commit,zA false x=[.list false 1 (List.map (rK .i64) x.Parents),.sc (.string x.Note),.list false 3 (List.map (zD true) x.Names)]):=
 ⟨fun l i a0 a1 a2=>qO (zA true) l i (T_impl_Commit.mk a0 a1 a2),
 fun l a0 a1 a2=>zO (zA true) l [(T_impl_Commit.mk a0 a1 a2)],
 fun l i a0 a1 a2=>qO (zA false) l i (T_impl_Commit.mk a0 a1 a2),
 fun l a0 a1 a2=>zO (zA false) l [(T_impl_Commit.mk a0 a1 a2)],
 fun l i a1 a2=>qO (zA true) l i (T_impl_Commit.mk [] a1 a2),
 fun l a1 a2=>zO (zA true) l [(T_impl_Commit.mk [] a1 a2)],
 fun l i a0 a1=>qO (zA true) l i (T_impl_Commit.mk a0 a1 []),
 fun l a0 a1=>zO (zA true) l [(T_impl_Commit.mk a0 a1 [])],
 fun l i a1=>qO (zA true) l i (T_impl_Commit.mk [] a1 []),
 fun l a1=>zO (zA true) l [(T_impl_Commit.mk [] a1 [])],
 qG (fun x=>by simp only [zA,zQ,V.bor,(show ∀ l:List Int,qA (List.map (rK .i64) l)=List.map (rK .i64) l from qG (fun _=>rfl)),(show ∀ l:List T_impl_Name,qA (List.map (zD true) l)=List.map (zD true) l from qG (fun _=>rfl))]),
 alRows (fun _=>rfl),
 qG (fun x=>by simp only [zA,zQ,V.bor,(show ∀ l:List Int,qA (List.map (rK .i64) l)=List.map (rK .i64) l from qG (fun _=>rfl)),(show ∀ l:List T_impl_Name,qA (List.map (zD true) l)=List.map (zD true) l from qG (fun _=>rfl))]),
 alRows (fun _=>rfl),
 nb_rows (fun x=>by simp only [zA,zR,V.noBor,Bool.and_true,Bool.true_and,(show ∀ l:List Int,zM (List.map (rK .i64) l)=true from nb_rows (fun _=>rfl)),(show ∀ l:List T_impl_Name,zM (List.map (zD true) l)=true from nb_rows (fun _=>rfl))]),
 fun _=>rfl,
 fun _=>rfl⟩
def zC (o:Bool) (x:T_impl_Body):List V:=[.sc (.string x.Line),.sc (.int .i64 x.Ins),.sc (.int .i64 x.Ord),.list o 1 (List.map (rK .i64) x.Dels)]
theorem zS:(∀ (l:List T_impl_Body) (i:Nat) (a0:ByteArray) (a1:Int) (a2:Int) (a3:List Int),(List.map (zC true) l).set i [.sc (.string a0),.sc (.int .i64 a1),.sc (.int .i64 a2),.list true 1 (List.map (rK .i64) a3)]=List.map (zC true) (l.set i (T_impl_Body.mk a0 a1 a2 a3))) ∧
 (∀ (l:List T_impl_Body) (a0:ByteArray) (a1:Int) (a2:Int) (a3:List Int),List.map (zC true) l++[[.sc (.string a0),.sc (.int .i64 a1),.sc (.int .i64 a2),.list true 1 (List.map (rK .i64) a3)]]=List.map (zC true) (l++[(T_impl_Body.mk a0 a1 a2 a3)])) ∧
 (∀ (l:List T_impl_Body) (i:Nat) (a0:ByteArray) (a1:Int) (a2:Int) (a3:List Int),(List.map (zC false) l).set i [.sc (.string a0),.sc (.int .i64 a1),.sc (.int .i64 a2),.list false 1 (List.map (rK .i64) a3)]=List.map (zC false) (l.set i (T_impl_Body.mk a0 a1 a2 a3))) ∧
 (∀ (l:List T_impl_Body) (a0:ByteArray) (a1:Int) (a2:Int) (a3:List Int),List.map (zC false) l++[[.sc (.string a0),.sc (.int .i64 a1),.sc (.int .i64 a2),.list false 1 (List.map (rK .i64) a3)]]=List.map (zC false) (l++[(T_impl_Body.mk a0 a1 a2 a3)])) ∧
 (∀ (l:List T_impl_Body) (i:Nat) (a0:ByteArray) (a1:Int) (a2:Int),(List.map (zC true) l).set i [.sc (.string a0),.sc (.int .i64 a1),.sc (.int .i64 a2),.list true 1 []]=List.map (zC true) (l.set i (T_impl_Body.mk a0 a1 a2 []))) ∧
 (∀ (l:List T_impl_Body) (a0:ByteArray) (a1:Int) (a2:Int),List.map (zC true) l++[[.sc (.string a0),.sc (.int .i64 a1),.sc (.int .i64 a2),.list true 1 []]]=List.map (zC true) (l++[(T_impl_Body.mk a0 a1 a2 [])])) ∧
 (∀ l:List T_impl_Body,qA (List.map (zC true) l)=List.map (zC false) l) ∧
 (∀ l:List T_impl_Body,qQ (List.map (zC true) l)=true) ∧
 (∀ l:List T_impl_Body,qA (List.map (zC false) l)=List.map (zC false) l) ∧
 (∀ l:List T_impl_Body,qQ (List.map (zC false) l)=true) ∧
 (∀ l:List T_impl_Body,zM (List.map (zC true) l)=true) ∧
 (∀ x:T_impl_Body,zC true x=[.sc (.string x.Line),.sc (.int .i64 x.Ins),.sc (.int .i64 x.Ord),.list true 1 (List.map (rK .i64) x.Dels)]) ∧
 (∀ x:T_impl_Body,zC false x=[.sc (.string x.Line),.sc (.int .i64 x.Ins),.sc (.int .i64 x.Ord),.list false 1 (List.map (rK .i64) x.Dels)]):=
 ⟨fun l i a0 a1 a2 a3=>qO (zC true) l i (T_impl_Body.mk a0 a1 a2 a3),
 fun l a0 a1 a2 a3=>zO (zC true) l [(T_impl_Body.mk a0 a1 a2 a3)],
 fun l i a0 a1 a2 a3=>qO (zC false) l i (T_impl_Body.mk a0 a1 a2 a3),
 fun l a0 a1 a2 a3=>zO (zC false) l [(T_impl_Body.mk a0 a1 a2 a3)],
 fun l i a0 a1 a2=>qO (zC true) l i (T_impl_Body.mk a0 a1 a2 []),
 fun l a0 a1 a2=>zO (zC true) l [(T_impl_Body.mk a0 a1 a2 [])],
 qG (fun x=>by simp only [zC,zQ,V.bor,(show ∀ l:List Int,qA (List.map (rK .i64) l)=List.map (rK .i64) l from qG (fun _=>rfl))]),
 alRows (fun _=>rfl),
 qG (fun x=>by simp only [zC,zQ,V.bor,(show ∀ l:List Int,qA (List.map (rK .i64) l)=List.map (rK .i64) l from qG (fun _=>rfl))]),
 alRows (fun _=>rfl),
 nb_rows (fun x=>by simp only [zC,zR,V.noBor,Bool.and_true,Bool.true_and,(show ∀ l:List Int,zM (List.map (rK .i64) l)=true from nb_rows (fun _=>rfl))]),
 fun _=>rfl,
 fun _=>rfl⟩
def zB (o:Bool) (x:T_impl_Weave):List V:=[.list o 1 (List.map (rL o 1 (rK .i64)) x.Parents),.list o 4 (List.map (zC o) x.Bodies)]
theorem jJ:(∀ (l:List T_impl_Weave) (i:Nat) (a0:List (List Int)) (a1:List T_impl_Body),(List.map (zB true) l).set i [.list true 1 (List.map (rL true 1 (rK .i64)) a0),.list true 4 (List.map (zC true) a1)]=List.map (zB true) (l.set i (T_impl_Weave.mk a0 a1))) ∧
 (∀ (l:List T_impl_Weave) (a0:List (List Int)) (a1:List T_impl_Body),List.map (zB true) l++[[.list true 1 (List.map (rL true 1 (rK .i64)) a0),.list true 4 (List.map (zC true) a1)]]=List.map (zB true) (l++[(T_impl_Weave.mk a0 a1)])) ∧
 (∀ (l:List T_impl_Weave) (i:Nat) (a0:List (List Int)) (a1:List T_impl_Body),(List.map (zB false) l).set i [.list false 1 (List.map (rL false 1 (rK .i64)) a0),.list false 4 (List.map (zC false) a1)]=List.map (zB false) (l.set i (T_impl_Weave.mk a0 a1))) ∧
 (∀ (l:List T_impl_Weave) (a0:List (List Int)) (a1:List T_impl_Body),List.map (zB false) l++[[.list false 1 (List.map (rL false 1 (rK .i64)) a0),.list false 4 (List.map (zC false) a1)]]=List.map (zB false) (l++[(T_impl_Weave.mk a0 a1)])) ∧
 (∀ (l:List T_impl_Weave) (i:Nat) (a1:List T_impl_Body),(List.map (zB true) l).set i [.list true 1 [],.list true 4 (List.map (zC true) a1)]=List.map (zB true) (l.set i (T_impl_Weave.mk [] a1))) ∧
 (∀ (l:List T_impl_Weave) (a1:List T_impl_Body),List.map (zB true) l++[[.list true 1 [],.list true 4 (List.map (zC true) a1)]]=List.map (zB true) (l++[(T_impl_Weave.mk [] a1)])) ∧
 (∀ (l:List T_impl_Weave) (i:Nat) (a0:List (List Int)),(List.map (zB true) l).set i [.list true 1 (List.map (rL true 1 (rK .i64)) a0),.list true 4 []]=List.map (zB true) (l.set i (T_impl_Weave.mk a0 []))) ∧
 (∀ (l:List T_impl_Weave) (a0:List (List Int)),List.map (zB true) l++[[.list true 1 (List.map (rL true 1 (rK .i64)) a0),.list true 4 []]]=List.map (zB true) (l++[(T_impl_Weave.mk a0 [])])) ∧
 (∀ (l:List T_impl_Weave) (i:Nat),(List.map (zB true) l).set i [.list true 1 [],.list true 4 []]=List.map (zB true) (l.set i (T_impl_Weave.mk [] []))) ∧
 (∀ (l:List T_impl_Weave),List.map (zB true) l++[[.list true 1 [],.list true 4 []]]=List.map (zB true) (l++[(T_impl_Weave.mk [] [])])) ∧
 (∀ l:List T_impl_Weave,qA (List.map (zB true) l)=List.map (zB false) l) ∧
 (∀ l:List T_impl_Weave,qQ (List.map (zB true) l)=true) ∧
 (∀ l:List T_impl_Weave,qA (List.map (zB false) l)=List.map (zB false) l) ∧
 (∀ l:List T_impl_Weave,qQ (List.map (zB false) l)=true) ∧
 (∀ l:List T_impl_Weave,zM (List.map (zB true) l)=true) ∧
 (∀ x:T_impl_Weave,zB true x=[.list true 1 (List.map (rL true 1 (rK .i64)) x.Parents),.list true 4 (List.map (zC true) x.Bodies)]) ∧
 (∀ x:T_impl_Weave,zB false x=[.list false 1 (List.map (rL false 1 (rK .i64)) x.Parents),.list false 4 (List.map (zC false) x.Bodies)]):=
 ⟨fun l i a0 a1=>qO (zB true) l i (T_impl_Weave.mk a0 a1),
 fun l a0 a1=>zO (zB true) l [(T_impl_Weave.mk a0 a1)],
 fun l i a0 a1=>qO (zB false) l i (T_impl_Weave.mk a0 a1),
 fun l a0 a1=>zO (zB false) l [(T_impl_Weave.mk a0 a1)],
 fun l i a1=>qO (zB true) l i (T_impl_Weave.mk [] a1),
 fun l a1=>zO (zB true) l [(T_impl_Weave.mk [] a1)],
 fun l i a0=>qO (zB true) l i (T_impl_Weave.mk a0 []),
 fun l a0=>zO (zB true) l [(T_impl_Weave.mk a0 [])],
 fun l i=>qO (zB true) l i (T_impl_Weave.mk [] []),
 fun l=>zO (zB true) l [(T_impl_Weave.mk [] [])],
 qG (fun x=>by simp only [zB,zQ,V.bor,(show ∀ l:List (List Int),qA (List.map (rL true 1 (rK .i64)) l)=List.map (rL false 1 (rK .i64)) l from qG (bor_rL (fun _=>rfl))),(show ∀ l:List T_impl_Body,qA (List.map (zC true) l)=List.map (zC false) l from qG (fun x=>by simp only [zC,zQ,V.bor,(show ∀ l:List Int,qA (List.map (rK .i64) l)=List.map (rK .i64) l from qG (fun _=>rfl))]))]),
 alRows (fun _=>rfl),
 qG (fun x=>by simp only [zB,zQ,V.bor,(show ∀ l:List (List Int),qA (List.map (rL false 1 (rK .i64)) l)=List.map (rL false 1 (rK .i64)) l from qG (bor_rL (fun _=>rfl))),(show ∀ l:List T_impl_Body,qA (List.map (zC false) l)=List.map (zC false) l from qG (fun x=>by simp only [zC,zQ,V.bor,(show ∀ l:List Int,qA (List.map (rK .i64) l)=List.map (rK .i64) l from qG (fun _=>rfl))]))]),
 alRows (fun _=>rfl),
 nb_rows (fun x=>by simp only [zB,zR,V.noBor,Bool.and_true,Bool.true_and,(show ∀ l:List (List Int),zM (List.map (rL true 1 (rK .i64)) l)=true from nb_rows (nb_rL (fun _=>rfl))),(show ∀ l:List T_impl_Body,zM (List.map (zC true) l)=true from nb_rows (fun x=>by simp only [zC,zR,V.noBor,Bool.and_true,Bool.true_and,(show ∀ l:List Int,zM (List.map (rK .i64) l)=true from nb_rows (fun _=>rfl))]))]),
 fun _=>rfl,
 fun _=>rfl⟩
theorem R_b:(∀ (l:List Bool) (i:Nat) (a0:Bool),(List.map rB l).set i [.sc (.bool a0)]=List.map rB (l.set i a0)) ∧
 (∀ (l:List Bool) (a0:Bool),List.map rB l++[[.sc (.bool a0)]]=List.map rB (l++[a0])) ∧
 (∀ (l:List Bool) (b0 b1:Bool),List.map rB l++[[.sc (.bool b0)],[.sc (.bool b1)]]=List.map rB (l++[b0,b1])) ∧
 (∀ (l:List Bool) (b0 b1 b2:Bool),List.map rB l++[[.sc (.bool b0)],[.sc (.bool b1)],[.sc (.bool b2)]]=List.map rB (l++[b0,b1,b2])) ∧
 (∀ (l:List Bool) (b0 b1 b2 b3:Bool),List.map rB l++[[.sc (.bool b0)],[.sc (.bool b1)],[.sc (.bool b2)],[.sc (.bool b3)]]=List.map rB (l++[b0,b1,b2,b3])) ∧
 (∀ n:Nat,List.replicate n [.sc (.bool false)]=List.map rB (List.replicate n false)) ∧
 (∀ l:List Bool,qA (List.map rB l)=List.map rB l) ∧
 (∀ l:List Bool,qQ (List.map rB l)=true) ∧
 (∀ l:List Bool,zM (List.map rB l)=true) ∧
 (∀ l:List Bool,scRows (List.map rB l)=true):=
 ⟨fun l i a0=>qO rB l i a0,
 fun l a0=>zO rB l [a0],
 fun l b0 b1=>zO rB l [b0,b1],
 fun l b0 b1 b2=>zO rB l [b0,b1,b2],
 fun l b0 b1 b2 b3=>zO rB l [b0,b1,b2,b3],
 fun n=>rep_rows rB false n,
 qG (fun _=>rfl),
 alRows (fun _=>rfl),
 nb_rows (fun _=>rfl),
 scRw (fun _=>rfl)⟩
def zE (o:Bool) (x:T_impl_Change):List V:=[.sc (.int .i64 x.Kind),.sc (.string x.Path),.sc (.string x.To),.list o 1 (List.map rS x.Lines)]
theorem R_T_impl_Change:(∀ (l:List T_impl_Change) (i:Nat) (a0:Int) (a1:ByteArray) (a2:ByteArray) (a3:List ByteArray),(List.map (zE true) l).set i [.sc (.int .i64 a0),.sc (.string a1),.sc (.string a2),.list true 1 (List.map rS a3)]=List.map (zE true) (l.set i (T_impl_Change.mk a0 a1 a2 a3))) ∧
 (∀ (l:List T_impl_Change) (a0:Int) (a1:ByteArray) (a2:ByteArray) (a3:List ByteArray),List.map (zE true) l++[[.sc (.int .i64 a0),.sc (.string a1),.sc (.string a2),.list true 1 (List.map rS a3)]]=List.map (zE true) (l++[(T_impl_Change.mk a0 a1 a2 a3)])) ∧
 (∀ (l:List T_impl_Change) (i:Nat) (a0:Int) (a1:ByteArray) (a2:ByteArray) (a3:List ByteArray),(List.map (zE false) l).set i [.sc (.int .i64 a0),.sc (.string a1),.sc (.string a2),.list false 1 (List.map rS a3)]=List.map (zE false) (l.set i (T_impl_Change.mk a0 a1 a2 a3))) ∧
 (∀ (l:List T_impl_Change) (a0:Int) (a1:ByteArray) (a2:ByteArray) (a3:List ByteArray),List.map (zE false) l++[[.sc (.int .i64 a0),.sc (.string a1),.sc (.string a2),.list false 1 (List.map rS a3)]]=List.map (zE false) (l++[(T_impl_Change.mk a0 a1 a2 a3)])) ∧
 (∀ (l:List T_impl_Change) (i:Nat) (a0:Int) (a1:ByteArray) (a2:ByteArray),(List.map (zE true) l).set i [.sc (.int .i64 a0),.sc (.string a1),.sc (.string a2),.list true 1 []]=List.map (zE true) (l.set i (T_impl_Change.mk a0 a1 a2 []))) ∧
 (∀ (l:List T_impl_Change) (a0:Int) (a1:ByteArray) (a2:ByteArray),List.map (zE true) l++[[.sc (.int .i64 a0),.sc (.string a1),.sc (.string a2),.list true 1 []]]=List.map (zE true) (l++[(T_impl_Change.mk a0 a1 a2 [])])) ∧
 (∀ l:List T_impl_Change,qA (List.map (zE true) l)=List.map (zE false) l) ∧
 (∀ l:List T_impl_Change,qQ (List.map (zE true) l)=true) ∧
 (∀ l:List T_impl_Change,qA (List.map (zE false) l)=List.map (zE false) l) ∧
 (∀ l:List T_impl_Change,qQ (List.map (zE false) l)=true) ∧
 (∀ l:List T_impl_Change,zM (List.map (zE true) l)=true) ∧
 (∀ x:T_impl_Change,zE true x=[.sc (.int .i64 x.Kind),.sc (.string x.Path),.sc (.string x.To),.list true 1 (List.map rS x.Lines)]) ∧
 (∀ x:T_impl_Change,zE false x=[.sc (.int .i64 x.Kind),.sc (.string x.Path),.sc (.string x.To),.list false 1 (List.map rS x.Lines)]):=
 ⟨fun l i a0 a1 a2 a3=>qO (zE true) l i (T_impl_Change.mk a0 a1 a2 a3),
 fun l a0 a1 a2 a3=>zO (zE true) l [(T_impl_Change.mk a0 a1 a2 a3)],
 fun l i a0 a1 a2 a3=>qO (zE false) l i (T_impl_Change.mk a0 a1 a2 a3),
 fun l a0 a1 a2 a3=>zO (zE false) l [(T_impl_Change.mk a0 a1 a2 a3)],
 fun l i a0 a1 a2=>qO (zE true) l i (T_impl_Change.mk a0 a1 a2 []),
 fun l a0 a1 a2=>zO (zE true) l [(T_impl_Change.mk a0 a1 a2 [])],
 qG (fun x=>by simp only [zE,zQ,V.bor,(show ∀ l:List ByteArray,qA (List.map rS l)=List.map rS l from qG (fun _=>rfl))]),
 alRows (fun _=>rfl),
 qG (fun x=>by simp only [zE,zQ,V.bor,(show ∀ l:List ByteArray,qA (List.map rS l)=List.map rS l from qG (fun _=>rfl))]),
 alRows (fun _=>rfl),
 nb_rows (fun x=>by simp only [zE,zR,V.noBor,Bool.and_true,Bool.true_and,(show ∀ l:List ByteArray,zM (List.map rS l)=true from nb_rows (fun _=>rfl))]),
 fun _=>rfl,
 fun _=>rfl⟩
theorem R_Ls:(∀ (l:List (List ByteArray)) (i:Nat) (a0:List ByteArray),(List.map (rL true 1 rS) l).set i [.list true 1 (List.map rS a0)]=List.map (rL true 1 rS) (l.set i a0)) ∧
 (∀ (l:List (List ByteArray)) (a0:List ByteArray),List.map (rL true 1 rS) l++[[.list true 1 (List.map rS a0)]]=List.map (rL true 1 rS) (l++[a0])) ∧
 (∀ (l:List (List ByteArray)) (i:Nat) (a0:List ByteArray),(List.map (rL false 1 rS) l).set i [.list false 1 (List.map rS a0)]=List.map (rL false 1 rS) (l.set i a0)) ∧
 (∀ (l:List (List ByteArray)) (a0:List ByteArray),List.map (rL false 1 rS) l++[[.list false 1 (List.map rS a0)]]=List.map (rL false 1 rS) (l++[a0])) ∧
 (∀ (l:List (List ByteArray)) (i:Nat),(List.map (rL true 1 rS) l).set i [.list true 1 []]=List.map (rL true 1 rS) (l.set i [])) ∧
 (∀ (l:List (List ByteArray)),List.map (rL true 1 rS) l++[[.list true 1 []]]=List.map (rL true 1 rS) (l++[[]])) ∧
 (∀ l:List (List ByteArray),qA (List.map (rL true 1 rS) l)=List.map (rL false 1 rS) l) ∧
 (∀ l:List (List ByteArray),qQ (List.map (rL true 1 rS) l)=true) ∧
 (∀ l:List (List ByteArray),qA (List.map (rL false 1 rS) l)=List.map (rL false 1 rS) l) ∧
 (∀ l:List (List ByteArray),qQ (List.map (rL false 1 rS) l)=true) ∧
 (∀ l:List (List ByteArray),zM (List.map (rL true 1 rS) l)=true):=
 ⟨fun l i a0=>qO (rL true 1 rS) l i a0,
 fun l a0=>zO (rL true 1 rS) l [a0],
 fun l i a0=>qO (rL false 1 rS) l i a0,
 fun l a0=>zO (rL false 1 rS) l [a0],
 fun l i=>qO (rL true 1 rS) l i [],
 fun l=>zO (rL true 1 rS) l [[]],
 qG (bor_rL (fun _=>rfl)),
 alRows (fun _=>rfl),
 qG (bor_rL (fun _=>rfl)),
 alRows (fun _=>rfl),
 nb_rows (nb_rL (fun _=>rfl))⟩
theorem R_u64:(∀ (l:List Int) (i:Nat) (a0:Int),(List.map (rK .u64) l).set i [.sc (.int .u64 a0)]=List.map (rK .u64) (l.set i a0)) ∧
 (∀ (l:List Int) (a0:Int),List.map (rK .u64) l++[[.sc (.int .u64 a0)]]=List.map (rK .u64) (l++[a0])) ∧
 (∀ (l:List Int) (b0 b1:Int),List.map (rK .u64) l++[[.sc (.int .u64 b0)],[.sc (.int .u64 b1)]]=List.map (rK .u64) (l++[b0,b1])) ∧
 (∀ (l:List Int) (b0 b1 b2:Int),List.map (rK .u64) l++[[.sc (.int .u64 b0)],[.sc (.int .u64 b1)],[.sc (.int .u64 b2)]]=List.map (rK .u64) (l++[b0,b1,b2])) ∧
 (∀ (l:List Int) (b0 b1 b2 b3:Int),List.map (rK .u64) l++[[.sc (.int .u64 b0)],[.sc (.int .u64 b1)],[.sc (.int .u64 b2)],[.sc (.int .u64 b3)]]=List.map (rK .u64) (l++[b0,b1,b2,b3])) ∧
 (∀ n:Nat,List.replicate n [.sc (.int .u64 0)]=List.map (rK .u64) (List.replicate n 0)) ∧
 (∀ l:List Int,qA (List.map (rK .u64) l)=List.map (rK .u64) l) ∧
 (∀ l:List Int,qQ (List.map (rK .u64) l)=true) ∧
 (∀ l:List Int,zM (List.map (rK .u64) l)=true) ∧
 (∀ l:List Int,scRows (List.map (rK .u64) l)=true):=
 ⟨fun l i a0=>qO (rK .u64) l i a0,
 fun l a0=>zO (rK .u64) l [a0],
 fun l b0 b1=>zO (rK .u64) l [b0,b1],
 fun l b0 b1 b2=>zO (rK .u64) l [b0,b1,b2],
 fun l b0 b1 b2 b3=>zO (rK .u64) l [b0,b1,b2,b3],
 fun n=>rep_rows (rK .u64) 0 n,
 qG (fun _=>rfl),
 alRows (fun _=>rfl),
 nb_rows (fun _=>rfl),
 scRw (fun _=>rfl)⟩
theorem R_Lb:(∀ (l:List (List Bool)) (i:Nat) (a0:List Bool),(List.map (rL true 1 rB) l).set i [.list true 1 (List.map rB a0)]=List.map (rL true 1 rB) (l.set i a0)) ∧
 (∀ (l:List (List Bool)) (a0:List Bool),List.map (rL true 1 rB) l++[[.list true 1 (List.map rB a0)]]=List.map (rL true 1 rB) (l++[a0])) ∧
 (∀ (l:List (List Bool)) (i:Nat) (a0:List Bool),(List.map (rL false 1 rB) l).set i [.list false 1 (List.map rB a0)]=List.map (rL false 1 rB) (l.set i a0)) ∧
 (∀ (l:List (List Bool)) (a0:List Bool),List.map (rL false 1 rB) l++[[.list false 1 (List.map rB a0)]]=List.map (rL false 1 rB) (l++[a0])) ∧
 (∀ (l:List (List Bool)) (i:Nat),(List.map (rL true 1 rB) l).set i [.list true 1 []]=List.map (rL true 1 rB) (l.set i [])) ∧
 (∀ (l:List (List Bool)),List.map (rL true 1 rB) l++[[.list true 1 []]]=List.map (rL true 1 rB) (l++[[]])) ∧
 (∀ l:List (List Bool),qA (List.map (rL true 1 rB) l)=List.map (rL false 1 rB) l) ∧
 (∀ l:List (List Bool),qQ (List.map (rL true 1 rB) l)=true) ∧
 (∀ l:List (List Bool),qA (List.map (rL false 1 rB) l)=List.map (rL false 1 rB) l) ∧
 (∀ l:List (List Bool),qQ (List.map (rL false 1 rB) l)=true) ∧
 (∀ l:List (List Bool),zM (List.map (rL true 1 rB) l)=true):=
 ⟨fun l i a0=>qO (rL true 1 rB) l i a0,
 fun l a0=>zO (rL true 1 rB) l [a0],
 fun l i a0=>qO (rL false 1 rB) l i a0,
 fun l a0=>zO (rL false 1 rB) l [a0],
 fun l i=>qO (rL true 1 rB) l i [],
 fun l=>zO (rL true 1 rB) l [[]],
 qG (bor_rL (fun _=>rfl)),
 alRows (fun _=>rfl),
 qG (bor_rL (fun _=>rfl)),
 alRows (fun _=>rfl),
 nb_rows (nb_rL (fun _=>rfl))⟩
end Go.TV
namespace Go.TV.F
noncomputable def laws_big (code:List Int):Option Bool:=
 some (decide ((code.length:Int) > 1048576))
noncomputable def spec_l01New_j1 (code:List Int) (h:Int):Option (T_spec_l01Cur):=
 some (T_spec_l01Cur.mk code 0 h)
noncomputable def spec_l01New_l1 (code:List Int) (h_1:Int) (i:Int):Option ((Int×Int)⊕(Int)):=
 (if (decide (i < (code.length:Int))) then some (decide (i < 4000)) else some false).bind fun b=>(if b then (zH code i).bind fun x=>some (.inl ((bits .and .i64 (wk .i64 ((wk .i64 ((wk .i64 (h_1 * 131))+(wk .i64 x)))+7)) 1073741823),(wk .i64 (i+1))))
 else some (.inr h_1))
noncomputable def spec_l01New (code:List Int):Option T_spec_l01Cur:=
 (zG (fun (s':Int×Int)=>spec_l01New_l1 code s'.1 s'.2) ((wk .i64 (73073+(code.length:Int))),0)).bind fun p=>spec_l01New_j1 code p
noncomputable def spec_l15Size (code:List Int):Option Int:=
 (if (decide ((wk .i64 (3+(wk .i64 ((code.length:Int).tdiv 30)))) > 10)) then some 10
 else some (wk .i64 (3+(wk .i64 ((code.length:Int).tdiv 30)))))
noncomputable def spec_l01Byte (c:T_spec_l01Cur):Option (Int×T_spec_l01Cur):=
 (if (decide (c.i < (c.b.length:Int))) then (zH c.b c.i).bind fun x=>some ((bits .and .i64 (wk .i64 ((bits .and .i64 (bits .xor .i64 (shrI .i64 (wk .i64 ((wk .i64 (c.h * 6364136223846793005))+1442695040888963407)) 33) (shrI .i64 (wk .i64 ((wk .i64 (c.h * 6364136223846793005))+1442695040888963407)) 45)) 255)+(wk .i64 x))) 255),(T_spec_l01Cur.mk c.b (wk .i64 (c.i+1)) (wk .i64 ((wk .i64 (c.h * 6364136223846793005))+1442695040888963407))))
 else some ((bits .and .i64 (bits .xor .i64 (shrI .i64 (wk .i64 ((wk .i64 (c.h * 6364136223846793005))+1442695040888963407)) 33) (shrI .i64 (wk .i64 ((wk .i64 (c.h * 6364136223846793005))+1442695040888963407)) 45)) 255),(T_spec_l01Cur.mk c.b c.i (wk .i64 ((wk .i64 (c.h * 6364136223846793005))+1442695040888963407)))))
noncomputable def qZ (c:T_spec_l01Cur) (n:Int):Option (Int×T_spec_l01Cur):=
 (if (decide (n≤0)) then some (0,(T_spec_l01Cur.mk c.b c.i c.h))
 else (if (decide (n≤256)) then (spec_l01Byte (T_spec_l01Cur.mk c.b c.i c.h)).bind fun x14=>(chk (¬n=0)).bind fun u=>some (((x14.1:Int).tmod n),(T_spec_l01Cur.mk x14.2.b x14.2.i x14.2.h))
 else (spec_l01Byte (T_spec_l01Cur.mk c.b c.i c.h)).bind fun x18=>(spec_l01Byte (T_spec_l01Cur.mk x18.2.b x18.2.i x18.2.h)).bind fun x20=>(spec_l01Byte (T_spec_l01Cur.mk x20.2.b x20.2.i x20.2.h)).bind fun x22=>(spec_l01Byte (T_spec_l01Cur.mk x22.2.b x22.2.i x22.2.h)).bind fun x24=>(chk (¬n=0)).bind fun u_1=>some (((wk .i64 ((wk .i64 ((wk .i64 ((wk .i64 (x18.1 * 16777216))+(wk .i64 (x20.1 * 65536))))+(wk .i64 (x22.1 * 256))))+x24.1)).tmod n),(T_spec_l01Cur.mk x24.2.b x24.2.i x24.2.h))))
noncomputable def jH (c:T_spec_l01Cur) (n:Int):Option (Bool×T_spec_l01Cur):=
 (qZ (T_spec_l01Cur.mk c.b c.i c.h) n).bind fun x7=>some ((x7.1 == 0),(T_spec_l01Cur.mk x7.2.b x7.2.i x7.2.h))
noncomputable def spec_l05Parents_j1 (c_1:List Int) (c_2:Int) (c_3:Int) (out_:List Int):Option ((List Int)×T_spec_l01Cur):=
 some (out_,(T_spec_l01Cur.mk c_1 c_2 c_3))
noncomputable def spec_l05Parents_l1 (n:Int) (v:Int) (c_4:List Int) (c_5:Int) (c_6:Int) (out__1:List Int):Option ((Int×(List Int)×Int×Int×(List Int))⊕((List Int)×Int×Int×(List Int))):=
 (if (decide (v < n)) then (if (decide ((out__1.length:Int) < 4)) then (if (v == (wk .i64 (n - 1))) then (jH (T_spec_l01Cur.mk c_4 c_5 c_6) 4).bind fun x23=>some ((!x23.1),x23.2.b,x23.2.i,x23.2.h) else some (false,c_4,c_5,c_6)).bind fun b_1=>(if b_1.1 then some (true,b_1.2.1,b_1.2.2.1,b_1.2.2.2) else (jH (T_spec_l01Cur.mk b_1.2.1 b_1.2.2.1 b_1.2.2.2) (wk .i64 (n+2))).bind fun x30=>some (x30.1,x30.2.b,x30.2.i,x30.2.h)).bind fun b_2=>some (b_2.1,b_2.2.1,b_2.2.2.1,b_2.2.2.2) else some (false,c_4,c_5,c_6)).bind fun b=>(if b.1 then (appn out__1 [v]).bind fun l=>some (.inl ((wk .i64 (v+1)),b.2.1,b.2.2.1,b.2.2.2,l))
 else some (.inl ((wk .i64 (v+1)),b.2.1,b.2.2.1,b.2.2.2,out__1)))
 else some (.inr (c_4,c_5,c_6,out__1)))
noncomputable def spec_l05Parents (c:T_spec_l01Cur) (n:Int):Option ((List Int)×T_spec_l01Cur):=
 (zG (fun (s':Int×(List Int)×Int×Int×(List Int))=>spec_l05Parents_l1 n s'.1 s'.2.1 s'.2.2.1 s'.2.2.2.1 s'.2.2.2.2) (0,c.b,c.i,c.h,[])).bind fun p=>spec_l05Parents_j1 p.1 p.2.1 p.2.2.1 p.2.2.2
noncomputable def spec_l01Pick (c:T_spec_l01Cur) (list_:List ByteArray):Option (ByteArray×T_spec_l01Cur):=
 (qZ (T_spec_l01Cur.mk c.b c.i c.h) (list_.length:Int)).bind fun x9=>(zH list_ x9.1).bind fun x=>some (x,(T_spec_l01Cur.mk x9.2.b x9.2.i x9.2.h))
noncomputable def spec_l15Graphs_j1 (out_:List (List (List Int))):Option ((List (List (List Int)))):=
 some out_
noncomputable def spec_l15Graphs_l1 (s:T_impl_Store) (i:Int) (out__1:List (List (List Int))):Option ((Int×(List (List (List Int))))⊕((List (List (List Int))))):=
 (if (decide (i < (s.Files.length:Int))) then (zH s.Files i).bind fun x=>(appn out__1 [x.Parents]).bind fun l=>some (.inl ((wk .i64 (i+1)),l))
 else some (.inr out__1))
noncomputable def spec_l15Graphs (s:T_impl_Store):Option (List (List (List Int))):=
 (zG (fun (s':Int×(List (List (List Int))))=>spec_l15Graphs_l1 s s'.1 s'.2) (0,[])).bind fun p=>spec_l15Graphs_j1 p
noncomputable def spec_l13Id_j1:Option (Int):=
 some (-1)
noncomputable def spec_l13Id_l1 (list_:List T_impl_Name) (id:Int) (i:Int):Option ((Int)⊕((Int)⊕(Unit))):=
 (if (decide (i < (list_.length:Int))) then (zH list_ i).bind fun x=>(if (x.Id == id) then some (.inr (.inl i))
 else some (.inl (wk .i64 (i+1))))
 else some (.inr (.inr ())))
noncomputable def spec_l13Id (list_:List T_impl_Name) (id:Int):Option Int:=
 (zG (fun (s':Int)=>spec_l13Id_l1 list_ id s') (0)).bind fun p=>(match p with | .inl c'=>some c' | .inr q=>spec_l13Id_j1)
noncomputable def spec_l07Without_j1 (out_:List Int):Option ((List Int)):=
 some out_
noncomputable def jV (list_:List Int) (x:Int) (i:Int) (out__1:List Int):Option ((Int×(List Int))⊕((List Int))):=
 (if (decide (i < (list_.length:Int))) then (zH list_ i).bind fun x_1=>(if (x_1 != x) then (appn out__1 [x_1]).bind fun l=>some (.inl ((wk .i64 (i+1)),l))
 else some (.inl ((wk .i64 (i+1)),out__1)))
 else some (.inr out__1))
noncomputable def spec_l07Without (list_:List Int) (x:Int):Option (List Int):=
 (zG (fun (s':Int×(List Int))=>jV list_ x s'.1 s'.2) (0,[])).bind fun p=>spec_l07Without_j1 p
noncomputable def spec_l07With_j2 (out__1:List Int):Option ((List Int)):=
 some out__1
noncomputable def spec_l07With_l1 (list_:List Int) (x:Int) (i:Int) (out__2:List Int):Option ((Int×(List Int))⊕((List Int))):=
 (if (decide (i < (list_.length:Int))) then (zH list_ i).bind fun x_1=>(if (decide (x_1 > x)) then (appn out__2 [x_1]).bind fun l_1=>some (.inl ((wk .i64 (i+1)),l_1))
 else some (.inl ((wk .i64 (i+1)),out__2)))
 else some (.inr out__2))
noncomputable def spec_l07With_j1 (list_:List Int) (x:Int) (out_:List Int):Option ((List Int)):=
 (appn out_ [x]).bind fun l=>(zG (fun (s':Int×(List Int))=>spec_l07With_l1 list_ x s'.1 s'.2) (0,l)).bind fun p=>spec_l07With_j2 p
noncomputable def spec_l07With_l2 (list_:List Int) (x:Int) (i_1:Int) (out__3:List Int):Option ((Int×(List Int))⊕((List Int))):=
 (if (decide (i_1 < (list_.length:Int))) then (zH list_ i_1).bind fun x_2=>(if (decide (x_2 < x)) then (appn out__3 [x_2]).bind fun l_2=>some (.inl ((wk .i64 (i_1+1)),l_2))
 else some (.inl ((wk .i64 (i_1+1)),out__3)))
 else some (.inr out__3))
noncomputable def spec_l07With (list_:List Int) (x:Int):Option (List Int):=
 (zG (fun (s':Int×(List Int))=>spec_l07With_l2 list_ x s'.1 s'.2) (0,[])).bind fun p_1=>spec_l07With_j1 list_ x p_1
noncomputable def spec_l14Of_j1 (out_:List Int):Option ((List Int)):=
 some out_
noncomputable def spec_l14Of_l1 (list_:List T_impl_Commit) (parents:List Int) (id:Int) (i:Int) (out__1:List Int):Option ((Int×(List Int))⊕((List Int))):=
 (if (decide (i < (parents.length:Int))) then (zH parents i).bind fun x=>(zH list_ x).bind fun x_1=>(spec_l13Id x_1.Names id).bind fun x26=>(if (decide (x26≥0)) then (zH x_1.Names x26).bind fun x_2=>(spec_l07Without out__1 x_2.Version).bind fun x42=>(spec_l07With x42 x_2.Version).bind fun x55=>some (.inl ((wk .i64 (i+1)),x55))
 else some (.inl ((wk .i64 (i+1)),out__1)))
 else some (.inr out__1))
noncomputable def spec_l14Of (list_:List T_impl_Commit) (parents:List Int) (id:Int):Option (List Int):=
 (zG (fun (s':Int×(List Int))=>spec_l14Of_l1 list_ parents id s'.1 s'.2) (0,[])).bind fun p=>spec_l14Of_j1 p
noncomputable def spec_l01In (x:Int) (least:Int) (most:Int):Option Bool:=
 (if (decide (x≥least)) then some (decide (x≤most)) else some false).bind fun b=>some b
noncomputable def spec_l05Set_j2 (in__1:List Bool):Option ((List Bool)):=
 some in__1
noncomputable def spec_l05Set_j3 (v:Int) (in__3:List Bool):Option ((Int×(List Bool))⊕((List Bool))):=
 some (.inl ((wk .i64 (v - 1)),in__3))
noncomputable def spec_l05Set_l2 (parents:List (List Int)) (v:Int) (k:Int) (in__4:List Bool):Option ((Int×(List Bool))⊕((List Bool))):=
 (zH parents v).bind fun x=>(if (decide (k < (x.length:Int))) then (zH in__4 v).bind fun x_1=>some x_1 else some false).bind fun b=>(if b then (zH parents v).bind fun x_2=>(zH x_2 k).bind fun x_3=>(zH in__4 x_3).bind fun x_4=>some (.inl ((wk .i64 (k+1)),(in__4.set x_3.toNat true)))
 else some (.inr in__4))
noncomputable def spec_l05Set_l1 (parents:List (List Int)) (v:Int) (in__2:List Bool):Option ((Int×(List Bool))⊕((List Bool))):=
 (if (decide (v≥0)) then (zG (fun (s':Int×(List Bool))=>spec_l05Set_l2 parents v s'.1 s'.2) (0,in__2)).bind fun p_1=>spec_l05Set_j3 v p_1
 else some (.inr in__2))
noncomputable def spec_l05Set_j1 (parents:List (List Int)) (in_:List Bool):Option ((List Bool)):=
 (zG (fun (s':Int×(List Bool))=>spec_l05Set_l1 parents s'.1 s'.2) ((wk .i64 ((parents.length:Int) - 1)),in_)).bind fun p=>spec_l05Set_j2 p
noncomputable def spec_l05Set_l3 (parents:List (List Int)) (list_:List Int) (i:Int) (in__5:List Bool):Option ((Int×(List Bool))⊕((List Bool))):=
 (if (decide (i < (list_.length:Int))) then (zH list_ i).bind fun x_5=>(spec_l01In x_5 0 (wk .i64 ((parents.length:Int) - 1))).bind fun x25=>(if x25 then (zH in__5 x_5).bind fun x_6=>some (.inl ((wk .i64 (i+1)),(in__5.set x_5.toNat true)))
 else some (.inl ((wk .i64 (i+1)),in__5)))
 else some (.inr in__5))
noncomputable def spec_l05Set (parents:List (List Int)) (list_:List Int):Option (List Bool):=
 ((mkl (parents.length:Int) (parents.length:Int) false:Option (List Bool))).bind fun x11=>(zG (fun (s':Int×(List Bool))=>spec_l05Set_l3 parents list_ s'.1 s'.2) (0,x11)).bind fun p_2=>spec_l05Set_j1 parents p_2
noncomputable def spec_l13Path_j1:Option (Int):=
 some (-1)
noncomputable def spec_l13Path_l1 (list_:List T_impl_Name) (path:ByteArray) (i:Int):Option ((Int)⊕((Int)⊕(Unit))):=
 (if (decide (i < (list_.length:Int))) then (zH list_ i).bind fun x=>(if (x.Path.toList == path.toList) then some (.inr (.inl i))
 else some (.inl (wk .i64 (i+1))))
 else some (.inr (.inr ())))
noncomputable def spec_l13Path (list_:List T_impl_Name) (path:ByteArray):Option Int:=
 (zG (fun (s':Int)=>spec_l13Path_l1 list_ path s') (0)).bind fun p=>(match p with | .inl c'=>some c' | .inr q=>spec_l13Path_j1)
noncomputable def spec_l13Put_j1 (n:T_impl_Name) (done:Bool) (out_:List T_impl_Name):Option ((List T_impl_Name)):=
 (if (!done) then (appn out_ [(T_impl_Name.mk n.Path n.Id n.Version)]).bind fun l=>some l
 else some out_)
noncomputable def spec_l13Put_j2 (list_:List T_impl_Name) (i:Int) (done_2:Bool) (out__2:List T_impl_Name):Option ((Bool×Int×(List T_impl_Name))⊕(Bool×(List T_impl_Name))):=
 (zH list_ i).bind fun x_1=>(appn out__2 [(T_impl_Name.mk x_1.Path x_1.Id x_1.Version)]).bind fun l_1=>some (.inl (done_2,(wk .i64 (i+1)),l_1))
noncomputable def spec_l13Put_l1 (list_:List T_impl_Name) (n:T_impl_Name) (done_1:Bool) (i:Int) (out__1:List T_impl_Name):Option ((Bool×Int×(List T_impl_Name))⊕(Bool×(List T_impl_Name))):=
 (if (decide (i < (list_.length:Int))) then (zH list_ i).bind fun x=>(if (x.Id == n.Id) then some (.inl (done_1,(wk .i64 (i+1)),out__1))
 else (if (!done_1) then some (!(Op.bytesLess x.Path.toList n.Path.toList || x.Path.toList == n.Path.toList)) else some false).bind fun b=>(if b then (appn out__1 [(T_impl_Name.mk n.Path n.Id n.Version)]).bind fun l_2=>spec_l13Put_j2 list_ i true l_2
 else spec_l13Put_j2 list_ i done_1 out__1))
 else some (.inr (done_1,out__1)))
noncomputable def spec_l13Put (list_:List T_impl_Name) (n:T_impl_Name):Option (List T_impl_Name):=
 (zG (fun (s':Bool×Int×(List T_impl_Name))=>spec_l13Put_l1 list_ n s'.1 s'.2.1 s'.2.2) (false,0,[])).bind fun p=>spec_l13Put_j1 n p.1 p.2
noncomputable def spec_l14Base_j1 (names:List T_impl_Name) (open_:List Int):Option ((List T_impl_Name)×(List Int)×Int):=
 some (names,open_,0)
noncomputable def spec_l14Base_j2 (id:Int) (names_2:List T_impl_Name) (open__2:List Int):Option ((Int×(List T_impl_Name)×(List Int))⊕(((List T_impl_Name)×(List Int)×Int)⊕((List T_impl_Name)×(List Int)))):=
 some (.inl ((wk .i64 (id+1)),names_2,open__2))
noncomputable def spec_l14Base_j4 (id:Int) (names_1:List T_impl_Name) (path:ByteArray) (x:Int) (open__3:List Int):Option ((Int×(List T_impl_Name)×(List Int))⊕(((List T_impl_Name)×(List Int)×Int)⊕((List T_impl_Name)×(List Int)))):=
 (spec_l13Path names_1 path).bind fun x99=>(if (decide (x99≥0)) then some (.inr (.inl ([],[],3)))
 else (spec_l13Put names_1 (T_impl_Name.mk path id x)).bind fun x108=>spec_l14Base_j2 id x108 open__3)
noncomputable def spec_l14Base_l2 (id:Int) (x30:(List Int)) (x77:(List Bool)) (k:Int) (open__4:List Int):Option ((Int×(List Int))⊕((List Int))):=
 (if (decide (k < (x30.length:Int))) then (zH x30 k).bind fun x_2=>(zH x77 x_2).bind fun x_3=>(if (!x_3) then (spec_l07Without open__4 id).bind fun x94=>(spec_l07With x94 id).bind fun x96=>some (.inl ((wk .i64 (k+1)),x96))
 else some (.inl ((wk .i64 (k+1)),open__4)))
 else some (.inr open__4))
noncomputable def spec_l14Base_j3 (files:List (List (List Int))) (id:Int) (names_1:List T_impl_Name) (open__1:List Int) (x30:(List Int)) (path:ByteArray):Option ((Int×(List T_impl_Name)×(List Int))⊕(((List T_impl_Name)×(List Int)×Int)⊕((List T_impl_Name)×(List Int)))):=
 (zH x30 (wk .i64 ((x30.length:Int) - 1))).bind fun x=>(zH files id).bind fun x_1=>(spec_l05Set x_1 [x]).bind fun x77=>(zG (fun (s':Int×(List Int))=>spec_l14Base_l2 id x30 x77 s'.1 s'.2) (0,open__1)).bind fun p_1=>spec_l14Base_j4 id names_1 path x p_1
noncomputable def spec_l14Base_l3 (list_:List T_impl_Commit) (parents:List Int) (id:Int) (path_1:ByteArray) (i:Int):Option ((ByteArray×Int)⊕(ByteArray)):=
 (if (decide (i≥0)) then (zH parents i).bind fun x_4=>(zH list_ x_4).bind fun x_5=>(spec_l13Id x_5.Names id).bind fun x50=>(if (decide (x50≥0)) then (zH x_5.Names x50).bind fun x_6=>some (.inl (x_6.Path,(wk .i64 (i - 1))))
 else some (.inl (path_1,(wk .i64 (i - 1)))))
 else some (.inr path_1))
noncomputable def spec_l14Base_l1 (list_:List T_impl_Commit) (files:List (List (List Int))) (parents:List Int) (id:Int) (names_1:List T_impl_Name) (open__1:List Int):Option ((Int×(List T_impl_Name)×(List Int))⊕(((List T_impl_Name)×(List Int)×Int)⊕((List T_impl_Name)×(List Int)))):=
 (if (decide (id < (files.length:Int))) then (spec_l14Of list_ parents id).bind fun x30=>(if ((x30.length:Int) == 0) then spec_l14Base_j2 id names_1 open__1
 else (zG (fun (s':ByteArray×Int)=>spec_l14Base_l3 list_ parents id s'.1 s'.2) ((ByteArray.mk #[]),(wk .i64 ((parents.length:Int) - 1)))).bind fun p_2=>spec_l14Base_j3 files id names_1 open__1 x30 p_2)
 else some (.inr (.inr (names_1,open__1))))
noncomputable def spec_l14Base (list_:List T_impl_Commit) (files:List (List (List Int))) (parents:List Int):Option ((List T_impl_Name)×(List Int)×Int):=
 (zG (fun (s':Int×(List T_impl_Name)×(List Int))=>spec_l14Base_l1 list_ files parents s'.1 s'.2.1 s'.2.2) (0,[],[])).bind fun p=>(match p with | .inl c'=>some c' | .inr q=>spec_l14Base_j1 q.1 q.2)
noncomputable def spec_l06Live_j1:Option (Bool):=
 some true
noncomputable def spec_l06Live_l1 (b:T_impl_Body) (in_:List Bool) (i:Int):Option ((Int)⊕((Bool)⊕(Unit))):=
 (if (decide (i < (b.Dels.length:Int))) then (zH b.Dels i).bind fun x_1=>(spec_l01In x_1 0 (wk .i64 ((in_.length:Int) - 1))).bind fun x36=>(if x36 then (zH in_ x_1).bind fun x_2=>some x_2 else some false).bind fun b_2=>(if b_2 then some (.inr (.inl false))
 else some (.inl (wk .i64 (i+1))))
 else some (.inr (.inr ())))
noncomputable def spec_l06Live (b:T_impl_Body) (in_:List Bool):Option Bool:=
 (spec_l01In b.Ins 0 (wk .i64 ((in_.length:Int) - 1))).bind fun x11=>(if (!x11) then some true else (zH in_ b.Ins).bind fun x=>some (!x)).bind fun b_1=>(if b_1 then some false
 else (zG (fun (s':Int)=>spec_l06Live_l1 b in_ s') (0)).bind fun p=>(match p with | .inl c'=>some c' | .inr q=>spec_l06Live_j1))
noncomputable def spec_l06Places_j1 (out_:List Int):Option ((List Int)):=
 some out_
noncomputable def xA (w:T_impl_Weave) (in_:List Bool) (i:Int) (out__1:List Int):Option ((Int×(List Int))⊕((List Int))):=
 (if (decide (i < (w.Bodies.length:Int))) then (zH w.Bodies i).bind fun x=>(spec_l06Live (T_impl_Body.mk x.Line x.Ins x.Ord x.Dels) in_).bind fun x21=>(if x21 then (appn out__1 [i]).bind fun l=>some (.inl ((wk .i64 (i+1)),l))
 else some (.inl ((wk .i64 (i+1)),out__1)))
 else some (.inr out__1))
noncomputable def jY (w:T_impl_Weave) (in_:List Bool):Option (List Int):=
 (zG (fun (s':Int×(List Int))=>xA w in_ s'.1 s'.2) (0,[])).bind fun p=>spec_l06Places_j1 p
noncomputable def spec_l06Seen (w:T_impl_Weave) (parents:List Int):Option (List Int):=
 (spec_l05Set w.Parents parents).bind fun x9=>(jY (T_impl_Weave.mk w.Parents w.Bodies) x9).bind fun x10=>some x10
noncomputable def spec_l06Lines_j1 (out_:List ByteArray):Option ((List ByteArray)):=
 some out_
noncomputable def spec_l06Lines_l1 (w:T_impl_Weave) (places:List Int) (i:Int) (out__1:List ByteArray):Option ((Int×(List ByteArray))⊕((List ByteArray))):=
 (if (decide (i < (places.length:Int))) then (zH places i).bind fun x=>(zH w.Bodies x).bind fun x_1=>(appn out__1 [x_1.Line]).bind fun l=>some (.inl ((wk .i64 (i+1)),l))
 else some (.inr out__1))
noncomputable def spec_l06Lines (w:T_impl_Weave) (places:List Int):Option (List ByteArray):=
 (zG (fun (s':Int×(List ByteArray))=>spec_l06Lines_l1 w places s'.1 s'.2) (0,[])).bind fun p=>spec_l06Lines_j1 p
noncomputable def spec_l03Line (c:T_spec_l01Cur):Option (ByteArray×T_spec_l01Cur):=
 (spec_l01Pick (T_spec_l01Cur.mk c.b c.i c.h) [(ByteArray.mk #[97]),(ByteArray.mk #[98]),(ByteArray.mk #[99]),(ByteArray.mk #[100]),(ByteArray.mk #[101]),(ByteArray.mk #[]),(ByteArray.mk #[105,102,32,120]),(ByteArray.mk #[101,110,100]),(ByteArray.mk #[97]),(ByteArray.mk #[98])]).bind fun x5=>some (x5.1,(T_spec_l01Cur.mk x5.2.b x5.2.i x5.2.h))
noncomputable def spec_l04Near_j1 (c_1:List Int) (c_2:Int) (c_3:Int) (out_:List ByteArray):Option ((List ByteArray)×T_spec_l01Cur):=
 (jH (T_spec_l01Cur.mk c_1 c_2 c_3) 4).bind fun x44=>(if x44.1 then (spec_l03Line (T_spec_l01Cur.mk x44.2.b x44.2.i x44.2.h)).bind fun x47=>(appn out_ [x47.1]).bind fun l=>some (l,(T_spec_l01Cur.mk x47.2.b x47.2.i x47.2.h))
 else some (out_,(T_spec_l01Cur.mk x44.2.b x44.2.i x44.2.h)))
noncomputable def spec_l04Near_l1 (a:List ByteArray) (i:Int) (c_4:List Int) (c_5:Int) (c_6:Int) (out__1:List ByteArray):Option ((Int×(List Int)×Int×Int×(List ByteArray))⊕((List Int)×Int×Int×(List ByteArray))):=
 (if (decide (i < (a.length:Int))) then (qZ (T_spec_l01Cur.mk c_4 c_5 c_6) 6).bind fun x15=>(if (x15.1 == 0) then (spec_l03Line (T_spec_l01Cur.mk x15.2.b x15.2.i x15.2.h)).bind fun x27=>(appn out__1 [x27.1]).bind fun l_1=>some (.inl ((wk .i64 (i+1)),x27.2.b,x27.2.i,x27.2.h,l_1))
 else (if (x15.1 == 1) then (zH a i).bind fun x=>(spec_l03Line (T_spec_l01Cur.mk x15.2.b x15.2.i x15.2.h)).bind fun x34=>(appn out__1 [x34.1,x]).bind fun l_2=>some (.inl ((wk .i64 (i+1)),x34.2.b,x34.2.i,x34.2.h,l_2))
 else (if (x15.1 == 2) then some (.inl ((wk .i64 (i+1)),x15.2.b,x15.2.i,x15.2.h,out__1))
 else (zH a i).bind fun x_1=>(appn out__1 [x_1]).bind fun l_3=>some (.inl ((wk .i64 (i+1)),x15.2.b,x15.2.i,x15.2.h,l_3)))))
 else some (.inr (c_4,c_5,c_6,out__1)))
noncomputable def spec_l04Near (c:T_spec_l01Cur) (a:List ByteArray):Option ((List ByteArray)×T_spec_l01Cur):=
 (zG (fun (s':Int×(List Int)×Int×Int×(List ByteArray))=>spec_l04Near_l1 a s'.1 s'.2.1 s'.2.2.1 s'.2.2.2.1 s'.2.2.2.2) (0,c.b,c.i,c.h,[])).bind fun p=>spec_l04Near_j1 p.1 p.2.1 p.2.2.1 p.2.2.2
noncomputable def spec_l13Path2 (c:T_spec_l01Cur):Option (ByteArray×T_spec_l01Cur):=
 (jH (T_spec_l01Cur.mk c.b c.i c.h) 25).bind fun x4=>(if x4.1 then (spec_l01Pick (T_spec_l01Cur.mk x4.2.b x4.2.i x4.2.h) [(ByteArray.mk #[]),(ByteArray.mk #[47,97]),(ByteArray.mk #[97,47]),(ByteArray.mk #[97,47,47,98]),(ByteArray.mk #[65]),(ByteArray.mk #[97,97,97,97,97,97,97,97,97,97,97,97,97,97,97,97,97,97,97,97,97,97,97,97]),(ByteArray.mk #[97,97,97,97,97,97,97,97,97,97,97,97,97,97,97,97,97,97,97,97,97,97,97,97,97]),(ByteArray.mk #[97,32,98]),(ByteArray.mk #[233])]).bind fun x7=>some (x7.1,(T_spec_l01Cur.mk x7.2.b x7.2.i x7.2.h))
 else (spec_l01Pick (T_spec_l01Cur.mk x4.2.b x4.2.i x4.2.h) [(ByteArray.mk #[97]),(ByteArray.mk #[98]),(ByteArray.mk #[115,114,99,47,109,97,105,110]),(ByteArray.mk #[100,111,99,46,116,120,116]),(ByteArray.mk #[120,45,49])]).bind fun x10=>some (x10.1,(T_spec_l01Cur.mk x10.2.b x10.2.i x10.2.h)))
noncomputable def spec_l03Lines_j1 (c_1:List Int) (c_2:Int) (c_3:Int) (out_:List ByteArray):Option ((List ByteArray)×T_spec_l01Cur):=
 some (out_,(T_spec_l01Cur.mk c_1 c_2 c_3))
noncomputable def spec_l03Lines_l1 (n:Int) (i:Int) (c_4:List Int) (c_5:Int) (c_6:Int) (out__1:List ByteArray):Option ((Int×(List Int)×Int×Int×(List ByteArray))⊕((List Int)×Int×Int×(List ByteArray))):=
 (qZ (T_spec_l01Cur.mk c_4 c_5 c_6) (wk .i64 (n+1))).bind fun x12=>(if (decide (i < x12.1)) then (spec_l03Line (T_spec_l01Cur.mk x12.2.b x12.2.i x12.2.h)).bind fun x18=>(appn out__1 [x18.1]).bind fun l=>some (.inl ((wk .i64 (i+1)),x18.2.b,x18.2.i,x18.2.h,l))
 else some (.inr (x12.2.b,x12.2.i,x12.2.h,out__1)))
noncomputable def spec_l03Lines (c:T_spec_l01Cur) (n:Int):Option ((List ByteArray)×T_spec_l01Cur):=
 (zG (fun (s':Int×(List Int)×Int×Int×(List ByteArray))=>spec_l03Lines_l1 n s'.1 s'.2.1 s'.2.2.1 s'.2.2.2.1 s'.2.2.2.2) (0,c.b,c.i,c.h,[])).bind fun p=>spec_l03Lines_j1 p.1 p.2.1 p.2.2.1 p.2.2.2
noncomputable def spec_l01Long_j1 (out_:List Int):Option (ByteArray):=
 some (mkS out_)
noncomputable def spec_l01Long_l1 (n:Int) (x:Int) (i:Int) (out__1:List Int):Option ((Int×(List Int))⊕((List Int))):=
 (if (decide (i < n)) then (zH out__1 i).bind fun x_1=>some (.inl ((wk .i64 (i+1)),(out__1.set i.toNat x)))
 else some (.inr out__1))
noncomputable def spec_l01Long (n:Int) (x:Int):Option ByteArray:=
 ((mkl n n 0:Option (List Int))).bind fun x8=>(zG (fun (s':Int×(List Int))=>spec_l01Long_l1 n x s'.1 s'.2) (0,x8)).bind fun p=>spec_l01Long_j1 p
noncomputable def spec_l03Any_j1 (c_1:List Int) (c_2:Int) (c_3:Int) (out_:List ByteArray):Option ((List ByteArray)×T_spec_l01Cur):=
 some (out_,(T_spec_l01Cur.mk c_1 c_2 c_3))
noncomputable def spec_l03Any_l1 (c_4:List Int) (c_5:Int) (c_6:Int) (out__1:List ByteArray):Option (((List Int)×Int×Int×(List ByteArray))⊕((List Int)×Int×Int×(List ByteArray))):=
 (qZ (T_spec_l01Cur.mk c_4 c_5 c_6) 2).bind fun x27=>(if (decide ((out__1.length:Int) < (wk .i64 (80+x27.1)))) then (spec_l03Line (T_spec_l01Cur.mk x27.2.b x27.2.i x27.2.h)).bind fun x32=>(appn out__1 [x32.1]).bind fun l_2=>some (.inl (x32.2.b,x32.2.i,x32.2.h,l_2))
 else some (.inr (x27.2.b,x27.2.i,x27.2.h,out__1)))
noncomputable def spec_l03Any (c:T_spec_l01Cur):Option ((List ByteArray)×T_spec_l01Cur):=
 (spec_l03Lines (T_spec_l01Cur.mk c.b c.i c.h) 9).bind fun x5=>(qZ (T_spec_l01Cur.mk x5.2.b x5.2.i x5.2.h) 40).bind fun x7=>(if (x7.1 == 0) then (qZ (T_spec_l01Cur.mk x7.2.b x7.2.i x7.2.h) 2).bind fun x12=>(spec_l01Long (wk .i64 (60+x12.1)) 120).bind fun x14=>(appn x5.1 [x14]).bind fun l=>spec_l03Any_j1 x12.2.b x12.2.i x12.2.h l
 else (if (x7.1 == 1) then (appn x5.1 [(ByteArray.mk #[97,10,98])]).bind fun l_1=>spec_l03Any_j1 x7.2.b x7.2.i x7.2.h l_1
 else (if (x7.1 == 2) then (zG (fun (s':(List Int)×Int×Int×(List ByteArray))=>spec_l03Any_l1 s'.1 s'.2.1 s'.2.2.1 s'.2.2.2) (x7.2.b,x7.2.i,x7.2.h,x5.1)).bind fun p=>spec_l03Any_j1 p.1 p.2.1 p.2.2.1 p.2.2.2
 else spec_l03Any_j1 x7.2.b x7.2.i x7.2.h x5.1)))
noncomputable def spec_l01PickInt (c:T_spec_l01Cur) (list_:List Int):Option (Int×T_spec_l01Cur):=
 (qZ (T_spec_l01Cur.mk c.b c.i c.h) (list_.length:Int)).bind fun x9=>(zH list_ x9.1).bind fun x=>some (x,(T_spec_l01Cur.mk x9.2.b x9.2.i x9.2.h))
noncomputable def spec_l06Closure (w:T_impl_Weave) (v:Int):Option (List Bool):=
 (spec_l05Set w.Parents [v]).bind fun x9=>some x9
noncomputable def spec_l06Text (w:T_impl_Weave) (v:Int):Option (List ByteArray):=
 (spec_l06Closure (T_impl_Weave.mk w.Parents w.Bodies) v).bind fun x9=>(jY (T_impl_Weave.mk w.Parents w.Bodies) x9).bind fun x10=>(spec_l06Lines (T_impl_Weave.mk w.Parents w.Bodies) x10).bind fun x11=>some x11
noncomputable def spec_l15Changes_j2 (c_4:List Int) (c_5:Int) (c_6:Int) (out__1:List T_impl_Change):Option ((List T_impl_Change)×T_spec_l01Cur):=
 some (out__1,(T_spec_l01Cur.mk c_4 c_5 c_6))
noncomputable def spec_l15Changes_j3 (i:Int) (out__2:List T_impl_Change) (c_10:List Int) (c_11:Int) (c_12:Int) (x:Int) (x_1:ByteArray) (x_2:ByteArray) (x_3:List ByteArray):Option ((Int×(List Int)×Int×Int×(List T_impl_Change))⊕((List Int)×Int×Int×(List T_impl_Change))):=
 (jH (T_spec_l01Cur.mk c_10 c_11 c_12) 60).bind fun x136=>(if x136.1 then (spec_l01PickInt (T_spec_l01Cur.mk x136.2.b x136.2.i x136.2.h) [0,5]).bind fun x139=>(appn out__2 [(T_impl_Change.mk x139.1 x_1 x_2 x_3)]).bind fun l=>some (.inl ((wk .i64 (i+1)),x139.2.b,x139.2.i,x139.2.h,l))
 else (appn out__2 [(T_impl_Change.mk x x_1 x_2 x_3)]).bind fun l_1=>some (.inl ((wk .i64 (i+1)),x136.2.b,x136.2.i,x136.2.h,l_1)))
noncomputable def spec_l15Changes_l1 (s:T_impl_Store) (x22:(List T_impl_Name)×(List Int)×Int) (i:Int) (c_7:List Int) (c_8:Int) (c_9:Int) (out__2:List T_impl_Change):Option ((Int×(List Int)×Int×Int×(List T_impl_Change))⊕((List Int)×Int×Int×(List T_impl_Change))):=
 (qZ (T_spec_l01Cur.mk c_7 c_8 c_9) 3).bind fun x85=>(if (decide (i < (wk .i64 (1+x85.1)))) then (spec_l13Path2 (T_spec_l01Cur.mk x85.2.b x85.2.i x85.2.h)).bind fun x91=>(spec_l03Any (T_spec_l01Cur.mk x91.2.b x91.2.i x91.2.h)).bind fun x93=>(if (decide ((x22.1.length:Int) > 0)) then (jH (T_spec_l01Cur.mk x93.2.b x93.2.i x93.2.h) 3).bind fun x100=>some ((!x100.1),x100.2.b,x100.2.i,x100.2.h) else some (false,x93.2.b,x93.2.i,x93.2.h)).bind fun b=>(if b.1 then (qZ (T_spec_l01Cur.mk b.2.1 b.2.2.1 b.2.2.2) (x22.1.length:Int)).bind fun x107=>(zH x22.1 x107.1).bind fun x_4=>(spec_l01PickInt (T_spec_l01Cur.mk x107.2.b x107.2.i x107.2.h) [2,2,2,3,4]).bind fun x115=>(spec_l13Path2 (T_spec_l01Cur.mk x115.2.b x115.2.i x115.2.h)).bind fun x118=>(jH (T_spec_l01Cur.mk x118.2.b x118.2.i x118.2.h) 6).bind fun x121=>(if (!x121.1) then (zH s.Files x_4.Id).bind fun x_5=>(spec_l06Text (T_impl_Weave.mk x_5.Parents x_5.Bodies) x_4.Version).bind fun x132=>(spec_l04Near (T_spec_l01Cur.mk x121.2.b x121.2.i x121.2.h) x132).bind fun x133=>spec_l15Changes_j3 i out__2 x133.2.b x133.2.i x133.2.h x115.1 x_4.Path x118.1 x133.1
 else spec_l15Changes_j3 i out__2 x121.2.b x121.2.i x121.2.h x115.1 x_4.Path x118.1 x93.1)
 else spec_l15Changes_j3 i out__2 b.2.1 b.2.2.1 b.2.2.2 1 x91.1 (ByteArray.mk #[]) x93.1)
 else some (.inr (x85.2.b,x85.2.i,x85.2.h,out__2)))
noncomputable def spec_l15Changes_j1 (s:T_impl_Store) (x22:(List T_impl_Name)×(List Int)×Int) (c_1:List Int) (c_2:Int) (c_3:Int) (out_:List T_impl_Change):Option ((List T_impl_Change)×T_spec_l01Cur):=
 (zG (fun (s':Int×(List Int)×Int×Int×(List T_impl_Change))=>spec_l15Changes_l1 s x22 s'.1 s'.2.1 s'.2.2.1 s'.2.2.2.1 s'.2.2.2.2) (0,c_1,c_2,c_3,out_)).bind fun p=>spec_l15Changes_j2 p.1 p.2.1 p.2.2.1 p.2.2.2
noncomputable def spec_l15Changes_l2 (s:T_impl_Store) (parents:List Int) (x22:(List T_impl_Name)×(List Int)×Int) (i_1:Int) (c_16:List Int) (c_17:Int) (c_18:Int) (out__3:List T_impl_Change):Option ((Int×(List Int)×Int×Int×(List T_impl_Change))⊕((List Int)×Int×Int×(List T_impl_Change))):=
 (if (decide (i_1 < (x22.2.1.length:Int))) then (zH x22.2.1 i_1).bind fun x_6=>(spec_l13Id x22.1 x_6).bind fun x38=>(if (decide (x38≥0)) then (jH (T_spec_l01Cur.mk c_16 c_17 c_18) 12).bind fun x43=>some ((!x43.1),x43.2.b,x43.2.i,x43.2.h) else some (false,c_16,c_17,c_18)).bind fun b_1=>(if b_1.1 then (zH x22.1 x38).bind fun x_7=>(zH x22.2.1 i_1).bind fun x_8=>(zH s.Files x_8).bind fun x_9=>(spec_l14Of s.Commits parents x_8).bind fun x76=>(spec_l06Seen (T_impl_Weave.mk x_9.Parents x_9.Bodies) x76).bind fun x77=>(spec_l06Lines (T_impl_Weave.mk x_9.Parents x_9.Bodies) x77).bind fun x78=>(spec_l04Near (T_spec_l01Cur.mk b_1.2.1 b_1.2.2.1 b_1.2.2.2) x78).bind fun x79=>(appn out__3 [(T_impl_Change.mk 2 x_7.Path (ByteArray.mk #[]) x79.1)]).bind fun l_2=>some (.inl ((wk .i64 (i_1+1)),x79.2.b,x79.2.i,x79.2.h,l_2))
 else some (.inl ((wk .i64 (i_1+1)),b_1.2.1,b_1.2.2.1,b_1.2.2.2,out__3)))
 else some (.inr (c_16,c_17,c_18,out__3)))
noncomputable def spec_l15Changes (c:T_spec_l01Cur) (s:T_impl_Store) (parents:List Int):Option ((List T_impl_Change)×T_spec_l01Cur):=
 (spec_l15Graphs (T_impl_Store.mk s.Commits s.Files)).bind fun x20=>(spec_l14Base s.Commits x20 parents).bind fun x22=>(zG (fun (s':Int×(List Int)×Int×Int×(List T_impl_Change))=>spec_l15Changes_l2 s parents x22 s'.1 s'.2.1 s'.2.2.1 s'.2.2.2.1 s'.2.2.2.2) (0,c.b,c.i,c.h,[])).bind fun p_1=>spec_l15Changes_j1 s x22 p_1.1 p_1.2.1 p_1.2.2.1 p_1.2.2.2
noncomputable def spec_l05Rise_j1:Option (Bool):=
 some true
noncomputable def jS (list_:List Int) (n:Int) (i:Int):Option ((Int)⊕((Bool)⊕(Unit))):=
 (if (decide (i < (list_.length:Int))) then (zH list_ i).bind fun x=>(spec_l01In x 0 (wk .i64 (n - 1))).bind fun x18=>(if (!x18) then some true else (if (decide (i > 0)) then (zH list_ (wk .i64 (i - 1))).bind fun x_1=>some (decide (x_1≥x)) else some false).bind fun b_1=>some b_1).bind fun b=>(if b then some (.inr (.inl false))
 else some (.inl (wk .i64 (i+1))))
 else some (.inr (.inr ())))
noncomputable def spec_l05Rise (list_:List Int) (n:Int):Option Bool:=
 (zG (fun (s':Int)=>jS list_ n s') (0)).bind fun p=>(match p with | .inl c'=>some c' | .inr q=>spec_l05Rise_j1)
noncomputable def spec_NoteOk_j1 (note:ByteArray):Option (Bool):=
 some (decide ((note.size:Int)≤40))
noncomputable def spec_NoteOk_l1 (note:ByteArray) (i:Int):Option ((Int)⊕((Bool)⊕(Unit))):=
 (if (decide (i < (note.size:Int))) then some (decide ((note.size:Int)≤40)) else some false).bind fun b=>(if b then (sidx note i).bind fun x17=>(if (decide (x17 < 32)) then some true else some (decide (x17 > 126))).bind fun b_1=>(if b_1 then some (.inr (.inl false))
 else some (.inl (wk .i64 (i+1))))
 else some (.inr (.inr ())))
noncomputable def spec_NoteOk (note:ByteArray):Option Bool:=
 (zG (fun (s':Int)=>spec_NoteOk_l1 note s') (0)).bind fun p=>(match p with | .inl c'=>some c' | .inr q=>spec_NoteOk_j1 note)
noncomputable def spec_PathOk_j1:Option (Bool):=
 some true
noncomputable def spec_PathOk_l1 (path:ByteArray) (i:Int):Option ((Int)⊕((Bool)⊕(Unit))):=
 (if (decide (i < (path.size:Int))) then (sidx path i).bind fun x30=>(if (decide (x30≥97)) then some (decide (x30≤122)) else some false).bind fun b_2=>(if b_2 then some true else (if (decide (x30≥48)) then some (decide (x30≤57)) else some false).bind fun b_4=>some b_4).bind fun b_3=>(if b_3 then some true else some (x30 == 46)).bind fun b_5=>(if b_5 then some true else some (x30 == 45)).bind fun b_6=>(if b_6 then some true else some (x30 == 47)).bind fun b_7=>(if (!b_7) then some true else (if (decide (i > 0)) then some (x30 == 47) else some false).bind fun b_9=>(if b_9 then (sidx path (wk .i64 (i - 1))).bind fun x69=>some (x69 == 47) else some false).bind fun b_10=>some b_10).bind fun b_8=>(if b_8 then some (.inr (.inl false))
 else some (.inl (wk .i64 (i+1))))
 else some (.inr (.inr ())))
noncomputable def spec_PathOk (path:ByteArray):Option Bool:=
 (spec_l01In (path.size:Int) 1 24).bind fun x9=>(if (!x9) then some true else (sidx path 0).bind fun x13=>some (x13 == 47)).bind fun b=>(if b then some true else (sidx path (wk .i64 ((path.size:Int) - 1))).bind fun x20=>some (x20 == 47)).bind fun b_1=>(if b_1 then some false
 else (zG (fun (s':Int)=>spec_PathOk_l1 path s') (0)).bind fun p=>(match p with | .inl c'=>some c' | .inr q=>spec_PathOk_j1))
noncomputable def spec_l15Names_j2 (p_1:List T_impl_Name) (p_2:List Int) (p_3:Int):Option (Bool×T_spec_l15Plan):=
 some (true,(T_spec_l15Plan.mk p_1 p_2 p_3))
noncomputable def spec_l15Names_l1 (changes:List T_impl_Change) (i:Int) (p_4:List T_impl_Name) (p_5:List Int) (p_6:Int):Option ((Int×(List T_impl_Name)×(List Int)×Int)⊕((Bool×T_spec_l15Plan)⊕((List T_impl_Name)×(List Int)×Int))):=
 (if (decide (i < (changes.length:Int))) then (zH changes i).bind fun x=>(spec_l13Path p_4 x.Path).bind fun x42=>(spec_PathOk x.Path).bind fun x45=>(if (!x45) then some true else (if (x.Kind == 4) then (spec_PathOk x.To).bind fun x54=>some (!x54) else some false).bind fun b_1=>some b_1).bind fun b=>(if b then some true else some ((decide (x42≥0)) == (x.Kind == 1))).bind fun b_2=>(if b_2 then some (.inr (.inl (false,(T_spec_l15Plan.mk p_4 p_5 p_6))))
 else (if (x.Kind == 1) then (spec_l13Put p_4 (T_impl_Name.mk x.Path p_6 0)).bind fun x82=>(appn p_5 [i]).bind fun l=>some (.inl ((wk .i64 (i+1)),x82,l,(wk .i64 (p_6+1))))
 else (if (x.Kind == 2) then (zH p_4 x42).bind fun x_1=>(zH p_5 x_1.Id).bind fun x_2=>(if (decide (x_2≥0)) then some (.inr (.inl (false,(T_spec_l15Plan.mk p_4 p_5 p_6))))
 else some (.inl ((wk .i64 (i+1)),p_4,(p_5.set x_1.Id.toNat i),p_6)))
 else (if (x.Kind == 3) then (cutH p_4 x42).bind fun x143=>(appn ([]:List T_impl_Name) x143).bind fun l_1=>(cutL p_4 (wk .i64 (x42+1))).bind fun x151=>(appn l_1 x151).bind fun l_2=>some (.inl ((wk .i64 (i+1)),l_2,p_5,p_6))
 else (if (x.Kind == 4) then (spec_l13Path p_4 x.To).bind fun x163=>(if (decide (x163≥0)) then some (.inr (.inl (false,(T_spec_l15Plan.mk p_4 p_5 p_6))))
 else (zH p_4 x42).bind fun x_3=>(spec_l13Put p_4 (T_impl_Name.mk x.To x_3.Id x_3.Version)).bind fun x181=>some (.inl ((wk .i64 (i+1)),x181,p_5,p_6)))
 else some (.inl ((wk .i64 (i+1)),p_4,p_5,p_6)))))))
 else some (.inr (.inr (p_4,p_5,p_6))))
noncomputable def spec_l15Names_j1 (p:T_spec_l15Plan) (changes:List T_impl_Change):Option (Bool×T_spec_l15Plan):=
 (zG (fun (s':Int×(List T_impl_Name)×(List Int)×Int)=>spec_l15Names_l1 changes s'.1 s'.2.1 s'.2.2.1 s'.2.2.2) (0,p.names,p.lines,p.files)).bind fun p_7=>(match p_7 with | .inl c'=>some c' | .inr q=>spec_l15Names_j2 q.1 q.2.1 q.2.2)
noncomputable def spec_l15Names_l2 (p:T_spec_l15Plan) (changes:List T_impl_Change) (i_1:Int):Option ((Int)⊕((Bool×T_spec_l15Plan)⊕(Unit))):=
 (if (decide (i_1 < (changes.length:Int))) then (zH changes i_1).bind fun x_4=>(spec_l01In x_4.Kind 1 4).bind fun x24=>(if (!x24) then some (.inr (.inl (false,(T_spec_l15Plan.mk p.names p.lines p.files))))
 else some (.inl (wk .i64 (i_1+1))))
 else some (.inr (.inr ())))
noncomputable def spec_l15Names (p:T_spec_l15Plan) (changes:List T_impl_Change):Option (Bool×T_spec_l15Plan):=
 (if (decide ((changes.length:Int) > 8)) then some (false,(T_spec_l15Plan.mk p.names p.lines p.files))
 else (zG (fun (s':Int)=>spec_l15Names_l2 p changes s') (0)).bind fun p_8=>(match p_8 with | .inl c'=>some c' | .inr q_1=>spec_l15Names_j1 p changes))
noncomputable def spec_LineOk_j1 (line:ByteArray):Option (Bool):=
 some (decide ((line.size:Int)≤60))
noncomputable def spec_LineOk_l1 (line:ByteArray) (i:Int):Option ((Int)⊕((Bool)⊕(Unit))):=
 (if (decide (i < (line.size:Int))) then (sidx line i).bind fun x12=>(if (x12 == 10) then some (.inr (.inl false))
 else some (.inl (wk .i64 (i+1))))
 else some (.inr (.inr ())))
noncomputable def spec_LineOk (line:ByteArray):Option Bool:=
 (zG (fun (s':Int)=>spec_LineOk_l1 line s') (0)).bind fun p=>(match p with | .inl c'=>some c' | .inr q=>spec_LineOk_j1 line)
noncomputable def spec_l03All_j1:Option (Bool):=
 some true
noncomputable def spec_l03All_l1 (list_:List ByteArray) (i:Int):Option ((Int)⊕((Bool)⊕(Unit))):=
 (if (decide (i < (list_.length:Int))) then (zH list_ i).bind fun x=>(spec_LineOk x).bind fun x20=>(if (!x20) then some (.inr (.inl false))
 else some (.inl (wk .i64 (i+1))))
 else some (.inr (.inr ())))
noncomputable def spec_l03All (list_:List ByteArray) (most:Int):Option Bool:=
 (if (decide ((list_.length:Int) > most)) then some false
 else (zG (fun (s':Int)=>spec_l03All_l1 list_ s') (0)).bind fun p=>(match p with | .inl c'=>some c' | .inr q=>spec_l03All_j1))
noncomputable def spec_LinesOk (list_:List ByteArray):Option Bool:=
 (spec_l03All list_ 80).bind fun x4=>some x4
noncomputable def spec_l15CopyWeave_j2 (out_:List (List Int)) (out__1:List T_impl_Body):Option (T_impl_Weave):=
 some (T_impl_Weave.mk out_ out__1)
noncomputable def spec_l15CopyWeave_l1 (w:T_impl_Weave) (i:Int) (out__2:List T_impl_Body):Option ((Int×(List T_impl_Body))⊕((List T_impl_Body))):=
 (if (decide (i < (w.Bodies.length:Int))) then (zH w.Bodies i).bind fun x=>(appn ([]:List Int) x.Dels).bind fun l=>(appn out__2 [(T_impl_Body.mk x.Line x.Ins x.Ord l)]).bind fun l_1=>some (.inl ((wk .i64 (i+1)),l_1))
 else some (.inr out__2))
noncomputable def spec_l15CopyWeave_j1 (w:T_impl_Weave) (out_:List (List Int)):Option (T_impl_Weave):=
 (zG (fun (s':Int×(List T_impl_Body))=>spec_l15CopyWeave_l1 w s'.1 s'.2) (0,[])).bind fun p=>spec_l15CopyWeave_j2 out_ p
noncomputable def spec_l15CopyWeave_l2 (w:T_impl_Weave) (v:Int) (out__3:List (List Int)):Option ((Int×(List (List Int)))⊕((List (List Int)))):=
 (if (decide (v < (w.Parents.length:Int))) then (zH w.Parents v).bind fun x_1=>(appn ([]:List Int) x_1).bind fun l_2=>(appn out__3 [l_2]).bind fun l_3=>some (.inl ((wk .i64 (v+1)),l_3))
 else some (.inr out__3))
noncomputable def spec_l15CopyWeave (w:T_impl_Weave):Option T_impl_Weave:=
 (zG (fun (s':Int×(List (List Int)))=>spec_l15CopyWeave_l2 w s'.1 s'.2) (0,[])).bind fun p_1=>spec_l15CopyWeave_j1 w p_1
noncomputable def spec_l15Copy_j2 (out_:List T_impl_Commit) (out__1:List T_impl_Weave):Option (T_impl_Store):=
 some (T_impl_Store.mk out_ out__1)
noncomputable def spec_l15Copy_l1 (s:T_impl_Store) (i:Int) (out__2:List T_impl_Weave):Option ((Int×(List T_impl_Weave))⊕((List T_impl_Weave))):=
 (if (decide (i < (s.Files.length:Int))) then (zH s.Files i).bind fun x=>(spec_l15CopyWeave (T_impl_Weave.mk x.Parents x.Bodies)).bind fun x50=>(appn out__2 [(T_impl_Weave.mk x50.Parents x50.Bodies)]).bind fun l=>some (.inl ((wk .i64 (i+1)),l))
 else some (.inr out__2))
noncomputable def spec_l15Copy_j1 (s:T_impl_Store) (out_:List T_impl_Commit):Option (T_impl_Store):=
 (zG (fun (s':Int×(List T_impl_Weave))=>spec_l15Copy_l1 s s'.1 s'.2) (0,[])).bind fun p=>spec_l15Copy_j2 out_ p
noncomputable def spec_l15Copy_l2 (s:T_impl_Store) (i_1:Int) (out__3:List T_impl_Commit):Option ((Int×(List T_impl_Commit))⊕((List T_impl_Commit))):=
 (if (decide (i_1 < (s.Commits.length:Int))) then (zH s.Commits i_1).bind fun x_1=>(appn ([]:List Int) x_1.Parents).bind fun l_1=>(appn ([]:List T_impl_Name) x_1.Names).bind fun l_2=>(appn out__3 [(T_impl_Commit.mk l_1 x_1.Note l_2)]).bind fun l_3=>some (.inl ((wk .i64 (i_1+1)),l_3))
 else some (.inr out__3))
noncomputable def spec_l15Copy (s:T_impl_Store):Option T_impl_Store:=
 (zG (fun (s':Int×(List T_impl_Commit))=>spec_l15Copy_l2 s s'.1 s'.2) (0,[])).bind fun p_1=>spec_l15Copy_j1 s p_1
noncomputable def spec_l06Parents (w:T_impl_Weave) (parents:List Int):Option Bool:=
 (if (decide ((parents.length:Int)≤4)) then (spec_l05Rise parents (w.Parents.length:Int)).bind fun x13=>some x13 else some false).bind fun b=>some b
noncomputable def spec_l04Ok (a:List ByteArray):Option Bool:=
 (spec_l03All a 300).bind fun x4=>some x4
noncomputable def spec_l04Table_j1 (t:List (List Int)):Option ((List (List Int))):=
 some t
noncomputable def spec_l04Table_j2 (i:Int) (t_2:List (List Int)):Option ((Int×(List (List Int)))⊕((List (List Int)))):=
 some (.inl ((wk .i64 (i - 1)),t_2))
noncomputable def spec_l04Table_j4 (i:Int) (j:Int) (t_3:List (List Int)) (x_4:Int):Option ((Int×(List (List Int)))⊕((List (List Int)))):=
 (zH t_3 i).bind fun x_5=>(zH x_5 j).bind fun x_6=>some (.inl ((wk .i64 (j - 1)),(t_3.set i.toNat (x_5.set j.toNat x_4))))
noncomputable def spec_l04Table_j3 (a:List ByteArray) (b:List ByteArray) (i:Int) (j:Int) (t_3:List (List Int)) (x_3:Int):Option ((Int×(List (List Int)))⊕((List (List Int)))):=
 (zH a i).bind fun x_7=>(zH b j).bind fun x_8=>(if (x_7.toList == x_8.toList) then (zH t_3 (wk .i64 (i+1))).bind fun x_9=>(zH x_9 (wk .i64 (j+1))).bind fun x_10=>spec_l04Table_j4 i j t_3 (wk .i64 (x_10+1))
 else spec_l04Table_j4 i j t_3 x_3)
noncomputable def jQ (a:List ByteArray) (b:List ByteArray) (i:Int) (j:Int) (t_3:List (List Int)):Option ((Int×(List (List Int)))⊕((List (List Int)))):=
 (if (decide (j≥0)) then some (decide (i < (a.length:Int))) else some false).bind fun b_1=>(if b_1 then (zH t_3 (wk .i64 (i+1))).bind fun x_1=>(zH x_1 j).bind fun x_2=>(zH t_3 i).bind fun x_11=>(zH x_11 (wk .i64 (j+1))).bind fun x_12=>(if (decide (x_12 > x_2)) then spec_l04Table_j3 a b i j t_3 x_12
 else spec_l04Table_j3 a b i j t_3 x_2)
 else some (.inr t_3))
noncomputable def jW (a:List ByteArray) (b:List ByteArray) (i:Int) (t_1:List (List Int)):Option ((Int×(List (List Int)))⊕((List (List Int)))):=
 (if (decide (i≥0)) then ((mkl (wk .i64 ((b.length:Int)+1)) (wk .i64 ((b.length:Int)+1)) 0:Option (List Int))).bind fun x24=>(zH t_1 i).bind fun x=>(zG (fun (s':Int×(List (List Int)))=>jQ a b i s'.1 s'.2) ((wk .i64 ((b.length:Int) - 1)),(t_1.set i.toNat x24))).bind fun p_1=>spec_l04Table_j2 i p_1
 else some (.inr t_1))
noncomputable def spec_l04Table (a:List ByteArray) (b:List ByteArray):Option (List (List Int)):=
 ((mkl (wk .i64 ((a.length:Int)+1)) (wk .i64 ((a.length:Int)+1)) []:Option (List (List Int)))).bind fun x12=>(zG (fun (s':Int×(List (List Int)))=>jW a b s'.1 s'.2) ((a.length:Int),x12)).bind fun p=>spec_l04Table_j1 p
noncomputable def spec_Align_j2 (out__1:List Int):Option ((List Int)):=
 some out__1
noncomputable def spec_Align_l1 (b:List ByteArray) (j_1:Int) (out__2:List Int):Option ((Int×(List Int))⊕((List Int))):=
 (if (decide (j_1 < (b.length:Int))) then (appn out__2 [(-1)]).bind fun l=>some (.inl ((wk .i64 (j_1+1)),l))
 else some (.inr out__2))
noncomputable def spec_Align_j1 (b:List ByteArray) (j:Int) (out_:List Int):Option ((List Int)):=
 (zG (fun (s':Int×(List Int))=>spec_Align_l1 b s'.1 s'.2) (j,out_)).bind fun p=>spec_Align_j2 p
noncomputable def spec_Align_l2 (a:List ByteArray) (b:List ByteArray) (x21:(List (List Int))) (i:Int) (j_2:Int) (out__3:List Int):Option ((Int×Int×(List Int))⊕(Int×(List Int))):=
 (if (decide (i < (a.length:Int))) then some (decide (j_2 < (b.length:Int))) else some false).bind fun b_2=>(if b_2 then (zH a i).bind fun x=>(zH b j_2).bind fun x_1=>(if (x.toList == x_1.toList) then (appn out__3 [i]).bind fun l_1=>some (.inl ((wk .i64 (i+1)),(wk .i64 (j_2+1)),l_1))
 else (zH x21 (wk .i64 (i+1))).bind fun x_2=>(zH x_2 j_2).bind fun x_3=>(zH x21 i).bind fun x_4=>(zH x_4 (wk .i64 (j_2+1))).bind fun x_5=>(if (decide (x_3≥x_5)) then some (.inl ((wk .i64 (i+1)),j_2,out__3))
 else (appn out__3 [(-1)]).bind fun l_2=>some (.inl (i,(wk .i64 (j_2+1)),l_2))))
 else some (.inr (j_2,out__3)))
noncomputable def spec_Align (a:List ByteArray) (b:List ByteArray):Option (List Int):=
 (spec_l04Ok a).bind fun x11=>(if (!x11) then some true else (spec_l04Ok b).bind fun x15=>some (!x15)).bind fun b_1=>(if b_1 then some []
 else (spec_l04Table a b).bind fun x21=>(zG (fun (s':Int×Int×(List Int))=>spec_Align_l2 a b x21 s'.1 s'.2.1 s'.2.2) (0,0,[])).bind fun p_1=>spec_Align_j1 b p_1.1 p_1.2)
noncomputable def spec_l06Add_j3 (w:T_impl_Weave) (l_1:List (List Int)) (out__1:List T_impl_Body):Option (T_impl_Weave×Int×Int):=
 (if (decide ((out__1.length:Int) > 300)) then some ((T_impl_Weave.mk [] []),0,4)
 else some ((T_impl_Weave.mk l_1 out__1),(w.Parents.length:Int),0))
noncomputable def spec_l06Add_j4 (i:Int) (ord_1:Int) (out__3:List T_impl_Body):Option ((Int×Int×(List T_impl_Body))⊕((List T_impl_Body))):=
 some (.inl (ord_1,(wk .i64 (i+1)),out__3))
noncomputable def spec_l06Add_l2 (w:T_impl_Weave) (behind:List (List ByteArray)) (i:Int) (ord_2:Int) (k:Int) (out__5:List T_impl_Body):Option ((Int×Int×(List T_impl_Body))⊕(Int×(List T_impl_Body))):=
 (zH behind i).bind fun x=>(if (decide (k < (x.length:Int))) then (zH x k).bind fun x_1=>(appn out__5 [(T_impl_Body.mk x_1 (w.Parents.length:Int) ord_2 [])]).bind fun l_2=>some (.inl ((wk .i64 (ord_2+1)),(wk .i64 (k+1)),l_2))
 else some (.inr (ord_2,out__5)))
noncomputable def spec_l06Add_j5 (w:T_impl_Weave) (behind:List (List ByteArray)) (ord:Int) (i:Int) (out__4:List T_impl_Body):Option ((Int×Int×(List T_impl_Body))⊕((List T_impl_Body))):=
 (zG (fun (s':Int×Int×(List T_impl_Body))=>spec_l06Add_l2 w behind i s'.1 s'.2.1 s'.2.2) (ord,0,out__4)).bind fun p_1=>spec_l06Add_j4 i p_1.1 p_1.2
noncomputable def spec_l06Add_j6 (w:T_impl_Weave) (behind:List (List ByteArray)) (ord:Int) (i:Int) (out__2:List T_impl_Body) (x_2:T_impl_Body) (b:List Int):Option ((Int×Int×(List T_impl_Body))⊕((List T_impl_Body))):=
 (appn out__2 [(T_impl_Body.mk x_2.Line x_2.Ins x_2.Ord b)]).bind fun l_4=>spec_l06Add_j5 w behind ord i l_4
noncomputable def jI (w:T_impl_Weave) (behind:List (List ByteArray)) (stays:List Bool) (x120:(List Bool)) (ord:Int) (i:Int) (out__2:List T_impl_Body):Option ((Int×Int×(List T_impl_Body))⊕((List T_impl_Body))):=
 (if (decide (i≤(w.Bodies.length:Int))) then (if (decide (i > 0)) then (zH w.Bodies (wk .i64 (i - 1))).bind fun x_2=>(appn ([]:List Int) x_2.Dels).bind fun l_3=>(zH stays (wk .i64 (i - 1))).bind fun x_3=>(if (!x_3) then (spec_l06Live (T_impl_Body.mk x_2.Line x_2.Ins x_2.Ord l_3) x120).bind fun x150=>some x150 else some false).bind fun b_1=>(if b_1 then (appn l_3 [(w.Parents.length:Int)]).bind fun l_5=>spec_l06Add_j6 w behind ord i out__2 x_2 l_5
 else spec_l06Add_j6 w behind ord i out__2 x_2 l_3)
 else spec_l06Add_j5 w behind ord i out__2)
 else some (.inr out__2))
noncomputable def spec_l06Add_j2 (w:T_impl_Weave) (parents:List Int) (behind:List (List ByteArray)) (stays:List Bool) (out_:List (List Int)):Option (T_impl_Weave×Int×Int):=
 (appn ([]:List Int) parents).bind fun l=>(appn out_ [l]).bind fun l_1=>(spec_l05Set w.Parents parents).bind fun x120=>(zG (fun (s':Int×Int×(List T_impl_Body))=>jI w behind stays x120 s'.1 s'.2.1 s'.2.2) (0,0,[])).bind fun p=>spec_l06Add_j3 w l_1 p
noncomputable def spec_l06Add_l3 (w:T_impl_Weave) (k_1:Int) (out__6:List (List Int)):Option ((Int×(List (List Int)))⊕((List (List Int)))):=
 (if (decide (k_1 < (w.Parents.length:Int))) then (zH w.Parents k_1).bind fun x_4=>(appn ([]:List Int) x_4).bind fun l_6=>(appn out__6 [l_6]).bind fun l_7=>some (.inl ((wk .i64 (k_1+1)),l_7))
 else some (.inr out__6))
noncomputable def spec_l06Add_j1 (w:T_impl_Weave) (parents:List Int) (behind:List (List ByteArray)) (stays:List Bool):Option (T_impl_Weave×Int×Int):=
 (zG (fun (s':Int×(List (List Int)))=>spec_l06Add_l3 w s'.1 s'.2) (0,[])).bind fun p_2=>spec_l06Add_j2 w parents behind stays p_2
noncomputable def spec_l06Add_l4 (lines:List ByteArray) (x40:(List Int)) (x45:(List Int)) (at_:Int) (i_1:Int) (behind_1:List (List ByteArray)) (stays_1:List Bool):Option ((Int×Int×(List (List ByteArray))×(List Bool))⊕((List (List ByteArray))×(List Bool))):=
 (if (decide (i_1 < (lines.length:Int))) then (zH x45 i_1).bind fun x_5=>(if (decide (x_5≥0)) then (zH x40 x_5).bind fun x_6=>(zH stays_1 (wk .i64 ((wk .i64 (x_6+1)) - 1))).bind fun x_7=>some (.inl ((wk .i64 (x_6+1)),(wk .i64 (i_1+1)),behind_1,(stays_1.set ((wk .i64 ((wk .i64 (x_6+1)) - 1)).toNat) true)))
 else (zH behind_1 at_).bind fun x_8=>(zH lines i_1).bind fun x_9=>(appn x_8 [x_9]).bind fun l_8=>some (.inl (at_,(wk .i64 (i_1+1)),(behind_1.set at_.toNat l_8),stays_1)))
 else some (.inr (behind_1,stays_1)))
noncomputable def spec_l06Add (w:T_impl_Weave) (parents:List Int) (lines:List ByteArray):Option (T_impl_Weave×Int×Int):=
 (spec_l06Parents (T_impl_Weave.mk w.Parents w.Bodies) parents).bind fun x25=>(if (!x25) then some ((T_impl_Weave.mk [] []),0,2)
 else (spec_LinesOk lines).bind fun x29=>(if (!x29) then some ((T_impl_Weave.mk [] []),0,3)
 else (if ((w.Parents.length:Int) == 40) then some ((T_impl_Weave.mk [] []),0,4)
 else (spec_l06Seen (T_impl_Weave.mk w.Parents w.Bodies) parents).bind fun x40=>(spec_l06Lines (T_impl_Weave.mk w.Parents w.Bodies) x40).bind fun x43=>(spec_Align x43 lines).bind fun x45=>((mkl (wk .i64 ((w.Bodies.length:Int)+1)) (wk .i64 ((w.Bodies.length:Int)+1)) []:Option (List (List ByteArray)))).bind fun x50=>((mkl (w.Bodies.length:Int) (w.Bodies.length:Int) false:Option (List Bool))).bind fun x54=>(zG (fun (s':Int×Int×(List (List ByteArray))×(List Bool))=>spec_l06Add_l4 lines x40 x45 s'.1 s'.2.1 s'.2.2.1 s'.2.2.2) (0,0,x50,x54)).bind fun p_3=>spec_l06Add_j1 w parents p_3.1 p_3.2)))
noncomputable def spec_l15Commit_j4 (s:T_impl_Store) (parents:List Int) (note:ByteArray) (x136:T_impl_Store) (p_4:List T_impl_Name) (out_:List T_impl_Weave):Option (T_impl_Store×Int×Int):=
 (appn ([]:List Int) parents).bind fun l=>(appn x136.Commits [(T_impl_Commit.mk l note p_4)]).bind fun l_1=>some ((T_impl_Store.mk l_1 out_),(s.Commits.length:Int),0)
noncomputable def spec_l15Commit_j6 (id:Int) (p_5:List T_impl_Name) (x178:T_impl_Weave×Int×Int) (out__2:List T_impl_Weave):Option ((Int×(List T_impl_Name)×(List T_impl_Weave))⊕((T_impl_Store×Int×Int)⊕((List T_impl_Name)×(List T_impl_Weave)))):=
 (spec_l13Id p_5 id).bind fun x204=>(if (decide (x204≥0)) then (zH p_5 x204).bind fun x_3=>some (.inl ((wk .i64 (id+1)),(p_5.set x204.toNat (T_impl_Name.mk x_3.Path x_3.Id x178.2.1)),out__2))
 else some (.inl ((wk .i64 (id+1)),p_5,out__2)))
noncomputable def spec_l15Commit_j5 (s:T_impl_Store) (changes:List T_impl_Change) (b_1:Bool×(List T_impl_Name)×(List Int)×Int) (id:Int) (p_5:List T_impl_Name) (out__1:List T_impl_Weave) (w:List (List Int)) (w_1:List T_impl_Body) (from_:List Int):Option ((Int×(List T_impl_Name)×(List T_impl_Weave))⊕((T_impl_Store×Int×Int)⊕((List T_impl_Name)×(List T_impl_Weave)))):=
 (zH b_1.2.2.1 id).bind fun x_1=>(zH changes x_1).bind fun x_2=>(spec_l06Add (T_impl_Weave.mk w w_1) from_ x_2.Lines).bind fun x178=>(if (x178.2.2 != 0) then some (.inr (.inl ((T_impl_Store.mk [] []),0,7)))
 else (if (decide (id < (s.Files.length:Int))) then (zH out__1 id).bind fun x_4=>spec_l15Commit_j6 id p_5 x178 (out__1.set id.toNat (T_impl_Weave.mk x178.1.Parents x178.1.Bodies))
 else (appn out__1 [(T_impl_Weave.mk x178.1.Parents x178.1.Bodies)]).bind fun l_2=>spec_l15Commit_j6 id p_5 x178 l_2))
noncomputable def jZ (s:T_impl_Store) (parents:List Int) (changes:List T_impl_Change) (b_1:Bool×(List T_impl_Name)×(List Int)×Int) (id:Int) (p_5:List T_impl_Name) (out__1:List T_impl_Weave):Option ((Int×(List T_impl_Name)×(List T_impl_Weave))⊕((T_impl_Store×Int×Int)⊕((List T_impl_Name)×(List T_impl_Weave)))):=
 (if (decide (id < b_1.2.2.2)) then (zH b_1.2.2.1 id).bind fun x=>(if (decide (x < 0)) then some (.inl ((wk .i64 (id+1)),p_5,out__1))
 else (if (decide (id < (s.Files.length:Int))) then (zH s.Files id).bind fun x_5=>(spec_l14Of s.Commits parents id).bind fun x165=>spec_l15Commit_j5 s changes b_1 id p_5 out__1 x_5.Parents x_5.Bodies x165
 else spec_l15Commit_j5 s changes b_1 id p_5 out__1 [] [] []))
 else some (.inr (.inr (p_5,out__1))))
noncomputable def spec_l15Commit_j3 (s:T_impl_Store) (parents:List Int) (note:ByteArray) (changes:List T_impl_Change) (b_1:Bool×(List T_impl_Name)×(List Int)×Int):Option (T_impl_Store×Int×Int):=
 (if (decide (b_1.2.2.2 > 12)) then some true else some ((s.Commits.length:Int) == 40)).bind fun b_2=>(if b_2 then some ((T_impl_Store.mk [] []),0,7)
 else (spec_l15Copy (T_impl_Store.mk s.Commits s.Files)).bind fun x136=>(zG (fun (s':Int×(List T_impl_Name)×(List T_impl_Weave))=>jZ s parents changes b_1 s'.1 s'.2.1 s'.2.2) (0,b_1.2.1,x136.Files)).bind fun p_6=>(match p_6 with | .inl c'=>some c' | .inr q=>spec_l15Commit_j4 s parents note x136 q.1 q.2))
noncomputable def spec_l15Commit_l2 (x48:(List T_impl_Name)×(List Int)×Int) (b_1:Bool×(List T_impl_Name)×(List Int)×Int) (i:Int):Option ((Int)⊕((T_impl_Store×Int×Int)⊕(Unit))):=
 (if (decide (i < (x48.2.1.length:Int))) then (zH x48.2.1 i).bind fun x_6=>(zH b_1.2.2.1 x_6).bind fun x_7=>(if (decide (x_7 < 0)) then (spec_l13Id b_1.2.1 x_6).bind fun x121=>some (decide (x121≥0)) else some false).bind fun b_3=>(if b_3 then some (.inr (.inl ((T_impl_Store.mk [] []),0,6)))
 else some (.inl (wk .i64 (i+1))))
 else some (.inr (.inr ())))
noncomputable def spec_l15Commit_j2 (s:T_impl_Store) (parents:List Int) (note:ByteArray) (changes:List T_impl_Change) (x48:(List T_impl_Name)×(List Int)×Int) (b_1:Bool×(List T_impl_Name)×(List Int)×Int):Option (T_impl_Store×Int×Int):=
 (zG (fun (s':Int)=>spec_l15Commit_l2 x48 b_1 s') (0)).bind fun p_7=>(match p_7 with | .inl c'=>some c' | .inr q_1=>spec_l15Commit_j3 s parents note changes b_1)
noncomputable def spec_l15Commit_l3 (changes:List T_impl_Change) (i_1:Int):Option ((Int)⊕((T_impl_Store×Int×Int)⊕(Unit))):=
 (if (decide (i_1 < (changes.length:Int))) then (zH changes i_1).bind fun x_8=>(if (decide (x_8.Kind≤2)) then (spec_LinesOk x_8.Lines).bind fun x95=>some (!x95) else some false).bind fun b_4=>(if b_4 then some (.inr (.inl ((T_impl_Store.mk [] []),0,5)))
 else some (.inl (wk .i64 (i_1+1))))
 else some (.inr (.inr ())))
noncomputable def spec_l15Commit_j1 (s:T_impl_Store) (parents:List Int) (note:ByteArray) (changes:List T_impl_Change) (x48:(List T_impl_Name)×(List Int)×Int) (p:List Int):Option (T_impl_Store×Int×Int):=
 (if (x48.2.2 != 0) then some (true,x48.1,p,(s.Files.length:Int)) else (spec_l15Names (T_spec_l15Plan.mk x48.1 p (s.Files.length:Int)) changes).bind fun x73=>some ((!x73.1),x73.2.names,x73.2.lines,x73.2.files)).bind fun b_1=>(if b_1.1 then some ((T_impl_Store.mk [] []),0,4)
 else (zG (fun (s':Int)=>spec_l15Commit_l3 changes s') (0)).bind fun p_8=>(match p_8 with | .inl c'=>some c' | .inr q_2=>spec_l15Commit_j2 s parents note changes x48 b_1))
noncomputable def spec_l15Commit_l4 (s:T_impl_Store) (i_2:Int) (p_9:List Int):Option ((Int×(List Int))⊕((List Int))):=
 (if (decide (i_2 < (s.Files.length:Int))) then (appn p_9 [(-1)]).bind fun l_3=>some (.inl ((wk .i64 (i_2+1)),l_3))
 else some (.inr p_9))
noncomputable def spec_l15Commit (s:T_impl_Store) (parents:List Int) (note:ByteArray) (changes:List T_impl_Change):Option (T_impl_Store×Int×Int):=
 (if (decide ((parents.length:Int) > 4)) then some true else (spec_l05Rise parents (s.Commits.length:Int)).bind fun x34=>some (!x34)).bind fun b=>(if b then some ((T_impl_Store.mk [] []),0,2)
 else (spec_NoteOk note).bind fun x39=>(if (!x39) then some ((T_impl_Store.mk [] []),0,3)
 else (spec_l15Graphs (T_impl_Store.mk s.Commits s.Files)).bind fun x46=>(spec_l14Base s.Commits x46 parents).bind fun x48=>(zG (fun (s':Int×(List Int))=>spec_l15Commit_l4 s s'.1 s'.2) (0,[])).bind fun p_10=>spec_l15Commit_j1 s parents note changes x48 p_10))
noncomputable def spec_l15Right_j1 (c_1:List Int) (c_2:Int) (c_3:Int) (s:List T_impl_Commit) (s_1:List T_impl_Weave):Option (T_impl_Store×T_spec_l01Cur):=
 some ((T_impl_Store.mk s s_1),(T_spec_l01Cur.mk c_1 c_2 c_3))
noncomputable def spec_l15Right_l1 (n:Int) (i:Int) (c_4:List Int) (c_5:Int) (c_6:Int) (s_2:List T_impl_Commit) (s_3:List T_impl_Weave):Option ((Int×(List Int)×Int×Int×(List T_impl_Commit)×(List T_impl_Weave))⊕((List Int)×Int×Int×(List T_impl_Commit)×(List T_impl_Weave))):=
 (if (decide (i < n)) then (spec_l05Parents (T_spec_l01Cur.mk c_4 c_5 c_6) (s_2.length:Int)).bind fun x21=>(spec_l01Pick (T_spec_l01Cur.mk x21.2.b x21.2.i x21.2.h) [(ByteArray.mk #[]),(ByteArray.mk #[102,105,114,115,116]),(ByteArray.mk #[120,32,121])]).bind fun x27=>(spec_l15Changes (T_spec_l01Cur.mk x27.2.b x27.2.i x27.2.h) (T_impl_Store.mk s_2 s_3) x21.1).bind fun x31=>(spec_l15Commit (T_impl_Store.mk s_2 s_3) x21.1 x27.1 x31.1).bind fun x32=>(if (x32.2.2 == 0) then some (.inl ((wk .i64 (i+1)),x31.2.b,x31.2.i,x31.2.h,x32.1.Commits,x32.1.Files))
 else some (.inl ((wk .i64 (i+1)),x31.2.b,x31.2.i,x31.2.h,s_2,s_3)))
 else some (.inr (c_4,c_5,c_6,s_2,s_3)))
noncomputable def spec_l15Right (c:T_spec_l01Cur) (n:Int):Option (T_impl_Store×T_spec_l01Cur):=
 (zG (fun (s':Int×(List Int)×Int×Int×(List T_impl_Commit)×(List T_impl_Weave))=>spec_l15Right_l1 n s'.1 s'.2.1 s'.2.2.1 s'.2.2.2.1 s'.2.2.2.2.1 s'.2.2.2.2.2) (0,c.b,c.i,c.h,[],[])).bind fun p=>spec_l15Right_j1 p.1 p.2.1 p.2.2.1 p.2.2.2.1 p.2.2.2.2
noncomputable def spec_DrawRightStore (code:List Int):Option T_impl_Store:=
 (spec_l01New code).bind fun x5=>(spec_l15Size code).bind fun x9=>(qZ (T_spec_l01Cur.mk x5.b x5.i x5.h) x9).bind fun x10=>(spec_l15Right (T_spec_l01Cur.mk x10.2.b x10.2.i x10.2.h) (wk .i64 (2+x10.1))).bind fun x12=>some (T_impl_Store.mk x12.1.Commits x12.1.Files)
noncomputable def impl_inRange (n:Int) (least:Int) (most:Int):Option Bool:=
 (if (decide (n≥least)) then some (decide (n≤most)) else some false).bind fun b=>some b
noncomputable def impl_ascends_j1:Option (Bool):=
 some true
noncomputable def jR (list_:List Int) (below:Int) (x9:Int):Option ((Int)⊕((Bool)⊕(Unit))):=
 (if (decide (x9 < (list_.length:Int))) then (zH list_ x9).bind fun x=>(impl_inRange x 0 (wk .i64 (below - 1))).bind fun x17=>(if (!x17) then some true else (if (decide (x9 > 0)) then (zH list_ (wk .i64 (x9 - 1))).bind fun x_1=>some (decide (x≤x_1)) else some false).bind fun b_1=>some b_1).bind fun b=>(if b then some (.inr (.inl false))
 else some (.inl (wk .i64 (x9+1))))
 else some (.inr (.inr ())))
noncomputable def impl_ascends (list_:List Int) (below:Int):Option Bool:=
 (zG (fun (s':Int)=>jR list_ below s') (0)).bind fun p=>(match p with | .inl c'=>some c' | .inr q=>impl_ascends_j1)
noncomputable def impl_GraphOk_j1 (parents:List (List Int)):Option (Bool):=
 some (decide ((parents.length:Int)≤40))
noncomputable def jT (parents:List (List Int)) (x7:Int):Option ((Int)⊕((Bool)⊕(Unit))):=
 (if (decide (x7 < (parents.length:Int))) then (zH parents x7).bind fun x=>(if (decide ((x.length:Int) > 4)) then some true else (impl_ascends x x7).bind fun x18=>some (!x18)).bind fun b=>(if b then some (.inr (.inl false))
 else some (.inl (wk .i64 (x7+1))))
 else some (.inr (.inr ())))
noncomputable def impl_GraphOk (parents:List (List Int)):Option Bool:=
 (zG (fun (s':Int)=>jT parents s') (0)).bind fun p=>(match p with | .inl c'=>some c' | .inr q=>impl_GraphOk_j1 parents)
noncomputable def impl_unionOf_j1 (s:Int):Option (Int):=
 some s
noncomputable def impl_unionOf_l1 (closed:List Int) (list_:List Int) (s_1:Int) (x10:Int):Option ((Int×Int)⊕(Int)):=
 (if (decide (x10 < (list_.length:Int))) then (zH list_ x10).bind fun x=>(zH closed x).bind fun x_1=>some (.inl ((bits .or .u64 s_1 x_1),(wk .i64 (x10+1))))
 else some (.inr s_1))
noncomputable def impl_unionOf (closed:List Int) (list_:List Int):Option Int:=
 (zG (fun (s':Int×Int)=>impl_unionOf_l1 closed list_ s'.1 s'.2) (0,0)).bind fun p=>impl_unionOf_j1 p
noncomputable def impl_closures_j1 (out_:List Int):Option ((List Int)):=
 some out_
noncomputable def impl_closures_l1 (parents:List (List Int)) (x11:Int) (out__1:List Int):Option ((Int×(List Int))⊕((List Int))):=
 (if (decide (x11 < (parents.length:Int))) then (zH parents x11).bind fun x=>(impl_unionOf out__1 x).bind fun x20=>(chk (¬(wk .u64 x11) < 0)).bind fun u=>(zH out__1 x11).bind fun x_1=>some (.inl ((wk .i64 (x11+1)),(out__1.set x11.toNat (bits .or .u64 x20 (shlI .u64 1 (wk .u64 x11))))))
 else some (.inr out__1))
noncomputable def impl_closures (parents:List (List Int)):Option (List Int):=
 ((mkl (parents.length:Int) (parents.length:Int) 0:Option (List Int))).bind fun x8=>(zG (fun (s':Int×(List Int))=>impl_closures_l1 parents s'.1 s'.2) (0,x8)).bind fun p=>impl_closures_j1 p
noncomputable def strings_Contains (s:ByteArray) (x:ByteArray):Option Bool:=
 if s.size < 4294967281 then some (Go.Lib.contains s.data.toList x.data.toList) else none
noncomputable def impl_LineOk (line:ByteArray):Option Bool:=
 (if (decide ((line.size:Int)≤60)) then (strings_Contains line (ByteArray.mk #[10])).bind fun x8=>some (!x8) else some false).bind fun b=>some b
noncomputable def impl_isPlace (n:Int) (size:Int):Option Bool:=
 (impl_inRange n 0 (wk .i64 (size - 1))).bind fun x8=>some x8
noncomputable def impl_set_has (s:Int) (v:Int):Option Bool:=
 (impl_inRange v 0 63).bind fun x6=>(if x6 then (chk (¬(wk .u64 v) < 0)).bind fun u=>some ((bits .and .u64 (shrI .u64 s (wk .u64 v)) 1) == 1) else some false).bind fun b=>some b
noncomputable def impl_setOf_j1 (s:Int):Option (Int):=
 some s
noncomputable def impl_setOf_l1 (list_:List Int) (s_1:Int) (x8:Int):Option ((Int×Int)⊕(Int)):=
 (if (decide (x8 < (list_.length:Int))) then (zH list_ x8).bind fun x=>(impl_inRange x 0 63).bind fun x13=>(if x13 then (chk (¬(wk .u64 x) < 0)).bind fun u=>some (.inl ((bits .or .u64 s_1 (shlI .u64 1 (wk .u64 x))),(wk .i64 (x8+1))))
 else some (.inl (s_1,(wk .i64 (x8+1)))))
 else some (.inr s_1))
noncomputable def impl_setOf (list_:List Int):Option Int:=
 (zG (fun (s':Int×Int)=>impl_setOf_l1 list_ s'.1 s'.2) (0,0)).bind fun p=>impl_setOf_j1 p
noncomputable def impl_Body_isLive (b:T_impl_Body) (s:Int):Option Bool:=
 (impl_set_has s b.Ins).bind fun x8=>(if x8 then (impl_setOf b.Dels).bind fun x12=>some ((bits .and .u64 x12 s) == 0) else some false).bind fun b_1=>some b_1
noncomputable def impl_Weave_liveIn_j1 (out_:List Int):Option ((List Int)):=
 some out_
noncomputable def jO (w:T_impl_Weave) (s:Int) (x13:Int) (out__1:List Int):Option ((Int×(List Int))⊕((List Int))):=
 (if (decide (x13 < (w.Bodies.length:Int))) then (zH w.Bodies x13).bind fun x=>(impl_Body_isLive (T_impl_Body.mk x.Line x.Ins x.Ord x.Dels) s).bind fun x20=>(if x20 then (appn out__1 [x13]).bind fun l=>some (.inl ((wk .i64 (x13+1)),l))
 else some (.inl ((wk .i64 (x13+1)),out__1)))
 else some (.inr out__1))
noncomputable def impl_Weave_liveIn (w:T_impl_Weave) (s:Int):Option (List Int):=
 (zG (fun (s':Int×(List Int))=>jO w s s'.1 s'.2) (0,[])).bind fun p=>impl_Weave_liveIn_j1 p
noncomputable def impl_bodiesOk_j2:Option (Bool):=
 some true
noncomputable def impl_bodiesOk_l1 (w:T_impl_Weave) (closed:List Int) (born:List Int) (x80:Int):Option ((Int)⊕((Bool)⊕(Unit))):=
 (if (decide (x80 < (closed.length:Int))) then (zH closed x80).bind fun x=>(zH born x80).bind fun x_1=>(if (decide (x_1 > 80)) then some true else (impl_Weave_liveIn (T_impl_Weave.mk w.Parents w.Bodies) x).bind fun x92=>some (decide ((x92.length:Int) > 80))).bind fun b=>(if b then some (.inr (.inl false))
 else some (.inl (wk .i64 (x80+1))))
 else some (.inr (.inr ())))
noncomputable def impl_bodiesOk_j1 (w:T_impl_Weave) (closed:List Int) (born:List Int):Option (Bool):=
 (zG (fun (s':Int)=>impl_bodiesOk_l1 w closed born s') (0)).bind fun p=>(match p with | .inl c'=>some c' | .inr q=>impl_bodiesOk_j2)
noncomputable def impl_bodiesOk_j3 (x18:Int) (born_2:List Int):Option ((Int×(List Int))⊕((Bool)⊕((List Int)))):=
 some (.inl ((wk .i64 (x18+1)),born_2))
noncomputable def impl_bodiesOk_l3 (w:T_impl_Weave) (closed:List Int) (x_2:T_impl_Body) (x62:Int):Option ((Int)⊕(((Int×(List Int))⊕((Bool)⊕((List Int))))⊕(Unit))):=
 (if (decide (x62 < (x_2.Dels.length:Int))) then (zH x_2.Dels x62).bind fun x_5=>(zH w.Parents x_5).bind fun x_6=>(impl_unionOf closed x_6).bind fun x73=>(impl_Body_isLive (T_impl_Body.mk x_2.Line x_2.Ins x_2.Ord x_2.Dels) x73).bind fun x74=>(if (!x74) then some (.inr (.inl (.inr (.inl false))))
 else some (.inl (wk .i64 (x62+1))))
 else some (.inr (.inr ())))
noncomputable def jK (w:T_impl_Weave) (closed:List Int) (x18:Int) (born_1:List Int):Option ((Int×(List Int))⊕((Bool)⊕((List Int)))):=
 (if (decide (x18 < (w.Bodies.length:Int))) then (zH w.Bodies x18).bind fun x_2=>(impl_LineOk x_2.Line).bind fun x24=>(if (!x24) then some true else (impl_isPlace x_2.Ins (closed.length:Int)).bind fun x31=>some (!x31)).bind fun b_1=>(if b_1 then some true else (zH born_1 x_2.Ins).bind fun x_3=>some (x_2.Ord != x_3)).bind fun b_2=>(if b_2 then some true else (impl_ascends x_2.Dels (closed.length:Int)).bind fun x49=>some (!x49)).bind fun b_3=>(if b_3 then some (.inr (.inl false))
 else (zH born_1 x_2.Ins).bind fun x_4=>(zG (fun (s':Int)=>impl_bodiesOk_l3 w closed x_2 s') (0)).bind fun p_2=>(match p_2 with | .inl c'=>some c' | .inr q_1=>impl_bodiesOk_j3 x18 (born_1.set x_2.Ins.toNat (wk .i64 (x_4+1)))))
 else some (.inr (.inr born_1)))
noncomputable def impl_bodiesOk (w:T_impl_Weave) (closed:List Int):Option Bool:=
 ((mkl (closed.length:Int) (closed.length:Int) 0:Option (List Int))).bind fun x14=>(zG (fun (s':Int×(List Int))=>jK w closed s'.1 s'.2) (0,x14)).bind fun p_1=>(match p_1 with | .inl c'=>some c' | .inr q_2=>impl_bodiesOk_j1 w closed q_2)
noncomputable def impl_WeaveOk (w:T_impl_Weave):Option Bool:=
 (if (decide ((w.Bodies.length:Int)≤300)) then (impl_GraphOk w.Parents).bind fun x10=>some x10 else some false).bind fun b=>(if b then (impl_closures w.Parents).bind fun x16=>(impl_bodiesOk (T_impl_Weave.mk w.Parents w.Bodies) x16).bind fun x17=>some x17 else some false).bind fun b_1=>some b_1
noncomputable def impl_Store_graphs_j1 (out_:List (List (List Int))):Option ((List (List (List Int)))):=
 some out_
noncomputable def impl_Store_graphs_l1 (s:T_impl_Store) (x11:Int) (out__1:List (List (List Int))):Option ((Int×(List (List (List Int))))⊕((List (List (List Int))))):=
 (if (decide (x11 < (s.Files.length:Int))) then (zH s.Files x11).bind fun x=>(appn out__1 [x.Parents]).bind fun l=>some (.inl ((wk .i64 (x11+1)),l))
 else some (.inr out__1))
noncomputable def impl_Store_graphs (s:T_impl_Store):Option (List (List (List Int))):=
 (zG (fun (s':Int×(List (List (List Int))))=>impl_Store_graphs_l1 s s'.1 s'.2) (0,[])).bind fun p=>impl_Store_graphs_j1 p
noncomputable def impl_sizesOf_j1 (out_:List Int):Option ((List Int)):=
 some out_
noncomputable def impl_sizesOf_l1 (files:List (List (List Int))) (x8:Int) (out__1:List Int):Option ((Int×(List Int))⊕((List Int))):=
 (if (decide (x8 < (files.length:Int))) then (zH files x8).bind fun x=>(appn out__1 [(x.length:Int)]).bind fun l=>some (.inl ((wk .i64 (x8+1)),l))
 else some (.inr out__1))
noncomputable def impl_sizesOf (files:List (List (List Int))):Option (List Int):=
 (zG (fun (s':Int×(List Int))=>impl_sizesOf_l1 files s'.1 s'.2) (0,[])).bind fun p=>impl_sizesOf_j1 p
noncomputable def impl_graphOf_j1 (out_:List (List Int)):Option ((List (List Int))):=
 some out_
noncomputable def impl_graphOf_l1 (list_:List T_impl_Commit) (x8:Int) (out__1:List (List Int)):Option ((Int×(List (List Int)))⊕((List (List Int)))):=
 (if (decide (x8 < (list_.length:Int))) then (zH list_ x8).bind fun x=>(appn out__1 [x.Parents]).bind fun l=>some (.inl ((wk .i64 (x8+1)),l))
 else some (.inr out__1))
noncomputable def impl_graphOf (list_:List T_impl_Commit):Option (List (List Int)):=
 (zG (fun (s':Int×(List (List Int)))=>impl_graphOf_l1 list_ s'.1 s'.2) (0,[])).bind fun p=>impl_graphOf_j1 p
noncomputable def impl_NoteOk_j1 (note:ByteArray):Option (Bool):=
 some (decide ((note.size:Int)≤40))
noncomputable def impl_NoteOk_l1 (note:ByteArray) (i:Int):Option ((Int)⊕((Bool)⊕(Unit))):=
 (if (decide (i < (note.size:Int))) then (sidx note i).bind fun x12=>(if (decide (x12 < 32)) then some true else some (decide (x12 > 126))).bind fun b=>(if b then some (.inr (.inl false))
 else some (.inl (wk .i64 (i+1))))
 else some (.inr (.inr ())))
noncomputable def impl_NoteOk (note:ByteArray):Option Bool:=
 (zG (fun (s':Int)=>impl_NoteOk_l1 note s') (0)).bind fun p=>(match p with | .inl c'=>some c' | .inr q=>impl_NoteOk_j1 note)
noncomputable def xD (s:ByteArray) (prefix_:ByteArray):Option Bool:=
 (if (decide ((s.size:Int)≥(prefix_.size:Int))) then (subH s (prefix_.size:Int)).bind fun x14=>some (x14.toList == prefix_.toList) else some false).bind fun b=>some b
noncomputable def strings_HasPrefix (s:ByteArray) (prefix_:ByteArray):Option Bool:=
 (xD s prefix_).bind fun x7=>some x7
noncomputable def xC (s:ByteArray) (suffix:ByteArray):Option Bool:=
 (if (decide ((s.size:Int)≥(suffix.size:Int))) then (subL s (wk .i64 ((s.size:Int) - (suffix.size:Int)))).bind fun x17=>some (x17.toList == suffix.toList) else some false).bind fun b=>some b
noncomputable def strings_HasSuffix (s:ByteArray) (suffix:ByteArray):Option Bool:=
 (xC s suffix).bind fun x7=>some x7
noncomputable def impl_PathOk_j1 (path:ByteArray):Option (Bool):=
 (impl_inRange (path.size:Int) 1 24).bind fun x43=>(if (!x43) then some false
 else (strings_HasPrefix path (ByteArray.mk #[47])).bind fun x46=>(if (!x46) then (strings_HasSuffix path (ByteArray.mk #[47])).bind fun x50=>some (!x50) else some false).bind fun b=>(if b then (strings_Contains path (ByteArray.mk #[47,47])).bind fun x55=>some (!x55) else some false).bind fun b_1=>some b_1)
noncomputable def impl_PathOk_l1 (path:ByteArray) (i:Int):Option ((Int)⊕((Bool)⊕(Unit))):=
 (if (decide (i < (path.size:Int))) then (sidx path i).bind fun x13=>(if (decide (x13≥97)) then some (decide (x13≤122)) else some false).bind fun b_2=>(if b_2 then some true else (if (decide (x13≥48)) then some (decide (x13≤57)) else some false).bind fun b_4=>some b_4).bind fun b_3=>(if b_3 then some true else some (x13 == 46)).bind fun b_5=>(if b_5 then some true else some (x13 == 45)).bind fun b_6=>(if b_6 then some true else some (x13 == 47)).bind fun b_7=>(if (!b_7) then some (.inr (.inl false))
 else some (.inl (wk .i64 (i+1))))
 else some (.inr (.inr ())))
noncomputable def impl_PathOk (path:ByteArray):Option Bool:=
 (zG (fun (s':Int)=>impl_PathOk_l1 path s') (0)).bind fun p=>(match p with | .inl c'=>some c' | .inr q=>impl_PathOk_j1 path)
noncomputable def impl_idAt_c1 (n:T_impl_Name) (c:Int):Option Bool:=
 some (n.Id == c)
noncomputable def jX:Option (Int):=
 some (-1)
noncomputable def qH (s:List T_impl_Name) (f:T_impl_Name→Option Bool) (x8:Int):Option ((Int)⊕((Int)⊕(Unit))):=
 (if (decide (x8 < (s.length:Int))) then (zH s x8).bind fun x=>(f (T_impl_Name.mk x.Path x.Id x.Version)).bind fun x16=>(if x16 then some (.inr (.inl x8))
 else some (.inl (wk .i64 (x8+1))))
 else some (.inr (.inr ())))
noncomputable def qN (s:List T_impl_Name) (f:T_impl_Name→Option Bool):Option Int:=
 (zG (fun (s':Int)=>qH s f s') (0)).bind fun p=>(match p with | .inl c'=>some c' | .inr q=>jX)
noncomputable def impl_idAt (list_:List T_impl_Name) (id:Int):Option Int:=
 (qN list_ (fun z0'=>impl_idAt_c1 z0' id)).bind fun x7=>some x7
noncomputable def impl_NamesOk_j1:Option (Bool):=
 some true
noncomputable def impl_NamesOk_l1 (list_:List T_impl_Name) (x10:Int):Option ((Int)⊕((Bool)⊕(Unit))):=
 (if (decide (x10 < (list_.length:Int))) then (zH list_ x10).bind fun x=>(impl_PathOk x.Path).bind fun x17=>(if (!x17) then some true else (impl_inRange x.Id 0 11).bind fun x22=>some (!x22)).bind fun b=>(if b then some true else (impl_inRange x.Version 0 39).bind fun x28=>some (!x28)).bind fun b_1=>(if b_1 then some (.inr (.inl false))
 else (if (decide (x10 > 0)) then (zH list_ (wk .i64 (x10 - 1))).bind fun x_1=>some (Op.bytesLess x.Path.toList x_1.Path.toList || x.Path.toList == x_1.Path.toList) else some false).bind fun b_2=>(if b_2 then some true else (impl_idAt list_ x.Id).bind fun x48=>some (x48 != x10)).bind fun b_3=>(if b_3 then some (.inr (.inl false))
 else some (.inl (wk .i64 (x10+1)))))
 else some (.inr (.inr ())))
noncomputable def impl_NamesOk (list_:List T_impl_Name):Option Bool:=
 (if (decide ((list_.length:Int) > 12)) then some false
 else (zG (fun (s':Int)=>impl_NamesOk_l1 list_ s') (0)).bind fun p=>(match p with | .inl c'=>some c' | .inr q=>impl_NamesOk_j1))
noncomputable def impl_CommitsOk_j2:Option (Bool):=
 some true
noncomputable def impl_CommitsOk_j3 (x37:Int):Option ((Int)⊕((Bool)⊕(Unit))):=
 some (.inl (wk .i64 (x37+1)))
noncomputable def impl_CommitsOk_l2 (versions:List Int) (x:T_impl_Commit) (x54:Int):Option ((Int)⊕(((Int)⊕((Bool)⊕(Unit)))⊕(Unit))):=
 (if (decide (x54 < (x.Names.length:Int))) then (zH x.Names x54).bind fun x_1=>(if (decide (x_1.Id≥(versions.length:Int))) then some true else (zH versions x_1.Id).bind fun x_2=>some (decide (x_1.Version≥x_2))).bind fun b_3=>(if b_3 then some (.inr (.inl (.inr (.inl false))))
 else some (.inl (wk .i64 (x54+1))))
 else some (.inr (.inr ())))
noncomputable def impl_CommitsOk_l1 (list_:List T_impl_Commit) (versions:List Int) (x37:Int):Option ((Int)⊕((Bool)⊕(Unit))):=
 (if (decide (x37 < (list_.length:Int))) then (zH list_ x37).bind fun x=>(impl_NoteOk x.Note).bind fun x43=>(if (!x43) then some true else (impl_NamesOk x.Names).bind fun x48=>some (!x48)).bind fun b_2=>(if b_2 then some (.inr (.inl false))
 else (zG (fun (s':Int)=>impl_CommitsOk_l2 versions x s') (0)).bind fun p_1=>(match p_1 with | .inl c'=>some c' | .inr q=>impl_CommitsOk_j3 x37))
 else some (.inr (.inr ())))
noncomputable def impl_CommitsOk_j1 (list_:List T_impl_Commit) (versions:List Int):Option (Bool):=
 (zG (fun (s':Int)=>impl_CommitsOk_l1 list_ versions s') (0)).bind fun p=>(match p with | .inl c'=>some c' | .inr q_1=>impl_CommitsOk_j2)
noncomputable def impl_CommitsOk_l3 (versions:List Int) (x27:Int):Option ((Int)⊕((Bool)⊕(Unit))):=
 (if (decide (x27 < (versions.length:Int))) then (zH versions x27).bind fun x_3=>(impl_inRange x_3 0 40).bind fun x32=>(if (!x32) then some (.inr (.inl false))
 else some (.inl (wk .i64 (x27+1))))
 else some (.inr (.inr ())))
noncomputable def impl_CommitsOk (list_:List T_impl_Commit) (versions:List Int):Option Bool:=
 (if (decide ((list_.length:Int) > 40)) then some true else (impl_graphOf list_).bind fun x16=>(impl_GraphOk x16).bind fun x17=>some (!x17)).bind fun b=>(if b then some true else some (decide ((versions.length:Int) > 12))).bind fun b_1=>(if b_1 then some false
 else (zG (fun (s':Int)=>impl_CommitsOk_l3 versions s') (0)).bind fun p_2=>(match p_2 with | .inl c'=>some c' | .inr q_2=>impl_CommitsOk_j1 list_ versions))
noncomputable def impl_StoreOk_j1 (s:T_impl_Store):Option (Bool):=
 (if (decide ((s.Files.length:Int)≤12)) then (impl_Store_graphs (T_impl_Store.mk s.Commits s.Files)).bind fun x29=>(impl_sizesOf x29).bind fun x30=>(impl_CommitsOk s.Commits x30).bind fun x31=>some x31 else some false).bind fun b=>some b
noncomputable def impl_StoreOk_l1 (s:T_impl_Store) (x8:Int):Option ((Int)⊕((Bool)⊕(Unit))):=
 (if (decide (x8 < (s.Files.length:Int))) then (zH s.Files x8).bind fun x=>(if ((x.Parents.length:Int) == 0) then some true else (impl_WeaveOk (T_impl_Weave.mk x.Parents x.Bodies)).bind fun x18=>some (!x18)).bind fun b_1=>(if b_1 then some (.inr (.inl false))
 else some (.inl (wk .i64 (x8+1))))
 else some (.inr (.inr ())))
noncomputable def impl_StoreOk (s:T_impl_Store):Option Bool:=
 (zG (fun (s':Int)=>impl_StoreOk_l1 s s') (0)).bind fun p=>(match p with | .inl c'=>some c' | .inr q=>impl_StoreOk_j1 s)
noncomputable def impl_Weave_linesAt_j1 (out_:List ByteArray):Option ((List ByteArray)):=
 some out_
noncomputable def jM (w:T_impl_Weave) (places:List Int) (x10:Int) (out__1:List ByteArray):Option ((Int×(List ByteArray))⊕((List ByteArray))):=
 (if (decide (x10 < (places.length:Int))) then (zH places x10).bind fun x=>(zH w.Bodies x).bind fun x_1=>(appn out__1 [x_1.Line]).bind fun l=>some (.inl ((wk .i64 (x10+1)),l))
 else some (.inr out__1))
noncomputable def impl_Weave_linesAt (w:T_impl_Weave) (places:List Int):Option (List ByteArray):=
 (zG (fun (s':Int×(List ByteArray))=>jM w places s'.1 s'.2) (0,[])).bind fun p=>impl_Weave_linesAt_j1 p
noncomputable def impl_Weave_extract (w:T_impl_Weave) (v:Int):Option (List ByteArray):=
 (impl_closures w.Parents).bind fun x11=>(zH x11 v).bind fun x=>(impl_Weave_liveIn (T_impl_Weave.mk w.Parents w.Bodies) x).bind fun x15=>(impl_Weave_linesAt (T_impl_Weave.mk w.Parents w.Bodies) x15).bind fun x16=>some x16
noncomputable def impl_StatsOf_j1 (s:T_impl_Store) (out_:Int) (out__1:Int) (out__2:Int) (out__3:Int):Option (T_impl_Stats×Bool):=
 some ((T_impl_Stats.mk (s.Commits.length:Int) (s.Files.length:Int) out_ out__1 out__2 out__3),true)
noncomputable def impl_StatsOf_j2 (x24:Int) (out__8:Int) (out__9:Int) (out__10:Int) (out__11:Int):Option ((Int×Int×Int×Int×Int)⊕(Int×Int×Int×Int)):=
 some (.inl ((wk .i64 (x24+1)),out__8,out__9,out__10,out__11))
noncomputable def impl_StatsOf_l2 (x:T_impl_Weave) (x59:Int) (out__13:Int):Option ((Int×Int)⊕(Int)):=
 (if (decide (x59 < (x.Bodies.length:Int))) then (zH x.Bodies x59).bind fun x_1=>some (.inl ((wk .i64 (x59+1)),(wk .i64 (out__13+(x_1.Line.size:Int)))))
 else some (.inr out__13))
noncomputable def impl_StatsOf_j3 (x24:Int) (out__4:Int) (out__5:Int) (out__7:Int) (x:T_impl_Weave) (out__12:Int):Option ((Int×Int×Int×Int×Int)⊕(Int×Int×Int×Int)):=
 (zG (fun (s':Int×Int)=>impl_StatsOf_l2 x s'.1 s'.2) (0,out__7)).bind fun p_1=>impl_StatsOf_j2 x24 (wk .i64 (out__4+(x.Parents.length:Int))) (wk .i64 (out__5+(x.Bodies.length:Int))) out__12 p_1
noncomputable def impl_StatsOf_l3 (x:T_impl_Weave) (x45:Int) (out__14:Int):Option ((Int×Int)⊕(Int)):=
 (if (decide (x45 < (x.Parents.length:Int))) then (impl_Weave_extract (T_impl_Weave.mk x.Parents x.Bodies) x45).bind fun x51=>some (.inl ((wk .i64 (x45+1)),(wk .i64 (out__14+(x51.length:Int)))))
 else some (.inr out__14))
noncomputable def impl_StatsOf_l1 (s:T_impl_Store) (x24:Int) (out__4:Int) (out__5:Int) (out__6:Int) (out__7:Int):Option ((Int×Int×Int×Int×Int)⊕(Int×Int×Int×Int)):=
 (if (decide (x24 < (s.Files.length:Int))) then (zH s.Files x24).bind fun x=>(zG (fun (s':Int×Int)=>impl_StatsOf_l3 x s'.1 s'.2) (0,out__6)).bind fun p_2=>impl_StatsOf_j3 x24 out__4 out__5 out__7 x p_2
 else some (.inr (out__4,out__5,out__6,out__7)))
noncomputable def impl_StatsOf (s:T_impl_Store):Option (T_impl_Stats×Bool):=
 (impl_StoreOk (T_impl_Store.mk s.Commits s.Files)).bind fun x11=>(if (!x11) then some ((T_impl_Stats.mk 0 0 0 0 0 0),false)
 else (zG (fun (s':Int×Int×Int×Int×Int)=>impl_StatsOf_l1 s s'.1 s'.2.1 s'.2.2.1 s'.2.2.2.1 s'.2.2.2.2) (0,0,0,0,0)).bind fun p=>impl_StatsOf_j1 s p.1 p.2.1 p.2.2.1 p.2.2.2)
noncomputable def spec_GraphOk_j1:Option (Bool):=
 some true
noncomputable def jU (parents:List (List Int)) (v:Int):Option ((Int)⊕((Bool)⊕(Unit))):=
 (if (decide (v < (parents.length:Int))) then (zH parents v).bind fun x=>(if (decide ((x.length:Int) > 4)) then some true else (spec_l05Rise x v).bind fun x25=>some (!x25)).bind fun b=>(if b then some (.inr (.inl false))
 else some (.inl (wk .i64 (v+1))))
 else some (.inr (.inr ())))
noncomputable def spec_GraphOk (parents:List (List Int)):Option Bool:=
 (if (decide ((parents.length:Int) > 40)) then some false
 else (zG (fun (s':Int)=>jU parents s') (0)).bind fun p=>(match p with | .inl c'=>some c' | .inr q=>spec_GraphOk_j1))
noncomputable def spec_WeaveOk_j3:Option (Bool):=
 some true
noncomputable def spec_WeaveOk_l1 (w:T_impl_Weave) (born:List Int) (v:Int):Option ((Int)⊕((Bool)⊕(Unit))):=
 (if (decide (v < (w.Parents.length:Int))) then (zH born v).bind fun x=>(if (decide (x > 80)) then some true else (spec_l06Closure (T_impl_Weave.mk w.Parents w.Bodies) v).bind fun x126=>(jY (T_impl_Weave.mk w.Parents w.Bodies) x126).bind fun x127=>some (decide ((x127.length:Int) > 80))).bind fun b_1=>(if b_1 then some (.inr (.inl false))
 else some (.inl (wk .i64 (v+1))))
 else some (.inr (.inr ())))
noncomputable def spec_WeaveOk_j2 (w:T_impl_Weave) (born:List Int):Option (Bool):=
 (zG (fun (s':Int)=>spec_WeaveOk_l1 w born s') (0)).bind fun p=>(match p with | .inl c'=>some c' | .inr q=>spec_WeaveOk_j3)
noncomputable def spec_WeaveOk_j4 (i:Int) (born_2:List Int):Option ((Int×(List Int))⊕((Bool)⊕((List Int)))):=
 some (.inl ((wk .i64 (i+1)),born_2))
noncomputable def spec_WeaveOk_l3 (proper:List (List Bool)) (x_1:T_impl_Body) (k:Int):Option ((Int)⊕(((Int×(List Int))⊕((Bool)⊕((List Int))))⊕(Unit))):=
 (if (decide (k < (x_1.Dels.length:Int))) then (zH x_1.Dels k).bind fun x_4=>(zH proper x_4).bind fun x_5=>(spec_l06Live (T_impl_Body.mk x_1.Line x_1.Ins x_1.Ord x_1.Dels) x_5).bind fun x110=>(if (!x110) then some (.inr (.inl (.inr (.inl false))))
 else some (.inl (wk .i64 (k+1))))
 else some (.inr (.inr ())))
noncomputable def jP (w:T_impl_Weave) (proper:List (List Bool)) (i:Int) (born_1:List Int):Option ((Int×(List Int))⊕((Bool)⊕((List Int)))):=
 (if (decide (i < (w.Bodies.length:Int))) then (zH w.Bodies i).bind fun x_1=>(spec_LineOk x_1.Line).bind fun x57=>(if (!x57) then some true else (spec_l01In x_1.Ins 0 (wk .i64 ((w.Parents.length:Int) - 1))).bind fun x64=>some (!x64)).bind fun b_2=>(if b_2 then some true else (zH born_1 x_1.Ins).bind fun x_2=>some (x_1.Ord != x_2)).bind fun b_3=>(if b_3 then some true else (spec_l05Rise x_1.Dels (w.Parents.length:Int)).bind fun x81=>some (!x81)).bind fun b_4=>(if b_4 then some (.inr (.inl false))
 else (zH born_1 x_1.Ins).bind fun x_3=>(zG (fun (s':Int)=>spec_WeaveOk_l3 proper x_1 s') (0)).bind fun p_2=>(match p_2 with | .inl c'=>some c' | .inr q_1=>spec_WeaveOk_j4 i (born_1.set x_1.Ins.toNat (wk .i64 (x_3+1)))))
 else some (.inr (.inr born_1)))
noncomputable def spec_WeaveOk_j1 (w:T_impl_Weave) (x25:List Int) (proper:List (List Bool)):Option (Bool):=
 (zG (fun (s':Int×(List Int))=>jP w proper s'.1 s'.2) (0,x25)).bind fun p_1=>(match p_1 with | .inl c'=>some c' | .inr q_2=>spec_WeaveOk_j2 w q_2)
noncomputable def spec_WeaveOk_l4 (w:T_impl_Weave) (v_1:Int) (proper_1:List (List Bool)):Option ((Int×(List (List Bool)))⊕((List (List Bool)))):=
 (if (decide (v_1 < (w.Parents.length:Int))) then (zH w.Parents v_1).bind fun x_6=>(spec_l05Set w.Parents x_6).bind fun x40=>(appn proper_1 [x40]).bind fun l=>some (.inl ((wk .i64 (v_1+1)),l))
 else some (.inr proper_1))
noncomputable def spec_WeaveOk (w:T_impl_Weave):Option Bool:=
 (spec_GraphOk w.Parents).bind fun x13=>(if (!x13) then some true else some (decide ((w.Bodies.length:Int) > 300))).bind fun b=>(if b then some false
 else ((mkl (w.Parents.length:Int) (w.Parents.length:Int) 0:Option (List Int))).bind fun x25=>(zG (fun (s':Int×(List (List Bool)))=>spec_WeaveOk_l4 w s'.1 s'.2) (0,[])).bind fun p_3=>spec_WeaveOk_j1 w x25 p_3)
noncomputable def spec_l06Has (w:T_impl_Weave) (v:Int):Option Bool:=
 (spec_l01In v 0 (wk .i64 ((w.Parents.length:Int) - 1))).bind fun x10=>some x10
noncomputable def spec_Extract (w:T_impl_Weave) (v:Int):Option ((List ByteArray)×Int):=
 (spec_WeaveOk (T_impl_Weave.mk w.Parents w.Bodies)).bind fun x7=>(if (!x7) then some ([],1)
 else (spec_l06Has (T_impl_Weave.mk w.Parents w.Bodies) v).bind fun x12=>(if (!x12) then some ([],2)
 else (spec_l06Text (T_impl_Weave.mk w.Parents w.Bodies) v).bind fun x17=>some (x17,0)))
noncomputable def jL (s:List T_impl_Name):Option (List T_impl_Name):=
 appn ([]:List T_impl_Name) s
noncomputable def impl_NamesAt (s:T_impl_Store) (c:Int):Option ((List T_impl_Name)×Int):=
 (impl_StoreOk (T_impl_Store.mk s.Commits s.Files)).bind fun x8=>(if (!x8) then some ([],1)
 else (impl_isPlace c (s.Commits.length:Int)).bind fun x15=>(if (!x15) then some ([],2)
 else (zH s.Commits c).bind fun x=>(jL x.Names).bind fun x23=>some (x23,0)))
noncomputable def impl_pathAt_c1 (n:T_impl_Name) (c:ByteArray):Option Bool:=
 some (n.Path.toList == c.toList)
noncomputable def impl_pathAt (list_:List T_impl_Name) (path:ByteArray):Option Int:=
 (qN list_ (fun z0'=>impl_pathAt_c1 z0' path)).bind fun x7=>some x7
noncomputable def impl_nameAt (s:T_impl_Store) (c:Int) (path:ByteArray):Option (T_impl_Name×Int):=
 (impl_NamesAt (T_impl_Store.mk s.Commits s.Files) c).bind fun x14=>(if (x14.2 != 0) then some ((T_impl_Name.mk (ByteArray.mk #[]) 0 0),x14.2)
 else (impl_pathAt x14.1 path).bind fun x23=>(if (decide (x23 < 0)) then some ((T_impl_Name.mk (ByteArray.mk #[]) 0 0),3)
 else (zH x14.1 x23).bind fun x=>some ((T_impl_Name.mk x.Path x.Id x.Version),0)))
noncomputable def impl_set_list_j1 (out_:List Int):Option ((List Int)):=
 some out_
noncomputable def impl_set_list_l1 (s:Int) (x5:Int) (out__1:List Int):Option ((Int×(List Int))⊕((List Int))):=
 (if (decide (x5 < 64)) then (impl_set_has s x5).bind fun x10=>(if x10 then (appn out__1 [x5]).bind fun l=>some (.inl ((wk .i64 (x5+1)),l))
 else some (.inl ((wk .i64 (x5+1)),out__1)))
 else some (.inr out__1))
noncomputable def impl_set_list (s:Int):Option (List Int):=
 (zG (fun (s':Int×(List Int))=>impl_set_list_l1 s s'.1 s'.2) (0,[])).bind fun p=>impl_set_list_j1 p
noncomputable def xB (i:Int) (j:Int) (s_1:List Int):Option ((Int×Int×(List Int))⊕((List Int))):=
 (if (decide (i < j)) then (zH s_1 j).bind fun x=>(zH s_1 i).bind fun x_1=>(zH (s_1.set i.toNat x) j).bind fun x_2=>some (.inl ((wk .i64 (i+1)),(wk .i64 (j - 1)),((s_1.set i.toNat x).set j.toNat x_1)))
 else some (.inr s_1))
noncomputable def slices_Reverse_int_int (s:List Int):Option (List Int):=
 (zG (fun (s':Int×Int×(List Int))=>xB s'.1 s'.2.1 s'.2.2) (0,(wk .i64 ((s.length:Int) - 1)),s)).bind fun p=>some p
noncomputable def impl_LogOf (list_:List T_impl_Commit) (versions:List Int) (c:Int):Option (List Int):=
 (impl_isPlace c (list_.length:Int)).bind fun x11=>(if (!x11) then some true else (impl_CommitsOk list_ versions).bind fun x16=>some (!x16)).bind fun b=>(if b then some []
 else (impl_graphOf list_).bind fun x20=>(impl_closures x20).bind fun x21=>(zH x21 c).bind fun x=>(impl_set_list x).bind fun x25=>(slices_Reverse_int_int x25).bind fun x27=>some x27)
noncomputable def impl_unlike (a:T_impl_Commit) (b:T_impl_Commit) (id:Int):Option Bool:=
 (impl_idAt a.Names id).bind fun x12=>(impl_idAt b.Names id).bind fun x16=>(if (decide (x12 < 0)) then some true else some (decide (x16 < 0))).bind fun b_1=>(if b_1 then (if (decide (x12≥0)) then some true else some (decide (x16≥0))).bind fun b_2=>some b_2
 else (zH a.Names x12).bind fun x=>(zH b.Names x16).bind fun x_1=>some (!((x.Path.toList == x_1.Path.toList) && ((x.Id == x_1.Id) && (x.Version == x_1.Version)))))
noncomputable def impl_touched_j1 (out_:List Int):Option ((List Int)):=
 some out_
noncomputable def impl_touched_j2 (x10:Int) (out__2:List Int):Option ((Int×(List Int))⊕((List Int))):=
 some (.inl ((wk .i64 (x10+1)),out__2))
noncomputable def impl_touched_j3 (x10:Int) (out__1:List Int) (is:Bool):Option ((Int×(List Int))⊕((List Int))):=
 (if is then (appn out__1 [x10]).bind fun l=>impl_touched_j2 x10 l
 else impl_touched_j2 x10 out__1)
noncomputable def impl_touched_l2 (list_:List T_impl_Commit) (c:Int) (x10:Int) (x_1:T_impl_Commit) (is_1:Bool) (x36:Int):Option ((Bool×Int)⊕(Bool)):=
 (if (decide (x36 < (x_1.Parents.length:Int))) then (zH x_1.Parents x36).bind fun x_2=>(if is_1 then some true else (zH list_ c).bind fun x_3=>(zH list_ x_2).bind fun x_4=>(impl_unlike (T_impl_Commit.mk x_3.Parents x_3.Note x_3.Names) (T_impl_Commit.mk x_4.Parents x_4.Note x_4.Names) x10).bind fun x51=>some x51).bind fun b_1=>some (.inl (b_1,(wk .i64 (x36+1))))
 else some (.inr is_1))
noncomputable def impl_touched_l1 (list_:List T_impl_Commit) (c:Int) (x10:Int) (out__1:List Int):Option ((Int×(List Int))⊕((List Int))):=
 (if (decide (x10 < 12)) then (zH list_ c).bind fun x=>(if ((x.Parents.length:Int) == 0) then (impl_idAt x.Names x10).bind fun x27=>some (decide (x27≥0)) else some false).bind fun b=>(zH list_ c).bind fun x_1=>(zG (fun (s':Bool×Int)=>impl_touched_l2 list_ c x10 x_1 s'.1 s'.2) (b,0)).bind fun p_1=>impl_touched_j3 x10 out__1 p_1
 else some (.inr out__1))
noncomputable def impl_touched (list_:List T_impl_Commit) (c:Int):Option (List Int):=
 (zG (fun (s':Int×(List Int))=>impl_touched_l1 list_ c s'.1 s'.2) (0,[])).bind fun p=>impl_touched_j1 p
noncomputable def slices_Index_int_int_j1:Option (Int):=
 some (-1)
noncomputable def slices_Index_int_int_l1 (s:List Int) (v:Int) (x8:Int):Option ((Int)⊕((Int)⊕(Unit))):=
 (if (decide (x8 < (s.length:Int))) then (zH s x8).bind fun x=>(if (v == x) then some (.inr (.inl x8))
 else some (.inl (wk .i64 (x8+1))))
 else some (.inr (.inr ())))
noncomputable def slices_Index_int_int (s:List Int) (v:Int):Option Int:=
 (zG (fun (s':Int)=>slices_Index_int_int_l1 s v s') (0)).bind fun p=>(match p with | .inl c'=>some c' | .inr q=>slices_Index_int_int_j1)
noncomputable def slices_Contains_int_int (s:List Int) (v:Int):Option Bool:=
 (slices_Index_int_int s v).bind fun x7=>some (decide (x7≥0))
noncomputable def impl_FileLog_j1 (out_:List Int):Option ((List Int)×Int):=
 some (out_,0)
noncomputable def impl_FileLog_l1 (s:T_impl_Store) (x17:T_impl_Name×Int) (x28:(List Int)) (x30:Int) (out__1:List Int):Option ((Int×(List Int))⊕((List Int))):=
 (if (decide (x30 < (x28.length:Int))) then (zH x28 x30).bind fun x=>(impl_touched s.Commits x).bind fun x37=>(slices_Contains_int_int x37 x17.1.Id).bind fun x40=>(if x40 then (appn out__1 [x]).bind fun l=>some (.inl ((wk .i64 (x30+1)),l))
 else some (.inl ((wk .i64 (x30+1)),out__1)))
 else some (.inr out__1))
noncomputable def impl_FileLog (s:T_impl_Store) (path:ByteArray) (c:Int):Option ((List Int)×Int):=
 (impl_nameAt (T_impl_Store.mk s.Commits s.Files) c path).bind fun x17=>(if (x17.2 != 0) then some ([],x17.2)
 else (impl_Store_graphs (T_impl_Store.mk s.Commits s.Files)).bind fun x25=>(impl_sizesOf x25).bind fun x26=>(impl_LogOf s.Commits x26 c).bind fun x28=>(zG (fun (s':Int×(List Int))=>impl_FileLog_l1 s x17 x28 s'.1 s'.2) (0,[])).bind fun p=>impl_FileLog_j1 p)
noncomputable def laws_FnStats_j2:Option (Bool):=
 some true
noncomputable def laws_FnStats_j3 (c:Int):Option ((Int)⊕((Bool)⊕(Unit))):=
 some (.inl (wk .i64 (c+1)))
noncomputable def laws_FnStats_j4 (i:Int):Option ((Int)⊕(((Int)⊕((Bool)⊕(Unit)))⊕(Unit))):=
 some (.inl (wk .i64 (i+1)))
noncomputable def laws_FnStats_l3 (c:Int) (x151:(List Int)×Int) (k:Int):Option ((Int)⊕(((Int)⊕(((Int)⊕((Bool)⊕(Unit)))⊕(Unit)))⊕(Unit))):=
 (if (decide (k < (x151.1.length:Int))) then (if (decide (k > 0)) then (zH x151.1 (wk .i64 (k - 1))).bind fun x_2=>(zH x151.1 k).bind fun x_3=>some (decide (x_2≤x_3)) else some false).bind fun b_7=>(if b_7 then some true else (zH x151.1 k).bind fun x_4=>some (decide (x_4 > c))).bind fun b_8=>(if b_8 then some (.inr (.inl (.inr (.inl (.inr (.inl false))))))
 else some (.inl (wk .i64 (k+1))))
 else some (.inr (.inr ())))
noncomputable def laws_FnStats_l2 (x22:T_impl_Store) (c:Int) (i:Int):Option ((Int)⊕(((Int)⊕((Bool)⊕(Unit)))⊕(Unit))):=
 (zH x22.Commits c).bind fun x=>(if (decide (i < (x.Names.length:Int))) then (zH x.Names i).bind fun x_1=>(impl_FileLog (T_impl_Store.mk x22.Commits x22.Files) x_1.Path c).bind fun x151=>(if (x151.2 != 0) then some true else some ((x151.1.length:Int) == 0)).bind fun b_6=>(if b_6 then some (.inr (.inl (.inr (.inl false))))
 else (zG (fun (s':Int)=>laws_FnStats_l3 c x151 s') (0)).bind fun p_2=>(match p_2 with | .inl c'=>some c' | .inr q=>laws_FnStats_j4 i))
 else some (.inr (.inr ())))
noncomputable def laws_FnStats_l1 (x22:T_impl_Store) (c:Int):Option ((Int)⊕((Bool)⊕(Unit))):=
 (if (decide (c < (x22.Commits.length:Int))) then (zG (fun (s':Int)=>laws_FnStats_l2 x22 c s') (0)).bind fun p_1=>(match p_1 with | .inl c'=>some c' | .inr q_1=>laws_FnStats_j3 c)
 else some (.inr (.inr ())))
noncomputable def laws_FnStats_j1 (x22:T_impl_Store) (x25:T_impl_Stats×Bool) (bodies:Int) (versions:Int) (whole:Int):Option (Bool):=
 (if (!x25.2) then some true else some (x25.1.Bodies != bodies)).bind fun b=>(if b then some true else some (x25.1.Versions != versions)).bind fun b_1=>(if b_1 then some true else some (x25.1.Whole != whole)).bind fun b_2=>(if b_2 then some true else some (decide (bodies > whole))).bind fun b_3=>(if b_3 then some true else some (x25.1.Commits != (x22.Commits.length:Int))).bind fun b_4=>(if b_4 then some true else some (x25.1.Files != (x22.Files.length:Int))).bind fun b_5=>(if b_5 then some false
 else (zG (fun (s':Int)=>laws_FnStats_l1 x22 s') (0)).bind fun p=>(match p with | .inl c'=>some c' | .inr q_2=>laws_FnStats_j2))
noncomputable def laws_FnStats_j5 (i_1:Int) (bodies_2:Int) (versions_2:Int) (whole_2:Int):Option ((Int×Int×Int×Int)⊕(Int×Int×Int)):=
 some (.inl (bodies_2,versions_2,whole_2,(wk .i64 (i_1+1))))
noncomputable def laws_FnStats_l5 (x22:T_impl_Store) (i_1:Int) (whole_3:Int) (v:Int):Option ((Int×Int)⊕(Int)):=
 (zH x22.Files i_1).bind fun x_6=>(if (decide (v < (x_6.Parents.length:Int))) then (spec_Extract (T_impl_Weave.mk x_6.Parents x_6.Bodies) v).bind fun x71=>some (.inl ((wk .i64 (whole_3+(x71.1.length:Int))),(wk .i64 (v+1))))
 else some (.inr whole_3))
noncomputable def laws_FnStats_l4 (x22:T_impl_Store) (bodies_1:Int) (versions_1:Int) (whole_1:Int) (i_1:Int):Option ((Int×Int×Int×Int)⊕(Int×Int×Int)):=
 (if (decide (i_1 < (x22.Files.length:Int))) then (zH x22.Files i_1).bind fun x_5=>(zG (fun (s':Int×Int)=>laws_FnStats_l5 x22 i_1 s'.1 s'.2) (whole_1,0)).bind fun p_4=>laws_FnStats_j5 i_1 (wk .i64 (bodies_1+(x_5.Bodies.length:Int))) (wk .i64 (versions_1+(x_5.Parents.length:Int))) p_4
 else some (.inr (bodies_1,versions_1,whole_1)))
noncomputable def laws_FnStats (code:List Int):Option Bool:=
 (laws_big code).bind fun x20=>(if x20 then some true
 else (spec_DrawRightStore code).bind fun x22=>(impl_StatsOf (T_impl_Store.mk x22.Commits x22.Files)).bind fun x25=>(zG (fun (s':Int×Int×Int×Int)=>laws_FnStats_l4 x22 s'.1 s'.2.1 s'.2.2.1 s'.2.2.2) (0,0,0,0)).bind fun p_3=>laws_FnStats_j1 x22 x25 p_3.1 p_3.2.1 p_3.2.2)
end Go.TV.F
