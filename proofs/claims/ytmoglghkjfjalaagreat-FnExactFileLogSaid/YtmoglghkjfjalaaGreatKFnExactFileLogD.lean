/- Structures and their rows. -/
import Derived.Test.YtmoglghkjfjalaaGreatKFnExactFileLogT5
set_option linter.unusedVariables false
set_option linter.unusedSimpArgs false
set_option maxHeartbeats 8000000
set_option maxRecDepth 100000
namespace Go.TV
structure T_laws_Name where
 Path:ByteArray
 Id:Int
 Version:Int
 deriving Inhabited
structure T_laws_Commit where
 Parents:List Int
 Note:ByteArray
 Names:List T_laws_Name
 deriving Inhabited
structure T_laws_Body where
 Line:ByteArray
 Ins:Int
 Ord:Int
 Dels:List Int
 deriving Inhabited
structure T_laws_Weave where
 Parents:List (List Int)
 Bodies:List T_laws_Body
 deriving Inhabited
structure T_laws_Store where
 Commits:List T_laws_Commit
 Files:List T_laws_Weave
 deriving Inhabited
structure T_impl_Name where
 Path:ByteArray
 Id:Int
 Version:Int
 deriving Inhabited
structure T_impl_Commit where
 Parents:List Int
 Note:ByteArray
 Names:List T_impl_Name
 deriving Inhabited
structure T_impl_Body where
 Line:ByteArray
 Ins:Int
 Ord:Int
 Dels:List Int
 deriving Inhabited
structure T_impl_Weave where
 Parents:List (List Int)
 Bodies:List T_impl_Body
 deriving Inhabited
structure T_impl_Store where
 Commits:List T_impl_Commit
 Files:List T_impl_Weave
 deriving Inhabited
structure T_impl_Stats where
 Commits:Int
 Files:Int
 Versions:Int
 Bodies:Int
 Whole:Int
 Bytes:Int
 deriving Inhabited
structure T_spec_l01Cur where
 b:List Int
 i:Int
 h:Int
 deriving Inhabited
theorem qK:(∀ (l:List Int) (i:Nat) (a0:Int),(List.map (rK .i64) l).set i [.sc (.int .i64 a0)]=List.map (rK .i64) (l.set i a0)) ∧
 (∀ (l:List Int) (a0:Int),List.map (rK .i64) l++[[.sc (.int .i64 a0)]]=List.map (rK .i64) (l++[a0])) ∧
 (∀ (l:List Int) (b0 b1:Int),List.map (rK .i64) l++[[.sc (.int .i64 b0)],[.sc (.int .i64 b1)]]=List.map (rK .i64) (l++[b0,b1])) ∧
 (∀ (l:List Int) (b0 b1 b2:Int),List.map (rK .i64) l++[[.sc (.int .i64 b0)],[.sc (.int .i64 b1)],[.sc (.int .i64 b2)]]=List.map (rK .i64) (l++[b0,b1,b2])) ∧
 (∀ (l:List Int) (b0 b1 b2 b3:Int),List.map (rK .i64) l++[[.sc (.int .i64 b0)],[.sc (.int .i64 b1)],[.sc (.int .i64 b2)],[.sc (.int .i64 b3)]]=List.map (rK .i64) (l++[b0,b1,b2,b3])) ∧
 (∀ n:Nat,List.replicate n [.sc (.int .i64 0)]=List.map (rK .i64) (List.replicate n 0)) ∧
 (∀ l:List Int,qF (List.map (rK .i64) l)=List.map (rK .i64) l) ∧
 (∀ l:List Int,qR (List.map (rK .i64) l)=true) ∧
 (∀ l:List Int,qP (List.map (rK .i64) l)=true):=
 ⟨fun l i a0=>qO (rK .i64) l i a0,
 fun l a0=>qG (rK .i64) l [a0],
 fun l b0 b1=>qG (rK .i64) l [b0,b1],
 fun l b0 b1 b2=>qG (rK .i64) l [b0,b1,b2],
 fun l b0 b1 b2 b3=>qG (rK .i64) l [b0,b1,b2,b3],
 fun n=>rep_rows (rK .i64) 0 n,
 qH (fun _=>rfl),
 alRows (fun _=>rfl),
 nb_rows (fun _=>rfl)⟩
def zY (o:Bool) (x:T_laws_Name):List V:=[.sc (.string x.Path),.sc (.int .i64 x.Id),.sc (.int .i64 x.Version)]
theorem R_T_laws_Name:(∀ (l:List T_laws_Name) (i:Nat) (a0:ByteArray) (a1:Int) (a2:Int),(List.map (zY true) l).set i [.sc (.string a0),.sc (.int .i64 a1),.sc (.int .i64 a2)]=List.map (zY true) (l.set i (T_laws_Name.mk a0 a1 a2))) ∧
 (∀ (l:List T_laws_Name) (a0:ByteArray) (a1:Int) (a2:Int),List.map (zY true) l++[[.sc (.string a0),.sc (.int .i64 a1),.sc (.int .i64 a2)]]=List.map (zY true) (l++[(T_laws_Name.mk a0 a1 a2)])) ∧
 (∀ (l:List T_laws_Name) (i:Nat) (a0:ByteArray) (a1:Int) (a2:Int),(List.map (zY true) l).set i [.sc (.string a0),.sc (.int .i64 a1),.sc (.int .i64 a2)]=List.map (zY true) (l.set i (T_laws_Name.mk a0 a1 a2))) ∧
 (∀ (l:List T_laws_Name) (a0:ByteArray) (a1:Int) (a2:Int),List.map (zY true) l++[[.sc (.string a0),.sc (.int .i64 a1),.sc (.int .i64 a2)]]=List.map (zY true) (l++[(T_laws_Name.mk a0 a1 a2)])) ∧
 (∀ l:List T_laws_Name,qF (List.map (zY true) l)=List.map (zY true) l) ∧
 (∀ l:List T_laws_Name,qR (List.map (zY true) l)=true) ∧
 (∀ l:List T_laws_Name,qF (List.map (zY true) l)=List.map (zY true) l) ∧
 (∀ l:List T_laws_Name,qR (List.map (zY true) l)=true) ∧
 (∀ l:List T_laws_Name,qP (List.map (zY true) l)=true) ∧
 (∀ x:T_laws_Name,zY true x=[.sc (.string x.Path),.sc (.int .i64 x.Id),.sc (.int .i64 x.Version)]) ∧
 (∀ x:T_laws_Name,zY false x=[.sc (.string x.Path),.sc (.int .i64 x.Id),.sc (.int .i64 x.Version)]):=
 ⟨fun l i a0 a1 a2=>qO (zY true) l i (T_laws_Name.mk a0 a1 a2),
 fun l a0 a1 a2=>qG (zY true) l [(T_laws_Name.mk a0 a1 a2)],
 fun l i a0 a1 a2=>qO (zY true) l i (T_laws_Name.mk a0 a1 a2),
 fun l a0 a1 a2=>qG (zY true) l [(T_laws_Name.mk a0 a1 a2)],
 qH (fun _=>rfl),
 alRows (fun _=>rfl),
 qH (fun _=>rfl),
 alRows (fun _=>rfl),
 nb_rows (fun _=>rfl),
 fun _=>rfl,
 fun _=>rfl⟩
def zK (o:Bool) (x:T_laws_Commit):List V:=[.list o 1 (List.map (rK .i64) x.Parents),.sc (.string x.Note),.list o 3 (List.map (zY true) x.Names)]
theorem R_T_laws_Commit:(∀ (l:List T_laws_Commit) (i:Nat) (a0:List Int) (a1:ByteArray) (a2:List T_laws_Name),(List.map (zK true) l).set i [.list true 1 (List.map (rK .i64) a0),.sc (.string a1),.list true 3 (List.map (zY true) a2)]=List.map (zK true) (l.set i (T_laws_Commit.mk a0 a1 a2))) ∧
 (∀ (l:List T_laws_Commit) (a0:List Int) (a1:ByteArray) (a2:List T_laws_Name),List.map (zK true) l++[[.list true 1 (List.map (rK .i64) a0),.sc (.string a1),.list true 3 (List.map (zY true) a2)]]=List.map (zK true) (l++[(T_laws_Commit.mk a0 a1 a2)])) ∧
 (∀ (l:List T_laws_Commit) (i:Nat) (a0:List Int) (a1:ByteArray) (a2:List T_laws_Name),(List.map (zK false) l).set i [.list false 1 (List.map (rK .i64) a0),.sc (.string a1),.list false 3 (List.map (zY true) a2)]=List.map (zK false) (l.set i (T_laws_Commit.mk a0 a1 a2))) ∧
 (∀ (l:List T_laws_Commit) (a0:List Int) (a1:ByteArray) (a2:List T_laws_Name),List.map (zK false) l++[[.list false 1 (List.map (rK .i64) a0),.sc (.string a1),.list false 3 (List.map (zY true) a2)]]=List.map (zK false) (l++[(T_laws_Commit.mk a0 a1 a2)])) ∧
 (∀ (l:List T_laws_Commit) (i:Nat) (a1:ByteArray) (a2:List T_laws_Name),(List.map (zK true) l).set i [.list true 1 [],.sc (.string a1),.list true 3 (List.map (zY true) a2)]=List.map (zK true) (l.set i (T_laws_Commit.mk [] a1 a2))) ∧
 (∀ (l:List T_laws_Commit) (a1:ByteArray) (a2:List T_laws_Name),List.map (zK true) l++[[.list true 1 [],.sc (.string a1),.list true 3 (List.map (zY true) a2)]]=List.map (zK true) (l++[(T_laws_Commit.mk [] a1 a2)])) ∧
 (∀ (l:List T_laws_Commit) (i:Nat) (a0:List Int) (a1:ByteArray),(List.map (zK true) l).set i [.list true 1 (List.map (rK .i64) a0),.sc (.string a1),.list true 3 []]=List.map (zK true) (l.set i (T_laws_Commit.mk a0 a1 []))) ∧
 (∀ (l:List T_laws_Commit) (a0:List Int) (a1:ByteArray),List.map (zK true) l++[[.list true 1 (List.map (rK .i64) a0),.sc (.string a1),.list true 3 []]]=List.map (zK true) (l++[(T_laws_Commit.mk a0 a1 [])])) ∧
 (∀ (l:List T_laws_Commit) (i:Nat) (a1:ByteArray),(List.map (zK true) l).set i [.list true 1 [],.sc (.string a1),.list true 3 []]=List.map (zK true) (l.set i (T_laws_Commit.mk [] a1 []))) ∧
 (∀ (l:List T_laws_Commit) (a1:ByteArray),List.map (zK true) l++[[.list true 1 [],.sc (.string a1),.list true 3 []]]=List.map (zK true) (l++[(T_laws_Commit.mk [] a1 [])])) ∧
 (∀ l:List T_laws_Commit,qF (List.map (zK true) l)=List.map (zK false) l) ∧
 (∀ l:List T_laws_Commit,qR (List.map (zK true) l)=true) ∧
 (∀ l:List T_laws_Commit,qF (List.map (zK false) l)=List.map (zK false) l) ∧
 (∀ l:List T_laws_Commit,qR (List.map (zK false) l)=true) ∧
 (∀ l:List T_laws_Commit,qP (List.map (zK true) l)=true) ∧
 (∀ x:T_laws_Commit,zK true x=[.list true 1 (List.map (rK .i64) x.Parents),.sc (.string x.Note),.list true 3 (List.map (zY true) x.Names)]) ∧
 (∀ x:T_laws_Commit,zK false x=[.list false 1 (List.map (rK .i64) x.Parents),.sc (.string x.Note),.list false 3 (List.map (zY true) x.Names)]):=
 ⟨fun l i a0 a1 a2=>qO (zK true) l i (T_laws_Commit.mk a0 a1 a2),
 fun l a0 a1 a2=>qG (zK true) l [(T_laws_Commit.mk a0 a1 a2)],
 fun l i a0 a1 a2=>qO (zK false) l i (T_laws_Commit.mk a0 a1 a2),
 fun l a0 a1 a2=>qG (zK false) l [(T_laws_Commit.mk a0 a1 a2)],
 fun l i a1 a2=>qO (zK true) l i (T_laws_Commit.mk [] a1 a2),
 fun l a1 a2=>qG (zK true) l [(T_laws_Commit.mk [] a1 a2)],
 fun l i a0 a1=>qO (zK true) l i (T_laws_Commit.mk a0 a1 []),
 fun l a0 a1=>qG (zK true) l [(T_laws_Commit.mk a0 a1 [])],
 fun l i a1=>qO (zK true) l i (T_laws_Commit.mk [] a1 []),
 fun l a1=>qG (zK true) l [(T_laws_Commit.mk [] a1 [])],
 qH (fun x=>by simp only [zK,borRow,V.bor,(show ∀ l:List Int,qF (List.map (rK .i64) l)=List.map (rK .i64) l from qH (fun _=>rfl)),(show ∀ l:List T_laws_Name,qF (List.map (zY true) l)=List.map (zY true) l from qH (fun _=>rfl))]),
 alRows (fun _=>rfl),
 qH (fun x=>by simp only [zK,borRow,V.bor,(show ∀ l:List Int,qF (List.map (rK .i64) l)=List.map (rK .i64) l from qH (fun _=>rfl)),(show ∀ l:List T_laws_Name,qF (List.map (zY true) l)=List.map (zY true) l from qH (fun _=>rfl))]),
 alRows (fun _=>rfl),
 nb_rows (fun x=>by simp only [zK,noBorRow,V.noBor,Bool.and_true,Bool.true_and,(show ∀ l:List Int,qP (List.map (rK .i64) l)=true from nb_rows (fun _=>rfl)),(show ∀ l:List T_laws_Name,qP (List.map (zY true) l)=true from nb_rows (fun _=>rfl))]),
 fun _=>rfl,
 fun _=>rfl⟩
theorem qT:(∀ (l:List (List Int)) (i:Nat) (a0:List Int),(List.map (rL true 1 (rK .i64)) l).set i [.list true 1 (List.map (rK .i64) a0)]=List.map (rL true 1 (rK .i64)) (l.set i a0)) ∧
 (∀ (l:List (List Int)) (a0:List Int),List.map (rL true 1 (rK .i64)) l++[[.list true 1 (List.map (rK .i64) a0)]]=List.map (rL true 1 (rK .i64)) (l++[a0])) ∧
 (∀ (l:List (List Int)) (i:Nat) (a0:List Int),(List.map (rL false 1 (rK .i64)) l).set i [.list false 1 (List.map (rK .i64) a0)]=List.map (rL false 1 (rK .i64)) (l.set i a0)) ∧
 (∀ (l:List (List Int)) (a0:List Int),List.map (rL false 1 (rK .i64)) l++[[.list false 1 (List.map (rK .i64) a0)]]=List.map (rL false 1 (rK .i64)) (l++[a0])) ∧
 (∀ (l:List (List Int)) (i:Nat),(List.map (rL true 1 (rK .i64)) l).set i [.list true 1 []]=List.map (rL true 1 (rK .i64)) (l.set i [])) ∧
 (∀ (l:List (List Int)),List.map (rL true 1 (rK .i64)) l++[[.list true 1 []]]=List.map (rL true 1 (rK .i64)) (l++[[]])) ∧
 (∀ l:List (List Int),qF (List.map (rL true 1 (rK .i64)) l)=List.map (rL false 1 (rK .i64)) l) ∧
 (∀ l:List (List Int),qR (List.map (rL true 1 (rK .i64)) l)=true) ∧
 (∀ l:List (List Int),qF (List.map (rL false 1 (rK .i64)) l)=List.map (rL false 1 (rK .i64)) l) ∧
 (∀ l:List (List Int),qR (List.map (rL false 1 (rK .i64)) l)=true) ∧
 (∀ l:List (List Int),qP (List.map (rL true 1 (rK .i64)) l)=true):=
 ⟨fun l i a0=>qO (rL true 1 (rK .i64)) l i a0,
 fun l a0=>qG (rL true 1 (rK .i64)) l [a0],
 fun l i a0=>qO (rL false 1 (rK .i64)) l i a0,
 fun l a0=>qG (rL false 1 (rK .i64)) l [a0],
 fun l i=>qO (rL true 1 (rK .i64)) l i [],
 fun l=>qG (rL true 1 (rK .i64)) l [[]],
 qH (bor_rL (fun _=>rfl)),
 alRows (fun _=>rfl),
 qH (bor_rL (fun _=>rfl)),
 alRows (fun _=>rfl),
 nb_rows (nb_rL (fun _=>rfl))⟩
def zT (o:Bool) (x:T_laws_Body):List V:=[.sc (.string x.Line),.sc (.int .i64 x.Ins),.sc (.int .i64 x.Ord),.list o 1 (List.map (rK .i64) x.Dels)]
theorem R_T_laws_Body:(∀ (l:List T_laws_Body) (i:Nat) (a0:ByteArray) (a1:Int) (a2:Int) (a3:List Int),(List.map (zT true) l).set i [.sc (.string a0),.sc (.int .i64 a1),.sc (.int .i64 a2),.list true 1 (List.map (rK .i64) a3)]=List.map (zT true) (l.set i (T_laws_Body.mk a0 a1 a2 a3))) ∧
 (∀ (l:List T_laws_Body) (a0:ByteArray) (a1:Int) (a2:Int) (a3:List Int),List.map (zT true) l++[[.sc (.string a0),.sc (.int .i64 a1),.sc (.int .i64 a2),.list true 1 (List.map (rK .i64) a3)]]=List.map (zT true) (l++[(T_laws_Body.mk a0 a1 a2 a3)])) ∧
 (∀ (l:List T_laws_Body) (i:Nat) (a0:ByteArray) (a1:Int) (a2:Int) (a3:List Int),(List.map (zT false) l).set i [.sc (.string a0),.sc (.int .i64 a1),.sc (.int .i64 a2),.list false 1 (List.map (rK .i64) a3)]=List.map (zT false) (l.set i (T_laws_Body.mk a0 a1 a2 a3))) ∧
 (∀ (l:List T_laws_Body) (a0:ByteArray) (a1:Int) (a2:Int) (a3:List Int),List.map (zT false) l++[[.sc (.string a0),.sc (.int .i64 a1),.sc (.int .i64 a2),.list false 1 (List.map (rK .i64) a3)]]=List.map (zT false) (l++[(T_laws_Body.mk a0 a1 a2 a3)])) ∧
 (∀ (l:List T_laws_Body) (i:Nat) (a0:ByteArray) (a1:Int) (a2:Int),(List.map (zT true) l).set i [.sc (.string a0),.sc (.int .i64 a1),.sc (.int .i64 a2),.list true 1 []]=List.map (zT true) (l.set i (T_laws_Body.mk a0 a1 a2 []))) ∧
 (∀ (l:List T_laws_Body) (a0:ByteArray) (a1:Int) (a2:Int),List.map (zT true) l++[[.sc (.string a0),.sc (.int .i64 a1),.sc (.int .i64 a2),.list true 1 []]]=List.map (zT true) (l++[(T_laws_Body.mk a0 a1 a2 [])])) ∧
 (∀ l:List T_laws_Body,qF (List.map (zT true) l)=List.map (zT false) l) ∧
 (∀ l:List T_laws_Body,qR (List.map (zT true) l)=true) ∧
 (∀ l:List T_laws_Body,qF (List.map (zT false) l)=List.map (zT false) l) ∧
 (∀ l:List T_laws_Body,qR (List.map (zT false) l)=true) ∧
 (∀ l:List T_laws_Body,qP (List.map (zT true) l)=true) ∧
 (∀ x:T_laws_Body,zT true x=[.sc (.string x.Line),.sc (.int .i64 x.Ins),.sc (.int .i64 x.Ord),.list true 1 (List.map (rK .i64) x.Dels)]) ∧
 (∀ x:T_laws_Body,zT false x=[.sc (.string x.Line),.sc (.int .i64 x.Ins),.sc (.int .i64 x.Ord),.list false 1 (List.map (rK .i64) x.Dels)]):=
 ⟨fun l i a0 a1 a2 a3=>qO (zT true) l i (T_laws_Body.mk a0 a1 a2 a3),
 fun l a0 a1 a2 a3=>qG (zT true) l [(T_laws_Body.mk a0 a1 a2 a3)],
 fun l i a0 a1 a2 a3=>qO (zT false) l i (T_laws_Body.mk a0 a1 a2 a3),
 fun l a0 a1 a2 a3=>qG (zT false) l [(T_laws_Body.mk a0 a1 a2 a3)],
 fun l i a0 a1 a2=>qO (zT true) l i (T_laws_Body.mk a0 a1 a2 []),
 fun l a0 a1 a2=>qG (zT true) l [(T_laws_Body.mk a0 a1 a2 [])],
 qH (fun x=>by simp only [zT,borRow,V.bor,(show ∀ l:List Int,qF (List.map (rK .i64) l)=List.map (rK .i64) l from qH (fun _=>rfl))]),
 alRows (fun _=>rfl),
 qH (fun x=>by simp only [zT,borRow,V.bor,(show ∀ l:List Int,qF (List.map (rK .i64) l)=List.map (rK .i64) l from qH (fun _=>rfl))]),
 alRows (fun _=>rfl),
 nb_rows (fun x=>by simp only [zT,noBorRow,V.noBor,Bool.and_true,Bool.true_and,(show ∀ l:List Int,qP (List.map (rK .i64) l)=true from nb_rows (fun _=>rfl))]),
 fun _=>rfl,
 fun _=>rfl⟩
def zL (o:Bool) (x:T_laws_Weave):List V:=[.list o 1 (List.map (rL o 1 (rK .i64)) x.Parents),.list o 4 (List.map (zT o) x.Bodies)]
theorem R_T_laws_Weave:(∀ (l:List T_laws_Weave) (i:Nat) (a0:List (List Int)) (a1:List T_laws_Body),(List.map (zL true) l).set i [.list true 1 (List.map (rL true 1 (rK .i64)) a0),.list true 4 (List.map (zT true) a1)]=List.map (zL true) (l.set i (T_laws_Weave.mk a0 a1))) ∧
 (∀ (l:List T_laws_Weave) (a0:List (List Int)) (a1:List T_laws_Body),List.map (zL true) l++[[.list true 1 (List.map (rL true 1 (rK .i64)) a0),.list true 4 (List.map (zT true) a1)]]=List.map (zL true) (l++[(T_laws_Weave.mk a0 a1)])) ∧
 (∀ (l:List T_laws_Weave) (i:Nat) (a0:List (List Int)) (a1:List T_laws_Body),(List.map (zL false) l).set i [.list false 1 (List.map (rL false 1 (rK .i64)) a0),.list false 4 (List.map (zT false) a1)]=List.map (zL false) (l.set i (T_laws_Weave.mk a0 a1))) ∧
 (∀ (l:List T_laws_Weave) (a0:List (List Int)) (a1:List T_laws_Body),List.map (zL false) l++[[.list false 1 (List.map (rL false 1 (rK .i64)) a0),.list false 4 (List.map (zT false) a1)]]=List.map (zL false) (l++[(T_laws_Weave.mk a0 a1)])) ∧
 (∀ (l:List T_laws_Weave) (i:Nat) (a1:List T_laws_Body),(List.map (zL true) l).set i [.list true 1 [],.list true 4 (List.map (zT true) a1)]=List.map (zL true) (l.set i (T_laws_Weave.mk [] a1))) ∧
 (∀ (l:List T_laws_Weave) (a1:List T_laws_Body),List.map (zL true) l++[[.list true 1 [],.list true 4 (List.map (zT true) a1)]]=List.map (zL true) (l++[(T_laws_Weave.mk [] a1)])) ∧
 (∀ (l:List T_laws_Weave) (i:Nat) (a0:List (List Int)),(List.map (zL true) l).set i [.list true 1 (List.map (rL true 1 (rK .i64)) a0),.list true 4 []]=List.map (zL true) (l.set i (T_laws_Weave.mk a0 []))) ∧
 (∀ (l:List T_laws_Weave) (a0:List (List Int)),List.map (zL true) l++[[.list true 1 (List.map (rL true 1 (rK .i64)) a0),.list true 4 []]]=List.map (zL true) (l++[(T_laws_Weave.mk a0 [])])) ∧
 (∀ (l:List T_laws_Weave) (i:Nat),(List.map (zL true) l).set i [.list true 1 [],.list true 4 []]=List.map (zL true) (l.set i (T_laws_Weave.mk [] []))) ∧
 (∀ (l:List T_laws_Weave),List.map (zL true) l++[[.list true 1 [],.list true 4 []]]=List.map (zL true) (l++[(T_laws_Weave.mk [] [])])) ∧
 (∀ l:List T_laws_Weave,qF (List.map (zL true) l)=List.map (zL false) l) ∧
 (∀ l:List T_laws_Weave,qR (List.map (zL true) l)=true) ∧
 (∀ l:List T_laws_Weave,qF (List.map (zL false) l)=List.map (zL false) l) ∧
 (∀ l:List T_laws_Weave,qR (List.map (zL false) l)=true) ∧
 (∀ l:List T_laws_Weave,qP (List.map (zL true) l)=true) ∧
 (∀ x:T_laws_Weave,zL true x=[.list true 1 (List.map (rL true 1 (rK .i64)) x.Parents),.list true 4 (List.map (zT true) x.Bodies)]) ∧
 (∀ x:T_laws_Weave,zL false x=[.list false 1 (List.map (rL false 1 (rK .i64)) x.Parents),.list false 4 (List.map (zT false) x.Bodies)]):=
 ⟨fun l i a0 a1=>qO (zL true) l i (T_laws_Weave.mk a0 a1),
 fun l a0 a1=>qG (zL true) l [(T_laws_Weave.mk a0 a1)],
 fun l i a0 a1=>qO (zL false) l i (T_laws_Weave.mk a0 a1),
 fun l a0 a1=>qG (zL false) l [(T_laws_Weave.mk a0 a1)],
 fun l i a1=>qO (zL true) l i (T_laws_Weave.mk [] a1),
 fun l a1=>qG (zL true) l [(T_laws_Weave.mk [] a1)],
 fun l i a0=>qO (zL true) l i (T_laws_Weave.mk a0 []),
 fun l a0=>qG (zL true) l [(T_laws_Weave.mk a0 [])],
 fun l i=>qO (zL true) l i (T_laws_Weave.mk [] []),
 fun l=>qG (zL true) l [(T_laws_Weave.mk [] [])],
 qH (fun x=>by simp only [zL,borRow,V.bor,(show ∀ l:List (List Int),qF (List.map (rL true 1 (rK .i64)) l)=List.map (rL false 1 (rK .i64)) l from qH (bor_rL (fun _=>rfl))),(show ∀ l:List T_laws_Body,qF (List.map (zT true) l)=List.map (zT false) l from qH (fun x=>by simp only [zT,borRow,V.bor,(show ∀ l:List Int,qF (List.map (rK .i64) l)=List.map (rK .i64) l from qH (fun _=>rfl))]))]),
 alRows (fun _=>rfl),
 qH (fun x=>by simp only [zL,borRow,V.bor,(show ∀ l:List (List Int),qF (List.map (rL false 1 (rK .i64)) l)=List.map (rL false 1 (rK .i64)) l from qH (bor_rL (fun _=>rfl))),(show ∀ l:List T_laws_Body,qF (List.map (zT false) l)=List.map (zT false) l from qH (fun x=>by simp only [zT,borRow,V.bor,(show ∀ l:List Int,qF (List.map (rK .i64) l)=List.map (rK .i64) l from qH (fun _=>rfl))]))]),
 alRows (fun _=>rfl),
 nb_rows (fun x=>by simp only [zL,noBorRow,V.noBor,Bool.and_true,Bool.true_and,(show ∀ l:List (List Int),qP (List.map (rL true 1 (rK .i64)) l)=true from nb_rows (nb_rL (fun _=>rfl))),(show ∀ l:List T_laws_Body,qP (List.map (zT true) l)=true from nb_rows (fun x=>by simp only [zT,noBorRow,V.noBor,Bool.and_true,Bool.true_and,(show ∀ l:List Int,qP (List.map (rK .i64) l)=true from nb_rows (fun _=>rfl))]))]),
 fun _=>rfl,
 fun _=>rfl⟩
def r_T_laws_Store (o:Bool) (x:T_laws_Store):List V:=[.list o 3 (List.map (zK o) x.Commits),.list o 2 (List.map (zL o) x.Files)]
def zJ (o:Bool) (x:T_impl_Name):List V:=[.sc (.string x.Path),.sc (.int .i64 x.Id),.sc (.int .i64 x.Version)]
theorem zZ:(∀ (l:List T_impl_Name) (i:Nat) (a0:ByteArray) (a1:Int) (a2:Int),(List.map (zJ true) l).set i [.sc (.string a0),.sc (.int .i64 a1),.sc (.int .i64 a2)]=List.map (zJ true) (l.set i (T_impl_Name.mk a0 a1 a2))) ∧
 (∀ (l:List T_impl_Name) (a0:ByteArray) (a1:Int) (a2:Int),List.map (zJ true) l++[[.sc (.string a0),.sc (.int .i64 a1),.sc (.int .i64 a2)]]=List.map (zJ true) (l++[(T_impl_Name.mk a0 a1 a2)])) ∧
 (∀ (l:List T_impl_Name) (i:Nat) (a0:ByteArray) (a1:Int) (a2:Int),(List.map (zJ true) l).set i [.sc (.string a0),.sc (.int .i64 a1),.sc (.int .i64 a2)]=List.map (zJ true) (l.set i (T_impl_Name.mk a0 a1 a2))) ∧
 (∀ (l:List T_impl_Name) (a0:ByteArray) (a1:Int) (a2:Int),List.map (zJ true) l++[[.sc (.string a0),.sc (.int .i64 a1),.sc (.int .i64 a2)]]=List.map (zJ true) (l++[(T_impl_Name.mk a0 a1 a2)])) ∧
 (∀ l:List T_impl_Name,qF (List.map (zJ true) l)=List.map (zJ true) l) ∧
 (∀ l:List T_impl_Name,qR (List.map (zJ true) l)=true) ∧
 (∀ l:List T_impl_Name,qF (List.map (zJ true) l)=List.map (zJ true) l) ∧
 (∀ l:List T_impl_Name,qR (List.map (zJ true) l)=true) ∧
 (∀ l:List T_impl_Name,qP (List.map (zJ true) l)=true) ∧
 (∀ x:T_impl_Name,zJ true x=[.sc (.string x.Path),.sc (.int .i64 x.Id),.sc (.int .i64 x.Version)]) ∧
 (∀ x:T_impl_Name,zJ false x=[.sc (.string x.Path),.sc (.int .i64 x.Id),.sc (.int .i64 x.Version)]):=
 ⟨fun l i a0 a1 a2=>qO (zJ true) l i (T_impl_Name.mk a0 a1 a2),
 fun l a0 a1 a2=>qG (zJ true) l [(T_impl_Name.mk a0 a1 a2)],
 fun l i a0 a1 a2=>qO (zJ true) l i (T_impl_Name.mk a0 a1 a2),
 fun l a0 a1 a2=>qG (zJ true) l [(T_impl_Name.mk a0 a1 a2)],
 qH (fun _=>rfl),
 alRows (fun _=>rfl),
 qH (fun _=>rfl),
 alRows (fun _=>rfl),
 nb_rows (fun _=>rfl),
 fun _=>rfl,
 fun _=>rfl⟩
def zC (o:Bool) (x:T_impl_Commit):List V:=[.list o 1 (List.map (rK .i64) x.Parents),.sc (.string x.Note),.list o 3 (List.map (zJ true) x.Names)]
theorem qI:(∀ (l:List T_impl_Commit) (i:Nat) (a0:List Int) (a1:ByteArray) (a2:List T_impl_Name),(List.map (zC true) l).set i [.list true 1 (List.map (rK .i64) a0),.sc (.string a1),.list true 3 (List.map (zJ true) a2)]=List.map (zC true) (l.set i (T_impl_Commit.mk a0 a1 a2))) ∧
 (∀ (l:List T_impl_Commit) (a0:List Int) (a1:ByteArray) (a2:List T_impl_Name),List.map (zC true) l++[[.list true 1 (List.map (rK .i64) a0),.sc (.string a1),.list true 3 (List.map (zJ true) a2)]]=List.map (zC true) (l++[(T_impl_Commit.mk a0 a1 a2)])) ∧
 (∀ (l:List T_impl_Commit) (i:Nat) (a0:List Int) (a1:ByteArray) (a2:List T_impl_Name),(List.map (zC false) l).set i [.list false 1 (List.map (rK .i64) a0),.sc (.string a1),.list false 3 (List.map (zJ true) a2)]=List.map (zC false) (l.set i (T_impl_Commit.mk a0 a1 a2))) ∧
 (∀ (l:List T_impl_Commit) (a0:List Int) (a1:ByteArray) (a2:List T_impl_Name),List.map (zC false) l++[[.list false 1 (List.map (rK .i64) a0),.sc (.string a1),.list false 3 (List.map (zJ true) a2)]]=List.map (zC false) (l++[(T_impl_Commit.mk a0 a1 a2)])) ∧
 (∀ (l:List T_impl_Commit) (i:Nat) (a1:ByteArray) (a2:List T_impl_Name),(List.map (zC true) l).set i [.list true 1 [],.sc (.string a1),.list true 3 (List.map (zJ true) a2)]=List.map (zC true) (l.set i (T_impl_Commit.mk [] a1 a2))) ∧
 (∀ (l:List T_impl_Commit) (a1:ByteArray) (a2:List T_impl_Name),List.map (zC true) l++[[.list true 1 [],.sc (.string a1),.list true 3 (List.map (zJ true) a2)]]=List.map (zC true) (l++[(T_impl_Commit.mk [] a1 a2)])) ∧
 (∀ (l:List T_impl_Commit) (i:Nat) (a0:List Int) (a1:ByteArray),(List.map (zC true) l).set i [.list true 1 (List.map (rK .i64) a0),.sc (.string a1),.list true 3 []]=List.map (zC true) (l.set i (T_impl_Commit.mk a0 a1 []))) ∧
 (∀ (l:List T_impl_Commit) (a0:List Int) (a1:ByteArray),List.map (zC true) l++[[.list true 1 (List.map (rK .i64) a0),.sc (.string a1),.list true 3 []]]=List.map (zC true) (l++[(T_impl_Commit.mk a0 a1 [])])) ∧
 (∀ (l:List T_impl_Commit) (i:Nat) (a1:ByteArray),(List.map (zC true) l).set i [.list true 1 [],.sc (.string a1),.list true 3 []]=List.map (zC true) (l.set i (T_impl_Commit.mk [] a1 []))) ∧
 (∀ (l:List T_impl_Commit) (a1:ByteArray),List.map (zC true) l++[[.list true 1 [],.sc (.string a1),.list true 3 []]]=List.map (zC true) (l++[(T_impl_Commit.mk [] a1 [])])) ∧
 (∀ l:List T_impl_Commit,qF (List.map (zC true) l)=List.map (zC false) l) ∧
 (∀ l:List T_impl_Commit,qR (List.map (zC true) l)=true) ∧
 (∀ l:List T_impl_Commit,qF (List.map (zC false) l)=List.map (zC false) l) ∧
 (∀ l:List T_impl_Commit,qR (List.map (zC false) l)=true) ∧
 (∀ l:List T_impl_Commit,qP (List.map (zC true) l)=true) ∧
 (∀ x:T_impl_Commit,zC true x=[.list true 1 (List.map (rK .i64) x.Parents),.sc (.string x.Note),.list true 3 (List.map (zJ true) x.Names)]) ∧
 (∀ x:T_impl_Commit,zC false x=[.list false 1 (List.map (rK .i64) x.Parents),.sc (.string x.Note),.list false 3 (List.map (zJ true) x.Names)]):=
 ⟨fun l i a0 a1 a2=>qO (zC true) l i (T_impl_Commit.mk a0 a1 a2),
 fun l a0 a1 a2=>qG (zC true) l [(T_impl_Commit.mk a0 a1 a2)],
 fun l i a0 a1 a2=>qO (zC false) l i (T_impl_Commit.mk a0 a1 a2),
 fun l a0 a1 a2=>qG (zC false) l [(T_impl_Commit.mk a0 a1 a2)],
 fun l i a1 a2=>qO (zC true) l i (T_impl_Commit.mk [] a1 a2),
 fun l a1 a2=>qG (zC true) l [(T_impl_Commit.mk [] a1 a2)],
 fun l i a0 a1=>qO (zC true) l i (T_impl_Commit.mk a0 a1 []),
 fun l a0 a1=>qG (zC true) l [(T_impl_Commit.mk a0 a1 [])],
 fun l i a1=>qO (zC true) l i (T_impl_Commit.mk [] a1 []),
 fun l a1=>qG (zC true) l [(T_impl_Commit.mk [] a1 [])],
 qH (fun x=>by simp only [zC,borRow,V.bor,(show ∀ l:List Int,qF (List.map (rK .i64) l)=List.map (rK .i64) l from qH (fun _=>rfl)),(show ∀ l:List T_impl_Name,qF (List.map (zJ true) l)=List.map (zJ true) l from qH (fun _=>rfl))]),
 alRows (fun _=>rfl),
 qH (fun x=>by simp only [zC,borRow,V.bor,(show ∀ l:List Int,qF (List.map (rK .i64) l)=List.map (rK .i64) l from qH (fun _=>rfl)),(show ∀ l:List T_impl_Name,qF (List.map (zJ true) l)=List.map (zJ true) l from qH (fun _=>rfl))]),
 alRows (fun _=>rfl),
 nb_rows (fun x=>by simp only [zC,noBorRow,V.noBor,Bool.and_true,Bool.true_and,(show ∀ l:List Int,qP (List.map (rK .i64) l)=true from nb_rows (fun _=>rfl)),(show ∀ l:List T_impl_Name,qP (List.map (zJ true) l)=true from nb_rows (fun _=>rfl))]),
 fun _=>rfl,
 fun _=>rfl⟩
def zF (o:Bool) (x:T_impl_Body):List V:=[.sc (.string x.Line),.sc (.int .i64 x.Ins),.sc (.int .i64 x.Ord),.list o 1 (List.map (rK .i64) x.Dels)]
theorem qL:(∀ (l:List T_impl_Body) (i:Nat) (a0:ByteArray) (a1:Int) (a2:Int) (a3:List Int),(List.map (zF true) l).set i [.sc (.string a0),.sc (.int .i64 a1),.sc (.int .i64 a2),.list true 1 (List.map (rK .i64) a3)]=List.map (zF true) (l.set i (T_impl_Body.mk a0 a1 a2 a3))) ∧
 (∀ (l:List T_impl_Body) (a0:ByteArray) (a1:Int) (a2:Int) (a3:List Int),List.map (zF true) l++[[.sc (.string a0),.sc (.int .i64 a1),.sc (.int .i64 a2),.list true 1 (List.map (rK .i64) a3)]]=List.map (zF true) (l++[(T_impl_Body.mk a0 a1 a2 a3)])) ∧
 (∀ (l:List T_impl_Body) (i:Nat) (a0:ByteArray) (a1:Int) (a2:Int) (a3:List Int),(List.map (zF false) l).set i [.sc (.string a0),.sc (.int .i64 a1),.sc (.int .i64 a2),.list false 1 (List.map (rK .i64) a3)]=List.map (zF false) (l.set i (T_impl_Body.mk a0 a1 a2 a3))) ∧
 (∀ (l:List T_impl_Body) (a0:ByteArray) (a1:Int) (a2:Int) (a3:List Int),List.map (zF false) l++[[.sc (.string a0),.sc (.int .i64 a1),.sc (.int .i64 a2),.list false 1 (List.map (rK .i64) a3)]]=List.map (zF false) (l++[(T_impl_Body.mk a0 a1 a2 a3)])) ∧
 (∀ (l:List T_impl_Body) (i:Nat) (a0:ByteArray) (a1:Int) (a2:Int),(List.map (zF true) l).set i [.sc (.string a0),.sc (.int .i64 a1),.sc (.int .i64 a2),.list true 1 []]=List.map (zF true) (l.set i (T_impl_Body.mk a0 a1 a2 []))) ∧
 (∀ (l:List T_impl_Body) (a0:ByteArray) (a1:Int) (a2:Int),List.map (zF true) l++[[.sc (.string a0),.sc (.int .i64 a1),.sc (.int .i64 a2),.list true 1 []]]=List.map (zF true) (l++[(T_impl_Body.mk a0 a1 a2 [])])) ∧
 (∀ l:List T_impl_Body,qF (List.map (zF true) l)=List.map (zF false) l) ∧
 (∀ l:List T_impl_Body,qR (List.map (zF true) l)=true) ∧
 (∀ l:List T_impl_Body,qF (List.map (zF false) l)=List.map (zF false) l) ∧
 (∀ l:List T_impl_Body,qR (List.map (zF false) l)=true) ∧
 (∀ l:List T_impl_Body,qP (List.map (zF true) l)=true) ∧
 (∀ x:T_impl_Body,zF true x=[.sc (.string x.Line),.sc (.int .i64 x.Ins),.sc (.int .i64 x.Ord),.list true 1 (List.map (rK .i64) x.Dels)]) ∧
 (∀ x:T_impl_Body,zF false x=[.sc (.string x.Line),.sc (.int .i64 x.Ins),.sc (.int .i64 x.Ord),.list false 1 (List.map (rK .i64) x.Dels)]):=
 ⟨fun l i a0 a1 a2 a3=>qO (zF true) l i (T_impl_Body.mk a0 a1 a2 a3),
 fun l a0 a1 a2 a3=>qG (zF true) l [(T_impl_Body.mk a0 a1 a2 a3)],
 fun l i a0 a1 a2 a3=>qO (zF false) l i (T_impl_Body.mk a0 a1 a2 a3),
 fun l a0 a1 a2 a3=>qG (zF false) l [(T_impl_Body.mk a0 a1 a2 a3)],
 fun l i a0 a1 a2=>qO (zF true) l i (T_impl_Body.mk a0 a1 a2 []),
 fun l a0 a1 a2=>qG (zF true) l [(T_impl_Body.mk a0 a1 a2 [])],
 qH (fun x=>by simp only [zF,borRow,V.bor,(show ∀ l:List Int,qF (List.map (rK .i64) l)=List.map (rK .i64) l from qH (fun _=>rfl))]),
 alRows (fun _=>rfl),
 qH (fun x=>by simp only [zF,borRow,V.bor,(show ∀ l:List Int,qF (List.map (rK .i64) l)=List.map (rK .i64) l from qH (fun _=>rfl))]),
 alRows (fun _=>rfl),
 nb_rows (fun x=>by simp only [zF,noBorRow,V.noBor,Bool.and_true,Bool.true_and,(show ∀ l:List Int,qP (List.map (rK .i64) l)=true from nb_rows (fun _=>rfl))]),
 fun _=>rfl,
 fun _=>rfl⟩
def zD (o:Bool) (x:T_impl_Weave):List V:=[.list o 1 (List.map (rL o 1 (rK .i64)) x.Parents),.list o 4 (List.map (zF o) x.Bodies)]
theorem qV:(∀ (l:List T_impl_Weave) (i:Nat) (a0:List (List Int)) (a1:List T_impl_Body),(List.map (zD true) l).set i [.list true 1 (List.map (rL true 1 (rK .i64)) a0),.list true 4 (List.map (zF true) a1)]=List.map (zD true) (l.set i (T_impl_Weave.mk a0 a1))) ∧
 (∀ (l:List T_impl_Weave) (a0:List (List Int)) (a1:List T_impl_Body),List.map (zD true) l++[[.list true 1 (List.map (rL true 1 (rK .i64)) a0),.list true 4 (List.map (zF true) a1)]]=List.map (zD true) (l++[(T_impl_Weave.mk a0 a1)])) ∧
 (∀ (l:List T_impl_Weave) (i:Nat) (a0:List (List Int)) (a1:List T_impl_Body),(List.map (zD false) l).set i [.list false 1 (List.map (rL false 1 (rK .i64)) a0),.list false 4 (List.map (zF false) a1)]=List.map (zD false) (l.set i (T_impl_Weave.mk a0 a1))) ∧
 (∀ (l:List T_impl_Weave) (a0:List (List Int)) (a1:List T_impl_Body),List.map (zD false) l++[[.list false 1 (List.map (rL false 1 (rK .i64)) a0),.list false 4 (List.map (zF false) a1)]]=List.map (zD false) (l++[(T_impl_Weave.mk a0 a1)])) ∧
 (∀ (l:List T_impl_Weave) (i:Nat) (a1:List T_impl_Body),(List.map (zD true) l).set i [.list true 1 [],.list true 4 (List.map (zF true) a1)]=List.map (zD true) (l.set i (T_impl_Weave.mk [] a1))) ∧
 (∀ (l:List T_impl_Weave) (a1:List T_impl_Body),List.map (zD true) l++[[.list true 1 [],.list true 4 (List.map (zF true) a1)]]=List.map (zD true) (l++[(T_impl_Weave.mk [] a1)])) ∧
 (∀ (l:List T_impl_Weave) (i:Nat) (a0:List (List Int)),(List.map (zD true) l).set i [.list true 1 (List.map (rL true 1 (rK .i64)) a0),.list true 4 []]=List.map (zD true) (l.set i (T_impl_Weave.mk a0 []))) ∧
 (∀ (l:List T_impl_Weave) (a0:List (List Int)),List.map (zD true) l++[[.list true 1 (List.map (rL true 1 (rK .i64)) a0),.list true 4 []]]=List.map (zD true) (l++[(T_impl_Weave.mk a0 [])])) ∧
 (∀ (l:List T_impl_Weave) (i:Nat),(List.map (zD true) l).set i [.list true 1 [],.list true 4 []]=List.map (zD true) (l.set i (T_impl_Weave.mk [] []))) ∧
 (∀ (l:List T_impl_Weave),List.map (zD true) l++[[.list true 1 [],.list true 4 []]]=List.map (zD true) (l++[(T_impl_Weave.mk [] [])])) ∧
 (∀ l:List T_impl_Weave,qF (List.map (zD true) l)=List.map (zD false) l) ∧
 (∀ l:List T_impl_Weave,qR (List.map (zD true) l)=true) ∧
 (∀ l:List T_impl_Weave,qF (List.map (zD false) l)=List.map (zD false) l) ∧
 (∀ l:List T_impl_Weave,qR (List.map (zD false) l)=true) ∧
 (∀ l:List T_impl_Weave,qP (List.map (zD true) l)=true) ∧
 (∀ x:T_impl_Weave,zD true x=[.list true 1 (List.map (rL true 1 (rK .i64)) x.Parents),.list true 4 (List.map (zF true) x.Bodies)]) ∧
 (∀ x:T_impl_Weave,zD false x=[.list false 1 (List.map (rL false 1 (rK .i64)) x.Parents),.list false 4 (List.map (zF false) x.Bodies)]):=
 ⟨fun l i a0 a1=>qO (zD true) l i (T_impl_Weave.mk a0 a1),
 fun l a0 a1=>qG (zD true) l [(T_impl_Weave.mk a0 a1)],
 fun l i a0 a1=>qO (zD false) l i (T_impl_Weave.mk a0 a1),
 fun l a0 a1=>qG (zD false) l [(T_impl_Weave.mk a0 a1)],
 fun l i a1=>qO (zD true) l i (T_impl_Weave.mk [] a1),
 fun l a1=>qG (zD true) l [(T_impl_Weave.mk [] a1)],
 fun l i a0=>qO (zD true) l i (T_impl_Weave.mk a0 []),
 fun l a0=>qG (zD true) l [(T_impl_Weave.mk a0 [])],
 fun l i=>qO (zD true) l i (T_impl_Weave.mk [] []),
 fun l=>qG (zD true) l [(T_impl_Weave.mk [] [])],
 qH (fun x=>by simp only [zD,borRow,V.bor,(show ∀ l:List (List Int),qF (List.map (rL true 1 (rK .i64)) l)=List.map (rL false 1 (rK .i64)) l from qH (bor_rL (fun _=>rfl))),(show ∀ l:List T_impl_Body,qF (List.map (zF true) l)=List.map (zF false) l from qH (fun x=>by simp only [zF,borRow,V.bor,(show ∀ l:List Int,qF (List.map (rK .i64) l)=List.map (rK .i64) l from qH (fun _=>rfl))]))]),
 alRows (fun _=>rfl),
 qH (fun x=>by simp only [zD,borRow,V.bor,(show ∀ l:List (List Int),qF (List.map (rL false 1 (rK .i64)) l)=List.map (rL false 1 (rK .i64)) l from qH (bor_rL (fun _=>rfl))),(show ∀ l:List T_impl_Body,qF (List.map (zF false) l)=List.map (zF false) l from qH (fun x=>by simp only [zF,borRow,V.bor,(show ∀ l:List Int,qF (List.map (rK .i64) l)=List.map (rK .i64) l from qH (fun _=>rfl))]))]),
 alRows (fun _=>rfl),
 nb_rows (fun x=>by simp only [zD,noBorRow,V.noBor,Bool.and_true,Bool.true_and,(show ∀ l:List (List Int),qP (List.map (rL true 1 (rK .i64)) l)=true from nb_rows (nb_rL (fun _=>rfl))),(show ∀ l:List T_impl_Body,qP (List.map (zF true) l)=true from nb_rows (fun x=>by simp only [zF,noBorRow,V.noBor,Bool.and_true,Bool.true_and,(show ∀ l:List Int,qP (List.map (rK .i64) l)=true from nb_rows (fun _=>rfl))]))]),
 fun _=>rfl,
 fun _=>rfl⟩
theorem R_b:(∀ (l:List Bool) (i:Nat) (a0:Bool),(List.map rB l).set i [.sc (.bool a0)]=List.map rB (l.set i a0)) ∧
 (∀ (l:List Bool) (a0:Bool),List.map rB l++[[.sc (.bool a0)]]=List.map rB (l++[a0])) ∧
 (∀ (l:List Bool) (b0 b1:Bool),List.map rB l++[[.sc (.bool b0)],[.sc (.bool b1)]]=List.map rB (l++[b0,b1])) ∧
 (∀ (l:List Bool) (b0 b1 b2:Bool),List.map rB l++[[.sc (.bool b0)],[.sc (.bool b1)],[.sc (.bool b2)]]=List.map rB (l++[b0,b1,b2])) ∧
 (∀ (l:List Bool) (b0 b1 b2 b3:Bool),List.map rB l++[[.sc (.bool b0)],[.sc (.bool b1)],[.sc (.bool b2)],[.sc (.bool b3)]]=List.map rB (l++[b0,b1,b2,b3])) ∧
 (∀ n:Nat,List.replicate n [.sc (.bool false)]=List.map rB (List.replicate n false)) ∧
 (∀ l:List Bool,qF (List.map rB l)=List.map rB l) ∧
 (∀ l:List Bool,qR (List.map rB l)=true) ∧
 (∀ l:List Bool,qP (List.map rB l)=true):=
 ⟨fun l i a0=>qO rB l i a0,
 fun l a0=>qG rB l [a0],
 fun l b0 b1=>qG rB l [b0,b1],
 fun l b0 b1 b2=>qG rB l [b0,b1,b2],
 fun l b0 b1 b2 b3=>qG rB l [b0,b1,b2,b3],
 fun n=>rep_rows rB false n,
 qH (fun _=>rfl),
 alRows (fun _=>rfl),
 nb_rows (fun _=>rfl)⟩
theorem R_Lb:(∀ (l:List (List Bool)) (i:Nat) (a0:List Bool),(List.map (rL true 1 rB) l).set i [.list true 1 (List.map rB a0)]=List.map (rL true 1 rB) (l.set i a0)) ∧
 (∀ (l:List (List Bool)) (a0:List Bool),List.map (rL true 1 rB) l++[[.list true 1 (List.map rB a0)]]=List.map (rL true 1 rB) (l++[a0])) ∧
 (∀ (l:List (List Bool)) (i:Nat) (a0:List Bool),(List.map (rL false 1 rB) l).set i [.list false 1 (List.map rB a0)]=List.map (rL false 1 rB) (l.set i a0)) ∧
 (∀ (l:List (List Bool)) (a0:List Bool),List.map (rL false 1 rB) l++[[.list false 1 (List.map rB a0)]]=List.map (rL false 1 rB) (l++[a0])) ∧
 (∀ (l:List (List Bool)) (i:Nat),(List.map (rL true 1 rB) l).set i [.list true 1 []]=List.map (rL true 1 rB) (l.set i [])) ∧
 (∀ (l:List (List Bool)),List.map (rL true 1 rB) l++[[.list true 1 []]]=List.map (rL true 1 rB) (l++[[]])) ∧
 (∀ l:List (List Bool),qF (List.map (rL true 1 rB) l)=List.map (rL false 1 rB) l) ∧
 (∀ l:List (List Bool),qR (List.map (rL true 1 rB) l)=true) ∧
 (∀ l:List (List Bool),qF (List.map (rL false 1 rB) l)=List.map (rL false 1 rB) l) ∧
 (∀ l:List (List Bool),qR (List.map (rL false 1 rB) l)=true) ∧
 (∀ l:List (List Bool),qP (List.map (rL true 1 rB) l)=true):=
 ⟨fun l i a0=>qO (rL true 1 rB) l i a0,
 fun l a0=>qG (rL true 1 rB) l [a0],
 fun l i a0=>qO (rL false 1 rB) l i a0,
 fun l a0=>qG (rL false 1 rB) l [a0],
 fun l i=>qO (rL true 1 rB) l i [],
 fun l=>qG (rL true 1 rB) l [[]],
 qH (bor_rL (fun _=>rfl)),
 alRows (fun _=>rfl),
 qH (bor_rL (fun _=>rfl)),
 alRows (fun _=>rfl),
 nb_rows (nb_rL (fun _=>rfl))⟩
theorem R_u64:(∀ (l:List Int) (i:Nat) (a0:Int),(List.map (rK .u64) l).set i [.sc (.int .u64 a0)]=List.map (rK .u64) (l.set i a0)) ∧
 (∀ (l:List Int) (a0:Int),List.map (rK .u64) l++[[.sc (.int .u64 a0)]]=List.map (rK .u64) (l++[a0])) ∧
 (∀ (l:List Int) (b0 b1:Int),List.map (rK .u64) l++[[.sc (.int .u64 b0)],[.sc (.int .u64 b1)]]=List.map (rK .u64) (l++[b0,b1])) ∧
 (∀ (l:List Int) (b0 b1 b2:Int),List.map (rK .u64) l++[[.sc (.int .u64 b0)],[.sc (.int .u64 b1)],[.sc (.int .u64 b2)]]=List.map (rK .u64) (l++[b0,b1,b2])) ∧
 (∀ (l:List Int) (b0 b1 b2 b3:Int),List.map (rK .u64) l++[[.sc (.int .u64 b0)],[.sc (.int .u64 b1)],[.sc (.int .u64 b2)],[.sc (.int .u64 b3)]]=List.map (rK .u64) (l++[b0,b1,b2,b3])) ∧
 (∀ n:Nat,List.replicate n [.sc (.int .u64 0)]=List.map (rK .u64) (List.replicate n 0)) ∧
 (∀ l:List Int,qF (List.map (rK .u64) l)=List.map (rK .u64) l) ∧
 (∀ l:List Int,qR (List.map (rK .u64) l)=true) ∧
 (∀ l:List Int,qP (List.map (rK .u64) l)=true):=
 ⟨fun l i a0=>qO (rK .u64) l i a0,
 fun l a0=>qG (rK .u64) l [a0],
 fun l b0 b1=>qG (rK .u64) l [b0,b1],
 fun l b0 b1 b2=>qG (rK .u64) l [b0,b1,b2],
 fun l b0 b1 b2 b3=>qG (rK .u64) l [b0,b1,b2,b3],
 fun n=>rep_rows (rK .u64) 0 n,
 qH (fun _=>rfl),
 alRows (fun _=>rfl),
 nb_rows (fun _=>rfl)⟩
theorem R_LLi64:(∀ (l:List (List (List Int))) (i:Nat) (a0:List (List Int)),(List.map (rL true 1 (rL true 1 (rK .i64))) l).set i [.list true 1 (List.map (rL true 1 (rK .i64)) a0)]=List.map (rL true 1 (rL true 1 (rK .i64))) (l.set i a0)) ∧
 (∀ (l:List (List (List Int))) (a0:List (List Int)),List.map (rL true 1 (rL true 1 (rK .i64))) l++[[.list true 1 (List.map (rL true 1 (rK .i64)) a0)]]=List.map (rL true 1 (rL true 1 (rK .i64))) (l++[a0])) ∧
 (∀ (l:List (List (List Int))) (i:Nat) (a0:List (List Int)),(List.map (rL false 1 (rL false 1 (rK .i64))) l).set i [.list false 1 (List.map (rL false 1 (rK .i64)) a0)]=List.map (rL false 1 (rL false 1 (rK .i64))) (l.set i a0)) ∧
 (∀ (l:List (List (List Int))) (a0:List (List Int)),List.map (rL false 1 (rL false 1 (rK .i64))) l++[[.list false 1 (List.map (rL false 1 (rK .i64)) a0)]]=List.map (rL false 1 (rL false 1 (rK .i64))) (l++[a0])) ∧
 (∀ (l:List (List (List Int))) (i:Nat),(List.map (rL true 1 (rL true 1 (rK .i64))) l).set i [.list true 1 []]=List.map (rL true 1 (rL true 1 (rK .i64))) (l.set i [])) ∧
 (∀ (l:List (List (List Int))),List.map (rL true 1 (rL true 1 (rK .i64))) l++[[.list true 1 []]]=List.map (rL true 1 (rL true 1 (rK .i64))) (l++[[]])) ∧
 (∀ l:List (List (List Int)),qF (List.map (rL true 1 (rL true 1 (rK .i64))) l)=List.map (rL false 1 (rL false 1 (rK .i64))) l) ∧
 (∀ l:List (List (List Int)),qR (List.map (rL true 1 (rL true 1 (rK .i64))) l)=true) ∧
 (∀ l:List (List (List Int)),qF (List.map (rL false 1 (rL false 1 (rK .i64))) l)=List.map (rL false 1 (rL false 1 (rK .i64))) l) ∧
 (∀ l:List (List (List Int)),qR (List.map (rL false 1 (rL false 1 (rK .i64))) l)=true) ∧
 (∀ l:List (List (List Int)),qP (List.map (rL true 1 (rL true 1 (rK .i64))) l)=true):=
 ⟨fun l i a0=>qO (rL true 1 (rL true 1 (rK .i64))) l i a0,
 fun l a0=>qG (rL true 1 (rL true 1 (rK .i64))) l [a0],
 fun l i a0=>qO (rL false 1 (rL false 1 (rK .i64))) l i a0,
 fun l a0=>qG (rL false 1 (rL false 1 (rK .i64))) l [a0],
 fun l i=>qO (rL true 1 (rL true 1 (rK .i64))) l i [],
 fun l=>qG (rL true 1 (rL true 1 (rK .i64))) l [[]],
 qH (bor_rL (bor_rL (fun _=>rfl))),
 alRows (fun _=>rfl),
 qH (bor_rL (bor_rL (fun _=>rfl))),
 alRows (fun _=>rfl),
 nb_rows (nb_rL (nb_rL (fun _=>rfl)))⟩
end Go.TV
namespace Go.TV.F
noncomputable def laws_szIntS (a:List Int) (left:Int):Option Int:=
 (if (decide ((wk .i64 (left - (a.length:Int))) < 0)) then some (-1)
 else some (wk .i64 (left - (a.length:Int))))
noncomputable def laws_szName (a:T_laws_Name) (left:Int):Option Int:=
 (if (decide ((wk .i64 (left - (a.Path.size:Int))) < 0)) then some (-1)
 else some (wk .i64 (left - (a.Path.size:Int))))
noncomputable def laws_szNameS_j1 (left_1:Int):Option (Int):=
 some left_1
noncomputable def laws_szNameS_l1 (a:List T_laws_Name) (left_2:Int) (i:Int):Option ((Int×Int)⊕((Int)⊕(Int))):=
 (if (decide (i < (a.length:Int))) then (zX a i).bind fun x=>(laws_szName (T_laws_Name.mk x.Path x.Id x.Version) left_2).bind fun x23=>(if (decide (x23 < 0)) then some (.inr (.inl (-1)))
 else some (.inl (x23,(wk .i64 (i+1)))))
 else some (.inr (.inr left_2)))
noncomputable def laws_szNameS (a:List T_laws_Name) (left:Int):Option Int:=
 (if (decide ((wk .i64 (left - (a.length:Int))) < 0)) then some (-1)
 else (zW (fun (s':Int×Int)=>laws_szNameS_l1 a s'.1 s'.2) ((wk .i64 (left - (a.length:Int))),0)).bind fun p=>(match p with | .inl c'=>some c' | .inr q=>laws_szNameS_j1 q))
noncomputable def laws_szCommit (a:T_laws_Commit) (left:Int):Option Int:=
 (laws_szIntS a.Parents left).bind fun x8=>(if (decide (x8 < 0)) then some (-1)
 else (if (decide ((wk .i64 (x8 - (a.Note.size:Int))) < 0)) then some (-1)
 else (laws_szNameS a.Names (wk .i64 (x8 - (a.Note.size:Int)))).bind fun x21=>(if (decide (x21 < 0)) then some (-1)
 else some x21)))
noncomputable def laws_szCommitS_j1 (left_1:Int):Option (Int):=
 some left_1
noncomputable def jP (a:List T_laws_Commit) (left_2:Int) (i:Int):Option ((Int×Int)⊕((Int)⊕(Int))):=
 (if (decide (i < (a.length:Int))) then (zX a i).bind fun x=>(laws_szCommit (T_laws_Commit.mk x.Parents x.Note x.Names) left_2).bind fun x23=>(if (decide (x23 < 0)) then some (.inr (.inl (-1)))
 else some (.inl (x23,(wk .i64 (i+1)))))
 else some (.inr (.inr left_2)))
noncomputable def laws_szCommitS (a:List T_laws_Commit) (left:Int):Option Int:=
 (if (decide ((wk .i64 (left - (a.length:Int))) < 0)) then some (-1)
 else (zW (fun (s':Int×Int)=>jP a s'.1 s'.2) ((wk .i64 (left - (a.length:Int))),0)).bind fun p=>(match p with | .inl c'=>some c' | .inr q=>laws_szCommitS_j1 q))
noncomputable def laws_szIntSS_j1 (left_1:Int):Option (Int):=
 some left_1
noncomputable def laws_szIntSS_l1 (a:List (List Int)) (left_2:Int) (i:Int):Option ((Int×Int)⊕((Int)⊕(Int))):=
 (if (decide (i < (a.length:Int))) then (zX a i).bind fun x=>(laws_szIntS x left_2).bind fun x23=>(if (decide (x23 < 0)) then some (.inr (.inl (-1)))
 else some (.inl (x23,(wk .i64 (i+1)))))
 else some (.inr (.inr left_2)))
noncomputable def laws_szIntSS (a:List (List Int)) (left:Int):Option Int:=
 (if (decide ((wk .i64 (left - (a.length:Int))) < 0)) then some (-1)
 else (zW (fun (s':Int×Int)=>laws_szIntSS_l1 a s'.1 s'.2) ((wk .i64 (left - (a.length:Int))),0)).bind fun p=>(match p with | .inl c'=>some c' | .inr q=>laws_szIntSS_j1 q))
noncomputable def laws_szBody (a:T_laws_Body) (left:Int):Option Int:=
 (if (decide ((wk .i64 (left - (a.Line.size:Int))) < 0)) then some (-1)
 else (laws_szIntS a.Dels (wk .i64 (left - (a.Line.size:Int)))).bind fun x15=>(if (decide (x15 < 0)) then some (-1)
 else some x15))
noncomputable def laws_szBodyS_j1 (left_1:Int):Option (Int):=
 some left_1
noncomputable def laws_szBodyS_l1 (a:List T_laws_Body) (left_2:Int) (i:Int):Option ((Int×Int)⊕((Int)⊕(Int))):=
 (if (decide (i < (a.length:Int))) then (zX a i).bind fun x=>(laws_szBody (T_laws_Body.mk x.Line x.Ins x.Ord x.Dels) left_2).bind fun x23=>(if (decide (x23 < 0)) then some (.inr (.inl (-1)))
 else some (.inl (x23,(wk .i64 (i+1)))))
 else some (.inr (.inr left_2)))
noncomputable def laws_szBodyS (a:List T_laws_Body) (left:Int):Option Int:=
 (if (decide ((wk .i64 (left - (a.length:Int))) < 0)) then some (-1)
 else (zW (fun (s':Int×Int)=>laws_szBodyS_l1 a s'.1 s'.2) ((wk .i64 (left - (a.length:Int))),0)).bind fun p=>(match p with | .inl c'=>some c' | .inr q=>laws_szBodyS_j1 q))
noncomputable def laws_szWeave (a:T_laws_Weave) (left:Int):Option Int:=
 (laws_szIntSS a.Parents left).bind fun x8=>(if (decide (x8 < 0)) then some (-1)
 else (laws_szBodyS a.Bodies x8).bind fun x14=>(if (decide (x14 < 0)) then some (-1)
 else some x14))
noncomputable def laws_szWeaveS_j1 (left_1:Int):Option (Int):=
 some left_1
noncomputable def laws_szWeaveS_l1 (a:List T_laws_Weave) (left_2:Int) (i:Int):Option ((Int×Int)⊕((Int)⊕(Int))):=
 (if (decide (i < (a.length:Int))) then (zX a i).bind fun x=>(laws_szWeave (T_laws_Weave.mk x.Parents x.Bodies) left_2).bind fun x23=>(if (decide (x23 < 0)) then some (.inr (.inl (-1)))
 else some (.inl (x23,(wk .i64 (i+1)))))
 else some (.inr (.inr left_2)))
noncomputable def laws_szWeaveS (a:List T_laws_Weave) (left:Int):Option Int:=
 (if (decide ((wk .i64 (left - (a.length:Int))) < 0)) then some (-1)
 else (zW (fun (s':Int×Int)=>laws_szWeaveS_l1 a s'.1 s'.2) ((wk .i64 (left - (a.length:Int))),0)).bind fun p=>(match p with | .inl c'=>some c' | .inr q=>laws_szWeaveS_j1 q))
noncomputable def laws_szStore (a:T_laws_Store) (left:Int):Option Int:=
 (laws_szCommitS a.Commits left).bind fun x8=>(if (decide (x8 < 0)) then some (-1)
 else (laws_szWeaveS a.Files x8).bind fun x14=>(if (decide (x14 < 0)) then some (-1)
 else some x14))
noncomputable def laws_toIntS_j1 (out_:List Int):Option ((List Int)):=
 some out_
noncomputable def laws_toIntS_l1 (a:List Int) (i:Int) (out__1:List Int):Option ((Int×(List Int))⊕((List Int))):=
 (if (decide (i < (a.length:Int))) then (zX a i).bind fun x=>(zX out__1 i).bind fun x_1=>some (.inl ((wk .i64 (i+1)),(out__1.set i.toNat x)))
 else some (.inr out__1))
noncomputable def laws_toIntS (a:List Int):Option (List Int):=
 ((mkl (a.length:Int) (a.length:Int) 0:Option (List Int))).bind fun x7=>(zW (fun (s':Int×(List Int))=>laws_toIntS_l1 a s'.1 s'.2) (0,x7)).bind fun p=>laws_toIntS_j1 p
noncomputable def laws_toName (a:T_laws_Name):Option T_impl_Name:=
 some (T_impl_Name.mk a.Path a.Id a.Version)
noncomputable def laws_toNameS_j1 (out_:List T_impl_Name):Option ((List T_impl_Name)):=
 some out_
noncomputable def laws_toNameS_l1 (a:List T_laws_Name) (i:Int) (out__1:List T_impl_Name):Option ((Int×(List T_impl_Name))⊕((List T_impl_Name))):=
 (if (decide (i < (a.length:Int))) then (zX a i).bind fun x=>(laws_toName (T_laws_Name.mk x.Path x.Id x.Version)).bind fun x20=>(zX out__1 i).bind fun x_1=>some (.inl ((wk .i64 (i+1)),(out__1.set i.toNat (T_impl_Name.mk x20.Path x20.Id x20.Version))))
 else some (.inr out__1))
noncomputable def laws_toNameS (a:List T_laws_Name):Option (List T_impl_Name):=
 ((mkl (a.length:Int) (a.length:Int) (T_impl_Name.mk (ByteArray.mk #[]) 0 0):Option (List T_impl_Name))).bind fun x7=>(zW (fun (s':Int×(List T_impl_Name))=>laws_toNameS_l1 a s'.1 s'.2) (0,x7)).bind fun p=>laws_toNameS_j1 p
noncomputable def laws_toCommit (a:T_laws_Commit):Option T_impl_Commit:=
 (laws_toIntS a.Parents).bind fun x6=>(laws_toNameS a.Names).bind fun x13=>some (T_impl_Commit.mk x6 a.Note x13)
noncomputable def laws_toCommitS_j1 (out_:List T_impl_Commit):Option ((List T_impl_Commit)):=
 some out_
noncomputable def jR (a:List T_laws_Commit) (i:Int) (out__1:List T_impl_Commit):Option ((Int×(List T_impl_Commit))⊕((List T_impl_Commit))):=
 (if (decide (i < (a.length:Int))) then (zX a i).bind fun x=>(laws_toCommit (T_laws_Commit.mk x.Parents x.Note x.Names)).bind fun x20=>(zX out__1 i).bind fun x_1=>some (.inl ((wk .i64 (i+1)),(out__1.set i.toNat (T_impl_Commit.mk x20.Parents x20.Note x20.Names))))
 else some (.inr out__1))
noncomputable def laws_toCommitS (a:List T_laws_Commit):Option (List T_impl_Commit):=
 ((mkl (a.length:Int) (a.length:Int) (T_impl_Commit.mk [] (ByteArray.mk #[]) []):Option (List T_impl_Commit))).bind fun x7=>(zW (fun (s':Int×(List T_impl_Commit))=>jR a s'.1 s'.2) (0,x7)).bind fun p=>laws_toCommitS_j1 p
noncomputable def laws_toIntSS_j1 (out_:List (List Int)):Option ((List (List Int))):=
 some out_
noncomputable def laws_toIntSS_l1 (a:List (List Int)) (i:Int) (out__1:List (List Int)):Option ((Int×(List (List Int)))⊕((List (List Int)))):=
 (if (decide (i < (a.length:Int))) then (zX a i).bind fun x=>(laws_toIntS x).bind fun x20=>(zX out__1 i).bind fun x_1=>some (.inl ((wk .i64 (i+1)),(out__1.set i.toNat x20)))
 else some (.inr out__1))
noncomputable def laws_toIntSS (a:List (List Int)):Option (List (List Int)):=
 ((mkl (a.length:Int) (a.length:Int) []:Option (List (List Int)))).bind fun x7=>(zW (fun (s':Int×(List (List Int)))=>laws_toIntSS_l1 a s'.1 s'.2) (0,x7)).bind fun p=>laws_toIntSS_j1 p
noncomputable def laws_toBody (a:T_laws_Body):Option T_impl_Body:=
 (laws_toIntS a.Dels).bind fun x15=>some (T_impl_Body.mk a.Line a.Ins a.Ord x15)
noncomputable def laws_toBodyS_j1 (out_:List T_impl_Body):Option ((List T_impl_Body)):=
 some out_
noncomputable def laws_toBodyS_l1 (a:List T_laws_Body) (i:Int) (out__1:List T_impl_Body):Option ((Int×(List T_impl_Body))⊕((List T_impl_Body))):=
 (if (decide (i < (a.length:Int))) then (zX a i).bind fun x=>(laws_toBody (T_laws_Body.mk x.Line x.Ins x.Ord x.Dels)).bind fun x20=>(zX out__1 i).bind fun x_1=>some (.inl ((wk .i64 (i+1)),(out__1.set i.toNat (T_impl_Body.mk x20.Line x20.Ins x20.Ord x20.Dels))))
 else some (.inr out__1))
noncomputable def laws_toBodyS (a:List T_laws_Body):Option (List T_impl_Body):=
 ((mkl (a.length:Int) (a.length:Int) (T_impl_Body.mk (ByteArray.mk #[]) 0 0 []):Option (List T_impl_Body))).bind fun x7=>(zW (fun (s':Int×(List T_impl_Body))=>laws_toBodyS_l1 a s'.1 s'.2) (0,x7)).bind fun p=>laws_toBodyS_j1 p
noncomputable def laws_toWeave (a:T_laws_Weave):Option T_impl_Weave:=
 (laws_toIntSS a.Parents).bind fun x6=>(laws_toBodyS a.Bodies).bind fun x10=>some (T_impl_Weave.mk x6 x10)
noncomputable def laws_toWeaveS_j1 (out_:List T_impl_Weave):Option ((List T_impl_Weave)):=
 some out_
noncomputable def laws_toWeaveS_l1 (a:List T_laws_Weave) (i:Int) (out__1:List T_impl_Weave):Option ((Int×(List T_impl_Weave))⊕((List T_impl_Weave))):=
 (if (decide (i < (a.length:Int))) then (zX a i).bind fun x=>(laws_toWeave (T_laws_Weave.mk x.Parents x.Bodies)).bind fun x20=>(zX out__1 i).bind fun x_1=>some (.inl ((wk .i64 (i+1)),(out__1.set i.toNat (T_impl_Weave.mk x20.Parents x20.Bodies))))
 else some (.inr out__1))
noncomputable def laws_toWeaveS (a:List T_laws_Weave):Option (List T_impl_Weave):=
 ((mkl (a.length:Int) (a.length:Int) (T_impl_Weave.mk [] []):Option (List T_impl_Weave))).bind fun x7=>(zW (fun (s':Int×(List T_impl_Weave))=>laws_toWeaveS_l1 a s'.1 s'.2) (0,x7)).bind fun p=>laws_toWeaveS_j1 p
noncomputable def laws_toStore (a:T_laws_Store):Option T_impl_Store:=
 (laws_toCommitS a.Commits).bind fun x6=>(laws_toWeaveS a.Files).bind fun x10=>some (T_impl_Store.mk x6 x10)
noncomputable def spec_l01In (x:Int) (least:Int) (most:Int):Option Bool:=
 (if (decide (x≥least)) then some (decide (x≤most)) else some false).bind fun b=>some b
noncomputable def spec_l05Rise_j1:Option (Bool):=
 some true
noncomputable def jG (list_:List Int) (n:Int) (i:Int):Option ((Int)⊕((Bool)⊕(Unit))):=
 (if (decide (i < (list_.length:Int))) then (zX list_ i).bind fun x=>(spec_l01In x 0 (wk .i64 (n - 1))).bind fun x18=>(if (!x18) then some true else (if (decide (i > 0)) then (zX list_ (wk .i64 (i - 1))).bind fun x_1=>some (decide (x_1≥x)) else some false).bind fun b_1=>some b_1).bind fun b=>(if b then some (.inr (.inl false))
 else some (.inl (wk .i64 (i+1))))
 else some (.inr (.inr ())))
noncomputable def spec_l05Rise (list_:List Int) (n:Int):Option Bool:=
 (zW (fun (s':Int)=>jG list_ n s') (0)).bind fun p=>(match p with | .inl c'=>some c' | .inr q=>spec_l05Rise_j1)
noncomputable def spec_GraphOk_j1:Option (Bool):=
 some true
noncomputable def jI (parents:List (List Int)) (v:Int):Option ((Int)⊕((Bool)⊕(Unit))):=
 (if (decide (v < (parents.length:Int))) then (zX parents v).bind fun x=>(if (decide ((x.length:Int) > 4)) then some true else (spec_l05Rise x v).bind fun x25=>some (!x25)).bind fun b=>(if b then some (.inr (.inl false))
 else some (.inl (wk .i64 (v+1))))
 else some (.inr (.inr ())))
noncomputable def spec_GraphOk (parents:List (List Int)):Option Bool:=
 (if (decide ((parents.length:Int) > 40)) then some false
 else (zW (fun (s':Int)=>jI parents s') (0)).bind fun p=>(match p with | .inl c'=>some c' | .inr q=>spec_GraphOk_j1))
noncomputable def spec_l05Set_j2 (in__1:List Bool):Option ((List Bool)):=
 some in__1
noncomputable def spec_l05Set_j3 (v:Int) (in__3:List Bool):Option ((Int×(List Bool))⊕((List Bool))):=
 some (.inl ((wk .i64 (v - 1)),in__3))
noncomputable def spec_l05Set_l2 (parents:List (List Int)) (v:Int) (k:Int) (in__4:List Bool):Option ((Int×(List Bool))⊕((List Bool))):=
 (zX parents v).bind fun x=>(if (decide (k < (x.length:Int))) then (zX in__4 v).bind fun x_1=>some x_1 else some false).bind fun b=>(if b then (zX parents v).bind fun x_2=>(zX x_2 k).bind fun x_3=>(zX in__4 x_3).bind fun x_4=>some (.inl ((wk .i64 (k+1)),(in__4.set x_3.toNat true)))
 else some (.inr in__4))
noncomputable def spec_l05Set_l1 (parents:List (List Int)) (v:Int) (in__2:List Bool):Option ((Int×(List Bool))⊕((List Bool))):=
 (if (decide (v≥0)) then (zW (fun (s':Int×(List Bool))=>spec_l05Set_l2 parents v s'.1 s'.2) (0,in__2)).bind fun p_1=>spec_l05Set_j3 v p_1
 else some (.inr in__2))
noncomputable def spec_l05Set_j1 (parents:List (List Int)) (in_:List Bool):Option ((List Bool)):=
 (zW (fun (s':Int×(List Bool))=>spec_l05Set_l1 parents s'.1 s'.2) ((wk .i64 ((parents.length:Int) - 1)),in_)).bind fun p=>spec_l05Set_j2 p
noncomputable def spec_l05Set_l3 (parents:List (List Int)) (list_:List Int) (i:Int) (in__5:List Bool):Option ((Int×(List Bool))⊕((List Bool))):=
 (if (decide (i < (list_.length:Int))) then (zX list_ i).bind fun x_5=>(spec_l01In x_5 0 (wk .i64 ((parents.length:Int) - 1))).bind fun x25=>(if x25 then (zX in__5 x_5).bind fun x_6=>some (.inl ((wk .i64 (i+1)),(in__5.set x_5.toNat true)))
 else some (.inl ((wk .i64 (i+1)),in__5)))
 else some (.inr in__5))
noncomputable def spec_l05Set (parents:List (List Int)) (list_:List Int):Option (List Bool):=
 ((mkl (parents.length:Int) (parents.length:Int) false:Option (List Bool))).bind fun x11=>(zW (fun (s':Int×(List Bool))=>spec_l05Set_l3 parents list_ s'.1 s'.2) (0,x11)).bind fun p_2=>spec_l05Set_j1 parents p_2
noncomputable def spec_LineOk_j1 (line:ByteArray):Option (Bool):=
 some (decide ((line.size:Int)≤60))
noncomputable def spec_LineOk_l1 (line:ByteArray) (i:Int):Option ((Int)⊕((Bool)⊕(Unit))):=
 (if (decide (i < (line.size:Int))) then (sidx line i).bind fun x12=>(if (x12 == 10) then some (.inr (.inl false))
 else some (.inl (wk .i64 (i+1))))
 else some (.inr (.inr ())))
noncomputable def spec_LineOk (line:ByteArray):Option Bool:=
 (zW (fun (s':Int)=>spec_LineOk_l1 line s') (0)).bind fun p=>(match p with | .inl c'=>some c' | .inr q=>spec_LineOk_j1 line)
noncomputable def spec_l06Live_j1:Option (Bool):=
 some true
noncomputable def spec_l06Live_l1 (b:T_impl_Body) (in_:List Bool) (i:Int):Option ((Int)⊕((Bool)⊕(Unit))):=
 (if (decide (i < (b.Dels.length:Int))) then (zX b.Dels i).bind fun x_1=>(spec_l01In x_1 0 (wk .i64 ((in_.length:Int) - 1))).bind fun x36=>(if x36 then (zX in_ x_1).bind fun x_2=>some x_2 else some false).bind fun b_2=>(if b_2 then some (.inr (.inl false))
 else some (.inl (wk .i64 (i+1))))
 else some (.inr (.inr ())))
noncomputable def spec_l06Live (b:T_impl_Body) (in_:List Bool):Option Bool:=
 (spec_l01In b.Ins 0 (wk .i64 ((in_.length:Int) - 1))).bind fun x11=>(if (!x11) then some true else (zX in_ b.Ins).bind fun x=>some (!x)).bind fun b_1=>(if b_1 then some false
 else (zW (fun (s':Int)=>spec_l06Live_l1 b in_ s') (0)).bind fun p=>(match p with | .inl c'=>some c' | .inr q=>spec_l06Live_j1))
noncomputable def spec_l06Closure (w:T_impl_Weave) (v:Int):Option (List Bool):=
 (spec_l05Set w.Parents [v]).bind fun x9=>some x9
noncomputable def spec_l06Places_j1 (out_:List Int):Option ((List Int)):=
 some out_
noncomputable def jO (w:T_impl_Weave) (in_:List Bool) (i:Int) (out__1:List Int):Option ((Int×(List Int))⊕((List Int))):=
 (if (decide (i < (w.Bodies.length:Int))) then (zX w.Bodies i).bind fun x=>(spec_l06Live (T_impl_Body.mk x.Line x.Ins x.Ord x.Dels) in_).bind fun x21=>(if x21 then (appn out__1 [i]).bind fun l=>some (.inl ((wk .i64 (i+1)),l))
 else some (.inl ((wk .i64 (i+1)),out__1)))
 else some (.inr out__1))
noncomputable def spec_l06Places (w:T_impl_Weave) (in_:List Bool):Option (List Int):=
 (zW (fun (s':Int×(List Int))=>jO w in_ s'.1 s'.2) (0,[])).bind fun p=>spec_l06Places_j1 p
noncomputable def spec_WeaveOk_j3:Option (Bool):=
 some true
noncomputable def spec_WeaveOk_l1 (w:T_impl_Weave) (born:List Int) (v:Int):Option ((Int)⊕((Bool)⊕(Unit))):=
 (if (decide (v < (w.Parents.length:Int))) then (zX born v).bind fun x=>(if (decide (x > 80)) then some true else (spec_l06Closure (T_impl_Weave.mk w.Parents w.Bodies) v).bind fun x126=>(spec_l06Places (T_impl_Weave.mk w.Parents w.Bodies) x126).bind fun x127=>some (decide ((x127.length:Int) > 80))).bind fun b_1=>(if b_1 then some (.inr (.inl false))
 else some (.inl (wk .i64 (v+1))))
 else some (.inr (.inr ())))
noncomputable def spec_WeaveOk_j2 (w:T_impl_Weave) (born:List Int):Option (Bool):=
 (zW (fun (s':Int)=>spec_WeaveOk_l1 w born s') (0)).bind fun p=>(match p with | .inl c'=>some c' | .inr q=>spec_WeaveOk_j3)
noncomputable def spec_WeaveOk_j4 (i:Int) (born_2:List Int):Option ((Int×(List Int))⊕((Bool)⊕((List Int)))):=
 some (.inl ((wk .i64 (i+1)),born_2))
noncomputable def spec_WeaveOk_l3 (proper:List (List Bool)) (x_1:T_impl_Body) (k:Int):Option ((Int)⊕(((Int×(List Int))⊕((Bool)⊕((List Int))))⊕(Unit))):=
 (if (decide (k < (x_1.Dels.length:Int))) then (zX x_1.Dels k).bind fun x_4=>(zX proper x_4).bind fun x_5=>(spec_l06Live (T_impl_Body.mk x_1.Line x_1.Ins x_1.Ord x_1.Dels) x_5).bind fun x110=>(if (!x110) then some (.inr (.inl (.inr (.inl false))))
 else some (.inl (wk .i64 (k+1))))
 else some (.inr (.inr ())))
noncomputable def jD (w:T_impl_Weave) (proper:List (List Bool)) (i:Int) (born_1:List Int):Option ((Int×(List Int))⊕((Bool)⊕((List Int)))):=
 (if (decide (i < (w.Bodies.length:Int))) then (zX w.Bodies i).bind fun x_1=>(spec_LineOk x_1.Line).bind fun x57=>(if (!x57) then some true else (spec_l01In x_1.Ins 0 (wk .i64 ((w.Parents.length:Int) - 1))).bind fun x64=>some (!x64)).bind fun b_2=>(if b_2 then some true else (zX born_1 x_1.Ins).bind fun x_2=>some (x_1.Ord != x_2)).bind fun b_3=>(if b_3 then some true else (spec_l05Rise x_1.Dels (w.Parents.length:Int)).bind fun x81=>some (!x81)).bind fun b_4=>(if b_4 then some (.inr (.inl false))
 else (zX born_1 x_1.Ins).bind fun x_3=>(zW (fun (s':Int)=>spec_WeaveOk_l3 proper x_1 s') (0)).bind fun p_2=>(match p_2 with | .inl c'=>some c' | .inr q_1=>spec_WeaveOk_j4 i (born_1.set x_1.Ins.toNat (wk .i64 (x_3+1)))))
 else some (.inr (.inr born_1)))
noncomputable def spec_WeaveOk_j1 (w:T_impl_Weave) (x25:List Int) (proper:List (List Bool)):Option (Bool):=
 (zW (fun (s':Int×(List Int))=>jD w proper s'.1 s'.2) (0,x25)).bind fun p_1=>(match p_1 with | .inl c'=>some c' | .inr q_2=>spec_WeaveOk_j2 w q_2)
noncomputable def spec_WeaveOk_l4 (w:T_impl_Weave) (v_1:Int) (proper_1:List (List Bool)):Option ((Int×(List (List Bool)))⊕((List (List Bool)))):=
 (if (decide (v_1 < (w.Parents.length:Int))) then (zX w.Parents v_1).bind fun x_6=>(spec_l05Set w.Parents x_6).bind fun x40=>(appn proper_1 [x40]).bind fun l=>some (.inl ((wk .i64 (v_1+1)),l))
 else some (.inr proper_1))
noncomputable def spec_WeaveOk (w:T_impl_Weave):Option Bool:=
 (spec_GraphOk w.Parents).bind fun x13=>(if (!x13) then some true else some (decide ((w.Bodies.length:Int) > 300))).bind fun b=>(if b then some false
 else ((mkl (w.Parents.length:Int) (w.Parents.length:Int) 0:Option (List Int))).bind fun x25=>(zW (fun (s':Int×(List (List Bool)))=>spec_WeaveOk_l4 w s'.1 s'.2) (0,[])).bind fun p_3=>spec_WeaveOk_j1 w x25 p_3)
noncomputable def spec_l15Versions_j1 (out_:List Int):Option ((List Int)):=
 some out_
noncomputable def spec_l15Versions_l1 (s:T_impl_Store) (i:Int) (out__1:List Int):Option ((Int×(List Int))⊕((List Int))):=
 (if (decide (i < (s.Files.length:Int))) then (zX s.Files i).bind fun x=>(appn out__1 [(x.Parents.length:Int)]).bind fun l=>some (.inl ((wk .i64 (i+1)),l))
 else some (.inr out__1))
noncomputable def spec_l15Versions (s:T_impl_Store):Option (List Int):=
 (zW (fun (s':Int×(List Int))=>spec_l15Versions_l1 s s'.1 s'.2) (0,[])).bind fun p=>spec_l15Versions_j1 p
noncomputable def spec_l14Graph_j1 (out_:List (List Int)):Option ((List (List Int))):=
 some out_
noncomputable def spec_l14Graph_l1 (list_:List T_impl_Commit) (i:Int) (out__1:List (List Int)):Option ((Int×(List (List Int)))⊕((List (List Int)))):=
 (if (decide (i < (list_.length:Int))) then (zX list_ i).bind fun x=>(appn out__1 [x.Parents]).bind fun l=>some (.inl ((wk .i64 (i+1)),l))
 else some (.inr out__1))
noncomputable def spec_l14Graph (list_:List T_impl_Commit):Option (List (List Int)):=
 (zW (fun (s':Int×(List (List Int)))=>spec_l14Graph_l1 list_ s'.1 s'.2) (0,[])).bind fun p=>spec_l14Graph_j1 p
noncomputable def spec_NoteOk_j1 (note:ByteArray):Option (Bool):=
 some (decide ((note.size:Int)≤40))
noncomputable def spec_NoteOk_l1 (note:ByteArray) (i:Int):Option ((Int)⊕((Bool)⊕(Unit))):=
 (if (decide (i < (note.size:Int))) then some (decide ((note.size:Int)≤40)) else some false).bind fun b=>(if b then (sidx note i).bind fun x17=>(if (decide (x17 < 32)) then some true else some (decide (x17 > 126))).bind fun b_1=>(if b_1 then some (.inr (.inl false))
 else some (.inl (wk .i64 (i+1))))
 else some (.inr (.inr ())))
noncomputable def spec_NoteOk (note:ByteArray):Option Bool:=
 (zW (fun (s':Int)=>spec_NoteOk_l1 note s') (0)).bind fun p=>(match p with | .inl c'=>some c' | .inr q=>spec_NoteOk_j1 note)
noncomputable def spec_PathOk_j1:Option (Bool):=
 some true
noncomputable def spec_PathOk_l1 (path:ByteArray) (i:Int):Option ((Int)⊕((Bool)⊕(Unit))):=
 (if (decide (i < (path.size:Int))) then (sidx path i).bind fun x30=>(if (decide (x30≥97)) then some (decide (x30≤122)) else some false).bind fun b_2=>(if b_2 then some true else (if (decide (x30≥48)) then some (decide (x30≤57)) else some false).bind fun b_4=>some b_4).bind fun b_3=>(if b_3 then some true else some (x30 == 46)).bind fun b_5=>(if b_5 then some true else some (x30 == 45)).bind fun b_6=>(if b_6 then some true else some (x30 == 47)).bind fun b_7=>(if (!b_7) then some true else (if (decide (i > 0)) then some (x30 == 47) else some false).bind fun b_9=>(if b_9 then (sidx path (wk .i64 (i - 1))).bind fun x69=>some (x69 == 47) else some false).bind fun b_10=>some b_10).bind fun b_8=>(if b_8 then some (.inr (.inl false))
 else some (.inl (wk .i64 (i+1))))
 else some (.inr (.inr ())))
noncomputable def spec_PathOk (path:ByteArray):Option Bool:=
 (spec_l01In (path.size:Int) 1 24).bind fun x9=>(if (!x9) then some true else (sidx path 0).bind fun x13=>some (x13 == 47)).bind fun b=>(if b then some true else (sidx path (wk .i64 ((path.size:Int) - 1))).bind fun x20=>some (x20 == 47)).bind fun b_1=>(if b_1 then some false
 else (zW (fun (s':Int)=>spec_PathOk_l1 path s') (0)).bind fun p=>(match p with | .inl c'=>some c' | .inr q=>spec_PathOk_j1))
noncomputable def spec_NamesOk_j1:Option (Bool):=
 some true
noncomputable def spec_NamesOk_j2 (i:Int):Option ((Int)⊕((Bool)⊕(Unit))):=
 some (.inl (wk .i64 (i+1)))
noncomputable def spec_NamesOk_l2 (list_:List T_impl_Name) (i:Int) (x:T_impl_Name) (k:Int):Option ((Int)⊕(((Int)⊕((Bool)⊕(Unit)))⊕(Unit))):=
 (if (decide (k < i)) then (zX list_ k).bind fun x_2=>(if (x_2.Id == x.Id) then some (.inr (.inl (.inr (.inl false))))
 else some (.inl (wk .i64 (k+1))))
 else some (.inr (.inr ())))
noncomputable def spec_NamesOk_l1 (list_:List T_impl_Name) (i:Int):Option ((Int)⊕((Bool)⊕(Unit))):=
 (if (decide (i < (list_.length:Int))) then (zX list_ i).bind fun x=>(spec_PathOk x.Path).bind fun x21=>(if (!x21) then some true else (if (decide (i > 0)) then (zX list_ (wk .i64 (i - 1))).bind fun x_1=>some (!Op.bytesLess x_1.Path.toList x.Path.toList) else some false).bind fun b_1=>some b_1).bind fun b=>(if b then some true else (spec_l01In x.Id 0 11).bind fun x41=>some (!x41)).bind fun b_2=>(if b_2 then some true else (spec_l01In x.Version 0 39).bind fun x47=>some (!x47)).bind fun b_3=>(if b_3 then some (.inr (.inl false))
 else (zW (fun (s':Int)=>spec_NamesOk_l2 list_ i x s') (0)).bind fun p_1=>(match p_1 with | .inl c'=>some c' | .inr q=>spec_NamesOk_j2 i))
 else some (.inr (.inr ())))
noncomputable def spec_NamesOk (list_:List T_impl_Name):Option Bool:=
 (if (decide ((list_.length:Int) > 12)) then some false
 else (zW (fun (s':Int)=>spec_NamesOk_l1 list_ s') (0)).bind fun p=>(match p with | .inl c'=>some c' | .inr q_1=>spec_NamesOk_j1))
noncomputable def spec_CommitsOk_j2:Option (Bool):=
 some true
noncomputable def spec_CommitsOk_j3 (i:Int):Option ((Int)⊕((Bool)⊕(Unit))):=
 some (.inl (wk .i64 (i+1)))
noncomputable def spec_CommitsOk_l2 (list_:List T_impl_Commit) (versions:List Int) (i:Int) (k:Int):Option ((Int)⊕(((Int)⊕((Bool)⊕(Unit)))⊕(Unit))):=
 (zX list_ i).bind fun x_1=>(if (decide (k < (x_1.Names.length:Int))) then (zX x_1.Names k).bind fun x_2=>(if (decide (x_2.Id≥(versions.length:Int))) then some true else (zX versions x_2.Id).bind fun x_3=>some (decide (x_2.Version≥x_3))).bind fun b_3=>(if b_3 then some (.inr (.inl (.inr (.inl false))))
 else some (.inl (wk .i64 (k+1))))
 else some (.inr (.inr ())))
noncomputable def spec_CommitsOk_l1 (list_:List T_impl_Commit) (versions:List Int) (i:Int):Option ((Int)⊕((Bool)⊕(Unit))):=
 (if (decide (i < (list_.length:Int))) then (zX list_ i).bind fun x=>(spec_NoteOk x.Note).bind fun x46=>(if (!x46) then some true else (spec_NamesOk x.Names).bind fun x54=>some (!x54)).bind fun b_2=>(if b_2 then some (.inr (.inl false))
 else (zW (fun (s':Int)=>spec_CommitsOk_l2 list_ versions i s') (0)).bind fun p_1=>(match p_1 with | .inl c'=>some c' | .inr q=>spec_CommitsOk_j3 i))
 else some (.inr (.inr ())))
noncomputable def spec_CommitsOk_j1 (list_:List T_impl_Commit) (versions:List Int):Option (Bool):=
 (zW (fun (s':Int)=>spec_CommitsOk_l1 list_ versions s') (0)).bind fun p=>(match p with | .inl c'=>some c' | .inr q_1=>spec_CommitsOk_j2)
noncomputable def spec_CommitsOk_l3 (versions:List Int) (i_1:Int):Option ((Int)⊕((Bool)⊕(Unit))):=
 (if (decide (i_1 < (versions.length:Int))) then (zX versions i_1).bind fun x_4=>(spec_l01In x_4 0 40).bind fun x33=>(if (!x33) then some (.inr (.inl false))
 else some (.inl (wk .i64 (i_1+1))))
 else some (.inr (.inr ())))
noncomputable def spec_CommitsOk (list_:List T_impl_Commit) (versions:List Int):Option Bool:=
 (if (decide ((list_.length:Int) > 40)) then some true else some (decide ((versions.length:Int) > 12))).bind fun b=>(if b then some true else (spec_l14Graph list_).bind fun x19=>(spec_GraphOk x19).bind fun x20=>some (!x20)).bind fun b_1=>(if b_1 then some false
 else (zW (fun (s':Int)=>spec_CommitsOk_l3 versions s') (0)).bind fun p_2=>(match p_2 with | .inl c'=>some c' | .inr q_2=>spec_CommitsOk_j1 list_ versions))
noncomputable def spec_StoreOk_j1 (s:T_impl_Store):Option (Bool):=
 (spec_l15Versions (T_impl_Store.mk s.Commits s.Files)).bind fun x35=>(spec_CommitsOk s.Commits x35).bind fun x36=>some x36
noncomputable def spec_StoreOk_l1 (s:T_impl_Store) (i:Int):Option ((Int)⊕((Bool)⊕(Unit))):=
 (if (decide (i < (s.Files.length:Int))) then (zX s.Files i).bind fun x=>(spec_WeaveOk (T_impl_Weave.mk x.Parents x.Bodies)).bind fun x20=>(if (!x20) then some true else some ((x.Parents.length:Int) == 0)).bind fun b=>(if b then some (.inr (.inl false))
 else some (.inl (wk .i64 (i+1))))
 else some (.inr (.inr ())))
noncomputable def spec_StoreOk (s:T_impl_Store):Option Bool:=
 (if (decide ((s.Files.length:Int) > 12)) then some false
 else (zW (fun (s':Int)=>spec_StoreOk_l1 s s') (0)).bind fun p=>(match p with | .inl c'=>some c' | .inr q=>spec_StoreOk_j1 s))
noncomputable def spec_l15Has (s:T_impl_Store) (c:Int):Option Bool:=
 (spec_l01In c 0 (wk .i64 ((s.Commits.length:Int) - 1))).bind fun x10=>some x10
noncomputable def spec_NamesAt (s:T_impl_Store) (c:Int):Option ((List T_impl_Name)×Int):=
 (spec_StoreOk (T_impl_Store.mk s.Commits s.Files)).bind fun x7=>(if (!x7) then some ([],1)
 else (spec_l15Has (T_impl_Store.mk s.Commits s.Files) c).bind fun x12=>(if (!x12) then some ([],2)
 else (zX s.Commits c).bind fun x=>(appn ([]:List T_impl_Name) x.Names).bind fun l=>some (l,0)))
noncomputable def spec_l13Path_j1:Option (Int):=
 some (-1)
noncomputable def spec_l13Path_l1 (list_:List T_impl_Name) (path:ByteArray) (i:Int):Option ((Int)⊕((Int)⊕(Unit))):=
 (if (decide (i < (list_.length:Int))) then (zX list_ i).bind fun x=>(if (x.Path.toList == path.toList) then some (.inr (.inl i))
 else some (.inl (wk .i64 (i+1))))
 else some (.inr (.inr ())))
noncomputable def spec_l13Path (list_:List T_impl_Name) (path:ByteArray):Option Int:=
 (zW (fun (s':Int)=>spec_l13Path_l1 list_ path s') (0)).bind fun p=>(match p with | .inl c'=>some c' | .inr q=>spec_l13Path_j1)
noncomputable def spec_l15Find (s:T_impl_Store) (c:Int) (path:ByteArray):Option (T_impl_Name×Int):=
 (spec_NamesAt (T_impl_Store.mk s.Commits s.Files) c).bind fun x14=>(if (x14.2 != 0) then some ((T_impl_Name.mk (ByteArray.mk #[]) 0 0),x14.2)
 else (spec_l13Path x14.1 path).bind fun x23=>(if (decide (x23 < 0)) then some ((T_impl_Name.mk (ByteArray.mk #[]) 0 0),3)
 else (zX x14.1 x23).bind fun x=>some ((T_impl_Name.mk x.Path x.Id x.Version),0)))
noncomputable def spec_LogOf_j1 (out_:List Int):Option ((List Int)):=
 some out_
noncomputable def spec_LogOf_l1 (x28:(List Bool)) (v:Int) (out__1:List Int):Option ((Int×(List Int))⊕((List Int))):=
 (if (decide (v≥0)) then (zX x28 v).bind fun x=>(if x then (appn out__1 [v]).bind fun l=>some (.inl ((wk .i64 (v - 1)),l))
 else some (.inl ((wk .i64 (v - 1)),out__1)))
 else some (.inr out__1))
noncomputable def spec_LogOf (list_:List T_impl_Commit) (versions:List Int) (c:Int):Option (List Int):=
 (spec_CommitsOk list_ versions).bind fun x13=>(if (!x13) then some true else (spec_l01In c 0 (wk .i64 ((list_.length:Int) - 1))).bind fun x20=>some (!x20)).bind fun b=>(if b then some []
 else (spec_l14Graph list_).bind fun x25=>(spec_l05Set x25 [c]).bind fun x28=>(zW (fun (s':Int×(List Int))=>spec_LogOf_l1 x28 s'.1 s'.2) ((wk .i64 ((list_.length:Int) - 1)),[])).bind fun p=>spec_LogOf_j1 p)
noncomputable def spec_l13Id_j1:Option (Int):=
 some (-1)
noncomputable def spec_l13Id_l1 (list_:List T_impl_Name) (id:Int) (i:Int):Option ((Int)⊕((Int)⊕(Unit))):=
 (if (decide (i < (list_.length:Int))) then (zX list_ i).bind fun x=>(if (x.Id == id) then some (.inr (.inl i))
 else some (.inl (wk .i64 (i+1))))
 else some (.inr (.inr ())))
noncomputable def spec_l13Id (list_:List T_impl_Name) (id:Int):Option Int:=
 (zW (fun (s':Int)=>spec_l13Id_l1 list_ id s') (0)).bind fun p=>(match p with | .inl c'=>some c' | .inr q=>spec_l13Id_j1)
noncomputable def spec_l14Differs (a:List T_impl_Name) (b:List T_impl_Name) (id:Int):Option Bool:=
 (spec_l13Id a id).bind fun x11=>(spec_l13Id b id).bind fun x14=>(if (decide (x11 < 0)) then some true else some (decide (x14 < 0))).bind fun b_1=>(if b_1 then (if (decide (x11≥0)) then some true else some (decide (x14≥0))).bind fun b_2=>some b_2
 else (zX a x11).bind fun x=>(zX b x14).bind fun x_1=>some (!((x.Path.toList == x_1.Path.toList) && ((x.Id == x_1.Id) && (x.Version == x_1.Version)))))
noncomputable def spec_l14Touched_j1 (out_:List Int):Option ((List Int)):=
 some out_
noncomputable def spec_l14Touched_j2 (id:Int) (out__2:List Int):Option ((Int×(List Int))⊕((List Int))):=
 some (.inl ((wk .i64 (id+1)),out__2))
noncomputable def spec_l14Touched_j3 (id:Int) (out__1:List Int) (hit:Bool):Option ((Int×(List Int))⊕((List Int))):=
 (if hit then (appn out__1 [id]).bind fun l=>spec_l14Touched_j2 id l
 else spec_l14Touched_j2 id out__1)
noncomputable def spec_l14Touched_l2 (list_:List T_impl_Commit) (c:Int) (id:Int) (hit_1:Bool) (k:Int):Option ((Bool×Int)⊕(Bool)):=
 (zX list_ c).bind fun x_1=>(if (decide (k < (x_1.Parents.length:Int))) then (if hit_1 then some true else (zX x_1.Parents k).bind fun x_2=>(zX list_ x_2).bind fun x_3=>(spec_l14Differs x_1.Names x_3.Names id).bind fun x61=>some x61).bind fun b_1=>some (.inl (b_1,(wk .i64 (k+1))))
 else some (.inr hit_1))
noncomputable def spec_l14Touched_l1 (list_:List T_impl_Commit) (c:Int) (id:Int) (out__1:List Int):Option ((Int×(List Int))⊕((List Int))):=
 (if (decide (id < 12)) then (zX list_ c).bind fun x=>(if ((x.Parents.length:Int) == 0) then (spec_l13Id x.Names id).bind fun x28=>some (decide (x28≥0)) else some false).bind fun b=>(zW (fun (s':Bool×Int)=>spec_l14Touched_l2 list_ c id s'.1 s'.2) (b,0)).bind fun p_1=>spec_l14Touched_j3 id out__1 p_1
 else some (.inr out__1))
noncomputable def spec_l14Touched (list_:List T_impl_Commit) (c:Int):Option (List Int):=
 (zW (fun (s':Int×(List Int))=>spec_l14Touched_l1 list_ c s'.1 s'.2) (0,[])).bind fun p=>spec_l14Touched_j1 p
noncomputable def spec_l07In_j1:Option (Bool):=
 some false
noncomputable def spec_l07In_l1 (list_:List Int) (x:Int) (i:Int):Option ((Int)⊕((Bool)⊕(Unit))):=
 (if (decide (i < (list_.length:Int))) then (zX list_ i).bind fun x_1=>(if (x_1 == x) then some (.inr (.inl true))
 else some (.inl (wk .i64 (i+1))))
 else some (.inr (.inr ())))
noncomputable def spec_l07In (list_:List Int) (x:Int):Option Bool:=
 (zW (fun (s':Int)=>spec_l07In_l1 list_ x s') (0)).bind fun p=>(match p with | .inl c'=>some c' | .inr q=>spec_l07In_j1)
noncomputable def spec_FileLog_j1 (out_:List Int):Option ((List Int)×Int):=
 some (out_,0)
noncomputable def spec_FileLog_l1 (s:T_impl_Store) (x18:T_impl_Name×Int) (x30:(List Int)) (i:Int) (out__1:List Int):Option ((Int×(List Int))⊕((List Int))):=
 (if (decide (i < (x30.length:Int))) then (zX x30 i).bind fun x=>(spec_l14Touched s.Commits x).bind fun x43=>(spec_l07In x43 x18.1.Id).bind fun x46=>(if x46 then (zX x30 i).bind fun x_1=>(appn out__1 [x_1]).bind fun l=>some (.inl ((wk .i64 (i+1)),l))
 else some (.inl ((wk .i64 (i+1)),out__1)))
 else some (.inr out__1))
noncomputable def spec_FileLog (s:T_impl_Store) (path:ByteArray) (c:Int):Option ((List Int)×Int):=
 (spec_l15Find (T_impl_Store.mk s.Commits s.Files) c path).bind fun x18=>(if (x18.2 != 0) then some ([],x18.2)
 else (spec_l15Versions (T_impl_Store.mk s.Commits s.Files)).bind fun x28=>(spec_LogOf s.Commits x28 c).bind fun x30=>(zW (fun (s':Int×(List Int))=>spec_FileLog_l1 s x18 x30 s'.1 s'.2) (0,[])).bind fun p=>spec_FileLog_j1 p)
noncomputable def impl_inRange (n:Int) (least:Int) (most:Int):Option Bool:=
 (if (decide (n≥least)) then some (decide (n≤most)) else some false).bind fun b=>some b
noncomputable def impl_ascends_j1:Option (Bool):=
 some true
noncomputable def jH (list_:List Int) (below:Int) (x9:Int):Option ((Int)⊕((Bool)⊕(Unit))):=
 (if (decide (x9 < (list_.length:Int))) then (zX list_ x9).bind fun x=>(impl_inRange x 0 (wk .i64 (below - 1))).bind fun x17=>(if (!x17) then some true else (if (decide (x9 > 0)) then (zX list_ (wk .i64 (x9 - 1))).bind fun x_1=>some (decide (x≤x_1)) else some false).bind fun b_1=>some b_1).bind fun b=>(if b then some (.inr (.inl false))
 else some (.inl (wk .i64 (x9+1))))
 else some (.inr (.inr ())))
noncomputable def impl_ascends (list_:List Int) (below:Int):Option Bool:=
 (zW (fun (s':Int)=>jH list_ below s') (0)).bind fun p=>(match p with | .inl c'=>some c' | .inr q=>impl_ascends_j1)
noncomputable def impl_GraphOk_j1 (parents:List (List Int)):Option (Bool):=
 some (decide ((parents.length:Int)≤40))
noncomputable def jJ (parents:List (List Int)) (x7:Int):Option ((Int)⊕((Bool)⊕(Unit))):=
 (if (decide (x7 < (parents.length:Int))) then (zX parents x7).bind fun x=>(if (decide ((x.length:Int) > 4)) then some true else (impl_ascends x x7).bind fun x18=>some (!x18)).bind fun b=>(if b then some (.inr (.inl false))
 else some (.inl (wk .i64 (x7+1))))
 else some (.inr (.inr ())))
noncomputable def impl_GraphOk (parents:List (List Int)):Option Bool:=
 (zW (fun (s':Int)=>jJ parents s') (0)).bind fun p=>(match p with | .inl c'=>some c' | .inr q=>impl_GraphOk_j1 parents)
noncomputable def impl_unionOf_j1 (s:Int):Option (Int):=
 some s
noncomputable def impl_unionOf_l1 (closed:List Int) (list_:List Int) (s_1:Int) (x10:Int):Option ((Int×Int)⊕(Int)):=
 (if (decide (x10 < (list_.length:Int))) then (zX list_ x10).bind fun x=>(zX closed x).bind fun x_1=>some (.inl ((bits .or .u64 s_1 x_1),(wk .i64 (x10+1))))
 else some (.inr s_1))
noncomputable def impl_unionOf (closed:List Int) (list_:List Int):Option Int:=
 (zW (fun (s':Int×Int)=>impl_unionOf_l1 closed list_ s'.1 s'.2) (0,0)).bind fun p=>impl_unionOf_j1 p
noncomputable def impl_closures_j1 (out_:List Int):Option ((List Int)):=
 some out_
noncomputable def impl_closures_l1 (parents:List (List Int)) (x11:Int) (out__1:List Int):Option ((Int×(List Int))⊕((List Int))):=
 (if (decide (x11 < (parents.length:Int))) then (zX parents x11).bind fun x=>(impl_unionOf out__1 x).bind fun x20=>(chk (¬(wk .u64 x11) < 0)).bind fun u=>(zX out__1 x11).bind fun x_1=>some (.inl ((wk .i64 (x11+1)),(out__1.set x11.toNat (bits .or .u64 x20 (shlI .u64 1 (wk .u64 x11))))))
 else some (.inr out__1))
noncomputable def impl_closures (parents:List (List Int)):Option (List Int):=
 ((mkl (parents.length:Int) (parents.length:Int) 0:Option (List Int))).bind fun x8=>(zW (fun (s':Int×(List Int))=>impl_closures_l1 parents s'.1 s'.2) (0,x8)).bind fun p=>impl_closures_j1 p
noncomputable def strings_Contains (s:ByteArray) (x:ByteArray):Option Bool:=
 if s.size < 4294967281 then some (Go.Lib.contains s.data.toList x.data.toList) else none
noncomputable def impl_LineOk (line:ByteArray):Option Bool:=
 (if (decide ((line.size:Int)≤60)) then (strings_Contains line (ByteArray.mk #[10])).bind fun x8=>some (!x8) else some false).bind fun b=>some b
noncomputable def impl_isPlace (n:Int) (size:Int):Option Bool:=
 (impl_inRange n 0 (wk .i64 (size - 1))).bind fun x8=>some x8
noncomputable def impl_set_has (s:Int) (v:Int):Option Bool:=
 (impl_inRange v 0 63).bind fun x6=>(if x6 then (chk (¬(wk .u64 v) < 0)).bind fun u=>some ((bits .and .u64 (shrI .u64 s (wk .u64 v)) 1) == 1) else some false).bind fun b=>some b
noncomputable def impl_setOf_j1 (s:Int):Option (Int):=
 some s
noncomputable def impl_setOf_l1 (list_:List Int) (s_1:Int) (x8:Int):Option ((Int×Int)⊕(Int)):=
 (if (decide (x8 < (list_.length:Int))) then (zX list_ x8).bind fun x=>(impl_inRange x 0 63).bind fun x13=>(if x13 then (chk (¬(wk .u64 x) < 0)).bind fun u=>some (.inl ((bits .or .u64 s_1 (shlI .u64 1 (wk .u64 x))),(wk .i64 (x8+1))))
 else some (.inl (s_1,(wk .i64 (x8+1)))))
 else some (.inr s_1))
noncomputable def impl_setOf (list_:List Int):Option Int:=
 (zW (fun (s':Int×Int)=>impl_setOf_l1 list_ s'.1 s'.2) (0,0)).bind fun p=>impl_setOf_j1 p
noncomputable def impl_Body_isLive (b:T_impl_Body) (s:Int):Option Bool:=
 (impl_set_has s b.Ins).bind fun x8=>(if x8 then (impl_setOf b.Dels).bind fun x12=>some ((bits .and .u64 x12 s) == 0) else some false).bind fun b_1=>some b_1
noncomputable def impl_Weave_liveIn_j1 (out_:List Int):Option ((List Int)):=
 some out_
noncomputable def jC (w:T_impl_Weave) (s:Int) (x13:Int) (out__1:List Int):Option ((Int×(List Int))⊕((List Int))):=
 (if (decide (x13 < (w.Bodies.length:Int))) then (zX w.Bodies x13).bind fun x=>(impl_Body_isLive (T_impl_Body.mk x.Line x.Ins x.Ord x.Dels) s).bind fun x20=>(if x20 then (appn out__1 [x13]).bind fun l=>some (.inl ((wk .i64 (x13+1)),l))
 else some (.inl ((wk .i64 (x13+1)),out__1)))
 else some (.inr out__1))
noncomputable def impl_Weave_liveIn (w:T_impl_Weave) (s:Int):Option (List Int):=
 (zW (fun (s':Int×(List Int))=>jC w s s'.1 s'.2) (0,[])).bind fun p=>impl_Weave_liveIn_j1 p
noncomputable def impl_bodiesOk_j2:Option (Bool):=
 some true
noncomputable def impl_bodiesOk_l1 (w:T_impl_Weave) (closed:List Int) (born:List Int) (x80:Int):Option ((Int)⊕((Bool)⊕(Unit))):=
 (if (decide (x80 < (closed.length:Int))) then (zX closed x80).bind fun x=>(zX born x80).bind fun x_1=>(if (decide (x_1 > 80)) then some true else (impl_Weave_liveIn (T_impl_Weave.mk w.Parents w.Bodies) x).bind fun x92=>some (decide ((x92.length:Int) > 80))).bind fun b=>(if b then some (.inr (.inl false))
 else some (.inl (wk .i64 (x80+1))))
 else some (.inr (.inr ())))
noncomputable def impl_bodiesOk_j1 (w:T_impl_Weave) (closed:List Int) (born:List Int):Option (Bool):=
 (zW (fun (s':Int)=>impl_bodiesOk_l1 w closed born s') (0)).bind fun p=>(match p with | .inl c'=>some c' | .inr q=>impl_bodiesOk_j2)
noncomputable def impl_bodiesOk_j3 (x18:Int) (born_2:List Int):Option ((Int×(List Int))⊕((Bool)⊕((List Int)))):=
 some (.inl ((wk .i64 (x18+1)),born_2))
noncomputable def impl_bodiesOk_l3 (w:T_impl_Weave) (closed:List Int) (x_2:T_impl_Body) (x62:Int):Option ((Int)⊕(((Int×(List Int))⊕((Bool)⊕((List Int))))⊕(Unit))):=
 (if (decide (x62 < (x_2.Dels.length:Int))) then (zX x_2.Dels x62).bind fun x_5=>(zX w.Parents x_5).bind fun x_6=>(impl_unionOf closed x_6).bind fun x73=>(impl_Body_isLive (T_impl_Body.mk x_2.Line x_2.Ins x_2.Ord x_2.Dels) x73).bind fun x74=>(if (!x74) then some (.inr (.inl (.inr (.inl false))))
 else some (.inl (wk .i64 (x62+1))))
 else some (.inr (.inr ())))
noncomputable def jB (w:T_impl_Weave) (closed:List Int) (x18:Int) (born_1:List Int):Option ((Int×(List Int))⊕((Bool)⊕((List Int)))):=
 (if (decide (x18 < (w.Bodies.length:Int))) then (zX w.Bodies x18).bind fun x_2=>(impl_LineOk x_2.Line).bind fun x24=>(if (!x24) then some true else (impl_isPlace x_2.Ins (closed.length:Int)).bind fun x31=>some (!x31)).bind fun b_1=>(if b_1 then some true else (zX born_1 x_2.Ins).bind fun x_3=>some (x_2.Ord != x_3)).bind fun b_2=>(if b_2 then some true else (impl_ascends x_2.Dels (closed.length:Int)).bind fun x49=>some (!x49)).bind fun b_3=>(if b_3 then some (.inr (.inl false))
 else (zX born_1 x_2.Ins).bind fun x_4=>(zW (fun (s':Int)=>impl_bodiesOk_l3 w closed x_2 s') (0)).bind fun p_2=>(match p_2 with | .inl c'=>some c' | .inr q_1=>impl_bodiesOk_j3 x18 (born_1.set x_2.Ins.toNat (wk .i64 (x_4+1)))))
 else some (.inr (.inr born_1)))
noncomputable def impl_bodiesOk (w:T_impl_Weave) (closed:List Int):Option Bool:=
 ((mkl (closed.length:Int) (closed.length:Int) 0:Option (List Int))).bind fun x14=>(zW (fun (s':Int×(List Int))=>jB w closed s'.1 s'.2) (0,x14)).bind fun p_1=>(match p_1 with | .inl c'=>some c' | .inr q_2=>impl_bodiesOk_j1 w closed q_2)
noncomputable def impl_WeaveOk (w:T_impl_Weave):Option Bool:=
 (if (decide ((w.Bodies.length:Int)≤300)) then (impl_GraphOk w.Parents).bind fun x10=>some x10 else some false).bind fun b=>(if b then (impl_closures w.Parents).bind fun x16=>(impl_bodiesOk (T_impl_Weave.mk w.Parents w.Bodies) x16).bind fun x17=>some x17 else some false).bind fun b_1=>some b_1
noncomputable def impl_Store_graphs_j1 (out_:List (List (List Int))):Option ((List (List (List Int)))):=
 some out_
noncomputable def impl_Store_graphs_l1 (s:T_impl_Store) (x11:Int) (out__1:List (List (List Int))):Option ((Int×(List (List (List Int))))⊕((List (List (List Int))))):=
 (if (decide (x11 < (s.Files.length:Int))) then (zX s.Files x11).bind fun x=>(appn out__1 [x.Parents]).bind fun l=>some (.inl ((wk .i64 (x11+1)),l))
 else some (.inr out__1))
noncomputable def impl_Store_graphs (s:T_impl_Store):Option (List (List (List Int))):=
 (zW (fun (s':Int×(List (List (List Int))))=>impl_Store_graphs_l1 s s'.1 s'.2) (0,[])).bind fun p=>impl_Store_graphs_j1 p
noncomputable def impl_sizesOf_j1 (out_:List Int):Option ((List Int)):=
 some out_
noncomputable def impl_sizesOf_l1 (files:List (List (List Int))) (x8:Int) (out__1:List Int):Option ((Int×(List Int))⊕((List Int))):=
 (if (decide (x8 < (files.length:Int))) then (zX files x8).bind fun x=>(appn out__1 [(x.length:Int)]).bind fun l=>some (.inl ((wk .i64 (x8+1)),l))
 else some (.inr out__1))
noncomputable def impl_sizesOf (files:List (List (List Int))):Option (List Int):=
 (zW (fun (s':Int×(List Int))=>impl_sizesOf_l1 files s'.1 s'.2) (0,[])).bind fun p=>impl_sizesOf_j1 p
noncomputable def impl_graphOf_j1 (out_:List (List Int)):Option ((List (List Int))):=
 some out_
noncomputable def impl_graphOf_l1 (list_:List T_impl_Commit) (x8:Int) (out__1:List (List Int)):Option ((Int×(List (List Int)))⊕((List (List Int)))):=
 (if (decide (x8 < (list_.length:Int))) then (zX list_ x8).bind fun x=>(appn out__1 [x.Parents]).bind fun l=>some (.inl ((wk .i64 (x8+1)),l))
 else some (.inr out__1))
noncomputable def impl_graphOf (list_:List T_impl_Commit):Option (List (List Int)):=
 (zW (fun (s':Int×(List (List Int)))=>impl_graphOf_l1 list_ s'.1 s'.2) (0,[])).bind fun p=>impl_graphOf_j1 p
noncomputable def impl_NoteOk_j1 (note:ByteArray):Option (Bool):=
 some (decide ((note.size:Int)≤40))
noncomputable def impl_NoteOk_l1 (note:ByteArray) (i:Int):Option ((Int)⊕((Bool)⊕(Unit))):=
 (if (decide (i < (note.size:Int))) then (sidx note i).bind fun x12=>(if (decide (x12 < 32)) then some true else some (decide (x12 > 126))).bind fun b=>(if b then some (.inr (.inl false))
 else some (.inl (wk .i64 (i+1))))
 else some (.inr (.inr ())))
noncomputable def impl_NoteOk (note:ByteArray):Option Bool:=
 (zW (fun (s':Int)=>impl_NoteOk_l1 note s') (0)).bind fun p=>(match p with | .inl c'=>some c' | .inr q=>impl_NoteOk_j1 note)
noncomputable def jU (s:ByteArray) (prefix_:ByteArray):Option Bool:=
 (if (decide ((s.size:Int)≥(prefix_.size:Int))) then (subH s (prefix_.size:Int)).bind fun x14=>some (x14.toList == prefix_.toList) else some false).bind fun b=>some b
noncomputable def strings_HasPrefix (s:ByteArray) (prefix_:ByteArray):Option Bool:=
 (jU s prefix_).bind fun x7=>some x7
noncomputable def jT (s:ByteArray) (suffix:ByteArray):Option Bool:=
 (if (decide ((s.size:Int)≥(suffix.size:Int))) then (subL s (wk .i64 ((s.size:Int) - (suffix.size:Int)))).bind fun x17=>some (x17.toList == suffix.toList) else some false).bind fun b=>some b
noncomputable def strings_HasSuffix (s:ByteArray) (suffix:ByteArray):Option Bool:=
 (jT s suffix).bind fun x7=>some x7
noncomputable def impl_PathOk_j1 (path:ByteArray):Option (Bool):=
 (impl_inRange (path.size:Int) 1 24).bind fun x43=>(if (!x43) then some false
 else (strings_HasPrefix path (ByteArray.mk #[47])).bind fun x46=>(if (!x46) then (strings_HasSuffix path (ByteArray.mk #[47])).bind fun x50=>some (!x50) else some false).bind fun b=>(if b then (strings_Contains path (ByteArray.mk #[47,47])).bind fun x55=>some (!x55) else some false).bind fun b_1=>some b_1)
noncomputable def impl_PathOk_l1 (path:ByteArray) (i:Int):Option ((Int)⊕((Bool)⊕(Unit))):=
 (if (decide (i < (path.size:Int))) then (sidx path i).bind fun x13=>(if (decide (x13≥97)) then some (decide (x13≤122)) else some false).bind fun b_2=>(if b_2 then some true else (if (decide (x13≥48)) then some (decide (x13≤57)) else some false).bind fun b_4=>some b_4).bind fun b_3=>(if b_3 then some true else some (x13 == 46)).bind fun b_5=>(if b_5 then some true else some (x13 == 45)).bind fun b_6=>(if b_6 then some true else some (x13 == 47)).bind fun b_7=>(if (!b_7) then some (.inr (.inl false))
 else some (.inl (wk .i64 (i+1))))
 else some (.inr (.inr ())))
noncomputable def impl_PathOk (path:ByteArray):Option Bool:=
 (zW (fun (s':Int)=>impl_PathOk_l1 path s') (0)).bind fun p=>(match p with | .inl c'=>some c' | .inr q=>impl_PathOk_j1 path)
noncomputable def impl_idAt_c1 (n:T_impl_Name) (c:Int):Option Bool:=
 some (n.Id == c)
noncomputable def jM:Option (Int):=
 some (-1)
noncomputable def qQ (s:List T_impl_Name) (f:T_impl_Name→Option Bool) (x8:Int):Option ((Int)⊕((Int)⊕(Unit))):=
 (if (decide (x8 < (s.length:Int))) then (zX s x8).bind fun x=>(f (T_impl_Name.mk x.Path x.Id x.Version)).bind fun x16=>(if x16 then some (.inr (.inl x8))
 else some (.inl (wk .i64 (x8+1))))
 else some (.inr (.inr ())))
noncomputable def qW (s:List T_impl_Name) (f:T_impl_Name→Option Bool):Option Int:=
 (zW (fun (s':Int)=>qQ s f s') (0)).bind fun p=>(match p with | .inl c'=>some c' | .inr q=>jM)
noncomputable def impl_idAt (list_:List T_impl_Name) (id:Int):Option Int:=
 (qW list_ (fun z0'=>impl_idAt_c1 z0' id)).bind fun x7=>some x7
noncomputable def impl_NamesOk_j1:Option (Bool):=
 some true
noncomputable def impl_NamesOk_l1 (list_:List T_impl_Name) (x10:Int):Option ((Int)⊕((Bool)⊕(Unit))):=
 (if (decide (x10 < (list_.length:Int))) then (zX list_ x10).bind fun x=>(impl_PathOk x.Path).bind fun x17=>(if (!x17) then some true else (impl_inRange x.Id 0 11).bind fun x22=>some (!x22)).bind fun b=>(if b then some true else (impl_inRange x.Version 0 39).bind fun x28=>some (!x28)).bind fun b_1=>(if b_1 then some (.inr (.inl false))
 else (if (decide (x10 > 0)) then (zX list_ (wk .i64 (x10 - 1))).bind fun x_1=>some (Op.bytesLess x.Path.toList x_1.Path.toList || x.Path.toList == x_1.Path.toList) else some false).bind fun b_2=>(if b_2 then some true else (impl_idAt list_ x.Id).bind fun x48=>some (x48 != x10)).bind fun b_3=>(if b_3 then some (.inr (.inl false))
 else some (.inl (wk .i64 (x10+1)))))
 else some (.inr (.inr ())))
noncomputable def impl_NamesOk (list_:List T_impl_Name):Option Bool:=
 (if (decide ((list_.length:Int) > 12)) then some false
 else (zW (fun (s':Int)=>impl_NamesOk_l1 list_ s') (0)).bind fun p=>(match p with | .inl c'=>some c' | .inr q=>impl_NamesOk_j1))
noncomputable def impl_CommitsOk_j2:Option (Bool):=
 some true
noncomputable def impl_CommitsOk_j3 (x37:Int):Option ((Int)⊕((Bool)⊕(Unit))):=
 some (.inl (wk .i64 (x37+1)))
noncomputable def impl_CommitsOk_l2 (versions:List Int) (x:T_impl_Commit) (x54:Int):Option ((Int)⊕(((Int)⊕((Bool)⊕(Unit)))⊕(Unit))):=
 (if (decide (x54 < (x.Names.length:Int))) then (zX x.Names x54).bind fun x_1=>(if (decide (x_1.Id≥(versions.length:Int))) then some true else (zX versions x_1.Id).bind fun x_2=>some (decide (x_1.Version≥x_2))).bind fun b_3=>(if b_3 then some (.inr (.inl (.inr (.inl false))))
 else some (.inl (wk .i64 (x54+1))))
 else some (.inr (.inr ())))
noncomputable def impl_CommitsOk_l1 (list_:List T_impl_Commit) (versions:List Int) (x37:Int):Option ((Int)⊕((Bool)⊕(Unit))):=
 (if (decide (x37 < (list_.length:Int))) then (zX list_ x37).bind fun x=>(impl_NoteOk x.Note).bind fun x43=>(if (!x43) then some true else (impl_NamesOk x.Names).bind fun x48=>some (!x48)).bind fun b_2=>(if b_2 then some (.inr (.inl false))
 else (zW (fun (s':Int)=>impl_CommitsOk_l2 versions x s') (0)).bind fun p_1=>(match p_1 with | .inl c'=>some c' | .inr q=>impl_CommitsOk_j3 x37))
 else some (.inr (.inr ())))
noncomputable def impl_CommitsOk_j1 (list_:List T_impl_Commit) (versions:List Int):Option (Bool):=
 (zW (fun (s':Int)=>impl_CommitsOk_l1 list_ versions s') (0)).bind fun p=>(match p with | .inl c'=>some c' | .inr q_1=>impl_CommitsOk_j2)
noncomputable def impl_CommitsOk_l3 (versions:List Int) (x27:Int):Option ((Int)⊕((Bool)⊕(Unit))):=
 (if (decide (x27 < (versions.length:Int))) then (zX versions x27).bind fun x_3=>(impl_inRange x_3 0 40).bind fun x32=>(if (!x32) then some (.inr (.inl false))
 else some (.inl (wk .i64 (x27+1))))
 else some (.inr (.inr ())))
noncomputable def impl_CommitsOk (list_:List T_impl_Commit) (versions:List Int):Option Bool:=
 (if (decide ((list_.length:Int) > 40)) then some true else (impl_graphOf list_).bind fun x16=>(impl_GraphOk x16).bind fun x17=>some (!x17)).bind fun b=>(if b then some true else some (decide ((versions.length:Int) > 12))).bind fun b_1=>(if b_1 then some false
 else (zW (fun (s':Int)=>impl_CommitsOk_l3 versions s') (0)).bind fun p_2=>(match p_2 with | .inl c'=>some c' | .inr q_2=>impl_CommitsOk_j1 list_ versions))
noncomputable def impl_StoreOk_j1 (s:T_impl_Store):Option (Bool):=
 (if (decide ((s.Files.length:Int)≤12)) then (impl_Store_graphs (T_impl_Store.mk s.Commits s.Files)).bind fun x29=>(impl_sizesOf x29).bind fun x30=>(impl_CommitsOk s.Commits x30).bind fun x31=>some x31 else some false).bind fun b=>some b
noncomputable def impl_StoreOk_l1 (s:T_impl_Store) (x8:Int):Option ((Int)⊕((Bool)⊕(Unit))):=
 (if (decide (x8 < (s.Files.length:Int))) then (zX s.Files x8).bind fun x=>(if ((x.Parents.length:Int) == 0) then some true else (impl_WeaveOk (T_impl_Weave.mk x.Parents x.Bodies)).bind fun x18=>some (!x18)).bind fun b_1=>(if b_1 then some (.inr (.inl false))
 else some (.inl (wk .i64 (x8+1))))
 else some (.inr (.inr ())))
noncomputable def impl_StoreOk (s:T_impl_Store):Option Bool:=
 (zW (fun (s':Int)=>impl_StoreOk_l1 s s') (0)).bind fun p=>(match p with | .inl c'=>some c' | .inr q=>impl_StoreOk_j1 s)
noncomputable def jL (s:List T_impl_Name):Option (List T_impl_Name):=
 appn ([]:List T_impl_Name) s
noncomputable def impl_NamesAt (s:T_impl_Store) (c:Int):Option ((List T_impl_Name)×Int):=
 (impl_StoreOk (T_impl_Store.mk s.Commits s.Files)).bind fun x8=>(if (!x8) then some ([],1)
 else (impl_isPlace c (s.Commits.length:Int)).bind fun x15=>(if (!x15) then some ([],2)
 else (zX s.Commits c).bind fun x=>(jL x.Names).bind fun x23=>some (x23,0)))
noncomputable def impl_pathAt_c1 (n:T_impl_Name) (c:ByteArray):Option Bool:=
 some (n.Path.toList == c.toList)
noncomputable def impl_pathAt (list_:List T_impl_Name) (path:ByteArray):Option Int:=
 (qW list_ (fun z0'=>impl_pathAt_c1 z0' path)).bind fun x7=>some x7
noncomputable def impl_nameAt (s:T_impl_Store) (c:Int) (path:ByteArray):Option (T_impl_Name×Int):=
 (impl_NamesAt (T_impl_Store.mk s.Commits s.Files) c).bind fun x14=>(if (x14.2 != 0) then some ((T_impl_Name.mk (ByteArray.mk #[]) 0 0),x14.2)
 else (impl_pathAt x14.1 path).bind fun x23=>(if (decide (x23 < 0)) then some ((T_impl_Name.mk (ByteArray.mk #[]) 0 0),3)
 else (zX x14.1 x23).bind fun x=>some ((T_impl_Name.mk x.Path x.Id x.Version),0)))
noncomputable def impl_set_list_j1 (out_:List Int):Option ((List Int)):=
 some out_
noncomputable def impl_set_list_l1 (s:Int) (x5:Int) (out__1:List Int):Option ((Int×(List Int))⊕((List Int))):=
 (if (decide (x5 < 64)) then (impl_set_has s x5).bind fun x10=>(if x10 then (appn out__1 [x5]).bind fun l=>some (.inl ((wk .i64 (x5+1)),l))
 else some (.inl ((wk .i64 (x5+1)),out__1)))
 else some (.inr out__1))
noncomputable def impl_set_list (s:Int):Option (List Int):=
 (zW (fun (s':Int×(List Int))=>impl_set_list_l1 s s'.1 s'.2) (0,[])).bind fun p=>impl_set_list_j1 p
noncomputable def jV (i:Int) (j:Int) (s_1:List Int):Option ((Int×Int×(List Int))⊕((List Int))):=
 (if (decide (i < j)) then (zX s_1 j).bind fun x=>(zX s_1 i).bind fun x_1=>(zX (s_1.set i.toNat x) j).bind fun x_2=>some (.inl ((wk .i64 (i+1)),(wk .i64 (j - 1)),((s_1.set i.toNat x).set j.toNat x_1)))
 else some (.inr s_1))
noncomputable def slices_Reverse_int_int (s:List Int):Option (List Int):=
 (zW (fun (s':Int×Int×(List Int))=>jV s'.1 s'.2.1 s'.2.2) (0,(wk .i64 ((s.length:Int) - 1)),s)).bind fun p=>some p
noncomputable def impl_LogOf (list_:List T_impl_Commit) (versions:List Int) (c:Int):Option (List Int):=
 (impl_isPlace c (list_.length:Int)).bind fun x11=>(if (!x11) then some true else (impl_CommitsOk list_ versions).bind fun x16=>some (!x16)).bind fun b=>(if b then some []
 else (impl_graphOf list_).bind fun x20=>(impl_closures x20).bind fun x21=>(zX x21 c).bind fun x=>(impl_set_list x).bind fun x25=>(slices_Reverse_int_int x25).bind fun x27=>some x27)
noncomputable def impl_unlike (a:T_impl_Commit) (b:T_impl_Commit) (id:Int):Option Bool:=
 (impl_idAt a.Names id).bind fun x12=>(impl_idAt b.Names id).bind fun x16=>(if (decide (x12 < 0)) then some true else some (decide (x16 < 0))).bind fun b_1=>(if b_1 then (if (decide (x12≥0)) then some true else some (decide (x16≥0))).bind fun b_2=>some b_2
 else (zX a.Names x12).bind fun x=>(zX b.Names x16).bind fun x_1=>some (!((x.Path.toList == x_1.Path.toList) && ((x.Id == x_1.Id) && (x.Version == x_1.Version)))))
noncomputable def impl_touched_j1 (out_:List Int):Option ((List Int)):=
 some out_
noncomputable def impl_touched_j2 (x10:Int) (out__2:List Int):Option ((Int×(List Int))⊕((List Int))):=
 some (.inl ((wk .i64 (x10+1)),out__2))
noncomputable def impl_touched_j3 (x10:Int) (out__1:List Int) (is:Bool):Option ((Int×(List Int))⊕((List Int))):=
 (if is then (appn out__1 [x10]).bind fun l=>impl_touched_j2 x10 l
 else impl_touched_j2 x10 out__1)
noncomputable def impl_touched_l2 (list_:List T_impl_Commit) (c:Int) (x10:Int) (x_1:T_impl_Commit) (is_1:Bool) (x36:Int):Option ((Bool×Int)⊕(Bool)):=
 (if (decide (x36 < (x_1.Parents.length:Int))) then (zX x_1.Parents x36).bind fun x_2=>(if is_1 then some true else (zX list_ c).bind fun x_3=>(zX list_ x_2).bind fun x_4=>(impl_unlike (T_impl_Commit.mk x_3.Parents x_3.Note x_3.Names) (T_impl_Commit.mk x_4.Parents x_4.Note x_4.Names) x10).bind fun x51=>some x51).bind fun b_1=>some (.inl (b_1,(wk .i64 (x36+1))))
 else some (.inr is_1))
noncomputable def impl_touched_l1 (list_:List T_impl_Commit) (c:Int) (x10:Int) (out__1:List Int):Option ((Int×(List Int))⊕((List Int))):=
 (if (decide (x10 < 12)) then (zX list_ c).bind fun x=>(if ((x.Parents.length:Int) == 0) then (impl_idAt x.Names x10).bind fun x27=>some (decide (x27≥0)) else some false).bind fun b=>(zX list_ c).bind fun x_1=>(zW (fun (s':Bool×Int)=>impl_touched_l2 list_ c x10 x_1 s'.1 s'.2) (b,0)).bind fun p_1=>impl_touched_j3 x10 out__1 p_1
 else some (.inr out__1))
noncomputable def impl_touched (list_:List T_impl_Commit) (c:Int):Option (List Int):=
 (zW (fun (s':Int×(List Int))=>impl_touched_l1 list_ c s'.1 s'.2) (0,[])).bind fun p=>impl_touched_j1 p
noncomputable def slices_Index_int_int_j1:Option (Int):=
 some (-1)
noncomputable def slices_Index_int_int_l1 (s:List Int) (v:Int) (x8:Int):Option ((Int)⊕((Int)⊕(Unit))):=
 (if (decide (x8 < (s.length:Int))) then (zX s x8).bind fun x=>(if (v == x) then some (.inr (.inl x8))
 else some (.inl (wk .i64 (x8+1))))
 else some (.inr (.inr ())))
noncomputable def slices_Index_int_int (s:List Int) (v:Int):Option Int:=
 (zW (fun (s':Int)=>slices_Index_int_int_l1 s v s') (0)).bind fun p=>(match p with | .inl c'=>some c' | .inr q=>slices_Index_int_int_j1)
noncomputable def slices_Contains_int_int (s:List Int) (v:Int):Option Bool:=
 (slices_Index_int_int s v).bind fun x7=>some (decide (x7≥0))
noncomputable def impl_FileLog_j1 (out_:List Int):Option ((List Int)×Int):=
 some (out_,0)
noncomputable def impl_FileLog_l1 (s:T_impl_Store) (x17:T_impl_Name×Int) (x28:(List Int)) (x30:Int) (out__1:List Int):Option ((Int×(List Int))⊕((List Int))):=
 (if (decide (x30 < (x28.length:Int))) then (zX x28 x30).bind fun x=>(impl_touched s.Commits x).bind fun x37=>(slices_Contains_int_int x37 x17.1.Id).bind fun x40=>(if x40 then (appn out__1 [x]).bind fun l=>some (.inl ((wk .i64 (x30+1)),l))
 else some (.inl ((wk .i64 (x30+1)),out__1)))
 else some (.inr out__1))
noncomputable def impl_FileLog (s:T_impl_Store) (path:ByteArray) (c:Int):Option ((List Int)×Int):=
 (impl_nameAt (T_impl_Store.mk s.Commits s.Files) c path).bind fun x17=>(if (x17.2 != 0) then some ([],x17.2)
 else (impl_Store_graphs (T_impl_Store.mk s.Commits s.Files)).bind fun x25=>(impl_sizesOf x25).bind fun x26=>(impl_LogOf s.Commits x26 c).bind fun x28=>(zW (fun (s':Int×(List Int))=>impl_FileLog_l1 s x17 x28 s'.1 s'.2) (0,[])).bind fun p=>impl_FileLog_j1 p)
noncomputable def laws_eqIntS_j1:Option (Bool):=
 some true
noncomputable def laws_eqIntS_l1 (a:List Int) (b:List Int) (i:Int):Option ((Int)⊕((Bool)⊕(Unit))):=
 (if (decide (i < (a.length:Int))) then (zX a i).bind fun x=>(zX b i).bind fun x_1=>(if (x != x_1) then some (.inr (.inl false))
 else some (.inl (wk .i64 (i+1))))
 else some (.inr (.inr ())))
noncomputable def laws_eqIntS (a:List Int) (b:List Int):Option Bool:=
 (if ((a.length:Int) != (b.length:Int)) then some false
 else (zW (fun (s':Int)=>laws_eqIntS_l1 a b s') (0)).bind fun p=>(match p with | .inl c'=>some c' | .inr q=>laws_eqIntS_j1))
noncomputable def laws_eqName (a:T_impl_Name) (b:T_impl_Name):Option Bool:=
 (if (!(a.Path.toList == b.Path.toList)) then some false
 else (if (a.Id != b.Id) then some false
 else (if (a.Version != b.Version) then some false
 else some true)))
noncomputable def laws_eqNameS_j1:Option (Bool):=
 some true
noncomputable def laws_eqNameS_l1 (a:List T_impl_Name) (b:List T_impl_Name) (i:Int):Option ((Int)⊕((Bool)⊕(Unit))):=
 (if (decide (i < (a.length:Int))) then (zX a i).bind fun x=>(zX b i).bind fun x_1=>(laws_eqName (T_impl_Name.mk x.Path x.Id x.Version) (T_impl_Name.mk x_1.Path x_1.Id x_1.Version)).bind fun x25=>(if (!x25) then some (.inr (.inl false))
 else some (.inl (wk .i64 (i+1))))
 else some (.inr (.inr ())))
noncomputable def laws_eqNameS (a:List T_impl_Name) (b:List T_impl_Name):Option Bool:=
 (if ((a.length:Int) != (b.length:Int)) then some false
 else (zW (fun (s':Int)=>laws_eqNameS_l1 a b s') (0)).bind fun p=>(match p with | .inl c'=>some c' | .inr q=>laws_eqNameS_j1))
noncomputable def laws_eqCommit (a:T_impl_Commit) (b:T_impl_Commit):Option Bool:=
 (laws_eqIntS a.Parents b.Parents).bind fun x9=>(if (!x9) then some false
 else (if (!(a.Note.toList == b.Note.toList)) then some false
 else (laws_eqNameS a.Names b.Names).bind fun x20=>(if (!x20) then some false
 else some true)))
noncomputable def laws_eqCommitS_j1:Option (Bool):=
 some true
noncomputable def laws_eqCommitS_l1 (a:List T_impl_Commit) (b:List T_impl_Commit) (i:Int):Option ((Int)⊕((Bool)⊕(Unit))):=
 (if (decide (i < (a.length:Int))) then (zX a i).bind fun x=>(zX b i).bind fun x_1=>(laws_eqCommit (T_impl_Commit.mk x.Parents x.Note x.Names) (T_impl_Commit.mk x_1.Parents x_1.Note x_1.Names)).bind fun x25=>(if (!x25) then some (.inr (.inl false))
 else some (.inl (wk .i64 (i+1))))
 else some (.inr (.inr ())))
noncomputable def laws_eqCommitS (a:List T_impl_Commit) (b:List T_impl_Commit):Option Bool:=
 (if ((a.length:Int) != (b.length:Int)) then some false
 else (zW (fun (s':Int)=>laws_eqCommitS_l1 a b s') (0)).bind fun p=>(match p with | .inl c'=>some c' | .inr q=>laws_eqCommitS_j1))
noncomputable def laws_eqIntSS_j1:Option (Bool):=
 some true
noncomputable def laws_eqIntSS_l1 (a:List (List Int)) (b:List (List Int)) (i:Int):Option ((Int)⊕((Bool)⊕(Unit))):=
 (if (decide (i < (a.length:Int))) then (zX a i).bind fun x=>(zX b i).bind fun x_1=>(laws_eqIntS x x_1).bind fun x25=>(if (!x25) then some (.inr (.inl false))
 else some (.inl (wk .i64 (i+1))))
 else some (.inr (.inr ())))
noncomputable def laws_eqIntSS (a:List (List Int)) (b:List (List Int)):Option Bool:=
 (if ((a.length:Int) != (b.length:Int)) then some false
 else (zW (fun (s':Int)=>laws_eqIntSS_l1 a b s') (0)).bind fun p=>(match p with | .inl c'=>some c' | .inr q=>laws_eqIntSS_j1))
noncomputable def laws_eqBody (a:T_impl_Body) (b:T_impl_Body):Option Bool:=
 (if (!(a.Line.toList == b.Line.toList)) then some false
 else (if (a.Ins != b.Ins) then some false
 else (if (a.Ord != b.Ord) then some false
 else (laws_eqIntS a.Dels b.Dels).bind fun x24=>(if (!x24) then some false
 else some true))))
noncomputable def laws_eqBodyS_j1:Option (Bool):=
 some true
noncomputable def laws_eqBodyS_l1 (a:List T_impl_Body) (b:List T_impl_Body) (i:Int):Option ((Int)⊕((Bool)⊕(Unit))):=
 (if (decide (i < (a.length:Int))) then (zX a i).bind fun x=>(zX b i).bind fun x_1=>(laws_eqBody (T_impl_Body.mk x.Line x.Ins x.Ord x.Dels) (T_impl_Body.mk x_1.Line x_1.Ins x_1.Ord x_1.Dels)).bind fun x25=>(if (!x25) then some (.inr (.inl false))
 else some (.inl (wk .i64 (i+1))))
 else some (.inr (.inr ())))
noncomputable def laws_eqBodyS (a:List T_impl_Body) (b:List T_impl_Body):Option Bool:=
 (if ((a.length:Int) != (b.length:Int)) then some false
 else (zW (fun (s':Int)=>laws_eqBodyS_l1 a b s') (0)).bind fun p=>(match p with | .inl c'=>some c' | .inr q=>laws_eqBodyS_j1))
noncomputable def laws_eqWeave (a:T_impl_Weave) (b:T_impl_Weave):Option Bool:=
 (laws_eqIntSS a.Parents b.Parents).bind fun x9=>(if (!x9) then some false
 else (laws_eqBodyS a.Bodies b.Bodies).bind fun x15=>(if (!x15) then some false
 else some true))
noncomputable def laws_eqWeaveS_j1:Option (Bool):=
 some true
noncomputable def laws_eqWeaveS_l1 (a:List T_impl_Weave) (b:List T_impl_Weave) (i:Int):Option ((Int)⊕((Bool)⊕(Unit))):=
 (if (decide (i < (a.length:Int))) then (zX a i).bind fun x=>(zX b i).bind fun x_1=>(laws_eqWeave (T_impl_Weave.mk x.Parents x.Bodies) (T_impl_Weave.mk x_1.Parents x_1.Bodies)).bind fun x25=>(if (!x25) then some (.inr (.inl false))
 else some (.inl (wk .i64 (i+1))))
 else some (.inr (.inr ())))
noncomputable def laws_eqWeaveS (a:List T_impl_Weave) (b:List T_impl_Weave):Option Bool:=
 (if ((a.length:Int) != (b.length:Int)) then some false
 else (zW (fun (s':Int)=>laws_eqWeaveS_l1 a b s') (0)).bind fun p=>(match p with | .inl c'=>some c' | .inr q=>laws_eqWeaveS_j1))
noncomputable def laws_eqStore (a:T_impl_Store) (b:T_impl_Store):Option Bool:=
 (laws_eqCommitS a.Commits b.Commits).bind fun x9=>(if (!x9) then some false
 else (laws_eqWeaveS a.Files b.Files).bind fun x15=>(if (!x15) then some false
 else some true))
noncomputable def laws_markIntS_j1 (k_1:Int) (a_1:List Int):Option (Int×(List Int)):=
 some (k_1,a_1)
noncomputable def laws_markIntS_l1 (k_2:Int) (i:Int) (a_2:List Int):Option ((Int×Int×(List Int))⊕(Int×(List Int))):=
 (if (decide (i < (a_2.length:Int))) then (zX a_2 i).bind fun x=>some (.inl ((wk .i64 (k_2+1)),(wk .i64 (i+1)),(a_2.set i.toNat k_2)))
 else some (.inr (k_2,a_2)))
noncomputable def laws_markIntS (a:List Int) (k:Int):Option (Int×(List Int)):=
 (zW (fun (s':Int×Int×(List Int))=>laws_markIntS_l1 s'.1 s'.2.1 s'.2.2) (k,0,a)).bind fun p=>laws_markIntS_j1 p.1 p.2
noncomputable def laws_markText_j1 (out_:ByteArray):Option (ByteArray):=
 (sapp (ByteArray.mk #[109]) out_).bind fun t=>some t
noncomputable def laws_markText_l1 (k_1:Int) (out__1:ByteArray):Option ((Int×ByteArray)⊕(ByteArray)):=
 (if (decide (k_1 > 0)) then (sapp (mkS [(wk .u8 (wk .i64 (48+(k_1.tmod 10))))]) out__1).bind fun t_1=>some (.inl ((wk .i64 (k_1.tdiv 10)),t_1))
 else some (.inr out__1))
noncomputable def laws_markText (k:Int):Option ByteArray:=
 (if (decide (k≤0)) then some (ByteArray.mk #[109,48])
 else (zW (fun (s':Int×ByteArray)=>laws_markText_l1 s'.1 s'.2) (k,(ByteArray.mk #[]))).bind fun p=>laws_markText_j1 p)
noncomputable def laws_markNameS_j1 (k_1:Int) (a_1:List T_impl_Name):Option (Int×(List T_impl_Name)):=
 some (k_1,a_1)
noncomputable def jQ (k_2:Int) (i:Int) (a_2:List T_impl_Name):Option ((Int×Int×(List T_impl_Name))⊕(Int×(List T_impl_Name))):=
 (if (decide (i < (a_2.length:Int))) then (laws_markText k_2).bind fun x15=>(zX a_2 i).bind fun x=>(zX (a_2.set i.toNat (T_impl_Name.mk x15 x.Id x.Version)) i).bind fun x_1=>(zX (a_2.set i.toNat (T_impl_Name.mk x_1.Path (wk .i64 (k_2+1)) x_1.Version)) i).bind fun x_2=>some (.inl ((wk .i64 ((wk .i64 ((wk .i64 (k_2+1))+1))+1)),(wk .i64 (i+1)),(a_2.set i.toNat (T_impl_Name.mk x_2.Path x_2.Id (wk .i64 ((wk .i64 (k_2+1))+1))))))
 else some (.inr (k_2,a_2)))
noncomputable def laws_markNameS (a:List T_impl_Name) (k:Int):Option (Int×(List T_impl_Name)):=
 (zW (fun (s':Int×Int×(List T_impl_Name))=>jQ s'.1 s'.2.1 s'.2.2) (k,0,a)).bind fun p=>laws_markNameS_j1 p.1 p.2
noncomputable def laws_markCommitS_j1 (k_1:Int) (a_1:List T_impl_Commit):Option (Int×(List T_impl_Commit)):=
 some (k_1,a_1)
noncomputable def jE (k_2:Int) (i:Int) (a_2:List T_impl_Commit):Option ((Int×Int×(List T_impl_Commit))⊕(Int×(List T_impl_Commit))):=
 (if (decide (i < (a_2.length:Int))) then (zX a_2 i).bind fun x=>(laws_markIntS x.Parents k_2).bind fun x18=>(laws_markText x18.1).bind fun x22=>(zX (a_2.set i.toNat (T_impl_Commit.mk x18.2 x.Note x.Names)) i).bind fun x_1=>(zX (a_2.set i.toNat (T_impl_Commit.mk x_1.Parents x22 x_1.Names)) i).bind fun x_2=>(laws_markNameS x_2.Names (wk .i64 (x18.1+1))).bind fun x33=>some (.inl (x33.1,(wk .i64 (i+1)),(a_2.set i.toNat (T_impl_Commit.mk x_2.Parents x_2.Note x33.2))))
 else some (.inr (k_2,a_2)))
noncomputable def laws_markCommitS (a:List T_impl_Commit) (k:Int):Option (Int×(List T_impl_Commit)):=
 (zW (fun (s':Int×Int×(List T_impl_Commit))=>jE s'.1 s'.2.1 s'.2.2) (k,0,a)).bind fun p=>laws_markCommitS_j1 p.1 p.2
noncomputable def laws_markIntSS_j1 (k_1:Int) (a_1:List (List Int)):Option (Int×(List (List Int))):=
 some (k_1,a_1)
noncomputable def jS (k_2:Int) (i:Int) (a_2:List (List Int)):Option ((Int×Int×(List (List Int)))⊕(Int×(List (List Int)))):=
 (if (decide (i < (a_2.length:Int))) then (zX a_2 i).bind fun x=>(laws_markIntS x k_2).bind fun x17=>some (.inl (x17.1,(wk .i64 (i+1)),(a_2.set i.toNat x17.2)))
 else some (.inr (k_2,a_2)))
noncomputable def laws_markIntSS (a:List (List Int)) (k:Int):Option (Int×(List (List Int))):=
 (zW (fun (s':Int×Int×(List (List Int)))=>jS s'.1 s'.2.1 s'.2.2) (k,0,a)).bind fun p=>laws_markIntSS_j1 p.1 p.2
noncomputable def laws_markBodyS_j1 (k_1:Int) (a_1:List T_impl_Body):Option (Int×(List T_impl_Body)):=
 some (k_1,a_1)
noncomputable def jN (k_2:Int) (i:Int) (a_2:List T_impl_Body):Option ((Int×Int×(List T_impl_Body))⊕(Int×(List T_impl_Body))):=
 (if (decide (i < (a_2.length:Int))) then (laws_markText k_2).bind fun x15=>(zX a_2 i).bind fun x=>(zX (a_2.set i.toNat (T_impl_Body.mk x15 x.Ins x.Ord x.Dels)) i).bind fun x_1=>(zX (a_2.set i.toNat (T_impl_Body.mk x_1.Line (wk .i64 (k_2+1)) x_1.Ord x_1.Dels)) i).bind fun x_2=>(zX (a_2.set i.toNat (T_impl_Body.mk x_2.Line x_2.Ins (wk .i64 ((wk .i64 (k_2+1))+1)) x_2.Dels)) i).bind fun x_3=>(laws_markIntS x_3.Dels (wk .i64 ((wk .i64 ((wk .i64 (k_2+1))+1))+1))).bind fun x40=>some (.inl (x40.1,(wk .i64 (i+1)),(a_2.set i.toNat (T_impl_Body.mk x_3.Line x_3.Ins x_3.Ord x40.2))))
 else some (.inr (k_2,a_2)))
noncomputable def laws_markBodyS (a:List T_impl_Body) (k:Int):Option (Int×(List T_impl_Body)):=
 (zW (fun (s':Int×Int×(List T_impl_Body))=>jN s'.1 s'.2.1 s'.2.2) (k,0,a)).bind fun p=>laws_markBodyS_j1 p.1 p.2
noncomputable def laws_markWeaveS_j1 (k_1:Int) (a_1:List T_impl_Weave):Option (Int×(List T_impl_Weave)):=
 some (k_1,a_1)
noncomputable def jK (k_2:Int) (i:Int) (a_2:List T_impl_Weave):Option ((Int×Int×(List T_impl_Weave))⊕(Int×(List T_impl_Weave))):=
 (if (decide (i < (a_2.length:Int))) then (zX a_2 i).bind fun x=>(laws_markIntSS x.Parents k_2).bind fun x18=>(zX (a_2.set i.toNat (T_impl_Weave.mk x18.2 x.Bodies)) i).bind fun x_1=>(laws_markBodyS x_1.Bodies x18.1).bind fun x25=>some (.inl (x25.1,(wk .i64 (i+1)),(a_2.set i.toNat (T_impl_Weave.mk x_1.Parents x25.2))))
 else some (.inr (k_2,a_2)))
noncomputable def laws_markWeaveS (a:List T_impl_Weave) (k:Int):Option (Int×(List T_impl_Weave)):=
 (zW (fun (s':Int×Int×(List T_impl_Weave))=>jK s'.1 s'.2.1 s'.2.2) (k,0,a)).bind fun p=>laws_markWeaveS_j1 p.1 p.2
noncomputable def laws_markStore (a:T_impl_Store) (k:Int):Option Int:=
 (laws_markCommitS a.Commits k).bind fun x8=>(laws_markWeaveS a.Files x8.1).bind fun x12=>some x12.1
noncomputable def laws_heldIntS_j1 (k_1:Int):Option (Int):=
 some k_1
noncomputable def laws_heldIntS_l1 (a:List Int) (k_2:Int) (i:Int):Option ((Int×Int)⊕((Int)⊕(Int))):=
 (if (decide (i < (a.length:Int))) then (zX a i).bind fun x=>(if (x != k_2) then some (.inr (.inl (-1)))
 else some (.inl ((wk .i64 (k_2+1)),(wk .i64 (i+1)))))
 else some (.inr (.inr k_2)))
noncomputable def laws_heldIntS (a:List Int) (k:Int):Option Int:=
 (zW (fun (s':Int×Int)=>laws_heldIntS_l1 a s'.1 s'.2) (k,0)).bind fun p=>(match p with | .inl c'=>some c' | .inr q=>laws_heldIntS_j1 q)
noncomputable def laws_FnExactFileLog (aS:T_laws_Store) (aPath:ByteArray) (aC:Int):Option Bool:=
 (if (decide ((aPath.size:Int) > 1048576)) then some true
 else (laws_szStore (T_laws_Store.mk aS.Commits aS.Files) 1048576).bind fun x23=>(if (decide (x23 < 0)) then some true
 else (laws_toStore (T_laws_Store.mk aS.Commits aS.Files)).bind fun x28=>(spec_FileLog (T_impl_Store.mk x28.Commits x28.Files) aPath aC).bind fun x31=>(laws_toStore (T_laws_Store.mk aS.Commits aS.Files)).bind fun x35=>(impl_FileLog (T_impl_Store.mk x35.Commits x35.Files) aPath aC).bind fun x40=>(laws_eqIntS x40.1 x31.1).bind fun x45=>(if (!x45) then some true else some (x40.2 != x31.2)).bind fun b=>(if b then some false
 else (laws_toStore (T_laws_Store.mk aS.Commits aS.Files)).bind fun x54=>(laws_eqStore (T_impl_Store.mk x35.Commits x35.Files) (T_impl_Store.mk x54.Commits x54.Files)).bind fun x55=>(if (!x55) then some false
 else (laws_markStore (T_impl_Store.mk x35.Commits x35.Files) 1).bind fun x59=>(if (decide (x59 < 0)) then some true else (laws_eqIntS x40.1 x31.1).bind fun x65=>some (!x65)).bind fun b_1=>(if b_1 then some true else some (x40.2 != x31.2)).bind fun b_2=>(if b_2 then some false
 else (laws_markIntS x40.1 1).bind fun x75=>(laws_heldIntS x75.2 1).bind fun x78=>(if (decide (x78 < 0)) then some false
 else (if (x78 != x75.1) then some false
 else (laws_toStore (T_laws_Store.mk aS.Commits aS.Files)).bind fun x86=>(impl_FileLog (T_impl_Store.mk x86.Commits x86.Files) aPath aC).bind fun x89=>(laws_eqIntS x89.1 x31.1).bind fun x94=>(if (!x94) then some true else some (x89.2 != x31.2)).bind fun b_3=>(if b_3 then some false
 else (laws_heldIntS x75.2 1).bind fun x103=>(if (decide (x103 < 0)) then some false
 else (if (x103 != x75.1) then some false
 else some true))))))))))
end Go.TV.F
