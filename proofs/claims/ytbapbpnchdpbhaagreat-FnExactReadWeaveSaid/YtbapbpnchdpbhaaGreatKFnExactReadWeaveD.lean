/- Structures and their rows. -/
import Derived.Test.YtbapbpnchdpbhaaGreatKFnExactReadWeaveT4
set_option linter.unusedVariables false
set_option linter.unusedSimpArgs false
set_option maxHeartbeats 8000000
set_option maxRecDepth 100000
namespace Go.TV
structure T_spec_l08Cur where
 text:ByteArray
 at_:Int
 bad:Bool
 deriving Inhabited
structure T_impl_Body where
 Line:ByteArray
 Ins:Int
 Ord:Int
 Dels:List Int
 deriving Inhabited
structure T_impl_Weave where
 Parents:List (List Int)
 Bodies:List T_impl_Body
 deriving Inhabited
structure T_impl_Rec where
 Kind:Int
 Version:Int
 Line:ByteArray
 deriving Inhabited
structure T_impl_scanner where
 text:ByteArray
 at_:Int
 bad:Bool
 deriving Inhabited
structure T_impl_walker where
 open_:Bool
 ins:Int
 dels:List Int
 deriving Inhabited
structure T_spec_l01Cur where
 b:List Int
 i:Int
 h:Int
 deriving Inhabited
structure T_impl_Change where
 Kind:Int
 Path:ByteArray
 To:ByteArray
 Lines:List ByteArray
 deriving Inhabited
structure T_impl_Step where
 Parents:List Int
 Note:ByteArray
 Changes:List T_impl_Change
 deriving Inhabited
structure T_impl_Name where
 Path:ByteArray
 Id:Int
 Version:Int
 deriving Inhabited
structure T_impl_Commit where
 Parents:List Int
 Note:ByteArray
 Names:List T_impl_Name
 deriving Inhabited
structure T_impl_Store where
 Commits:List T_impl_Commit
 Files:List T_impl_Weave
 deriving Inhabited
structure T_laws_Change where
 Kind:Int
 Path:ByteArray
 To:ByteArray
 Lines:List ByteArray
 deriving Inhabited
structure T_laws_Step where
 Parents:List Int
 Note:ByteArray
 Changes:List T_laws_Change
 deriving Inhabited
theorem R_u8:(∀ (l:List Int) (i:Nat) (a0:Int),(List.map (rK .u8) l).set i [.sc (.int .u8 a0)]=List.map (rK .u8) (l.set i a0)) ∧
 (∀ (l:List Int) (a0:Int),List.map (rK .u8) l++[[.sc (.int .u8 a0)]]=List.map (rK .u8) (l++[a0])) ∧
 (∀ (l:List Int) (b0 b1:Int),List.map (rK .u8) l++[[.sc (.int .u8 b0)],[.sc (.int .u8 b1)]]=List.map (rK .u8) (l++[b0,b1])) ∧
 (∀ (l:List Int) (b0 b1 b2:Int),List.map (rK .u8) l++[[.sc (.int .u8 b0)],[.sc (.int .u8 b1)],[.sc (.int .u8 b2)]]=List.map (rK .u8) (l++[b0,b1,b2])) ∧
 (∀ (l:List Int) (b0 b1 b2 b3:Int),List.map (rK .u8) l++[[.sc (.int .u8 b0)],[.sc (.int .u8 b1)],[.sc (.int .u8 b2)],[.sc (.int .u8 b3)]]=List.map (rK .u8) (l++[b0,b1,b2,b3])) ∧
 (∀ n:Nat,List.replicate n [.sc (.int .u8 0)]=List.map (rK .u8) (List.replicate n 0)) ∧
 (∀ l:List Int,jY (List.map (rK .u8) l)=List.map (rK .u8) l) ∧
 (∀ l:List Int,qY (List.map (rK .u8) l)=true) ∧
 (∀ l:List Int,zP (List.map (rK .u8) l)=true) ∧
 (∀ l:List Int,zO6 (List.map (rK .u8) l)=true):=
 ⟨fun l i a0=>yJ (rK .u8) l i a0,
 fun l a0=>qO (rK .u8) l [a0],
 fun l b0 b1=>qO (rK .u8) l [b0,b1],
 fun l b0 b1 b2=>qO (rK .u8) l [b0,b1,b2],
 fun l b0 b1 b2 b3=>qO (rK .u8) l [b0,b1,b2,b3],
 fun n=>qJ1 (rK .u8) 0 n,
 yH (fun _=>rfl),
 zP3 (fun _=>rfl),
 yZ (fun _=>rfl),
 scRw (fun _=>rfl)⟩
theorem qI:(∀ (l:List Int) (i:Nat) (a0:Int),(List.map (rK .i64) l).set i [.sc (.int .i64 a0)]=List.map (rK .i64) (l.set i a0)) ∧
 (∀ (l:List Int) (a0:Int),List.map (rK .i64) l++[[.sc (.int .i64 a0)]]=List.map (rK .i64) (l++[a0])) ∧
 (∀ (l:List Int) (b0 b1:Int),List.map (rK .i64) l++[[.sc (.int .i64 b0)],[.sc (.int .i64 b1)]]=List.map (rK .i64) (l++[b0,b1])) ∧
 (∀ (l:List Int) (b0 b1 b2:Int),List.map (rK .i64) l++[[.sc (.int .i64 b0)],[.sc (.int .i64 b1)],[.sc (.int .i64 b2)]]=List.map (rK .i64) (l++[b0,b1,b2])) ∧
 (∀ (l:List Int) (b0 b1 b2 b3:Int),List.map (rK .i64) l++[[.sc (.int .i64 b0)],[.sc (.int .i64 b1)],[.sc (.int .i64 b2)],[.sc (.int .i64 b3)]]=List.map (rK .i64) (l++[b0,b1,b2,b3])) ∧
 (∀ n:Nat,List.replicate n [.sc (.int .i64 0)]=List.map (rK .i64) (List.replicate n 0)) ∧
 (∀ l:List Int,jY (List.map (rK .i64) l)=List.map (rK .i64) l) ∧
 (∀ l:List Int,qY (List.map (rK .i64) l)=true) ∧
 (∀ l:List Int,zP (List.map (rK .i64) l)=true) ∧
 (∀ l:List Int,zO6 (List.map (rK .i64) l)=true):=
 ⟨fun l i a0=>yJ (rK .i64) l i a0,
 fun l a0=>qO (rK .i64) l [a0],
 fun l b0 b1=>qO (rK .i64) l [b0,b1],
 fun l b0 b1 b2=>qO (rK .i64) l [b0,b1,b2],
 fun l b0 b1 b2 b3=>qO (rK .i64) l [b0,b1,b2,b3],
 fun n=>qJ1 (rK .i64) 0 n,
 yH (fun _=>rfl),
 zP3 (fun _=>rfl),
 yZ (fun _=>rfl),
 scRw (fun _=>rfl)⟩
theorem jJ:(∀ (l:List (List Int)) (i:Nat) (a0:List Int),(List.map (rL true 1 (rK .i64)) l).set i [.list true 1 (List.map (rK .i64) a0)]=List.map (rL true 1 (rK .i64)) (l.set i a0)) ∧
 (∀ (l:List (List Int)) (a0:List Int),List.map (rL true 1 (rK .i64)) l++[[.list true 1 (List.map (rK .i64) a0)]]=List.map (rL true 1 (rK .i64)) (l++[a0])) ∧
 (∀ (l:List (List Int)) (i:Nat) (a0:List Int),(List.map (rL false 1 (rK .i64)) l).set i [.list false 1 (List.map (rK .i64) a0)]=List.map (rL false 1 (rK .i64)) (l.set i a0)) ∧
 (∀ (l:List (List Int)) (a0:List Int),List.map (rL false 1 (rK .i64)) l++[[.list false 1 (List.map (rK .i64) a0)]]=List.map (rL false 1 (rK .i64)) (l++[a0])) ∧
 (∀ (l:List (List Int)) (i:Nat),(List.map (rL true 1 (rK .i64)) l).set i [.list true 1 []]=List.map (rL true 1 (rK .i64)) (l.set i [])) ∧
 (∀ (l:List (List Int)),List.map (rL true 1 (rK .i64)) l++[[.list true 1 []]]=List.map (rL true 1 (rK .i64)) (l++[[]])) ∧
 (∀ l:List (List Int),jY (List.map (rL true 1 (rK .i64)) l)=List.map (rL false 1 (rK .i64)) l) ∧
 (∀ l:List (List Int),qY (List.map (rL true 1 (rK .i64)) l)=true) ∧
 (∀ l:List (List Int),jY (List.map (rL false 1 (rK .i64)) l)=List.map (rL false 1 (rK .i64)) l) ∧
 (∀ l:List (List Int),qY (List.map (rL false 1 (rK .i64)) l)=true) ∧
 (∀ l:List (List Int),zP (List.map (rL true 1 (rK .i64)) l)=true):=
 ⟨fun l i a0=>yJ (rL true 1 (rK .i64)) l i a0,
 fun l a0=>qO (rL true 1 (rK .i64)) l [a0],
 fun l i a0=>yJ (rL false 1 (rK .i64)) l i a0,
 fun l a0=>qO (rL false 1 (rK .i64)) l [a0],
 fun l i=>yJ (rL true 1 (rK .i64)) l i [],
 fun l=>qO (rL true 1 (rK .i64)) l [[]],
 yH (bor_rL (fun _=>rfl)),
 zP3 (fun _=>rfl),
 yH (bor_rL (fun _=>rfl)),
 zP3 (fun _=>rfl),
 yZ (nb_rL (fun _=>rfl))⟩
theorem R_b:(∀ (l:List Bool) (i:Nat) (a0:Bool),(List.map rB l).set i [.sc (.bool a0)]=List.map rB (l.set i a0)) ∧
 (∀ (l:List Bool) (a0:Bool),List.map rB l++[[.sc (.bool a0)]]=List.map rB (l++[a0])) ∧
 (∀ (l:List Bool) (b0 b1:Bool),List.map rB l++[[.sc (.bool b0)],[.sc (.bool b1)]]=List.map rB (l++[b0,b1])) ∧
 (∀ (l:List Bool) (b0 b1 b2:Bool),List.map rB l++[[.sc (.bool b0)],[.sc (.bool b1)],[.sc (.bool b2)]]=List.map rB (l++[b0,b1,b2])) ∧
 (∀ (l:List Bool) (b0 b1 b2 b3:Bool),List.map rB l++[[.sc (.bool b0)],[.sc (.bool b1)],[.sc (.bool b2)],[.sc (.bool b3)]]=List.map rB (l++[b0,b1,b2,b3])) ∧
 (∀ n:Nat,List.replicate n [.sc (.bool false)]=List.map rB (List.replicate n false)) ∧
 (∀ l:List Bool,jY (List.map rB l)=List.map rB l) ∧
 (∀ l:List Bool,qY (List.map rB l)=true) ∧
 (∀ l:List Bool,zP (List.map rB l)=true) ∧
 (∀ l:List Bool,zO6 (List.map rB l)=true):=
 ⟨fun l i a0=>yJ rB l i a0,
 fun l a0=>qO rB l [a0],
 fun l b0 b1=>qO rB l [b0,b1],
 fun l b0 b1 b2=>qO rB l [b0,b1,b2],
 fun l b0 b1 b2 b3=>qO rB l [b0,b1,b2,b3],
 fun n=>qJ1 rB false n,
 yH (fun _=>rfl),
 zP3 (fun _=>rfl),
 yZ (fun _=>rfl),
 scRw (fun _=>rfl)⟩
def zA (o:Bool) (x:T_impl_Body):List V:=[.sc (.string x.Line),.sc (.int .i64 x.Ins),.sc (.int .i64 x.Ord),.list o 1 (List.map (rK .i64) x.Dels)]
theorem zM:(∀ (l:List T_impl_Body) (i:Nat) (a0:ByteArray) (a1:Int) (a2:Int) (a3:List Int),(List.map (zA true) l).set i [.sc (.string a0),.sc (.int .i64 a1),.sc (.int .i64 a2),.list true 1 (List.map (rK .i64) a3)]=List.map (zA true) (l.set i (T_impl_Body.mk a0 a1 a2 a3))) ∧
 (∀ (l:List T_impl_Body) (a0:ByteArray) (a1:Int) (a2:Int) (a3:List Int),List.map (zA true) l++[[.sc (.string a0),.sc (.int .i64 a1),.sc (.int .i64 a2),.list true 1 (List.map (rK .i64) a3)]]=List.map (zA true) (l++[(T_impl_Body.mk a0 a1 a2 a3)])) ∧
 (∀ (l:List T_impl_Body) (i:Nat) (a0:ByteArray) (a1:Int) (a2:Int) (a3:List Int),(List.map (zA false) l).set i [.sc (.string a0),.sc (.int .i64 a1),.sc (.int .i64 a2),.list false 1 (List.map (rK .i64) a3)]=List.map (zA false) (l.set i (T_impl_Body.mk a0 a1 a2 a3))) ∧
 (∀ (l:List T_impl_Body) (a0:ByteArray) (a1:Int) (a2:Int) (a3:List Int),List.map (zA false) l++[[.sc (.string a0),.sc (.int .i64 a1),.sc (.int .i64 a2),.list false 1 (List.map (rK .i64) a3)]]=List.map (zA false) (l++[(T_impl_Body.mk a0 a1 a2 a3)])) ∧
 (∀ (l:List T_impl_Body) (i:Nat) (a0:ByteArray) (a1:Int) (a2:Int),(List.map (zA true) l).set i [.sc (.string a0),.sc (.int .i64 a1),.sc (.int .i64 a2),.list true 1 []]=List.map (zA true) (l.set i (T_impl_Body.mk a0 a1 a2 []))) ∧
 (∀ (l:List T_impl_Body) (a0:ByteArray) (a1:Int) (a2:Int),List.map (zA true) l++[[.sc (.string a0),.sc (.int .i64 a1),.sc (.int .i64 a2),.list true 1 []]]=List.map (zA true) (l++[(T_impl_Body.mk a0 a1 a2 [])])) ∧
 (∀ l:List T_impl_Body,jY (List.map (zA true) l)=List.map (zA false) l) ∧
 (∀ l:List T_impl_Body,qY (List.map (zA true) l)=true) ∧
 (∀ l:List T_impl_Body,jY (List.map (zA false) l)=List.map (zA false) l) ∧
 (∀ l:List T_impl_Body,qY (List.map (zA false) l)=true) ∧
 (∀ l:List T_impl_Body,zP (List.map (zA true) l)=true) ∧
 (∀ x:T_impl_Body,zA true x=[.sc (.string x.Line),.sc (.int .i64 x.Ins),.sc (.int .i64 x.Ord),.list true 1 (List.map (rK .i64) x.Dels)]) ∧
 (∀ x:T_impl_Body,zA false x=[.sc (.string x.Line),.sc (.int .i64 x.Ins),.sc (.int .i64 x.Ord),.list false 1 (List.map (rK .i64) x.Dels)]):=
 ⟨fun l i a0 a1 a2 a3=>yJ (zA true) l i (T_impl_Body.mk a0 a1 a2 a3),
 fun l a0 a1 a2 a3=>qO (zA true) l [(T_impl_Body.mk a0 a1 a2 a3)],
 fun l i a0 a1 a2 a3=>yJ (zA false) l i (T_impl_Body.mk a0 a1 a2 a3),
 fun l a0 a1 a2 a3=>qO (zA false) l [(T_impl_Body.mk a0 a1 a2 a3)],
 fun l i a0 a1 a2=>yJ (zA true) l i (T_impl_Body.mk a0 a1 a2 []),
 fun l a0 a1 a2=>qO (zA true) l [(T_impl_Body.mk a0 a1 a2 [])],
 yH (fun x=>by simp only [zA,qB,V.bor,(show ∀ l:List Int,jY (List.map (rK .i64) l)=List.map (rK .i64) l from yH (fun _=>rfl))]),
 zP3 (fun _=>rfl),
 yH (fun x=>by simp only [zA,qB,V.bor,(show ∀ l:List Int,jY (List.map (rK .i64) l)=List.map (rK .i64) l from yH (fun _=>rfl))]),
 zP3 (fun _=>rfl),
 yZ (fun x=>by simp only [zA,zT,V.noBor,Bool.and_true,Bool.true_and,(show ∀ l:List Int,zP (List.map (rK .i64) l)=true from yZ (fun _=>rfl))]),
 fun _=>rfl,
 fun _=>rfl⟩
theorem R_Lb:(∀ (l:List (List Bool)) (i:Nat) (a0:List Bool),(List.map (rL true 1 rB) l).set i [.list true 1 (List.map rB a0)]=List.map (rL true 1 rB) (l.set i a0)) ∧
 (∀ (l:List (List Bool)) (a0:List Bool),List.map (rL true 1 rB) l++[[.list true 1 (List.map rB a0)]]=List.map (rL true 1 rB) (l++[a0])) ∧
 (∀ (l:List (List Bool)) (i:Nat) (a0:List Bool),(List.map (rL false 1 rB) l).set i [.list false 1 (List.map rB a0)]=List.map (rL false 1 rB) (l.set i a0)) ∧
 (∀ (l:List (List Bool)) (a0:List Bool),List.map (rL false 1 rB) l++[[.list false 1 (List.map rB a0)]]=List.map (rL false 1 rB) (l++[a0])) ∧
 (∀ (l:List (List Bool)) (i:Nat),(List.map (rL true 1 rB) l).set i [.list true 1 []]=List.map (rL true 1 rB) (l.set i [])) ∧
 (∀ (l:List (List Bool)),List.map (rL true 1 rB) l++[[.list true 1 []]]=List.map (rL true 1 rB) (l++[[]])) ∧
 (∀ l:List (List Bool),jY (List.map (rL true 1 rB) l)=List.map (rL false 1 rB) l) ∧
 (∀ l:List (List Bool),qY (List.map (rL true 1 rB) l)=true) ∧
 (∀ l:List (List Bool),jY (List.map (rL false 1 rB) l)=List.map (rL false 1 rB) l) ∧
 (∀ l:List (List Bool),qY (List.map (rL false 1 rB) l)=true) ∧
 (∀ l:List (List Bool),zP (List.map (rL true 1 rB) l)=true):=
 ⟨fun l i a0=>yJ (rL true 1 rB) l i a0,
 fun l a0=>qO (rL true 1 rB) l [a0],
 fun l i a0=>yJ (rL false 1 rB) l i a0,
 fun l a0=>qO (rL false 1 rB) l [a0],
 fun l i=>yJ (rL true 1 rB) l i [],
 fun l=>qO (rL true 1 rB) l [[]],
 yH (bor_rL (fun _=>rfl)),
 zP3 (fun _=>rfl),
 yH (bor_rL (fun _=>rfl)),
 zP3 (fun _=>rfl),
 yZ (nb_rL (fun _=>rfl))⟩
def zB (o:Bool) (x:T_impl_Rec):List V:=[.sc (.int .i64 x.Kind),.sc (.int .i64 x.Version),.sc (.string x.Line)]
theorem xJ:(∀ (l:List T_impl_Rec) (i:Nat) (a0:Int) (a1:Int) (a2:ByteArray),(List.map (zB true) l).set i [.sc (.int .i64 a0),.sc (.int .i64 a1),.sc (.string a2)]=List.map (zB true) (l.set i (T_impl_Rec.mk a0 a1 a2))) ∧
 (∀ (l:List T_impl_Rec) (a0:Int) (a1:Int) (a2:ByteArray),List.map (zB true) l++[[.sc (.int .i64 a0),.sc (.int .i64 a1),.sc (.string a2)]]=List.map (zB true) (l++[(T_impl_Rec.mk a0 a1 a2)])) ∧
 (∀ (l:List T_impl_Rec) (i:Nat) (a0:Int) (a1:Int) (a2:ByteArray),(List.map (zB true) l).set i [.sc (.int .i64 a0),.sc (.int .i64 a1),.sc (.string a2)]=List.map (zB true) (l.set i (T_impl_Rec.mk a0 a1 a2))) ∧
 (∀ (l:List T_impl_Rec) (a0:Int) (a1:Int) (a2:ByteArray),List.map (zB true) l++[[.sc (.int .i64 a0),.sc (.int .i64 a1),.sc (.string a2)]]=List.map (zB true) (l++[(T_impl_Rec.mk a0 a1 a2)])) ∧
 (∀ l:List T_impl_Rec,jY (List.map (zB true) l)=List.map (zB true) l) ∧
 (∀ l:List T_impl_Rec,qY (List.map (zB true) l)=true) ∧
 (∀ l:List T_impl_Rec,jY (List.map (zB true) l)=List.map (zB true) l) ∧
 (∀ l:List T_impl_Rec,qY (List.map (zB true) l)=true) ∧
 (∀ l:List T_impl_Rec,zP (List.map (zB true) l)=true) ∧
 (∀ l:List T_impl_Rec,zO6 (List.map (zB true) l)=true) ∧
 (∀ x:T_impl_Rec,zB true x=[.sc (.int .i64 x.Kind),.sc (.int .i64 x.Version),.sc (.string x.Line)]) ∧
 (∀ x:T_impl_Rec,zB false x=[.sc (.int .i64 x.Kind),.sc (.int .i64 x.Version),.sc (.string x.Line)]):=
 ⟨fun l i a0 a1 a2=>yJ (zB true) l i (T_impl_Rec.mk a0 a1 a2),
 fun l a0 a1 a2=>qO (zB true) l [(T_impl_Rec.mk a0 a1 a2)],
 fun l i a0 a1 a2=>yJ (zB true) l i (T_impl_Rec.mk a0 a1 a2),
 fun l a0 a1 a2=>qO (zB true) l [(T_impl_Rec.mk a0 a1 a2)],
 yH (fun _=>rfl),
 zP3 (fun _=>rfl),
 yH (fun _=>rfl),
 zP3 (fun _=>rfl),
 yZ (fun _=>rfl),
 scRw (fun _=>rfl),
 fun _=>rfl,
 fun _=>rfl⟩
theorem R_s:(∀ (l:List ByteArray) (i:Nat) (a0:ByteArray),(List.map rS l).set i [.sc (.string a0)]=List.map rS (l.set i a0)) ∧
 (∀ (l:List ByteArray) (a0:ByteArray),List.map rS l++[[.sc (.string a0)]]=List.map rS (l++[a0])) ∧
 (∀ (l:List ByteArray) (b0 b1:ByteArray),List.map rS l++[[.sc (.string b0)],[.sc (.string b1)]]=List.map rS (l++[b0,b1])) ∧
 (∀ (l:List ByteArray) (b0 b1 b2:ByteArray),List.map rS l++[[.sc (.string b0)],[.sc (.string b1)],[.sc (.string b2)]]=List.map rS (l++[b0,b1,b2])) ∧
 (∀ (l:List ByteArray) (b0 b1 b2 b3:ByteArray),List.map rS l++[[.sc (.string b0)],[.sc (.string b1)],[.sc (.string b2)],[.sc (.string b3)]]=List.map rS (l++[b0,b1,b2,b3])) ∧
 (∀ n:Nat,List.replicate n [.sc (.string (ByteArray.mk #[]))]=List.map rS (List.replicate n (ByteArray.mk #[]))) ∧
 (∀ l:List ByteArray,jY (List.map rS l)=List.map rS l) ∧
 (∀ l:List ByteArray,qY (List.map rS l)=true) ∧
 (∀ l:List ByteArray,zP (List.map rS l)=true) ∧
 (∀ l:List ByteArray,zO6 (List.map rS l)=true):=
 ⟨fun l i a0=>yJ rS l i a0,
 fun l a0=>qO rS l [a0],
 fun l b0 b1=>qO rS l [b0,b1],
 fun l b0 b1 b2=>qO rS l [b0,b1,b2],
 fun l b0 b1 b2 b3=>qO rS l [b0,b1,b2,b3],
 fun n=>qJ1 rS (ByteArray.mk #[]) n,
 yH (fun _=>rfl),
 zP3 (fun _=>rfl),
 yZ (fun _=>rfl),
 scRw (fun _=>rfl)⟩
theorem R_u64:(∀ (l:List Int) (i:Nat) (a0:Int),(List.map (rK .u64) l).set i [.sc (.int .u64 a0)]=List.map (rK .u64) (l.set i a0)) ∧
 (∀ (l:List Int) (a0:Int),List.map (rK .u64) l++[[.sc (.int .u64 a0)]]=List.map (rK .u64) (l++[a0])) ∧
 (∀ (l:List Int) (b0 b1:Int),List.map (rK .u64) l++[[.sc (.int .u64 b0)],[.sc (.int .u64 b1)]]=List.map (rK .u64) (l++[b0,b1])) ∧
 (∀ (l:List Int) (b0 b1 b2:Int),List.map (rK .u64) l++[[.sc (.int .u64 b0)],[.sc (.int .u64 b1)],[.sc (.int .u64 b2)]]=List.map (rK .u64) (l++[b0,b1,b2])) ∧
 (∀ (l:List Int) (b0 b1 b2 b3:Int),List.map (rK .u64) l++[[.sc (.int .u64 b0)],[.sc (.int .u64 b1)],[.sc (.int .u64 b2)],[.sc (.int .u64 b3)]]=List.map (rK .u64) (l++[b0,b1,b2,b3])) ∧
 (∀ n:Nat,List.replicate n [.sc (.int .u64 0)]=List.map (rK .u64) (List.replicate n 0)) ∧
 (∀ l:List Int,jY (List.map (rK .u64) l)=List.map (rK .u64) l) ∧
 (∀ l:List Int,qY (List.map (rK .u64) l)=true) ∧
 (∀ l:List Int,zP (List.map (rK .u64) l)=true) ∧
 (∀ l:List Int,zO6 (List.map (rK .u64) l)=true):=
 ⟨fun l i a0=>yJ (rK .u64) l i a0,
 fun l a0=>qO (rK .u64) l [a0],
 fun l b0 b1=>qO (rK .u64) l [b0,b1],
 fun l b0 b1 b2=>qO (rK .u64) l [b0,b1,b2],
 fun l b0 b1 b2 b3=>qO (rK .u64) l [b0,b1,b2,b3],
 fun n=>qJ1 (rK .u64) 0 n,
 yH (fun _=>rfl),
 zP3 (fun _=>rfl),
 yZ (fun _=>rfl),
 scRw (fun _=>rfl)⟩
end Go.TV
namespace Go.TV.F
noncomputable def qC2 (sum_1:Int):Option (Int):=
 some sum_1
noncomputable def zK0 (i:Int) (sum_3:Int):Option ((Int×Int)⊕(Int)):=
 some (.inl (sum_3,(wk .i64 (i+1))))
noncomputable def xE (sum_4:Int) (k:Int):Option ((Int×Int)⊕(Int)):=
 (if (decide (k < 8)) then (if ((sum_4.tmod 2) == 1) then some (.inl ((bits .xor .u32 (wk .u32 (sum_4.tdiv 2)) 3558460437),(wk .i64 (k+1))))
 else some (.inl ((wk .u32 (sum_4.tdiv 2)),(wk .i64 (k+1)))))
 else some (.inr sum_4))
noncomputable def xY (text:ByteArray) (sum_2:Int) (i:Int):Option ((Int×Int)⊕(Int)):=
 (if (decide (i < (text.size:Int))) then (sidx text i).bind fun x17=>(zC (fun (s':Int×Int)=>xE s'.1 s'.2) ((bits .xor .u32 sum_2 (wk .u32 x17)),0)).bind fun p_1=>zK0 i p_1
 else some (.inr sum_2))
noncomputable def zO8 (sum:Int) (text:ByteArray):Option Int:=
 (zC (fun (s':Int×Int)=>xY text s'.1 s'.2) (sum,0)).bind fun p=>qC2 p
noncomputable def vL (text:ByteArray):Option Int:=
 (zO8 4294967295 text).bind fun x4=>some x4
noncomputable def kT (x:Int):Option ByteArray:=
 some (mkS [(wk .u8 (xL .u32 x 24)),(wk .u8 (xL .u32 x 16)),(wk .u8 (xL .u32 x 8)),(wk .u8 x)])
noncomputable def zD3 (text:ByteArray):Option (ByteArray×Bool):=
 (if (decide ((wk .i64 ((text.size:Int) - 4)) < 0)) then some true else some (decide ((wk .i64 ((text.size:Int) - 4)) > 60000))).bind fun b=>(if b then some true else (subL text (wk .i64 ((text.size:Int) - 4))).bind fun x17=>(subH text (wk .i64 ((text.size:Int) - 4))).bind fun x20=>(vL x20).bind fun x21=>(kT x21).bind fun x22=>some (!(x17.toList == x22.toList))).bind fun b_1=>(if b_1 then some ((ByteArray.mk #[]),false)
 else (subH text (wk .i64 ((text.size:Int) - 4))).bind fun x27=>some (x27,true))
noncomputable def jC (c:T_spec_l08Cur) (n:Int):Option (ByteArray×T_spec_l08Cur):=
 (if c.bad then some true else some (decide (n > (wk .i64 ((c.text.size:Int) - c.at_))))).bind fun b=>(if b then some ((ByteArray.mk #[]),(T_spec_l08Cur.mk c.text c.at_ true))
 else (sub2 c.text (wk .i64 ((wk .i64 (c.at_+n)) - n)) (wk .i64 (c.at_+n))).bind fun x49=>some (x49,(T_spec_l08Cur.mk c.text (wk .i64 (c.at_+n)) c.bad)))
noncomputable def xS (x:Int) (least:Int) (most:Int):Option Bool:=
 (if (decide (x≥least)) then some (decide (x≤most)) else some false).bind fun b=>some b
noncomputable def zW5 (n_1:Int) (out_:List Int):Option (ByteArray):=
 (qE out_ [(wk .u8 n_1)]).bind fun l=>some (mkS l)
noncomputable def zO9 (n_2:Int) (out__1:List Int):Option ((Int×(List Int))⊕(Int×(List Int))):=
 (if (decide (n_2 > 127)) then (qE out__1 [(wk .u8 (wk .i64 ((n_2.tmod 128)+128)))]).bind fun l_1=>some (.inl ((wk .i64 (n_2.tdiv 128)),l_1))
 else some (.inr (n_2,out__1)))
noncomputable def wE (n:Int):Option ByteArray:=
 (zC (fun (s':Int×(List Int))=>zO9 s'.1 s'.2) (n,[])).bind fun p=>zW5 p.1 p.2
noncomputable def qC5:Option (Int×Int×Bool):=
 some (0,0,false)
noncomputable def zJ4 (text:ByteArray) (at_:Int) (n:Int) (scale:Int) (i:Int):Option ((Int×Int×Int)⊕((Int×Int×Bool)⊕(Unit))):=
 (if (decide (i < (text.size:Int))) then some (decide (i < (wk .i64 (at_+5)))) else some false).bind fun b=>(if b then (sidx text i).bind fun x31=>(if (decide (x31 < 128)) then (if (decide ((wk .i64 (n+(wk .i64 (((wk .i64 x31).tmod 128) * scale)))) > 1000000000)) then some true else (wE (wk .i64 (n+(wk .i64 (((wk .i64 x31).tmod 128) * scale))))).bind fun x47=>(sub2 text at_ (wk .i64 (i+1))).bind fun x52=>some (!(x47.toList == x52.toList))).bind fun b_1=>(if b_1 then some (.inr (.inl (0,0,false)))
 else some (.inr (.inl ((wk .i64 (n+(wk .i64 (((wk .i64 x31).tmod 128) * scale)))),(wk .i64 (i+1)),true))))
 else some (.inl ((wk .i64 (n+(wk .i64 (((wk .i64 x31).tmod 128) * scale)))),(wk .i64 (scale * 128)),(wk .i64 (i+1)))))
 else some (.inr (.inr ())))
noncomputable def zN1 (text:ByteArray) (at_:Int):Option (Int×Int×Bool):=
 (xS at_ 0 (text.size:Int)).bind fun x13=>(if (!x13) then some (0,0,false)
 else (zC (fun (s':Int×Int×Int)=>zJ4 text at_ s'.1 s'.2.1 s'.2.2) (0,1,at_)).bind fun p=>(match p with | .inl c'=>some c' | .inr q=>qC5))
noncomputable def jF (c:T_spec_l08Cur) (most:Int):Option (Int×T_spec_l08Cur):=
 (zN1 c.text c.at_).bind fun x17=>(if c.bad then some true else some (!x17.2.2)).bind fun b=>(if b then some true else some (decide (x17.1 > most))).bind fun b_1=>(if b_1 then some (0,(T_spec_l08Cur.mk c.text c.at_ true))
 else some (x17.1,(T_spec_l08Cur.mk c.text x17.2.1 c.bad)))
noncomputable def zF8 (text:ByteArray) (at_:Int):Option (ByteArray×Int×Bool):=
 (zN1 text at_).bind fun x13=>(if (!x13.2.2) then some true else some (decide (x13.1 > 60000))).bind fun b=>(if b then some true else some (decide (x13.1 > (wk .i64 ((text.size:Int) - x13.2.1))))).bind fun b_1=>(if b_1 then some ((ByteArray.mk #[]),0,false)
 else (sub2 text x13.2.1 (wk .i64 (x13.2.1+x13.1))).bind fun x36=>some (x36,(wk .i64 (x13.2.1+x13.1)),true))
noncomputable def uO (c:T_spec_l08Cur):Option (ByteArray×T_spec_l08Cur):=
 (zF8 c.text c.at_).bind fun x15=>(if c.bad then some true else some (!x15.2.2)).bind fun b=>(if b then some ((ByteArray.mk #[]),(T_spec_l08Cur.mk c.text c.at_ true))
 else some (x15.1,(T_spec_l08Cur.mk c.text x15.2.1 c.bad)))
noncomputable def qB1:Option (Bool):=
 some true
noncomputable def kC (list_:List Int) (n:Int) (i:Int):Option ((Int)⊕((Bool)⊕(Unit))):=
 (if (decide (i < (list_.length:Int))) then (zI list_ i).bind fun x=>(xS x 0 (wk .i64 (n - 1))).bind fun x18=>(if (!x18) then some true else (if (decide (i > 0)) then (zI list_ (wk .i64 (i - 1))).bind fun x_1=>some (decide (x_1≥x)) else some false).bind fun b_1=>some b_1).bind fun b=>(if b then some (.inr (.inl false))
 else some (.inl (wk .i64 (i+1))))
 else some (.inr (.inr ())))
noncomputable def zN6 (list_:List Int) (n:Int):Option Bool:=
 (zC (fun (s':Int)=>kC list_ n s') (0)).bind fun p=>(match p with | .inl c'=>some c' | .inr q=>qB1)
noncomputable def zS9:Option (Bool):=
 some true
noncomputable def kF (parents:List (List Int)) (v:Int):Option ((Int)⊕((Bool)⊕(Unit))):=
 (if (decide (v < (parents.length:Int))) then (zI parents v).bind fun x=>(if (decide ((x.length:Int) > 4)) then some true else (zN6 x v).bind fun x25=>some (!x25)).bind fun b=>(if b then some (.inr (.inl false))
 else some (.inl (wk .i64 (v+1))))
 else some (.inr (.inr ())))
noncomputable def zO4 (parents:List (List Int)):Option Bool:=
 (if (decide ((parents.length:Int) > 40)) then some false
 else (zC (fun (s':Int)=>kF parents s') (0)).bind fun p=>(match p with | .inl c'=>some c' | .inr q=>zS9))
noncomputable def qC6 (out__1:List Int):Option ((List Int)):=
 some out__1
noncomputable def zC4 (list_:List Int) (x:Int) (i:Int) (out__2:List Int):Option ((Int×(List Int))⊕((List Int))):=
 (if (decide (i < (list_.length:Int))) then (zI list_ i).bind fun x_1=>(if (decide (x_1 > x)) then (qE out__2 [x_1]).bind fun l_1=>some (.inl ((wk .i64 (i+1)),l_1))
 else some (.inl ((wk .i64 (i+1)),out__2)))
 else some (.inr out__2))
noncomputable def zT0 (list_:List Int) (x:Int) (out_:List Int):Option ((List Int)):=
 (qE out_ [x]).bind fun l=>(zC (fun (s':Int×(List Int))=>zC4 list_ x s'.1 s'.2) (0,l)).bind fun p=>qC6 p
noncomputable def zD1 (list_:List Int) (x:Int) (i_1:Int) (out__3:List Int):Option ((Int×(List Int))⊕((List Int))):=
 (if (decide (i_1 < (list_.length:Int))) then (zI list_ i_1).bind fun x_2=>(if (decide (x_2 < x)) then (qE out__3 [x_2]).bind fun l_2=>some (.inl ((wk .i64 (i_1+1)),l_2))
 else some (.inl ((wk .i64 (i_1+1)),out__3)))
 else some (.inr out__3))
noncomputable def zT6 (list_:List Int) (x:Int):Option (List Int):=
 (zC (fun (s':Int×(List Int))=>zD1 list_ x s'.1 s'.2) (0,[])).bind fun p_1=>zT0 list_ x p_1
noncomputable def zV1 (out_:List Int):Option ((List Int)):=
 some out_
noncomputable def uD (list_:List Int) (x:Int) (i:Int) (out__1:List Int):Option ((Int×(List Int))⊕((List Int))):=
 (if (decide (i < (list_.length:Int))) then (zI list_ i).bind fun x_1=>(if (x_1 != x) then (qE out__1 [x_1]).bind fun l=>some (.inl ((wk .i64 (i+1)),l))
 else some (.inl ((wk .i64 (i+1)),out__1)))
 else some (.inr out__1))
noncomputable def zK9 (list_:List Int) (x:Int):Option (List Int):=
 (zC (fun (s':Int×(List Int))=>uD list_ x s'.1 s'.2) (0,[])).bind fun p=>zV1 p
noncomputable def zW4 (in__1:List Bool):Option ((List Bool)):=
 some in__1
noncomputable def zV9 (v:Int) (in__3:List Bool):Option ((Int×(List Bool))⊕((List Bool))):=
 some (.inl ((wk .i64 (v - 1)),in__3))
noncomputable def uA (parents:List (List Int)) (v:Int) (k:Int) (in__4:List Bool):Option ((Int×(List Bool))⊕((List Bool))):=
 (zI parents v).bind fun x=>(if (decide (k < (x.length:Int))) then (zI in__4 v).bind fun x_1=>some x_1 else some false).bind fun b=>(if b then (zI parents v).bind fun x_2=>(zI x_2 k).bind fun x_3=>(zI in__4 x_3).bind fun x_4=>some (.inl ((wk .i64 (k+1)),(in__4.set x_3.toNat true)))
 else some (.inr in__4))
noncomputable def uB (parents:List (List Int)) (v:Int) (in__2:List Bool):Option ((Int×(List Bool))⊕((List Bool))):=
 (if (decide (v≥0)) then (zC (fun (s':Int×(List Bool))=>uA parents v s'.1 s'.2) (0,in__2)).bind fun p_1=>zV9 v p_1
 else some (.inr in__2))
noncomputable def zV4 (parents:List (List Int)) (in_:List Bool):Option ((List Bool)):=
 (zC (fun (s':Int×(List Bool))=>uB parents s'.1 s'.2) ((wk .i64 ((parents.length:Int) - 1)),in_)).bind fun p=>zW4 p
noncomputable def uC (parents:List (List Int)) (list_:List Int) (i:Int) (in__5:List Bool):Option ((Int×(List Bool))⊕((List Bool))):=
 (if (decide (i < (list_.length:Int))) then (zI list_ i).bind fun x_5=>(xS x_5 0 (wk .i64 ((parents.length:Int) - 1))).bind fun x25=>(if x25 then (zI in__5 x_5).bind fun x_6=>some (.inl ((wk .i64 (i+1)),(in__5.set x_5.toNat true)))
 else some (.inl ((wk .i64 (i+1)),in__5)))
 else some (.inr in__5))
noncomputable def zR5 (parents:List (List Int)) (list_:List Int):Option (List Bool):=
 ((mkl (parents.length:Int) (parents.length:Int) false:Option (List Bool))).bind fun x11=>(zC (fun (s':Int×(List Bool))=>uC parents list_ s'.1 s'.2) (0,x11)).bind fun p_2=>zV4 parents p_2
noncomputable def zW3 (line:ByteArray):Option (Bool):=
 some (decide ((line.size:Int)≤60))
noncomputable def uY (line:ByteArray) (i:Int):Option ((Int)⊕((Bool)⊕(Unit))):=
 (if (decide (i < (line.size:Int))) then (sidx line i).bind fun x12=>(if (x12 == 10) then some (.inr (.inl false))
 else some (.inl (wk .i64 (i+1))))
 else some (.inr (.inr ())))
noncomputable def zR4 (line:ByteArray):Option Bool:=
 (zC (fun (s':Int)=>uY line s') (0)).bind fun p=>(match p with | .inl c'=>some c' | .inr q=>zW3 line)
noncomputable def qD4:Option (Bool):=
 some true
noncomputable def zD0 (b:T_impl_Body) (in_:List Bool) (i:Int):Option ((Int)⊕((Bool)⊕(Unit))):=
 (if (decide (i < (b.Dels.length:Int))) then (zI b.Dels i).bind fun x_1=>(xS x_1 0 (wk .i64 ((in_.length:Int) - 1))).bind fun x36=>(if x36 then (zI in_ x_1).bind fun x_2=>some x_2 else some false).bind fun b_2=>(if b_2 then some (.inr (.inl false))
 else some (.inl (wk .i64 (i+1))))
 else some (.inr (.inr ())))
noncomputable def zB7 (b:T_impl_Body) (in_:List Bool):Option Bool:=
 (xS b.Ins 0 (wk .i64 ((in_.length:Int) - 1))).bind fun x11=>(if (!x11) then some true else (zI in_ b.Ins).bind fun x=>some (!x)).bind fun b_1=>(if b_1 then some false
 else (zC (fun (s':Int)=>zD0 b in_ s') (0)).bind fun p=>(match p with | .inl c'=>some c' | .inr q=>qD4))
noncomputable def yN (w:T_impl_Weave) (v:Int):Option (List Bool):=
 (zR5 w.Parents [v]).bind fun x9=>some x9
noncomputable def zX0 (out_:List Int):Option ((List Int)):=
 some out_
noncomputable def kX (w:T_impl_Weave) (in_:List Bool) (i:Int) (out__1:List Int):Option ((Int×(List Int))⊕((List Int))):=
 (if (decide (i < (w.Bodies.length:Int))) then (zI w.Bodies i).bind fun x=>(zB7 (T_impl_Body.mk x.Line x.Ins x.Ord x.Dels) in_).bind fun x21=>(if x21 then (qE out__1 [i]).bind fun l=>some (.inl ((wk .i64 (i+1)),l))
 else some (.inl ((wk .i64 (i+1)),out__1)))
 else some (.inr out__1))
noncomputable def uE (w:T_impl_Weave) (in_:List Bool):Option (List Int):=
 (zC (fun (s':Int×(List Int))=>kX w in_ s'.1 s'.2) (0,[])).bind fun p=>zX0 p
noncomputable def qB0:Option (Bool):=
 some true
noncomputable def zC7 (w:T_impl_Weave) (born:List Int) (v:Int):Option ((Int)⊕((Bool)⊕(Unit))):=
 (if (decide (v < (w.Parents.length:Int))) then (zI born v).bind fun x=>(if (decide (x > 80)) then some true else (yN (T_impl_Weave.mk w.Parents w.Bodies) v).bind fun x126=>(uE (T_impl_Weave.mk w.Parents w.Bodies) x126).bind fun x127=>some (decide ((x127.length:Int) > 80))).bind fun b_1=>(if b_1 then some (.inr (.inl false))
 else some (.inl (wk .i64 (v+1))))
 else some (.inr (.inr ())))
noncomputable def zK5 (w:T_impl_Weave) (born:List Int):Option (Bool):=
 (zC (fun (s':Int)=>zC7 w born s') (0)).bind fun p=>(match p with | .inl c'=>some c' | .inr q=>qB0)
noncomputable def zS6 (i:Int) (born_2:List Int):Option ((Int×(List Int))⊕((Bool)⊕((List Int)))):=
 some (.inl ((wk .i64 (i+1)),born_2))
noncomputable def zC6 (proper:List (List Bool)) (x_1:T_impl_Body) (k:Int):Option ((Int)⊕(((Int×(List Int))⊕((Bool)⊕((List Int))))⊕(Unit))):=
 (if (decide (k < (x_1.Dels.length:Int))) then (zI x_1.Dels k).bind fun x_4=>(zI proper x_4).bind fun x_5=>(zB7 (T_impl_Body.mk x_1.Line x_1.Ins x_1.Ord x_1.Dels) x_5).bind fun x110=>(if (!x110) then some (.inr (.inl (.inr (.inl false))))
 else some (.inl (wk .i64 (k+1))))
 else some (.inr (.inr ())))
noncomputable def xI (w:T_impl_Weave) (proper:List (List Bool)) (i:Int) (born_1:List Int):Option ((Int×(List Int))⊕((Bool)⊕((List Int)))):=
 (if (decide (i < (w.Bodies.length:Int))) then (zI w.Bodies i).bind fun x_1=>(zR4 x_1.Line).bind fun x57=>(if (!x57) then some true else (xS x_1.Ins 0 (wk .i64 ((w.Parents.length:Int) - 1))).bind fun x64=>some (!x64)).bind fun b_2=>(if b_2 then some true else (zI born_1 x_1.Ins).bind fun x_2=>some (x_1.Ord != x_2)).bind fun b_3=>(if b_3 then some true else (zN6 x_1.Dels (w.Parents.length:Int)).bind fun x81=>some (!x81)).bind fun b_4=>(if b_4 then some (.inr (.inl false))
 else (zI born_1 x_1.Ins).bind fun x_3=>(zC (fun (s':Int)=>zC6 proper x_1 s') (0)).bind fun p_2=>(match p_2 with | .inl c'=>some c' | .inr q_1=>zS6 i (born_1.set x_1.Ins.toNat (wk .i64 (x_3+1)))))
 else some (.inr (.inr born_1)))
noncomputable def zT1 (w:T_impl_Weave) (x25:List Int) (proper:List (List Bool)):Option (Bool):=
 (zC (fun (s':Int×(List Int))=>xI w proper s'.1 s'.2) (0,x25)).bind fun p_1=>(match p_1 with | .inl c'=>some c' | .inr q_2=>zK5 w q_2)
noncomputable def vM (w:T_impl_Weave) (v_1:Int) (proper_1:List (List Bool)):Option ((Int×(List (List Bool)))⊕((List (List Bool)))):=
 (if (decide (v_1 < (w.Parents.length:Int))) then (zI w.Parents v_1).bind fun x_6=>(zR5 w.Parents x_6).bind fun x40=>(qE proper_1 [x40]).bind fun l=>some (.inl ((wk .i64 (v_1+1)),l))
 else some (.inr proper_1))
noncomputable def zU9 (w:T_impl_Weave):Option Bool:=
 (zO4 w.Parents).bind fun x13=>(if (!x13) then some true else some (decide ((w.Bodies.length:Int) > 300))).bind fun b=>(if b then some false
 else ((mkl (w.Parents.length:Int) (w.Parents.length:Int) 0:Option (List Int))).bind fun x25=>(zC (fun (s':Int×(List (List Bool)))=>vM w s'.1 s'.2) (0,[])).bind fun p_3=>zT1 w x25 p_3)
noncomputable def qG4:Option (Bool):=
 some false
noncomputable def zH8 (list_:List Int) (x:Int) (i:Int):Option ((Int)⊕((Bool)⊕(Unit))):=
 (if (decide (i < (list_.length:Int))) then (zI list_ i).bind fun x_1=>(if (x_1 == x) then some (.inr (.inl true))
 else some (.inl (wk .i64 (i+1))))
 else some (.inr (.inr ())))
noncomputable def zV5 (list_:List Int) (x:Int):Option Bool:=
 (zC (fun (s':Int)=>zH8 list_ x s') (0)).bind fun p=>(match p with | .inl c'=>some c' | .inr q=>qG4)
noncomputable def zZ1 (out__2:List T_impl_Rec):Option ((List T_impl_Rec)):=
 some out__2
noncomputable def zA8 (a:T_impl_Body) (b:T_impl_Body) (i:Int) (out__3:List T_impl_Rec):Option ((Int×(List T_impl_Rec))⊕((List T_impl_Rec))):=
 (if (decide (i < (b.Dels.length:Int))) then (zI b.Dels i).bind fun x=>(zV5 a.Dels x).bind fun x72=>(if (!x72) then (qE out__3 [(T_impl_Rec.mk 4 x (ByteArray.mk #[]))]).bind fun l=>some (.inl ((wk .i64 (i+1)),l))
 else some (.inl ((wk .i64 (i+1)),out__3)))
 else some (.inr out__3))
noncomputable def yX (a:T_impl_Body) (b:T_impl_Body) (out__1:List T_impl_Rec):Option ((List T_impl_Rec)):=
 (zC (fun (s':Int×(List T_impl_Rec))=>zA8 a b s'.1 s'.2) (0,out__1)).bind fun p=>zZ1 p
noncomputable def zA1 (a:T_impl_Body) (b:T_impl_Body) (out__4:List T_impl_Rec):Option ((List T_impl_Rec)):=
 (if (decide (b.Ins≥0)) then (qE out__4 [(T_impl_Rec.mk 2 b.Ins (ByteArray.mk #[]))]).bind fun l_1=>yX a b l_1
 else yX a b out__4)
noncomputable def zG8 (a:T_impl_Body) (b:T_impl_Body) (out_:List T_impl_Rec):Option ((List T_impl_Rec)):=
 (if (a.Ins != b.Ins) then (if (decide (a.Ins≥0)) then (qE out_ [(T_impl_Rec.mk 3 a.Ins (ByteArray.mk #[]))]).bind fun l_2=>zA1 a b l_2
 else zA1 a b out_)
 else yX a b out_)
noncomputable def zA2 (a:T_impl_Body) (b:T_impl_Body) (i_1:Int) (out__5:List T_impl_Rec):Option ((Int×(List T_impl_Rec))⊕((List T_impl_Rec))):=
 (if (decide (i_1≥0)) then (zI a.Dels i_1).bind fun x_1=>(zV5 b.Dels x_1).bind fun x24=>(if (!x24) then (qE out__5 [(T_impl_Rec.mk 5 x_1 (ByteArray.mk #[]))]).bind fun l_3=>some (.inl ((wk .i64 (i_1 - 1)),l_3))
 else some (.inl ((wk .i64 (i_1 - 1)),out__5)))
 else some (.inr out__5))
noncomputable def zI1 (a:T_impl_Body) (b:T_impl_Body):Option (List T_impl_Rec):=
 (zC (fun (s':Int×(List T_impl_Rec))=>zA2 a b s'.1 s'.2) ((wk .i64 ((a.Dels.length:Int) - 1)),[])).bind fun p_1=>zG8 a b p_1
noncomputable def zK1 (out_:List T_impl_Rec) (last:ByteArray) (last_1:Int) (last_2:Int) (last_3:List Int):Option ((List T_impl_Rec)):=
 (zI1 (T_impl_Body.mk last last_1 last_2 last_3) (T_impl_Body.mk (ByteArray.mk #[]) (-1) 0 [])).bind fun x38=>(qE out_ x38).bind fun l=>some l
noncomputable def kJ (w:T_impl_Weave) (i:Int) (out__1:List T_impl_Rec) (last_4:ByteArray) (last_5:Int) (last_6:Int) (last_7:List Int):Option ((Int×(List T_impl_Rec)×ByteArray×Int×Int×(List Int))⊕((List T_impl_Rec)×ByteArray×Int×Int×(List Int))):=
 (if (decide (i < (w.Bodies.length:Int))) then (zI w.Bodies i).bind fun x=>(zI1 (T_impl_Body.mk last_4 last_5 last_6 last_7) (T_impl_Body.mk x.Line x.Ins x.Ord x.Dels)).bind fun x22=>(qE out__1 x22).bind fun l_1=>(zI w.Bodies i).bind fun x_1=>(qE l_1 [(T_impl_Rec.mk 1 0 x_1.Line)]).bind fun l_2=>some (.inl ((wk .i64 (i+1)),l_2,x_1.Line,x_1.Ins,x_1.Ord,x_1.Dels))
 else some (.inr (out__1,last_4,last_5,last_6,last_7)))
noncomputable def zJ2 (w:T_impl_Weave):Option (List T_impl_Rec):=
 (zC (fun (s':Int×(List T_impl_Rec)×ByteArray×Int×Int×(List Int))=>kJ w s'.1 s'.2.1 s'.2.2.1 s'.2.2.2.1 s'.2.2.2.2.1 s'.2.2.2.2.2) (0,[],(ByteArray.mk #[]),(-1),0,[])).bind fun p=>zK1 p.1 p.2.1 p.2.2.1 p.2.2.2.1 p.2.2.2.2
noncomputable def zG5 (w:T_impl_Weave):Option ((List T_impl_Rec)×Bool):=
 (zU9 (T_impl_Weave.mk w.Parents w.Bodies)).bind fun x6=>(if (!x6) then some ([],false)
 else (zJ2 (T_impl_Weave.mk w.Parents w.Bodies)).bind fun x10=>(if (decide ((x10.length:Int) > 4000)) then some ([],false)
 else some (x10,true)))
noncomputable def qB8:Option (Bool):=
 some true
noncomputable def zC3 (a:List T_impl_Rec) (b:List T_impl_Rec) (i:Int):Option ((Int)⊕((Bool)⊕(Unit))):=
 (if (decide (i < (a.length:Int))) then (zI a i).bind fun x=>(zI b i).bind fun x_1=>(if (!((x.Kind == x_1.Kind) && ((x.Version == x_1.Version) && (x.Line.toList == x_1.Line.toList)))) then some (.inr (.inl false))
 else some (.inl (wk .i64 (i+1))))
 else some (.inr (.inr ())))
noncomputable def zT8 (a:List T_impl_Rec) (b:List T_impl_Rec):Option Bool:=
 (if ((a.length:Int) != (b.length:Int)) then some false
 else (zC (fun (s':Int)=>zC3 a b s') (0)).bind fun p=>(match p with | .inl c'=>some c' | .inr q=>qB8))
noncomputable def uV (list_:List T_impl_Rec) (w:List (List Int)) (w_1:List T_impl_Body):Option (T_impl_Weave×Bool):=
 (zG5 (T_impl_Weave.mk w w_1)).bind fun x133=>(if (!x133.2) then some true else (zT8 x133.1 list_).bind fun x141=>some (!x141)).bind fun b_1=>(if b_1 then some ((T_impl_Weave.mk [] []),false)
 else some ((T_impl_Weave.mk w w_1),true))
noncomputable def zO (i:Int) (w_3:List T_impl_Body) (born_1:List Int) (now_2:Int) (now_3:List Int):Option ((Int×(List T_impl_Body)×(List Int)×Int×(List Int))⊕((T_impl_Weave×Bool)⊕((List T_impl_Body)))):=
 (if (decide ((now_3.length:Int) > 40)) then some true else some (decide ((w_3.length:Int) > 300))).bind fun b_2=>(if b_2 then some (.inr (.inl ((T_impl_Weave.mk [] []),false)))
 else some (.inl ((wk .i64 (i+1)),w_3,born_1,now_2,now_3)))
noncomputable def qQ (parents:List (List Int)) (list_:List T_impl_Rec) (i:Int) (w_2:List T_impl_Body) (born:List Int) (now:Int) (now_1:List Int):Option ((Int×(List T_impl_Body)×(List Int)×Int×(List Int))⊕((T_impl_Weave×Bool)⊕((List T_impl_Body)))):=
 (if (decide (i < (list_.length:Int))) then (zI list_ i).bind fun x=>(if (x.Kind == 2) then zO i w_2 born x.Version now_1
 else (if (x.Kind == 3) then zO i w_2 born (-1) now_1
 else (if (x.Kind == 4) then (zT6 now_1 x.Version).bind fun x71=>zO i w_2 born now x71
 else (if (x.Kind == 5) then (zK9 now_1 x.Version).bind fun x79=>zO i w_2 born now x79
 else (if (x.Kind == 1) then (xS now 0 (wk .i64 ((parents.length:Int) - 1))).bind fun x88=>(if (!x88) then some (.inr (.inl ((T_impl_Weave.mk [] []),false)))
 else (zI born now).bind fun x_1=>(qE ([]:List Int) now_1).bind fun l=>(qE w_2 [(T_impl_Body.mk x.Line now x_1 l)]).bind fun l_1=>(zI born now).bind fun x_2=>zO i l_1 (born.set now.toNat (wk .i64 (x_2+1))) now now_1)
 else zO i w_2 born now now_1)))))
 else some (.inr (.inr w_2)))
noncomputable def zH4 (parents:List (List Int)) (list_:List T_impl_Rec) (w:List (List Int)):Option (T_impl_Weave×Bool):=
 ((mkl (parents.length:Int) (parents.length:Int) 0:Option (List Int))).bind fun x43=>(zC (fun (s':Int×(List T_impl_Body)×(List Int)×Int×(List Int))=>qQ parents list_ s'.1 s'.2.1 s'.2.2.1 s'.2.2.2.1 s'.2.2.2.2) (0,[],x43,(-1),[])).bind fun p=>(match p with | .inl c'=>some c' | .inr q=>uV list_ w q)
noncomputable def vK (parents:List (List Int)) (v:Int) (w_4:List (List Int)):Option ((Int×(List (List Int)))⊕((List (List Int)))):=
 (if (decide (v < (parents.length:Int))) then (zI parents v).bind fun x_3=>(qE ([]:List Int) x_3).bind fun l_2=>(qE w_4 [l_2]).bind fun l_3=>some (.inl ((wk .i64 (v+1)),l_3))
 else some (.inr w_4))
noncomputable def zG4 (parents:List (List Int)) (list_:List T_impl_Rec):Option (T_impl_Weave×Bool):=
 (zO4 parents).bind fun x15=>(if (!x15) then some true else some (decide ((list_.length:Int) > 4000))).bind fun b=>(if b then some ((T_impl_Weave.mk [] []),false)
 else (zC (fun (s':Int×(List (List Int)))=>vK parents s'.1 s'.2) (0,[])).bind fun p_1=>zH4 parents list_ p_1)
noncomputable def qA0 (out_:List ByteArray):Option ((List ByteArray)):=
 some out_
noncomputable def vU (w:T_impl_Weave) (places:List Int) (i:Int) (out__1:List ByteArray):Option ((Int×(List ByteArray))⊕((List ByteArray))):=
 (if (decide (i < (places.length:Int))) then (zI places i).bind fun x=>(zI w.Bodies x).bind fun x_1=>(qE out__1 [x_1.Line]).bind fun l=>some (.inl ((wk .i64 (i+1)),l))
 else some (.inr out__1))
noncomputable def zI8 (w:T_impl_Weave) (places:List Int):Option (List ByteArray):=
 (zC (fun (s':Int×(List ByteArray))=>vU w places s'.1 s'.2) (0,[])).bind fun p=>qA0 p
noncomputable def zO1 (w:T_impl_Weave) (v:Int):Option (List ByteArray):=
 (yN (T_impl_Weave.mk w.Parents w.Bodies) v).bind fun x9=>(uE (T_impl_Weave.mk w.Parents w.Bodies) x9).bind fun x10=>(zI8 (T_impl_Weave.mk w.Parents w.Bodies) x10).bind fun x11=>some x11
noncomputable def qF0:Option (Bool):=
 some true
noncomputable def zF5 (list_:List ByteArray) (i:Int):Option ((Int)⊕((Bool)⊕(Unit))):=
 (if (decide (i < (list_.length:Int))) then (zI list_ i).bind fun x=>(zR4 x).bind fun x20=>(if (!x20) then some (.inr (.inl false))
 else some (.inl (wk .i64 (i+1))))
 else some (.inr (.inr ())))
noncomputable def zX8 (list_:List ByteArray) (most:Int):Option Bool:=
 (if (decide ((list_.length:Int) > most)) then some false
 else (zC (fun (s':Int)=>zF5 list_ s') (0)).bind fun p=>(match p with | .inl c'=>some c' | .inr q=>qF0))
noncomputable def zU0 (list_:List ByteArray):Option Bool:=
 (zX8 list_ 80).bind fun x4=>some x4
noncomputable def zM2 (out_:List Int):Option (ByteArray×Bool):=
 some ((mkS out_),true)
noncomputable def vE (list_:List ByteArray) (i:Int) (out__1:List Int):Option ((Int×(List Int))⊕((List Int))):=
 (if (decide (i < (list_.length:Int))) then (zI list_ i).bind fun x=>(qE out__1 (qX x)).bind fun l=>(qE l [10]).bind fun l_1=>some (.inl ((wk .i64 (i+1)),l_1))
 else some (.inr out__1))
noncomputable def zN3 (list_:List ByteArray):Option (ByteArray×Bool):=
 (zU0 list_).bind fun x7=>(if (!x7) then some ((ByteArray.mk #[]),false)
 else (zC (fun (s':Int×(List Int))=>vE list_ s'.1 s'.2) (0,[])).bind fun p=>zM2 p)
noncomputable def zS0 (w:T_impl_Weave) (v:Int):Option Int:=
 (zO1 (T_impl_Weave.mk w.Parents w.Bodies) v).bind fun x10=>(zN3 x10).bind fun x11=>(vL x11.1).bind fun x15=>some x15
noncomputable def zM7 (s:ByteArray):Option (ByteArray×Bool):=
 (if (decide ((s.size:Int) > 60000)) then some ((ByteArray.mk #[]),false)
 else (wE (s.size:Int)).bind fun x9=>(sapp x9 s).bind fun t=>some (t,true))
noncomputable def uH (text:ByteArray):Option (ByteArray×Bool):=
 (if (decide ((text.size:Int) > 60000)) then some ((ByteArray.mk #[]),false)
 else (vL text).bind fun x9=>(kT x9).bind fun x10=>(sapp text x10).bind fun t=>some (t,true))
noncomputable def zD8 (out__1:List Int):Option (ByteArray×Bool):=
 (uH (mkS out__1)).bind fun x123=>some (x123.1,x123.2)
noncomputable def vH (x16:(List T_impl_Rec)×Bool) (i:Int) (out__2:List Int):Option ((Int×(List Int))⊕((List Int))):=
 (if (decide (i < (x16.1.length:Int))) then (zI x16.1 i).bind fun x=>(if (x.Kind == 1) then (zM7 x.Line).bind fun x103=>(sapp (mkS [(wk .u8 x.Kind)]) x103.1).bind fun t_1=>(qE out__2 (qX t_1)).bind fun l_1=>some (.inl ((wk .i64 (i+1)),l_1))
 else (wE x.Version).bind fun x115=>(sapp (mkS [(wk .u8 x.Kind)]) x115).bind fun t_2=>(qE out__2 (qX t_2)).bind fun l_2=>some (.inl ((wk .i64 (i+1)),l_2)))
 else some (.inr out__2))
noncomputable def zL6 (x16:(List T_impl_Rec)×Bool) (out_:List Int):Option (ByteArray×Bool):=
 (wE (x16.1.length:Int)).bind fun x74=>(qE out_ (qX x74)).bind fun l=>(zC (fun (s':Int×(List Int))=>vH x16 s'.1 s'.2) (0,l)).bind fun p=>zD8 p
noncomputable def zL9 (v:Int) (out__4:List Int):Option ((Int×(List Int))⊕((List Int))):=
 some (.inl ((wk .i64 (v+1)),out__4))
noncomputable def zD9 (w:T_impl_Weave) (v:Int) (out__3:List Int) (s:ByteArray):Option ((Int×(List Int))⊕((List Int))):=
 (zS0 (T_impl_Weave.mk w.Parents w.Bodies) v).bind fun x66=>(kT x66).bind fun x67=>(sapp s x67).bind fun t_3=>(qE out__3 (qX t_3)).bind fun l_3=>zL9 v l_3
noncomputable def vA (w:T_impl_Weave) (v:Int) (s_1:ByteArray) (k:Int):Option ((ByteArray×Int)⊕(ByteArray)):=
 (zI w.Parents v).bind fun x_2=>(if (decide (k < (x_2.length:Int))) then (zI x_2 k).bind fun x_3=>(wE x_3).bind fun x60=>(sapp s_1 x60).bind fun t_4=>some (.inl (t_4,(wk .i64 (k+1))))
 else some (.inr s_1))
noncomputable def xR (w:T_impl_Weave) (v:Int) (out__3:List Int):Option ((Int×(List Int))⊕((List Int))):=
 (if (decide (v < (w.Parents.length:Int))) then (zI w.Parents v).bind fun x_1=>(wE (x_1.length:Int)).bind fun x40=>(zC (fun (s':ByteArray×Int)=>vA w v s'.1 s'.2) (x40,0)).bind fun p_2=>zD9 w v out__3 p_2
 else some (.inr out__3))
noncomputable def zP7 (w:T_impl_Weave):Option (ByteArray×Bool):=
 (zG5 (T_impl_Weave.mk w.Parents w.Bodies)).bind fun x16=>(if (!x16.2) then some ((ByteArray.mk #[]),false)
 else (wE (w.Parents.length:Int)).bind fun x24=>(sapp (ByteArray.mk #[84,87,49]) x24).bind fun t=>(zC (fun (s':Int×(List Int))=>xR w s'.1 s'.2) (0,(qX t))).bind fun p_1=>zL6 x16 p_1)
noncomputable def zL8 (text:ByteArray) (x33:ByteArray×Bool) (parents:List (List Int)) (c_3:ByteArray) (c_4:Int) (c_5:Bool) (recs:List T_impl_Rec):Option (T_impl_Weave×Int):=
 (if c_5 then some true else some (c_4 != (x33.1.size:Int))).bind fun b_1=>(if b_1 then some ((T_impl_Weave.mk [] []),3)
 else (zG4 parents recs).bind fun x152=>(zP7 (T_impl_Weave.mk x152.1.Parents x152.1.Bodies)).bind fun x157=>(if (!x152.2) then some true else some (!x157.2)).bind fun b_2=>(if b_2 then some true else some (!(x157.1.toList == text.toList))).bind fun b_3=>(if b_3 then some ((T_impl_Weave.mk [] []),4)
 else some ((T_impl_Weave.mk x152.1.Parents x152.1.Bodies),0)))
noncomputable def jU (x88:Int×T_spec_l08Cur) (i:Int) (c_6:ByteArray) (c_7:Int) (c_8:Bool) (recs_1:List T_impl_Rec):Option ((Int×ByteArray×Int×Bool×(List T_impl_Rec))⊕(ByteArray×Int×Bool×(List T_impl_Rec))):=
 (if (decide (i < x88.1)) then some (!c_8) else some false).bind fun b_4=>(if b_4 then (jC (T_spec_l08Cur.mk c_6 c_7 c_8) 1).bind fun x103=>(if x103.2.bad then some true else (sidx x103.1 0).bind fun x110=>(xS (wk .i64 x110) 1 5).bind fun x112=>some (!x112)).bind fun b_5=>(if b_5 then some (.inl ((wk .i64 (i+1)),x103.2.text,x103.2.at_,true,recs_1))
 else (sidx x103.1 0).bind fun x119=>(if ((wk .i64 x119) == 1) then (uO (T_spec_l08Cur.mk x103.2.text x103.2.at_ x103.2.bad)).bind fun x126=>(qE recs_1 [(T_impl_Rec.mk (wk .i64 x119) 0 x126.1)]).bind fun l=>some (.inl ((wk .i64 (i+1)),x126.2.text,x126.2.at_,x126.2.bad,l))
 else (jF (T_spec_l08Cur.mk x103.2.text x103.2.at_ x103.2.bad) 1000000000).bind fun x129=>(qE recs_1 [(T_impl_Rec.mk (wk .i64 x119) x129.1 (ByteArray.mk #[]))]).bind fun l_1=>some (.inl ((wk .i64 (i+1)),x129.2.text,x129.2.at_,x129.2.bad,l_1))))
 else some (.inr (c_6,c_7,c_8,recs_1)))
noncomputable def zL5 (text:ByteArray) (x33:ByteArray×Bool) (c:ByteArray) (c_1:Int) (c_2:Bool) (parents:List (List Int)):Option (T_impl_Weave×Int):=
 (jF (T_spec_l08Cur.mk c c_1 c_2) 4000).bind fun x88=>(zC (fun (s':Int×ByteArray×Int×Bool×(List T_impl_Rec))=>jU x88 s'.1 s'.2.1 s'.2.2.1 s'.2.2.2.1 s'.2.2.2.2) (0,x88.2.text,x88.2.at_,x88.2.bad,[])).bind fun p=>zL8 text x33 parents p.1 p.2.1 p.2.2.1 p.2.2.2
noncomputable def zL7 (v:Int) (c_12:ByteArray) (c_13:Int) (c_14:Bool) (parents_2:List (List Int)):Option ((Int×ByteArray×Int×Bool×(List (List Int)))⊕(ByteArray×Int×Bool×(List (List Int)))):=
 some (.inl ((wk .i64 (v+1)),c_12,c_13,c_14,parents_2))
noncomputable def zM0 (v:Int) (parents_1:List (List Int)) (c_15:ByteArray) (c_16:Int) (c_17:Bool) (list_:List Int):Option ((Int×ByteArray×Int×Bool×(List (List Int)))⊕(ByteArray×Int×Bool×(List (List Int)))):=
 (qE parents_1 [list_]).bind fun l_2=>(jC (T_spec_l08Cur.mk c_15 c_16 c_17) 4).bind fun x86=>zL7 v x86.2.text x86.2.at_ x86.2.bad l_2
noncomputable def jV (x62:Int×T_spec_l08Cur) (k:Int) (c_18:ByteArray) (c_19:Int) (c_20:Bool) (list__1:List Int):Option ((Int×ByteArray×Int×Bool×(List Int))⊕(ByteArray×Int×Bool×(List Int))):=
 (if (decide (k < x62.1)) then some (!c_20) else some false).bind fun b_7=>(if b_7 then (jF (T_spec_l08Cur.mk c_18 c_19 c_20) 1000000000).bind fun x78=>(qE list__1 [x78.1]).bind fun l_3=>some (.inl ((wk .i64 (k+1)),x78.2.text,x78.2.at_,x78.2.bad,l_3))
 else some (.inr (c_18,c_19,c_20,list__1)))
noncomputable def kZ (x47:Int×T_spec_l08Cur) (v:Int) (c_9:ByteArray) (c_10:Int) (c_11:Bool) (parents_1:List (List Int)):Option ((Int×ByteArray×Int×Bool×(List (List Int)))⊕(ByteArray×Int×Bool×(List (List Int)))):=
 (if (decide (v < x47.1)) then some (!c_11) else some false).bind fun b_6=>(if b_6 then (jF (T_spec_l08Cur.mk c_9 c_10 c_11) 4).bind fun x62=>(zC (fun (s':Int×ByteArray×Int×Bool×(List Int))=>jV x62 s'.1 s'.2.1 s'.2.2.1 s'.2.2.2.1 s'.2.2.2.2) (0,x62.2.text,x62.2.at_,x62.2.bad,[])).bind fun p_2=>zM0 v parents_1 p_2.1 p_2.2.1 p_2.2.2.1 p_2.2.2.2
 else some (.inr (c_9,c_10,c_11,parents_1)))
noncomputable def zN9 (text:ByteArray):Option (T_impl_Weave×Int):=
 (if (decide ((text.size:Int) < 7)) then some true else some (decide ((text.size:Int) > 60004))).bind fun b=>(if b then some ((T_impl_Weave.mk [] []),1)
 else (zD3 text).bind fun x33=>(if (!x33.2) then some ((T_impl_Weave.mk [] []),2)
 else (jC (T_spec_l08Cur.mk x33.1 0 false) 3).bind fun x43=>(if (!(x43.1.toList == (ByteArray.mk #[84,87,49]).toList)) then some ((T_impl_Weave.mk [] []),3)
 else (jF (T_spec_l08Cur.mk x43.2.text x43.2.at_ x43.2.bad) 40).bind fun x47=>(zC (fun (s':Int×ByteArray×Int×Bool×(List (List Int)))=>kZ x47 s'.1 s'.2.1 s'.2.2.1 s'.2.2.2.1 s'.2.2.2.2) (0,x47.2.text,x47.2.at_,x47.2.bad,[])).bind fun p_1=>zL5 text x33 p_1.1 p_1.2.1 p_1.2.2.1 p_1.2.2.2)))
noncomputable def qC4 (sum_1:Int):Option (Int):=
 some sum_1
noncomputable def zS3 (i:Int) (sum_3:Int):Option ((Int×Int)⊕(Int)):=
 some (.inl (sum_3,(wk .i64 (i+1))))
noncomputable def yL (sum_4:Int) (x19:Int):Option ((Int×Int)⊕(Int)):=
 (if (decide (x19 < 8)) then (if ((bits .and .u32 sum_4 1) == 1) then some (.inl ((bits .xor .u32 (xL .u32 sum_4 1) 3558460437),(wk .i64 (x19+1))))
 else some (.inl ((xL .u32 sum_4 1),(wk .i64 (x19+1)))))
 else some (.inr sum_4))
noncomputable def zJ7 (text:ByteArray) (sum_2:Int) (i:Int):Option ((Int×Int)⊕(Int)):=
 (if (decide (i < (text.size:Int))) then (sidx text i).bind fun x16=>(zC (fun (s':Int×Int)=>yL s'.1 s'.2) ((bits .xor .u32 sum_2 (wk .u32 x16)),0)).bind fun p_1=>zS3 i p_1
 else some (.inr sum_2))
noncomputable def zU6 (sum:Int) (text:ByteArray):Option Int:=
 (zC (fun (s':Int×Int)=>zJ7 text s'.1 s'.2) (sum,0)).bind fun p=>qC4 p
noncomputable def zW0 (text:ByteArray):Option Int:=
 (zU6 4294967295 text).bind fun x4=>some x4
noncomputable def uJ (text:ByteArray):Option ByteArray:=
 (zW0 text).bind fun x5=>some (mkS [(wk .u8 (xL .u32 x5 24)),(wk .u8 (xL .u32 x5 16)),(wk .u8 (xL .u32 x5 8)),(wk .u8 x5)])
noncomputable def zI4 (text:ByteArray):Option (ByteArray×Bool):=
 (if (decide ((wk .i64 ((text.size:Int) - 4)) < 0)) then some true else some (decide ((wk .i64 ((text.size:Int) - 4)) > 60000))).bind fun b=>(if b then some true else (subH text (wk .i64 ((text.size:Int) - 4))).bind fun x17=>(uJ x17).bind fun x18=>(subL text (wk .i64 ((text.size:Int) - 4))).bind fun x21=>some (!(x18.toList == x21.toList))).bind fun b_1=>(if b_1 then some ((ByteArray.mk #[]),false)
 else (subH text (wk .i64 ((text.size:Int) - 4))).bind fun x26=>some (x26,true))
noncomputable def zS (s:T_impl_scanner) (n:Int):Option (ByteArray×T_impl_scanner):=
 (if s.bad then some true else some (decide (n > (wk .i64 ((s.text.size:Int) - s.at_))))).bind fun b=>(if b then some ((ByteArray.mk #[]),(T_impl_scanner.mk s.text s.at_ true))
 else (sub2 s.text (wk .i64 ((wk .i64 (s.at_+n)) - n)) (wk .i64 (s.at_+n))).bind fun x48=>some (x48,(T_impl_scanner.mk s.text (wk .i64 (s.at_+n)) s.bad)))
noncomputable def zD6 (s:T_impl_scanner) (mark:ByteArray):Option T_impl_scanner:=
 (zS (T_impl_scanner.mk s.text s.at_ s.bad) (mark.size:Int)).bind fun x7=>(if (!(x7.1.toList == mark.toList)) then some (T_impl_scanner.mk x7.2.text x7.2.at_ true)
 else some (T_impl_scanner.mk x7.2.text x7.2.at_ x7.2.bad))
noncomputable def qB2:Option (Int×Int×Bool):=
 some (0,0,false)
noncomputable def zJ9 (text:ByteArray) (at_:Int) (n:Int) (unit:Int) (i:Int):Option ((Int×Int×Int)⊕((Int×Int×Bool)⊕(Unit))):=
 (if (decide (i < 5)) then some (decide ((wk .i64 (at_+i)) < (text.size:Int))) else some false).bind fun b_1=>(if b_1 then (sidx text (wk .i64 (at_+i))).bind fun x35=>(if (decide ((wk .i64 x35)≥128)) then some (.inl ((wk .i64 (n+(wk .i64 (((wk .i64 x35).tmod 128) * unit)))),(wk .i64 (unit * 128)),(wk .i64 (i+1))))
 else (if ((wk .i64 x35) == 0) then some (decide (i > 0)) else some false).bind fun b_2=>(if b_2 then some true else some (decide ((wk .i64 (n+(wk .i64 (((wk .i64 x35).tmod 128) * unit)))) > 1000000000))).bind fun b_3=>(if b_3 then some (.inr (.inl (0,0,false)))
 else some (.inr (.inl ((wk .i64 (n+(wk .i64 (((wk .i64 x35).tmod 128) * unit)))),(wk .i64 ((wk .i64 (at_+i))+1)),true)))))
 else some (.inr (.inr ())))
noncomputable def zU5 (text:ByteArray) (at_:Int):Option (Int×Int×Bool):=
 (if (decide (at_ < 0)) then some true else some (decide (at_ > (text.size:Int)))).bind fun b=>(if b then some (0,0,false)
 else (zC (fun (s':Int×Int×Int)=>zJ9 text at_ s'.1 s'.2.1 s'.2.2) (0,1,0)).bind fun p=>(match p with | .inl c'=>some c' | .inr q=>qB2))
noncomputable def qA (s:T_impl_scanner):Option (Int×T_impl_scanner):=
 (zU5 s.text s.at_).bind fun x15=>(if s.bad then some true else some (!x15.2.2)).bind fun b=>(if b then some (0,(T_impl_scanner.mk s.text s.at_ true))
 else some (x15.1,(T_impl_scanner.mk s.text x15.2.1 s.bad)))
noncomputable def kH (s:T_impl_scanner) (most:Int):Option (Int×T_impl_scanner):=
 (qA (T_impl_scanner.mk s.text s.at_ s.bad)).bind fun x7=>(if (decide (x7.1 > most)) then some (0,(T_impl_scanner.mk x7.2.text x7.2.at_ true))
 else some (x7.1,(T_impl_scanner.mk x7.2.text x7.2.at_ x7.2.bad)))
noncomputable def uR (s_1:ByteArray) (s_2:Int) (s_3:Bool) (out_:List Int):Option ((List Int)×T_impl_scanner):=
 some (out_,(T_impl_scanner.mk s_1 s_2 s_3))
noncomputable def kK (x9:Int×T_impl_scanner) (x10:Int) (s_4:ByteArray) (s_5:Int) (s_6:Bool) (out__1:List Int):Option ((Int×ByteArray×Int×Bool×(List Int))⊕(ByteArray×Int×Bool×(List Int))):=
 (if (decide (x10 < x9.1)) then (qA (T_impl_scanner.mk s_4 s_5 s_6)).bind fun x13=>(qE out__1 [x13.1]).bind fun l=>some (.inl ((wk .i64 (x10+1)),x13.2.text,x13.2.at_,x13.2.bad,l))
 else some (.inr (s_4,s_5,s_6,out__1)))
noncomputable def kS (s:T_impl_scanner) (most:Int):Option ((List Int)×T_impl_scanner):=
 (kH (T_impl_scanner.mk s.text s.at_ s.bad) most).bind fun x9=>(zC (fun (s':Int×ByteArray×Int×Bool×(List Int))=>kK x9 s'.1 s'.2.1 s'.2.2.1 s'.2.2.2.1 s'.2.2.2.2) (0,x9.2.text,x9.2.at_,x9.2.bad,[])).bind fun p=>uR p.1 p.2.1 p.2.2.1 p.2.2.2
noncomputable def zB4 (s:T_impl_scanner):Option (Int×T_impl_scanner):=
 (zS (T_impl_scanner.mk s.text s.at_ s.bad) 1).bind fun x5=>(if (x5.1.toList == (ByteArray.mk #[]).toList) then some (0,(T_impl_scanner.mk x5.2.text x5.2.at_ x5.2.bad))
 else (sidx x5.1 0).bind fun x9=>some ((wk .i64 x9),(T_impl_scanner.mk x5.2.text x5.2.at_ x5.2.bad)))
noncomputable def vR (n:Int) (least:Int) (most:Int):Option Bool:=
 (if (decide (n≥least)) then some (decide (n≤most)) else some false).bind fun b=>some b
noncomputable def xX (x5:Int×T_impl_scanner) (s_1:Bool):Option (ByteArray×T_impl_scanner):=
 (zS (T_impl_scanner.mk x5.2.text x5.2.at_ s_1) x5.1).bind fun x13=>some (x13.1,(T_impl_scanner.mk x13.2.text x13.2.at_ x13.2.bad))
noncomputable def kI (s:T_impl_scanner):Option (ByteArray×T_impl_scanner):=
 (qA (T_impl_scanner.mk s.text s.at_ s.bad)).bind fun x5=>(if (decide (x5.1 > 60000)) then xX x5 true
 else xX x5 x5.2.bad)
noncomputable def zG2 (s:T_impl_scanner):Option (T_impl_Rec×T_impl_scanner):=
 (zB4 (T_impl_scanner.mk s.text s.at_ s.bad)).bind fun x5=>(vR x5.1 1 5).bind fun x13=>(if (!x13) then some ((T_impl_Rec.mk x5.1 0 (ByteArray.mk #[])),(T_impl_scanner.mk x5.2.text x5.2.at_ true))
 else (if (x5.1 == 1) then (kI (T_impl_scanner.mk x5.2.text x5.2.at_ x5.2.bad)).bind fun x23=>some ((T_impl_Rec.mk x5.1 0 x23.1),(T_impl_scanner.mk x23.2.text x23.2.at_ x23.2.bad))
 else (qA (T_impl_scanner.mk x5.2.text x5.2.at_ x5.2.bad)).bind fun x8=>some ((T_impl_Rec.mk x5.1 x8.1 (ByteArray.mk #[])),(T_impl_scanner.mk x8.2.text x8.2.at_ x8.2.bad))))
noncomputable def zE3 (s:T_impl_scanner):Option Bool:=
 (if (!s.bad) then some (s.at_ == (s.text.size:Int)) else some false).bind fun b=>some b
noncomputable def qB3:Option (Bool):=
 some true
noncomputable def kD (list_:List Int) (below:Int) (x9:Int):Option ((Int)⊕((Bool)⊕(Unit))):=
 (if (decide (x9 < (list_.length:Int))) then (zI list_ x9).bind fun x=>(vR x 0 (wk .i64 (below - 1))).bind fun x17=>(if (!x17) then some true else (if (decide (x9 > 0)) then (zI list_ (wk .i64 (x9 - 1))).bind fun x_1=>some (decide (x≤x_1)) else some false).bind fun b_1=>some b_1).bind fun b=>(if b then some (.inr (.inl false))
 else some (.inl (wk .i64 (x9+1))))
 else some (.inr (.inr ())))
noncomputable def zN5 (list_:List Int) (below:Int):Option Bool:=
 (zC (fun (s':Int)=>kD list_ below s') (0)).bind fun p=>(match p with | .inl c'=>some c' | .inr q=>qB3)
noncomputable def zT4 (parents:List (List Int)):Option (Bool):=
 some (decide ((parents.length:Int)≤40))
noncomputable def xZ (parents:List (List Int)) (x7:Int):Option ((Int)⊕((Bool)⊕(Unit))):=
 (if (decide (x7 < (parents.length:Int))) then (zI parents x7).bind fun x=>(if (decide ((x.length:Int) > 4)) then some true else (zN5 x x7).bind fun x18=>some (!x18)).bind fun b=>(if b then some (.inr (.inl false))
 else some (.inl (wk .i64 (x7+1))))
 else some (.inr (.inr ())))
noncomputable def zP4 (parents:List (List Int)):Option Bool:=
 (zC (fun (s':Int)=>xZ parents s') (0)).bind fun p=>(match p with | .inl c'=>some c' | .inr q=>zT4 parents)
noncomputable def uI (s:List Int):Option (List Int):=
 qE ([]:List Int) s
noncomputable def zM3 (out_:List (List Int)):Option ((List (List Int))):=
 some out_
noncomputable def uM (parents:List (List Int)) (x8:Int) (out__1:List (List Int)):Option ((Int×(List (List Int)))⊕((List (List Int)))):=
 (if (decide (x8 < (parents.length:Int))) then (zI parents x8).bind fun x=>(uI x).bind fun x14=>(qE out__1 [x14]).bind fun l=>some (.inl ((wk .i64 (x8+1)),l))
 else some (.inr out__1))
noncomputable def zP5 (parents:List (List Int)):Option (List (List Int)):=
 (zC (fun (s':Int×(List (List Int)))=>uM parents s'.1 s'.2) (0,[])).bind fun p=>zM3 p
noncomputable def zH5:Option (Int):=
 some (-1)
noncomputable def jW (s:List Int) (v:Int) (x8:Int):Option ((Int)⊕((Int)⊕(Unit))):=
 (if (decide (x8 < (s.length:Int))) then (zI s x8).bind fun x=>(if (v == x) then some (.inr (.inl x8))
 else some (.inl (wk .i64 (x8+1))))
 else some (.inr (.inr ())))
noncomputable def kP (s:List Int) (v:Int):Option Int:=
 (zC (fun (s':Int)=>jW s v s') (0)).bind fun p=>(match p with | .inl c'=>some c' | .inr q=>zH5)
noncomputable def vQ (s:List Int) (i:Int) (j:Int):Option (List Int):=
 if s.length≤549755813888 then del1 s i j else none
noncomputable def vY (o:T_impl_walker) (r:T_impl_Rec):Option (Bool×T_impl_walker):=
 (kP o.dels r.Version).bind fun x12=>(if (r.Kind == 2) then (if o.open_ then some (false,(T_impl_walker.mk o.open_ o.ins o.dels))
 else some (true,(T_impl_walker.mk true r.Version o.dels)))
 else (if (r.Kind == 3) then (if (!o.open_) then some true else some (o.ins != r.Version)).bind fun b=>(if b then some (false,(T_impl_walker.mk o.open_ o.ins o.dels))
 else some (true,(T_impl_walker.mk false o.ins o.dels)))
 else (if (r.Kind == 4) then (if (decide (x12≥0)) then some (false,(T_impl_walker.mk o.open_ o.ins o.dels))
 else (qE o.dels [r.Version]).bind fun l=>some (true,(T_impl_walker.mk o.open_ o.ins l)))
 else (if (r.Kind == 5) then (if (decide (x12 < 0)) then some (false,(T_impl_walker.mk o.open_ o.ins o.dels))
 else (vQ o.dels x12 (wk .i64 (x12+1))).bind fun x75=>some (true,(T_impl_walker.mk o.open_ o.ins x75)))
 else (if (r.Kind == 1) then some (o.open_,(T_impl_walker.mk o.open_ o.ins o.dels))
 else some (false,(T_impl_walker.mk o.open_ o.ins o.dels)))))))
noncomputable def zN4 (n:Int) (size:Int):Option Bool:=
 (vR n 0 (wk .i64 (size - 1))).bind fun x8=>some x8
noncomputable def zN7 (s:List Int):Option (List Int):=
 some s
noncomputable def zD4 (s:List Int):Option (List Int):=
 if s.length≤549755813888 then some (s.mergeSort fun x y=>decide (x≤y)) else none
noncomputable def qB5 (s:Int):Option (Int):=
 some s
noncomputable def yK (closed:List Int) (list_:List Int) (s_1:Int) (x10:Int):Option ((Int×Int)⊕(Int)):=
 (if (decide (x10 < (list_.length:Int))) then (zI list_ x10).bind fun x=>(zI closed x).bind fun x_1=>some (.inl ((bits .or .u64 s_1 x_1),(wk .i64 (x10+1))))
 else some (.inr s_1))
noncomputable def zP1 (closed:List Int) (list_:List Int):Option Int:=
 (zC (fun (s':Int×Int)=>yK closed list_ s'.1 s'.2) (0,0)).bind fun p=>qB5 p
noncomputable def zZ8 (out_:List Int):Option ((List Int)):=
 some out_
noncomputable def vT (parents:List (List Int)) (x11:Int) (out__1:List Int):Option ((Int×(List Int))⊕((List Int))):=
 (if (decide (x11 < (parents.length:Int))) then (zI parents x11).bind fun x=>(zP1 out__1 x).bind fun x20=>(chk (¬(wk .u64 x11) < 0)).bind fun u=>(zI out__1 x11).bind fun x_1=>some (.inl ((wk .i64 (x11+1)),(out__1.set x11.toNat (bits .or .u64 x20 (shlI .u64 1 (wk .u64 x11))))))
 else some (.inr out__1))
noncomputable def zH9 (parents:List (List Int)):Option (List Int):=
 ((mkl (parents.length:Int) (parents.length:Int) 0:Option (List Int))).bind fun x8=>(zC (fun (s':Int×(List Int))=>vT parents s'.1 s'.2) (0,x8)).bind fun p=>zZ8 p
noncomputable def strings_Contains (s:ByteArray) (x:ByteArray):Option Bool:=
 if s.size < 4294967281 then some (Go.Lib.contains s.data.toList x.data.toList) else none
noncomputable def zX9 (line:ByteArray):Option Bool:=
 (if (decide ((line.size:Int)≤60)) then (strings_Contains line (ByteArray.mk #[10])).bind fun x8=>some (!x8) else some false).bind fun b=>some b
noncomputable def zM4 (s:Int) (v:Int):Option Bool:=
 (vR v 0 63).bind fun x6=>(if x6 then (chk (¬(wk .u64 v) < 0)).bind fun u=>some ((bits .and .u64 (xL .u64 s (wk .u64 v)) 1) == 1) else some false).bind fun b=>some b
noncomputable def qG8 (s:Int):Option (Int):=
 some s
noncomputable def uP (list_:List Int) (s_1:Int) (x8:Int):Option ((Int×Int)⊕(Int)):=
 (if (decide (x8 < (list_.length:Int))) then (zI list_ x8).bind fun x=>(vR x 0 63).bind fun x13=>(if x13 then (chk (¬(wk .u64 x) < 0)).bind fun u=>some (.inl ((bits .or .u64 s_1 (shlI .u64 1 (wk .u64 x))),(wk .i64 (x8+1))))
 else some (.inl (s_1,(wk .i64 (x8+1)))))
 else some (.inr s_1))
noncomputable def qA9 (list_:List Int):Option Int:=
 (zC (fun (s':Int×Int)=>uP list_ s'.1 s'.2) (0,0)).bind fun p=>qG8 p
noncomputable def vX (b:T_impl_Body) (s:Int):Option Bool:=
 (zM4 s b.Ins).bind fun x8=>(if x8 then (qA9 b.Dels).bind fun x12=>some ((bits .and .u64 x12 s) == 0) else some false).bind fun b_1=>some b_1
noncomputable def zQ7 (out_:List Int):Option ((List Int)):=
 some out_
noncomputable def xF (w:T_impl_Weave) (s:Int) (x13:Int) (out__1:List Int):Option ((Int×(List Int))⊕((List Int))):=
 (if (decide (x13 < (w.Bodies.length:Int))) then (zI w.Bodies x13).bind fun x=>(vX (T_impl_Body.mk x.Line x.Ins x.Ord x.Dels) s).bind fun x20=>(if x20 then (qE out__1 [x13]).bind fun l=>some (.inl ((wk .i64 (x13+1)),l))
 else some (.inl ((wk .i64 (x13+1)),out__1)))
 else some (.inr out__1))
noncomputable def yE (w:T_impl_Weave) (s:Int):Option (List Int):=
 (zC (fun (s':Int×(List Int))=>xF w s s'.1 s'.2) (0,[])).bind fun p=>zQ7 p
noncomputable def zY8:Option (Bool):=
 some true
noncomputable def zA9 (w:T_impl_Weave) (closed:List Int) (born:List Int) (x80:Int):Option ((Int)⊕((Bool)⊕(Unit))):=
 (if (decide (x80 < (closed.length:Int))) then (zI closed x80).bind fun x=>(zI born x80).bind fun x_1=>(if (decide (x_1 > 80)) then some true else (yE (T_impl_Weave.mk w.Parents w.Bodies) x).bind fun x92=>some (decide ((x92.length:Int) > 80))).bind fun b=>(if b then some (.inr (.inl false))
 else some (.inl (wk .i64 (x80+1))))
 else some (.inr (.inr ())))
noncomputable def zH1 (w:T_impl_Weave) (closed:List Int) (born:List Int):Option (Bool):=
 (zC (fun (s':Int)=>zA9 w closed born s') (0)).bind fun p=>(match p with | .inl c'=>some c' | .inr q=>zY8)
noncomputable def zQ4 (x18:Int) (born_2:List Int):Option ((Int×(List Int))⊕((Bool)⊕((List Int)))):=
 some (.inl ((wk .i64 (x18+1)),born_2))
noncomputable def uZ (w:T_impl_Weave) (closed:List Int) (x_2:T_impl_Body) (x62:Int):Option ((Int)⊕(((Int×(List Int))⊕((Bool)⊕((List Int))))⊕(Unit))):=
 (if (decide (x62 < (x_2.Dels.length:Int))) then (zI x_2.Dels x62).bind fun x_5=>(zI w.Parents x_5).bind fun x_6=>(zP1 closed x_6).bind fun x73=>(vX (T_impl_Body.mk x_2.Line x_2.Ins x_2.Ord x_2.Dels) x73).bind fun x74=>(if (!x74) then some (.inr (.inl (.inr (.inl false))))
 else some (.inl (wk .i64 (x62+1))))
 else some (.inr (.inr ())))
noncomputable def jN (w:T_impl_Weave) (closed:List Int) (x18:Int) (born_1:List Int):Option ((Int×(List Int))⊕((Bool)⊕((List Int)))):=
 (if (decide (x18 < (w.Bodies.length:Int))) then (zI w.Bodies x18).bind fun x_2=>(zX9 x_2.Line).bind fun x24=>(if (!x24) then some true else (zN4 x_2.Ins (closed.length:Int)).bind fun x31=>some (!x31)).bind fun b_1=>(if b_1 then some true else (zI born_1 x_2.Ins).bind fun x_3=>some (x_2.Ord != x_3)).bind fun b_2=>(if b_2 then some true else (zN5 x_2.Dels (closed.length:Int)).bind fun x49=>some (!x49)).bind fun b_3=>(if b_3 then some (.inr (.inl false))
 else (zI born_1 x_2.Ins).bind fun x_4=>(zC (fun (s':Int)=>uZ w closed x_2 s') (0)).bind fun p_2=>(match p_2 with | .inl c'=>some c' | .inr q_1=>zQ4 x18 (born_1.set x_2.Ins.toNat (wk .i64 (x_4+1)))))
 else some (.inr (.inr born_1)))
noncomputable def zI9 (w:T_impl_Weave) (closed:List Int):Option Bool:=
 ((mkl (closed.length:Int) (closed.length:Int) 0:Option (List Int))).bind fun x14=>(zC (fun (s':Int×(List Int))=>jN w closed s'.1 s'.2) (0,x14)).bind fun p_1=>(match p_1 with | .inl c'=>some c' | .inr q_2=>zH1 w closed q_2)
noncomputable def zN8 (w:T_impl_Weave):Option Bool:=
 (if (decide ((w.Bodies.length:Int)≤300)) then (zP4 w.Parents).bind fun x10=>some x10 else some false).bind fun b=>(if b then (zH9 w.Parents).bind fun x16=>(zI9 (T_impl_Weave.mk w.Parents w.Bodies) x16).bind fun x17=>some x17 else some false).bind fun b_1=>some b_1
noncomputable def kL (s:List Int) (v:Int):Option Bool:=
 (kP s v).bind fun x7=>some (decide (x7≥0))
noncomputable def qG7 (out__3:List T_impl_Rec):Option ((List T_impl_Rec)):=
 some out__3
noncomputable def zI0 (dels:List Int) (nextDels:List Int) (x61:Int) (out__4:List T_impl_Rec):Option ((Int×(List T_impl_Rec))⊕((List T_impl_Rec))):=
 (if (decide (x61 < (nextDels.length:Int))) then (zI nextDels x61).bind fun x=>(kL dels x).bind fun x67=>(if (!x67) then (qE out__4 [(T_impl_Rec.mk 4 x (ByteArray.mk #[]))]).bind fun l=>some (.inl ((wk .i64 (x61+1)),l))
 else some (.inl ((wk .i64 (x61+1)),out__4)))
 else some (.inr out__4))
noncomputable def zH6 (dels:List Int) (nextDels:List Int) (out__2:List T_impl_Rec):Option ((List T_impl_Rec)):=
 (zC (fun (s':Int×(List T_impl_Rec))=>zI0 dels nextDels s'.1 s'.2) (0,out__2)).bind fun p=>qG7 p
noncomputable def zI7 (ins:Int) (dels:List Int) (nextIns:Int) (nextDels:List Int) (out__1:List T_impl_Rec):Option ((List T_impl_Rec)):=
 (if (ins != nextIns) then some (decide (nextIns≥0)) else some false).bind fun b=>(if b then (qE out__1 [(T_impl_Rec.mk 2 nextIns (ByteArray.mk #[]))]).bind fun l_1=>zH6 dels nextDels l_1
 else zH6 dels nextDels out__1)
noncomputable def zR0 (ins:Int) (dels:List Int) (nextIns:Int) (nextDels:List Int) (out_:List T_impl_Rec):Option ((List T_impl_Rec)):=
 (if (ins != nextIns) then some (decide (ins≥0)) else some false).bind fun b_1=>(if b_1 then (qE out_ [(T_impl_Rec.mk 3 ins (ByteArray.mk #[]))]).bind fun l_2=>zI7 ins dels nextIns nextDels l_2
 else zI7 ins dels nextIns nextDels out_)
noncomputable def zH7 (dels:List Int) (nextDels:List Int) (i:Int) (out__5:List T_impl_Rec):Option ((Int×(List T_impl_Rec))⊕((List T_impl_Rec))):=
 (if (decide (i≥0)) then (zI dels i).bind fun x_1=>(kL nextDels x_1).bind fun x25=>(if (!x25) then (qE out__5 [(T_impl_Rec.mk 5 x_1 (ByteArray.mk #[]))]).bind fun l_3=>some (.inl ((wk .i64 (i - 1)),l_3))
 else some (.inl ((wk .i64 (i - 1)),out__5)))
 else some (.inr out__5))
noncomputable def zV6 (ins:Int) (dels:List Int) (nextIns:Int) (nextDels:List Int):Option (List T_impl_Rec):=
 (zC (fun (s':Int×(List T_impl_Rec))=>zH7 dels nextDels s'.1 s'.2) ((wk .i64 ((dels.length:Int) - 1)),[])).bind fun p_1=>zR0 ins dels nextIns nextDels p_1
noncomputable def zS5 (ins:Int) (dels:List Int) (out_:List T_impl_Rec):Option ((List T_impl_Rec)):=
 (zV6 ins dels (-1) ([]:List Int)).bind fun x38=>(qE out_ x38).bind fun l=>some l
noncomputable def vN (w:T_impl_Weave) (ins_1:Int) (dels_1:List Int) (x11:Int) (out__1:List T_impl_Rec):Option ((Int×(List Int)×Int×(List T_impl_Rec))⊕(Int×(List Int)×(List T_impl_Rec))):=
 (if (decide (x11 < (w.Bodies.length:Int))) then (zI w.Bodies x11).bind fun x=>(zV6 ins_1 dels_1 x.Ins x.Dels).bind fun x22=>(qE out__1 x22).bind fun l_1=>(qE l_1 [(T_impl_Rec.mk 1 0 x.Line)]).bind fun l_2=>some (.inl (x.Ins,x.Dels,(wk .i64 (x11+1)),l_2))
 else some (.inr (ins_1,dels_1,out__1)))
noncomputable def zM9 (w:T_impl_Weave):Option (List T_impl_Rec):=
 (zC (fun (s':Int×(List Int)×Int×(List T_impl_Rec))=>vN w s'.1 s'.2.1 s'.2.2.1 s'.2.2.2) ((-1),[],0,[])).bind fun p=>zS5 p.1 p.2.1 p.2.2
noncomputable def yQ:Option (Bool):=
 some true
noncomputable def qW (s1:List T_impl_Rec) (s2:List T_impl_Rec) (x13:Int):Option ((Int)⊕((Bool)⊕(Unit))):=
 (if (decide (x13 < (s1.length:Int))) then (zI s1 x13).bind fun x=>(zI s2 x13).bind fun x_1=>(if (!((x.Kind == x_1.Kind) && ((x.Version == x_1.Version) && (x.Line.toList == x_1.Line.toList)))) then some (.inr (.inl false))
 else some (.inl (wk .i64 (x13+1))))
 else some (.inr (.inr ())))
noncomputable def xG (s1:List T_impl_Rec) (s2:List T_impl_Rec):Option Bool:=
 (if ((s1.length:Int) != (s2.length:Int)) then some false
 else (zC (fun (s':Int)=>qW s1 s2 s') (0)).bind fun p=>(match p with | .inl c'=>some c' | .inr q=>yQ))
noncomputable def uU (list_:List T_impl_Rec) (x21:(List (List Int))) (w:List T_impl_Body):Option (T_impl_Weave×Bool):=
 (zN8 (T_impl_Weave.mk x21 w)).bind fun x75=>(if (!x75) then some true else (zM9 (T_impl_Weave.mk x21 w)).bind fun x79=>(xG x79 list_).bind fun x81=>some (!x81)).bind fun b_1=>(if b_1 then some ((T_impl_Weave.mk [] []),false)
 else some ((T_impl_Weave.mk x21 w),true))
noncomputable def vJ (parents:List (List Int)) (list_:List T_impl_Rec) (x29:Int) (w_1:List T_impl_Body) (o:Bool) (o_1:Int) (o_2:List Int) (born:List Int):Option ((Int×(List T_impl_Body)×Bool×Int×(List Int)×(List Int))⊕((T_impl_Weave×Bool)⊕((List T_impl_Body)))):=
 (if (decide (x29 < (list_.length:Int))) then (zI list_ x29).bind fun x=>(vY (T_impl_walker.mk o o_1 o_2) (T_impl_Rec.mk x.Kind x.Version x.Line)).bind fun x34=>(if (!x34.1) then some (.inr (.inl ((T_impl_Weave.mk [] []),false)))
 else (if (x.Kind != 1) then some (.inl ((wk .i64 (x29+1)),w_1,x34.2.open_,x34.2.ins,x34.2.dels,born))
 else (zN4 x34.2.ins (parents.length:Int)).bind fun x44=>(if (!x44) then some (.inr (.inl ((T_impl_Weave.mk [] []),false)))
 else (zI born x34.2.ins).bind fun x_1=>(zN7 x34.2.dels).bind fun x60=>(zD4 x60).bind fun x61=>(qE w_1 [(T_impl_Body.mk x.Line x34.2.ins x_1 x61)]).bind fun l=>(zI born x34.2.ins).bind fun x_2=>some (.inl ((wk .i64 (x29+1)),l,x34.2.open_,x34.2.ins,x34.2.dels,(born.set x34.2.ins.toNat (wk .i64 (x_2+1))))))))
 else some (.inr (.inr w_1)))
noncomputable def zG3 (parents:List (List Int)) (list_:List T_impl_Rec):Option (T_impl_Weave×Bool):=
 (if (decide ((list_.length:Int) > 4000)) then some true else (zP4 parents).bind fun x16=>some (!x16)).bind fun b=>(if b then some ((T_impl_Weave.mk [] []),false)
 else (zP5 parents).bind fun x21=>((mkl (parents.length:Int) (parents.length:Int) 0:Option (List Int))).bind fun x26=>(zC (fun (s':Int×(List T_impl_Body)×Bool×Int×(List Int)×(List Int))=>vJ parents list_ s'.1 s'.2.1 s'.2.2.1 s'.2.2.2.1 s'.2.2.2.2.1 s'.2.2.2.2.2) (0,[],false,0,[],x26)).bind fun p=>(match p with | .inl c'=>some c' | .inr q=>uU list_ x21 q))
noncomputable def zN0 (w:T_impl_Weave):Option ((List T_impl_Rec)×Bool):=
 (zN8 (T_impl_Weave.mk w.Parents w.Bodies)).bind fun x6=>(if (!x6) then some ([],false)
 else (zM9 (T_impl_Weave.mk w.Parents w.Bodies)).bind fun x9=>(if (decide ((x9.length:Int) > 4000)) then some ([],false)
 else some (x9,true)))
noncomputable def zS8 (n_1:Int) (out_:List Int):Option (ByteArray):=
 (qE out_ [(wk .u8 n_1)]).bind fun l=>some (mkS l)
noncomputable def zJ1 (n_2:Int) (out__1:List Int):Option ((Int×(List Int))⊕(Int×(List Int))):=
 (if (decide (n_2 > 127)) then (qE out__1 [(wk .u8 (wk .i64 (128+(n_2.tmod 128))))]).bind fun l_1=>some (.inl ((wk .i64 (n_2.tdiv 128)),l_1))
 else some (.inr (n_2,out__1)))
noncomputable def yS (n:Int):Option ByteArray:=
 (zC (fun (s':Int×(List Int))=>zJ1 s'.1 s'.2) (n,[])).bind fun p=>zS8 p.1 p.2
noncomputable def zN (b:ByteArray) (x:ByteArray):Option (ByteArray):=
 if b.size+x.size≤549755813888 then some (b++x) else none
noncomputable def kW (b:ByteArray):Option (ByteArray):=
 some b
noncomputable def zY5 (b:ByteArray):Option (ByteArray):=
 (kW b).bind fun x20=>some x20
noncomputable def vW (list_:List Int) (x12:Int) (b_1:ByteArray):Option ((Int×ByteArray)⊕(ByteArray)):=
 (if (decide (x12 < (list_.length:Int))) then (zI list_ x12).bind fun x=>(yS x).bind fun x17=>(zN b_1 x17).bind fun x18=>some (.inl ((wk .i64 (x12+1)),x18))
 else some (.inr b_1))
noncomputable def zR2 (list_:List Int):Option ByteArray:=
 (yS (list_.length:Int)).bind fun x8=>(zN (ByteArray.mk #[]) x8).bind fun x9=>(zC (fun (s':Int×ByteArray)=>vW list_ s'.1 s'.2) (0,x9)).bind fun p=>zY5 p
noncomputable def zP2 (out_:List ByteArray):Option ((List ByteArray)):=
 some out_
noncomputable def jR (w:T_impl_Weave) (places:List Int) (x10:Int) (out__1:List ByteArray):Option ((Int×(List ByteArray))⊕((List ByteArray))):=
 (if (decide (x10 < (places.length:Int))) then (zI places x10).bind fun x=>(zI w.Bodies x).bind fun x_1=>(qE out__1 [x_1.Line]).bind fun l=>some (.inl ((wk .i64 (x10+1)),l))
 else some (.inr out__1))
noncomputable def zB9 (w:T_impl_Weave) (places:List Int):Option (List ByteArray):=
 (zC (fun (s':Int×(List ByteArray))=>jR w places s'.1 s'.2) (0,[])).bind fun p=>zP2 p
noncomputable def uF (w:T_impl_Weave) (v:Int):Option (List ByteArray):=
 (zH9 w.Parents).bind fun x11=>(zI x11 v).bind fun x=>(yE (T_impl_Weave.mk w.Parents w.Bodies) x).bind fun x15=>(zB9 (T_impl_Weave.mk w.Parents w.Bodies) x15).bind fun x16=>some x16
noncomputable def zW9 (b:ByteArray):Option (ByteArray):=
 (kW b).bind fun x16=>some x16
noncomputable def vC (list_:List ByteArray) (x8:Int) (b_1:ByteArray):Option ((Int×ByteArray)⊕(ByteArray)):=
 (if (decide (x8 < (list_.length:Int))) then (zI list_ x8).bind fun x=>(sapp x (ByteArray.mk #[10])).bind fun t=>(zN b_1 t).bind fun x14=>some (.inl ((wk .i64 (x8+1)),x14))
 else some (.inr b_1))
noncomputable def zO2 (list_:List ByteArray):Option ByteArray:=
 (zC (fun (s':Int×ByteArray)=>vC list_ s'.1 s'.2) (0,(ByteArray.mk #[]))).bind fun p=>zW9 p
noncomputable def zM6 (s:ByteArray):Option ByteArray:=
 (yS (s.size:Int)).bind fun x5=>(sapp x5 s).bind fun t=>some t
noncomputable def zT7 (r:T_impl_Rec):Option ByteArray:=
 (if (r.Kind == 1) then (zM6 r.Line).bind fun x15=>(sapp (mkS [(wk .u8 r.Kind)]) x15).bind fun t=>some t
 else (yS r.Version).bind fun x20=>(sapp (mkS [(wk .u8 r.Kind)]) x20).bind fun t_1=>some t_1)
noncomputable def zY3 (text:ByteArray):Option (ByteArray×Bool):=
 (if (decide ((text.size:Int) > 60000)) then some ((ByteArray.mk #[]),false)
 else (uJ text).bind fun x9=>(sapp text x9).bind fun t=>some (t,true))
noncomputable def zE2 (b_1:ByteArray):Option (ByteArray×Bool):=
 (kW b_1).bind fun x55=>(zY3 x55).bind fun x56=>some (x56.1,x56.2)
noncomputable def vI (x13:(List T_impl_Rec)×Bool) (x47:Int) (b_2:ByteArray):Option ((Int×ByteArray)⊕(ByteArray)):=
 (if (decide (x47 < (x13.1.length:Int))) then (zI x13.1 x47).bind fun x=>(zT7 (T_impl_Rec.mk x.Kind x.Version x.Line)).bind fun x52=>(zN b_2 x52).bind fun x53=>some (.inl ((wk .i64 (x47+1)),x53))
 else some (.inr b_2))
noncomputable def zM1 (x13:(List T_impl_Rec)×Bool) (b:ByteArray):Option (ByteArray×Bool):=
 (yS (x13.1.length:Int)).bind fun x43=>(zN b x43).bind fun x44=>(zC (fun (s':Int×ByteArray)=>vI x13 s'.1 s'.2) (0,x44)).bind fun p=>zE2 p
noncomputable def xQ (w:T_impl_Weave) (x27:Int) (b_3:ByteArray):Option ((Int×ByteArray)⊕(ByteArray)):=
 (if (decide (x27 < (w.Parents.length:Int))) then (zI w.Parents x27).bind fun x_1=>(zR2 x_1).bind fun x33=>(uF (T_impl_Weave.mk w.Parents w.Bodies) x27).bind fun x35=>(zO2 x35).bind fun x36=>(uJ x36).bind fun x37=>(sapp x33 x37).bind fun t_1=>(zN b_3 t_1).bind fun x39=>some (.inl ((wk .i64 (x27+1)),x39))
 else some (.inr b_3))
noncomputable def zF4 (w:T_impl_Weave):Option (ByteArray×Bool):=
 (zN0 (T_impl_Weave.mk w.Parents w.Bodies)).bind fun x13=>(if (!x13.2) then some ((ByteArray.mk #[]),false)
 else (yS (w.Parents.length:Int)).bind fun x21=>(sapp (ByteArray.mk #[84,87,49]) x21).bind fun t=>(zN (ByteArray.mk #[]) t).bind fun x23=>(zC (fun (s':Int×ByteArray)=>xQ w s'.1 s'.2) (0,x23)).bind fun p_1=>zM1 x13 p_1)
noncomputable def zE1 (text:ByteArray) (parents:List (List Int)) (s_3:ByteArray) (s_4:Int) (s_5:Bool) (list_:List T_impl_Rec):Option (T_impl_Weave×Int):=
 (zE3 (T_impl_scanner.mk s_3 s_4 s_5)).bind fun x55=>(if (!x55) then some ((T_impl_Weave.mk [] []),3)
 else (zG3 parents list_).bind fun x61=>(zF4 (T_impl_Weave.mk x61.1.Parents x61.1.Bodies)).bind fun x66=>(if (!x61.2) then some true else some (!x66.2)).bind fun b_1=>(if b_1 then some true else some (!(x66.1.toList == text.toList))).bind fun b_2=>(if b_2 then some ((T_impl_Weave.mk [] []),4)
 else some ((T_impl_Weave.mk x61.1.Parents x61.1.Bodies),0)))
noncomputable def xP (x44:Int×T_impl_scanner) (x45:Int) (s_6:ByteArray) (s_7:Int) (s_8:Bool) (list__1:List T_impl_Rec):Option ((Int×ByteArray×Int×Bool×(List T_impl_Rec))⊕(ByteArray×Int×Bool×(List T_impl_Rec))):=
 (if (decide (x45 < x44.1)) then (if s_8 then some (.inr (s_6,s_7,s_8,list__1))
 else (zG2 (T_impl_scanner.mk s_6 s_7 s_8)).bind fun x49=>(qE list__1 [(T_impl_Rec.mk x49.1.Kind x49.1.Version x49.1.Line)]).bind fun l=>some (.inl ((wk .i64 (x45+1)),x49.2.text,x49.2.at_,x49.2.bad,l)))
 else some (.inr (s_6,s_7,s_8,list__1)))
noncomputable def zE0 (text:ByteArray) (s:ByteArray) (s_1:Int) (s_2:Bool) (parents:List (List Int)):Option (T_impl_Weave×Int):=
 (kH (T_impl_scanner.mk s s_1 s_2) 4000).bind fun x44=>(zC (fun (s':Int×ByteArray×Int×Bool×(List T_impl_Rec))=>xP x44 s'.1 s'.2.1 s'.2.2.1 s'.2.2.2.1 s'.2.2.2.2) (0,x44.2.text,x44.2.at_,x44.2.bad,[])).bind fun p=>zE1 text parents p.1 p.2.1 p.2.2.1 p.2.2.2
noncomputable def yG (x34:Int×T_impl_scanner) (x35:Int) (s_9:ByteArray) (s_10:Int) (s_11:Bool) (parents_1:List (List Int)):Option ((Int×ByteArray×Int×Bool×(List (List Int)))⊕(ByteArray×Int×Bool×(List (List Int)))):=
 (if (decide (x35 < x34.1)) then (kS (T_impl_scanner.mk s_9 s_10 s_11) 4).bind fun x37=>(qE parents_1 [x37.1]).bind fun l_1=>(zS (T_impl_scanner.mk x37.2.text x37.2.at_ x37.2.bad) 4).bind fun x42=>some (.inl ((wk .i64 (x35+1)),x42.2.text,x42.2.at_,x42.2.bad,l_1))
 else some (.inr (s_9,s_10,s_11,parents_1)))
noncomputable def zF7 (text:ByteArray):Option (T_impl_Weave×Int):=
 (if (decide ((text.size:Int) < 7)) then some true else some (decide ((text.size:Int) > 60004))).bind fun b=>(if b then some ((T_impl_Weave.mk [] []),1)
 else (zI4 text).bind fun x25=>(if (!x25.2) then some ((T_impl_Weave.mk [] []),2)
 else (zD6 (T_impl_scanner.mk x25.1 0 false) (ByteArray.mk #[84,87,49])).bind fun x33=>(kH (T_impl_scanner.mk x33.text x33.at_ x33.bad) 40).bind fun x34=>(zC (fun (s':Int×ByteArray×Int×Bool×(List (List Int)))=>yG x34 s'.1 s'.2.1 s'.2.2.1 s'.2.2.2.1 s'.2.2.2.2) (0,x34.2.text,x34.2.at_,x34.2.bad,[])).bind fun p_1=>zE0 text p_1.1 p_1.2.1 p_1.2.2.1 p_1.2.2.2))
noncomputable def qF1:Option (Bool):=
 some true
noncomputable def zF2 (a:List Int) (b:List Int) (i:Int):Option ((Int)⊕((Bool)⊕(Unit))):=
 (if (decide (i < (a.length:Int))) then (zI a i).bind fun x=>(zI b i).bind fun x_1=>(if (x != x_1) then some (.inr (.inl false))
 else some (.inl (wk .i64 (i+1))))
 else some (.inr (.inr ())))
noncomputable def zR9 (a:List Int) (b:List Int):Option Bool:=
 (if ((a.length:Int) != (b.length:Int)) then some false
 else (zC (fun (s':Int)=>zF2 a b s') (0)).bind fun p=>(match p with | .inl c'=>some c' | .inr q=>qF1))
noncomputable def qB4:Option (Bool):=
 some true
noncomputable def zC8 (a:List (List Int)) (b:List (List Int)) (i:Int):Option ((Int)⊕((Bool)⊕(Unit))):=
 (if (decide (i < (a.length:Int))) then (zI a i).bind fun x=>(zI b i).bind fun x_1=>(zR9 x x_1).bind fun x25=>(if (!x25) then some (.inr (.inl false))
 else some (.inl (wk .i64 (i+1))))
 else some (.inr (.inr ())))
noncomputable def zV2 (a:List (List Int)) (b:List (List Int)):Option Bool:=
 (if ((a.length:Int) != (b.length:Int)) then some false
 else (zC (fun (s':Int)=>zC8 a b s') (0)).bind fun p=>(match p with | .inl c'=>some c' | .inr q=>qB4))
noncomputable def zX5 (a:T_impl_Body) (b:T_impl_Body):Option Bool:=
 (if (!(a.Line.toList == b.Line.toList)) then some false
 else (if (a.Ins != b.Ins) then some false
 else (if (a.Ord != b.Ord) then some false
 else (zR9 a.Dels b.Dels).bind fun x24=>(if (!x24) then some false
 else some true))))
noncomputable def qD1:Option (Bool):=
 some true
noncomputable def zC9 (a:List T_impl_Body) (b:List T_impl_Body) (i:Int):Option ((Int)⊕((Bool)⊕(Unit))):=
 (if (decide (i < (a.length:Int))) then (zI a i).bind fun x=>(zI b i).bind fun x_1=>(zX5 (T_impl_Body.mk x.Line x.Ins x.Ord x.Dels) (T_impl_Body.mk x_1.Line x_1.Ins x_1.Ord x_1.Dels)).bind fun x25=>(if (!x25) then some (.inr (.inl false))
 else some (.inl (wk .i64 (i+1))))
 else some (.inr (.inr ())))
noncomputable def zU4 (a:List T_impl_Body) (b:List T_impl_Body):Option Bool:=
 (if ((a.length:Int) != (b.length:Int)) then some false
 else (zC (fun (s':Int)=>zC9 a b s') (0)).bind fun p=>(match p with | .inl c'=>some c' | .inr q=>qD1))
noncomputable def zG6 (a:T_impl_Weave) (b:T_impl_Weave):Option Bool:=
 (zV2 a.Parents b.Parents).bind fun x9=>(if (!x9) then some false
 else (zU4 a.Bodies b.Bodies).bind fun x15=>(if (!x15) then some false
 else some true))
noncomputable def zZ7 (k_1:Int) (a_1:List Int):Option (Int×(List Int)):=
 some (k_1,a_1)
noncomputable def wC (k_2:Int) (i:Int) (a_2:List Int):Option ((Int×Int×(List Int))⊕(Int×(List Int))):=
 (if (decide (i < (a_2.length:Int))) then (zI a_2 i).bind fun x=>some (.inl ((wk .i64 (k_2+1)),(wk .i64 (i+1)),(a_2.set i.toNat k_2)))
 else some (.inr (k_2,a_2)))
noncomputable def zI3 (a:List Int) (k:Int):Option (Int×(List Int)):=
 (zC (fun (s':Int×Int×(List Int))=>wC s'.1 s'.2.1 s'.2.2) (k,0,a)).bind fun p=>zZ7 p.1 p.2
noncomputable def zX4 (k_1:Int) (a_1:List (List Int)):Option (Int×(List (List Int))):=
 some (k_1,a_1)
noncomputable def vD (k_2:Int) (i:Int) (a_2:List (List Int)):Option ((Int×Int×(List (List Int)))⊕(Int×(List (List Int)))):=
 (if (decide (i < (a_2.length:Int))) then (zI a_2 i).bind fun x=>(zI3 x k_2).bind fun x17=>some (.inl (x17.1,(wk .i64 (i+1)),(a_2.set i.toNat x17.2)))
 else some (.inr (k_2,a_2)))
noncomputable def zO5 (a:List (List Int)) (k:Int):Option (Int×(List (List Int))):=
 (zC (fun (s':Int×Int×(List (List Int)))=>vD s'.1 s'.2.1 s'.2.2) (k,0,a)).bind fun p=>zX4 p.1 p.2
noncomputable def zQ5 (out_:ByteArray):Option (ByteArray):=
 (sapp (ByteArray.mk #[109]) out_).bind fun t=>some t
noncomputable def zH2 (k_1:Int) (out__1:ByteArray):Option ((Int×ByteArray)⊕(ByteArray)):=
 (if (decide (k_1 > 0)) then (sapp (mkS [(wk .u8 (wk .i64 (48+(k_1.tmod 10))))]) out__1).bind fun t_1=>some (.inl ((wk .i64 (k_1.tdiv 10)),t_1))
 else some (.inr out__1))
noncomputable def uN (k:Int):Option ByteArray:=
 (if (decide (k≤0)) then some (ByteArray.mk #[109,48])
 else (zC (fun (s':Int×ByteArray)=>zH2 s'.1 s'.2) (k,(ByteArray.mk #[]))).bind fun p=>zQ5 p)
noncomputable def zX3 (k_1:Int) (a_1:List T_impl_Body):Option (Int×(List T_impl_Body)):=
 some (k_1,a_1)
noncomputable def vB (k_2:Int) (i:Int) (a_2:List T_impl_Body):Option ((Int×Int×(List T_impl_Body))⊕(Int×(List T_impl_Body))):=
 (if (decide (i < (a_2.length:Int))) then (uN k_2).bind fun x15=>(zI a_2 i).bind fun x=>(zI (a_2.set i.toNat (T_impl_Body.mk x15 x.Ins x.Ord x.Dels)) i).bind fun x_1=>(zI (a_2.set i.toNat (T_impl_Body.mk x_1.Line (wk .i64 (k_2+1)) x_1.Ord x_1.Dels)) i).bind fun x_2=>(zI (a_2.set i.toNat (T_impl_Body.mk x_2.Line x_2.Ins (wk .i64 ((wk .i64 (k_2+1))+1)) x_2.Dels)) i).bind fun x_3=>(zI3 x_3.Dels (wk .i64 ((wk .i64 ((wk .i64 (k_2+1))+1))+1))).bind fun x40=>some (.inl (x40.1,(wk .i64 (i+1)),(a_2.set i.toNat (T_impl_Body.mk x_3.Line x_3.Ins x_3.Ord x40.2))))
 else some (.inr (k_2,a_2)))
noncomputable def zN2 (a:List T_impl_Body) (k:Int):Option (Int×(List T_impl_Body)):=
 (zC (fun (s':Int×Int×(List T_impl_Body))=>vB s'.1 s'.2.1 s'.2.2) (k,0,a)).bind fun p=>zX3 p.1 p.2
noncomputable def zJ3 (a:T_impl_Weave) (k:Int):Option (Int×(List (List Int))×(List T_impl_Body)):=
 (zO5 a.Parents k).bind fun x=>(zN2 a.Bodies x.1).bind fun y=>some (y.1,x.2,y.2)
noncomputable def zZ9 (k_1:Int):Option (Int):=
 some k_1
noncomputable def vV (a:List Int) (k_2:Int) (i:Int):Option ((Int×Int)⊕((Int)⊕(Int))):=
 (if (decide (i < (a.length:Int))) then (zI a i).bind fun x=>(if (x != k_2) then some (.inr (.inl (-1)))
 else some (.inl ((wk .i64 (k_2+1)),(wk .i64 (i+1)))))
 else some (.inr (.inr k_2)))
noncomputable def zJ0 (a:List Int) (k:Int):Option Int:=
 (zC (fun (s':Int×Int)=>vV a s'.1 s'.2) (k,0)).bind fun p=>(match p with | .inl c'=>some c' | .inr q=>zZ9 q)
noncomputable def zX2 (k_1:Int):Option (Int):=
 some k_1
noncomputable def vG (a:List (List Int)) (k_2:Int) (i:Int):Option ((Int×Int)⊕((Int)⊕(Int))):=
 (if (decide (i < (a.length:Int))) then (zI a i).bind fun x=>(zJ0 x k_2).bind fun x17=>(if (decide (x17 < 0)) then some (.inr (.inl (-1)))
 else some (.inl (x17,(wk .i64 (i+1)))))
 else some (.inr (.inr k_2)))
noncomputable def zO7 (a:List (List Int)) (k:Int):Option Int:=
 (zC (fun (s':Int×Int)=>vG a s'.1 s'.2) (k,0)).bind fun p=>(match p with | .inl c'=>some c' | .inr q=>zX2 q)
noncomputable def zW8 (k_1:Int):Option (Int):=
 some k_1
noncomputable def vF (a:List T_impl_Body) (k_2:Int) (i:Int):Option ((Int×Int)⊕((Int)⊕(Int))):=
 (if (decide (i < (a.length:Int))) then (zI a i).bind fun x=>(uN k_2).bind fun x18=>(if (!(x.Line.toList == x18.toList)) then some (.inr (.inl (-1)))
 else (if (x.Ins != (wk .i64 (k_2+1))) then some (.inr (.inl (-1)))
 else (if (x.Ord != (wk .i64 ((wk .i64 (k_2+1))+1))) then some (.inr (.inl (-1)))
 else (zJ0 x.Dels (wk .i64 ((wk .i64 ((wk .i64 (k_2+1))+1))+1))).bind fun x46=>(if (decide (x46 < 0)) then some (.inr (.inl (-1)))
 else some (.inl (x46,(wk .i64 (i+1))))))))
 else some (.inr (.inr k_2)))
noncomputable def zO0 (a:List T_impl_Body) (k:Int):Option Int:=
 (zC (fun (s':Int×Int)=>vF a s'.1 s'.2) (k,0)).bind fun p=>(match p with | .inl c'=>some c' | .inr q=>zW8 q)
noncomputable def zF3 (a:T_impl_Weave) (k:Int):Option Int:=
 (zO7 a.Parents k).bind fun x8=>(if (decide (x8 < 0)) then some (-1)
 else (zO0 a.Bodies x8).bind fun x14=>(if (decide (x14 < 0)) then some (-1)
 else some x14))
noncomputable def laws_FnExactReadWeave (aText:ByteArray):Option Bool:=
 (if (decide ((aText.size:Int) > 1048576)) then some true
 else (zN9 aText).bind fun x16=>(zF7 aText).bind fun x21=>(zG6 (T_impl_Weave.mk x21.1.Parents x21.1.Bodies) (T_impl_Weave.mk x16.1.Parents x16.1.Bodies)).bind fun x26=>(if (!x26) then some true else some (x21.2 != x16.2)).bind fun b=>(if b then some false
 else (zJ3 (T_impl_Weave.mk x21.1.Parents x21.1.Bodies) 1).bind fun x35=>(zF3 (T_impl_Weave.mk x35.2.1 x35.2.2) 1).bind fun x38=>(if (decide (x38 < 0)) then some false
 else (if (x38 != x35.1) then some false
 else (zF7 aText).bind fun x46=>(zG6 (T_impl_Weave.mk x46.1.Parents x46.1.Bodies) (T_impl_Weave.mk x16.1.Parents x16.1.Bodies)).bind fun x51=>(if (!x51) then some true else some (x46.2 != x16.2)).bind fun b_1=>(if b_1 then some false
 else (zF3 (T_impl_Weave.mk x35.2.1 x35.2.2) 1).bind fun x60=>(if (decide (x60 < 0)) then some false
 else (if (x60 != x35.1) then some false
 else some true)))))))
noncomputable def qB7 (out_:List (List Int)) (out__1:List T_impl_Body):Option (T_impl_Weave):=
 some (T_impl_Weave.mk out_ out__1)
noncomputable def zE7 (w:T_impl_Weave) (i:Int) (out__2:List T_impl_Body):Option ((Int×(List T_impl_Body))⊕((List T_impl_Body))):=
 (if (decide (i < (w.Bodies.length:Int))) then (zI w.Bodies i).bind fun x=>(qE ([]:List Int) x.Dels).bind fun l=>(qE out__2 [(T_impl_Body.mk x.Line x.Ins x.Ord l)]).bind fun l_1=>some (.inl ((wk .i64 (i+1)),l_1))
 else some (.inr out__2))
noncomputable def qD0 (w:T_impl_Weave) (out_:List (List Int)):Option (T_impl_Weave):=
 (zC (fun (s':Int×(List T_impl_Body))=>zE7 w s'.1 s'.2) (0,[])).bind fun p=>qB7 out_ p
noncomputable def zE6 (w:T_impl_Weave) (v:Int) (out__3:List (List Int)):Option ((Int×(List (List Int)))⊕((List (List Int)))):=
 (if (decide (v < (w.Parents.length:Int))) then (zI w.Parents v).bind fun x_1=>(qE ([]:List Int) x_1).bind fun l_2=>(qE out__3 [l_2]).bind fun l_3=>some (.inl ((wk .i64 (v+1)),l_3))
 else some (.inr out__3))
noncomputable def zX1 (w:T_impl_Weave):Option T_impl_Weave:=
 (zC (fun (s':Int×(List (List Int)))=>zE6 w s'.1 s'.2) (0,[])).bind fun p_1=>qD0 w p_1
end Go.TV.F
