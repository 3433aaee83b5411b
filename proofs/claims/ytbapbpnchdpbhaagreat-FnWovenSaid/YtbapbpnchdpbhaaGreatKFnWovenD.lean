/- Structures and their rows. -/
import Derived.Test.YtbapbpnchdpbhaaGreatKFnWovenT4
set_option linter.unusedVariables false
set_option linter.unusedSimpArgs false
set_option maxHeartbeats 8000000
set_option maxRecDepth 100000
namespace Go.TV
structure T_spec_l01Cur where
 b:List Int
 i:Int
 h:Int
 deriving Inhabited
structure T_impl_Body where
 Line:ByteArray
 Ins:Int
 Ord:Int
 Dels:List Int
 deriving Inhabited
structure T_impl_Weave where
 Parents:List (List Int)
 Bodies:List T_impl_Body
 deriving Inhabited
structure T_impl_Rec where
 Kind:Int
 Version:Int
 Line:ByteArray
 deriving Inhabited
structure T_impl_scanner where
 text:ByteArray
 at_:Int
 bad:Bool
 deriving Inhabited
structure T_impl_walker where
 open_:Bool
 ins:Int
 dels:List Int
 deriving Inhabited
structure T_impl_Change where
 Kind:Int
 Path:ByteArray
 To:ByteArray
 Lines:List ByteArray
 deriving Inhabited
structure T_impl_Step where
 Parents:List Int
 Note:ByteArray
 Changes:List T_impl_Change
 deriving Inhabited
structure T_spec_l08Cur where
 text:ByteArray
 at_:Int
 bad:Bool
 deriving Inhabited
structure T_impl_Name where
 Path:ByteArray
 Id:Int
 Version:Int
 deriving Inhabited
structure T_impl_Commit where
 Parents:List Int
 Note:ByteArray
 Names:List T_impl_Name
 deriving Inhabited
structure T_impl_Store where
 Commits:List T_impl_Commit
 Files:List T_impl_Weave
 deriving Inhabited
structure T_spec_l15Plan where
 names:List T_impl_Name
 lines:List Int
 files:Int
 deriving Inhabited
structure T_laws_Change where
 Kind:Int
 Path:ByteArray
 To:ByteArray
 Lines:List ByteArray
 deriving Inhabited
structure T_laws_Step where
 Parents:List Int
 Note:ByteArray
 Changes:List T_laws_Change
 deriving Inhabited
theorem R_u8:(∀ (l:List Int) (i:Nat) (a0:Int),(List.map (rK .u8) l).set i [.sc (.int .u8 a0)]=List.map (rK .u8) (l.set i a0)) ∧
 (∀ (l:List Int) (a0:Int),List.map (rK .u8) l++[[.sc (.int .u8 a0)]]=List.map (rK .u8) (l++[a0])) ∧
 (∀ (l:List Int) (b0 b1:Int),List.map (rK .u8) l++[[.sc (.int .u8 b0)],[.sc (.int .u8 b1)]]=List.map (rK .u8) (l++[b0,b1])) ∧
 (∀ (l:List Int) (b0 b1 b2:Int),List.map (rK .u8) l++[[.sc (.int .u8 b0)],[.sc (.int .u8 b1)],[.sc (.int .u8 b2)]]=List.map (rK .u8) (l++[b0,b1,b2])) ∧
 (∀ (l:List Int) (b0 b1 b2 b3:Int),List.map (rK .u8) l++[[.sc (.int .u8 b0)],[.sc (.int .u8 b1)],[.sc (.int .u8 b2)],[.sc (.int .u8 b3)]]=List.map (rK .u8) (l++[b0,b1,b2,b3])) ∧
 (∀ n:Nat,List.replicate n [.sc (.int .u8 0)]=List.map (rK .u8) (List.replicate n 0)) ∧
 (∀ l:List Int,jR (List.map (rK .u8) l)=List.map (rK .u8) l) ∧
 (∀ l:List Int,qQ (List.map (rK .u8) l)=true) ∧
 (∀ l:List Int,zR (List.map (rK .u8) l)=true) ∧
 (∀ l:List Int,zN3 (List.map (rK .u8) l)=true):=
 ⟨fun l i a0=>kR (rK .u8) l i a0,
 fun l a0=>qI (rK .u8) l [a0],
 fun l b0 b1=>qI (rK .u8) l [b0,b1],
 fun l b0 b1 b2=>qI (rK .u8) l [b0,b1,b2],
 fun l b0 b1 b2 b3=>qI (rK .u8) l [b0,b1,b2,b3],
 fun n=>qF3 (rK .u8) 0 n,
 wI (fun _=>rfl),
 zI1 (fun _=>rfl),
 zJ6 (fun _=>rfl),
 scRw (fun _=>rfl)⟩
theorem qM:(∀ (l:List Int) (i:Nat) (a0:Int),(List.map (rK .i64) l).set i [.sc (.int .i64 a0)]=List.map (rK .i64) (l.set i a0)) ∧
 (∀ (l:List Int) (a0:Int),List.map (rK .i64) l++[[.sc (.int .i64 a0)]]=List.map (rK .i64) (l++[a0])) ∧
 (∀ (l:List Int) (b0 b1:Int),List.map (rK .i64) l++[[.sc (.int .i64 b0)],[.sc (.int .i64 b1)]]=List.map (rK .i64) (l++[b0,b1])) ∧
 (∀ (l:List Int) (b0 b1 b2:Int),List.map (rK .i64) l++[[.sc (.int .i64 b0)],[.sc (.int .i64 b1)],[.sc (.int .i64 b2)]]=List.map (rK .i64) (l++[b0,b1,b2])) ∧
 (∀ (l:List Int) (b0 b1 b2 b3:Int),List.map (rK .i64) l++[[.sc (.int .i64 b0)],[.sc (.int .i64 b1)],[.sc (.int .i64 b2)],[.sc (.int .i64 b3)]]=List.map (rK .i64) (l++[b0,b1,b2,b3])) ∧
 (∀ n:Nat,List.replicate n [.sc (.int .i64 0)]=List.map (rK .i64) (List.replicate n 0)) ∧
 (∀ l:List Int,jR (List.map (rK .i64) l)=List.map (rK .i64) l) ∧
 (∀ l:List Int,qQ (List.map (rK .i64) l)=true) ∧
 (∀ l:List Int,zR (List.map (rK .i64) l)=true) ∧
 (∀ l:List Int,zN3 (List.map (rK .i64) l)=true):=
 ⟨fun l i a0=>kR (rK .i64) l i a0,
 fun l a0=>qI (rK .i64) l [a0],
 fun l b0 b1=>qI (rK .i64) l [b0,b1],
 fun l b0 b1 b2=>qI (rK .i64) l [b0,b1,b2],
 fun l b0 b1 b2 b3=>qI (rK .i64) l [b0,b1,b2,b3],
 fun n=>qF3 (rK .i64) 0 n,
 wI (fun _=>rfl),
 zI1 (fun _=>rfl),
 zJ6 (fun _=>rfl),
 scRw (fun _=>rfl)⟩
theorem R_b:(∀ (l:List Bool) (i:Nat) (a0:Bool),(List.map rB l).set i [.sc (.bool a0)]=List.map rB (l.set i a0)) ∧
 (∀ (l:List Bool) (a0:Bool),List.map rB l++[[.sc (.bool a0)]]=List.map rB (l++[a0])) ∧
 (∀ (l:List Bool) (b0 b1:Bool),List.map rB l++[[.sc (.bool b0)],[.sc (.bool b1)]]=List.map rB (l++[b0,b1])) ∧
 (∀ (l:List Bool) (b0 b1 b2:Bool),List.map rB l++[[.sc (.bool b0)],[.sc (.bool b1)],[.sc (.bool b2)]]=List.map rB (l++[b0,b1,b2])) ∧
 (∀ (l:List Bool) (b0 b1 b2 b3:Bool),List.map rB l++[[.sc (.bool b0)],[.sc (.bool b1)],[.sc (.bool b2)],[.sc (.bool b3)]]=List.map rB (l++[b0,b1,b2,b3])) ∧
 (∀ n:Nat,List.replicate n [.sc (.bool false)]=List.map rB (List.replicate n false)) ∧
 (∀ l:List Bool,jR (List.map rB l)=List.map rB l) ∧
 (∀ l:List Bool,qQ (List.map rB l)=true) ∧
 (∀ l:List Bool,zR (List.map rB l)=true) ∧
 (∀ l:List Bool,zN3 (List.map rB l)=true):=
 ⟨fun l i a0=>kR rB l i a0,
 fun l a0=>qI rB l [a0],
 fun l b0 b1=>qI rB l [b0,b1],
 fun l b0 b1 b2=>qI rB l [b0,b1,b2],
 fun l b0 b1 b2 b3=>qI rB l [b0,b1,b2,b3],
 fun n=>qF3 rB false n,
 wI (fun _=>rfl),
 zI1 (fun _=>rfl),
 zJ6 (fun _=>rfl),
 scRw (fun _=>rfl)⟩
theorem jF:(∀ (l:List (List Int)) (i:Nat) (a0:List Int),(List.map (rL true 1 (rK .i64)) l).set i [.list true 1 (List.map (rK .i64) a0)]=List.map (rL true 1 (rK .i64)) (l.set i a0)) ∧
 (∀ (l:List (List Int)) (a0:List Int),List.map (rL true 1 (rK .i64)) l++[[.list true 1 (List.map (rK .i64) a0)]]=List.map (rL true 1 (rK .i64)) (l++[a0])) ∧
 (∀ (l:List (List Int)) (i:Nat) (a0:List Int),(List.map (rL false 1 (rK .i64)) l).set i [.list false 1 (List.map (rK .i64) a0)]=List.map (rL false 1 (rK .i64)) (l.set i a0)) ∧
 (∀ (l:List (List Int)) (a0:List Int),List.map (rL false 1 (rK .i64)) l++[[.list false 1 (List.map (rK .i64) a0)]]=List.map (rL false 1 (rK .i64)) (l++[a0])) ∧
 (∀ (l:List (List Int)) (i:Nat),(List.map (rL true 1 (rK .i64)) l).set i [.list true 1 []]=List.map (rL true 1 (rK .i64)) (l.set i [])) ∧
 (∀ (l:List (List Int)),List.map (rL true 1 (rK .i64)) l++[[.list true 1 []]]=List.map (rL true 1 (rK .i64)) (l++[[]])) ∧
 (∀ l:List (List Int),jR (List.map (rL true 1 (rK .i64)) l)=List.map (rL false 1 (rK .i64)) l) ∧
 (∀ l:List (List Int),qQ (List.map (rL true 1 (rK .i64)) l)=true) ∧
 (∀ l:List (List Int),jR (List.map (rL false 1 (rK .i64)) l)=List.map (rL false 1 (rK .i64)) l) ∧
 (∀ l:List (List Int),qQ (List.map (rL false 1 (rK .i64)) l)=true) ∧
 (∀ l:List (List Int),zR (List.map (rL true 1 (rK .i64)) l)=true):=
 ⟨fun l i a0=>kR (rL true 1 (rK .i64)) l i a0,
 fun l a0=>qI (rL true 1 (rK .i64)) l [a0],
 fun l i a0=>kR (rL false 1 (rK .i64)) l i a0,
 fun l a0=>qI (rL false 1 (rK .i64)) l [a0],
 fun l i=>kR (rL true 1 (rK .i64)) l i [],
 fun l=>qI (rL true 1 (rK .i64)) l [[]],
 wI (bor_rL (fun _=>rfl)),
 zI1 (fun _=>rfl),
 wI (bor_rL (fun _=>rfl)),
 zI1 (fun _=>rfl),
 zJ6 (nb_rL (fun _=>rfl))⟩
def zA (o:Bool) (x:T_impl_Body):List V:=[.sc (.string x.Line),.sc (.int .i64 x.Ins),.sc (.int .i64 x.Ord),.list o 1 (List.map (rK .i64) x.Dels)]
theorem zL:(∀ (l:List T_impl_Body) (i:Nat) (a0:ByteArray) (a1:Int) (a2:Int) (a3:List Int),(List.map (zA true) l).set i [.sc (.string a0),.sc (.int .i64 a1),.sc (.int .i64 a2),.list true 1 (List.map (rK .i64) a3)]=List.map (zA true) (l.set i (T_impl_Body.mk a0 a1 a2 a3))) ∧
 (∀ (l:List T_impl_Body) (a0:ByteArray) (a1:Int) (a2:Int) (a3:List Int),List.map (zA true) l++[[.sc (.string a0),.sc (.int .i64 a1),.sc (.int .i64 a2),.list true 1 (List.map (rK .i64) a3)]]=List.map (zA true) (l++[(T_impl_Body.mk a0 a1 a2 a3)])) ∧
 (∀ (l:List T_impl_Body) (i:Nat) (a0:ByteArray) (a1:Int) (a2:Int) (a3:List Int),(List.map (zA false) l).set i [.sc (.string a0),.sc (.int .i64 a1),.sc (.int .i64 a2),.list false 1 (List.map (rK .i64) a3)]=List.map (zA false) (l.set i (T_impl_Body.mk a0 a1 a2 a3))) ∧
 (∀ (l:List T_impl_Body) (a0:ByteArray) (a1:Int) (a2:Int) (a3:List Int),List.map (zA false) l++[[.sc (.string a0),.sc (.int .i64 a1),.sc (.int .i64 a2),.list false 1 (List.map (rK .i64) a3)]]=List.map (zA false) (l++[(T_impl_Body.mk a0 a1 a2 a3)])) ∧
 (∀ (l:List T_impl_Body) (i:Nat) (a0:ByteArray) (a1:Int) (a2:Int),(List.map (zA true) l).set i [.sc (.string a0),.sc (.int .i64 a1),.sc (.int .i64 a2),.list true 1 []]=List.map (zA true) (l.set i (T_impl_Body.mk a0 a1 a2 []))) ∧
 (∀ (l:List T_impl_Body) (a0:ByteArray) (a1:Int) (a2:Int),List.map (zA true) l++[[.sc (.string a0),.sc (.int .i64 a1),.sc (.int .i64 a2),.list true 1 []]]=List.map (zA true) (l++[(T_impl_Body.mk a0 a1 a2 [])])) ∧
 (∀ l:List T_impl_Body,jR (List.map (zA true) l)=List.map (zA false) l) ∧
 (∀ l:List T_impl_Body,qQ (List.map (zA true) l)=true) ∧
 (∀ l:List T_impl_Body,jR (List.map (zA false) l)=List.map (zA false) l) ∧
 (∀ l:List T_impl_Body,qQ (List.map (zA false) l)=true) ∧
 (∀ l:List T_impl_Body,zR (List.map (zA true) l)=true) ∧
 (∀ x:T_impl_Body,zA true x=[.sc (.string x.Line),.sc (.int .i64 x.Ins),.sc (.int .i64 x.Ord),.list true 1 (List.map (rK .i64) x.Dels)]) ∧
 (∀ x:T_impl_Body,zA false x=[.sc (.string x.Line),.sc (.int .i64 x.Ins),.sc (.int .i64 x.Ord),.list false 1 (List.map (rK .i64) x.Dels)]):=
 ⟨fun l i a0 a1 a2 a3=>kR (zA true) l i (T_impl_Body.mk a0 a1 a2 a3),
 fun l a0 a1 a2 a3=>qI (zA true) l [(T_impl_Body.mk a0 a1 a2 a3)],
 fun l i a0 a1 a2 a3=>kR (zA false) l i (T_impl_Body.mk a0 a1 a2 a3),
 fun l a0 a1 a2 a3=>qI (zA false) l [(T_impl_Body.mk a0 a1 a2 a3)],
 fun l i a0 a1 a2=>kR (zA true) l i (T_impl_Body.mk a0 a1 a2 []),
 fun l a0 a1 a2=>qI (zA true) l [(T_impl_Body.mk a0 a1 a2 [])],
 wI (fun x=>by simp only [zA,qP,V.bor,(show ∀ l:List Int,jR (List.map (rK .i64) l)=List.map (rK .i64) l from wI (fun _=>rfl))]),
 zI1 (fun _=>rfl),
 wI (fun x=>by simp only [zA,qP,V.bor,(show ∀ l:List Int,jR (List.map (rK .i64) l)=List.map (rK .i64) l from wI (fun _=>rfl))]),
 zI1 (fun _=>rfl),
 zJ6 (fun x=>by simp only [zA,zW,V.noBor,Bool.and_true,Bool.true_and,(show ∀ l:List Int,zR (List.map (rK .i64) l)=true from zJ6 (fun _=>rfl))]),
 fun _=>rfl,
 fun _=>rfl⟩
theorem R_s:(∀ (l:List ByteArray) (i:Nat) (a0:ByteArray),(List.map rS l).set i [.sc (.string a0)]=List.map rS (l.set i a0)) ∧
 (∀ (l:List ByteArray) (a0:ByteArray),List.map rS l++[[.sc (.string a0)]]=List.map rS (l++[a0])) ∧
 (∀ (l:List ByteArray) (b0 b1:ByteArray),List.map rS l++[[.sc (.string b0)],[.sc (.string b1)]]=List.map rS (l++[b0,b1])) ∧
 (∀ (l:List ByteArray) (b0 b1 b2:ByteArray),List.map rS l++[[.sc (.string b0)],[.sc (.string b1)],[.sc (.string b2)]]=List.map rS (l++[b0,b1,b2])) ∧
 (∀ (l:List ByteArray) (b0 b1 b2 b3:ByteArray),List.map rS l++[[.sc (.string b0)],[.sc (.string b1)],[.sc (.string b2)],[.sc (.string b3)]]=List.map rS (l++[b0,b1,b2,b3])) ∧
 (∀ n:Nat,List.replicate n [.sc (.string (ByteArray.mk #[]))]=List.map rS (List.replicate n (ByteArray.mk #[]))) ∧
 (∀ l:List ByteArray,jR (List.map rS l)=List.map rS l) ∧
 (∀ l:List ByteArray,qQ (List.map rS l)=true) ∧
 (∀ l:List ByteArray,zR (List.map rS l)=true) ∧
 (∀ l:List ByteArray,zN3 (List.map rS l)=true):=
 ⟨fun l i a0=>kR rS l i a0,
 fun l a0=>qI rS l [a0],
 fun l b0 b1=>qI rS l [b0,b1],
 fun l b0 b1 b2=>qI rS l [b0,b1,b2],
 fun l b0 b1 b2 b3=>qI rS l [b0,b1,b2,b3],
 fun n=>qF3 rS (ByteArray.mk #[]) n,
 wI (fun _=>rfl),
 zI1 (fun _=>rfl),
 zJ6 (fun _=>rfl),
 scRw (fun _=>rfl)⟩
theorem R_Ls:(∀ (l:List (List ByteArray)) (i:Nat) (a0:List ByteArray),(List.map (rL true 1 rS) l).set i [.list true 1 (List.map rS a0)]=List.map (rL true 1 rS) (l.set i a0)) ∧
 (∀ (l:List (List ByteArray)) (a0:List ByteArray),List.map (rL true 1 rS) l++[[.list true 1 (List.map rS a0)]]=List.map (rL true 1 rS) (l++[a0])) ∧
 (∀ (l:List (List ByteArray)) (i:Nat) (a0:List ByteArray),(List.map (rL false 1 rS) l).set i [.list false 1 (List.map rS a0)]=List.map (rL false 1 rS) (l.set i a0)) ∧
 (∀ (l:List (List ByteArray)) (a0:List ByteArray),List.map (rL false 1 rS) l++[[.list false 1 (List.map rS a0)]]=List.map (rL false 1 rS) (l++[a0])) ∧
 (∀ (l:List (List ByteArray)) (i:Nat),(List.map (rL true 1 rS) l).set i [.list true 1 []]=List.map (rL true 1 rS) (l.set i [])) ∧
 (∀ (l:List (List ByteArray)),List.map (rL true 1 rS) l++[[.list true 1 []]]=List.map (rL true 1 rS) (l++[[]])) ∧
 (∀ l:List (List ByteArray),jR (List.map (rL true 1 rS) l)=List.map (rL false 1 rS) l) ∧
 (∀ l:List (List ByteArray),qQ (List.map (rL true 1 rS) l)=true) ∧
 (∀ l:List (List ByteArray),jR (List.map (rL false 1 rS) l)=List.map (rL false 1 rS) l) ∧
 (∀ l:List (List ByteArray),qQ (List.map (rL false 1 rS) l)=true) ∧
 (∀ l:List (List ByteArray),zR (List.map (rL true 1 rS) l)=true):=
 ⟨fun l i a0=>kR (rL true 1 rS) l i a0,
 fun l a0=>qI (rL true 1 rS) l [a0],
 fun l i a0=>kR (rL false 1 rS) l i a0,
 fun l a0=>qI (rL false 1 rS) l [a0],
 fun l i=>kR (rL true 1 rS) l i [],
 fun l=>qI (rL true 1 rS) l [[]],
 wI (bor_rL (fun _=>rfl)),
 zI1 (fun _=>rfl),
 wI (bor_rL (fun _=>rfl)),
 zI1 (fun _=>rfl),
 zJ6 (nb_rL (fun _=>rfl))⟩
theorem R_u64:(∀ (l:List Int) (i:Nat) (a0:Int),(List.map (rK .u64) l).set i [.sc (.int .u64 a0)]=List.map (rK .u64) (l.set i a0)) ∧
 (∀ (l:List Int) (a0:Int),List.map (rK .u64) l++[[.sc (.int .u64 a0)]]=List.map (rK .u64) (l++[a0])) ∧
 (∀ (l:List Int) (b0 b1:Int),List.map (rK .u64) l++[[.sc (.int .u64 b0)],[.sc (.int .u64 b1)]]=List.map (rK .u64) (l++[b0,b1])) ∧
 (∀ (l:List Int) (b0 b1 b2:Int),List.map (rK .u64) l++[[.sc (.int .u64 b0)],[.sc (.int .u64 b1)],[.sc (.int .u64 b2)]]=List.map (rK .u64) (l++[b0,b1,b2])) ∧
 (∀ (l:List Int) (b0 b1 b2 b3:Int),List.map (rK .u64) l++[[.sc (.int .u64 b0)],[.sc (.int .u64 b1)],[.sc (.int .u64 b2)],[.sc (.int .u64 b3)]]=List.map (rK .u64) (l++[b0,b1,b2,b3])) ∧
 (∀ n:Nat,List.replicate n [.sc (.int .u64 0)]=List.map (rK .u64) (List.replicate n 0)) ∧
 (∀ l:List Int,jR (List.map (rK .u64) l)=List.map (rK .u64) l) ∧
 (∀ l:List Int,qQ (List.map (rK .u64) l)=true) ∧
 (∀ l:List Int,zR (List.map (rK .u64) l)=true) ∧
 (∀ l:List Int,zN3 (List.map (rK .u64) l)=true):=
 ⟨fun l i a0=>kR (rK .u64) l i a0,
 fun l a0=>qI (rK .u64) l [a0],
 fun l b0 b1=>qI (rK .u64) l [b0,b1],
 fun l b0 b1 b2=>qI (rK .u64) l [b0,b1,b2],
 fun l b0 b1 b2 b3=>qI (rK .u64) l [b0,b1,b2,b3],
 fun n=>qF3 (rK .u64) 0 n,
 wI (fun _=>rfl),
 zI1 (fun _=>rfl),
 zJ6 (fun _=>rfl),
 scRw (fun _=>rfl)⟩
def zG (o:Bool) (x:T_impl_Rec):List V:=[.sc (.int .i64 x.Kind),.sc (.int .i64 x.Version),.sc (.string x.Line)]
theorem zH4:(∀ (l:List T_impl_Rec) (i:Nat) (a0:Int) (a1:Int) (a2:ByteArray),(List.map (zG true) l).set i [.sc (.int .i64 a0),.sc (.int .i64 a1),.sc (.string a2)]=List.map (zG true) (l.set i (T_impl_Rec.mk a0 a1 a2))) ∧
 (∀ (l:List T_impl_Rec) (a0:Int) (a1:Int) (a2:ByteArray),List.map (zG true) l++[[.sc (.int .i64 a0),.sc (.int .i64 a1),.sc (.string a2)]]=List.map (zG true) (l++[(T_impl_Rec.mk a0 a1 a2)])) ∧
 (∀ (l:List T_impl_Rec) (i:Nat) (a0:Int) (a1:Int) (a2:ByteArray),(List.map (zG true) l).set i [.sc (.int .i64 a0),.sc (.int .i64 a1),.sc (.string a2)]=List.map (zG true) (l.set i (T_impl_Rec.mk a0 a1 a2))) ∧
 (∀ (l:List T_impl_Rec) (a0:Int) (a1:Int) (a2:ByteArray),List.map (zG true) l++[[.sc (.int .i64 a0),.sc (.int .i64 a1),.sc (.string a2)]]=List.map (zG true) (l++[(T_impl_Rec.mk a0 a1 a2)])) ∧
 (∀ l:List T_impl_Rec,jR (List.map (zG true) l)=List.map (zG true) l) ∧
 (∀ l:List T_impl_Rec,qQ (List.map (zG true) l)=true) ∧
 (∀ l:List T_impl_Rec,jR (List.map (zG true) l)=List.map (zG true) l) ∧
 (∀ l:List T_impl_Rec,qQ (List.map (zG true) l)=true) ∧
 (∀ l:List T_impl_Rec,zR (List.map (zG true) l)=true) ∧
 (∀ l:List T_impl_Rec,zN3 (List.map (zG true) l)=true) ∧
 (∀ x:T_impl_Rec,zG true x=[.sc (.int .i64 x.Kind),.sc (.int .i64 x.Version),.sc (.string x.Line)]) ∧
 (∀ x:T_impl_Rec,zG false x=[.sc (.int .i64 x.Kind),.sc (.int .i64 x.Version),.sc (.string x.Line)]):=
 ⟨fun l i a0 a1 a2=>kR (zG true) l i (T_impl_Rec.mk a0 a1 a2),
 fun l a0 a1 a2=>qI (zG true) l [(T_impl_Rec.mk a0 a1 a2)],
 fun l i a0 a1 a2=>kR (zG true) l i (T_impl_Rec.mk a0 a1 a2),
 fun l a0 a1 a2=>qI (zG true) l [(T_impl_Rec.mk a0 a1 a2)],
 wI (fun _=>rfl),
 zI1 (fun _=>rfl),
 wI (fun _=>rfl),
 zI1 (fun _=>rfl),
 zJ6 (fun _=>rfl),
 scRw (fun _=>rfl),
 fun _=>rfl,
 fun _=>rfl⟩
theorem R_Lb:(∀ (l:List (List Bool)) (i:Nat) (a0:List Bool),(List.map (rL true 1 rB) l).set i [.list true 1 (List.map rB a0)]=List.map (rL true 1 rB) (l.set i a0)) ∧
 (∀ (l:List (List Bool)) (a0:List Bool),List.map (rL true 1 rB) l++[[.list true 1 (List.map rB a0)]]=List.map (rL true 1 rB) (l++[a0])) ∧
 (∀ (l:List (List Bool)) (i:Nat) (a0:List Bool),(List.map (rL false 1 rB) l).set i [.list false 1 (List.map rB a0)]=List.map (rL false 1 rB) (l.set i a0)) ∧
 (∀ (l:List (List Bool)) (a0:List Bool),List.map (rL false 1 rB) l++[[.list false 1 (List.map rB a0)]]=List.map (rL false 1 rB) (l++[a0])) ∧
 (∀ (l:List (List Bool)) (i:Nat),(List.map (rL true 1 rB) l).set i [.list true 1 []]=List.map (rL true 1 rB) (l.set i [])) ∧
 (∀ (l:List (List Bool)),List.map (rL true 1 rB) l++[[.list true 1 []]]=List.map (rL true 1 rB) (l++[[]])) ∧
 (∀ l:List (List Bool),jR (List.map (rL true 1 rB) l)=List.map (rL false 1 rB) l) ∧
 (∀ l:List (List Bool),qQ (List.map (rL true 1 rB) l)=true) ∧
 (∀ l:List (List Bool),jR (List.map (rL false 1 rB) l)=List.map (rL false 1 rB) l) ∧
 (∀ l:List (List Bool),qQ (List.map (rL false 1 rB) l)=true) ∧
 (∀ l:List (List Bool),zR (List.map (rL true 1 rB) l)=true):=
 ⟨fun l i a0=>kR (rL true 1 rB) l i a0,
 fun l a0=>qI (rL true 1 rB) l [a0],
 fun l i a0=>kR (rL false 1 rB) l i a0,
 fun l a0=>qI (rL false 1 rB) l [a0],
 fun l i=>kR (rL true 1 rB) l i [],
 fun l=>qI (rL true 1 rB) l [[]],
 wI (bor_rL (fun _=>rfl)),
 zI1 (fun _=>rfl),
 wI (bor_rL (fun _=>rfl)),
 zI1 (fun _=>rfl),
 zJ6 (nb_rL (fun _=>rfl))⟩
end Go.TV
namespace Go.TV.F
noncomputable def zZ6 (code:List Int):Option Bool:=
 some (decide ((code.length:Int) > 1048576))
noncomputable def qF4 (code:List Int) (h:Int):Option (T_spec_l01Cur):=
 some (T_spec_l01Cur.mk code 0 h)
noncomputable def zC3 (code:List Int) (h_1:Int) (i:Int):Option ((Int×Int)⊕(Int)):=
 (if (decide (i < (code.length:Int))) then some (decide (i < 4000)) else some false).bind fun b=>(if b then (zF code i).bind fun x=>some (.inl ((bits .and .i64 (wk .i64 ((wk .i64 ((wk .i64 (h_1 * 131))+(wk .i64 x)))+7)) 1073741823),(wk .i64 (i+1))))
 else some (.inr h_1))
noncomputable def zR7 (code:List Int):Option T_spec_l01Cur:=
 (zB (fun (s':Int×Int)=>zC3 code s'.1 s'.2) ((wk .i64 (73073+(code.length:Int))),0)).bind fun p=>qF4 code p
noncomputable def zU9 (code:List Int):Option Int:=
 (if (decide ((wk .i64 (3+(wk .i64 ((code.length:Int).tdiv 25)))) > 12)) then some 12
 else some (wk .i64 (3+(wk .i64 ((code.length:Int).tdiv 25)))))
noncomputable def yW (c:T_spec_l01Cur):Option (Int×T_spec_l01Cur):=
 (if (decide (c.i < (c.b.length:Int))) then (zF c.b c.i).bind fun x=>some ((bits .and .i64 (wk .i64 ((bits .and .i64 (bits .xor .i64 (vO .i64 (wk .i64 ((wk .i64 (c.h * 6364136223846793005))+1442695040888963407)) 33) (vO .i64 (wk .i64 ((wk .i64 (c.h * 6364136223846793005))+1442695040888963407)) 45)) 255)+(wk .i64 x))) 255),(T_spec_l01Cur.mk c.b (wk .i64 (c.i+1)) (wk .i64 ((wk .i64 (c.h * 6364136223846793005))+1442695040888963407))))
 else some ((bits .and .i64 (bits .xor .i64 (vO .i64 (wk .i64 ((wk .i64 (c.h * 6364136223846793005))+1442695040888963407)) 33) (vO .i64 (wk .i64 ((wk .i64 (c.h * 6364136223846793005))+1442695040888963407)) 45)) 255),(T_spec_l01Cur.mk c.b c.i (wk .i64 ((wk .i64 (c.h * 6364136223846793005))+1442695040888963407)))))
noncomputable def jL (c:T_spec_l01Cur) (n:Int):Option (Int×T_spec_l01Cur):=
 (if (decide (n≤0)) then some (0,(T_spec_l01Cur.mk c.b c.i c.h))
 else (if (decide (n≤256)) then (yW (T_spec_l01Cur.mk c.b c.i c.h)).bind fun x14=>(chk (¬n=0)).bind fun u=>some (((x14.1:Int).tmod n),(T_spec_l01Cur.mk x14.2.b x14.2.i x14.2.h))
 else (yW (T_spec_l01Cur.mk c.b c.i c.h)).bind fun x18=>(yW (T_spec_l01Cur.mk x18.2.b x18.2.i x18.2.h)).bind fun x20=>(yW (T_spec_l01Cur.mk x20.2.b x20.2.i x20.2.h)).bind fun x22=>(yW (T_spec_l01Cur.mk x22.2.b x22.2.i x22.2.h)).bind fun x24=>(chk (¬n=0)).bind fun u_1=>some (((wk .i64 ((wk .i64 ((wk .i64 ((wk .i64 (x18.1 * 16777216))+(wk .i64 (x20.1 * 65536))))+(wk .i64 (x22.1 * 256))))+x24.1)).tmod n),(T_spec_l01Cur.mk x24.2.b x24.2.i x24.2.h))))
noncomputable def wQ (c:T_spec_l01Cur) (n:Int):Option (Bool×T_spec_l01Cur):=
 (jL (T_spec_l01Cur.mk c.b c.i c.h) n).bind fun x7=>some ((x7.1 == 0),(T_spec_l01Cur.mk x7.2.b x7.2.i x7.2.h))
noncomputable def zU1 (c_1:List Int) (c_2:Int) (c_3:Int) (out_:List Int):Option ((List Int)×T_spec_l01Cur):=
 some (out_,(T_spec_l01Cur.mk c_1 c_2 c_3))
noncomputable def yC (n:Int) (v:Int) (c_4:List Int) (c_5:Int) (c_6:Int) (out__1:List Int):Option ((Int×(List Int)×Int×Int×(List Int))⊕((List Int)×Int×Int×(List Int))):=
 (if (decide (v < n)) then (if (decide ((out__1.length:Int) < 4)) then (if (v == (wk .i64 (n - 1))) then (wQ (T_spec_l01Cur.mk c_4 c_5 c_6) 4).bind fun x23=>some ((!x23.1),x23.2.b,x23.2.i,x23.2.h) else some (false,c_4,c_5,c_6)).bind fun b_1=>(if b_1.1 then some (true,b_1.2.1,b_1.2.2.1,b_1.2.2.2) else (wQ (T_spec_l01Cur.mk b_1.2.1 b_1.2.2.1 b_1.2.2.2) (wk .i64 (n+2))).bind fun x30=>some (x30.1,x30.2.b,x30.2.i,x30.2.h)).bind fun b_2=>some (b_2.1,b_2.2.1,b_2.2.2.1,b_2.2.2.2) else some (false,c_4,c_5,c_6)).bind fun b=>(if b.1 then (qF out__1 [v]).bind fun l=>some (.inl ((wk .i64 (v+1)),b.2.1,b.2.2.1,b.2.2.2,l))
 else some (.inl ((wk .i64 (v+1)),b.2.1,b.2.2.1,b.2.2.2,out__1)))
 else some (.inr (c_4,c_5,c_6,out__1)))
noncomputable def zK1 (c:T_spec_l01Cur) (n:Int):Option ((List Int)×T_spec_l01Cur):=
 (zB (fun (s':Int×(List Int)×Int×Int×(List Int))=>yC n s'.1 s'.2.1 s'.2.2.1 s'.2.2.2.1 s'.2.2.2.2) (0,c.b,c.i,c.h,[])).bind fun p=>zU1 p.1 p.2.1 p.2.2.1 p.2.2.2
noncomputable def zD2 (x:Int) (least:Int) (most:Int):Option Bool:=
 (if (decide (x≥least)) then some (decide (x≤most)) else some false).bind fun b=>some b
noncomputable def zW5 (in__1:List Bool):Option ((List Bool)):=
 some in__1
noncomputable def zW3 (v:Int) (in__3:List Bool):Option ((Int×(List Bool))⊕((List Bool))):=
 some (.inl ((wk .i64 (v - 1)),in__3))
noncomputable def uH (parents:List (List Int)) (v:Int) (k:Int) (in__4:List Bool):Option ((Int×(List Bool))⊕((List Bool))):=
 (zF parents v).bind fun x=>(if (decide (k < (x.length:Int))) then (zF in__4 v).bind fun x_1=>some x_1 else some false).bind fun b=>(if b then (zF parents v).bind fun x_2=>(zF x_2 k).bind fun x_3=>(zF in__4 x_3).bind fun x_4=>some (.inl ((wk .i64 (k+1)),(in__4.set x_3.toNat true)))
 else some (.inr in__4))
noncomputable def uK (parents:List (List Int)) (v:Int) (in__2:List Bool):Option ((Int×(List Bool))⊕((List Bool))):=
 (if (decide (v≥0)) then (zB (fun (s':Int×(List Bool))=>uH parents v s'.1 s'.2) (0,in__2)).bind fun p_1=>zW3 v p_1
 else some (.inr in__2))
noncomputable def zW9 (parents:List (List Int)) (in_:List Bool):Option ((List Bool)):=
 (zB (fun (s':Int×(List Bool))=>uK parents s'.1 s'.2) ((wk .i64 ((parents.length:Int) - 1)),in_)).bind fun p=>zW5 p
noncomputable def uI (parents:List (List Int)) (list_:List Int) (i:Int) (in__5:List Bool):Option ((Int×(List Bool))⊕((List Bool))):=
 (if (decide (i < (list_.length:Int))) then (zF list_ i).bind fun x_5=>(zD2 x_5 0 (wk .i64 ((parents.length:Int) - 1))).bind fun x25=>(if x25 then (zF in__5 x_5).bind fun x_6=>some (.inl ((wk .i64 (i+1)),(in__5.set x_5.toNat true)))
 else some (.inl ((wk .i64 (i+1)),in__5)))
 else some (.inr in__5))
noncomputable def zD1 (parents:List (List Int)) (list_:List Int):Option (List Bool):=
 ((mkl (parents.length:Int) (parents.length:Int) false:Option (List Bool))).bind fun x11=>(zB (fun (s':Int×(List Bool))=>uI parents list_ s'.1 s'.2) (0,x11)).bind fun p_2=>zW9 parents p_2
noncomputable def qB8:Option (Bool):=
 some true
noncomputable def zE5 (b:T_impl_Body) (in_:List Bool) (i:Int):Option ((Int)⊕((Bool)⊕(Unit))):=
 (if (decide (i < (b.Dels.length:Int))) then (zF b.Dels i).bind fun x_1=>(zD2 x_1 0 (wk .i64 ((in_.length:Int) - 1))).bind fun x36=>(if x36 then (zF in_ x_1).bind fun x_2=>some x_2 else some false).bind fun b_2=>(if b_2 then some (.inr (.inl false))
 else some (.inl (wk .i64 (i+1))))
 else some (.inr (.inr ())))
noncomputable def yT (b:T_impl_Body) (in_:List Bool):Option Bool:=
 (zD2 b.Ins 0 (wk .i64 ((in_.length:Int) - 1))).bind fun x11=>(if (!x11) then some true else (zF in_ b.Ins).bind fun x=>some (!x)).bind fun b_1=>(if b_1 then some false
 else (zB (fun (s':Int)=>zE5 b in_ s') (0)).bind fun p=>(match p with | .inl c'=>some c' | .inr q=>qB8))
noncomputable def zX5 (out_:List Int):Option ((List Int)):=
 some out_
noncomputable def wC (w:T_impl_Weave) (in_:List Bool) (i:Int) (out__1:List Int):Option ((Int×(List Int))⊕((List Int))):=
 (if (decide (i < (w.Bodies.length:Int))) then (zF w.Bodies i).bind fun x=>(yT (T_impl_Body.mk x.Line x.Ins x.Ord x.Dels) in_).bind fun x21=>(if x21 then (qF out__1 [i]).bind fun l=>some (.inl ((wk .i64 (i+1)),l))
 else some (.inl ((wk .i64 (i+1)),out__1)))
 else some (.inr out__1))
noncomputable def xZ (w:T_impl_Weave) (in_:List Bool):Option (List Int):=
 (zB (fun (s':Int×(List Int))=>wC w in_ s'.1 s'.2) (0,[])).bind fun p=>zX5 p
noncomputable def uU (w:T_impl_Weave) (parents:List Int):Option (List Int):=
 (zD1 w.Parents parents).bind fun x9=>(xZ (T_impl_Weave.mk w.Parents w.Bodies) x9).bind fun x10=>some x10
noncomputable def qA4 (out_:List ByteArray):Option ((List ByteArray)):=
 some out_
noncomputable def yB (w:T_impl_Weave) (places:List Int) (i:Int) (out__1:List ByteArray):Option ((Int×(List ByteArray))⊕((List ByteArray))):=
 (if (decide (i < (places.length:Int))) then (zF places i).bind fun x=>(zF w.Bodies x).bind fun x_1=>(qF out__1 [x_1.Line]).bind fun l=>some (.inl ((wk .i64 (i+1)),l))
 else some (.inr out__1))
noncomputable def vR (w:T_impl_Weave) (places:List Int):Option (List ByteArray):=
 (zB (fun (s':Int×(List ByteArray))=>yB w places s'.1 s'.2) (0,[])).bind fun p=>qA4 p
noncomputable def zN1 (c:T_spec_l01Cur) (list_:List ByteArray):Option (ByteArray×T_spec_l01Cur):=
 (jL (T_spec_l01Cur.mk c.b c.i c.h) (list_.length:Int)).bind fun x9=>(zF list_ x9.1).bind fun x=>some (x,(T_spec_l01Cur.mk x9.2.b x9.2.i x9.2.h))
noncomputable def zD7 (c:T_spec_l01Cur):Option (ByteArray×T_spec_l01Cur):=
 (zN1 (T_spec_l01Cur.mk c.b c.i c.h) [(ByteArray.mk #[97]),(ByteArray.mk #[98]),(ByteArray.mk #[99]),(ByteArray.mk #[100]),(ByteArray.mk #[101]),(ByteArray.mk #[]),(ByteArray.mk #[105,102,32,120]),(ByteArray.mk #[101,110,100]),(ByteArray.mk #[97]),(ByteArray.mk #[98])]).bind fun x5=>some (x5.1,(T_spec_l01Cur.mk x5.2.b x5.2.i x5.2.h))
noncomputable def zS6 (c_1:List Int) (c_2:Int) (c_3:Int) (out_:List ByteArray):Option ((List ByteArray)×T_spec_l01Cur):=
 (wQ (T_spec_l01Cur.mk c_1 c_2 c_3) 4).bind fun x44=>(if x44.1 then (zD7 (T_spec_l01Cur.mk x44.2.b x44.2.i x44.2.h)).bind fun x47=>(qF out_ [x47.1]).bind fun l=>some (l,(T_spec_l01Cur.mk x47.2.b x47.2.i x47.2.h))
 else some (out_,(T_spec_l01Cur.mk x44.2.b x44.2.i x44.2.h)))
noncomputable def zK5 (a:List ByteArray) (i:Int) (c_4:List Int) (c_5:Int) (c_6:Int) (out__1:List ByteArray):Option ((Int×(List Int)×Int×Int×(List ByteArray))⊕((List Int)×Int×Int×(List ByteArray))):=
 (if (decide (i < (a.length:Int))) then (jL (T_spec_l01Cur.mk c_4 c_5 c_6) 6).bind fun x15=>(if (x15.1 == 0) then (zD7 (T_spec_l01Cur.mk x15.2.b x15.2.i x15.2.h)).bind fun x27=>(qF out__1 [x27.1]).bind fun l_1=>some (.inl ((wk .i64 (i+1)),x27.2.b,x27.2.i,x27.2.h,l_1))
 else (if (x15.1 == 1) then (zF a i).bind fun x=>(zD7 (T_spec_l01Cur.mk x15.2.b x15.2.i x15.2.h)).bind fun x34=>(qF out__1 [x34.1,x]).bind fun l_2=>some (.inl ((wk .i64 (i+1)),x34.2.b,x34.2.i,x34.2.h,l_2))
 else (if (x15.1 == 2) then some (.inl ((wk .i64 (i+1)),x15.2.b,x15.2.i,x15.2.h,out__1))
 else (zF a i).bind fun x_1=>(qF out__1 [x_1]).bind fun l_3=>some (.inl ((wk .i64 (i+1)),x15.2.b,x15.2.i,x15.2.h,l_3)))))
 else some (.inr (c_4,c_5,c_6,out__1)))
noncomputable def zU3 (c:T_spec_l01Cur) (a:List ByteArray):Option ((List ByteArray)×T_spec_l01Cur):=
 (zB (fun (s':Int×(List Int)×Int×Int×(List ByteArray))=>zK5 a s'.1 s'.2.1 s'.2.2.1 s'.2.2.2.1 s'.2.2.2.2) (0,c.b,c.i,c.h,[])).bind fun p=>zS6 p.1 p.2.1 p.2.2.1 p.2.2.2
noncomputable def zZ0 (c_1:List Int) (c_2:Int) (c_3:Int) (out_:List ByteArray):Option ((List ByteArray)×T_spec_l01Cur):=
 some (out_,(T_spec_l01Cur.mk c_1 c_2 c_3))
noncomputable def zH8 (n:Int) (i:Int) (c_4:List Int) (c_5:Int) (c_6:Int) (out__1:List ByteArray):Option ((Int×(List Int)×Int×Int×(List ByteArray))⊕((List Int)×Int×Int×(List ByteArray))):=
 (jL (T_spec_l01Cur.mk c_4 c_5 c_6) (wk .i64 (n+1))).bind fun x12=>(if (decide (i < x12.1)) then (zD7 (T_spec_l01Cur.mk x12.2.b x12.2.i x12.2.h)).bind fun x18=>(qF out__1 [x18.1]).bind fun l=>some (.inl ((wk .i64 (i+1)),x18.2.b,x18.2.i,x18.2.h,l))
 else some (.inr (x12.2.b,x12.2.i,x12.2.h,out__1)))
noncomputable def zR0 (c:T_spec_l01Cur) (n:Int):Option ((List ByteArray)×T_spec_l01Cur):=
 (zB (fun (s':Int×(List Int)×Int×Int×(List ByteArray))=>zH8 n s'.1 s'.2.1 s'.2.2.1 s'.2.2.2.1 s'.2.2.2.2) (0,c.b,c.i,c.h,[])).bind fun p=>zZ0 p.1 p.2.1 p.2.2.1 p.2.2.2
noncomputable def qE9:Option (Bool):=
 some true
noncomputable def kI (list_:List Int) (n:Int) (i:Int):Option ((Int)⊕((Bool)⊕(Unit))):=
 (if (decide (i < (list_.length:Int))) then (zF list_ i).bind fun x=>(zD2 x 0 (wk .i64 (n - 1))).bind fun x18=>(if (!x18) then some true else (if (decide (i > 0)) then (zF list_ (wk .i64 (i - 1))).bind fun x_1=>some (decide (x_1≥x)) else some false).bind fun b_1=>some b_1).bind fun b=>(if b then some (.inr (.inl false))
 else some (.inl (wk .i64 (i+1))))
 else some (.inr (.inr ())))
noncomputable def zH6 (list_:List Int) (n:Int):Option Bool:=
 (zB (fun (s':Int)=>kI list_ n s') (0)).bind fun p=>(match p with | .inl c'=>some c' | .inr q=>qE9)
noncomputable def zE0 (w:T_impl_Weave) (parents:List Int):Option Bool:=
 (if (decide ((parents.length:Int)≤4)) then (zH6 parents (w.Parents.length:Int)).bind fun x13=>some x13 else some false).bind fun b=>some b
noncomputable def zX1 (line:ByteArray):Option (Bool):=
 some (decide ((line.size:Int)≤60))
noncomputable def zB7 (line:ByteArray) (i:Int):Option ((Int)⊕((Bool)⊕(Unit))):=
 (if (decide (i < (line.size:Int))) then (sidx line i).bind fun x12=>(if (x12 == 10) then some (.inr (.inl false))
 else some (.inl (wk .i64 (i+1))))
 else some (.inr (.inr ())))
noncomputable def zR9 (line:ByteArray):Option Bool:=
 (zB (fun (s':Int)=>zB7 line s') (0)).bind fun p=>(match p with | .inl c'=>some c' | .inr q=>zX1 line)
noncomputable def qF8:Option (Bool):=
 some true
noncomputable def yI (list_:List ByteArray) (i:Int):Option ((Int)⊕((Bool)⊕(Unit))):=
 (if (decide (i < (list_.length:Int))) then (zF list_ i).bind fun x=>(zR9 x).bind fun x20=>(if (!x20) then some (.inr (.inl false))
 else some (.inl (wk .i64 (i+1))))
 else some (.inr (.inr ())))
noncomputable def zG6 (list_:List ByteArray) (most:Int):Option Bool:=
 (if (decide ((list_.length:Int) > most)) then some false
 else (zB (fun (s':Int)=>yI list_ s') (0)).bind fun p=>(match p with | .inl c'=>some c' | .inr q=>qF8))
noncomputable def zO8 (list_:List ByteArray):Option Bool:=
 (zG6 list_ 80).bind fun x4=>some x4
noncomputable def qE1 (a:List ByteArray):Option Bool:=
 (zG6 a 300).bind fun x4=>some x4
noncomputable def zZ1 (t:List (List Int)):Option ((List (List Int))):=
 some t
noncomputable def zQ4 (i:Int) (t_2:List (List Int)):Option ((Int×(List (List Int)))⊕((List (List Int)))):=
 some (.inl ((wk .i64 (i - 1)),t_2))
noncomputable def zC6 (i:Int) (j:Int) (t_3:List (List Int)) (x_4:Int):Option ((Int×(List (List Int)))⊕((List (List Int)))):=
 (zF t_3 i).bind fun x_5=>(zF x_5 j).bind fun x_6=>some (.inl ((wk .i64 (j - 1)),(t_3.set i.toNat (x_5.set j.toNat x_4))))
noncomputable def zC5 (a:List ByteArray) (b:List ByteArray) (i:Int) (j:Int) (t_3:List (List Int)) (x_3:Int):Option ((Int×(List (List Int)))⊕((List (List Int)))):=
 (zF a i).bind fun x_7=>(zF b j).bind fun x_8=>(if (x_7.toList == x_8.toList) then (zF t_3 (wk .i64 (i+1))).bind fun x_9=>(zF x_9 (wk .i64 (j+1))).bind fun x_10=>zC6 i j t_3 (wk .i64 (x_10+1))
 else zC6 i j t_3 x_3)
noncomputable def xT (a:List ByteArray) (b:List ByteArray) (i:Int) (j:Int) (t_3:List (List Int)):Option ((Int×(List (List Int)))⊕((List (List Int)))):=
 (if (decide (j≥0)) then some (decide (i < (a.length:Int))) else some false).bind fun b_1=>(if b_1 then (zF t_3 (wk .i64 (i+1))).bind fun x_1=>(zF x_1 j).bind fun x_2=>(zF t_3 i).bind fun x_11=>(zF x_11 (wk .i64 (j+1))).bind fun x_12=>(if (decide (x_12 > x_2)) then zC5 a b i j t_3 x_12
 else zC5 a b i j t_3 x_2)
 else some (.inr t_3))
noncomputable def kX (a:List ByteArray) (b:List ByteArray) (i:Int) (t_1:List (List Int)):Option ((Int×(List (List Int)))⊕((List (List Int)))):=
 (if (decide (i≥0)) then ((mkl (wk .i64 ((b.length:Int)+1)) (wk .i64 ((b.length:Int)+1)) 0:Option (List Int))).bind fun x24=>(zF t_1 i).bind fun x=>(zB (fun (s':Int×(List (List Int)))=>xT a b i s'.1 s'.2) ((wk .i64 ((b.length:Int) - 1)),(t_1.set i.toNat x24))).bind fun p_1=>zQ4 i p_1
 else some (.inr t_1))
noncomputable def zR4 (a:List ByteArray) (b:List ByteArray):Option (List (List Int)):=
 ((mkl (wk .i64 ((a.length:Int)+1)) (wk .i64 ((a.length:Int)+1)) []:Option (List (List Int)))).bind fun x12=>(zB (fun (s':Int×(List (List Int)))=>kX a b s'.1 s'.2) ((a.length:Int),x12)).bind fun p=>zZ1 p
noncomputable def qH5 (out__1:List Int):Option ((List Int)):=
 some out__1
noncomputable def zQ9 (b:List ByteArray) (j_1:Int) (out__2:List Int):Option ((Int×(List Int))⊕((List Int))):=
 (if (decide (j_1 < (b.length:Int))) then (qF out__2 [(-1)]).bind fun l=>some (.inl ((wk .i64 (j_1+1)),l))
 else some (.inr out__2))
noncomputable def zY8 (b:List ByteArray) (j:Int) (out_:List Int):Option ((List Int)):=
 (zB (fun (s':Int×(List Int))=>zQ9 b s'.1 s'.2) (j,out_)).bind fun p=>qH5 p
noncomputable def zR3 (a:List ByteArray) (b:List ByteArray) (x21:(List (List Int))) (i:Int) (j_2:Int) (out__3:List Int):Option ((Int×Int×(List Int))⊕(Int×(List Int))):=
 (if (decide (i < (a.length:Int))) then some (decide (j_2 < (b.length:Int))) else some false).bind fun b_2=>(if b_2 then (zF a i).bind fun x=>(zF b j_2).bind fun x_1=>(if (x.toList == x_1.toList) then (qF out__3 [i]).bind fun l_1=>some (.inl ((wk .i64 (i+1)),(wk .i64 (j_2+1)),l_1))
 else (zF x21 (wk .i64 (i+1))).bind fun x_2=>(zF x_2 j_2).bind fun x_3=>(zF x21 i).bind fun x_4=>(zF x_4 (wk .i64 (j_2+1))).bind fun x_5=>(if (decide (x_3≥x_5)) then some (.inl ((wk .i64 (i+1)),j_2,out__3))
 else (qF out__3 [(-1)]).bind fun l_2=>some (.inl (i,(wk .i64 (j_2+1)),l_2))))
 else some (.inr (j_2,out__3)))
noncomputable def zQ1 (a:List ByteArray) (b:List ByteArray):Option (List Int):=
 (qE1 a).bind fun x11=>(if (!x11) then some true else (qE1 b).bind fun x15=>some (!x15)).bind fun b_1=>(if b_1 then some []
 else (zR4 a b).bind fun x21=>(zB (fun (s':Int×Int×(List Int))=>zR3 a b x21 s'.1 s'.2.1 s'.2.2) (0,0,[])).bind fun p_1=>zY8 b p_1.1 p_1.2)
noncomputable def zX2 (w:T_impl_Weave) (l_1:List (List Int)) (out__1:List T_impl_Body):Option (T_impl_Weave×Int×Int):=
 (if (decide ((out__1.length:Int) > 300)) then some ((T_impl_Weave.mk [] []),0,4)
 else some ((T_impl_Weave.mk l_1 out__1),(w.Parents.length:Int),0))
noncomputable def zO6 (i:Int) (ord_1:Int) (out__3:List T_impl_Body):Option ((Int×Int×(List T_impl_Body))⊕((List T_impl_Body))):=
 some (.inl (ord_1,(wk .i64 (i+1)),out__3))
noncomputable def yK (w:T_impl_Weave) (behind:List (List ByteArray)) (i:Int) (ord_2:Int) (k:Int) (out__5:List T_impl_Body):Option ((Int×Int×(List T_impl_Body))⊕(Int×(List T_impl_Body))):=
 (zF behind i).bind fun x=>(if (decide (k < (x.length:Int))) then (zF x k).bind fun x_1=>(qF out__5 [(T_impl_Body.mk x_1 (w.Parents.length:Int) ord_2 [])]).bind fun l_2=>some (.inl ((wk .i64 (ord_2+1)),(wk .i64 (k+1)),l_2))
 else some (.inr (ord_2,out__5)))
noncomputable def uJ (w:T_impl_Weave) (behind:List (List ByteArray)) (ord:Int) (i:Int) (out__4:List T_impl_Body):Option ((Int×Int×(List T_impl_Body))⊕((List T_impl_Body))):=
 (zB (fun (s':Int×Int×(List T_impl_Body))=>yK w behind i s'.1 s'.2.1 s'.2.2) (ord,0,out__4)).bind fun p_1=>zO6 i p_1.1 p_1.2
noncomputable def zH1 (w:T_impl_Weave) (behind:List (List ByteArray)) (ord:Int) (i:Int) (out__2:List T_impl_Body) (x_2:T_impl_Body) (b:List Int):Option ((Int×Int×(List T_impl_Body))⊕((List T_impl_Body))):=
 (qF out__2 [(T_impl_Body.mk x_2.Line x_2.Ins x_2.Ord b)]).bind fun l_4=>uJ w behind ord i l_4
noncomputable def jQ (w:T_impl_Weave) (behind:List (List ByteArray)) (stays:List Bool) (x120:(List Bool)) (ord:Int) (i:Int) (out__2:List T_impl_Body):Option ((Int×Int×(List T_impl_Body))⊕((List T_impl_Body))):=
 (if (decide (i≤(w.Bodies.length:Int))) then (if (decide (i > 0)) then (zF w.Bodies (wk .i64 (i - 1))).bind fun x_2=>(qF ([]:List Int) x_2.Dels).bind fun l_3=>(zF stays (wk .i64 (i - 1))).bind fun x_3=>(if (!x_3) then (yT (T_impl_Body.mk x_2.Line x_2.Ins x_2.Ord l_3) x120).bind fun x150=>some x150 else some false).bind fun b_1=>(if b_1 then (qF l_3 [(w.Parents.length:Int)]).bind fun l_5=>zH1 w behind ord i out__2 x_2 l_5
 else zH1 w behind ord i out__2 x_2 l_3)
 else uJ w behind ord i out__2)
 else some (.inr out__2))
noncomputable def zV9 (w:T_impl_Weave) (parents:List Int) (behind:List (List ByteArray)) (stays:List Bool) (out_:List (List Int)):Option (T_impl_Weave×Int×Int):=
 (qF ([]:List Int) parents).bind fun l=>(qF out_ [l]).bind fun l_1=>(zD1 w.Parents parents).bind fun x120=>(zB (fun (s':Int×Int×(List T_impl_Body))=>jQ w behind stays x120 s'.1 s'.2.1 s'.2.2) (0,0,[])).bind fun p=>zX2 w l_1 p
noncomputable def yH (w:T_impl_Weave) (k_1:Int) (out__6:List (List Int)):Option ((Int×(List (List Int)))⊕((List (List Int)))):=
 (if (decide (k_1 < (w.Parents.length:Int))) then (zF w.Parents k_1).bind fun x_4=>(qF ([]:List Int) x_4).bind fun l_6=>(qF out__6 [l_6]).bind fun l_7=>some (.inl ((wk .i64 (k_1+1)),l_7))
 else some (.inr out__6))
noncomputable def zW2 (w:T_impl_Weave) (parents:List Int) (behind:List (List ByteArray)) (stays:List Bool):Option (T_impl_Weave×Int×Int):=
 (zB (fun (s':Int×(List (List Int)))=>yH w s'.1 s'.2) (0,[])).bind fun p_2=>zV9 w parents behind stays p_2
noncomputable def yJ (lines:List ByteArray) (x40:(List Int)) (x45:(List Int)) (at_:Int) (i_1:Int) (behind_1:List (List ByteArray)) (stays_1:List Bool):Option ((Int×Int×(List (List ByteArray))×(List Bool))⊕((List (List ByteArray))×(List Bool))):=
 (if (decide (i_1 < (lines.length:Int))) then (zF x45 i_1).bind fun x_5=>(if (decide (x_5≥0)) then (zF x40 x_5).bind fun x_6=>(zF stays_1 (wk .i64 ((wk .i64 (x_6+1)) - 1))).bind fun x_7=>some (.inl ((wk .i64 (x_6+1)),(wk .i64 (i_1+1)),behind_1,(stays_1.set ((wk .i64 ((wk .i64 (x_6+1)) - 1)).toNat) true)))
 else (zF behind_1 at_).bind fun x_8=>(zF lines i_1).bind fun x_9=>(qF x_8 [x_9]).bind fun l_8=>some (.inl (at_,(wk .i64 (i_1+1)),(behind_1.set at_.toNat l_8),stays_1)))
 else some (.inr (behind_1,stays_1)))
noncomputable def zS1 (w:T_impl_Weave) (parents:List Int) (lines:List ByteArray):Option (T_impl_Weave×Int×Int):=
 (zE0 (T_impl_Weave.mk w.Parents w.Bodies) parents).bind fun x25=>(if (!x25) then some ((T_impl_Weave.mk [] []),0,2)
 else (zO8 lines).bind fun x29=>(if (!x29) then some ((T_impl_Weave.mk [] []),0,3)
 else (if ((w.Parents.length:Int) == 40) then some ((T_impl_Weave.mk [] []),0,4)
 else (uU (T_impl_Weave.mk w.Parents w.Bodies) parents).bind fun x40=>(vR (T_impl_Weave.mk w.Parents w.Bodies) x40).bind fun x43=>(zQ1 x43 lines).bind fun x45=>((mkl (wk .i64 ((w.Bodies.length:Int)+1)) (wk .i64 ((w.Bodies.length:Int)+1)) []:Option (List (List ByteArray)))).bind fun x50=>((mkl (w.Bodies.length:Int) (w.Bodies.length:Int) false:Option (List Bool))).bind fun x54=>(zB (fun (s':Int×Int×(List (List ByteArray))×(List Bool))=>yJ lines x40 x45 s'.1 s'.2.1 s'.2.2.1 s'.2.2.2) (0,0,x50,x54)).bind fun p_3=>zW2 w parents p_3.1 p_3.2)))
noncomputable def zZ5 (c_1:List Int) (c_2:Int) (c_3:Int) (w:List (List Int)) (w_1:List T_impl_Body):Option (T_impl_Weave×T_spec_l01Cur):=
 some ((T_impl_Weave.mk w w_1),(T_spec_l01Cur.mk c_1 c_2 c_3))
noncomputable def zB9 (v:Int) (w_2:List (List Int)) (w_3:List T_impl_Body) (x20:(List Int)×T_spec_l01Cur) (c_7:List Int) (c_8:Int) (c_9:Int) (lines_1:List ByteArray):Option ((Int×(List Int)×Int×Int×(List (List Int))×(List T_impl_Body))⊕((List Int)×Int×Int×(List (List Int))×(List T_impl_Body))):=
 (zS1 (T_impl_Weave.mk w_2 w_3) x20.1 lines_1).bind fun x45=>(if (x45.2.2 == 0) then some (.inl ((wk .i64 (v+1)),c_7,c_8,c_9,x45.1.Parents,x45.1.Bodies))
 else some (.inl ((wk .i64 (v+1)),c_7,c_8,c_9,w_2,w_3)))
noncomputable def zB8 (v:Int) (w_2:List (List Int)) (w_3:List T_impl_Body) (x20:(List Int)×T_spec_l01Cur) (c_7:List Int) (c_8:Int) (c_9:Int) (lines:List ByteArray):Option ((Int×(List Int)×Int×Int×(List (List Int))×(List T_impl_Body))⊕((List Int)×Int×Int×(List (List Int))×(List T_impl_Body))):=
 (if (decide ((lines.length:Int) > 30)) then (cutH lines 30).bind fun x40=>zB9 v w_2 w_3 x20 c_7 c_8 c_9 x40
 else zB9 v w_2 w_3 x20 c_7 c_8 c_9 lines)
noncomputable def zH5 (n:Int) (v:Int) (c_4:List Int) (c_5:Int) (c_6:Int) (w_2:List (List Int)) (w_3:List T_impl_Body):Option ((Int×(List Int)×Int×Int×(List (List Int))×(List T_impl_Body))⊕((List Int)×Int×Int×(List (List Int))×(List T_impl_Body))):=
 (if (decide (v < n)) then (zK1 (T_spec_l01Cur.mk c_4 c_5 c_6) v).bind fun x20=>(uU (T_impl_Weave.mk w_2 w_3) x20.1).bind fun x25=>(vR (T_impl_Weave.mk w_2 w_3) x25).bind fun x26=>(zU3 (T_spec_l01Cur.mk x20.2.b x20.2.i x20.2.h) x26).bind fun x27=>(if (v == 0) then some (true,x27.2.b,x27.2.i,x27.2.h) else (wQ (T_spec_l01Cur.mk x27.2.b x27.2.i x27.2.h) 12).bind fun x32=>some (x32.1,x32.2.b,x32.2.i,x32.2.h)).bind fun b=>(if b.1 then (zR0 (T_spec_l01Cur.mk b.2.1 b.2.2.1 b.2.2.2) 9).bind fun x35=>zB8 v w_2 w_3 x20 x35.2.b x35.2.i x35.2.h x35.1
 else zB8 v w_2 w_3 x20 b.2.1 b.2.2.1 b.2.2.2 x27.1)
 else some (.inr (c_4,c_5,c_6,w_2,w_3)))
noncomputable def zR2 (c:T_spec_l01Cur) (n:Int):Option (T_impl_Weave×T_spec_l01Cur):=
 (zB (fun (s':Int×(List Int)×Int×Int×(List (List Int))×(List T_impl_Body))=>zH5 n s'.1 s'.2.1 s'.2.2.1 s'.2.2.2.1 s'.2.2.2.2.1 s'.2.2.2.2.2) (0,c.b,c.i,c.h,[],[])).bind fun p=>zZ5 p.1 p.2.1 p.2.2.1 p.2.2.2.1 p.2.2.2.2
noncomputable def zI8 (code:List Int):Option (T_impl_Weave×Int×Int):=
 (zR7 code).bind fun x9=>(zU9 code).bind fun x13=>(jL (T_spec_l01Cur.mk x9.b x9.i x9.h) x13).bind fun x14=>(zR2 (T_spec_l01Cur.mk x14.2.b x14.2.i x14.2.h) (wk .i64 (2+x14.1))).bind fun x16=>(jL (T_spec_l01Cur.mk x16.2.b x16.2.i x16.2.h) (x16.1.Parents.length:Int)).bind fun x21=>(jL (T_spec_l01Cur.mk x21.2.b x21.2.i x21.2.h) (x16.1.Parents.length:Int)).bind fun x28=>some ((T_impl_Weave.mk x16.1.Parents x16.1.Bodies),x21.1,x28.1)
noncomputable def wZ (n:Int) (least:Int) (most:Int):Option Bool:=
 (if (decide (n≥least)) then some (decide (n≤most)) else some false).bind fun b=>some b
noncomputable def qC2:Option (Bool):=
 some true
noncomputable def kH (list_:List Int) (below:Int) (x9:Int):Option ((Int)⊕((Bool)⊕(Unit))):=
 (if (decide (x9 < (list_.length:Int))) then (zF list_ x9).bind fun x=>(wZ x 0 (wk .i64 (below - 1))).bind fun x17=>(if (!x17) then some true else (if (decide (x9 > 0)) then (zF list_ (wk .i64 (x9 - 1))).bind fun x_1=>some (decide (x≤x_1)) else some false).bind fun b_1=>some b_1).bind fun b=>(if b then some (.inr (.inl false))
 else some (.inl (wk .i64 (x9+1))))
 else some (.inr (.inr ())))
noncomputable def zN7 (list_:List Int) (below:Int):Option Bool:=
 (zB (fun (s':Int)=>kH list_ below s') (0)).bind fun p=>(match p with | .inl c'=>some c' | .inr q=>qC2)
noncomputable def zS4 (parents:List (List Int)):Option (Bool):=
 some (decide ((parents.length:Int)≤40))
noncomputable def kF (parents:List (List Int)) (x7:Int):Option ((Int)⊕((Bool)⊕(Unit))):=
 (if (decide (x7 < (parents.length:Int))) then (zF parents x7).bind fun x=>(if (decide ((x.length:Int) > 4)) then some true else (zN7 x x7).bind fun x18=>some (!x18)).bind fun b=>(if b then some (.inr (.inl false))
 else some (.inl (wk .i64 (x7+1))))
 else some (.inr (.inr ())))
noncomputable def zO9 (parents:List (List Int)):Option Bool:=
 (zB (fun (s':Int)=>kF parents s') (0)).bind fun p=>(match p with | .inl c'=>some c' | .inr q=>zS4 parents)
noncomputable def qE0 (s:Int):Option (Int):=
 some s
noncomputable def yP (closed:List Int) (list_:List Int) (s_1:Int) (x10:Int):Option ((Int×Int)⊕(Int)):=
 (if (decide (x10 < (list_.length:Int))) then (zF list_ x10).bind fun x=>(zF closed x).bind fun x_1=>some (.inl ((bits .or .u64 s_1 x_1),(wk .i64 (x10+1))))
 else some (.inr s_1))
noncomputable def zO3 (closed:List Int) (list_:List Int):Option Int:=
 (zB (fun (s':Int×Int)=>yP closed list_ s'.1 s'.2) (0,0)).bind fun p=>qE0 p
noncomputable def zZ8 (out_:List Int):Option ((List Int)):=
 some out_
noncomputable def wV (parents:List (List Int)) (x11:Int) (out__1:List Int):Option ((Int×(List Int))⊕((List Int))):=
 (if (decide (x11 < (parents.length:Int))) then (zF parents x11).bind fun x=>(zO3 out__1 x).bind fun x20=>(chk (¬(wk .u64 x11) < 0)).bind fun u=>(zF out__1 x11).bind fun x_1=>some (.inl ((wk .i64 (x11+1)),(out__1.set x11.toNat (bits .or .u64 x20 (shlI .u64 1 (wk .u64 x11))))))
 else some (.inr out__1))
noncomputable def zJ2 (parents:List (List Int)):Option (List Int):=
 ((mkl (parents.length:Int) (parents.length:Int) 0:Option (List Int))).bind fun x8=>(zB (fun (s':Int×(List Int))=>wV parents s'.1 s'.2) (0,x8)).bind fun p=>zZ8 p
noncomputable def strings_Contains (s:ByteArray) (x:ByteArray):Option Bool:=
 if s.size < 4294967281 then some (Go.Lib.contains s.data.toList x.data.toList) else none
noncomputable def zY2 (line:ByteArray):Option Bool:=
 (if (decide ((line.size:Int)≤60)) then (strings_Contains line (ByteArray.mk #[10])).bind fun x8=>some (!x8) else some false).bind fun b=>some b
noncomputable def zH7 (n:Int) (size:Int):Option Bool:=
 (wZ n 0 (wk .i64 (size - 1))).bind fun x8=>some x8
noncomputable def zO2 (s:Int) (v:Int):Option Bool:=
 (wZ v 0 63).bind fun x6=>(if x6 then (chk (¬(wk .u64 v) < 0)).bind fun u=>some ((bits .and .u64 (vO .u64 s (wk .u64 v)) 1) == 1) else some false).bind fun b=>some b
noncomputable def qH4 (s:Int):Option (Int):=
 some s
noncomputable def zB0 (list_:List Int) (s_1:Int) (x8:Int):Option ((Int×Int)⊕(Int)):=
 (if (decide (x8 < (list_.length:Int))) then (zF list_ x8).bind fun x=>(wZ x 0 63).bind fun x13=>(if x13 then (chk (¬(wk .u64 x) < 0)).bind fun u=>some (.inl ((bits .or .u64 s_1 (shlI .u64 1 (wk .u64 x))),(wk .i64 (x8+1))))
 else some (.inl (s_1,(wk .i64 (x8+1)))))
 else some (.inr s_1))
noncomputable def qD6 (list_:List Int):Option Int:=
 (zB (fun (s':Int×Int)=>zB0 list_ s'.1 s'.2) (0,0)).bind fun p=>qH4 p
noncomputable def wS (b:T_impl_Body) (s:Int):Option Bool:=
 (zO2 s b.Ins).bind fun x8=>(if x8 then (qD6 b.Dels).bind fun x12=>some ((bits .and .u64 x12 s) == 0) else some false).bind fun b_1=>some b_1
noncomputable def zQ5 (out_:List Int):Option ((List Int)):=
 some out_
noncomputable def xQ (w:T_impl_Weave) (s:Int) (x13:Int) (out__1:List Int):Option ((Int×(List Int))⊕((List Int))):=
 (if (decide (x13 < (w.Bodies.length:Int))) then (zF w.Bodies x13).bind fun x=>(wS (T_impl_Body.mk x.Line x.Ins x.Ord x.Dels) s).bind fun x20=>(if x20 then (qF out__1 [x13]).bind fun l=>some (.inl ((wk .i64 (x13+1)),l))
 else some (.inl ((wk .i64 (x13+1)),out__1)))
 else some (.inr out__1))
noncomputable def wF (w:T_impl_Weave) (s:Int):Option (List Int):=
 (zB (fun (s':Int×(List Int))=>xQ w s s'.1 s'.2) (0,[])).bind fun p=>zQ5 p
noncomputable def qA3:Option (Bool):=
 some true
noncomputable def zC4 (w:T_impl_Weave) (closed:List Int) (born:List Int) (x80:Int):Option ((Int)⊕((Bool)⊕(Unit))):=
 (if (decide (x80 < (closed.length:Int))) then (zF closed x80).bind fun x=>(zF born x80).bind fun x_1=>(if (decide (x_1 > 80)) then some true else (wF (T_impl_Weave.mk w.Parents w.Bodies) x).bind fun x92=>some (decide ((x92.length:Int) > 80))).bind fun b=>(if b then some (.inr (.inl false))
 else some (.inl (wk .i64 (x80+1))))
 else some (.inr (.inr ())))
noncomputable def zI2 (w:T_impl_Weave) (closed:List Int) (born:List Int):Option (Bool):=
 (zB (fun (s':Int)=>zC4 w closed born s') (0)).bind fun p=>(match p with | .inl c'=>some c' | .inr q=>qA3)
noncomputable def zQ0 (x18:Int) (born_2:List Int):Option ((Int×(List Int))⊕((Bool)⊕((List Int)))):=
 some (.inl ((wk .i64 (x18+1)),born_2))
noncomputable def zB6 (w:T_impl_Weave) (closed:List Int) (x_2:T_impl_Body) (x62:Int):Option ((Int)⊕(((Int×(List Int))⊕((Bool)⊕((List Int))))⊕(Unit))):=
 (if (decide (x62 < (x_2.Dels.length:Int))) then (zF x_2.Dels x62).bind fun x_5=>(zF w.Parents x_5).bind fun x_6=>(zO3 closed x_6).bind fun x73=>(wS (T_impl_Body.mk x_2.Line x_2.Ins x_2.Ord x_2.Dels) x73).bind fun x74=>(if (!x74) then some (.inr (.inl (.inr (.inl false))))
 else some (.inl (wk .i64 (x62+1))))
 else some (.inr (.inr ())))
noncomputable def jX (w:T_impl_Weave) (closed:List Int) (x18:Int) (born_1:List Int):Option ((Int×(List Int))⊕((Bool)⊕((List Int)))):=
 (if (decide (x18 < (w.Bodies.length:Int))) then (zF w.Bodies x18).bind fun x_2=>(zY2 x_2.Line).bind fun x24=>(if (!x24) then some true else (zH7 x_2.Ins (closed.length:Int)).bind fun x31=>some (!x31)).bind fun b_1=>(if b_1 then some true else (zF born_1 x_2.Ins).bind fun x_3=>some (x_2.Ord != x_3)).bind fun b_2=>(if b_2 then some true else (zN7 x_2.Dels (closed.length:Int)).bind fun x49=>some (!x49)).bind fun b_3=>(if b_3 then some (.inr (.inl false))
 else (zF born_1 x_2.Ins).bind fun x_4=>(zB (fun (s':Int)=>zB6 w closed x_2 s') (0)).bind fun p_2=>(match p_2 with | .inl c'=>some c' | .inr q_1=>zQ0 x18 (born_1.set x_2.Ins.toNat (wk .i64 (x_4+1)))))
 else some (.inr (.inr born_1)))
noncomputable def zI7 (w:T_impl_Weave) (closed:List Int):Option Bool:=
 ((mkl (closed.length:Int) (closed.length:Int) 0:Option (List Int))).bind fun x14=>(zB (fun (s':Int×(List Int))=>jX w closed s'.1 s'.2) (0,x14)).bind fun p_1=>(match p_1 with | .inl c'=>some c' | .inr q_2=>zI2 w closed q_2)
noncomputable def zD4 (w:T_impl_Weave):Option Bool:=
 (if (decide ((w.Bodies.length:Int)≤300)) then (zO9 w.Parents).bind fun x10=>some x10 else some false).bind fun b=>(if b then (zJ2 w.Parents).bind fun x16=>(zI7 (T_impl_Weave.mk w.Parents w.Bodies) x16).bind fun x17=>some x17 else some false).bind fun b_1=>some b_1
noncomputable def zI5:Option (Int):=
 some (-1)
noncomputable def xE (s:List Int) (v:Int) (x8:Int):Option ((Int)⊕((Int)⊕(Unit))):=
 (if (decide (x8 < (s.length:Int))) then (zF s x8).bind fun x=>(if (v == x) then some (.inr (.inl x8))
 else some (.inl (wk .i64 (x8+1))))
 else some (.inr (.inr ())))
noncomputable def kW (s:List Int) (v:Int):Option Int:=
 (zB (fun (s':Int)=>xE s v s') (0)).bind fun p=>(match p with | .inl c'=>some c' | .inr q=>zI5)
noncomputable def kO (s:List Int) (v:Int):Option Bool:=
 (kW s v).bind fun x7=>some (decide (x7≥0))
noncomputable def qH8 (out__3:List T_impl_Rec):Option ((List T_impl_Rec)):=
 some out__3
noncomputable def zJ5 (dels:List Int) (nextDels:List Int) (x61:Int) (out__4:List T_impl_Rec):Option ((Int×(List T_impl_Rec))⊕((List T_impl_Rec))):=
 (if (decide (x61 < (nextDels.length:Int))) then (zF nextDels x61).bind fun x=>(kO dels x).bind fun x67=>(if (!x67) then (qF out__4 [(T_impl_Rec.mk 4 x (ByteArray.mk #[]))]).bind fun l=>some (.inl ((wk .i64 (x61+1)),l))
 else some (.inl ((wk .i64 (x61+1)),out__4)))
 else some (.inr out__4))
noncomputable def zJ1 (dels:List Int) (nextDels:List Int) (out__2:List T_impl_Rec):Option ((List T_impl_Rec)):=
 (zB (fun (s':Int×(List T_impl_Rec))=>zJ5 dels nextDels s'.1 s'.2) (0,out__2)).bind fun p=>qH8 p
noncomputable def zJ0 (ins:Int) (dels:List Int) (nextIns:Int) (nextDels:List Int) (out__1:List T_impl_Rec):Option ((List T_impl_Rec)):=
 (if (ins != nextIns) then some (decide (nextIns≥0)) else some false).bind fun b=>(if b then (qF out__1 [(T_impl_Rec.mk 2 nextIns (ByteArray.mk #[]))]).bind fun l_1=>zJ1 dels nextDels l_1
 else zJ1 dels nextDels out__1)
noncomputable def zR5 (ins:Int) (dels:List Int) (nextIns:Int) (nextDels:List Int) (out_:List T_impl_Rec):Option ((List T_impl_Rec)):=
 (if (ins != nextIns) then some (decide (ins≥0)) else some false).bind fun b_1=>(if b_1 then (qF out_ [(T_impl_Rec.mk 3 ins (ByteArray.mk #[]))]).bind fun l_2=>zJ0 ins dels nextIns nextDels l_2
 else zJ0 ins dels nextIns nextDels out_)
noncomputable def zJ4 (dels:List Int) (nextDels:List Int) (i:Int) (out__5:List T_impl_Rec):Option ((Int×(List T_impl_Rec))⊕((List T_impl_Rec))):=
 (if (decide (i≥0)) then (zF dels i).bind fun x_1=>(kO nextDels x_1).bind fun x25=>(if (!x25) then (qF out__5 [(T_impl_Rec.mk 5 x_1 (ByteArray.mk #[]))]).bind fun l_3=>some (.inl ((wk .i64 (i - 1)),l_3))
 else some (.inl ((wk .i64 (i - 1)),out__5)))
 else some (.inr out__5))
noncomputable def zW1 (ins:Int) (dels:List Int) (nextIns:Int) (nextDels:List Int):Option (List T_impl_Rec):=
 (zB (fun (s':Int×(List T_impl_Rec))=>zJ4 dels nextDels s'.1 s'.2) ((wk .i64 ((dels.length:Int) - 1)),[])).bind fun p_1=>zR5 ins dels nextIns nextDels p_1
noncomputable def zT2 (ins:Int) (dels:List Int) (out_:List T_impl_Rec):Option ((List T_impl_Rec)):=
 (zW1 ins dels (-1) ([]:List Int)).bind fun x38=>(qF out_ x38).bind fun l=>some l
noncomputable def wK (w:T_impl_Weave) (ins_1:Int) (dels_1:List Int) (x11:Int) (out__1:List T_impl_Rec):Option ((Int×(List Int)×Int×(List T_impl_Rec))⊕(Int×(List Int)×(List T_impl_Rec))):=
 (if (decide (x11 < (w.Bodies.length:Int))) then (zF w.Bodies x11).bind fun x=>(zW1 ins_1 dels_1 x.Ins x.Dels).bind fun x22=>(qF out__1 x22).bind fun l_1=>(qF l_1 [(T_impl_Rec.mk 1 0 x.Line)]).bind fun l_2=>some (.inl (x.Ins,x.Dels,(wk .i64 (x11+1)),l_2))
 else some (.inr (ins_1,dels_1,out__1)))
noncomputable def zP1 (w:T_impl_Weave):Option (List T_impl_Rec):=
 (zB (fun (s':Int×(List Int)×Int×(List T_impl_Rec))=>wK w s'.1 s'.2.1 s'.2.2.1 s'.2.2.2) ((-1),[],0,[])).bind fun p=>zT2 p.1 p.2.1 p.2.2
noncomputable def zO5 (w:T_impl_Weave):Option ((List T_impl_Rec)×Bool):=
 (zD4 (T_impl_Weave.mk w.Parents w.Bodies)).bind fun x6=>(if (!x6) then some ([],false)
 else (zP1 (T_impl_Weave.mk w.Parents w.Bodies)).bind fun x9=>(if (decide ((x9.length:Int) > 4000)) then some ([],false)
 else some (x9,true)))
noncomputable def zS7 (n_1:Int) (out_:List Int):Option (ByteArray):=
 (qF out_ [(wk .u8 n_1)]).bind fun l=>some (mkS l)
noncomputable def zL3 (n_2:Int) (out__1:List Int):Option ((Int×(List Int))⊕(Int×(List Int))):=
 (if (decide (n_2 > 127)) then (qF out__1 [(wk .u8 (wk .i64 (128+(n_2.tmod 128))))]).bind fun l_1=>some (.inl ((wk .i64 (n_2.tdiv 128)),l_1))
 else some (.inr (n_2,out__1)))
noncomputable def yY (n:Int):Option ByteArray:=
 (zB (fun (s':Int×(List Int))=>zL3 s'.1 s'.2) (n,[])).bind fun p=>zS7 p.1 p.2
noncomputable def zP (b:ByteArray) (x:ByteArray):Option (ByteArray):=
 if b.size+x.size≤549755813888 then some (b++x) else none
noncomputable def wA (b:ByteArray):Option (ByteArray):=
 some b
noncomputable def zZ9 (b:ByteArray):Option (ByteArray):=
 (wA b).bind fun x20=>some x20
noncomputable def yD (list_:List Int) (x12:Int) (b_1:ByteArray):Option ((Int×ByteArray)⊕(ByteArray)):=
 (if (decide (x12 < (list_.length:Int))) then (zF list_ x12).bind fun x=>(yY x).bind fun x17=>(zP b_1 x17).bind fun x18=>some (.inl ((wk .i64 (x12+1)),x18))
 else some (.inr b_1))
noncomputable def zR6 (list_:List Int):Option ByteArray:=
 (yY (list_.length:Int)).bind fun x8=>(zP (ByteArray.mk #[]) x8).bind fun x9=>(zB (fun (s':Int×ByteArray)=>yD list_ s'.1 s'.2) (0,x9)).bind fun p=>zZ9 p
noncomputable def zO1 (out_:List ByteArray):Option ((List ByteArray)):=
 some out_
noncomputable def jZ (w:T_impl_Weave) (places:List Int) (x10:Int) (out__1:List ByteArray):Option ((Int×(List ByteArray))⊕((List ByteArray))):=
 (if (decide (x10 < (places.length:Int))) then (zF places x10).bind fun x=>(zF w.Bodies x).bind fun x_1=>(qF out__1 [x_1.Line]).bind fun l=>some (.inl ((wk .i64 (x10+1)),l))
 else some (.inr out__1))
noncomputable def uN (w:T_impl_Weave) (places:List Int):Option (List ByteArray):=
 (zB (fun (s':Int×(List ByteArray))=>jZ w places s'.1 s'.2) (0,[])).bind fun p=>zO1 p
noncomputable def kM (w:T_impl_Weave) (v:Int):Option (List ByteArray):=
 (zJ2 w.Parents).bind fun x11=>(zF x11 v).bind fun x=>(wF (T_impl_Weave.mk w.Parents w.Bodies) x).bind fun x15=>(uN (T_impl_Weave.mk w.Parents w.Bodies) x15).bind fun x16=>some x16
noncomputable def zX6 (b:ByteArray):Option (ByteArray):=
 (wA b).bind fun x16=>some x16
noncomputable def wH (list_:List ByteArray) (x8:Int) (b_1:ByteArray):Option ((Int×ByteArray)⊕(ByteArray)):=
 (if (decide (x8 < (list_.length:Int))) then (zF list_ x8).bind fun x=>(sapp x (ByteArray.mk #[10])).bind fun t=>(zP b_1 t).bind fun x14=>some (.inl ((wk .i64 (x8+1)),x14))
 else some (.inr b_1))
noncomputable def zH0 (list_:List ByteArray):Option ByteArray:=
 (zB (fun (s':Int×ByteArray)=>wH list_ s'.1 s'.2) (0,(ByteArray.mk #[]))).bind fun p=>zX6 p
noncomputable def qE2 (sum_1:Int):Option (Int):=
 some sum_1
noncomputable def zT6 (i:Int) (sum_3:Int):Option ((Int×Int)⊕(Int)):=
 some (.inl (sum_3,(wk .i64 (i+1))))
noncomputable def yQ (sum_4:Int) (x19:Int):Option ((Int×Int)⊕(Int)):=
 (if (decide (x19 < 8)) then (if ((bits .and .u32 sum_4 1) == 1) then some (.inl ((bits .xor .u32 (vO .u32 sum_4 1) 3558460437),(wk .i64 (x19+1))))
 else some (.inl ((vO .u32 sum_4 1),(wk .i64 (x19+1)))))
 else some (.inr sum_4))
noncomputable def zL2 (text:ByteArray) (sum_2:Int) (i:Int):Option ((Int×Int)⊕(Int)):=
 (if (decide (i < (text.size:Int))) then (sidx text i).bind fun x16=>(zB (fun (s':Int×Int)=>yQ s'.1 s'.2) ((bits .xor .u32 sum_2 (wk .u32 x16)),0)).bind fun p_1=>zT6 i p_1
 else some (.inr sum_2))
noncomputable def zV0 (sum:Int) (text:ByteArray):Option Int:=
 (zB (fun (s':Int×Int)=>zL2 text s'.1 s'.2) (sum,0)).bind fun p=>qE2 p
noncomputable def zP5 (text:ByteArray):Option Int:=
 (zV0 4294967295 text).bind fun x4=>some x4
noncomputable def uX (text:ByteArray):Option ByteArray:=
 (zP5 text).bind fun x5=>some (mkS [(wk .u8 (vO .u32 x5 24)),(wk .u8 (vO .u32 x5 16)),(wk .u8 (vO .u32 x5 8)),(wk .u8 x5)])
noncomputable def zN8 (s:ByteArray):Option ByteArray:=
 (yY (s.size:Int)).bind fun x5=>(sapp x5 s).bind fun t=>some t
noncomputable def zU8 (r:T_impl_Rec):Option ByteArray:=
 (if (r.Kind == 1) then (zN8 r.Line).bind fun x15=>(sapp (mkS [(wk .u8 r.Kind)]) x15).bind fun t=>some t
 else (yY r.Version).bind fun x20=>(sapp (mkS [(wk .u8 r.Kind)]) x20).bind fun t_1=>some t_1)
noncomputable def zX8 (text:ByteArray):Option (ByteArray×Bool):=
 (if (decide ((text.size:Int) > 60000)) then some ((ByteArray.mk #[]),false)
 else (uX text).bind fun x9=>(sapp text x9).bind fun t=>some (t,true))
noncomputable def zF5 (b_1:ByteArray):Option (ByteArray×Bool):=
 (wA b_1).bind fun x55=>(zX8 x55).bind fun x56=>some (x56.1,x56.2)
noncomputable def wE (x13:(List T_impl_Rec)×Bool) (x47:Int) (b_2:ByteArray):Option ((Int×ByteArray)⊕(ByteArray)):=
 (if (decide (x47 < (x13.1.length:Int))) then (zF x13.1 x47).bind fun x=>(zU8 (T_impl_Rec.mk x.Kind x.Version x.Line)).bind fun x52=>(zP b_2 x52).bind fun x53=>some (.inl ((wk .i64 (x47+1)),x53))
 else some (.inr b_2))
noncomputable def zL9 (x13:(List T_impl_Rec)×Bool) (b:ByteArray):Option (ByteArray×Bool):=
 (yY (x13.1.length:Int)).bind fun x43=>(zP b x43).bind fun x44=>(zB (fun (s':Int×ByteArray)=>wE x13 s'.1 s'.2) (0,x44)).bind fun p=>zF5 p
noncomputable def xY (w:T_impl_Weave) (x27:Int) (b_3:ByteArray):Option ((Int×ByteArray)⊕(ByteArray)):=
 (if (decide (x27 < (w.Parents.length:Int))) then (zF w.Parents x27).bind fun x_1=>(zR6 x_1).bind fun x33=>(kM (T_impl_Weave.mk w.Parents w.Bodies) x27).bind fun x35=>(zH0 x35).bind fun x36=>(uX x36).bind fun x37=>(sapp x33 x37).bind fun t_1=>(zP b_3 t_1).bind fun x39=>some (.inl ((wk .i64 (x27+1)),x39))
 else some (.inr b_3))
noncomputable def uL (w:T_impl_Weave):Option (ByteArray×Bool):=
 (zO5 (T_impl_Weave.mk w.Parents w.Bodies)).bind fun x13=>(if (!x13.2) then some ((ByteArray.mk #[]),false)
 else (yY (w.Parents.length:Int)).bind fun x21=>(sapp (ByteArray.mk #[84,87,49]) x21).bind fun t=>(zP (ByteArray.mk #[]) t).bind fun x23=>(zB (fun (s':Int×ByteArray)=>xY w s'.1 s'.2) (0,x23)).bind fun p_1=>zL9 x13 p_1)
noncomputable def zI6 (text:ByteArray):Option (ByteArray×Bool):=
 (if (decide ((wk .i64 ((text.size:Int) - 4)) < 0)) then some true else some (decide ((wk .i64 ((text.size:Int) - 4)) > 60000))).bind fun b=>(if b then some true else (subH text (wk .i64 ((text.size:Int) - 4))).bind fun x17=>(uX x17).bind fun x18=>(subL text (wk .i64 ((text.size:Int) - 4))).bind fun x21=>some (!(x18.toList == x21.toList))).bind fun b_1=>(if b_1 then some ((ByteArray.mk #[]),false)
 else (subH text (wk .i64 ((text.size:Int) - 4))).bind fun x26=>some (x26,true))
noncomputable def xA (s:T_impl_scanner) (n:Int):Option (ByteArray×T_impl_scanner):=
 (if s.bad then some true else some (decide (n > (wk .i64 ((s.text.size:Int) - s.at_))))).bind fun b=>(if b then some ((ByteArray.mk #[]),(T_impl_scanner.mk s.text s.at_ true))
 else (sub2 s.text (wk .i64 ((wk .i64 (s.at_+n)) - n)) (wk .i64 (s.at_+n))).bind fun x48=>some (x48,(T_impl_scanner.mk s.text (wk .i64 (s.at_+n)) s.bad)))
noncomputable def zF3 (s:T_impl_scanner) (mark:ByteArray):Option T_impl_scanner:=
 (xA (T_impl_scanner.mk s.text s.at_ s.bad) (mark.size:Int)).bind fun x7=>(if (!(x7.1.toList == mark.toList)) then some (T_impl_scanner.mk x7.2.text x7.2.at_ true)
 else some (T_impl_scanner.mk x7.2.text x7.2.at_ x7.2.bad))
noncomputable def qC8:Option (Int×Int×Bool):=
 some (0,0,false)
noncomputable def yN (text:ByteArray) (at_:Int) (n:Int) (unit:Int) (i:Int):Option ((Int×Int×Int)⊕((Int×Int×Bool)⊕(Unit))):=
 (if (decide (i < 5)) then some (decide ((wk .i64 (at_+i)) < (text.size:Int))) else some false).bind fun b_1=>(if b_1 then (sidx text (wk .i64 (at_+i))).bind fun x35=>(if (decide ((wk .i64 x35)≥128)) then some (.inl ((wk .i64 (n+(wk .i64 (((wk .i64 x35).tmod 128) * unit)))),(wk .i64 (unit * 128)),(wk .i64 (i+1))))
 else (if ((wk .i64 x35) == 0) then some (decide (i > 0)) else some false).bind fun b_2=>(if b_2 then some true else some (decide ((wk .i64 (n+(wk .i64 (((wk .i64 x35).tmod 128) * unit)))) > 1000000000))).bind fun b_3=>(if b_3 then some (.inr (.inl (0,0,false)))
 else some (.inr (.inl ((wk .i64 (n+(wk .i64 (((wk .i64 x35).tmod 128) * unit)))),(wk .i64 ((wk .i64 (at_+i))+1)),true)))))
 else some (.inr (.inr ())))
noncomputable def zV1 (text:ByteArray) (at_:Int):Option (Int×Int×Bool):=
 (if (decide (at_ < 0)) then some true else some (decide (at_ > (text.size:Int)))).bind fun b=>(if b then some (0,0,false)
 else (zB (fun (s':Int×Int×Int)=>yN text at_ s'.1 s'.2.1 s'.2.2) (0,1,0)).bind fun p=>(match p with | .inl c'=>some c' | .inr q=>qC8))
noncomputable def jY (s:T_impl_scanner):Option (Int×T_impl_scanner):=
 (zV1 s.text s.at_).bind fun x15=>(if s.bad then some true else some (!x15.2.2)).bind fun b=>(if b then some (0,(T_impl_scanner.mk s.text s.at_ true))
 else some (x15.1,(T_impl_scanner.mk s.text x15.2.1 s.bad)))
noncomputable def wU (s:T_impl_scanner) (most:Int):Option (Int×T_impl_scanner):=
 (jY (T_impl_scanner.mk s.text s.at_ s.bad)).bind fun x7=>(if (decide (x7.1 > most)) then some (0,(T_impl_scanner.mk x7.2.text x7.2.at_ true))
 else some (x7.1,(T_impl_scanner.mk x7.2.text x7.2.at_ x7.2.bad)))
noncomputable def zB1 (s_1:ByteArray) (s_2:Int) (s_3:Bool) (out_:List Int):Option ((List Int)×T_impl_scanner):=
 some (out_,(T_impl_scanner.mk s_1 s_2 s_3))
noncomputable def kN (x9:Int×T_impl_scanner) (x10:Int) (s_4:ByteArray) (s_5:Int) (s_6:Bool) (out__1:List Int):Option ((Int×ByteArray×Int×Bool×(List Int))⊕(ByteArray×Int×Bool×(List Int))):=
 (if (decide (x10 < x9.1)) then (jY (T_impl_scanner.mk s_4 s_5 s_6)).bind fun x13=>(qF out__1 [x13.1]).bind fun l=>some (.inl ((wk .i64 (x10+1)),x13.2.text,x13.2.at_,x13.2.bad,l))
 else some (.inr (s_4,s_5,s_6,out__1)))
noncomputable def kZ (s:T_impl_scanner) (most:Int):Option ((List Int)×T_impl_scanner):=
 (wU (T_impl_scanner.mk s.text s.at_ s.bad) most).bind fun x9=>(zB (fun (s':Int×ByteArray×Int×Bool×(List Int))=>kN x9 s'.1 s'.2.1 s'.2.2.1 s'.2.2.2.1 s'.2.2.2.2) (0,x9.2.text,x9.2.at_,x9.2.bad,[])).bind fun p=>zB1 p.1 p.2.1 p.2.2.1 p.2.2.2
noncomputable def zD6 (s:T_impl_scanner):Option (Int×T_impl_scanner):=
 (xA (T_impl_scanner.mk s.text s.at_ s.bad) 1).bind fun x5=>(if (x5.1.toList == (ByteArray.mk #[]).toList) then some (0,(T_impl_scanner.mk x5.2.text x5.2.at_ x5.2.bad))
 else (sidx x5.1 0).bind fun x9=>some ((wk .i64 x9),(T_impl_scanner.mk x5.2.text x5.2.at_ x5.2.bad)))
noncomputable def uM (x5:Int×T_impl_scanner) (s_1:Bool):Option (ByteArray×T_impl_scanner):=
 (xA (T_impl_scanner.mk x5.2.text x5.2.at_ s_1) x5.1).bind fun x13=>some (x13.1,(T_impl_scanner.mk x13.2.text x13.2.at_ x13.2.bad))
noncomputable def zD8 (s:T_impl_scanner):Option (ByteArray×T_impl_scanner):=
 (jY (T_impl_scanner.mk s.text s.at_ s.bad)).bind fun x5=>(if (decide (x5.1 > 60000)) then uM x5 true
 else uM x5 x5.2.bad)
noncomputable def zC7 (s:T_impl_scanner):Option (T_impl_Rec×T_impl_scanner):=
 (zD6 (T_impl_scanner.mk s.text s.at_ s.bad)).bind fun x5=>(wZ x5.1 1 5).bind fun x13=>(if (!x13) then some ((T_impl_Rec.mk x5.1 0 (ByteArray.mk #[])),(T_impl_scanner.mk x5.2.text x5.2.at_ true))
 else (if (x5.1 == 1) then (zD8 (T_impl_scanner.mk x5.2.text x5.2.at_ x5.2.bad)).bind fun x23=>some ((T_impl_Rec.mk x5.1 0 x23.1),(T_impl_scanner.mk x23.2.text x23.2.at_ x23.2.bad))
 else (jY (T_impl_scanner.mk x5.2.text x5.2.at_ x5.2.bad)).bind fun x8=>some ((T_impl_Rec.mk x5.1 x8.1 (ByteArray.mk #[])),(T_impl_scanner.mk x8.2.text x8.2.at_ x8.2.bad))))
noncomputable def zM2 (s:T_impl_scanner):Option Bool:=
 (if (!s.bad) then some (s.at_ == (s.text.size:Int)) else some false).bind fun b=>some b
noncomputable def zA2 (s:List Int):Option (List Int):=
 qF ([]:List Int) s
noncomputable def zM4 (out_:List (List Int)):Option ((List (List Int))):=
 some out_
noncomputable def zA4 (parents:List (List Int)) (x8:Int) (out__1:List (List Int)):Option ((Int×(List (List Int)))⊕((List (List Int)))):=
 (if (decide (x8 < (parents.length:Int))) then (zF parents x8).bind fun x=>(zA2 x).bind fun x14=>(qF out__1 [x14]).bind fun l=>some (.inl ((wk .i64 (x8+1)),l))
 else some (.inr out__1))
noncomputable def zM7 (parents:List (List Int)):Option (List (List Int)):=
 (zB (fun (s':Int×(List (List Int)))=>zA4 parents s'.1 s'.2) (0,[])).bind fun p=>zM4 p
noncomputable def wP (s:List Int) (i:Int) (j:Int):Option (List Int):=
 if s.length≤549755813888 then del1 s i j else none
noncomputable def wW (o:T_impl_walker) (r:T_impl_Rec):Option (Bool×T_impl_walker):=
 (kW o.dels r.Version).bind fun x12=>(if (r.Kind == 2) then (if o.open_ then some (false,(T_impl_walker.mk o.open_ o.ins o.dels))
 else some (true,(T_impl_walker.mk true r.Version o.dels)))
 else (if (r.Kind == 3) then (if (!o.open_) then some true else some (o.ins != r.Version)).bind fun b=>(if b then some (false,(T_impl_walker.mk o.open_ o.ins o.dels))
 else some (true,(T_impl_walker.mk false o.ins o.dels)))
 else (if (r.Kind == 4) then (if (decide (x12≥0)) then some (false,(T_impl_walker.mk o.open_ o.ins o.dels))
 else (qF o.dels [r.Version]).bind fun l=>some (true,(T_impl_walker.mk o.open_ o.ins l)))
 else (if (r.Kind == 5) then (if (decide (x12 < 0)) then some (false,(T_impl_walker.mk o.open_ o.ins o.dels))
 else (wP o.dels x12 (wk .i64 (x12+1))).bind fun x75=>some (true,(T_impl_walker.mk o.open_ o.ins x75)))
 else (if (r.Kind == 1) then some (o.open_,(T_impl_walker.mk o.open_ o.ins o.dels))
 else some (false,(T_impl_walker.mk o.open_ o.ins o.dels)))))))
noncomputable def zN9 (s:List Int):Option (List Int):=
 some s
noncomputable def zF4 (s:List Int):Option (List Int):=
 if s.length≤549755813888 then some (s.mergeSort fun x y=>decide (x≤y)) else none
noncomputable def yX:Option (Bool):=
 some true
noncomputable def qV (s1:List T_impl_Rec) (s2:List T_impl_Rec) (x13:Int):Option ((Int)⊕((Bool)⊕(Unit))):=
 (if (decide (x13 < (s1.length:Int))) then (zF s1 x13).bind fun x=>(zF s2 x13).bind fun x_1=>(if (!((x.Kind == x_1.Kind) && ((x.Version == x_1.Version) && (x.Line.toList == x_1.Line.toList)))) then some (.inr (.inl false))
 else some (.inl (wk .i64 (x13+1))))
 else some (.inr (.inr ())))
noncomputable def xM (s1:List T_impl_Rec) (s2:List T_impl_Rec):Option Bool:=
 (if ((s1.length:Int) != (s2.length:Int)) then some false
 else (zB (fun (s':Int)=>qV s1 s2 s') (0)).bind fun p=>(match p with | .inl c'=>some c' | .inr q=>yX))
noncomputable def zB4 (list_:List T_impl_Rec) (x21:(List (List Int))) (w:List T_impl_Body):Option (T_impl_Weave×Bool):=
 (zD4 (T_impl_Weave.mk x21 w)).bind fun x75=>(if (!x75) then some true else (zP1 (T_impl_Weave.mk x21 w)).bind fun x79=>(xM x79 list_).bind fun x81=>some (!x81)).bind fun b_1=>(if b_1 then some ((T_impl_Weave.mk [] []),false)
 else some ((T_impl_Weave.mk x21 w),true))
noncomputable def wJ (parents:List (List Int)) (list_:List T_impl_Rec) (x29:Int) (w_1:List T_impl_Body) (o:Bool) (o_1:Int) (o_2:List Int) (born:List Int):Option ((Int×(List T_impl_Body)×Bool×Int×(List Int)×(List Int))⊕((T_impl_Weave×Bool)⊕((List T_impl_Body)))):=
 (if (decide (x29 < (list_.length:Int))) then (zF list_ x29).bind fun x=>(wW (T_impl_walker.mk o o_1 o_2) (T_impl_Rec.mk x.Kind x.Version x.Line)).bind fun x34=>(if (!x34.1) then some (.inr (.inl ((T_impl_Weave.mk [] []),false)))
 else (if (x.Kind != 1) then some (.inl ((wk .i64 (x29+1)),w_1,x34.2.open_,x34.2.ins,x34.2.dels,born))
 else (zH7 x34.2.ins (parents.length:Int)).bind fun x44=>(if (!x44) then some (.inr (.inl ((T_impl_Weave.mk [] []),false)))
 else (zF born x34.2.ins).bind fun x_1=>(zN9 x34.2.dels).bind fun x60=>(zF4 x60).bind fun x61=>(qF w_1 [(T_impl_Body.mk x.Line x34.2.ins x_1 x61)]).bind fun l=>(zF born x34.2.ins).bind fun x_2=>some (.inl ((wk .i64 (x29+1)),l,x34.2.open_,x34.2.ins,x34.2.dels,(born.set x34.2.ins.toNat (wk .i64 (x_2+1))))))))
 else some (.inr (.inr w_1)))
noncomputable def zB5 (parents:List (List Int)) (list_:List T_impl_Rec):Option (T_impl_Weave×Bool):=
 (if (decide ((list_.length:Int) > 4000)) then some true else (zO9 parents).bind fun x16=>some (!x16)).bind fun b=>(if b then some ((T_impl_Weave.mk [] []),false)
 else (zM7 parents).bind fun x21=>((mkl (parents.length:Int) (parents.length:Int) 0:Option (List Int))).bind fun x26=>(zB (fun (s':Int×(List T_impl_Body)×Bool×Int×(List Int)×(List Int))=>wJ parents list_ s'.1 s'.2.1 s'.2.2.1 s'.2.2.2.1 s'.2.2.2.2.1 s'.2.2.2.2.2) (0,[],false,0,[],x26)).bind fun p=>(match p with | .inl c'=>some c' | .inr q=>zB4 list_ x21 q))
noncomputable def zM0 (text:ByteArray) (parents:List (List Int)) (s_3:ByteArray) (s_4:Int) (s_5:Bool) (list_:List T_impl_Rec):Option (T_impl_Weave×Int):=
 (zM2 (T_impl_scanner.mk s_3 s_4 s_5)).bind fun x55=>(if (!x55) then some ((T_impl_Weave.mk [] []),3)
 else (zB5 parents list_).bind fun x61=>(uL (T_impl_Weave.mk x61.1.Parents x61.1.Bodies)).bind fun x66=>(if (!x61.2) then some true else some (!x66.2)).bind fun b_1=>(if b_1 then some true else some (!(x66.1.toList == text.toList))).bind fun b_2=>(if b_2 then some ((T_impl_Weave.mk [] []),4)
 else some ((T_impl_Weave.mk x61.1.Parents x61.1.Bodies),0)))
noncomputable def zA3 (x44:Int×T_impl_scanner) (x45:Int) (s_6:ByteArray) (s_7:Int) (s_8:Bool) (list__1:List T_impl_Rec):Option ((Int×ByteArray×Int×Bool×(List T_impl_Rec))⊕(ByteArray×Int×Bool×(List T_impl_Rec))):=
 (if (decide (x45 < x44.1)) then (if s_8 then some (.inr (s_6,s_7,s_8,list__1))
 else (zC7 (T_impl_scanner.mk s_6 s_7 s_8)).bind fun x49=>(qF list__1 [(T_impl_Rec.mk x49.1.Kind x49.1.Version x49.1.Line)]).bind fun l=>some (.inl ((wk .i64 (x45+1)),x49.2.text,x49.2.at_,x49.2.bad,l)))
 else some (.inr (s_6,s_7,s_8,list__1)))
noncomputable def zM1 (text:ByteArray) (s:ByteArray) (s_1:Int) (s_2:Bool) (parents:List (List Int)):Option (T_impl_Weave×Int):=
 (wU (T_impl_scanner.mk s s_1 s_2) 4000).bind fun x44=>(zB (fun (s':Int×ByteArray×Int×Bool×(List T_impl_Rec))=>zA3 x44 s'.1 s'.2.1 s'.2.2.1 s'.2.2.2.1 s'.2.2.2.2) (0,x44.2.text,x44.2.at_,x44.2.bad,[])).bind fun p=>zM0 text parents p.1 p.2.1 p.2.2.1 p.2.2.2
noncomputable def zA6 (x34:Int×T_impl_scanner) (x35:Int) (s_9:ByteArray) (s_10:Int) (s_11:Bool) (parents_1:List (List Int)):Option ((Int×ByteArray×Int×Bool×(List (List Int)))⊕(ByteArray×Int×Bool×(List (List Int)))):=
 (if (decide (x35 < x34.1)) then (kZ (T_impl_scanner.mk s_9 s_10 s_11) 4).bind fun x37=>(qF parents_1 [x37.1]).bind fun l_1=>(xA (T_impl_scanner.mk x37.2.text x37.2.at_ x37.2.bad) 4).bind fun x42=>some (.inl ((wk .i64 (x35+1)),x42.2.text,x42.2.at_,x42.2.bad,l_1))
 else some (.inr (s_9,s_10,s_11,parents_1)))
noncomputable def uQ (text:ByteArray):Option (T_impl_Weave×Int):=
 (if (decide ((text.size:Int) < 7)) then some true else some (decide ((text.size:Int) > 60004))).bind fun b=>(if b then some ((T_impl_Weave.mk [] []),1)
 else (zI6 text).bind fun x25=>(if (!x25.2) then some ((T_impl_Weave.mk [] []),2)
 else (zF3 (T_impl_scanner.mk x25.1 0 false) (ByteArray.mk #[84,87,49])).bind fun x33=>(wU (T_impl_scanner.mk x33.text x33.at_ x33.bad) 40).bind fun x34=>(zB (fun (s':Int×ByteArray×Int×Bool×(List (List Int)))=>zA6 x34 s'.1 s'.2.1 s'.2.2.1 s'.2.2.2.1 s'.2.2.2.2) (0,x34.2.text,x34.2.at_,x34.2.bad,[])).bind fun p_1=>zM1 text p_1.1 p_1.2.1 p_1.2.2.1 p_1.2.2.2))
noncomputable def qA6:Option (Bool):=
 some true
noncomputable def zC2 (a:List Int) (b:List Int) (i:Int):Option ((Int)⊕((Bool)⊕(Unit))):=
 (if (decide (i < (a.length:Int))) then (zF a i).bind fun x=>(zF b i).bind fun x_1=>(if (x != x_1) then some (.inr (.inl false))
 else some (.inl (wk .i64 (i+1))))
 else some (.inr (.inr ())))
noncomputable def zJ3 (a:List Int) (b:List Int):Option Bool:=
 (if ((a.length:Int) != (b.length:Int)) then some false
 else (zB (fun (s':Int)=>zC2 a b s') (0)).bind fun p=>(match p with | .inl c'=>some c' | .inr q=>qA6))
noncomputable def zX4:Option (Bool):=
 some true
noncomputable def zA7 (a:T_impl_Weave) (b:T_impl_Weave) (i:Int):Option ((Int)⊕((Bool)⊕(Unit))):=
 (if (decide (i < (a.Bodies.length:Int))) then (zF a.Bodies i).bind fun x=>(zF b.Bodies i).bind fun x_1=>(if (!(x.Line.toList == x_1.Line.toList)) then some true else some (x.Ins != x_1.Ins)).bind fun b_2=>(if b_2 then some true else (zF a.Bodies i).bind fun x_2=>(zF b.Bodies i).bind fun x_3=>some (x_2.Ord != x_3.Ord)).bind fun b_3=>(if b_3 then some true else (zF a.Bodies i).bind fun x_4=>(zF b.Bodies i).bind fun x_5=>(zJ3 x_4.Dels x_5.Dels).bind fun x105=>some (!x105)).bind fun b_4=>(if b_4 then some (.inr (.inl false))
 else some (.inl (wk .i64 (i+1))))
 else some (.inr (.inr ())))
noncomputable def zF2 (a:T_impl_Weave) (b:T_impl_Weave):Option (Bool):=
 (zB (fun (s':Int)=>zA7 a b s') (0)).bind fun p=>(match p with | .inl c'=>some c' | .inr q=>zX4)
noncomputable def zA8 (a:T_impl_Weave) (b:T_impl_Weave) (v:Int):Option ((Int)⊕((Bool)⊕(Unit))):=
 (if (decide (v < (a.Parents.length:Int))) then (zF a.Parents v).bind fun x_6=>(zF b.Parents v).bind fun x_7=>(zJ3 x_6 x_7).bind fun x40=>(if (!x40) then some (.inr (.inl false))
 else some (.inl (wk .i64 (v+1))))
 else some (.inr (.inr ())))
noncomputable def zG8 (a:T_impl_Weave) (b:T_impl_Weave):Option Bool:=
 (if ((a.Parents.length:Int) != (b.Parents.length:Int)) then some true else some ((a.Bodies.length:Int) != (b.Bodies.length:Int))).bind fun b_1=>(if b_1 then some false
 else (zB (fun (s':Int)=>zA8 a b s') (0)).bind fun p_1=>(match p_1 with | .inl c'=>some c' | .inr q_1=>zF2 a b))
noncomputable def zV6 (out_:List Int):Option ((List Int)):=
 some out_
noncomputable def yE (i:Int) (c:List Int) (c_1:Int) (c_2:Int) (out__1:List Int):Option ((Int×(List Int)×Int×Int×(List Int))⊕((List Int))):=
 (if (decide (i < 12)) then (jL (T_spec_l01Cur.mk c c_1 c_2) 10000).bind fun x17=>(qF out__1 [x17.1]).bind fun l=>some (.inl ((wk .i64 (i+1)),x17.2.b,x17.2.i,x17.2.h,l))
 else some (.inr out__1))
noncomputable def zK2 (code:List Int):Option (List Int):=
 (zR7 code).bind fun x7=>(yW (T_spec_l01Cur.mk x7.b x7.i x7.h)).bind fun x9=>(zB (fun (s':Int×(List Int)×Int×Int×(List Int))=>yE s'.1 s'.2.1 s'.2.2.1 s'.2.2.2.1 s'.2.2.2.2) (0,x9.2.b,x9.2.i,x9.2.h,[])).bind fun p=>zV6 p
noncomputable def zT7:Option (Bool):=
 some true
noncomputable def kJ (parents:List (List Int)) (v:Int):Option ((Int)⊕((Bool)⊕(Unit))):=
 (if (decide (v < (parents.length:Int))) then (zF parents v).bind fun x=>(if (decide ((x.length:Int) > 4)) then some true else (zH6 x v).bind fun x25=>some (!x25)).bind fun b=>(if b then some (.inr (.inl false))
 else some (.inl (wk .i64 (v+1))))
 else some (.inr (.inr ())))
noncomputable def zT9 (parents:List (List Int)):Option Bool:=
 (if (decide ((parents.length:Int) > 40)) then some false
 else (zB (fun (s':Int)=>kJ parents s') (0)).bind fun p=>(match p with | .inl c'=>some c' | .inr q=>zT7))
noncomputable def yR (w:T_impl_Weave) (v:Int):Option (List Bool):=
 (zD1 w.Parents [v]).bind fun x9=>some x9
noncomputable def qC4:Option (Bool):=
 some true
noncomputable def zE2 (w:T_impl_Weave) (born:List Int) (v:Int):Option ((Int)⊕((Bool)⊕(Unit))):=
 (if (decide (v < (w.Parents.length:Int))) then (zF born v).bind fun x=>(if (decide (x > 80)) then some true else (yR (T_impl_Weave.mk w.Parents w.Bodies) v).bind fun x126=>(xZ (T_impl_Weave.mk w.Parents w.Bodies) x126).bind fun x127=>some (decide ((x127.length:Int) > 80))).bind fun b_1=>(if b_1 then some (.inr (.inl false))
 else some (.inl (wk .i64 (v+1))))
 else some (.inr (.inr ())))
noncomputable def zK0 (w:T_impl_Weave) (born:List Int):Option (Bool):=
 (zB (fun (s':Int)=>zE2 w born s') (0)).bind fun p=>(match p with | .inl c'=>some c' | .inr q=>qC4)
noncomputable def zT4 (i:Int) (born_2:List Int):Option ((Int×(List Int))⊕((Bool)⊕((List Int)))):=
 some (.inl ((wk .i64 (i+1)),born_2))
noncomputable def zE4 (proper:List (List Bool)) (x_1:T_impl_Body) (k:Int):Option ((Int)⊕(((Int×(List Int))⊕((Bool)⊕((List Int))))⊕(Unit))):=
 (if (decide (k < (x_1.Dels.length:Int))) then (zF x_1.Dels k).bind fun x_4=>(zF proper x_4).bind fun x_5=>(yT (T_impl_Body.mk x_1.Line x_1.Ins x_1.Ord x_1.Dels) x_5).bind fun x110=>(if (!x110) then some (.inr (.inl (.inr (.inl false))))
 else some (.inl (wk .i64 (k+1))))
 else some (.inr (.inr ())))
noncomputable def xO (w:T_impl_Weave) (proper:List (List Bool)) (i:Int) (born_1:List Int):Option ((Int×(List Int))⊕((Bool)⊕((List Int)))):=
 (if (decide (i < (w.Bodies.length:Int))) then (zF w.Bodies i).bind fun x_1=>(zR9 x_1.Line).bind fun x57=>(if (!x57) then some true else (zD2 x_1.Ins 0 (wk .i64 ((w.Parents.length:Int) - 1))).bind fun x64=>some (!x64)).bind fun b_2=>(if b_2 then some true else (zF born_1 x_1.Ins).bind fun x_2=>some (x_1.Ord != x_2)).bind fun b_3=>(if b_3 then some true else (zH6 x_1.Dels (w.Parents.length:Int)).bind fun x81=>some (!x81)).bind fun b_4=>(if b_4 then some (.inr (.inl false))
 else (zF born_1 x_1.Ins).bind fun x_3=>(zB (fun (s':Int)=>zE4 proper x_1 s') (0)).bind fun p_2=>(match p_2 with | .inl c'=>some c' | .inr q_1=>zT4 i (born_1.set x_1.Ins.toNat (wk .i64 (x_3+1)))))
 else some (.inr (.inr born_1)))
noncomputable def zT5 (w:T_impl_Weave) (x25:List Int) (proper:List (List Bool)):Option (Bool):=
 (zB (fun (s':Int×(List Int))=>xO w proper s'.1 s'.2) (0,x25)).bind fun p_1=>(match p_1 with | .inl c'=>some c' | .inr q_2=>zK0 w q_2)
noncomputable def wL (w:T_impl_Weave) (v_1:Int) (proper_1:List (List Bool)):Option ((Int×(List (List Bool)))⊕((List (List Bool)))):=
 (if (decide (v_1 < (w.Parents.length:Int))) then (zF w.Parents v_1).bind fun x_6=>(zD1 w.Parents x_6).bind fun x40=>(qF proper_1 [x40]).bind fun l=>some (.inl ((wk .i64 (v_1+1)),l))
 else some (.inr proper_1))
noncomputable def zO0 (w:T_impl_Weave):Option Bool:=
 (zT9 w.Parents).bind fun x13=>(if (!x13) then some true else some (decide ((w.Bodies.length:Int) > 300))).bind fun b=>(if b then some false
 else ((mkl (w.Parents.length:Int) (w.Parents.length:Int) 0:Option (List Int))).bind fun x25=>(zB (fun (s':Int×(List (List Bool)))=>wL w s'.1 s'.2) (0,[])).bind fun p_3=>zT5 w x25 p_3)
noncomputable def zR8 (w:T_impl_Weave) (v:Int):Option Bool:=
 (zD2 v 0 (wk .i64 ((w.Parents.length:Int) - 1))).bind fun x10=>some x10
noncomputable def zN2 (w:T_impl_Weave) (v:Int):Option (List ByteArray):=
 (yR (T_impl_Weave.mk w.Parents w.Bodies) v).bind fun x9=>(xZ (T_impl_Weave.mk w.Parents w.Bodies) x9).bind fun x10=>(vR (T_impl_Weave.mk w.Parents w.Bodies) x10).bind fun x11=>some x11
noncomputable def zO4 (w:T_impl_Weave) (v:Int):Option ((List ByteArray)×Int):=
 (zO0 (T_impl_Weave.mk w.Parents w.Bodies)).bind fun x7=>(if (!x7) then some ([],1)
 else (zR8 (T_impl_Weave.mk w.Parents w.Bodies) v).bind fun x12=>(if (!x12) then some ([],2)
 else (zN2 (T_impl_Weave.mk w.Parents w.Bodies) v).bind fun x17=>some (x17,0)))
noncomputable def zM5 (out_:List Int):Option (ByteArray×Bool):=
 some ((mkS out_),true)
noncomputable def wG (list_:List ByteArray) (i:Int) (out__1:List Int):Option ((Int×(List Int))⊕((List Int))):=
 (if (decide (i < (list_.length:Int))) then (zF list_ i).bind fun x=>(qF out__1 (qX x)).bind fun l=>(qF l [10]).bind fun l_1=>some (.inl ((wk .i64 (i+1)),l_1))
 else some (.inr out__1))
noncomputable def zO7 (list_:List ByteArray):Option (ByteArray×Bool):=
 (zO8 list_).bind fun x7=>(if (!x7) then some ((ByteArray.mk #[]),false)
 else (zB (fun (s':Int×(List Int))=>wG list_ s'.1 s'.2) (0,[])).bind fun p=>zM5 p)
noncomputable def zF7:Option (Bool):=
 some true
noncomputable def xV (w:T_impl_Weave) (list_:List Int) (x9:Int):Option ((Int)⊕((Bool)⊕(Unit))):=
 (if (decide (x9 < (list_.length:Int))) then (zF list_ x9).bind fun x=>(zH7 x (w.Parents.length:Int)).bind fun x19=>(if (!x19) then some (.inr (.inl false))
 else some (.inl (wk .i64 (x9+1))))
 else some (.inr (.inr ())))
noncomputable def vY (w:T_impl_Weave) (list_:List Int):Option Bool:=
 (zB (fun (s':Int)=>xV w list_ s') (0)).bind fun p=>(match p with | .inl c'=>some c' | .inr q=>zF7)
noncomputable def zM6 (w:T_impl_Weave) (list_:List Int):Option Int:=
 (zD4 (T_impl_Weave.mk w.Parents w.Bodies)).bind fun x7=>(if (!x7) then some 1
 else (vY (T_impl_Weave.mk w.Parents w.Bodies) list_).bind fun x11=>(if (!x11) then some 2
 else some 0))
noncomputable def zN4 (w:T_impl_Weave) (v:Int):Option ((List ByteArray)×Int):=
 (zM6 (T_impl_Weave.mk w.Parents w.Bodies) [v]).bind fun x10=>(if (x10 != 0) then some ([],x10)
 else (kM (T_impl_Weave.mk w.Parents w.Bodies) v).bind fun x15=>some (x15,0))
noncomputable def zE3 (w:T_impl_Weave) (v:Int):Option (Int×Int):=
 (zN4 (T_impl_Weave.mk w.Parents w.Bodies) v).bind fun x11=>(if (x11.2 != 0) then some (0,x11.2)
 else (zH0 x11.1).bind fun x18=>(zP5 x18).bind fun x19=>some (x19,0))
noncomputable def qB9 (sum_1:Int):Option (Int):=
 some sum_1
noncomputable def zK3 (i:Int) (sum_3:Int):Option ((Int×Int)⊕(Int)):=
 some (.inl (sum_3,(wk .i64 (i+1))))
noncomputable def xN (sum_4:Int) (k:Int):Option ((Int×Int)⊕(Int)):=
 (if (decide (k < 8)) then (if ((sum_4.tmod 2) == 1) then some (.inl ((bits .xor .u32 (wk .u32 (sum_4.tdiv 2)) 3558460437),(wk .i64 (k+1))))
 else some (.inl ((wk .u32 (sum_4.tdiv 2)),(wk .i64 (k+1)))))
 else some (.inr sum_4))
noncomputable def kG (text:ByteArray) (sum_2:Int) (i:Int):Option ((Int×Int)⊕(Int)):=
 (if (decide (i < (text.size:Int))) then (sidx text i).bind fun x17=>(zB (fun (s':Int×Int)=>xN s'.1 s'.2) ((bits .xor .u32 sum_2 (wk .u32 x17)),0)).bind fun p_1=>zK3 i p_1
 else some (.inr sum_2))
noncomputable def zP0 (sum:Int) (text:ByteArray):Option Int:=
 (zB (fun (s':Int×Int)=>kG text s'.1 s'.2) (sum,0)).bind fun p=>qB9 p
noncomputable def wN (text:ByteArray):Option Int:=
 (zP0 4294967295 text).bind fun x4=>some x4
noncomputable def qE3 (x84:T_impl_Weave×Int):Option (Bool):=
 some (x84.2 == 2)
noncomputable def zE1 (x26:T_impl_Weave×Int×Int) (v:Int):Option ((Int)⊕((Bool)⊕(Unit))):=
 (if (decide (v < (x26.1.Parents.length:Int))) then (zO4 (T_impl_Weave.mk x26.1.Parents x26.1.Bodies) v).bind fun x97=>(zO7 x97.1).bind fun x102=>(zE3 (T_impl_Weave.mk x26.1.Parents x26.1.Bodies) v).bind fun x108=>(if (x108.2 != 0) then some true else (wN x102.1).bind fun x116=>some (x108.1 != x116)).bind fun b_3=>(if b_3 then some (.inr (.inl false))
 else some (.inl (wk .i64 (v+1))))
 else some (.inr (.inr ())))
noncomputable def laws_FnWoven (code:List Int):Option Bool:=
 (zZ6 code).bind fun x23=>(if x23 then some true
 else (zI8 code).bind fun x26=>(uL (T_impl_Weave.mk x26.1.Parents x26.1.Bodies)).bind fun x32=>(uQ x32.1).bind fun x37=>(if (!x32.2) then some true else some (x37.2 != 0)).bind fun b=>(if b then some true else (zG8 (T_impl_Weave.mk x37.1.Parents x37.1.Bodies) (T_impl_Weave.mk x26.1.Parents x26.1.Bodies)).bind fun x49=>some (!x49)).bind fun b_1=>(if b_1 then some true else some (decide ((x32.1.size:Int) < 7))).bind fun b_2=>(if b_2 then some false
 else (zK2 code).bind fun x58=>(zF x58 0).bind fun x=>(chk (¬((qX x32.1).length:Int)=0)).bind fun u=>(zF (qX x32.1) (x.tmod ((qX x32.1).length:Int))).bind fun x_1=>(zF x58 1).bind fun x_2=>(uQ (mkS ((qX x32.1).set ((x.tmod ((qX x32.1).length:Int)).toNat) (bits .xor .u8 x_1 (wk .u8 (wk .i64 (1+(x_2.tmod 255)))))))).bind fun x84=>(zB (fun (s':Int)=>zE1 x26 s') (0)).bind fun p=>(match p with | .inl c'=>some c' | .inr q=>qE3 x84)))
noncomputable def uW (x:Int):Option ByteArray:=
 some (mkS [(wk .u8 (vO .u32 x 24)),(wk .u8 (vO .u32 x 16)),(wk .u8 (vO .u32 x 8)),(wk .u8 x)])
noncomputable def zG4 (text:ByteArray):Option (ByteArray×Bool):=
 (if (decide ((text.size:Int) > 60000)) then some ((ByteArray.mk #[]),false)
 else (wN text).bind fun x9=>(uW x9).bind fun x10=>(sapp text x10).bind fun t=>some (t,true))
noncomputable def zY6 (text:ByteArray):Option (ByteArray×Bool):=
 (if (decide ((wk .i64 ((text.size:Int) - 4)) < 0)) then some true else some (decide ((wk .i64 ((text.size:Int) - 4)) > 60000))).bind fun b=>(if b then some true else (subL text (wk .i64 ((text.size:Int) - 4))).bind fun x17=>(subH text (wk .i64 ((text.size:Int) - 4))).bind fun x20=>(wN x20).bind fun x21=>(uW x21).bind fun x22=>some (!(x17.toList == x22.toList))).bind fun b_1=>(if b_1 then some ((ByteArray.mk #[]),false)
 else (subH text (wk .i64 ((text.size:Int) - 4))).bind fun x27=>some (x27,true))
noncomputable def spec_l13Id_j1:Option (Int):=
 some (-1)
noncomputable def qH3 (list_:List T_impl_Name) (id:Int) (i:Int):Option ((Int)⊕((Int)⊕(Unit))):=
 (if (decide (i < (list_.length:Int))) then (zF list_ i).bind fun x=>(if (x.Id == id) then some (.inr (.inl i))
 else some (.inl (wk .i64 (i+1))))
 else some (.inr (.inr ())))
noncomputable def qI7 (list_:List T_impl_Name) (id:Int):Option Int:=
 (zB (fun (s':Int)=>qH3 list_ id s') (0)).bind fun p=>(match p with | .inl c'=>some c' | .inr q=>spec_l13Id_j1)
noncomputable def qR5 (out_:List Int):Option ((List Int)):=
 some out_
noncomputable def uO (list_:List Int) (x:Int) (i:Int) (out__1:List Int):Option ((Int×(List Int))⊕((List Int))):=
 (if (decide (i < (list_.length:Int))) then (zF list_ i).bind fun x_1=>(if (x_1 != x) then (qF out__1 [x_1]).bind fun l=>some (.inl ((wk .i64 (i+1)),l))
 else some (.inl ((wk .i64 (i+1)),out__1)))
 else some (.inr out__1))
noncomputable def zS8 (list_:List Int) (x:Int):Option (List Int):=
 (zB (fun (s':Int×(List Int))=>uO list_ x s'.1 s'.2) (0,[])).bind fun p=>qR5 p
noncomputable def spec_l07With_j2 (out__1:List Int):Option ((List Int)):=
 some out__1
noncomputable def zT0 (list_:List Int) (x:Int) (i:Int) (out__2:List Int):Option ((Int×(List Int))⊕((List Int))):=
 (if (decide (i < (list_.length:Int))) then (zF list_ i).bind fun x_1=>(if (decide (x_1 > x)) then (qF out__2 [x_1]).bind fun l_1=>some (.inl ((wk .i64 (i+1)),l_1))
 else some (.inl ((wk .i64 (i+1)),out__2)))
 else some (.inr out__2))
noncomputable def qK9 (list_:List Int) (x:Int) (out_:List Int):Option ((List Int)):=
 (qF out_ [x]).bind fun l=>(zB (fun (s':Int×(List Int))=>zT0 list_ x s'.1 s'.2) (0,l)).bind fun p=>spec_l07With_j2 p
noncomputable def zS2 (list_:List Int) (x:Int) (i_1:Int) (out__3:List Int):Option ((Int×(List Int))⊕((List Int))):=
 (if (decide (i_1 < (list_.length:Int))) then (zF list_ i_1).bind fun x_2=>(if (decide (x_2 < x)) then (qF out__3 [x_2]).bind fun l_2=>some (.inl ((wk .i64 (i_1+1)),l_2))
 else some (.inl ((wk .i64 (i_1+1)),out__3)))
 else some (.inr out__3))
noncomputable def qE6 (list_:List Int) (x:Int):Option (List Int):=
 (zB (fun (s':Int×(List Int))=>zS2 list_ x s'.1 s'.2) (0,[])).bind fun p_1=>qK9 list_ x p_1
noncomputable def spec_l14Of_j1 (out_:List Int):Option ((List Int)):=
 some out_
noncomputable def zY7 (list_:List T_impl_Commit) (parents:List Int) (id:Int) (i:Int) (out__1:List Int):Option ((Int×(List Int))⊕((List Int))):=
 (if (decide (i < (parents.length:Int))) then (zF parents i).bind fun x=>(zF list_ x).bind fun x_1=>(qI7 x_1.Names id).bind fun x26=>(if (decide (x26≥0)) then (zF x_1.Names x26).bind fun x_2=>(zS8 out__1 x_2.Version).bind fun x42=>(qE6 x42 x_2.Version).bind fun x55=>some (.inl ((wk .i64 (i+1)),x55))
 else some (.inl ((wk .i64 (i+1)),out__1)))
 else some (.inr out__1))
noncomputable def qP6 (list_:List T_impl_Commit) (parents:List Int) (id:Int):Option (List Int):=
 (zB (fun (s':Int×(List Int))=>zY7 list_ parents id s'.1 s'.2) (0,[])).bind fun p=>spec_l14Of_j1 p
noncomputable def spec_l13Path_j1:Option (Int):=
 some (-1)
noncomputable def qC6 (list_:List T_impl_Name) (path:ByteArray) (i:Int):Option ((Int)⊕((Int)⊕(Unit))):=
 (if (decide (i < (list_.length:Int))) then (zF list_ i).bind fun x=>(if (x.Path.toList == path.toList) then some (.inr (.inl i))
 else some (.inl (wk .i64 (i+1))))
 else some (.inr (.inr ())))
noncomputable def qJ5 (list_:List T_impl_Name) (path:ByteArray):Option Int:=
 (zB (fun (s':Int)=>qC6 list_ path s') (0)).bind fun p=>(match p with | .inl c'=>some c' | .inr q=>spec_l13Path_j1)
noncomputable def qN3 (n:T_impl_Name) (done:Bool) (out_:List T_impl_Name):Option ((List T_impl_Name)):=
 (if (!done) then (qF out_ [(T_impl_Name.mk n.Path n.Id n.Version)]).bind fun l=>some l
 else some out_)
noncomputable def zW0 (list_:List T_impl_Name) (i:Int) (done_2:Bool) (out__2:List T_impl_Name):Option ((Bool×Int×(List T_impl_Name))⊕(Bool×(List T_impl_Name))):=
 (zF list_ i).bind fun x_1=>(qF out__2 [(T_impl_Name.mk x_1.Path x_1.Id x_1.Version)]).bind fun l_1=>some (.inl (done_2,(wk .i64 (i+1)),l_1))
noncomputable def zM9 (list_:List T_impl_Name) (n:T_impl_Name) (done_1:Bool) (i:Int) (out__1:List T_impl_Name):Option ((Bool×Int×(List T_impl_Name))⊕(Bool×(List T_impl_Name))):=
 (if (decide (i < (list_.length:Int))) then (zF list_ i).bind fun x=>(if (x.Id == n.Id) then some (.inl (done_1,(wk .i64 (i+1)),out__1))
 else (if (!done_1) then some (!(Op.bytesLess x.Path.toList n.Path.toList || x.Path.toList == n.Path.toList)) else some false).bind fun b=>(if b then (qF out__1 [(T_impl_Name.mk n.Path n.Id n.Version)]).bind fun l_2=>zW0 list_ i true l_2
 else zW0 list_ i done_1 out__1))
 else some (.inr (done_1,out__1)))
noncomputable def qM6 (list_:List T_impl_Name) (n:T_impl_Name):Option (List T_impl_Name):=
 (zB (fun (s':Bool×Int×(List T_impl_Name))=>zM9 list_ n s'.1 s'.2.1 s'.2.2) (false,0,[])).bind fun p=>qN3 n p.1 p.2
noncomputable def spec_l14Base_j1 (names:List T_impl_Name) (open_:List Int):Option ((List T_impl_Name)×(List Int)×Int):=
 some (names,open_,0)
noncomputable def zT1 (id:Int) (names_2:List T_impl_Name) (open__2:List Int):Option ((Int×(List T_impl_Name)×(List Int))⊕(((List T_impl_Name)×(List Int)×Int)⊕((List T_impl_Name)×(List Int)))):=
 some (.inl ((wk .i64 (id+1)),names_2,open__2))
noncomputable def qM3 (id:Int) (names_1:List T_impl_Name) (path:ByteArray) (x:Int) (open__3:List Int):Option ((Int×(List T_impl_Name)×(List Int))⊕(((List T_impl_Name)×(List Int)×Int)⊕((List T_impl_Name)×(List Int)))):=
 (qJ5 names_1 path).bind fun x99=>(if (decide (x99≥0)) then some (.inr (.inl ([],[],3)))
 else (qM6 names_1 (T_impl_Name.mk path id x)).bind fun x108=>zT1 id x108 open__3)
noncomputable def zT3 (id:Int) (x30:(List Int)) (x77:(List Bool)) (k:Int) (open__4:List Int):Option ((Int×(List Int))⊕((List Int))):=
 (if (decide (k < (x30.length:Int))) then (zF x30 k).bind fun x_2=>(zF x77 x_2).bind fun x_3=>(if (!x_3) then (zS8 open__4 id).bind fun x94=>(qE6 x94 id).bind fun x96=>some (.inl ((wk .i64 (k+1)),x96))
 else some (.inl ((wk .i64 (k+1)),open__4)))
 else some (.inr open__4))
noncomputable def qL4 (files:List (List (List Int))) (id:Int) (names_1:List T_impl_Name) (open__1:List Int) (x30:(List Int)) (path:ByteArray):Option ((Int×(List T_impl_Name)×(List Int))⊕(((List T_impl_Name)×(List Int)×Int)⊕((List T_impl_Name)×(List Int)))):=
 (zF x30 (wk .i64 ((x30.length:Int) - 1))).bind fun x=>(zF files id).bind fun x_1=>(zD1 x_1 [x]).bind fun x77=>(zB (fun (s':Int×(List Int))=>zT3 id x30 x77 s'.1 s'.2) (0,open__1)).bind fun p_1=>qM3 id names_1 path x p_1
noncomputable def zJ8 (list_:List T_impl_Commit) (parents:List Int) (id:Int) (path_1:ByteArray) (i:Int):Option ((ByteArray×Int)⊕(ByteArray)):=
 (if (decide (i≥0)) then (zF parents i).bind fun x_4=>(zF list_ x_4).bind fun x_5=>(qI7 x_5.Names id).bind fun x50=>(if (decide (x50≥0)) then (zF x_5.Names x50).bind fun x_6=>some (.inl (x_6.Path,(wk .i64 (i - 1))))
 else some (.inl (path_1,(wk .i64 (i - 1)))))
 else some (.inr path_1))
noncomputable def zS5 (list_:List T_impl_Commit) (files:List (List (List Int))) (parents:List Int) (id:Int) (names_1:List T_impl_Name) (open__1:List Int):Option ((Int×(List T_impl_Name)×(List Int))⊕(((List T_impl_Name)×(List Int)×Int)⊕((List T_impl_Name)×(List Int)))):=
 (if (decide (id < (files.length:Int))) then (qP6 list_ parents id).bind fun x30=>(if ((x30.length:Int) == 0) then zT1 id names_1 open__1
 else (zB (fun (s':ByteArray×Int)=>zJ8 list_ parents id s'.1 s'.2) ((ByteArray.mk #[]),(wk .i64 ((parents.length:Int) - 1)))).bind fun p_2=>qL4 files id names_1 open__1 x30 p_2)
 else some (.inr (.inr (names_1,open__1))))
noncomputable def qC1 (list_:List T_impl_Commit) (files:List (List (List Int))) (parents:List Int):Option ((List T_impl_Name)×(List Int)×Int):=
 (zB (fun (s':Int×(List T_impl_Name)×(List Int))=>zS5 list_ files parents s'.1 s'.2.1 s'.2.2) (0,[],[])).bind fun p=>(match p with | .inl c'=>some c' | .inr q=>spec_l14Base_j1 q.1 q.2)
noncomputable def qD8 (out_:List (List Int)) (out__1:List T_impl_Body):Option (T_impl_Weave):=
 some (T_impl_Weave.mk out_ out__1)
noncomputable def zF9 (w:T_impl_Weave) (i:Int) (out__2:List T_impl_Body):Option ((Int×(List T_impl_Body))⊕((List T_impl_Body))):=
 (if (decide (i < (w.Bodies.length:Int))) then (zF w.Bodies i).bind fun x=>(qF ([]:List Int) x.Dels).bind fun l=>(qF out__2 [(T_impl_Body.mk x.Line x.Ins x.Ord l)]).bind fun l_1=>some (.inl ((wk .i64 (i+1)),l_1))
 else some (.inr out__2))
noncomputable def qD5 (w:T_impl_Weave) (out_:List (List Int)):Option (T_impl_Weave):=
 (zB (fun (s':Int×(List T_impl_Body))=>zF9 w s'.1 s'.2) (0,[])).bind fun p=>qD8 out_ p
noncomputable def zF8 (w:T_impl_Weave) (v:Int) (out__3:List (List Int)):Option ((Int×(List (List Int)))⊕((List (List Int)))):=
 (if (decide (v < (w.Parents.length:Int))) then (zF w.Parents v).bind fun x_1=>(qF ([]:List Int) x_1).bind fun l_2=>(qF out__3 [l_2]).bind fun l_3=>some (.inl ((wk .i64 (v+1)),l_3))
 else some (.inr out__3))
noncomputable def zX3 (w:T_impl_Weave):Option T_impl_Weave:=
 (zB (fun (s':Int×(List (List Int)))=>zF8 w s'.1 s'.2) (0,[])).bind fun p_1=>qD5 w p_1
end Go.TV.F
