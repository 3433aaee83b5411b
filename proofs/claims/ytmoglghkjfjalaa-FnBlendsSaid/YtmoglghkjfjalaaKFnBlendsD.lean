/- Structures and their rows. -/
import Derived.Test.YtmoglghkjfjalaaKFnBlendsT4
set_option linter.unusedVariables false
set_option linter.unusedSimpArgs false
set_option maxHeartbeats 8000000
set_option maxRecDepth 100000
namespace Go.TV
structure T_spec_l01Cur where
 b:List Int
 i:Int
 h:Int
 deriving Inhabited
structure T_impl_Body where
 Line:ByteArray
 Ins:Int
 Ord:Int
 Dels:List Int
 deriving Inhabited
structure T_impl_Weave where
 Parents:List (List Int)
 Bodies:List T_impl_Body
 deriving Inhabited
theorem R_u8:(∀ (l:List Int) (i:Nat) (a0:Int),(List.map (rK .u8) l).set i [.sc (.int .u8 a0)]=List.map (rK .u8) (l.set i a0)) ∧
 (∀ (l:List Int) (a0:Int),List.map (rK .u8) l++[[.sc (.int .u8 a0)]]=List.map (rK .u8) (l++[a0])) ∧
 (∀ (l:List Int) (b0 b1:Int),List.map (rK .u8) l++[[.sc (.int .u8 b0)],[.sc (.int .u8 b1)]]=List.map (rK .u8) (l++[b0,b1])) ∧
 (∀ (l:List Int) (b0 b1 b2:Int),List.map (rK .u8) l++[[.sc (.int .u8 b0)],[.sc (.int .u8 b1)],[.sc (.int .u8 b2)]]=List.map (rK .u8) (l++[b0,b1,b2])) ∧
 (∀ (l:List Int) (b0 b1 b2 b3:Int),List.map (rK .u8) l++[[.sc (.int .u8 b0)],[.sc (.int .u8 b1)],[.sc (.int .u8 b2)],[.sc (.int .u8 b3)]]=List.map (rK .u8) (l++[b0,b1,b2,b3])) ∧
 (∀ n:Nat,List.replicate n [.sc (.int .u8 0)]=List.map (rK .u8) (List.replicate n 0)) ∧
 (∀ l:List Int,borRows (List.map (rK .u8) l)=List.map (rK .u8) l) ∧
 (∀ l:List Int,qC (List.map (rK .u8) l)=true) ∧
 (∀ l:List Int,zS (List.map (rK .u8) l)=true) ∧
 (∀ l:List Int,scRows (List.map (rK .u8) l)=true):=
 ⟨fun l i a0=>set_rows (rK .u8) l i a0,
 fun l a0=>qB (rK .u8) l [a0],
 fun l b0 b1=>qB (rK .u8) l [b0,b1],
 fun l b0 b1 b2=>qB (rK .u8) l [b0,b1,b2],
 fun l b0 b1 b2 b3=>qB (rK .u8) l [b0,b1,b2,b3],
 fun n=>rep_rows (rK .u8) 0 n,
 bor_rows (fun _=>rfl),
 alRows (fun _=>rfl),
 nb_rows (fun _=>rfl),
 scRw (fun _=>rfl)⟩
theorem R_i64:(∀ (l:List Int) (i:Nat) (a0:Int),(List.map (rK .i64) l).set i [.sc (.int .i64 a0)]=List.map (rK .i64) (l.set i a0)) ∧
 (∀ (l:List Int) (a0:Int),List.map (rK .i64) l++[[.sc (.int .i64 a0)]]=List.map (rK .i64) (l++[a0])) ∧
 (∀ (l:List Int) (b0 b1:Int),List.map (rK .i64) l++[[.sc (.int .i64 b0)],[.sc (.int .i64 b1)]]=List.map (rK .i64) (l++[b0,b1])) ∧
 (∀ (l:List Int) (b0 b1 b2:Int),List.map (rK .i64) l++[[.sc (.int .i64 b0)],[.sc (.int .i64 b1)],[.sc (.int .i64 b2)]]=List.map (rK .i64) (l++[b0,b1,b2])) ∧
 (∀ (l:List Int) (b0 b1 b2 b3:Int),List.map (rK .i64) l++[[.sc (.int .i64 b0)],[.sc (.int .i64 b1)],[.sc (.int .i64 b2)],[.sc (.int .i64 b3)]]=List.map (rK .i64) (l++[b0,b1,b2,b3])) ∧
 (∀ n:Nat,List.replicate n [.sc (.int .i64 0)]=List.map (rK .i64) (List.replicate n 0)) ∧
 (∀ l:List Int,borRows (List.map (rK .i64) l)=List.map (rK .i64) l) ∧
 (∀ l:List Int,qC (List.map (rK .i64) l)=true) ∧
 (∀ l:List Int,zS (List.map (rK .i64) l)=true) ∧
 (∀ l:List Int,scRows (List.map (rK .i64) l)=true):=
 ⟨fun l i a0=>set_rows (rK .i64) l i a0,
 fun l a0=>qB (rK .i64) l [a0],
 fun l b0 b1=>qB (rK .i64) l [b0,b1],
 fun l b0 b1 b2=>qB (rK .i64) l [b0,b1,b2],
 fun l b0 b1 b2 b3=>qB (rK .i64) l [b0,b1,b2,b3],
 fun n=>rep_rows (rK .i64) 0 n,
 bor_rows (fun _=>rfl),
 alRows (fun _=>rfl),
 nb_rows (fun _=>rfl),
 scRw (fun _=>rfl)⟩
theorem R_b:(∀ (l:List Bool) (i:Nat) (a0:Bool),(List.map rB l).set i [.sc (.bool a0)]=List.map rB (l.set i a0)) ∧
 (∀ (l:List Bool) (a0:Bool),List.map rB l++[[.sc (.bool a0)]]=List.map rB (l++[a0])) ∧
 (∀ (l:List Bool) (b0 b1:Bool),List.map rB l++[[.sc (.bool b0)],[.sc (.bool b1)]]=List.map rB (l++[b0,b1])) ∧
 (∀ (l:List Bool) (b0 b1 b2:Bool),List.map rB l++[[.sc (.bool b0)],[.sc (.bool b1)],[.sc (.bool b2)]]=List.map rB (l++[b0,b1,b2])) ∧
 (∀ (l:List Bool) (b0 b1 b2 b3:Bool),List.map rB l++[[.sc (.bool b0)],[.sc (.bool b1)],[.sc (.bool b2)],[.sc (.bool b3)]]=List.map rB (l++[b0,b1,b2,b3])) ∧
 (∀ n:Nat,List.replicate n [.sc (.bool false)]=List.map rB (List.replicate n false)) ∧
 (∀ l:List Bool,borRows (List.map rB l)=List.map rB l) ∧
 (∀ l:List Bool,qC (List.map rB l)=true) ∧
 (∀ l:List Bool,zS (List.map rB l)=true) ∧
 (∀ l:List Bool,scRows (List.map rB l)=true):=
 ⟨fun l i a0=>set_rows rB l i a0,
 fun l a0=>qB rB l [a0],
 fun l b0 b1=>qB rB l [b0,b1],
 fun l b0 b1 b2=>qB rB l [b0,b1,b2],
 fun l b0 b1 b2 b3=>qB rB l [b0,b1,b2,b3],
 fun n=>rep_rows rB false n,
 bor_rows (fun _=>rfl),
 alRows (fun _=>rfl),
 nb_rows (fun _=>rfl),
 scRw (fun _=>rfl)⟩
theorem R_Li64:(∀ (l:List (List Int)) (i:Nat) (a0:List Int),(List.map (rL true 1 (rK .i64)) l).set i [.list true 1 (List.map (rK .i64) a0)]=List.map (rL true 1 (rK .i64)) (l.set i a0)) ∧
 (∀ (l:List (List Int)) (a0:List Int),List.map (rL true 1 (rK .i64)) l++[[.list true 1 (List.map (rK .i64) a0)]]=List.map (rL true 1 (rK .i64)) (l++[a0])) ∧
 (∀ (l:List (List Int)) (i:Nat) (a0:List Int),(List.map (rL false 1 (rK .i64)) l).set i [.list false 1 (List.map (rK .i64) a0)]=List.map (rL false 1 (rK .i64)) (l.set i a0)) ∧
 (∀ (l:List (List Int)) (a0:List Int),List.map (rL false 1 (rK .i64)) l++[[.list false 1 (List.map (rK .i64) a0)]]=List.map (rL false 1 (rK .i64)) (l++[a0])) ∧
 (∀ (l:List (List Int)) (i:Nat),(List.map (rL true 1 (rK .i64)) l).set i [.list true 1 []]=List.map (rL true 1 (rK .i64)) (l.set i [])) ∧
 (∀ (l:List (List Int)),List.map (rL true 1 (rK .i64)) l++[[.list true 1 []]]=List.map (rL true 1 (rK .i64)) (l++[[]])) ∧
 (∀ l:List (List Int),borRows (List.map (rL true 1 (rK .i64)) l)=List.map (rL false 1 (rK .i64)) l) ∧
 (∀ l:List (List Int),qC (List.map (rL true 1 (rK .i64)) l)=true) ∧
 (∀ l:List (List Int),borRows (List.map (rL false 1 (rK .i64)) l)=List.map (rL false 1 (rK .i64)) l) ∧
 (∀ l:List (List Int),qC (List.map (rL false 1 (rK .i64)) l)=true) ∧
 (∀ l:List (List Int),zS (List.map (rL true 1 (rK .i64)) l)=true):=
 ⟨fun l i a0=>set_rows (rL true 1 (rK .i64)) l i a0,
 fun l a0=>qB (rL true 1 (rK .i64)) l [a0],
 fun l i a0=>set_rows (rL false 1 (rK .i64)) l i a0,
 fun l a0=>qB (rL false 1 (rK .i64)) l [a0],
 fun l i=>set_rows (rL true 1 (rK .i64)) l i [],
 fun l=>qB (rL true 1 (rK .i64)) l [[]],
 bor_rows (bor_rL (fun _=>rfl)),
 alRows (fun _=>rfl),
 bor_rows (bor_rL (fun _=>rfl)),
 alRows (fun _=>rfl),
 nb_rows (nb_rL (fun _=>rfl))⟩
def zA (o:Bool) (x:T_impl_Body):List V:=[.sc (.string x.Line),.sc (.int .i64 x.Ins),.sc (.int .i64 x.Ord),.list o 1 (List.map (rK .i64) x.Dels)]
theorem zP:(∀ (l:List T_impl_Body) (i:Nat) (a0:ByteArray) (a1:Int) (a2:Int) (a3:List Int),(List.map (zA true) l).set i [.sc (.string a0),.sc (.int .i64 a1),.sc (.int .i64 a2),.list true 1 (List.map (rK .i64) a3)]=List.map (zA true) (l.set i (T_impl_Body.mk a0 a1 a2 a3))) ∧
 (∀ (l:List T_impl_Body) (a0:ByteArray) (a1:Int) (a2:Int) (a3:List Int),List.map (zA true) l++[[.sc (.string a0),.sc (.int .i64 a1),.sc (.int .i64 a2),.list true 1 (List.map (rK .i64) a3)]]=List.map (zA true) (l++[(T_impl_Body.mk a0 a1 a2 a3)])) ∧
 (∀ (l:List T_impl_Body) (i:Nat) (a0:ByteArray) (a1:Int) (a2:Int) (a3:List Int),(List.map (zA false) l).set i [.sc (.string a0),.sc (.int .i64 a1),.sc (.int .i64 a2),.list false 1 (List.map (rK .i64) a3)]=List.map (zA false) (l.set i (T_impl_Body.mk a0 a1 a2 a3))) ∧
 (∀ (l:List T_impl_Body) (a0:ByteArray) (a1:Int) (a2:Int) (a3:List Int),List.map (zA false) l++[[.sc (.string a0),.sc (.int .i64 a1),.sc (.int .i64 a2),.list false 1 (List.map (rK .i64) a3)]]=List.map (zA false) (l++[(T_impl_Body.mk a0 a1 a2 a3)])) ∧
 (∀ (l:List T_impl_Body) (i:Nat) (a0:ByteArray) (a1:Int) (a2:Int),(List.map (zA true) l).set i [.sc (.string a0),.sc (.int .i64 a1),.sc (.int .i64 a2),.list true 1 []]=List.map (zA true) (l.set i (T_impl_Body.mk a0 a1 a2 []))) ∧
 (∀ (l:List T_impl_Body) (a0:ByteArray) (a1:Int) (a2:Int),List.map (zA true) l++[[.sc (.string a0),.sc (.int .i64 a1),.sc (.int .i64 a2),.list true 1 []]]=List.map (zA true) (l++[(T_impl_Body.mk a0 a1 a2 [])])) ∧
 (∀ l:List T_impl_Body,borRows (List.map (zA true) l)=List.map (zA false) l) ∧
 (∀ l:List T_impl_Body,qC (List.map (zA true) l)=true) ∧
 (∀ l:List T_impl_Body,borRows (List.map (zA false) l)=List.map (zA false) l) ∧
 (∀ l:List T_impl_Body,qC (List.map (zA false) l)=true) ∧
 (∀ l:List T_impl_Body,zS (List.map (zA true) l)=true) ∧
 (∀ x:T_impl_Body,zA true x=[.sc (.string x.Line),.sc (.int .i64 x.Ins),.sc (.int .i64 x.Ord),.list true 1 (List.map (rK .i64) x.Dels)]) ∧
 (∀ x:T_impl_Body,zA false x=[.sc (.string x.Line),.sc (.int .i64 x.Ins),.sc (.int .i64 x.Ord),.list false 1 (List.map (rK .i64) x.Dels)]):=
 ⟨fun l i a0 a1 a2 a3=>set_rows (zA true) l i (T_impl_Body.mk a0 a1 a2 a3),
 fun l a0 a1 a2 a3=>qB (zA true) l [(T_impl_Body.mk a0 a1 a2 a3)],
 fun l i a0 a1 a2 a3=>set_rows (zA false) l i (T_impl_Body.mk a0 a1 a2 a3),
 fun l a0 a1 a2 a3=>qB (zA false) l [(T_impl_Body.mk a0 a1 a2 a3)],
 fun l i a0 a1 a2=>set_rows (zA true) l i (T_impl_Body.mk a0 a1 a2 []),
 fun l a0 a1 a2=>qB (zA true) l [(T_impl_Body.mk a0 a1 a2 [])],
 bor_rows (fun x=>by simp only [zA,borRow,V.bor,(show ∀ l:List Int,borRows (List.map (rK .i64) l)=List.map (rK .i64) l from bor_rows (fun _=>rfl))]),
 alRows (fun _=>rfl),
 bor_rows (fun x=>by simp only [zA,borRow,V.bor,(show ∀ l:List Int,borRows (List.map (rK .i64) l)=List.map (rK .i64) l from bor_rows (fun _=>rfl))]),
 alRows (fun _=>rfl),
 nb_rows (fun x=>by simp only [zA,zW,V.noBor,Bool.and_true,Bool.true_and,(show ∀ l:List Int,zS (List.map (rK .i64) l)=true from nb_rows (fun _=>rfl))]),
 fun _=>rfl,
 fun _=>rfl⟩
theorem R_s:(∀ (l:List ByteArray) (i:Nat) (a0:ByteArray),(List.map rS l).set i [.sc (.string a0)]=List.map rS (l.set i a0)) ∧
 (∀ (l:List ByteArray) (a0:ByteArray),List.map rS l++[[.sc (.string a0)]]=List.map rS (l++[a0])) ∧
 (∀ (l:List ByteArray) (b0 b1:ByteArray),List.map rS l++[[.sc (.string b0)],[.sc (.string b1)]]=List.map rS (l++[b0,b1])) ∧
 (∀ (l:List ByteArray) (b0 b1 b2:ByteArray),List.map rS l++[[.sc (.string b0)],[.sc (.string b1)],[.sc (.string b2)]]=List.map rS (l++[b0,b1,b2])) ∧
 (∀ (l:List ByteArray) (b0 b1 b2 b3:ByteArray),List.map rS l++[[.sc (.string b0)],[.sc (.string b1)],[.sc (.string b2)],[.sc (.string b3)]]=List.map rS (l++[b0,b1,b2,b3])) ∧
 (∀ n:Nat,List.replicate n [.sc (.string (ByteArray.mk #[]))]=List.map rS (List.replicate n (ByteArray.mk #[]))) ∧
 (∀ l:List ByteArray,borRows (List.map rS l)=List.map rS l) ∧
 (∀ l:List ByteArray,qC (List.map rS l)=true) ∧
 (∀ l:List ByteArray,zS (List.map rS l)=true) ∧
 (∀ l:List ByteArray,scRows (List.map rS l)=true):=
 ⟨fun l i a0=>set_rows rS l i a0,
 fun l a0=>qB rS l [a0],
 fun l b0 b1=>qB rS l [b0,b1],
 fun l b0 b1 b2=>qB rS l [b0,b1,b2],
 fun l b0 b1 b2 b3=>qB rS l [b0,b1,b2,b3],
 fun n=>rep_rows rS (ByteArray.mk #[]) n,
 bor_rows (fun _=>rfl),
 alRows (fun _=>rfl),
 nb_rows (fun _=>rfl),
 scRw (fun _=>rfl)⟩
theorem R_Ls:(∀ (l:List (List ByteArray)) (i:Nat) (a0:List ByteArray),(List.map (rL true 1 rS) l).set i [.list true 1 (List.map rS a0)]=List.map (rL true 1 rS) (l.set i a0)) ∧
 (∀ (l:List (List ByteArray)) (a0:List ByteArray),List.map (rL true 1 rS) l++[[.list true 1 (List.map rS a0)]]=List.map (rL true 1 rS) (l++[a0])) ∧
 (∀ (l:List (List ByteArray)) (i:Nat) (a0:List ByteArray),(List.map (rL false 1 rS) l).set i [.list false 1 (List.map rS a0)]=List.map (rL false 1 rS) (l.set i a0)) ∧
 (∀ (l:List (List ByteArray)) (a0:List ByteArray),List.map (rL false 1 rS) l++[[.list false 1 (List.map rS a0)]]=List.map (rL false 1 rS) (l++[a0])) ∧
 (∀ (l:List (List ByteArray)) (i:Nat),(List.map (rL true 1 rS) l).set i [.list true 1 []]=List.map (rL true 1 rS) (l.set i [])) ∧
 (∀ (l:List (List ByteArray)),List.map (rL true 1 rS) l++[[.list true 1 []]]=List.map (rL true 1 rS) (l++[[]])) ∧
 (∀ l:List (List ByteArray),borRows (List.map (rL true 1 rS) l)=List.map (rL false 1 rS) l) ∧
 (∀ l:List (List ByteArray),qC (List.map (rL true 1 rS) l)=true) ∧
 (∀ l:List (List ByteArray),borRows (List.map (rL false 1 rS) l)=List.map (rL false 1 rS) l) ∧
 (∀ l:List (List ByteArray),qC (List.map (rL false 1 rS) l)=true) ∧
 (∀ l:List (List ByteArray),zS (List.map (rL true 1 rS) l)=true):=
 ⟨fun l i a0=>set_rows (rL true 1 rS) l i a0,
 fun l a0=>qB (rL true 1 rS) l [a0],
 fun l i a0=>set_rows (rL false 1 rS) l i a0,
 fun l a0=>qB (rL false 1 rS) l [a0],
 fun l i=>set_rows (rL true 1 rS) l i [],
 fun l=>qB (rL true 1 rS) l [[]],
 bor_rows (bor_rL (fun _=>rfl)),
 alRows (fun _=>rfl),
 bor_rows (bor_rL (fun _=>rfl)),
 alRows (fun _=>rfl),
 nb_rows (nb_rL (fun _=>rfl))⟩
theorem R_u64:(∀ (l:List Int) (i:Nat) (a0:Int),(List.map (rK .u64) l).set i [.sc (.int .u64 a0)]=List.map (rK .u64) (l.set i a0)) ∧
 (∀ (l:List Int) (a0:Int),List.map (rK .u64) l++[[.sc (.int .u64 a0)]]=List.map (rK .u64) (l++[a0])) ∧
 (∀ (l:List Int) (b0 b1:Int),List.map (rK .u64) l++[[.sc (.int .u64 b0)],[.sc (.int .u64 b1)]]=List.map (rK .u64) (l++[b0,b1])) ∧
 (∀ (l:List Int) (b0 b1 b2:Int),List.map (rK .u64) l++[[.sc (.int .u64 b0)],[.sc (.int .u64 b1)],[.sc (.int .u64 b2)]]=List.map (rK .u64) (l++[b0,b1,b2])) ∧
 (∀ (l:List Int) (b0 b1 b2 b3:Int),List.map (rK .u64) l++[[.sc (.int .u64 b0)],[.sc (.int .u64 b1)],[.sc (.int .u64 b2)],[.sc (.int .u64 b3)]]=List.map (rK .u64) (l++[b0,b1,b2,b3])) ∧
 (∀ n:Nat,List.replicate n [.sc (.int .u64 0)]=List.map (rK .u64) (List.replicate n 0)) ∧
 (∀ l:List Int,borRows (List.map (rK .u64) l)=List.map (rK .u64) l) ∧
 (∀ l:List Int,qC (List.map (rK .u64) l)=true) ∧
 (∀ l:List Int,zS (List.map (rK .u64) l)=true) ∧
 (∀ l:List Int,scRows (List.map (rK .u64) l)=true):=
 ⟨fun l i a0=>set_rows (rK .u64) l i a0,
 fun l a0=>qB (rK .u64) l [a0],
 fun l b0 b1=>qB (rK .u64) l [b0,b1],
 fun l b0 b1 b2=>qB (rK .u64) l [b0,b1,b2],
 fun l b0 b1 b2 b3=>qB (rK .u64) l [b0,b1,b2,b3],
 fun n=>rep_rows (rK .u64) 0 n,
 bor_rows (fun _=>rfl),
 alRows (fun _=>rfl),
 nb_rows (fun _=>rfl),
 scRw (fun _=>rfl)⟩
end Go.TV
namespace Go.TV.F
noncomputable def laws_big (code:List Int):Option Bool:=
 some (decide ((code.length:Int) > 1048576))
noncomputable def spec_l01New_j1 (code:List Int) (h:Int):Option (T_spec_l01Cur):=
 some (T_spec_l01Cur.mk code 0 h)
noncomputable def spec_l01New_l1 (code:List Int) (h_1:Int) (i:Int):Option ((Int×Int)⊕(Int)):=
 (if (decide (i < (code.length:Int))) then some (decide (i < 4000)) else some false).bind fun b=>(if b then (zF code i).bind fun x=>some (.inl ((bits .and .i64 (wk .i64 ((wk .i64 ((wk .i64 (h_1 * 131))+(wk .i64 x)))+7)) 1073741823),(wk .i64 (i+1))))
 else some (.inr h_1))
noncomputable def spec_l01New (code:List Int):Option T_spec_l01Cur:=
 (zI (fun (s':Int×Int)=>spec_l01New_l1 code s'.1 s'.2) ((wk .i64 (73073+(code.length:Int))),0)).bind fun p=>spec_l01New_j1 code p
noncomputable def spec_l06Size (code:List Int):Option Int:=
 (if (decide ((wk .i64 (3+(wk .i64 ((code.length:Int).tdiv 25)))) > 12)) then some 12
 else some (wk .i64 (3+(wk .i64 ((code.length:Int).tdiv 25)))))
noncomputable def spec_l01Byte (c:T_spec_l01Cur):Option (Int×T_spec_l01Cur):=
 (if (decide (c.i < (c.b.length:Int))) then (zF c.b c.i).bind fun x=>some ((bits .and .i64 (wk .i64 ((bits .and .i64 (bits .xor .i64 (shrI .i64 (wk .i64 ((wk .i64 (c.h * 6364136223846793005))+1442695040888963407)) 33) (shrI .i64 (wk .i64 ((wk .i64 (c.h * 6364136223846793005))+1442695040888963407)) 45)) 255)+(wk .i64 x))) 255),(T_spec_l01Cur.mk c.b (wk .i64 (c.i+1)) (wk .i64 ((wk .i64 (c.h * 6364136223846793005))+1442695040888963407))))
 else some ((bits .and .i64 (bits .xor .i64 (shrI .i64 (wk .i64 ((wk .i64 (c.h * 6364136223846793005))+1442695040888963407)) 33) (shrI .i64 (wk .i64 ((wk .i64 (c.h * 6364136223846793005))+1442695040888963407)) 45)) 255),(T_spec_l01Cur.mk c.b c.i (wk .i64 ((wk .i64 (c.h * 6364136223846793005))+1442695040888963407)))))
noncomputable def qY (c:T_spec_l01Cur) (n:Int):Option (Int×T_spec_l01Cur):=
 (if (decide (n≤0)) then some (0,(T_spec_l01Cur.mk c.b c.i c.h))
 else (if (decide (n≤256)) then (spec_l01Byte (T_spec_l01Cur.mk c.b c.i c.h)).bind fun x14=>(chk (¬n=0)).bind fun u=>some (((x14.1:Int).tmod n),(T_spec_l01Cur.mk x14.2.b x14.2.i x14.2.h))
 else (spec_l01Byte (T_spec_l01Cur.mk c.b c.i c.h)).bind fun x18=>(spec_l01Byte (T_spec_l01Cur.mk x18.2.b x18.2.i x18.2.h)).bind fun x20=>(spec_l01Byte (T_spec_l01Cur.mk x20.2.b x20.2.i x20.2.h)).bind fun x22=>(spec_l01Byte (T_spec_l01Cur.mk x22.2.b x22.2.i x22.2.h)).bind fun x24=>(chk (¬n=0)).bind fun u_1=>some (((wk .i64 ((wk .i64 ((wk .i64 ((wk .i64 (x18.1 * 16777216))+(wk .i64 (x20.1 * 65536))))+(wk .i64 (x22.1 * 256))))+x24.1)).tmod n),(T_spec_l01Cur.mk x24.2.b x24.2.i x24.2.h))))
noncomputable def spec_l01Once (c:T_spec_l01Cur) (n:Int):Option (Bool×T_spec_l01Cur):=
 (qY (T_spec_l01Cur.mk c.b c.i c.h) n).bind fun x7=>some ((x7.1 == 0),(T_spec_l01Cur.mk x7.2.b x7.2.i x7.2.h))
noncomputable def spec_l05Parents_j1 (c_1:List Int) (c_2:Int) (c_3:Int) (out_:List Int):Option ((List Int)×T_spec_l01Cur):=
 some (out_,(T_spec_l01Cur.mk c_1 c_2 c_3))
noncomputable def spec_l05Parents_l1 (n:Int) (v:Int) (c_4:List Int) (c_5:Int) (c_6:Int) (out__1:List Int):Option ((Int×(List Int)×Int×Int×(List Int))⊕((List Int)×Int×Int×(List Int))):=
 (if (decide (v < n)) then (if (decide ((out__1.length:Int) < 4)) then (if (v == (wk .i64 (n - 1))) then (spec_l01Once (T_spec_l01Cur.mk c_4 c_5 c_6) 4).bind fun x23=>some ((!x23.1),x23.2.b,x23.2.i,x23.2.h) else some (false,c_4,c_5,c_6)).bind fun b_1=>(if b_1.1 then some (true,b_1.2.1,b_1.2.2.1,b_1.2.2.2) else (spec_l01Once (T_spec_l01Cur.mk b_1.2.1 b_1.2.2.1 b_1.2.2.2) (wk .i64 (n+2))).bind fun x30=>some (x30.1,x30.2.b,x30.2.i,x30.2.h)).bind fun b_2=>some (b_2.1,b_2.2.1,b_2.2.2.1,b_2.2.2.2) else some (false,c_4,c_5,c_6)).bind fun b=>(if b.1 then (appn out__1 [v]).bind fun l=>some (.inl ((wk .i64 (v+1)),b.2.1,b.2.2.1,b.2.2.2,l))
 else some (.inl ((wk .i64 (v+1)),b.2.1,b.2.2.1,b.2.2.2,out__1)))
 else some (.inr (c_4,c_5,c_6,out__1)))
noncomputable def spec_l05Parents (c:T_spec_l01Cur) (n:Int):Option ((List Int)×T_spec_l01Cur):=
 (zI (fun (s':Int×(List Int)×Int×Int×(List Int))=>spec_l05Parents_l1 n s'.1 s'.2.1 s'.2.2.1 s'.2.2.2.1 s'.2.2.2.2) (0,c.b,c.i,c.h,[])).bind fun p=>spec_l05Parents_j1 p.1 p.2.1 p.2.2.1 p.2.2.2
noncomputable def spec_l01In (x:Int) (least:Int) (most:Int):Option Bool:=
 (if (decide (x≥least)) then some (decide (x≤most)) else some false).bind fun b=>some b
noncomputable def spec_l05Set_j2 (in__1:List Bool):Option ((List Bool)):=
 some in__1
noncomputable def spec_l05Set_j3 (v:Int) (in__3:List Bool):Option ((Int×(List Bool))⊕((List Bool))):=
 some (.inl ((wk .i64 (v - 1)),in__3))
noncomputable def spec_l05Set_l2 (parents:List (List Int)) (v:Int) (k:Int) (in__4:List Bool):Option ((Int×(List Bool))⊕((List Bool))):=
 (zF parents v).bind fun x=>(if (decide (k < (x.length:Int))) then (zF in__4 v).bind fun x_1=>some x_1 else some false).bind fun b=>(if b then (zF parents v).bind fun x_2=>(zF x_2 k).bind fun x_3=>(zF in__4 x_3).bind fun x_4=>some (.inl ((wk .i64 (k+1)),(in__4.set x_3.toNat true)))
 else some (.inr in__4))
noncomputable def spec_l05Set_l1 (parents:List (List Int)) (v:Int) (in__2:List Bool):Option ((Int×(List Bool))⊕((List Bool))):=
 (if (decide (v≥0)) then (zI (fun (s':Int×(List Bool))=>spec_l05Set_l2 parents v s'.1 s'.2) (0,in__2)).bind fun p_1=>spec_l05Set_j3 v p_1
 else some (.inr in__2))
noncomputable def spec_l05Set_j1 (parents:List (List Int)) (in_:List Bool):Option ((List Bool)):=
 (zI (fun (s':Int×(List Bool))=>spec_l05Set_l1 parents s'.1 s'.2) ((wk .i64 ((parents.length:Int) - 1)),in_)).bind fun p=>spec_l05Set_j2 p
noncomputable def spec_l05Set_l3 (parents:List (List Int)) (list_:List Int) (i:Int) (in__5:List Bool):Option ((Int×(List Bool))⊕((List Bool))):=
 (if (decide (i < (list_.length:Int))) then (zF list_ i).bind fun x_5=>(spec_l01In x_5 0 (wk .i64 ((parents.length:Int) - 1))).bind fun x25=>(if x25 then (zF in__5 x_5).bind fun x_6=>some (.inl ((wk .i64 (i+1)),(in__5.set x_5.toNat true)))
 else some (.inl ((wk .i64 (i+1)),in__5)))
 else some (.inr in__5))
noncomputable def spec_l05Set (parents:List (List Int)) (list_:List Int):Option (List Bool):=
 ((mkl (parents.length:Int) (parents.length:Int) false:Option (List Bool))).bind fun x11=>(zI (fun (s':Int×(List Bool))=>spec_l05Set_l3 parents list_ s'.1 s'.2) (0,x11)).bind fun p_2=>spec_l05Set_j1 parents p_2
noncomputable def spec_l06Live_j1:Option (Bool):=
 some true
noncomputable def spec_l06Live_l1 (b:T_impl_Body) (in_:List Bool) (i:Int):Option ((Int)⊕((Bool)⊕(Unit))):=
 (if (decide (i < (b.Dels.length:Int))) then (zF b.Dels i).bind fun x_1=>(spec_l01In x_1 0 (wk .i64 ((in_.length:Int) - 1))).bind fun x36=>(if x36 then (zF in_ x_1).bind fun x_2=>some x_2 else some false).bind fun b_2=>(if b_2 then some (.inr (.inl false))
 else some (.inl (wk .i64 (i+1))))
 else some (.inr (.inr ())))
noncomputable def spec_l06Live (b:T_impl_Body) (in_:List Bool):Option Bool:=
 (spec_l01In b.Ins 0 (wk .i64 ((in_.length:Int) - 1))).bind fun x11=>(if (!x11) then some true else (zF in_ b.Ins).bind fun x=>some (!x)).bind fun b_1=>(if b_1 then some false
 else (zI (fun (s':Int)=>spec_l06Live_l1 b in_ s') (0)).bind fun p=>(match p with | .inl c'=>some c' | .inr q=>spec_l06Live_j1))
noncomputable def spec_l06Places_j1 (out_:List Int):Option ((List Int)):=
 some out_
noncomputable def jD (w:T_impl_Weave) (in_:List Bool) (i:Int) (out__1:List Int):Option ((Int×(List Int))⊕((List Int))):=
 (if (decide (i < (w.Bodies.length:Int))) then (zF w.Bodies i).bind fun x=>(spec_l06Live (T_impl_Body.mk x.Line x.Ins x.Ord x.Dels) in_).bind fun x21=>(if x21 then (appn out__1 [i]).bind fun l=>some (.inl ((wk .i64 (i+1)),l))
 else some (.inl ((wk .i64 (i+1)),out__1)))
 else some (.inr out__1))
noncomputable def spec_l06Places (w:T_impl_Weave) (in_:List Bool):Option (List Int):=
 (zI (fun (s':Int×(List Int))=>jD w in_ s'.1 s'.2) (0,[])).bind fun p=>spec_l06Places_j1 p
noncomputable def spec_l06Seen (w:T_impl_Weave) (parents:List Int):Option (List Int):=
 (spec_l05Set w.Parents parents).bind fun x9=>(spec_l06Places (T_impl_Weave.mk w.Parents w.Bodies) x9).bind fun x10=>some x10
noncomputable def spec_l06Lines_j1 (out_:List ByteArray):Option ((List ByteArray)):=
 some out_
noncomputable def spec_l06Lines_l1 (w:T_impl_Weave) (places:List Int) (i:Int) (out__1:List ByteArray):Option ((Int×(List ByteArray))⊕((List ByteArray))):=
 (if (decide (i < (places.length:Int))) then (zF places i).bind fun x=>(zF w.Bodies x).bind fun x_1=>(appn out__1 [x_1.Line]).bind fun l=>some (.inl ((wk .i64 (i+1)),l))
 else some (.inr out__1))
noncomputable def spec_l06Lines (w:T_impl_Weave) (places:List Int):Option (List ByteArray):=
 (zI (fun (s':Int×(List ByteArray))=>spec_l06Lines_l1 w places s'.1 s'.2) (0,[])).bind fun p=>spec_l06Lines_j1 p
noncomputable def spec_l01Pick (c:T_spec_l01Cur) (list_:List ByteArray):Option (ByteArray×T_spec_l01Cur):=
 (qY (T_spec_l01Cur.mk c.b c.i c.h) (list_.length:Int)).bind fun x9=>(zF list_ x9.1).bind fun x=>some (x,(T_spec_l01Cur.mk x9.2.b x9.2.i x9.2.h))
noncomputable def spec_l03Line (c:T_spec_l01Cur):Option (ByteArray×T_spec_l01Cur):=
 (spec_l01Pick (T_spec_l01Cur.mk c.b c.i c.h) [(ByteArray.mk #[97]),(ByteArray.mk #[98]),(ByteArray.mk #[99]),(ByteArray.mk #[100]),(ByteArray.mk #[101]),(ByteArray.mk #[]),(ByteArray.mk #[105,102,32,120]),(ByteArray.mk #[101,110,100]),(ByteArray.mk #[97]),(ByteArray.mk #[98])]).bind fun x5=>some (x5.1,(T_spec_l01Cur.mk x5.2.b x5.2.i x5.2.h))
noncomputable def spec_l04Near_j1 (c_1:List Int) (c_2:Int) (c_3:Int) (out_:List ByteArray):Option ((List ByteArray)×T_spec_l01Cur):=
 (spec_l01Once (T_spec_l01Cur.mk c_1 c_2 c_3) 4).bind fun x44=>(if x44.1 then (spec_l03Line (T_spec_l01Cur.mk x44.2.b x44.2.i x44.2.h)).bind fun x47=>(appn out_ [x47.1]).bind fun l=>some (l,(T_spec_l01Cur.mk x47.2.b x47.2.i x47.2.h))
 else some (out_,(T_spec_l01Cur.mk x44.2.b x44.2.i x44.2.h)))
noncomputable def spec_l04Near_l1 (a:List ByteArray) (i:Int) (c_4:List Int) (c_5:Int) (c_6:Int) (out__1:List ByteArray):Option ((Int×(List Int)×Int×Int×(List ByteArray))⊕((List Int)×Int×Int×(List ByteArray))):=
 (if (decide (i < (a.length:Int))) then (qY (T_spec_l01Cur.mk c_4 c_5 c_6) 6).bind fun x15=>(if (x15.1 == 0) then (spec_l03Line (T_spec_l01Cur.mk x15.2.b x15.2.i x15.2.h)).bind fun x27=>(appn out__1 [x27.1]).bind fun l_1=>some (.inl ((wk .i64 (i+1)),x27.2.b,x27.2.i,x27.2.h,l_1))
 else (if (x15.1 == 1) then (zF a i).bind fun x=>(spec_l03Line (T_spec_l01Cur.mk x15.2.b x15.2.i x15.2.h)).bind fun x34=>(appn out__1 [x34.1,x]).bind fun l_2=>some (.inl ((wk .i64 (i+1)),x34.2.b,x34.2.i,x34.2.h,l_2))
 else (if (x15.1 == 2) then some (.inl ((wk .i64 (i+1)),x15.2.b,x15.2.i,x15.2.h,out__1))
 else (zF a i).bind fun x_1=>(appn out__1 [x_1]).bind fun l_3=>some (.inl ((wk .i64 (i+1)),x15.2.b,x15.2.i,x15.2.h,l_3)))))
 else some (.inr (c_4,c_5,c_6,out__1)))
noncomputable def spec_l04Near (c:T_spec_l01Cur) (a:List ByteArray):Option ((List ByteArray)×T_spec_l01Cur):=
 (zI (fun (s':Int×(List Int)×Int×Int×(List ByteArray))=>spec_l04Near_l1 a s'.1 s'.2.1 s'.2.2.1 s'.2.2.2.1 s'.2.2.2.2) (0,c.b,c.i,c.h,[])).bind fun p=>spec_l04Near_j1 p.1 p.2.1 p.2.2.1 p.2.2.2
noncomputable def spec_l03Lines_j1 (c_1:List Int) (c_2:Int) (c_3:Int) (out_:List ByteArray):Option ((List ByteArray)×T_spec_l01Cur):=
 some (out_,(T_spec_l01Cur.mk c_1 c_2 c_3))
noncomputable def spec_l03Lines_l1 (n:Int) (i:Int) (c_4:List Int) (c_5:Int) (c_6:Int) (out__1:List ByteArray):Option ((Int×(List Int)×Int×Int×(List ByteArray))⊕((List Int)×Int×Int×(List ByteArray))):=
 (qY (T_spec_l01Cur.mk c_4 c_5 c_6) (wk .i64 (n+1))).bind fun x12=>(if (decide (i < x12.1)) then (spec_l03Line (T_spec_l01Cur.mk x12.2.b x12.2.i x12.2.h)).bind fun x18=>(appn out__1 [x18.1]).bind fun l=>some (.inl ((wk .i64 (i+1)),x18.2.b,x18.2.i,x18.2.h,l))
 else some (.inr (x12.2.b,x12.2.i,x12.2.h,out__1)))
noncomputable def spec_l03Lines (c:T_spec_l01Cur) (n:Int):Option ((List ByteArray)×T_spec_l01Cur):=
 (zI (fun (s':Int×(List Int)×Int×Int×(List ByteArray))=>spec_l03Lines_l1 n s'.1 s'.2.1 s'.2.2.1 s'.2.2.2.1 s'.2.2.2.2) (0,c.b,c.i,c.h,[])).bind fun p=>spec_l03Lines_j1 p.1 p.2.1 p.2.2.1 p.2.2.2
noncomputable def spec_l05Rise_j1:Option (Bool):=
 some true
noncomputable def qZ (list_:List Int) (n:Int) (i:Int):Option ((Int)⊕((Bool)⊕(Unit))):=
 (if (decide (i < (list_.length:Int))) then (zF list_ i).bind fun x=>(spec_l01In x 0 (wk .i64 (n - 1))).bind fun x18=>(if (!x18) then some true else (if (decide (i > 0)) then (zF list_ (wk .i64 (i - 1))).bind fun x_1=>some (decide (x_1≥x)) else some false).bind fun b_1=>some b_1).bind fun b=>(if b then some (.inr (.inl false))
 else some (.inl (wk .i64 (i+1))))
 else some (.inr (.inr ())))
noncomputable def spec_l05Rise (list_:List Int) (n:Int):Option Bool:=
 (zI (fun (s':Int)=>qZ list_ n s') (0)).bind fun p=>(match p with | .inl c'=>some c' | .inr q=>spec_l05Rise_j1)
noncomputable def spec_l06Parents (w:T_impl_Weave) (parents:List Int):Option Bool:=
 (if (decide ((parents.length:Int)≤4)) then (spec_l05Rise parents (w.Parents.length:Int)).bind fun x13=>some x13 else some false).bind fun b=>some b
noncomputable def spec_LineOk_j1 (line:ByteArray):Option (Bool):=
 some (decide ((line.size:Int)≤60))
noncomputable def spec_LineOk_l1 (line:ByteArray) (i:Int):Option ((Int)⊕((Bool)⊕(Unit))):=
 (if (decide (i < (line.size:Int))) then (sidx line i).bind fun x12=>(if (x12 == 10) then some (.inr (.inl false))
 else some (.inl (wk .i64 (i+1))))
 else some (.inr (.inr ())))
noncomputable def spec_LineOk (line:ByteArray):Option Bool:=
 (zI (fun (s':Int)=>spec_LineOk_l1 line s') (0)).bind fun p=>(match p with | .inl c'=>some c' | .inr q=>spec_LineOk_j1 line)
noncomputable def spec_l03All_j1:Option (Bool):=
 some true
noncomputable def spec_l03All_l1 (list_:List ByteArray) (i:Int):Option ((Int)⊕((Bool)⊕(Unit))):=
 (if (decide (i < (list_.length:Int))) then (zF list_ i).bind fun x=>(spec_LineOk x).bind fun x20=>(if (!x20) then some (.inr (.inl false))
 else some (.inl (wk .i64 (i+1))))
 else some (.inr (.inr ())))
noncomputable def spec_l03All (list_:List ByteArray) (most:Int):Option Bool:=
 (if (decide ((list_.length:Int) > most)) then some false
 else (zI (fun (s':Int)=>spec_l03All_l1 list_ s') (0)).bind fun p=>(match p with | .inl c'=>some c' | .inr q=>spec_l03All_j1))
noncomputable def spec_LinesOk (list_:List ByteArray):Option Bool:=
 (spec_l03All list_ 80).bind fun x4=>some x4
noncomputable def spec_l04Ok (a:List ByteArray):Option Bool:=
 (spec_l03All a 300).bind fun x4=>some x4
noncomputable def spec_l04Table_j1 (t:List (List Int)):Option ((List (List Int))):=
 some t
noncomputable def spec_l04Table_j2 (i:Int) (t_2:List (List Int)):Option ((Int×(List (List Int)))⊕((List (List Int)))):=
 some (.inl ((wk .i64 (i - 1)),t_2))
noncomputable def spec_l04Table_j4 (i:Int) (j:Int) (t_3:List (List Int)) (x_4:Int):Option ((Int×(List (List Int)))⊕((List (List Int)))):=
 (zF t_3 i).bind fun x_5=>(zF x_5 j).bind fun x_6=>some (.inl ((wk .i64 (j - 1)),(t_3.set i.toNat (x_5.set j.toNat x_4))))
noncomputable def spec_l04Table_j3 (a:List ByteArray) (b:List ByteArray) (i:Int) (j:Int) (t_3:List (List Int)) (x_3:Int):Option ((Int×(List (List Int)))⊕((List (List Int)))):=
 (zF a i).bind fun x_7=>(zF b j).bind fun x_8=>(if (x_7.toList == x_8.toList) then (zF t_3 (wk .i64 (i+1))).bind fun x_9=>(zF x_9 (wk .i64 (j+1))).bind fun x_10=>spec_l04Table_j4 i j t_3 (wk .i64 (x_10+1))
 else spec_l04Table_j4 i j t_3 x_3)
noncomputable def qW (a:List ByteArray) (b:List ByteArray) (i:Int) (j:Int) (t_3:List (List Int)):Option ((Int×(List (List Int)))⊕((List (List Int)))):=
 (if (decide (j≥0)) then some (decide (i < (a.length:Int))) else some false).bind fun b_1=>(if b_1 then (zF t_3 (wk .i64 (i+1))).bind fun x_1=>(zF x_1 j).bind fun x_2=>(zF t_3 i).bind fun x_11=>(zF x_11 (wk .i64 (j+1))).bind fun x_12=>(if (decide (x_12 > x_2)) then spec_l04Table_j3 a b i j t_3 x_12
 else spec_l04Table_j3 a b i j t_3 x_2)
 else some (.inr t_3))
noncomputable def jC (a:List ByteArray) (b:List ByteArray) (i:Int) (t_1:List (List Int)):Option ((Int×(List (List Int)))⊕((List (List Int)))):=
 (if (decide (i≥0)) then ((mkl (wk .i64 ((b.length:Int)+1)) (wk .i64 ((b.length:Int)+1)) 0:Option (List Int))).bind fun x24=>(zF t_1 i).bind fun x=>(zI (fun (s':Int×(List (List Int)))=>qW a b i s'.1 s'.2) ((wk .i64 ((b.length:Int) - 1)),(t_1.set i.toNat x24))).bind fun p_1=>spec_l04Table_j2 i p_1
 else some (.inr t_1))
noncomputable def spec_l04Table (a:List ByteArray) (b:List ByteArray):Option (List (List Int)):=
 ((mkl (wk .i64 ((a.length:Int)+1)) (wk .i64 ((a.length:Int)+1)) []:Option (List (List Int)))).bind fun x12=>(zI (fun (s':Int×(List (List Int)))=>jC a b s'.1 s'.2) ((a.length:Int),x12)).bind fun p=>spec_l04Table_j1 p
noncomputable def spec_Align_j2 (out__1:List Int):Option ((List Int)):=
 some out__1
noncomputable def spec_Align_l1 (b:List ByteArray) (j_1:Int) (out__2:List Int):Option ((Int×(List Int))⊕((List Int))):=
 (if (decide (j_1 < (b.length:Int))) then (appn out__2 [(-1)]).bind fun l=>some (.inl ((wk .i64 (j_1+1)),l))
 else some (.inr out__2))
noncomputable def spec_Align_j1 (b:List ByteArray) (j:Int) (out_:List Int):Option ((List Int)):=
 (zI (fun (s':Int×(List Int))=>spec_Align_l1 b s'.1 s'.2) (j,out_)).bind fun p=>spec_Align_j2 p
noncomputable def spec_Align_l2 (a:List ByteArray) (b:List ByteArray) (x21:(List (List Int))) (i:Int) (j_2:Int) (out__3:List Int):Option ((Int×Int×(List Int))⊕(Int×(List Int))):=
 (if (decide (i < (a.length:Int))) then some (decide (j_2 < (b.length:Int))) else some false).bind fun b_2=>(if b_2 then (zF a i).bind fun x=>(zF b j_2).bind fun x_1=>(if (x.toList == x_1.toList) then (appn out__3 [i]).bind fun l_1=>some (.inl ((wk .i64 (i+1)),(wk .i64 (j_2+1)),l_1))
 else (zF x21 (wk .i64 (i+1))).bind fun x_2=>(zF x_2 j_2).bind fun x_3=>(zF x21 i).bind fun x_4=>(zF x_4 (wk .i64 (j_2+1))).bind fun x_5=>(if (decide (x_3≥x_5)) then some (.inl ((wk .i64 (i+1)),j_2,out__3))
 else (appn out__3 [(-1)]).bind fun l_2=>some (.inl (i,(wk .i64 (j_2+1)),l_2))))
 else some (.inr (j_2,out__3)))
noncomputable def spec_Align (a:List ByteArray) (b:List ByteArray):Option (List Int):=
 (spec_l04Ok a).bind fun x11=>(if (!x11) then some true else (spec_l04Ok b).bind fun x15=>some (!x15)).bind fun b_1=>(if b_1 then some []
 else (spec_l04Table a b).bind fun x21=>(zI (fun (s':Int×Int×(List Int))=>spec_Align_l2 a b x21 s'.1 s'.2.1 s'.2.2) (0,0,[])).bind fun p_1=>spec_Align_j1 b p_1.1 p_1.2)
noncomputable def spec_l06Add_j3 (w:T_impl_Weave) (l_1:List (List Int)) (out__1:List T_impl_Body):Option (T_impl_Weave×Int×Int):=
 (if (decide ((out__1.length:Int) > 300)) then some ((T_impl_Weave.mk [] []),0,4)
 else some ((T_impl_Weave.mk l_1 out__1),(w.Parents.length:Int),0))
noncomputable def spec_l06Add_j4 (i:Int) (ord_1:Int) (out__3:List T_impl_Body):Option ((Int×Int×(List T_impl_Body))⊕((List T_impl_Body))):=
 some (.inl (ord_1,(wk .i64 (i+1)),out__3))
noncomputable def spec_l06Add_l2 (w:T_impl_Weave) (behind:List (List ByteArray)) (i:Int) (ord_2:Int) (k:Int) (out__5:List T_impl_Body):Option ((Int×Int×(List T_impl_Body))⊕(Int×(List T_impl_Body))):=
 (zF behind i).bind fun x=>(if (decide (k < (x.length:Int))) then (zF x k).bind fun x_1=>(appn out__5 [(T_impl_Body.mk x_1 (w.Parents.length:Int) ord_2 [])]).bind fun l_2=>some (.inl ((wk .i64 (ord_2+1)),(wk .i64 (k+1)),l_2))
 else some (.inr (ord_2,out__5)))
noncomputable def spec_l06Add_j5 (w:T_impl_Weave) (behind:List (List ByteArray)) (ord:Int) (i:Int) (out__4:List T_impl_Body):Option ((Int×Int×(List T_impl_Body))⊕((List T_impl_Body))):=
 (zI (fun (s':Int×Int×(List T_impl_Body))=>spec_l06Add_l2 w behind i s'.1 s'.2.1 s'.2.2) (ord,0,out__4)).bind fun p_1=>spec_l06Add_j4 i p_1.1 p_1.2
noncomputable def spec_l06Add_j6 (w:T_impl_Weave) (behind:List (List ByteArray)) (ord:Int) (i:Int) (out__2:List T_impl_Body) (x_2:T_impl_Body) (b:List Int):Option ((Int×Int×(List T_impl_Body))⊕((List T_impl_Body))):=
 (appn out__2 [(T_impl_Body.mk x_2.Line x_2.Ins x_2.Ord b)]).bind fun l_4=>spec_l06Add_j5 w behind ord i l_4
noncomputable def qQ (w:T_impl_Weave) (behind:List (List ByteArray)) (stays:List Bool) (x120:(List Bool)) (ord:Int) (i:Int) (out__2:List T_impl_Body):Option ((Int×Int×(List T_impl_Body))⊕((List T_impl_Body))):=
 (if (decide (i≤(w.Bodies.length:Int))) then (if (decide (i > 0)) then (zF w.Bodies (wk .i64 (i - 1))).bind fun x_2=>(appn ([]:List Int) x_2.Dels).bind fun l_3=>(zF stays (wk .i64 (i - 1))).bind fun x_3=>(if (!x_3) then (spec_l06Live (T_impl_Body.mk x_2.Line x_2.Ins x_2.Ord l_3) x120).bind fun x150=>some x150 else some false).bind fun b_1=>(if b_1 then (appn l_3 [(w.Parents.length:Int)]).bind fun l_5=>spec_l06Add_j6 w behind ord i out__2 x_2 l_5
 else spec_l06Add_j6 w behind ord i out__2 x_2 l_3)
 else spec_l06Add_j5 w behind ord i out__2)
 else some (.inr out__2))
noncomputable def spec_l06Add_j2 (w:T_impl_Weave) (parents:List Int) (behind:List (List ByteArray)) (stays:List Bool) (out_:List (List Int)):Option (T_impl_Weave×Int×Int):=
 (appn ([]:List Int) parents).bind fun l=>(appn out_ [l]).bind fun l_1=>(spec_l05Set w.Parents parents).bind fun x120=>(zI (fun (s':Int×Int×(List T_impl_Body))=>qQ w behind stays x120 s'.1 s'.2.1 s'.2.2) (0,0,[])).bind fun p=>spec_l06Add_j3 w l_1 p
noncomputable def spec_l06Add_l3 (w:T_impl_Weave) (k_1:Int) (out__6:List (List Int)):Option ((Int×(List (List Int)))⊕((List (List Int)))):=
 (if (decide (k_1 < (w.Parents.length:Int))) then (zF w.Parents k_1).bind fun x_4=>(appn ([]:List Int) x_4).bind fun l_6=>(appn out__6 [l_6]).bind fun l_7=>some (.inl ((wk .i64 (k_1+1)),l_7))
 else some (.inr out__6))
noncomputable def spec_l06Add_j1 (w:T_impl_Weave) (parents:List Int) (behind:List (List ByteArray)) (stays:List Bool):Option (T_impl_Weave×Int×Int):=
 (zI (fun (s':Int×(List (List Int)))=>spec_l06Add_l3 w s'.1 s'.2) (0,[])).bind fun p_2=>spec_l06Add_j2 w parents behind stays p_2
noncomputable def spec_l06Add_l4 (lines:List ByteArray) (x40:(List Int)) (x45:(List Int)) (at_:Int) (i_1:Int) (behind_1:List (List ByteArray)) (stays_1:List Bool):Option ((Int×Int×(List (List ByteArray))×(List Bool))⊕((List (List ByteArray))×(List Bool))):=
 (if (decide (i_1 < (lines.length:Int))) then (zF x45 i_1).bind fun x_5=>(if (decide (x_5≥0)) then (zF x40 x_5).bind fun x_6=>(zF stays_1 (wk .i64 ((wk .i64 (x_6+1)) - 1))).bind fun x_7=>some (.inl ((wk .i64 (x_6+1)),(wk .i64 (i_1+1)),behind_1,(stays_1.set ((wk .i64 ((wk .i64 (x_6+1)) - 1)).toNat) true)))
 else (zF behind_1 at_).bind fun x_8=>(zF lines i_1).bind fun x_9=>(appn x_8 [x_9]).bind fun l_8=>some (.inl (at_,(wk .i64 (i_1+1)),(behind_1.set at_.toNat l_8),stays_1)))
 else some (.inr (behind_1,stays_1)))
noncomputable def spec_l06Add (w:T_impl_Weave) (parents:List Int) (lines:List ByteArray):Option (T_impl_Weave×Int×Int):=
 (spec_l06Parents (T_impl_Weave.mk w.Parents w.Bodies) parents).bind fun x25=>(if (!x25) then some ((T_impl_Weave.mk [] []),0,2)
 else (spec_LinesOk lines).bind fun x29=>(if (!x29) then some ((T_impl_Weave.mk [] []),0,3)
 else (if ((w.Parents.length:Int) == 40) then some ((T_impl_Weave.mk [] []),0,4)
 else (spec_l06Seen (T_impl_Weave.mk w.Parents w.Bodies) parents).bind fun x40=>(spec_l06Lines (T_impl_Weave.mk w.Parents w.Bodies) x40).bind fun x43=>(spec_Align x43 lines).bind fun x45=>((mkl (wk .i64 ((w.Bodies.length:Int)+1)) (wk .i64 ((w.Bodies.length:Int)+1)) []:Option (List (List ByteArray)))).bind fun x50=>((mkl (w.Bodies.length:Int) (w.Bodies.length:Int) false:Option (List Bool))).bind fun x54=>(zI (fun (s':Int×Int×(List (List ByteArray))×(List Bool))=>spec_l06Add_l4 lines x40 x45 s'.1 s'.2.1 s'.2.2.1 s'.2.2.2) (0,0,x50,x54)).bind fun p_3=>spec_l06Add_j1 w parents p_3.1 p_3.2)))
noncomputable def spec_l06Right_j1 (c_1:List Int) (c_2:Int) (c_3:Int) (w:List (List Int)) (w_1:List T_impl_Body):Option (T_impl_Weave×T_spec_l01Cur):=
 some ((T_impl_Weave.mk w w_1),(T_spec_l01Cur.mk c_1 c_2 c_3))
noncomputable def spec_l06Right_j3 (v:Int) (w_2:List (List Int)) (w_3:List T_impl_Body) (x20:(List Int)×T_spec_l01Cur) (c_7:List Int) (c_8:Int) (c_9:Int) (lines_1:List ByteArray):Option ((Int×(List Int)×Int×Int×(List (List Int))×(List T_impl_Body))⊕((List Int)×Int×Int×(List (List Int))×(List T_impl_Body))):=
 (spec_l06Add (T_impl_Weave.mk w_2 w_3) x20.1 lines_1).bind fun x45=>(if (x45.2.2 == 0) then some (.inl ((wk .i64 (v+1)),c_7,c_8,c_9,x45.1.Parents,x45.1.Bodies))
 else some (.inl ((wk .i64 (v+1)),c_7,c_8,c_9,w_2,w_3)))
noncomputable def spec_l06Right_j2 (v:Int) (w_2:List (List Int)) (w_3:List T_impl_Body) (x20:(List Int)×T_spec_l01Cur) (c_7:List Int) (c_8:Int) (c_9:Int) (lines:List ByteArray):Option ((Int×(List Int)×Int×Int×(List (List Int))×(List T_impl_Body))⊕((List Int)×Int×Int×(List (List Int))×(List T_impl_Body))):=
 (if (decide ((lines.length:Int) > 30)) then (cutH lines 30).bind fun x40=>spec_l06Right_j3 v w_2 w_3 x20 c_7 c_8 c_9 x40
 else spec_l06Right_j3 v w_2 w_3 x20 c_7 c_8 c_9 lines)
noncomputable def spec_l06Right_l1 (n:Int) (v:Int) (c_4:List Int) (c_5:Int) (c_6:Int) (w_2:List (List Int)) (w_3:List T_impl_Body):Option ((Int×(List Int)×Int×Int×(List (List Int))×(List T_impl_Body))⊕((List Int)×Int×Int×(List (List Int))×(List T_impl_Body))):=
 (if (decide (v < n)) then (spec_l05Parents (T_spec_l01Cur.mk c_4 c_5 c_6) v).bind fun x20=>(spec_l06Seen (T_impl_Weave.mk w_2 w_3) x20.1).bind fun x25=>(spec_l06Lines (T_impl_Weave.mk w_2 w_3) x25).bind fun x26=>(spec_l04Near (T_spec_l01Cur.mk x20.2.b x20.2.i x20.2.h) x26).bind fun x27=>(if (v == 0) then some (true,x27.2.b,x27.2.i,x27.2.h) else (spec_l01Once (T_spec_l01Cur.mk x27.2.b x27.2.i x27.2.h) 12).bind fun x32=>some (x32.1,x32.2.b,x32.2.i,x32.2.h)).bind fun b=>(if b.1 then (spec_l03Lines (T_spec_l01Cur.mk b.2.1 b.2.2.1 b.2.2.2) 9).bind fun x35=>spec_l06Right_j2 v w_2 w_3 x20 x35.2.b x35.2.i x35.2.h x35.1
 else spec_l06Right_j2 v w_2 w_3 x20 b.2.1 b.2.2.1 b.2.2.2 x27.1)
 else some (.inr (c_4,c_5,c_6,w_2,w_3)))
noncomputable def spec_l06Right (c:T_spec_l01Cur) (n:Int):Option (T_impl_Weave×T_spec_l01Cur):=
 (zI (fun (s':Int×(List Int)×Int×Int×(List (List Int))×(List T_impl_Body))=>spec_l06Right_l1 n s'.1 s'.2.1 s'.2.2.1 s'.2.2.2.1 s'.2.2.2.2.1 s'.2.2.2.2.2) (0,c.b,c.i,c.h,[],[])).bind fun p=>spec_l06Right_j1 p.1 p.2.1 p.2.2.1 p.2.2.2.1 p.2.2.2.2
noncomputable def spec_DrawPair (code:List Int):Option (T_impl_Weave×Int×Int):=
 (spec_l01New code).bind fun x9=>(spec_l06Size code).bind fun x13=>(qY (T_spec_l01Cur.mk x9.b x9.i x9.h) x13).bind fun x14=>(spec_l06Right (T_spec_l01Cur.mk x14.2.b x14.2.i x14.2.h) (wk .i64 (2+x14.1))).bind fun x16=>(qY (T_spec_l01Cur.mk x16.2.b x16.2.i x16.2.h) (x16.1.Parents.length:Int)).bind fun x21=>(qY (T_spec_l01Cur.mk x21.2.b x21.2.i x21.2.h) (x16.1.Parents.length:Int)).bind fun x28=>some ((T_impl_Weave.mk x16.1.Parents x16.1.Bodies),x21.1,x28.1)
noncomputable def impl_inRange (n:Int) (least:Int) (most:Int):Option Bool:=
 (if (decide (n≥least)) then some (decide (n≤most)) else some false).bind fun b=>some b
noncomputable def impl_ascends_j1:Option (Bool):=
 some true
noncomputable def jA (list_:List Int) (below:Int) (x9:Int):Option ((Int)⊕((Bool)⊕(Unit))):=
 (if (decide (x9 < (list_.length:Int))) then (zF list_ x9).bind fun x=>(impl_inRange x 0 (wk .i64 (below - 1))).bind fun x17=>(if (!x17) then some true else (if (decide (x9 > 0)) then (zF list_ (wk .i64 (x9 - 1))).bind fun x_1=>some (decide (x≤x_1)) else some false).bind fun b_1=>some b_1).bind fun b=>(if b then some (.inr (.inl false))
 else some (.inl (wk .i64 (x9+1))))
 else some (.inr (.inr ())))
noncomputable def impl_ascends (list_:List Int) (below:Int):Option Bool:=
 (zI (fun (s':Int)=>jA list_ below s') (0)).bind fun p=>(match p with | .inl c'=>some c' | .inr q=>impl_ascends_j1)
noncomputable def impl_GraphOk_j1 (parents:List (List Int)):Option (Bool):=
 some (decide ((parents.length:Int)≤40))
noncomputable def jB (parents:List (List Int)) (x7:Int):Option ((Int)⊕((Bool)⊕(Unit))):=
 (if (decide (x7 < (parents.length:Int))) then (zF parents x7).bind fun x=>(if (decide ((x.length:Int) > 4)) then some true else (impl_ascends x x7).bind fun x18=>some (!x18)).bind fun b=>(if b then some (.inr (.inl false))
 else some (.inl (wk .i64 (x7+1))))
 else some (.inr (.inr ())))
noncomputable def impl_GraphOk (parents:List (List Int)):Option Bool:=
 (zI (fun (s':Int)=>jB parents s') (0)).bind fun p=>(match p with | .inl c'=>some c' | .inr q=>impl_GraphOk_j1 parents)
noncomputable def impl_unionOf_j1 (s:Int):Option (Int):=
 some s
noncomputable def impl_unionOf_l1 (closed:List Int) (list_:List Int) (s_1:Int) (x10:Int):Option ((Int×Int)⊕(Int)):=
 (if (decide (x10 < (list_.length:Int))) then (zF list_ x10).bind fun x=>(zF closed x).bind fun x_1=>some (.inl ((bits .or .u64 s_1 x_1),(wk .i64 (x10+1))))
 else some (.inr s_1))
noncomputable def impl_unionOf (closed:List Int) (list_:List Int):Option Int:=
 (zI (fun (s':Int×Int)=>impl_unionOf_l1 closed list_ s'.1 s'.2) (0,0)).bind fun p=>impl_unionOf_j1 p
noncomputable def impl_closures_j1 (out_:List Int):Option ((List Int)):=
 some out_
noncomputable def impl_closures_l1 (parents:List (List Int)) (x11:Int) (out__1:List Int):Option ((Int×(List Int))⊕((List Int))):=
 (if (decide (x11 < (parents.length:Int))) then (zF parents x11).bind fun x=>(impl_unionOf out__1 x).bind fun x20=>(chk (¬(wk .u64 x11) < 0)).bind fun u=>(zF out__1 x11).bind fun x_1=>some (.inl ((wk .i64 (x11+1)),(out__1.set x11.toNat (bits .or .u64 x20 (shlI .u64 1 (wk .u64 x11))))))
 else some (.inr out__1))
noncomputable def impl_closures (parents:List (List Int)):Option (List Int):=
 ((mkl (parents.length:Int) (parents.length:Int) 0:Option (List Int))).bind fun x8=>(zI (fun (s':Int×(List Int))=>impl_closures_l1 parents s'.1 s'.2) (0,x8)).bind fun p=>impl_closures_j1 p
noncomputable def strings_Contains (s:ByteArray) (x:ByteArray):Option Bool:=
 if s.size < 4294967281 then some (Go.Lib.contains s.data.toList x.data.toList) else none
noncomputable def impl_LineOk (line:ByteArray):Option Bool:=
 (if (decide ((line.size:Int)≤60)) then (strings_Contains line (ByteArray.mk #[10])).bind fun x8=>some (!x8) else some false).bind fun b=>some b
noncomputable def impl_isPlace (n:Int) (size:Int):Option Bool:=
 (impl_inRange n 0 (wk .i64 (size - 1))).bind fun x8=>some x8
noncomputable def impl_set_has (s:Int) (v:Int):Option Bool:=
 (impl_inRange v 0 63).bind fun x6=>(if x6 then (chk (¬(wk .u64 v) < 0)).bind fun u=>some ((bits .and .u64 (shrI .u64 s (wk .u64 v)) 1) == 1) else some false).bind fun b=>some b
noncomputable def impl_setOf_j1 (s:Int):Option (Int):=
 some s
noncomputable def impl_setOf_l1 (list_:List Int) (s_1:Int) (x8:Int):Option ((Int×Int)⊕(Int)):=
 (if (decide (x8 < (list_.length:Int))) then (zF list_ x8).bind fun x=>(impl_inRange x 0 63).bind fun x13=>(if x13 then (chk (¬(wk .u64 x) < 0)).bind fun u=>some (.inl ((bits .or .u64 s_1 (shlI .u64 1 (wk .u64 x))),(wk .i64 (x8+1))))
 else some (.inl (s_1,(wk .i64 (x8+1)))))
 else some (.inr s_1))
noncomputable def impl_setOf (list_:List Int):Option Int:=
 (zI (fun (s':Int×Int)=>impl_setOf_l1 list_ s'.1 s'.2) (0,0)).bind fun p=>impl_setOf_j1 p
noncomputable def impl_Body_isLive (b:T_impl_Body) (s:Int):Option Bool:=
 (impl_set_has s b.Ins).bind fun x8=>(if x8 then (impl_setOf b.Dels).bind fun x12=>some ((bits .and .u64 x12 s) == 0) else some false).bind fun b_1=>some b_1
noncomputable def impl_Weave_liveIn_j1 (out_:List Int):Option ((List Int)):=
 some out_
noncomputable def qU (w:T_impl_Weave) (s:Int) (x13:Int) (out__1:List Int):Option ((Int×(List Int))⊕((List Int))):=
 (if (decide (x13 < (w.Bodies.length:Int))) then (zF w.Bodies x13).bind fun x=>(impl_Body_isLive (T_impl_Body.mk x.Line x.Ins x.Ord x.Dels) s).bind fun x20=>(if x20 then (appn out__1 [x13]).bind fun l=>some (.inl ((wk .i64 (x13+1)),l))
 else some (.inl ((wk .i64 (x13+1)),out__1)))
 else some (.inr out__1))
noncomputable def qF (w:T_impl_Weave) (s:Int):Option (List Int):=
 (zI (fun (s':Int×(List Int))=>qU w s s'.1 s'.2) (0,[])).bind fun p=>impl_Weave_liveIn_j1 p
noncomputable def impl_bodiesOk_j2:Option (Bool):=
 some true
noncomputable def impl_bodiesOk_l1 (w:T_impl_Weave) (closed:List Int) (born:List Int) (x80:Int):Option ((Int)⊕((Bool)⊕(Unit))):=
 (if (decide (x80 < (closed.length:Int))) then (zF closed x80).bind fun x=>(zF born x80).bind fun x_1=>(if (decide (x_1 > 80)) then some true else (qF (T_impl_Weave.mk w.Parents w.Bodies) x).bind fun x92=>some (decide ((x92.length:Int) > 80))).bind fun b=>(if b then some (.inr (.inl false))
 else some (.inl (wk .i64 (x80+1))))
 else some (.inr (.inr ())))
noncomputable def impl_bodiesOk_j1 (w:T_impl_Weave) (closed:List Int) (born:List Int):Option (Bool):=
 (zI (fun (s':Int)=>impl_bodiesOk_l1 w closed born s') (0)).bind fun p=>(match p with | .inl c'=>some c' | .inr q=>impl_bodiesOk_j2)
noncomputable def impl_bodiesOk_j3 (x18:Int) (born_2:List Int):Option ((Int×(List Int))⊕((Bool)⊕((List Int)))):=
 some (.inl ((wk .i64 (x18+1)),born_2))
noncomputable def impl_bodiesOk_l3 (w:T_impl_Weave) (closed:List Int) (x_2:T_impl_Body) (x62:Int):Option ((Int)⊕(((Int×(List Int))⊕((Bool)⊕((List Int))))⊕(Unit))):=
 (if (decide (x62 < (x_2.Dels.length:Int))) then (zF x_2.Dels x62).bind fun x_5=>(zF w.Parents x_5).bind fun x_6=>(impl_unionOf closed x_6).bind fun x73=>(impl_Body_isLive (T_impl_Body.mk x_2.Line x_2.Ins x_2.Ord x_2.Dels) x73).bind fun x74=>(if (!x74) then some (.inr (.inl (.inr (.inl false))))
 else some (.inl (wk .i64 (x62+1))))
 else some (.inr (.inr ())))
noncomputable def qR (w:T_impl_Weave) (closed:List Int) (x18:Int) (born_1:List Int):Option ((Int×(List Int))⊕((Bool)⊕((List Int)))):=
 (if (decide (x18 < (w.Bodies.length:Int))) then (zF w.Bodies x18).bind fun x_2=>(impl_LineOk x_2.Line).bind fun x24=>(if (!x24) then some true else (impl_isPlace x_2.Ins (closed.length:Int)).bind fun x31=>some (!x31)).bind fun b_1=>(if b_1 then some true else (zF born_1 x_2.Ins).bind fun x_3=>some (x_2.Ord != x_3)).bind fun b_2=>(if b_2 then some true else (impl_ascends x_2.Dels (closed.length:Int)).bind fun x49=>some (!x49)).bind fun b_3=>(if b_3 then some (.inr (.inl false))
 else (zF born_1 x_2.Ins).bind fun x_4=>(zI (fun (s':Int)=>impl_bodiesOk_l3 w closed x_2 s') (0)).bind fun p_2=>(match p_2 with | .inl c'=>some c' | .inr q_1=>impl_bodiesOk_j3 x18 (born_1.set x_2.Ins.toNat (wk .i64 (x_4+1)))))
 else some (.inr (.inr born_1)))
noncomputable def impl_bodiesOk (w:T_impl_Weave) (closed:List Int):Option Bool:=
 ((mkl (closed.length:Int) (closed.length:Int) 0:Option (List Int))).bind fun x14=>(zI (fun (s':Int×(List Int))=>qR w closed s'.1 s'.2) (0,x14)).bind fun p_1=>(match p_1 with | .inl c'=>some c' | .inr q_2=>impl_bodiesOk_j1 w closed q_2)
noncomputable def impl_WeaveOk (w:T_impl_Weave):Option Bool:=
 (if (decide ((w.Bodies.length:Int)≤300)) then (impl_GraphOk w.Parents).bind fun x10=>some x10 else some false).bind fun b=>(if b then (impl_closures w.Parents).bind fun x16=>(impl_bodiesOk (T_impl_Weave.mk w.Parents w.Bodies) x16).bind fun x17=>some x17 else some false).bind fun b_1=>some b_1
noncomputable def impl_Weave_areVersions_j1:Option (Bool):=
 some true
noncomputable def qX (w:T_impl_Weave) (list_:List Int) (x9:Int):Option ((Int)⊕((Bool)⊕(Unit))):=
 (if (decide (x9 < (list_.length:Int))) then (zF list_ x9).bind fun x=>(impl_isPlace x (w.Parents.length:Int)).bind fun x19=>(if (!x19) then some (.inr (.inl false))
 else some (.inl (wk .i64 (x9+1))))
 else some (.inr (.inr ())))
noncomputable def qP (w:T_impl_Weave) (list_:List Int):Option Bool:=
 (zI (fun (s':Int)=>qX w list_ s') (0)).bind fun p=>(match p with | .inl c'=>some c' | .inr q=>impl_Weave_areVersions_j1)
noncomputable def impl_Weave_linesAt_j1 (out_:List ByteArray):Option ((List ByteArray)):=
 some out_
noncomputable def qS (w:T_impl_Weave) (places:List Int) (x10:Int) (out__1:List ByteArray):Option ((Int×(List ByteArray))⊕((List ByteArray))):=
 (if (decide (x10 < (places.length:Int))) then (zF places x10).bind fun x=>(zF w.Bodies x).bind fun x_1=>(appn out__1 [x_1.Line]).bind fun l=>some (.inl ((wk .i64 (x10+1)),l))
 else some (.inr out__1))
noncomputable def qO (w:T_impl_Weave) (places:List Int):Option (List ByteArray):=
 (zI (fun (s':Int×(List ByteArray))=>qS w places s'.1 s'.2) (0,[])).bind fun p=>impl_Weave_linesAt_j1 p
noncomputable def impl_SeenBy (w:T_impl_Weave) (parents:List Int):Option (List ByteArray):=
 (qP (T_impl_Weave.mk w.Parents w.Bodies) parents).bind fun x6=>(if (!x6) then some true else (impl_WeaveOk (T_impl_Weave.mk w.Parents w.Bodies)).bind fun x10=>some (!x10)).bind fun b=>(if b then some []
 else (impl_closures w.Parents).bind fun x15=>(impl_unionOf x15 parents).bind fun x17=>(qF (T_impl_Weave.mk w.Parents w.Bodies) x17).bind fun x18=>(qO (T_impl_Weave.mk w.Parents w.Bodies) x18).bind fun x19=>some x19)
noncomputable def impl_Blend (w:T_impl_Weave) (list_:List Int):Option ((List ByteArray)×Int):=
 (impl_WeaveOk (T_impl_Weave.mk w.Parents w.Bodies)).bind fun x8=>(if (!x8) then some ([],1)
 else (if (decide ((list_.length:Int) > 4)) then some true else (impl_ascends list_ (w.Parents.length:Int)).bind fun x18=>some (!x18)).bind fun b=>(if b then some ([],2)
 else (impl_SeenBy (T_impl_Weave.mk w.Parents w.Bodies) list_).bind fun x23=>(if (decide ((x23.length:Int) > 80)) then some ([],3)
 else some (x23,0))))
noncomputable def laws_sameTexts_j1:Option (Bool):=
 some true
noncomputable def laws_sameTexts_l1 (a:List ByteArray) (b:List ByteArray) (i:Int):Option ((Int)⊕((Bool)⊕(Unit))):=
 (if (decide (i < (a.length:Int))) then (zF a i).bind fun x=>(zF b i).bind fun x_1=>(if (!(x.toList == x_1.toList)) then some (.inr (.inl false))
 else some (.inl (wk .i64 (i+1))))
 else some (.inr (.inr ())))
noncomputable def laws_sameTexts (a:List ByteArray) (b:List ByteArray):Option Bool:=
 (if ((a.length:Int) != (b.length:Int)) then some false
 else (zI (fun (s':Int)=>laws_sameTexts_l1 a b s') (0)).bind fun p=>(match p with | .inl c'=>some c' | .inr q=>laws_sameTexts_j1))
noncomputable def impl_areLines_j1:Option (Bool):=
 some true
noncomputable def impl_areLines_l1 (list_:List ByteArray) (x7:Int):Option ((Int)⊕((Bool)⊕(Unit))):=
 (if (decide (x7 < (list_.length:Int))) then (zF list_ x7).bind fun x=>(impl_LineOk x).bind fun x12=>(if (!x12) then some (.inr (.inl false))
 else some (.inl (wk .i64 (x7+1))))
 else some (.inr (.inr ())))
noncomputable def impl_areLines (list_:List ByteArray):Option Bool:=
 (zI (fun (s':Int)=>impl_areLines_l1 list_ s') (0)).bind fun p=>(match p with | .inl c'=>some c' | .inr q=>impl_areLines_j1)
noncomputable def impl_LinesOk (list_:List ByteArray):Option Bool:=
 (if (decide ((list_.length:Int)≤80)) then (impl_areLines list_).bind fun x8=>some x8 else some false).bind fun b=>some b
noncomputable def impl_addCode (w:T_impl_Weave) (parents:List Int) (lines:List ByteArray):Option Int:=
 (if (decide ((parents.length:Int) > 4)) then some true else (impl_ascends parents (w.Parents.length:Int)).bind fun x16=>some (!x16)).bind fun b=>(if b then some 2
 else (impl_LinesOk lines).bind fun x21=>(if (!x21) then some 3
 else some 0))
noncomputable def qN (s:List Int):Option (List Int):=
 appn ([]:List Int) s
noncomputable def impl_copyGraph_j1 (out_:List (List Int)):Option ((List (List Int))):=
 some out_
noncomputable def impl_copyGraph_l1 (parents:List (List Int)) (x8:Int) (out__1:List (List Int)):Option ((Int×(List (List Int)))⊕((List (List Int)))):=
 (if (decide (x8 < (parents.length:Int))) then (zF parents x8).bind fun x=>(qN x).bind fun x14=>(appn out__1 [x14]).bind fun l=>some (.inl ((wk .i64 (x8+1)),l))
 else some (.inr out__1))
noncomputable def impl_copyGraph (parents:List (List Int)):Option (List (List Int)):=
 (zI (fun (s':Int×(List (List Int)))=>impl_copyGraph_l1 parents s'.1 s'.2) (0,[])).bind fun p=>impl_copyGraph_j1 p
noncomputable def impl_copyWeave_j1 (x8:(List (List Int))) (out_:List T_impl_Body):Option (T_impl_Weave):=
 some (T_impl_Weave.mk x8 out_)
noncomputable def impl_copyWeave_l1 (w:T_impl_Weave) (x13:Int) (out__1:List T_impl_Body):Option ((Int×(List T_impl_Body))⊕((List T_impl_Body))):=
 (if (decide (x13 < (w.Bodies.length:Int))) then (zF w.Bodies x13).bind fun x=>(qN x.Dels).bind fun x19=>(appn out__1 [(T_impl_Body.mk x.Line x.Ins x.Ord x19)]).bind fun l=>some (.inl ((wk .i64 (x13+1)),l))
 else some (.inr out__1))
noncomputable def impl_copyWeave (w:T_impl_Weave):Option T_impl_Weave:=
 (impl_copyGraph w.Parents).bind fun x8=>(zI (fun (s':Int×(List T_impl_Body))=>impl_copyWeave_l1 w s'.1 s'.2) (0,[])).bind fun p=>impl_copyWeave_j1 x8 p
noncomputable def impl_commonFrom_j2 (table_1:List (List Int)):Option ((List (List Int))):=
 some table_1
noncomputable def impl_commonFrom_j3 (i:Int) (table_3:List (List Int)):Option ((Int×(List (List Int)))⊕((List (List Int)))):=
 some (.inl ((wk .i64 (i - 1)),table_3))
noncomputable def qT (a:List ByteArray) (b:List ByteArray) (i:Int) (j:Int) (table_4:List (List Int)):Option ((Int×(List (List Int)))⊕((List (List Int)))):=
 (if (decide (j≥0)) then (zF a i).bind fun x=>(zF b j).bind fun x_1=>(if (x.toList == x_1.toList) then (zF table_4 i).bind fun x_2=>(zF table_4 (wk .i64 (i+1))).bind fun x_3=>(zF x_3 (wk .i64 (j+1))).bind fun x_4=>(zF x_2 j).bind fun x_5=>some (.inl ((wk .i64 (j - 1)),(table_4.set i.toNat (x_2.set j.toNat (wk .i64 (x_4+1))))))
 else (zF table_4 i).bind fun x_6=>(zF table_4 (wk .i64 (i+1))).bind fun x_7=>(zF x_7 j).bind fun x_8=>(zF x_6 (wk .i64 (j+1))).bind fun x_9=>(zF x_6 j).bind fun x_10=>some (.inl ((wk .i64 (j - 1)),(table_4.set i.toNat (x_6.set j.toNat (if x_9 > x_8 then x_9 else x_8))))))
 else some (.inr table_4))
noncomputable def qV (a:List ByteArray) (b:List ByteArray) (i:Int) (table_2:List (List Int)):Option ((Int×(List (List Int)))⊕((List (List Int)))):=
 (if (decide (i≥0)) then (zI (fun (s':Int×(List (List Int)))=>qT a b i s'.1 s'.2) ((wk .i64 ((b.length:Int) - 1)),table_2)).bind fun p_1=>impl_commonFrom_j3 i p_1
 else some (.inr table_2))
noncomputable def impl_commonFrom_j1 (a:List ByteArray) (b:List ByteArray) (table:List (List Int)):Option ((List (List Int))):=
 (zI (fun (s':Int×(List (List Int)))=>qV a b s'.1 s'.2) ((wk .i64 ((a.length:Int) - 1)),table)).bind fun p=>impl_commonFrom_j2 p
noncomputable def impl_commonFrom_l3 (b:List ByteArray) (x12:List (List Int)) (x15:Int) (table_5:List (List Int)):Option ((Int×(List (List Int)))⊕((List (List Int)))):=
 (if (decide (x15 < (x12.length:Int))) then ((mkl (wk .i64 ((b.length:Int)+1)) (wk .i64 ((b.length:Int)+1)) 0:Option (List Int))).bind fun x23=>(zF table_5 x15).bind fun x_11=>some (.inl ((wk .i64 (x15+1)),(table_5.set x15.toNat x23)))
 else some (.inr table_5))
noncomputable def impl_commonFrom (a:List ByteArray) (b:List ByteArray):Option (List (List Int)):=
 ((mkl (wk .i64 ((a.length:Int)+1)) (wk .i64 ((a.length:Int)+1)) []:Option (List (List Int)))).bind fun x12=>(zI (fun (s':Int×(List (List Int)))=>impl_commonFrom_l3 b x12 s'.1 s'.2) (0,x12)).bind fun p_2=>impl_commonFrom_j1 a b p_2
noncomputable def impl_align_j2 (out__1:List Int):Option ((List Int)):=
 some out__1
noncomputable def impl_align_l1 (a:List ByteArray) (b:List ByteArray) (x12:(List (List Int))) (i:Int) (j:Int) (out__2:List Int):Option ((Int×Int×(List Int))⊕((List Int))):=
 (if (decide (i < (a.length:Int))) then some (decide (j < (b.length:Int))) else some false).bind fun b_1=>(if b_1 then (zF a i).bind fun x=>(zF b j).bind fun x_1=>(if (x.toList == x_1.toList) then (zF out__2 j).bind fun x_2=>some (.inl ((wk .i64 (i+1)),(wk .i64 (j+1)),(out__2.set j.toNat i)))
 else (zF x12 (wk .i64 (i+1))).bind fun x_3=>(zF x_3 j).bind fun x_4=>(zF x12 i).bind fun x_5=>(zF x_5 (wk .i64 (j+1))).bind fun x_6=>(if (decide (x_4≥x_6)) then some (.inl ((wk .i64 (i+1)),j,out__2))
 else some (.inl (i,(wk .i64 (j+1)),out__2))))
 else some (.inr out__2))
noncomputable def impl_align_j1 (a:List ByteArray) (b:List ByteArray) (x12:(List (List Int))) (out_:List Int):Option ((List Int)):=
 (zI (fun (s':Int×Int×(List Int))=>impl_align_l1 a b x12 s'.1 s'.2.1 s'.2.2) (0,0,out_)).bind fun p=>impl_align_j2 p
noncomputable def impl_align_l2 (x15:List Int) (x18:Int) (out__3:List Int):Option ((Int×(List Int))⊕((List Int))):=
 (if (decide (x18 < (x15.length:Int))) then (zF out__3 x18).bind fun x_7=>some (.inl ((wk .i64 (x18+1)),(out__3.set x18.toNat (-1))))
 else some (.inr out__3))
noncomputable def impl_align (a:List ByteArray) (b:List ByteArray):Option (List Int):=
 (impl_commonFrom a b).bind fun x12=>((mkl (b.length:Int) (b.length:Int) 0:Option (List Int))).bind fun x15=>(zI (fun (s':Int×(List Int))=>impl_align_l2 x15 s'.1 s'.2) (0,x15)).bind fun p_1=>impl_align_j1 a b x12 p_1
noncomputable def slices_Index_int_int_j1:Option (Int):=
 some (-1)
noncomputable def slices_Index_int_int_l1 (s:List Int) (v:Int) (x8:Int):Option ((Int)⊕((Int)⊕(Unit))):=
 (if (decide (x8 < (s.length:Int))) then (zF s x8).bind fun x=>(if (v == x) then some (.inr (.inl x8))
 else some (.inl (wk .i64 (x8+1))))
 else some (.inr (.inr ())))
noncomputable def slices_Index_int_int (s:List Int) (v:Int):Option Int:=
 (zI (fun (s':Int)=>slices_Index_int_int_l1 s v s') (0)).bind fun p=>(match p with | .inl c'=>some c' | .inr q=>slices_Index_int_int_j1)
noncomputable def slices_Contains_int_int (s:List Int) (v:Int):Option Bool:=
 (slices_Index_int_int s v).bind fun x7=>some (decide (x7≥0))
noncomputable def impl_Weave_insert (w:T_impl_Weave) (at_:Int) (line:ByteArray) (v:Int):Option T_impl_Weave:=
 (ins1 w.Bodies at_ (T_impl_Body.mk line v 0 [])).bind fun l=>some (T_impl_Weave.mk w.Parents l)
noncomputable def impl_Weave_add_j2 (parents:List Int) (w_2:List (List Int)) (w_3:List T_impl_Body):Option (Bool×T_impl_Weave):=
 (qN parents).bind fun x117=>(appn w_2 [x117]).bind fun l=>some ((decide ((w_3.length:Int)≤300)),(T_impl_Weave.mk l w_3))
noncomputable def impl_Weave_add_l1 (w:T_impl_Weave) (lines:List ByteArray) (x35:(List Int)) (x40:(List Int)) (at_:Int) (born:Int) (x73:Int) (w_4:List (List Int)) (w_5:List T_impl_Body):Option ((Int×Int×Int×(List (List Int))×(List T_impl_Body))⊕((List (List Int))×(List T_impl_Body))):=
 (if (decide (x73 < (lines.length:Int))) then (zF lines x73).bind fun x=>(zF x40 x73).bind fun x_1=>(if (decide (x_1≥0)) then (zF x35 x_1).bind fun x_2=>some (.inl ((wk .i64 ((wk .i64 (x_2+born))+1)),born,(wk .i64 (x73+1)),w_4,w_5))
 else (impl_Weave_insert (T_impl_Weave.mk w_4 w_5) at_ x (w.Parents.length:Int)).bind fun x97=>(zF x97.Bodies at_).bind fun x_3=>some (.inl ((wk .i64 (at_+1)),(wk .i64 (born+1)),(wk .i64 (x73+1)),x97.Parents,(x97.Bodies.set at_.toNat (T_impl_Body.mk x_3.Line x_3.Ins born x_3.Dels)))))
 else some (.inr (w_4,w_5)))
noncomputable def impl_Weave_add_j1 (w:T_impl_Weave) (parents:List Int) (lines:List ByteArray) (x35:(List Int)) (x40:(List Int)) (w_1:List T_impl_Body):Option (Bool×T_impl_Weave):=
 (zI (fun (s':Int×Int×Int×(List (List Int))×(List T_impl_Body))=>impl_Weave_add_l1 w lines x35 x40 s'.1 s'.2.1 s'.2.2.1 s'.2.2.2.1 s'.2.2.2.2) (0,0,0,w.Parents,w_1)).bind fun p=>impl_Weave_add_j2 parents p.1 p.2
noncomputable def impl_Weave_add_l2 (w:T_impl_Weave) (x35:(List Int)) (x40:(List Int)) (x43:Int) (w_6:List T_impl_Body):Option ((Int×(List T_impl_Body))⊕((List T_impl_Body))):=
 (if (decide (x43 < (x35.length:Int))) then (zF x35 x43).bind fun x_4=>(slices_Contains_int_int x40 x43).bind fun x50=>(if (!x50) then (zF w_6 x_4).bind fun x_5=>(appn x_5.Dels [(w.Parents.length:Int)]).bind fun l_1=>some (.inl ((wk .i64 (x43+1)),(w_6.set x_4.toNat (T_impl_Body.mk x_5.Line x_5.Ins x_5.Ord l_1))))
 else some (.inl ((wk .i64 (x43+1)),w_6)))
 else some (.inr w_6))
noncomputable def impl_Weave_add (w:T_impl_Weave) (parents:List Int) (lines:List ByteArray):Option (Bool×T_impl_Weave):=
 (if (decide ((w.Parents.length:Int)≥40)) then some (false,(T_impl_Weave.mk w.Parents w.Bodies))
 else (impl_closures w.Parents).bind fun x32=>(impl_unionOf x32 parents).bind fun x34=>(qF (T_impl_Weave.mk w.Parents w.Bodies) x34).bind fun x35=>(qO (T_impl_Weave.mk w.Parents w.Bodies) x35).bind fun x38=>(impl_align x38 lines).bind fun x40=>(zI (fun (s':Int×(List T_impl_Body))=>impl_Weave_add_l2 w x35 x40 s'.1 s'.2) (0,w.Bodies)).bind fun p_1=>impl_Weave_add_j1 w parents lines x35 x40 p_1)
noncomputable def impl_AddVersion (w:T_impl_Weave) (parents:List Int) (lines:List ByteArray):Option (T_impl_Weave×Int×Int):=
 (impl_WeaveOk (T_impl_Weave.mk w.Parents w.Bodies)).bind fun x12=>(if (!x12) then some ((T_impl_Weave.mk [] []),0,1)
 else (impl_addCode (T_impl_Weave.mk w.Parents w.Bodies) parents lines).bind fun x18=>(if (x18 != 0) then some ((T_impl_Weave.mk [] []),0,x18)
 else (impl_copyWeave (T_impl_Weave.mk w.Parents w.Bodies)).bind fun x24=>(impl_Weave_add (T_impl_Weave.mk x24.Parents x24.Bodies) parents lines).bind fun x27=>(if (!x27.1) then some ((T_impl_Weave.mk [] []),0,4)
 else some ((T_impl_Weave.mk x27.2.Parents x27.2.Bodies),(w.Parents.length:Int),0))))
noncomputable def impl_versionsCode (w:T_impl_Weave) (list_:List Int):Option Int:=
 (impl_WeaveOk (T_impl_Weave.mk w.Parents w.Bodies)).bind fun x7=>(if (!x7) then some 1
 else (qP (T_impl_Weave.mk w.Parents w.Bodies) list_).bind fun x11=>(if (!x11) then some 2
 else some 0))
noncomputable def impl_Weave_extract (w:T_impl_Weave) (v:Int):Option (List ByteArray):=
 (impl_closures w.Parents).bind fun x11=>(zF x11 v).bind fun x=>(qF (T_impl_Weave.mk w.Parents w.Bodies) x).bind fun x15=>(qO (T_impl_Weave.mk w.Parents w.Bodies) x15).bind fun x16=>some x16
noncomputable def impl_Extract (w:T_impl_Weave) (v:Int):Option ((List ByteArray)×Int):=
 (impl_versionsCode (T_impl_Weave.mk w.Parents w.Bodies) [v]).bind fun x10=>(if (x10 != 0) then some ([],x10)
 else (impl_Weave_extract (T_impl_Weave.mk w.Parents w.Bodies) v).bind fun x15=>some (x15,0))
noncomputable def laws_FnBlends_j2 (x19:T_impl_Weave×Int×Int) (a:Int) (b:Int) (list_:List Int):Option (Bool):=
 (impl_Blend (T_impl_Weave.mk x19.1.Parents x19.1.Bodies) list_).bind fun x39=>(impl_SeenBy (T_impl_Weave.mk x19.1.Parents x19.1.Bodies) [b,a]).bind fun x46=>(if (x39.2 == 3) then some (decide ((x46.length:Int) > 80))
 else (if (x39.2 != 0) then some true else (laws_sameTexts x39.1 x46).bind fun x57=>some (!x57)).bind fun b_1=>(if b_1 then some false
 else (impl_AddVersion (T_impl_Weave.mk x19.1.Parents x19.1.Bodies) list_ x39.1).bind fun x64=>(if (x64.2.2 == 4) then some true
 else (impl_Extract (T_impl_Weave.mk x64.1.Parents x64.1.Bodies) x64.2.1).bind fun x73=>(if (x64.2.2 == 0) then some (x73.2 == 0) else some false).bind fun b_2=>(if b_2 then (laws_sameTexts x73.1 x39.1).bind fun x85=>some x85 else some false).bind fun b_3=>(if b_3 then some ((x64.1.Bodies.length:Int) == (x19.1.Bodies.length:Int)) else some false).bind fun b_4=>some b_4)))
noncomputable def laws_FnBlends_j1 (x19:T_impl_Weave×Int×Int) (a:Int) (b:Int):Option (Bool):=
 (if (a == b) then laws_FnBlends_j2 x19 a b [a]
 else laws_FnBlends_j2 x19 a b [a,b])
noncomputable def laws_FnBlends (code:List Int):Option Bool:=
 (laws_big code).bind fun x16=>(if x16 then some true
 else (spec_DrawPair code).bind fun x19=>(if (decide (x19.2.1 > x19.2.2)) then laws_FnBlends_j1 x19 x19.2.2 x19.2.1
 else laws_FnBlends_j1 x19 x19.2.1 x19.2.2))
end Go.TV.F
