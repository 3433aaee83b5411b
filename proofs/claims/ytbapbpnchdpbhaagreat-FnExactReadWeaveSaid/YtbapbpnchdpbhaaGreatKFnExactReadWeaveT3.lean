/- Memory told as trees, part 4. -/
import Derived.Test.YtbapbpnchdpbhaaGreatKFnExactReadWeaveT2
import Derived.WalkKit
import Derived.ProofKit
import Derived.Lib.UnsafeStr
import Derived.Lib.Walk
import Derived.Shelf.RegionOpenPlain
import Derived.Lib.IndexMore
import Derived.Lib.LaidTab
import Derived.Lib.ItoaNum
import Derived.Sort.Grow
import Derived.Deep.Draws
import Derived.Laws.StructEq
import Derived.Test.YtbapbpnchdpbhaaGreatKFnExactReadWeaveT1
set_option linter.unusedVariables false
set_option linter.unusedSimpArgs false
set_option maxHeartbeats 8000000
set_option maxRecDepth 100000
namespace Go.TV
theorem ownsRow_base {w:World} {B B':Nat} {e:TypeId} {n k:Nat} {v:Value} {xs:List Value} (h:w.ownsRow B e k v n xs) (hB:B'≤B):w.ownsRow B' e k v n xs:=by
 refine ⟨h.1,?_⟩
 rcases h.2 with h | ⟨g,cap,cur,h1,h2,h3⟩
 ·exact .inl h
 ·exact .inr ⟨g,cap,cur,h1,Nat.le_trans hB h2,h3⟩
theorem append_bld {P:Program} (w:World) (t u ty e:TypeId) (i:TypeInfo) (ht:P.underlying t=some (.slice e)) (hu:P.underlying u=some .string) (hi:P.info? e=some i) (hz:i.zero=some (.int .u8 0)) (hsize:i.size=1) (hby:i.bytes=1)
  (v:Value) (n:Nat) (xs:List Value) (hown:w.ownsRow 0 e 1 v n xs) (s:ByteArray) (hb:n+s.size≤549755813888) :
  ∃ v' w',(Builtin.append_ #[t,u] ty #[v,.string s]).run P w=.ok v' w'∧w'.ownsRow 0 e 1 v' (n+s.size) (xs++Go.Lib.strCells s)∧w.grownBy w' v.ownBlock∧(∀ g,v'.ownBlock=some g→v.ownBlock=some g∨w.heap.size≤g)∧(v=.slice none 0 0→s.size=0→v'=.slice none 0 0):=by
 have h63:n+s.size≤maxLen:=by unfold maxLen; omega
 rcases hown.2 with ⟨rfl,rfl⟩ | ⟨g,cap,cur,rfl,hbg,hg,hnc,hcm,hcs,htake⟩
 ·obtain ⟨v',w',h1,h2,h3,h4⟩:=Go.Lib.run_append_own_string (P:=P) w w.heap.size t u ty e i ht hu hi hz hsize hby (.slice none 0 0) 0 xs ⟨hown.1,.inl ⟨rfl,rfl⟩⟩ s h63 (by omega) (Nat.le_refl _)
  exact ⟨v',w',h1,ownsRow_base h2 (Nat.zero_le _),h3,fun g hg=>.inr (h2.lt g hg).1,fun a b=>h4.2 ⟨a,b⟩⟩
 ·obtain ⟨v',w',h1,h2,h3,h4⟩:=Go.Lib.run_append_own_string (P:=P) w 0 t u ty e i ht hu hi hz hsize hby _ n xs hown s h63 (by omega) (Nat.zero_le _)
  refine ⟨v',w',h1,h2,h3,fun g' hg'=>?_,fun a b=>h4.2 ⟨a,b⟩⟩
  have hxl:xs.length=n:=by simpa using hown.1
  by_cases hroom:n+s.size≤cap
  ·have hcs':cur.size=cap:=by simpa using hcs
   have hr:=Go.Lib.run_append_room_string (P:=P) w t u ty e i ht hu hi hsize g n cap cur hg s hroom (by omega)
   rw [hr] at h1
   injection h1 with h1 _
   subst h1
   exact .inl hg'
  ·have holds:∀ j u,xs[j]? = some u→w.cell? ((⟨g,0,none⟩:Addr).add j)=some u:=hown.cells (g:=g) rfl
   have hr:=Go.Lib.run_append_grow_string (P:=P) w t u ty e i (.int .u8 0) ht hu hi hz ⟨g,0,none⟩ n cap xs (by rw [hsize]; simpa using hxl) holds s (by omega) (by omega) (by rw [hby]; exact growslice_fits (by omega) (by omega))
   rw [hr] at h1
   injection h1 with h1 _
   subst h1
   simp only [Value.ownBlock,Option.some.injEq] at hg'
   exact .inr (by omega)
def Held (p:Prop):Prop:=p
theorem wpList_app2 {P:Program} {ops:Array Oper} {rest:List Oper} {o:Oper} {a:Act} {w w':World} {v v' xv:Value} {Q:Exit→Act→World→Prop} (hgd:o.guard=none) (sl x:Operand) (t u:TypeId)
  (ho:o.op=.call {callee:=.builtin .append,args:=#[sl,x],argTypes:=#[t,u]}) (hs:a.eval sl=v) (hx:a.eval x=xv) (hr:(Builtin.append_ #[t,u] o.type #[v,xv]).run P w=.ok v' w')
  (h:∀ v'' w'',Held (v''=v'∧w''=w')→wpList P ops Q rest (a.put o.dst v'') w''):wpList P ops Q (o :: rest) a w:=by
 refine wpList_plain hgd fun K hK=>?_
 unfold Oper.wp execOp
 simp only [ho,resolve,invoke,builtin,Sem.run_bind,Sem.run_pure,Result.andThen_ok,List.map_toArray,List.map_cons,List.map_nil,hs,hx,hr]
 exact hK _ _ (h _ _ ⟨rfl,rfl⟩)
theorem strCells_app (s x:ByteArray):Go.Lib.strCells (s++x)=Go.Lib.strCells s++Go.Lib.strCells x:=by
 unfold Go.Lib.strCells
 rw [ByteArray.data_append]
 simp
theorem frm_of {w w':World} {S:CS} (h1:w'.os=w.os) (h2:w'.tape=w.tape) (h3:w'.output=w.output) (h4:w.heap.size≤w'.heap.size) (h5:∀ k,k < w.heap.size→(∃ o,¬S k o)→w'.heap[k]? = w.heap[k]?):Frm w w' S where
 os:=h1
 tape:=h2
 output:=h3
 size:=h4
 blk:=fun k hk hn=>h5 k hk ⟨0,hn 0⟩
 cel:=fun b o hb hn=>by
  have h:=h5 b hb ⟨o,hn⟩
  exact ⟨World.cell?_of_block (w:=w) (a:=ad b o) h,World.frozen?_of_block (w:=w) (a:=ad b o) h,by unfold zY4; rw [h]⟩
theorem Fn_bldWrite {X : Cfg} {f t e : Nat} {s x : ByteArray} (hex : ∃ fn, X.P.funcs[f]? = some fn ∧ fn.body.isSome = true ∧ (fn.name == "runtime.NumGoroutine") = false)
  (hc:∀ (b:Nat) (p v:Value) (w:World),w.heap[b]? = some (.cells #[p,v] t (0,0))→(p=.pointer none∨p=.pointer (some ⟨b,0,none⟩))→w.ownsRow 0 e 1 v s.size (Go.Lib.strCells s)→v.ownBlock≠some b →
   Calls X.P f #[.pointer (some ⟨b,0,none⟩),.string x] w fun en w'=>en=.returned (.tuple #[.int .i64 x.size,.nilIface])∧∃ v',w'.heap[b]? = some (.cells #[.pointer (some ⟨b,0,none⟩),v'] t (0,0))∧w'.ownsRow 0 e 1 v' (s.size+x.size) (Go.Lib.strCells s++Go.Lib.strCells x)∧v'.ownBlock≠some b ∧
    w'.os=w.os∧w'.tape=w.tape∧w'.output=w.output∧w.heap.size≤w'.heap.size∧(∀ k,k < w.heap.size→k≠b→v.ownBlock≠some k→w'.heap[k]? = w.heap[k]?)∧(∀ g,v'.ownBlock=some g→v.ownBlock=some g∨w.heap.size≤g)∧(v=.slice none 0 0→x.size=0→v'=.slice none 0 0)) :
  Fn X f [.one (.bld t e s),.one (.sc (.string x))] [.one (.sc (.int .i64 (x.size:Int))),.one (.sc .nilIface)] [(0,.bld t e (s++x))]:=by
 refine ⟨hex,fun w D S us fl ha hr hj hD _=>?_⟩
 obtain ⟨u0,us1,fl1,rfl,rfl,u1,us2,fl2,rfl,rfl,rfl,rfl⟩:=ha
 obtain ⟨y0,S0,S1,hy0,hb,⟨y1,S2,S3,hy1,hx,hS3,hd1,rfl⟩,hd0,rfl⟩:=hr
 simp only [List.getElem?_cons_zero,Option.some.injEq] at hy0
 simp only [Nat.zero_add,List.getElem?_cons_succ,List.getElem?_cons_zero,Option.some.injEq] at hy1
 subst hy0 hy1
 obtain ⟨rfl,_,rfl⟩:=hx
 obtain rfl:S3=emp:=hS3
 obtain ⟨b,p,v,rfl,h2,h3,h4,h5,h9,rfl⟩:=hb
 refine (hc b p v w h2 h3 h4 h5).mono ?_
 rintro en w' ⟨rfl,v',g1,g2,g3,o1,o2,o3,o4,o5,o6,o7⟩
 have hbl:b < w.heap.size:=heap_lt h2
 have hsub:∀ y o,(y=b∨v'.ownBlock=some y)→(cup (fun x (_:Nat)=>x=b∨v.ownBlock=some x) (cup emp emp)) y o∨w.heap.size≤y:=by
  rintro y o (rfl | h)
  ·exact .inl (.inl (.inl rfl))
  ·rcases o6 y h with h | h
   ·exact .inl (.inl (.inr h))
   ·exact .inr h
 refine ⟨_,[.int .i64 x.size,.nilIface],D,emp,fun y _=>y=b∨v'.ownBlock=some y,rfl,⟨_,rfl,_,_,_,rfl,rfl,_,_,_,rfl,rfl,rfl,rfl⟩,?_,?_,zW _,?_,?_,?_,zD D,fun _ _ h=>.inl h,fun y o h=>Nat.lt_of_lt_of_le (hD y o h) o4⟩
 ·exact ⟨_,emp,emp,rfl,⟨rfl,rfl,rfl⟩,⟨_,emp,emp,rfl,⟨rfl,rfl,rfl⟩,rfl,zW _,(zV emp).symm⟩,zW _,(zV emp).symm⟩
 ·refine ⟨_,emp,rfl,⟨b,_,v',rfl,g1,.inr rfl,?_,g3,fun hz=>?_,rfl⟩,rfl,qR _,(zV _).symm⟩
  ·rw [ByteArray.size_append,strCells_app]
   exact g2
  ·rw [ByteArray.size_append] at hz
   exact o7 (h9 (by omega)) (by omega)
 ·rw [jE]
  intro y o q1 q2
  rcases hsub y o q1 with h | h
  ·exact hj y o h q2
  ·have:=hD y o q2
   omega
 ·refine frm_of o1 o2 o3 o4 (fun k hk ⟨o,hn⟩=>o5 k hk (fun q=>hn (.inl (.inl q))) (fun q=>hn (.inl (.inr q))))
 ·intro y o q
  rw [jE] at q
  exact hsub y o q
theorem Fn_bldString {X : Cfg} {f t e : Nat} {s : ByteArray} (hex : ∃ fn, X.P.funcs[f]? = some fn ∧ fn.body.isSome = true ∧ (fn.name == "runtime.NumGoroutine") = false)
  (hc:∀ (b:Nat) (p v:Value) (w:World),w.heap[b]? = some (.cells #[p,v] t (0,0))→w.ownsRow 0 e 1 v s.size (Go.Lib.strCells s)→v.ownBlock≠some b→(s.size=0→v=.slice none 0 0) →
   Calls X.P f #[.pointer (some ⟨b,0,none⟩)] w fun en w'=>en=.returned (.string s)∧w'.os=w.os∧w'.tape=w.tape∧w'.output=w.output∧w.heap.size≤w'.heap.size∧(∀ k,k < w.heap.size→k≠b→v.ownBlock≠some k→w'.heap[k]? = w.heap[k]?)) :
  Fn X f [.one (.bld t e s)] [.one (.sc (.string s))] []:=by
 refine ⟨hex,fun w D S us fl ha hr hj hD _=>?_⟩
 obtain ⟨u0,us1,fl1,rfl,rfl,rfl,rfl⟩:=ha
 obtain ⟨y0,S0,S1,hy0,hb,hS1,hd0,rfl⟩:=hr
 simp only [List.getElem?_cons_zero,Option.some.injEq] at hy0
 subst hy0
 obtain rfl:S1=emp:=hS1
 obtain ⟨b,p,v,rfl,h2,h3,h4,h5,h9,rfl⟩:=hb
 refine (hc b p v w h2 h4 h5 h9).mono ?_
 rintro en w' ⟨rfl,o1,o2,o3,o4,o5⟩
 refine ⟨_,[.string s],D,emp,emp,rfl,⟨_,_,_,rfl,rfl,rfl,rfl⟩,?_,rfl,zW _,?_,?_,?_,zD D,fun _ _ h=>.inl h,fun y o h=>Nat.lt_of_lt_of_le (hD y o h) o4⟩
 ·exact ⟨_,emp,emp,rfl,⟨rfl,rfl,rfl⟩,rfl,zW _,(zV emp).symm⟩
 ·rw [jE]
  exact zW _
 ·refine frm_of o1 o2 o3 o4 (fun k hk ⟨o,hn⟩=>o5 k hk (fun q=>hn (.inl (.inl q))) (fun q=>hn (.inl (.inr q))))
 ·intro y o q
  rw [jE] at q
  exact q.elim
def evBldN (T:Nat→Option TyI) (el:Nat) (o:Oper) (t:Nat) (e:Env):Option Env:=
 (T t).bind fun d=>match d.z with
  | [.sc (.pointer none),.list true 1 []]=>if d.size=2 then ({e with nx:=e.nx+1,ob:=(e.nx,.bld t el (ByteArray.mk #[])) :: e.ob}:Env).putO o.dst (.pl (.one (.ref e.nx []))) else none
  | _=>none
section
variable {gG:GG} {c:Ctx gG} {e e':Env} {a:Act} {w:World} {D:CS} {hs:Nat→Value} {S:CS} {X:Cfg} {o:Oper}
theorem evBldN_ok (h:StD c e a w D hs S) {t el:Nat} (ho:o.op=.alloc t) (he:evBldN X.T el o t e=some e'):Did X.P c o a w e':=by
 obtain ⟨d,h1,h2⟩:=zbi he
 have hd:=X.hT _ _ h1
 obtain ⟨z,hz1,hz2⟩:=hd.zero (w:=w)
 split at h2
 case h_2=>cases h2
 rename_i hdz
 split at h2
 case isFalse=>cases h2
 have hz3:(d.z.map zv).toArray = #[.pointer none,.slice none 0 0]:=by rw [hdz]; rfl
 rw [hz3] at hz2
 have hf:=zU1 w (.cells #[.pointer none,.slice none 0 0] t)
 have hw:=h.world hf
 have hrep:Rep (w.alloc (.cells #[.pointer none,.slice none 0 0] t)) D (.bld t el (ByteArray.mk #[])) (.pointer (some (ad w.heap.size 0))) (fun x _=>x=w.heap.size∨(Value.slice none 0 0).ownBlock=some x):=
  ⟨w.heap.size,.pointer none,.slice none 0 0,rfl,heap_alloc_new w _,.inl rfl,World.ownsRow_nil _ 0 el 1,by simp [Value.ownBlock],fun _=>rfl,rfl⟩
 have hS:∀ x y:Nat,(x=w.heap.size∨(Value.slice none 0 0).ownBlock=some x)→x=w.heap.size:=fun x y q=>q.elim id (fun q=>by simp [Value.ownBlock] at q)
 have g:=hw.obj hrep (fun x y q1 q2=>by have:=hS x y q1; have:=h.ob.blt x y q2; omega) (fun x y q1 q2=>by have:=hS x y q1; have:=h.Dl x y q2; omega) (fun x y q=>by have:=hS x y q; have:=h.fr.size; exact .inr (by omega))
 refine ⟨.pointer (some (ad w.heap.size 0)),_,.inl ?_,D,_,_,g.putO h2 (qE6 (by simp) rfl)⟩
 simp [execOp,ho,Instr.alloc,hz1,newVar,newRow,newObj,Sem.run,hz2,ad]
end
theorem opsV_bldN {X:Cfg} {Post:Exit→Env→Prop} {e e':Env} {ops:Array Oper} {o:Oper} {l:List Oper} {t:Nat} {p:Prop} (hH:p) (el:Nat) (h:opsV X ops l Post e') (hg:o.guard=none:=by rfl) (ho:o.op=.alloc t:=by rfl)
  (he:p→evBldN X.T el o t e=some e':=by
   intro hH
   simp only [hH,evBldN,xD,jB,xV,wF,zA7,qP,Env.sure,wH,zX,xU,Env.int,Env.node,zY,jM,jK,Env.bound,Env.cut,jS,V.alive,Env.takes,xM,Ag.cells,uG,Env.newListO,vO,over,Env.solid,Env.solidG,Env.parts,Ty.places,xN,Env.rowsOf,kR,qC,Env.rows,yM,wG,qD,V.isSc,C.killN,Ag.map,Sl.map,qG,Env.place,Env.lay,jZ,C.killA,kM,jO,kO,jX,Env.src,Env.newAt,jI,Env.take,V.get,V.set,V.rowAt,V.setRow,Option.getD_some,List.set_cons_zero,List.set_cons_succ,qH,List.set_set,vP,cellsOf,Env.behind,Env.val,Env.sc,Env.cl,lk,zU,zR,qN,qJ,plain,Env.putO,Env.put,kU,uX,unV,rK,rB,rS,rL,kN,wR,wQ,yB,wZ,wP,wV,uT,yD,jH,wL,wW,wN,wM,wU,wJ,yA,wK,wY,wS,yC,wX,wI,wO,wT,qK,jG,
      ↓reduceIte,eq_self,Option.isSome_some,Option.isSome_none,Option.bind_some,Option.bind_none,Option.map_some,Option.map_none,Bool.false_eq_true,Nat.reduceLT,Nat.reduceLeDiff,Nat.reduceEqDiff,Nat.reduceAdd,Nat.reduceMul,Nat.reduceSub,Int.reduceLT,Int.reduceEq,Int.reduceNeg,List.length_map,List.length_cons,List.length_nil,List.length_append,List.getElem?_map,List.map_cons,List.map_nil,true_or,or_true,or_false,false_or,and_true,true_and,and_self,not_true,not_false_eq_true,reduceCtorEq,List.all_cons,List.all_nil,Bool.and_true,Bool.true_and,ne_eq,List.drop_zero,List.nil_append,List.append_nil,List.singleton_append,List.cons_append,List.flatMap_cons,List.flatMap_nil,List.flatten_cons,List.flatten_nil,List.mapM_cons,List.mapM_nil,Option.pure_def,Option.bind_eq_bind,List.take_zero,List.take_succ_cons,List.drop_succ_cons,List.getElem?_cons_zero,List.getElem?_cons_succ,List.set_cons_zero,List.set_cons_succ,List.headD_cons,List.take_nil,List.drop_nil,Nat.sub_zero,Nat.add_zero,Nat.zero_add,Nat.zero_le,Nat.le_refl,← List.map_append,← List.map_take,← List.map_drop] <;> rfl):opsV X ops (o :: l) Post e:=qF5 hg (fun _ _ _ ⟨D,hs,S,hd⟩=>evBldN_ok hd ho (he hH)) h
end Go.TV
namespace Go.TV
def Cfg.ofG (P:Program) (h:P.follows .mixedOrders=true) (l:List (Nat×(Obj→Prop))):Cfg:={Cfg.of P h with G:=fun b=>(l.find? fun x=>x.1 == b).map fun x=>x.2}
theorem Cfg.ofG_mem {l:List (Nat×(Obj→Prop))} {b:Nat} {φ:Obj→Prop} (h:((l.find? fun x=>x.1 == b).map fun x=>x.2)=some φ):(b,φ) ∈ l:=by
 cases q:l.find? fun x=>x.1 == b with
 | none=>rw [q] at h; cases h
 | some x =>
  rw [q] at h
  injection h with h
  have h1:=List.mem_of_find?_eq_some q
  have h2:=List.find?_some q
  have h2:x.1=b:=by simpa using h2
  subst h2 h
  exact h1
def isNum (x:Obj):Prop:=∃ cs e k m,x=.cells cs e k∧cs[0]? = some (.int .i64 m)
theorem isNum_cell {w:World} {b:Nat} {x:Obj} (h:w.heap[b]? = some x) (hx:isNum x):∃ m,w.cell? (ad b 0)=some (.int .i64 m):=by
 obtain ⟨cs,e,k,m,rfl,h1⟩:=hx
 refine ⟨m,?_⟩
 unfold World.cell? ad
 simp only [h]
 exact h1
theorem cell_isNum {w:World} {b:Nat} {m:Int} (h:w.cell? (ad b 0)=some (.int .i64 m)):∃ x,w.heap[b]? = some x∧isNum x:=by
 unfold World.cell? ad at h
 simp only at h
 split at h
 ·rename_i cs e k hq
  exact ⟨_,hq,cs,e,k,m,rfl,by simpa using h⟩
 ·cases h
theorem Fn_pureB {X : Cfg} {f : Nat} {s x : ByteArray} {b : Bool} (hex : ∃ fn, X.P.funcs[f]? = some fn ∧ fn.body.isSome = true ∧ (fn.name == "runtime.NumGoroutine") = false)
  (hc:∀ w:World,(∀ g φ,X.G g=some φ→∃ x,w.heap[g]? = some x∧φ x)→Calls X.P f #[.string s,.string x] w fun e w'=>e=.returned (.bool b)∧w'=w) :
  Fn X f [.one (.sc (.string s)),.one (.sc (.string x))] [.one (.sc (.bool b))] []:=by
 refine ⟨hex,fun w D S us fl ha hr hj hD hg=>?_⟩
 obtain ⟨u0,us1,fl1,rfl,rfl,u1,us2,fl2,rfl,rfl,rfl,rfl⟩:=ha
 obtain ⟨y0,S0,S1,hy0,hx0,⟨y1,S2,S3,hy1,hx1,hS3,hd1,rfl⟩,hd0,rfl⟩:=hr
 simp only [List.getElem?_cons_zero,Option.some.injEq] at hy0
 simp only [Nat.zero_add,List.getElem?_cons_succ,List.getElem?_cons_zero,Option.some.injEq] at hy1
 subst hy0 hy1
 obtain ⟨rfl,_,rfl⟩:=hx0
 obtain ⟨rfl,_,rfl⟩:=hx1
 obtain rfl:S3=emp:=hS3
 refine (hc w (fun g φ q=>(hg g φ q).2.2.2)).mono ?_
 rintro en w' ⟨rfl,rfl⟩
 refine ⟨_,[.bool b],D,emp,emp,rfl,⟨_,_,_,rfl,rfl,rfl,rfl⟩,⟨_,emp,emp,rfl,⟨rfl,rfl,rfl⟩,rfl,zW _,(zV emp).symm⟩,rfl,zW _,?_,Frm.refl _ _,?_,zD D,fun _ _ h=>.inl h,hD⟩
 ·rw [jE]
  exact zW _
 ·intro y o q
  rw [jE] at q
  exact q.elim
theorem same_of_heap {w w':World} {b:Nat} (h:w'.heap[b]? = w.heap[b]?) (o:Nat):same w w' b o:=by
 constructor
 ·simp only [World.cell?,ad,h]
 ·simp only [h,World.frozen?,ad]
 ·simp only [zY4,h]
end Go.TV
namespace Go.TV
def eqV:Kd→Value→Value→Option Bool
 | .bool,.bool a,.bool b=>some (a == b)
 | .int _,.int k a,.int k2 b=>if k=k2 then some (a == b) else none
 | .string,.string a,.string b=>some (a.toList == b.toList)
 | _,_,_=>none
def scOf:C→Option Value
 | .v (.sc v)=>some v
 | _=>none
def eq1 (T:Nat→Option TyI) (cs ds:List C) (f:Nat×Nat):Option Bool:=
 (T f.2).bind fun d=>(cs[f.1]?).bind fun c=>(scOf c).bind fun u=>(ds[f.1]?).bind fun c2=>(scOf c2).bind fun v=>eqV d.kd u v
def eqF (T:Nat→Option TyI) (cs ds:List C):List (Nat×Nat)→Option Bool
 | []=>some true
 | [f]=>eq1 T cs ds f
 | f :: g :: fs=>(eq1 T cs ds f).bind fun b=>(eqF T cs ds (g :: fs)).bind fun r=>some (b && r)
def Env.ag (e:Env) (x:Operand):Option (List C):=
 match e.val x with
 | some (.pl (.agg l))=>some l
 | _=>none
def evCmp (T:Nat→Option TyI) (o:Oper) (op:BinOp) (t:Nat) (x y:Operand) (e:Env):Option Env:=
 (T t).bind fun d=>match d.kd with
  | .struct fs=>(e.ag x).bind fun cs=>(e.ag y).bind fun ds=>(eqF T cs ds fs).bind fun b=>match op with
   | .eql=>e.putO o.dst (.pl (.one (.v (.sc (.bool b)))))
   | .neq=>e.putO o.dst (.pl (.one (.v (.sc (.bool (!b))))))
   | _=>none
  | _=>none
def cmpOk (P : Program) (t : Nat) : Bool := !P.eqGuardType P.depth t && !P.stoodInHeld t && (P.fieldsOf t).toList.all fun f => f.name != "_"
section
variable {gG:GG} {c:Ctx gG} {e e':Env} {a:Act} {w:World} {D:CS} {hs:Nat→Value} {S:CS} {X:Cfg} {o:Oper}
theorem eqV_run {P:Program} {t:Nat} {d:TyI} (ht:TyOk P t d) {u v:Value} {b:Bool} (h:eqV d.kd u v=some b) (n:Nat) (w:World):(Op.equalIn (n+1) t u v).run P w=.ok b w∧(isAgg t).run P w=.ok false w:=by
 have ha:=qE1 (w:=w) ht
 unfold eqV at h
 split at h
 ·rename_i hk
  injection h with h
  rw [hk] at ha
  exact ⟨h ▸ run_equalIn_bool' w n t _ _ (qN3 ht hk),ha⟩
 ·rename_i hk
  split at h
  ·rename_i q
   subst q
   injection h with h
   rw [hk] at ha
   exact ⟨h ▸ run_equalIn_int w n t _ _ _ _ (zF1 ht hk),ha⟩
  ·cases h
 ·rename_i hk
  injection h with h
  rw [hk] at ha
  exact ⟨h ▸ run_equalIn_string w n t _ _ (qZ ht hk),ha⟩
 ·cases h
theorem scOf_rep {nx:Nat} {ob:List (Nat×V)} {k:C} {u v:Value} (h:scOf k=some v) (hr:CRep w D hs nx ob k u):u=v:=by
 unfold scOf at h
 split at h
 ·injection h with h
  subst h
  exact hr.1
 ·cases h
theorem eq1_run {nx:Nat} {ob:List (Nat×V)} {cs ds:List C} {us vs:List Value} (hc:CsRep w D hs nx ob cs us) (hd:CsRep w D hs nx ob ds vs) {f:Field} {b:Bool} (h:eq1 X.T cs ds (f.offset,f.type)=some b) (n:Nat) (w:World) :
  ∃ u v,(part f.type us.toArray f.offset).run X.P w=.ok u w∧(part f.type vs.toArray f.offset).run X.P w=.ok v w∧(Op.equalIn (n+1) f.type u v).run X.P w=.ok b w:=by
 obtain ⟨d,h1,h⟩:=zbi h
 obtain ⟨k1,h2,h⟩:=zbi h
 obtain ⟨u,h3,h⟩:=zbi h
 obtain ⟨k2,h4,h⟩:=zbi h
 obtain ⟨v,h5,h⟩:=zbi h
 obtain ⟨u',g1,g2⟩:=CsRep.get _ _ _ _ hc h2
 obtain ⟨v',g3,g4⟩:=CsRep.get _ _ _ _ hd h4
 obtain rfl:=scOf_rep h3 g2
 obtain rfl:=scOf_rep h5 g4
 obtain ⟨k1,k2⟩:=eqV_run (X.hT _ _ h1) h n w
 have g1:us[f.offset]? = some u':=g1
 have g3:vs[f.offset]? = some v':=g3
 refine ⟨u',v',?_,?_,k1⟩ <;> simp [part,k2,g1,g3]
theorem eqF_run {nx : Nat} {ob : List (Nat × V)} {cs ds : List C} {us vs : List Value} (hc : CsRep w D hs nx ob cs us) (hd : CsRep w D hs nx ob ds vs) (n : Nat) (w2 : World) : ∀ (fs : List Field) (b : Bool), (∀ f ∈ fs, f.name ≠ "_") → eqF X.T cs ds (fs.map fun f => (f.offset, f.type)) = some b → (Op.eqFields (n + 1) us.toArray vs.toArray fs).run X.P w2 = .ok b w2
 | [],b,_,h=>by
  injection h with h
  subst h
  rfl
 | [f],b,hn,h=>by
  obtain ⟨u,v,h1,h2,h3⟩:=eq1_run hc hd h n w2
  simp only [Op.eqFields,hn f (by simp),ne_eq,not_false_eq_true,if_true,Sem.run_bind,h1,h2,h3,Result.andThen_ok]
  cases b <;> rfl
 | f :: g :: fs,b,hn,h=>by
  obtain ⟨b1,h0,h⟩:=zbi h
  obtain ⟨r,h4,h⟩:=zbi h
  injection h with h
  subst h
  obtain ⟨u,v,h1,h2,h3⟩:=eq1_run hc hd h0 n w2
  have ih:=eqF_run hc hd n w2 (g :: fs) r (fun x hx=>hn x (List.mem_cons_of_mem _ hx)) h4
  rw [Op.eqFields,if_pos (hn f (by simp))]
  simp only [Sem.run_bind,h1,h2,h3,Result.andThen_ok]
  cases b1
  ·rfl
  ·simp only [Bool.not_true,Bool.false_eq_true,if_false,Bool.true_and]
   exact ih
theorem Env.ag_rep (h:StD c e a w D hs S) {x:Operand} {l:List C} (hx:e.ag x=some l):∃ us:List Value,a.eval x=.agg us.toArray∧CsRep w D hs e.nx e.ob l us:=by
 unfold Env.ag at hx
 split at hx
 ·rename_i l' hv
  injection hx with hx
  subst hx
  exact h.val hv
 ·cases hx
theorem evCmp_pure (h:StD c e a w D hs S) {op:BinOp} {t t':Nat} {x y:Operand} (ho:o.op=.binOp op t x y t') (hp:cmpOk X.P t=true) (he:evCmp X.T o op t x y e=some e'):DidP X.P e o a w D hs e':=by
 obtain ⟨d,h1,h2⟩:=zbi he
 split at h2
 case h_2=>cases h2
 rename_i fs hk
 obtain ⟨cs,h3,h4⟩:=zbi h2
 obtain ⟨ds,h5,h6⟩:=zbi h4
 obtain ⟨b,h7,h8⟩:=zbi h6
 obtain ⟨us,g1,g2⟩:=Env.ag_rep h h3
 obtain ⟨vs,g3,g4⟩:=Env.ag_rep h h5
 obtain ⟨fl,g5,rfl⟩:=zF6 (X.hT _ _ h1) hk
 unfold cmpOk at hp
 simp only [Bool.and_eq_true,Bool.not_eq_true',List.all_eq_true,bne_iff_ne] at hp
 obtain ⟨⟨p1,p2⟩,p3⟩:=hp
 have hf:X.P.fieldsOf t=fl:=by unfold Program.fieldsOf; rw [g5]
 rw [hf] at p3
 have g5':X.P.underlying t=some (.struct (X.P.fieldsOf t)):=by rw [hf]; exact g5
 have hr:∀ w2,(Op.equalIn 10000 t (.agg us.toArray) (.agg vs.toArray)).run X.P w2=.ok b w2:=fun w2=>by
  rw [show (10000:Nat)=9999+1 from rfl,run_equalIn_agg w2 9999 t _ _ g5' p2,hf]
  exact eqF_run g2 g4 9998 w2 fl.toList b p3 h7
 have he2:execOp a.eval o=(do pure (.value (← (do eqGuard op t x y (a.eval x) (a.eval y); binOp op t (a.eval x) (a.eval y):Sem Value)))):=by simp only [execOp,ho]
 have hg:∀ w2,(eqGuard op t x y (.agg us.toArray) (.agg vs.toArray)).run X.P w2=.ok () w2:=fun w2=>run_eqGuard_agg w2 op t x y _ _ p1
 cases op <;> first | (cases h8; done) | skip
 ·refine h.didP (fun w2=>?_) h8 (xT rfl)
  rw [he2,g1,g3]
  simp only [Sem.run_bind,hg,Result.andThen_ok,run_eql_struct,hr]
  rfl
 ·refine h.didP (fun w2=>?_) h8 (xT rfl)
  rw [he2,g1,g3]
  simp only [Sem.run_bind,hg,Result.andThen_ok,run_neq_struct,hr]
  rfl
end
theorem quV_cmp {X:Cfg} {Post:Exit→Env→Prop} {e e':Env} {ops:Array Oper} {o:Oper} {l:List Oper} {op:BinOp} {t t':Nat} {x y:Operand} {p:Prop} (hH:p) (hp:cmpOk X.P t=true) (h:quV X ops l Post e') (hg:o.guard=none:=by rfl) (ho:o.op=.binOp op t x y t':=by rfl)
  (he:p→evCmp X.T o op t x y e=some e':=by
   intro hH
   simp only [hH,evCmp,Env.ag,eqF,eq1,eqV,scOf,xD,jB,xV,wF,zA7,qP,Env.sure,wH,zX,xU,Env.int,Env.node,zY,jM,jK,Env.bound,Env.cut,jS,V.alive,Env.takes,xM,Ag.cells,uG,Env.newListO,vO,over,Env.solid,Env.solidG,Env.parts,Ty.places,xN,Env.rowsOf,kR,qC,Env.rows,yM,wG,qD,V.isSc,C.killN,Ag.map,Sl.map,qG,Env.place,Env.lay,jZ,C.killA,kM,jO,kO,jX,Env.src,Env.newAt,jI,Env.take,V.get,V.set,V.rowAt,V.setRow,Option.getD_some,List.set_cons_zero,List.set_cons_succ,qH,List.set_set,vP,cellsOf,Env.behind,Env.val,Env.sc,Env.cl,lk,zU,zR,qN,qJ,plain,Env.putO,Env.put,kU,uX,unV,rK,rB,rS,rL,kN,wR,wQ,yB,wZ,wP,wV,uT,yD,jH,wL,wW,wN,wM,wU,wJ,yA,wK,wY,wS,yC,wX,wI,wO,wT,qK,jG,
      ↓reduceIte,eq_self,Option.isSome_some,Option.isSome_none,Option.bind_some,Option.bind_none,Option.map_some,Option.map_none,Bool.false_eq_true,Nat.reduceLT,Nat.reduceLeDiff,Nat.reduceEqDiff,Nat.reduceAdd,Nat.reduceMul,Nat.reduceSub,Int.reduceLT,Int.reduceEq,Int.reduceNeg,List.length_map,List.length_cons,List.length_nil,List.length_append,List.getElem?_map,List.map_cons,List.map_nil,true_or,or_true,or_false,false_or,and_true,true_and,and_self,not_true,not_false_eq_true,reduceCtorEq,List.all_cons,List.all_nil,Bool.and_true,Bool.true_and,ne_eq,List.drop_zero,List.nil_append,List.append_nil,List.singleton_append,List.cons_append,List.flatMap_cons,List.flatMap_nil,List.flatten_cons,List.flatten_nil,List.mapM_cons,List.mapM_nil,Option.pure_def,Option.bind_eq_bind,List.take_zero,List.take_succ_cons,List.drop_succ_cons,List.getElem?_cons_zero,List.getElem?_cons_succ,List.set_cons_zero,List.set_cons_succ,List.headD_cons,List.take_nil,List.drop_nil,Nat.sub_zero,Nat.add_zero,Nat.zero_add,Nat.zero_le,Nat.le_refl,← List.map_append,← List.map_take,← List.map_drop] <;> rfl):quV X ops (o :: l) Post e:=fun k a w ⟨D,hs,S,hd⟩=>by
 obtain ⟨u,h1,h2⟩:=(evCmp_pure hd ho hp (he hH)).st hd
 have hw:Region.wanted o (yielded ops a.tmps)=true:=by simp [Region.wanted,hg]
 unfold wpQuiet
 rw [if_pos hw]
 exact ⟨u,fun w' hw'=>by unfold Oper.quietAt; rw [h1 w']; exact ⟨rfl,rfl⟩,h k _ w h2⟩
end Go.TV
namespace Go.TV
def C.frzI (i:Nat) (v:V):C→C
 | .ref k []=>.ref k []
 | .ref k (s :: p)=>if k=i then (match p with | []=>(match v.get [s] with | some x=>if x.alive=true then .v x.bor else .dead | none=>.dead) | _ :: _=>.dead) else .ref k (s :: p)
 | .part k p n lo hi=>if k=i then .dead else .part k p n lo hi
 | .addr k [] n r j=>.addr k [] n r j
 | .addr k (s :: p) n r j=>if k=i then .dead else .addr k (s :: p) n r j
 | c=>c
def Env.frzI (e:Env) (i:Nat):Option Env:=
 (lk i e.ob).bind fun v=>match v with
  | .box true row=>if e.np≤i then some {e with ob:=zU i (.box true (qB row)) e.ob,sl:=qG (C.frzI i (.box true row)) e.sl} else none
  | _=>none
section
variable {gG:GG} {c:Ctx gG} {e e':Env} {a:Act} {w:World} {D:CS} {hs:Nat→Value} {S:CS} {X:Cfg} {o:Oper}
theorem lk_setO {i k:Nat} {x:V}:∀ {ob:List (Nat×V)} {v:V},lk i ob=some v→lk k (zU i x ob)=if k=i then some x else lk k ob
 | [],_,h=>by simp [lk] at h
 | (m,y) :: r,v,h=>by
  simp only [lk] at h
  simp only [zU]
  by_cases q:i=m
  ·subst q
   simp only [if_true,lk]
   split <;> rfl
  ·rw [if_neg q] at h
   rw [if_neg q]
   simp only [lk]
   rw [lk_setO h]
   by_cases q2:k=m
   ·subst q2
    rw [if_pos rfl,if_neg (fun z=>q z.symm),if_pos rfl]
   ·rw [if_neg q2,if_neg q2]
theorem RepRow.at {w:World} {D:CS}:∀ (row:List V) (rd:Nat→Option Value) (k:Nat) (S:CS) (j:Nat) (x:V),RepRow w D rd row k S→row[j]? = some x→∃ u Sx,rd (k+j)=some u∧Rep w D x u Sx∧sub Sx S
 | [],_,_,_,j,x,_,h=>by simp at h
 | v :: row,rd,k,S,0,x,h,hx=>by
  obtain ⟨u,S1,S2,h1,h2,h3,h4,rfl⟩:=h
  simp only [List.getElem?_cons_zero,Option.some.injEq] at hx
  subst hx
  exact ⟨u,S1,by simpa using h1,h2,qU _ _⟩
 | v :: row,rd,k,S,j+1,x,h,hx=>by
  obtain ⟨u,S1,S2,h1,h2,h3,h4,rfl⟩:=h
  obtain ⟨u',Sx,g1,g2,g3⟩:=RepRow.at row rd (k+1) S2 j x h3 (by simpa using hx)
  exact ⟨u',Sx,by rw [show k+(j+1)=k+1+j by omega]; exact g1,g2,zZ g3 (yO _ _)⟩
theorem StD.frzI (h:StD c e a w D hs S) {i:Nat} (he:e.frzI i=some e'):St c e' a w:=by
 obtain ⟨v,h1,h2⟩:=zbi he
 split at h2
 case h_2=>cases h2
 rename_i row
 split at h2
 case isFalse=>cases h2
 rename_i hnp
 injection h2 with h2
 subst h2
 obtain ⟨T1,G,g1,rfl,g3,g4,g5⟩:=h.ob.focus e.ob S i _ h1
 obtain ⟨b,o,S1,hu,hr,hown,hdj,rfl⟩:=g1
 -- what is lent from now on
 have hD2:sub D (cup D S1):=qU _ _
 have hS2:sub S1 (cup D S1):=yO _ _
 have hrow:RepRow w (cup D S1) (rdm w b o) (qB row) 0 emp:=RepRow.lent row _ 0 S1 hr hD2 hS2
 have hlen:(qB row).length=row.length:=by rw [zK4,List.length_map]
 have hbox:Rep w (cup D S1) (.box true (qB row)) (hs i) (cup (rng b o row.length) emp):=⟨b,o,emp,hu,hrow,by rw [hlen]; exact ⟨hown,qR _,rfl⟩⟩
 have hd1:TV.dj (cup (rng b o row.length) emp) G:=fun x y p q=>p.elim (fun p=>g3 x y (.inl p) q) (fun p=>p.elim)
 have hob:=g5 w (cup D S1) hs (.box true (qB row)) (cup (rng b o row.length) emp) hD2 (zH w D) (zH w G) (fun _ _ _ _=>rfl) hbox hd1
 have hlk:∀ k,lk k (zU i (.box true (qB row)) e.ob)=if k=i then some (.box true (qB row)) else lk k e.ob:=fun k=>lk_setO h1
 have hsub:∀ x y,cup (cup (rng b o row.length) emp) G x y→cup (cup (rng b o row.length) S1) G x y:=fun x y q=>q.elim (fun q=>q.elim (fun q=>.inl (.inl q)) (fun q=>q.elim)) .inr
 refine ⟨cup D S1,hs,_,{
  ob:=hob
  sl:=fun t s q=>?_
  sz:=h.sz
  df:=h.df
  dj:=fun x y p q=>?_
  Dl:=fun x y q=>q.elim (h.Dl x y) (fun q=>h.ob.blt x y (.inl (.inr q)))
  id:=fun k x q=>?_
  npx:=h.npx
  hp:=h.hp
  fr:=h.fr
  Ss:=fun x y q=>h.Ss x y (hsub x y q)
  D0:=zZ h.D0 hD2
  Ds:=fun x y q=>q.elim (h.Ds x y) (fun q=>(h.Ss x y (.inl (.inr q))).elim (fun z=>.inr (.inl z)) (fun z=>.inr (.inr z)))
  gl:=h.gl}⟩
 ·have q:lk t (qG (C.frzI i (.box true row)) e.sl)=some s:=q
  rw [qA1,Option.map_eq_some_iff] at q
  obtain ⟨s0,q1,rfl⟩:=q
  refine SlRep.mapF (fun k u hk=>?_) (h.sl t s0 q1)
  have pth:∀ (m:Nat) (p:List zC1) (φ:Value→Prop),m≠i→Pth w hs e.ob m p φ→Pth w hs (zU i (.box true (qB row)) e.ob) m p φ:=fun m p φ hm hp v x hv hx=>by
   rw [hlk,if_neg hm] at hv
   exact hp v x hv hx
  have pth0:∀ (m:Nat) (φ:Value→Prop),Pth w hs e.ob m [] φ→Pth w hs (zU i (.box true (qB row)) e.ob) m [] φ:=fun m φ hp v x hv hx=>by
   rw [hlk] at hv
   split at hv
   ·rename_i q
    subst q
    exact hp _ _ h1 rfl
   ·exact hp v x hv hx
  cases k with
  | ref m p =>
   cases p with
   | nil=>exact ⟨hk.1,pth0 m _ hk.2⟩
   | cons s p =>
    simp only [C.frzI]
    split
    ·rename_i hm
     subst hm
     cases p with
     | cons _ _=>trivial
     | nil =>
      simp only
      split
      ·rename_i x hx
       split
       ·rename_i hal
        obtain ⟨u1,k1,_,rfl⟩:=hk.2 _ x h1 hx
        obtain ⟨n,i',j⟩:=s
        simp only [V.get,V.rowAt] at hx
        split at hx
        ·rename_i hi'
         subst hi'
         obtain ⟨y,hy,hyx⟩:=zbi (show (row[j]?).bind (fun x=>some x)=some x from hx)
         injection hyx with hyx
         subst hyx
         obtain ⟨u2,Sx,f1,f2,f3⟩:=RepRow.at row _ 0 S1 j y hr hy
         have e1:loc w (hs m) [(n,0,j)]=some u2:=by
          simp only [loc,hu,base,zC0,Nat.zero_mul]
          simp only [rdm] at f1
          rw [f1]
         rw [e1] at k1
         injection k1 with k1
         subst k1
         exact Rep.lent y u2 Sx f2 hD2 (zZ f3 hS2) hal
        ·cases hx
       ·trivial
      ·trivial
    ·rename_i hm
     exact ⟨hk.1,pth m _ _ hm hk.2⟩
  | part m p n lo hi =>
   simp only [C.frzI]
   split
   ·trivial
   ·rename_i hm
    exact ⟨hk.1,pth m _ _ hm hk.2⟩
  | addr m p n r j =>
   cases p with
   | nil=>exact ⟨hk.1,pth0 m _ hk.2⟩
   | cons s p =>
    simp only [C.frzI]
    split
    ·trivial
    ·rename_i hm
     exact ⟨hk.1,pth m _ _ hm hk.2⟩
  | v x=>exact Rep.mono hD2 hk
  | ba row'=>exact CRep.growD (k:=.ba row') hD2 hk
  | dead=>trivial
 ·rcases q with q | q
  ·exact h.dj x y (hsub x y p) q
  ·rcases p with p | p
   ·rcases p with p | p
    ·exact hdj x y p q
    ·exact p
   ·exact g3 x y (.inr q) p
 ·have q:lk k (zU i (.box true (qB row)) e.ob)=some x:=q
  rw [hlk] at q
  split at q
  ·rename_i hk
   subst hk
   exact h.id _ _ h1
  ·exact h.id k x q
end
theorem wpV_frzI {X:Cfg} {Post:Exit→Env→Prop} {e e':Env} {cd:Code} {p:Prop} (hH:p) (i:Nat) (h:wpV X cd Post e')
  (he:p→e.frzI i=some e':=by
   intro hH
   simp only [hH,Env.frzI,lk,zU,V.own,V.alive,V.get,V.rowAt,V.bor,qB,rK,rB,rS,rL,qG,Sl.map,Ag.map,C.frzI,List.map_cons,List.map_nil,List.getElem?_cons_zero,List.getElem?_cons_succ,Option.bind_some,reduceIte,Nat.reduceEqDiff,Nat.reduceLeDiff,and_self,true_and,and_true] <;> rfl):wpV X cd Post e:=fun k a w hs=>by
 obtain ⟨D,hs',S,hd⟩:=hs
 exact h k a w (hd.frzI (he hH))
end Go.TV
namespace Go.TV
structure InsRaw (P:Program) (f t el k:Nat):Prop where
 shift:∀ (b off n c i vb voff m vc:Nat) (cs vs:List Value) (w:World),i < n→0 < m→n+m≤c→n+m≤549755813888→vb≠b→cs.length=n * k→vs.length=m * k →
  (∀ j v,cs[j]? = some v→w.cell? ⟨b,off+j,none⟩=some v)→(∀ j,j < (n+m) * k→(w.cell? ⟨b,off+j,none⟩).isSome=true)→(∀ j,j < (n+m) * k→w.frozen? ⟨b,off+j,none⟩=false) →
  (∀ j v,vs[j]? = some v→w.cell? ⟨vb,voff+j,none⟩=some v)→(∀ v ∈ cs,v.oneCell'=true)→(∀ v ∈ vs,v.oneCell'=true) →
  ∀ (tA tB:TypeId) (kA kB:Nat),w.shape? vb=some (tA,kA)→w.shape? b=some (tB,kB)→kB≠0→w.frozen? ⟨vb,voff,none⟩=false→w.frozen? ⟨vb,kA,none⟩=false →
  Calls P f #[.slice (some ⟨b,off,none⟩) n c,.int .i64 i,.slice (some ⟨vb,voff,none⟩) m vc] w fun e w' =>
   e=.returned (.slice (some ⟨b,off,none⟩) (n+m) c)∧w'=(w.drew.setCells b (off+(i+m) * k) (cs.drop (i * k))).setCells b (off+i * k) vs
 last:∀ (A:Option Addr) (n c:Nat) (Av:Option Addr) (m vc:Nat) (w w1:World) (v':Value),0 < m→n≤c→n+m≤549755813888 →
  (∀ ty,(Builtin.append_ #[t,t] ty #[.slice A n c,.slice Av m vc]).run P w=.ok v' w1) →
  Calls P f #[.slice A n c,.int .i64 n,.slice Av m vc] w fun e w'=>e=.returned v'∧w'=w1
 grow:∀ (b off n c i vb voff m vc:Nat) (cs vs:List Value) (w:World) (i0:TypeInfo) (z:Value),P.info? el=some i0→i0.zero=some z→i0.size=k→z.cells.size=k→i0.bytes≤256 →
  i < n→0 < m→n≤c→c < n+m→n+m≤549755813888→cs.length=n * k→vs.length=m * k →
  (∀ j v,cs[j]? = some v→w.cell? ⟨b,off+j,none⟩=some v)→(∀ j v,vs[j]? = some v→w.cell? ⟨vb,voff+j,none⟩=some v)→(∀ v ∈ cs,v.oneCell'=true)→(∀ v ∈ vs,v.oneCell'=true) →
  Calls P f #[.slice (some ⟨b,off,none⟩) n c,.int .i64 i,.slice (some ⟨vb,voff,none⟩) m vc] w fun e w' =>
   e=.returned (.slice (some ⟨w.heap.size,0,none⟩) (n+m) (grownCap w (n+m) c el)) ∧
   w'=(((w.alloc (.cells ((cs.take (i * k)).toArray++Builtin.zeroCells z.cells (n+m - i)++Builtin.zeroCells z.cells (grownCap w (n+m) c el - (n+m))) el)).drew.setCells w.heap.size (i * k) vs).drew).setCells w.heap.size ((i+m) * k) (cs.drop (i * k))
section
variable {gG:GG} {c:Ctx gG} {e e':Env} {a:Act} {w w':World} {D:CS} {hs:Nat→Value} {S:CS} {X:Cfg}
theorem one_of:∀ (r:List V) (rd:Nat→Option Value) (k:Nat) (T:CS) (us:List Value),RepRow w D rd r k T→(∀ x ∈ r,x.alive=true)→us.length=r.length→(∀ j u,us[j]? = some u→rd (k+j)=some u)→∀ u ∈ us,u.oneCell'=true:=by
 intro r
 induction r with
 | nil=>intro rd k T us _ _ hl _ u hu; rw [List.length_eq_zero_iff.1 hl] at hu; simp at hu
 | cons x r ih =>
  intro rd k T us hr ha hl hj u hu
  obtain ⟨u1,T1,T2,g1,g2,g3,g4,g5⟩:=hr
  cases us with
  | nil=>simp at hl
  | cons u2 us =>
   have e:=hj 0 u2 rfl
   rw [Nat.add_zero,g1] at e
   injection e with e
   subst e
   rcases List.mem_cons.1 hu with rfl | hu
   ·exact g2.oneCell (ha x (by simp))
   ·exact ih rd (k+1) T2 us g3 (fun y hy=>ha y (by simp [hy])) (by simpa using hl) (fun j u hj'=>by have:=hj (j+1) u (by simpa using hj'); rwa [show k+(j+1)=k+1+j by omega] at this) u hu
theorem one_rows {rows:List (List V)} (h:qY rows=true) {rd:Nat→Option Value} {T:CS} {us:List Value} (hr:RepRow w D rd rows.flatten 0 T) (hl:us.length=rows.flatten.length) (hj:∀ j u,us[j]? = some u→rd j=some u):∀ u ∈ us,u.oneCell'=true:=
 one_of rows.flatten rd 0 T us hr (fun x hx=>by
  obtain ⟨r,hr,hxr⟩:=List.mem_flatten.1 hx
  simp only [qY,List.all_eq_true] at h
  exact h r hr x hxr) hl (fun j u q=>by rw [Nat.zero_add]; exact hj j u q)
end
end Go.TV
namespace Go.TV
def ins1 {α:Type} (l:List α) (i:Int) (x:α):Option (List α):=if 0≤i∧i≤(l.length:Int)∧l.length≤549755813887 then some (l.take i.toNat++[x]++l.drop i.toNat) else none
theorem ins1_f {α:Type} {l t:List α} {i:Int} {x:α} (h:ins1 l i x=some t):((0≤i)=True)∧((i≤(l.length:Int))=True)∧((l.length≤549755813887)=True)∧l.take i.toNat++[x]++l.drop i.toNat=t:=by
 unfold ins1 at h
 split at h
 ·rename_i hc
  injection h with h
  exact ⟨eq_true hc.1,eq_true hc.2.1,eq_true hc.2.2,h⟩
 ·cases h
def del1 {α:Type} (l:List α) (i j:Int):Option (List α):=if 0≤i∧i≤j∧j≤(l.length:Int) then some (l.take i.toNat++l.drop j.toNat) else none
end Go.TV
namespace Go.TV
structure DelRaw (P:Program) (f k:Nat):Prop where
 fn : ∃ fn, P.funcs[f]? = some fn ∧ fn.body.isSome = true ∧ (fn.name == "runtime.NumGoroutine") = false
 run:∀ (b off n c i j:Nat) (cs:List Value) (w:World),i < j→j≤n→n≤c→n≤549755813888→cs.length=n * k →
  (∀ q v,cs[q]? = some v→w.cell? ⟨b,off+q,none⟩=some v)→(∀ q,q < n * k→w.frozen? ⟨b,off+q,none⟩=false)→(∀ v ∈ cs,v.oneCell'=true) →
  Calls P f #[.slice (some ⟨b,off,none⟩) n c,.int .i64 i,.int .i64 j] w fun e w' =>
   e=.returned (.slice (some ⟨b,off,none⟩) (n - (j - i)) c)∧∃ w1 zs,Frm w w1 emp∧zs.length=(j - i) * k∧w'=w1.setCells b (off+i * k) (cs.drop (j * k)++zs)
 none:∀ (A:Option Addr) (n c i:Nat) (w:World),i≤n→n≤c→n≤549755813888→(A=Option.none→n=0∧c=0) →
  Calls P f #[.slice A n c,.int .i64 i,.int .i64 i] w fun e w'=>e=.returned (.slice A n c)∧Frm w w' emp
section
variable {w w':World} {D:CS} {X:Cfg}
theorem del_flat {rd rd1:Nat→Option Value} {rows:List (List V)} {i j k:Nat} {T:CS} {us1:List Value} (x1:RepRow w D rd1 rows.flatten 0 T) (x3:∀ r ∈ rows,r.length=k)
  (p1:us1.length=rows.length * k) (p2:∀ j u,us1[j]? = some u→rd1 j=some u) (hij:i≤j) (hj:j≤rows.length)
  (hD:sameOn w w' D) (hT:sameOn w w' T) (hrd:∀ q u,(us1.take (i * k)++us1.drop (j * k))[q]? = some u→rd q=some u) :
  ∃ T',RepRow w' D rd (rows.take i++rows.drop j).flatten 0 T'∧sub T' T:=by
 have hfl:(rows.take i).flatten.length=i * k:=by rw [zZ5 _ (fun r hr=>x3 r (List.mem_of_mem_take hr)),List.length_take]; congr 1; omega
 have hjl:(rows.take j).flatten.length=j * k:=by rw [zZ5 _ (fun r hr=>x3 r (List.mem_of_mem_take hr)),List.length_take]; congr 1; omega
 have hik:i * k≤j * k:=Nat.mul_le_mul_right k hij
 have hjk:j * k≤us1.length:=by rw [p1]; exact Nat.mul_le_mul_right k hj
 have hdl:(rows.drop j).flatten.length=us1.length - j * k:=by rw [zZ5 _ (fun r hr=>x3 r (List.mem_of_mem_drop hr)),List.length_drop,p1,Nat.sub_mul]
 have e:rows.flatten=(rows.take j).flatten++(rows.drop j).flatten:=by rw [← List.flatten_append,List.take_append_drop]
 have e2:(rows.take j).flatten=(rows.take i).flatten++((rows.take j).drop i).flatten:=by
  rw [← List.flatten_append]
  congr 1
  have:=List.take_append_drop i (rows.take j)
  rw [List.take_take,Nat.min_eq_left hij] at this
  exact this.symm
 rw [e] at x1
 obtain ⟨T1,T2,a1,a2,a3,rfl⟩:=RepRow.split _ _ _ _ x1
 rw [Nat.zero_add,hjl] at a2
 rw [e2] at a1
 obtain ⟨T3,T4,c1,c2,c3,rfl⟩:=RepRow.split _ _ _ _ a1
 have b1:RepRow w' D rd (rows.take i).flatten 0 T3:=RepRow.frame (zD D) hD _ rd1 rd 0 T3 c1 (zQ hT (fun x y q=>.inl (.inl q))) (fun q _ hq=>by
  have hq':q < i * k:=by omega
  obtain ⟨u,hu⟩:∃ u,us1[q]? = some u:=⟨_,List.getElem?_eq_getElem (by omega)⟩
  rw [p2 q u hu]
  refine hrd q u ?_
  rw [List.getElem?_append_left (by rw [List.length_take]; omega),List.getElem?_take,if_pos hq']
  exact hu)
 have b3:RepRow w' D rd (rows.drop j).flatten (0+(rows.take i).flatten.length) T2:=by
  have:=RepRow.shift _ _ rd (j * k) (0+(rows.take i).flatten.length) T2 a2 (fun q hq=>by
   obtain ⟨u,hu⟩:∃ u,us1[j * k+q]? = some u:=⟨_,List.getElem?_eq_getElem (by omega)⟩
   rw [p2 _ u hu,Nat.zero_add,hfl]
   refine hrd _ u ?_
   rw [List.getElem?_append_right (by rw [List.length_take]; omega),List.length_take,List.getElem?_drop,← hu]
   congr 1
   omega)
  exact RepRow.frame (zD D) hD _ _ _ _ T2 this (zQ hT (yO _ _)) (fun _ _ _=>rfl)
 refine ⟨cup T3 T2,?_,fun x y q=>?_⟩
 ·rw [List.flatten_append]
  exact RepRow.join _ _ 0 _ T2 b1 b3 (fun x y q1 q2=>a3 x y (.inl q1) q2)
 ·rcases q with q | q
  ·exact .inl (.inl q)
  ·exact .inr q
theorem hdr_slice {u:Value} {k:Nat} {rows:List (List V)} {S:CS} (h:Rep w D (.list true k rows) u S):∃ A c,u=.slice A rows.length c∧rows.length≤c∧(A=none→rows.length=0∧c=0):=by
 rcases h with ⟨rfl,q,_⟩ | ⟨b,o',cap,T,rfl,hc,_⟩
 ·obtain rfl:=yT q
  exact ⟨_,_,rfl,Nat.le_refl _,fun _=>⟨rfl,rfl⟩⟩
 ·exact ⟨_,_,rfl,hc,fun q=>by cases q⟩
theorem del_fn {f k:Nat} {rows:List (List V)} {i j:Nat} (R:DelRaw X.P f k) (hk:k≠0) (hij:i≤j) (hj:j≤rows.length) (hn:rows.length≤549755813888) (al:qY rows=true) :
  Fn X f [.one (.list true k rows),.one (.sc (.int .i64 i)),.one (.sc (.int .i64 j))] [.one (.list true k (rows.take i++rows.drop j))] []:=by
 refine ⟨R.fn,fun w D S us fl ha hr hdj hD hg=>?_⟩
 obtain ⟨u0,us1,fl1,rfl,rfl,u1,us2,fl2,rfl,rfl,u2,us3,fl3,rfl,rfl,rfl,rfl⟩:=ha
 obtain ⟨y0,S0,S1,hy0,hx0,⟨y1,S2,S3,hy1,hx1,⟨y2,S4,S5,hy2,hx2,hS5,hd2,rfl⟩,hd1,rfl⟩,hd0,rfl⟩:=hr
 simp only [List.getElem?_cons_zero,Option.some.injEq] at hy0
 simp only [Nat.zero_add,List.getElem?_cons_succ,List.getElem?_cons_zero,Option.some.injEq] at hy1 hy2
 subst hy0 hy1 hy2
 obtain ⟨rfl,_,rfl⟩:=hx1
 obtain ⟨rfl,_,rfl⟩:=hx2
 obtain rfl:S5=emp:=hS5
 simp only [jE,zV] at hdj hD ⊢
 rcases Nat.lt_or_eq_of_le hij with hlt | rfl
 ·rcases hx0 with ⟨rfl,q,rfl⟩ | ⟨b,o',cap,T,rfl,hc,hrr,hown,hdT,rfl⟩
  ·simp at hj
   omega
  obtain ⟨x1,x2,x3⟩:=RepRows.flat rows 0 T hrr
  rw [Nat.zero_mul] at x1
  obtain ⟨us1,p1,p2⟩:=RepRow.vals _ _ _ x1
  simp only [Nat.zero_add] at p2
  have hl1:us1.length=rows.length * k:=by rw [p1,x2]
  have one1:=one_rows al x1 p1 p2
  have hcap:rows.length * k≤cap * k:=Nat.mul_le_mul_right k hc
  have hjk:j * k≤rows.length * k:=Nat.mul_le_mul_right k hj
  have hik:i * k+k≤j * k:=by
   have:=Nat.mul_le_mul_right k hlt
   rw [Nat.succ_mul] at this
   exact this
  have hsub:(j - i) * k=j * k - i * k:=Nat.sub_mul _ _ _
  have hk1:1≤k:=Nat.one_le_iff_ne_zero.2 hk
  refine (R.run b o' rows.length cap i j us1 w hlt hj hc hn hl1 (fun q v hq=>p2 q v hq) (fun q hq=>(hown q (by omega)).2) one1).mono ?_
  rintro e W ⟨rfl,w1,zs,f0,hz,rfl⟩
  have hlen:(us1.drop (j * k)++zs).length=(rows.length - i) * k:=by
   rw [List.length_append,List.length_drop,hl1,hz,hsub,Nat.sub_mul]
   omega
  have hne:us1.drop (j * k)++zs≠[]:=fun q=>by
   have:=congrArg List.length q
   rw [hlen,Nat.sub_mul,List.length_nil] at this
   omega
  have g1:=frm_set w1 b (o'+i * k) _ hne
  have in1:sub (rng b (o'+i * k) (us1.drop (j * k)++zs).length) (rng b o' (cap * k)):=by
   rintro x y ⟨q1,q2,q3⟩
   rw [hlen,Nat.sub_mul] at q3
   exact ⟨q1,by omega,by omega⟩
  have hTl:∀ x y,T x y→x < w.heap.size:=fun x y q=>RepRows.lt _ _ _ _ _ _ hrr x y q
  have hbl:b < w.heap.size:=by
   obtain ⟨z,hz'⟩:=(hown 0 (by omega)).1
   exact cell_lt hz'
  have same2:∀ (Z:CS),TV.dj Z (rng b o' (cap * k))→(∀ x y,Z x y→x < w.heap.size)→sameOn w (w1.setCells b (o'+i * k) (us1.drop (j * k)++zs)) Z:=fun Z hz hl=>by
   have s0:=f0.sameOn (qR Z) hl
   have s1:sameOn w1 (w1.setCells b (o'+i * k) (us1.drop (j * k)++zs)) Z:=fun x y q=>wD (fun q2=>hz x y q (in1 x y q2))
   exact sameOn_trans s0 s1
  have hDr:TV.dj D (rng b o' (cap * k)):=fun x y q1 q2=>hdj x y (.inl q2) q1
  have hTr:TV.dj T (rng b o' (cap * k)):=fun x y q1 q2=>hdT x y q2 q1
  have sr:sameOn w w1 (rng b o' (cap * k)):=f0.sameOn (qR _) (fun x y q=>by rw [q.1]; exact hbl)
  have ex1:∀ q,q < cap * k→∃ v,w1.cell? (ad b (o'+q))=some v:=fun q hq=>by
   rw [(sr b (o'+q) ⟨rfl,by omega,by omega⟩).1]
   exact (hown q hq).1
  obtain ⟨W,hW⟩:∃ W,W=w1.setCells b (o'+i * k) (us1.drop (j * k)++zs):=⟨_,rfl⟩
  rw [← hW] at same2 g1 ⊢
  have new:∀ q u,(us1.take (i * k)++us1.drop (j * k))[q]? = some u→W.cell? (ad b (o'+q))=some u:=fun q u hq=>by
   rw [hW]
   by_cases z1:q < i * k
   ·rw [List.getElem?_append_left (by rw [List.length_take]; omega),List.getElem?_take,if_pos z1] at hq
    rw [(wD (w:=w1) (b:=b) (o:=o'+i * k) (us:=us1.drop (j * k)++zs) (b':=b) (o':=o'+q) (by rintro ⟨_,q1,q2⟩; omega)).1,(sr b (o'+q) ⟨rfl,by omega,by omega⟩).1]
    exact p2 q u hq
   ·rw [List.getElem?_append_right (by rw [List.length_take]; omega),List.length_take] at hq
    have hqq:=(List.getElem?_eq_some_iff.1 hq).1
    have:=zS2 (w:=w1) (b:=b) (o:=o'+i * k) (us:=us1.drop (j * k)++zs) (fun z hz'=>by rw [Nat.add_assoc]; exact ex1 _ (by rw [hlen,Nat.sub_mul] at hz'; omega)) (k:=q - min (i * k) us1.length) (u:=u) (by
     rw [List.getElem?_append_left hqq]
     exact hq)
    rw [show o'+i * k+(q - min (i * k) us1.length)=o'+q by omega] at this
    exact this
  have ex2:∀ q,q < cap * k→∃ v,W.cell? (ad b (o'+q))=some v:=fun q hq=>by
   rw [hW]
   by_cases z:i * k≤q∧q < i * k+(us1.drop (j * k)++zs).length
   ·have:=zS2 (w:=w1) (b:=b) (o:=o'+i * k) (us:=us1.drop (j * k)++zs) (fun z hz'=>by rw [Nat.add_assoc]; exact ex1 _ (by rw [hlen,Nat.sub_mul] at hz'; omega)) (k:=q - i * k) (List.getElem?_eq_getElem (by omega))
    rw [show o'+i * k+(q - i * k)=o'+q by omega] at this
    exact ⟨_,this⟩
   ·rw [(wD (w:=w1) (b:=b) (o:=o'+i * k) (us:=us1.drop (j * k)++zs) (b':=b) (o':=o'+q) (by rintro ⟨_,q1,q2⟩; omega)).1]
    exact ex1 q hq
  have fr2:∀ q,q < cap * k→W.frozen? (ad b (o'+q))=false:=fun q hq=>by
   rw [hW,World.frozen?_setCells,(sr b (o'+q) ⟨rfl,by omega,by omega⟩).2]
   exact (hown q hq).2
  obtain ⟨T',hT1,hT2⟩:=del_flat (w':=W) (rd:=fun j=>W.cell? (ad b (o'+j))) x1 x3 hl1 p2 hij hj (same2 D hDr hD) (same2 T hTr hTl) new
  have hlen2:(rows.take i++rows.drop j).length=rows.length - (j - i):=by
   simp only [List.length_append,List.length_take,List.length_drop]
   omega
  have hrep:Rep W D (.list true k (rows.take i++rows.drop j)) (.slice (some ⟨b,o',none⟩) (rows.length - (j - i)) cap) (cup (rng b o' (cap * k)) T'):=by
   refine .inr ⟨b,o',cap,T',by rw [hlen2]; rfl,by rw [hlen2]; omega,?_,fun q hq=>⟨ex2 q hq,fr2 q hq⟩,fun x y q1 q2=>hdT x y q1 (hT2 x y q2),rfl⟩
   refine RepRows.of_flat _ 0 _ (by rw [Nat.zero_mul]; exact hT1) (fun r hr=>?_) (fun _ _ _=>rfl)
   rcases List.mem_append.1 hr with hr | hr
   ·exact x3 r (List.mem_of_mem_take hr)
   ·exact x3 r (List.mem_of_mem_drop hr)
  have hsubS:sub (cup (rng b o' (cap * k)) T') (cup (rng b o' (cap * k)) T):=by
   rintro x y (q | q)
   ·exact .inl q
   ·exact .inr (hT2 x y q)
  refine ⟨_,[.slice (some ⟨b,o',none⟩) (rows.length - (j - i)) cap],D,cup (rng b o' (cap * k)) T',emp,rfl,⟨_,_,_,rfl,rfl,rfl,rfl⟩,⟨_,_,emp,rfl,hrep,rfl,qR _,(zV _).symm⟩,rfl,qR _,?_,?_,?_,zD D,fun _ _ h=>.inl h,?_⟩
  ·rw [zV]
   exact fun x y q1 q2=>hdj x y (hsubS x y q1) q2
  ·have hf1:Frm w w1 (cup (rng b o' (cap * k)) T):=(Frm.refl w _).trans f0 (fun _ _ q=>q.elim)
   exact hf1.trans g1 (fun x y q=>.inl (.inl (in1 x y q)))
  ·intro x y q
   rw [zV] at q
   exact .inl (hsubS x y q)
  ·intro x y q
   have h1:=hD x y q
   have h2:=f0.size
   have h3:=g1.size
   omega
 ·obtain ⟨A,c,rfl,hc,hA⟩:=hdr_slice hx0
  refine (R.none A rows.length c i w hj hc hn hA).mono ?_
  rintro e W ⟨rfl,f0⟩
  have hSl:∀ x y,S0 x y→x < w.heap.size:=fun x y q=>Rep.lt _ _ _ hx0 x y q
  rw [List.take_append_drop]
  have hrep:Rep W D (.list true k rows) (.slice A rows.length c) S0:=Rep.keep hx0 (zD D) (f0.sameOn (qR _) hD) (f0.sameOn (qR _) hSl)
  refine ⟨_,[.slice A rows.length c],D,S0,emp,rfl,⟨_,_,_,rfl,rfl,rfl,rfl⟩,⟨_,_,emp,rfl,hrep,rfl,qR _,(zV _).symm⟩,rfl,qR _,?_,?_,?_,zD D,fun _ _ h=>.inl h,?_⟩
  ·rw [zV]
   exact hdj
  ·exact (Frm.refl w _).trans f0 (fun _ _ q=>q.elim)
  ·intro x y q
   rw [zV] at q
   exact .inl q
  ·intro x y q
   have h1:=hD x y q
   have h2:=f0.size
   omega
end
end Go.TV
