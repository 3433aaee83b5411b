/- Memory told as trees, part 5. -/
import Derived.Test.YtmoglghkjfjalaaGreatKFnExactFileLogT4
import Derived.WalkKit
import Derived.ProofKit
import Derived.Lib.UnsafeStr
import Derived.Lib.Walk
import Derived.Shelf.RegionOpenPlain
import Derived.Lib.IndexMore
import Derived.Lib.LaidTab
import Derived.Lib.ItoaNum
import Derived.Sort.Grow
import Derived.Deep.Draws
import Derived.Laws.StructEq
set_option linter.unusedVariables false
set_option linter.unusedSimpArgs false
set_option maxHeartbeats 8000000
set_option maxRecDepth 100000
namespace Go.TV
section
variable {gG:GG} {c:Ctx gG} {e e':Env} {a:Act} {w:World} {D:CS} {hs:Nat→Value} {S:CS} {X:Cfg} {o:Oper}
end
theorem mklR_f {α:Type} (r:α→List V) (c:List V) {n m:Int} {z:α} {l:List α} (hz:r z=c) (h:mkl n m z=some l):((0≤n)=True)∧((n≤m)=True)∧((m≤1099511627776)=True)∧List.replicate n.toNat c=List.map r l:=by
 obtain ⟨h1,h2,h3,h4⟩:=mkl_f h
 exact ⟨h1,h2,h3,by rw [← h4,← hz,rep_rows]⟩
end Go.TV
namespace Go.TV
def Cfg.ofG (P:Program) (h:P.follows .mixedOrders=true) (l:List (Nat×(Obj→Prop))):Cfg:={Cfg.of P h with G:=fun b=>(l.find? fun x=>x.1 == b).map fun x=>x.2}
theorem Cfg.ofG_mem {l:List (Nat×(Obj→Prop))} {b:Nat} {φ:Obj→Prop} (h:((l.find? fun x=>x.1 == b).map fun x=>x.2)=some φ):(b,φ) ∈ l:=by
 cases q:l.find? fun x=>x.1 == b with
 | none=>rw [q] at h; cases h
 | some x =>
  rw [q] at h
  injection h with h
  have h1:=List.mem_of_find?_eq_some q
  have h2:=List.find?_some q
  have h2:x.1=b:=by simpa using h2
  subst h2 h
  exact h1
def isNum (x:Obj):Prop:=∃ cs e k m,x=.cells cs e k∧cs[0]? = some (.int .i64 m)
theorem isNum_cell {w:World} {b:Nat} {x:Obj} (h:w.heap[b]? = some x) (hx:isNum x):∃ m,w.cell? (ad b 0)=some (.int .i64 m):=by
 obtain ⟨cs,e,k,m,rfl,h1⟩:=hx
 refine ⟨m,?_⟩
 unfold World.cell? ad
 simp only [h]
 exact h1
theorem cell_isNum {w:World} {b:Nat} {m:Int} (h:w.cell? (ad b 0)=some (.int .i64 m)):∃ x,w.heap[b]? = some x∧isNum x:=by
 unfold World.cell? ad at h
 simp only at h
 split at h
 ·rename_i cs e k hq
  exact ⟨_,hq,cs,e,k,m,rfl,by simpa using h⟩
 ·cases h
theorem Fn_pureB {X : Cfg} {f : Nat} {s x : ByteArray} {b : Bool} (hex : ∃ fn, X.P.funcs[f]? = some fn ∧ fn.body.isSome = true ∧ (fn.name == "runtime.NumGoroutine") = false)
  (hc:∀ w:World,(∀ g φ,X.G g=some φ→∃ x,w.heap[g]? = some x∧φ x)→Calls X.P f #[.string s,.string x] w fun e w'=>e=.returned (.bool b)∧w'=w) :
  Fn X f [.one (.sc (.string s)),.one (.sc (.string x))] [.one (.sc (.bool b))] []:=by
 refine ⟨hex,fun w D S us fl ha hr hj hD hg=>?_⟩
 obtain ⟨u0,us1,fl1,rfl,rfl,u1,us2,fl2,rfl,rfl,rfl,rfl⟩:=ha
 obtain ⟨y0,S0,S1,hy0,hx0,⟨y1,S2,S3,hy1,hx1,hS3,hd1,rfl⟩,hd0,rfl⟩:=hr
 simp only [List.getElem?_cons_zero,Option.some.injEq] at hy0
 simp only [Nat.zero_add,List.getElem?_cons_succ,List.getElem?_cons_zero,Option.some.injEq] at hy1
 subst hy0 hy1
 obtain ⟨rfl,_,rfl⟩:=hx0
 obtain ⟨rfl,_,rfl⟩:=hx1
 obtain rfl:S3=emp:=hS3
 refine (hc w (fun g φ q=>(hg g φ q).2.2.2)).mono ?_
 rintro en w' ⟨rfl,rfl⟩
 refine ⟨_,[.bool b],D,emp,emp,rfl,⟨_,_,_,rfl,rfl,rfl,rfl⟩,⟨_,emp,emp,rfl,⟨rfl,rfl,rfl⟩,rfl,emp_dj _,(cup_emp emp).symm⟩,rfl,emp_dj _,?_,Frm.refl _ _,?_,qA D,fun _ _ h=>.inl h,hD⟩
 ·rw [emp_cup]
  exact emp_dj _
 ·intro y o q
  rw [emp_cup] at q
  exact q.elim
end Go.TV
namespace Go.TV
def eqV:Kd→Value→Value→Option Bool
 | .bool,.bool a,.bool b=>some (a == b)
 | .int _,.int k a,.int k2 b=>if k=k2 then some (a == b) else none
 | .string,.string a,.string b=>some (a.toList == b.toList)
 | _,_,_=>none
def scOf:C→Option Value
 | .v (.sc v)=>some v
 | _=>none
def eq1 (T:Nat→Option TyI) (cs ds:List C) (f:Nat×Nat):Option Bool:=
 (T f.2).bind fun d=>(cs[f.1]?).bind fun c=>(scOf c).bind fun u=>(ds[f.1]?).bind fun c2=>(scOf c2).bind fun v=>eqV d.kd u v
def eqF (T:Nat→Option TyI) (cs ds:List C):List (Nat×Nat)→Option Bool
 | []=>some true
 | [f]=>eq1 T cs ds f
 | f :: g :: fs=>(eq1 T cs ds f).bind fun b=>(eqF T cs ds (g :: fs)).bind fun r=>some (b && r)
def Env.ag (e:Env) (x:Operand):Option (List C):=
 match e.val x with
 | some (.pl (.agg l))=>some l
 | _=>none
def evCmp (T:Nat→Option TyI) (o:Oper) (op:BinOp) (t:Nat) (x y:Operand) (e:Env):Option Env:=
 (T t).bind fun d=>match d.kd with
  | .struct fs=>(e.ag x).bind fun cs=>(e.ag y).bind fun ds=>(eqF T cs ds fs).bind fun b=>match op with
   | .eql=>e.putO o.dst (.pl (.one (.v (.sc (.bool b)))))
   | .neq=>e.putO o.dst (.pl (.one (.v (.sc (.bool (!b))))))
   | _=>none
  | _=>none
def cmpOk (P : Program) (t : Nat) : Bool := !P.eqGuardType P.depth t && !P.stoodInHeld t && (P.fieldsOf t).toList.all fun f => f.name != "_"
section
variable {gG:GG} {c:Ctx gG} {e e':Env} {a:Act} {w:World} {D:CS} {hs:Nat→Value} {S:CS} {X:Cfg} {o:Oper}
theorem eqV_run {P:Program} {t:Nat} {d:TyI} (ht:TyOk P t d) {u v:Value} {b:Bool} (h:eqV d.kd u v=some b) (n:Nat) (w:World):(Op.equalIn (n+1) t u v).run P w=.ok b w∧(isAgg t).run P w=.ok false w:=by
 have ha:=run_agg (w:=w) ht
 unfold eqV at h
 split at h
 ·rename_i hk
  injection h with h
  rw [hk] at ha
  exact ⟨h ▸ run_equalIn_bool' w n t _ _ (run_und_bool ht hk),ha⟩
 ·rename_i hk
  split at h
  ·rename_i q
   subst q
   injection h with h
   rw [hk] at ha
   exact ⟨h ▸ run_equalIn_int w n t _ _ _ _ (run_und_int ht hk),ha⟩
  ·cases h
 ·rename_i hk
  injection h with h
  rw [hk] at ha
  exact ⟨h ▸ run_equalIn_string w n t _ _ (qY ht hk),ha⟩
 ·cases h
theorem scOf_rep {nx:Nat} {ob:List (Nat×V)} {k:C} {u v:Value} (h:scOf k=some v) (hr:CRep w D hs nx ob k u):u=v:=by
 unfold scOf at h
 split at h
 ·injection h with h
  subst h
  exact hr.1
 ·cases h
theorem eq1_run {nx:Nat} {ob:List (Nat×V)} {cs ds:List C} {us vs:List Value} (hc:CsRep w D hs nx ob cs us) (hd:CsRep w D hs nx ob ds vs) {f:Field} {b:Bool} (h:eq1 X.T cs ds (f.offset,f.type)=some b) (n:Nat) (w:World) :
  ∃ u v,(part f.type us.toArray f.offset).run X.P w=.ok u w∧(part f.type vs.toArray f.offset).run X.P w=.ok v w∧(Op.equalIn (n+1) f.type u v).run X.P w=.ok b w:=by
 obtain ⟨d,h1,h⟩:=zbi h
 obtain ⟨k1,h2,h⟩:=zbi h
 obtain ⟨u,h3,h⟩:=zbi h
 obtain ⟨k2,h4,h⟩:=zbi h
 obtain ⟨v,h5,h⟩:=zbi h
 obtain ⟨u',g1,g2⟩:=CsRep.get _ _ _ _ hc h2
 obtain ⟨v',g3,g4⟩:=CsRep.get _ _ _ _ hd h4
 obtain rfl:=scOf_rep h3 g2
 obtain rfl:=scOf_rep h5 g4
 obtain ⟨k1,k2⟩:=eqV_run (X.hT _ _ h1) h n w
 have g1:us[f.offset]? = some u':=g1
 have g3:vs[f.offset]? = some v':=g3
 refine ⟨u',v',?_,?_,k1⟩ <;> simp [part,k2,g1,g3]
theorem eqF_run {nx : Nat} {ob : List (Nat × V)} {cs ds : List C} {us vs : List Value} (hc : CsRep w D hs nx ob cs us) (hd : CsRep w D hs nx ob ds vs) (n : Nat) (w2 : World) : ∀ (fs : List Field) (b : Bool), (∀ f ∈ fs, f.name ≠ "_") → eqF X.T cs ds (fs.map fun f => (f.offset, f.type)) = some b → (Op.eqFields (n + 1) us.toArray vs.toArray fs).run X.P w2 = .ok b w2
 | [],b,_,h=>by
  injection h with h
  subst h
  rfl
 | [f],b,hn,h=>by
  obtain ⟨u,v,h1,h2,h3⟩:=eq1_run hc hd h n w2
  simp only [Op.eqFields,hn f (by simp),ne_eq,not_false_eq_true,if_true,Sem.run_bind,h1,h2,h3,Result.andThen_ok]
  cases b <;> rfl
 | f :: g :: fs,b,hn,h=>by
  obtain ⟨b1,h0,h⟩:=zbi h
  obtain ⟨r,h4,h⟩:=zbi h
  injection h with h
  subst h
  obtain ⟨u,v,h1,h2,h3⟩:=eq1_run hc hd h0 n w2
  have ih:=eqF_run hc hd n w2 (g :: fs) r (fun x hx=>hn x (List.mem_cons_of_mem _ hx)) h4
  rw [Op.eqFields,if_pos (hn f (by simp))]
  simp only [Sem.run_bind,h1,h2,h3,Result.andThen_ok]
  cases b1
  ·rfl
  ·simp only [Bool.not_true,Bool.false_eq_true,if_false,Bool.true_and]
   exact ih
theorem Env.ag_rep (h:StD c e a w D hs S) {x:Operand} {l:List C} (hx:e.ag x=some l):∃ us:List Value,a.eval x=.agg us.toArray∧CsRep w D hs e.nx e.ob l us:=by
 unfold Env.ag at hx
 split at hx
 ·rename_i l' hv
  injection hx with hx
  subst hx
  exact h.val hv
 ·cases hx
theorem evCmp_pure (h:StD c e a w D hs S) {op:BinOp} {t t':Nat} {x y:Operand} (ho:o.op=.binOp op t x y t') (hp:cmpOk X.P t=true) (he:evCmp X.T o op t x y e=some e'):DidP X.P c o a w e':=by
 obtain ⟨d,h1,h2⟩:=zbi he
 split at h2
 case h_2=>cases h2
 rename_i fs hk
 obtain ⟨cs,h3,h4⟩:=zbi h2
 obtain ⟨ds,h5,h6⟩:=zbi h4
 obtain ⟨b,h7,h8⟩:=zbi h6
 obtain ⟨us,g1,g2⟩:=Env.ag_rep h h3
 obtain ⟨vs,g3,g4⟩:=Env.ag_rep h h5
 obtain ⟨fl,g5,rfl⟩:=run_und_struct (X.hT _ _ h1) hk
 unfold cmpOk at hp
 simp only [Bool.and_eq_true,Bool.not_eq_true',List.all_eq_true,bne_iff_ne] at hp
 obtain ⟨⟨p1,p2⟩,p3⟩:=hp
 have hf:X.P.fieldsOf t=fl:=by unfold Program.fieldsOf; rw [g5]
 rw [hf] at p3
 have g5':X.P.underlying t=some (.struct (X.P.fieldsOf t)):=by rw [hf]; exact g5
 have hr:∀ w2,(Op.equalIn 10000 t (.agg us.toArray) (.agg vs.toArray)).run X.P w2=.ok b w2:=fun w2=>by
  rw [show (10000:Nat)=9999+1 from rfl,run_equalIn_agg w2 9999 t _ _ g5' p2,hf]
  exact eqF_run g2 g4 9998 w2 fl.toList b p3 h7
 have he2:execOp a.eval o=(do pure (.value (← (do eqGuard op t x y (a.eval x) (a.eval y); binOp op t (a.eval x) (a.eval y):Sem Value)))):=by simp only [execOp,ho]
 have hg:∀ w2,(eqGuard op t x y (.agg us.toArray) (.agg vs.toArray)).run X.P w2=.ok () w2:=fun w2=>run_eqGuard_agg w2 op t x y _ _ p1
 cases op <;> first | (cases h8; done) | skip
 ·refine h.didP (fun w2=>?_) h8 (sc_rep rfl)
  rw [he2,g1,g3]
  simp only [Sem.run_bind,hg,Result.andThen_ok,run_eql_struct,hr]
  rfl
 ·refine h.didP (fun w2=>?_) h8 (sc_rep rfl)
  rw [he2,g1,g3]
  simp only [Sem.run_bind,hg,Result.andThen_ok,run_neq_struct,hr]
  rfl
end
theorem quV_cmp {X:Cfg} {Post:Exit→Env→Prop} {e e':Env} {ops:Array Oper} {o:Oper} {l:List Oper} {op:BinOp} {t t':Nat} {x y:Operand} {p:Prop} (hH:p) (hp:cmpOk X.P t=true) (h:quV X ops l Post e') (hg:o.guard=none:=by rfl) (ho:o.op=.binOp op t x y t':=by rfl)
  (he:p→evCmp X.T o op t x y e=some e':=by
   intro hH
   simp only [hH,evCmp,Env.ag,eqF,eq1,eqV,scOf,evMove,evAssign,evPick,evBin,evUn,evExtract,Env.sure,evNil,evFieldAddr,evLoad,Env.int,Env.node,evIndexAddr,evIndex,evField,Env.bound,Env.cut,evSlice,V.alive,Env.takes,evAlloc,Ag.cells,evBox,Env.newListO,evMake,over,Env.solid,Env.solidG,Env.parts,Ty.places,evBuild,Env.rowsOf,chunk,evBuildSlice,Env.rows,isU8B,evLen,evMinMax,V.isSc,C.killN,Ag.map,Sl.map,slMap,Env.place,Env.lay,evStore,C.killA,scR_nil,scR_cons,alR_nil,alR_cons,Env.src,Env.newAt,evAppend,Env.take,V.get,V.set,V.rowAt,V.setRow,Option.getD_some,List.set_cons_zero,List.set_cons_succ,set_get,List.set_set,cellOf,cellsOf,Env.behind,Env.val,Env.sc,Env.cl,lk,setO,delO,constS,constC,plain,Env.putO,Env.put,tyBool,binV,unV,rK,rB,rS,rL,wk_fold,bI_add,bI_sub,bI_mul,bI_quo,bI_rem,bI_and,bI_or,bI_xor,bI_andNot,bI_eql,bI_neq,bI_lss,bI_leq,bI_gtr,bI_geq,bI_shl,bI_shr,bS_add,bS_eql,bS_neq,bS_lss,bS_leq,bS_gtr,bS_geq,bytesOf_rK,bytesL_rK,
      ↓reduceIte,eq_self,Option.isSome_some,Option.isSome_none,Option.bind_some,Option.bind_none,Option.map_some,Option.map_none,Bool.false_eq_true,Nat.reduceLT,Nat.reduceLeDiff,Nat.reduceEqDiff,Nat.reduceAdd,Nat.reduceMul,Nat.reduceSub,Int.reduceLT,Int.reduceEq,Int.reduceNeg,List.length_map,List.length_cons,List.length_nil,List.length_append,List.getElem?_map,List.map_cons,List.map_nil,true_or,or_true,or_false,false_or,and_true,true_and,and_self,not_true,not_false_eq_true,reduceCtorEq,List.all_cons,List.all_nil,Bool.and_true,Bool.true_and,ne_eq,List.drop_zero,List.nil_append,List.append_nil,List.singleton_append,List.cons_append,List.flatMap_cons,List.flatMap_nil,List.flatten_cons,List.flatten_nil,List.mapM_cons,List.mapM_nil,Option.pure_def,Option.bind_eq_bind,List.take_zero,List.take_succ_cons,List.drop_succ_cons,List.getElem?_cons_zero,List.getElem?_cons_succ,List.set_cons_zero,List.set_cons_succ,List.headD_cons,List.take_nil,List.drop_nil,Nat.sub_zero,Nat.add_zero,Nat.zero_add,Nat.zero_le,Nat.le_refl,← List.map_append,← List.map_take,← List.map_drop] <;> rfl):quV X ops (o :: l) Post e:=fun k a w ⟨D,hs,S,hd⟩=>by
 obtain ⟨u,h1,h2⟩:=evCmp_pure hd ho hp (he hH)
 have hw:Region.wanted o (yielded ops a.tmps)=true:=by simp [Region.wanted,hg]
 unfold wpQuiet
 rw [if_pos hw]
 exact ⟨u,fun w' hw'=>by unfold Oper.quietAt; rw [h1 w']; exact ⟨rfl,rfl⟩,h k _ w h2⟩
theorem opsV_1 {X:Cfg} {Post:Exit→Env→Prop} {e e':Env} {ops:Array Oper} {o:Oper} {l:List Oper} {p:Prop} (hH:p) (h:opsV X ops l Post e') (hg:o.guard=none:=by rfl)
  (he:p→evOp X.T o e=some e':=by
   intro hH
   simp only [hH,evOp,evConv,evMove,evAssign,evPick,evBin,evUn,evExtract,Env.sure,evNil,evFieldAddr,evLoad,Env.int,Env.node,evIndexAddr,evIndex,evField,Env.bound,Env.cut,evSlice,V.alive,Env.takes,evAlloc,Ag.cells,evBox,Env.newListO,evMake,over,Env.solid,Env.solidG,Env.parts,Ty.places,evBuild,Env.rowsOf,chunk,evBuildSlice,Env.rows,isU8B,evLen,evMinMax,V.isSc,C.killN,Ag.map,Sl.map,slMap,Env.place,Env.lay,evStore,C.killA,scR_nil,scR_cons,alR_nil,alR_cons,Env.src,Env.newAt,evAppend,Env.take,V.get,V.set,V.rowAt,V.setRow,Option.getD_some,List.set_cons_zero,List.set_cons_succ,set_get,List.set_set,cellOf,cellsOf,Env.behind,Env.val,Env.sc,Env.cl,lk,setO,delO,constS,constC,plain,Env.putO,Env.put,tyBool,binV,unV,rK,rB,rS,rL,wk_fold,bI_add,bI_sub,bI_mul,bI_quo,bI_rem,bI_and,bI_or,bI_xor,bI_andNot,bI_eql,bI_neq,bI_lss,bI_leq,bI_gtr,bI_geq,bI_shl,bI_shr,bS_add,bS_eql,bS_neq,bS_lss,bS_leq,bS_gtr,bS_geq,bytesOf_rK,bytesL_rK,
    ↓reduceIte,eq_self,Option.isSome_some,Option.isSome_none,Option.bind_some,Option.bind_none,Option.map_some,Option.map_none,Bool.false_eq_true,Nat.reduceLT,Nat.reduceLeDiff,Nat.reduceEqDiff,Nat.reduceAdd,Nat.reduceMul,Nat.reduceSub,Int.reduceLT,Int.reduceEq,Int.reduceNeg,List.length_map,List.length_set,List.length_cons,List.length_nil,List.length_append,List.getElem?_map,List.map_cons,List.map_nil,true_or,or_true,or_false,false_or,and_true,true_and,and_self,not_true,not_false_eq_true,reduceCtorEq,List.all_cons,List.all_nil,Bool.and_true,Bool.true_and,ne_eq,List.drop_zero,List.nil_append,List.append_nil,List.singleton_append,List.cons_append,List.flatMap_cons,List.flatMap_nil,List.flatten_cons,List.flatten_nil,List.mapM_cons,List.mapM_nil,Option.pure_def,Option.bind_eq_bind,List.take_zero,List.take_succ_cons,List.drop_succ_cons,List.getElem?_cons_zero,List.getElem?_cons_succ,List.set_cons_zero,List.set_cons_succ,List.headD_cons,List.take_nil,List.drop_nil,Nat.sub_zero,Nat.add_zero,Nat.zero_add,Nat.zero_le,Nat.le_refl,← List.map_append,← List.map_take,← List.map_drop]
   with_reducible rfl):opsV X ops (o :: l) Post e:=opsV_op hg (evOp_ok (he hH)) h
end Go.TV
