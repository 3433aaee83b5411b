/- Memory told as trees, part 5. -/
import Derived.Test.YtmoglghkjfjalaaKFnBlendsT2
import Derived.Test.YtmoglghkjfjalaaKFnBlendsT3
import Derived.KernelRfl
set_option linter.unusedVariables false
set_option linter.unusedSimpArgs false
set_option maxHeartbeats 8000000
set_option maxRecDepth 100000
set_option maxRecDepth 100000
namespace Go.TV
theorem scRw {α:Type} {f:α→List V} (h:∀ x,(f x).all V.isSc=true):∀ l:List α,scRows (l.map f)=true
 | []=>rfl
 | x :: l=>by rw [List.map_cons,qM,h x,scRw h l]; rfl
def Tl {ρ:Type} (H:Prop) (t:Option ρ) (r:ρ) (G:Prop):Prop:=H→t=some r→G
section
variable {ρ:Type} {H:Prop} {t:Option ρ} {r:ρ} {G:Prop}
theorem tl (h:t=some r) (k:Tl H t r G):H→G:=fun a=>k a h
theorem th (hH:H) (h:t=some r) (k:Tl H t r G):G:=k hH h
theorem fk {p:Prop} (hp:p) (k:Tl (p∧H) t r G):Tl H t r G:=fun a b=>k ⟨hp,a⟩ b
theorem nn:Tl H (none:Option ρ) r G:=fun _ h=>by cases h
theorem t0 (h:H→G):Tl H t r G:=fun a _=>h a
def HdO (G:Prop) (o:Oper):Prop:=True
def isIx (o:Oper):Bool:=match o.op with | .indexAddr ..=>true | _=>false
def isSx (o:Oper):Bool:=match o.op with | .index ..=>true | _=>false
def isSl (o:Oper):Bool:=match o.op with | .slice ..=>true | _=>false
def isMk (o:Oper):Bool:=match o.op with | .makeSlice ..=>true | _=>false
def isAp (o:Oper):Bool:=match o.op with | .call {callee:=.builtin .append,args:=_,argTypes:=_}=>true | _=>false
def isAd (o:Oper):Bool:=match o.op with | .binOp .add ..=>true | _=>false
def isBs (o:Oper):Bool:=match o.op with | .buildSlice ..=>true | _=>false
def isDv (o:Oper):Bool:=match o.op with | .binOp .quo .. | .binOp .rem .. | .binOp .shl .. | .binOp .shr ..=>true | _=>false
section
variable {α β:Type} {k:α→Option ρ}
theorem bx {f:Option α} (h:∀ x,f=some x→Tl H (k x) r G):Tl H (f.bind k) r G:=fun a b=>by
 obtain ⟨x,h1,h2⟩:=zbi b
 exact h x h1 a h2
theorem ba {m:Option β} {f:β→Option α} (h:Tl H (m.bind fun x=>(f x).bind k) r G):Tl H ((m.bind f).bind k) r G:=fun a b=>h a (by rw [← b,Option.bind_assoc])
theorem bs {v:α} (h:Tl H (k v) r G):Tl H ((some v).bind k) r G:=h
theorem b_geti {α:Type} {l:List α} {i:Int} {k:α→Option ρ} {o:Oper} (hh:HdO G o) (hk:isIx o=true) (h:∀ x,zF l i=some x→Tl ((((i < 0)=False)∧((i.toNat < l.length)=True)∧l[i.toNat]? = some x)∧H) (k x) r G):Tl H ((zF l i).bind k) r G:=bx fun x v=>fk (geti_f v) (h x v)
theorem b_sidx {s:ByteArray} {i:Int} {k:Int→Option ρ} {o:Oper} (hh:HdO G o) (hk:isSx o=true) (h:∀ x,sidx s i=some x→Tl ((((i < 0)=False)∧((i.toNat < s.size)=True)∧bt s i.toNat=x)∧H) (k x) r G):Tl H ((sidx s i).bind k) r G:=bx fun x v=>fk (sidx_f v) (h x v)
theorem b_sub2 {s:ByteArray} {lo hi:Int} {k:ByteArray→Option ρ} {o:Oper} (hh:HdO G o) (hk:isSl o=true) (h:∀ x,sub2 s lo hi=some x→Tl ((((lo < 0)=False)∧((hi < 0)=False)∧((lo.toNat≤hi.toNat∧hi.toNat≤s.size)=True)∧s.extract lo.toNat hi.toNat=x)∧H) (k x) r G):Tl H ((sub2 s lo hi).bind k) r G:=bx fun x v=>fk (sub2_f v) (h x v)
theorem b_subL {s:ByteArray} {lo:Int} {k:ByteArray→Option ρ} {o:Oper} (hh:HdO G o) (hk:isSl o=true) (h:∀ x,subL s lo=some x→Tl ((((lo < 0)=False)∧((lo.toNat≤s.size)=True)∧s.extract lo.toNat s.size=x)∧H) (k x) r G):Tl H ((subL s lo).bind k) r G:=bx fun x v=>fk (subL_f v) (h x v)
theorem b_subH {s:ByteArray} {hi:Int} {k:ByteArray→Option ρ} {o:Oper} (hh:HdO G o) (hk:isSl o=true) (h:∀ x,subH s hi=some x→Tl ((((hi < 0)=False)∧((hi.toNat≤s.size)=True)∧s.extract 0 hi.toNat=x)∧H) (k x) r G):Tl H ((subH s hi).bind k) r G:=bx fun x v=>fk (subH_f v) (h x v)
theorem b_cut2 {α:Type} {l:List α} {lo hi:Int} {k:List α→Option ρ} {o:Oper} (hh:HdO G o) (hk:isSl o=true) (h:∀ x,cut2 l lo hi=some x→Tl ((((lo < 0)=False)∧((hi < 0)=False)∧((lo.toNat≤hi.toNat∧hi.toNat≤l.length)=True)∧(l.drop lo.toNat).take (hi.toNat - lo.toNat)=x)∧H) (k x) r G):Tl H ((cut2 l lo hi).bind k) r G:=bx fun x v=>fk (cut2_f v) (h x v)
theorem b_cutL {α:Type} {l:List α} {lo:Int} {k:List α→Option ρ} {o:Oper} (hh:HdO G o) (hk:isSl o=true) (h:∀ x,cutL l lo=some x→Tl ((((lo < 0)=False)∧((lo.toNat≤l.length)=True)∧(l.drop lo.toNat).take (l.length - lo.toNat)=x)∧H) (k x) r G):Tl H ((cutL l lo).bind k) r G:=bx fun x v=>fk (cutL_f v) (h x v)
theorem b_cutH {α:Type} {l:List α} {hi:Int} {k:List α→Option ρ} {o:Oper} (hh:HdO G o) (hk:isSl o=true) (h:∀ x,cutH l hi=some x→Tl ((((hi < 0)=False)∧((hi.toNat≤l.length)=True)∧l.take hi.toNat=x)∧H) (k x) r G):Tl H ((cutH l hi).bind k) r G:=bx fun x v=>fk (cutH_f v) (h x v)
theorem b_mkl {α:Type} {n m:Int} {z:α} {k:List α→Option ρ} {o:Oper} (hh:HdO G o) (hk:isMk o=true) (h:∀ x,mkl n m z=some x→Tl ((((0≤n)=True)∧((n≤m)=True)∧((m≤1099511627776)=True)∧List.replicate n.toNat z=x)∧H) (k x) r G):Tl H ((mkl n m z).bind k) r G:=bx fun x v=>fk (mkl_f v) (h x v)
theorem b_app1 {α:Type} {l:List α} {a:α} {k:List α→Option ρ} {o:Oper} (hh:HdO G o) (hk:isAp o=true) (h:∀ x,appn l [a]=some x→Tl ((((l.length+1≤549755813888)=True)∧l++[a]=x)∧H) (k x) r G):Tl H ((appn l [a]).bind k) r G:=bx fun x v=>fk (app1_f v) (h x v)
theorem b_app2 {α:Type} {l:List α} {a b:α} {k:List α→Option ρ} {o:Oper} (hh:HdO G o) (hk:isAp o=true) (h:∀ x,appn l [a,b]=some x→Tl ((((l.length+2≤549755813888)=True)∧l++[a,b]=x)∧H) (k x) r G):Tl H ((appn l [a,b]).bind k) r G:=bx fun x v=>fk (app2_f v) (h x v)
theorem b_app3 {α:Type} {l:List α} {a b c:α} {k:List α→Option ρ} {o:Oper} (hh:HdO G o) (hk:isAp o=true) (h:∀ x,appn l [a,b,c]=some x→Tl ((((l.length+3≤549755813888)=True)∧l++[a,b,c]=x)∧H) (k x) r G):Tl H ((appn l [a,b,c]).bind k) r G:=bx fun x v=>fk (app3_f v) (h x v)
theorem b_app4 {α:Type} {l:List α} {a b c d:α} {k:List α→Option ρ} {o:Oper} (hh:HdO G o) (hk:isAp o=true) (h:∀ x,appn l [a,b,c,d]=some x→Tl ((((l.length+4≤549755813888)=True)∧l++[a,b,c,d]=x)∧H) (k x) r G):Tl H ((appn l [a,b,c,d]).bind k) r G:=bx fun x v=>fk (app4_f v) (h x v)
theorem b_appn {α:Type} {l m:List α} {k:List α→Option ρ} {o:Oper} (hh:HdO G o) (hk:isAp o=true) (h:∀ x,appn l m=some x→Tl ((((l.length+m.length≤549755813888)=True)∧l++m=x)∧H) (k x) r G):Tl H ((appn l m).bind k) r G:=bx fun x v=>fk (appn_f v) (h x v)
theorem b_ins1 {α:Type} {l:List α} {i:Int} {a:α} {k:List α→Option ρ} {o:Oper} (hh:HdO G o) (hk:isBs o=true) (h:∀ x,ins1 l i a=some x→Tl ((((0≤i)=True)∧((i≤(l.length:Int))=True)∧((l.length≤549755813887)=True)∧l.take i.toNat++[a]++l.drop i.toNat=x)∧H) (k x) r G):Tl H ((ins1 l i a).bind k) r G:=bx fun x v=>fk (ins1_f v) (h x v)
theorem b_sapp {s t:ByteArray} {k:ByteArray→Option ρ} {o:Oper} (hh:HdO G o) (hk:isAd o=true) (h:∀ x,sapp s t=some x→Tl ((((s.size+t.size≤4611686018427387904)=True)∧s++t=x)∧H) (k x) r G):Tl H ((sapp s t).bind k) r G:=bx fun x v=>fk (sapp_f v) (h x v)
theorem b_chk {p:Prop} [Decidable p] {k:Unit→Option ρ} {o:Oper} (hh:HdO G o) (hk:isDv o=true) (h:∀ x,chk (¬p)=some x→Tl ((p=False)∧H) (k x) r G):Tl H ((chk (¬p)).bind k) r G:=bx fun x v=>fk (chkF v) (h x v)
end
section
variable {X:Cfg} {Post:Exit→Env→Prop} {e e':Env} {ops:Array Oper} {o:Oper} {l:List Oper} {c d:Code} {j n:Nat} {want b:Bool} {Q:Prop}
theorem l_seqR {id:Nat} {dr:Bool} (h:Tl H t r (wpV X (.region id ops dr) (seqV X d Post) e)):Tl H t r (wpV X (.seq (.region id ops dr) d) Post e):=fun a b=>wpV_seq1 (h a b)
theorem l_reg {id:Nat} (h:Tl H t r (opsV X l.toArray l Post e)):Tl H t r (wpV X (.region id l.toArray false) Post e):=fun a b=>wpV_region (h a b)
theorem l_blk {id:Nat} (h:Tl H t r (wpV X c (blockV id Post) e)):Tl H t r (wpV X (.block id c) Post e):=fun a b=>wpV_block (h a b)
theorem l_nil (h:Tl H t r Q) (hq:Q→Post .normal e):Tl H t r (opsV X ops [] Post e):=fun a b=>zD (hq (h a b))
theorem l_qnil (h:Tl H t r Q) (hq:Q→Post .normal e):Tl H t r (quV X ops [] Post e):=fun a b=>quV_nil (hq (h a b))
theorem l_skip (h:Tl H t r Q) (hq:Q→Post .normal e):Tl H t r (wpV X .skip Post e):=fun a b=>wpV_skip (hq (h a b))
theorem l_ret (h:Tl H t r Q) (hq:Q→Post .ret e):Tl H t r (wpV X .ret Post e):=fun a b=>wpV_ret (hq (h a b))
theorem l_exit {id:Nat} (h:Tl H t r Q) (hq:Q→Post (.exit id) e):Tl H t r (wpV X (.exit id) Post e):=fun a b=>wpV_exit (hq (h a b))
def autoB (o:Oper):Bool:=match o.op with
 | .assign (.const (.slice ..)) | .move (.const (.slice ..)) | .store _ _ (.const (.slice ..)) | .slice .. | .alloc _=>false
 | _=>true
theorem rq {id:Nat} (h:Tl H t r (quV X l.toArray l Post e)) (hB:Region.lexB .any l.toArray=true:=by decide +kernel):Tl H t r (wpV X (.region id l.toArray true) Post e):=fun a b=>wpV_quiet (h a b) hB
theorem l_op (hg:o.guard=none) (hk:autoB o=true) (he:H→evOp X.T o e=some e') (h:Tl H t r (opsV X ops l Post e')):Tl H t r (opsV X ops (o :: l) Post e):=fun a b=>opsV_op hg (evOp_ok (he a)) (h a b)
theorem l1 (h:Tl H t r (opsV X ops l Post e')) (hg:o.guard=none:=by rfl) (he:H→evOp X.T o e=some e':=by
   intro hH
   simp only [hH,evOp,evConv,evMove,qE,evPick,evBin,evUn,zY,Env.sure,evNil,zM,evLoad,Env.int,Env.node,zL,evIndex,evField,Env.bound,Env.cut,evSlice,V.alive,Env.takes,evAlloc,Ag.cells,evBox,Env.newListO,evMake,over,Env.solid,Env.solidG,Env.parts,Ty.places,evBuild,Env.rowsOf,chunk,zO,Env.rows,isU8B,evLen,zR,V.isSc,C.killN,Ag.map,Sl.map,slMap,Env.place,Env.lay,evStore,C.killA,scR_nil,qM,alR_nil,alR_cons,Env.src,Env.newAt,qJ,Env.take,V.get,V.set,V.rowAt,V.setRow,Option.getD_some,List.set_cons_zero,List.set_cons_succ,zT,List.set_set,cellOf,cellsOf,Env.behind,Env.val,Env.sc,Env.cl,lk,setO,delO,zZ,zV,plain,Env.putO,Env.put,tyBool,binV,unV,rK,rB,rS,rL,wk_fold,bI_add,bI_sub,bI_mul,bI_quo,bI_rem,bI_and,bI_or,bI_xor,qH,bI_eql,bI_neq,bI_lss,bI_leq,bI_gtr,bI_geq,bI_shl,bI_shr,bS_add,bS_eql,bS_neq,bS_lss,bS_leq,bS_gtr,bS_geq,qA,qG,
      ↓reduceIte,eq_self,Option.isSome_some,Option.isSome_none,Option.bind_some,Option.bind_none,Option.map_some,Option.map_none,Bool.false_eq_true,Nat.reduceLT,Nat.reduceLeDiff,Nat.reduceEqDiff,Nat.reduceAdd,Nat.reduceMul,Nat.reduceSub,Int.reduceLT,Int.reduceEq,Int.reduceNeg,List.length_map,List.length_set,List.length_cons,List.length_nil,List.length_append,List.getElem?_map,List.map_cons,List.map_nil,true_or,or_true,or_false,false_or,and_true,true_and,and_self,not_true,not_false_eq_true,reduceCtorEq,List.all_cons,List.all_nil,Bool.and_true,Bool.true_and,ne_eq,List.drop_zero,List.nil_append,List.append_nil,List.singleton_append,List.cons_append,List.flatMap_cons,List.flatMap_nil,List.flatten_cons,List.flatten_nil,List.mapM_cons,List.mapM_nil,Option.pure_def,Option.bind_eq_bind,List.take_zero,List.take_succ_cons,List.drop_succ_cons,List.getElem?_cons_zero,List.getElem?_cons_succ,List.set_cons_zero,List.set_cons_succ,List.headD_cons,List.take_nil,List.drop_nil,Nat.sub_zero,Nat.add_zero,Nat.zero_add,Nat.zero_le,Nat.le_refl,← List.map_append,← List.map_take,← List.map_drop]
   with_reducible rfl):Tl H t r (opsV X ops (o :: l) Post e):=fun a b=>opsV_op hg (evOp_ok (he a)) (h a b)
theorem oI {o1 o2:Oper} {f t1 len el tx d1:Nat} {ps:Array (Nat×Operand)} {ix:Operand} {ts:Array TypeId} {d de:TyI} {fn:Func} (ht:X.T t1=some d) (hte:X.T el=some de) (hR:InsRaw X.P f t1 el de.size) (h:Tl H t r (opsV X ops l Post e'))
  (hg1:o1.guard=none:=by rfl) (ho1:o1.op=.buildSlice t1 len ps:=by rfl) (hd1:o1.dst=some d1:=by rfl) (hg2:o2.guard=none:=by rfl) (ho2:o2.op=.call {callee:=.value (.func f),args:=#[.tmp tx,ix,.tmp d1],argTypes:=ts}:=by rfl)
  (hf1 : X.P.funcs[f]? = some fn := by rfl) (hf2 : fn.body.isSome = true := by rfl) (hf3 : (fn.name == "runtime.NumGoroutine") = false := by rfl) (hk : d.kd = .slice el := by rfl)
  (he:H→evIns X.T o2 t1 len ps.toList tx d1 ix e=some e':=by
   intro hH
   simp only [hH,evIns,Env.take,evMove,qE,evPick,evBin,evUn,zY,Env.sure,evNil,zM,evLoad,Env.int,Env.node,zL,evIndex,evField,Env.bound,Env.cut,evSlice,V.alive,Env.takes,evAlloc,Ag.cells,evBox,Env.newListO,evMake,over,Env.solid,Env.solidG,Env.parts,Ty.places,evBuild,Env.rowsOf,chunk,zO,Env.rows,isU8B,evLen,zR,V.isSc,C.killN,Ag.map,Sl.map,slMap,Env.place,Env.lay,evStore,C.killA,scR_nil,qM,alR_nil,alR_cons,Env.src,Env.newAt,qJ,Env.take,V.get,V.set,V.rowAt,V.setRow,Option.getD_some,List.set_cons_zero,List.set_cons_succ,zT,List.set_set,cellOf,cellsOf,Env.behind,Env.val,Env.sc,Env.cl,lk,setO,delO,zZ,zV,plain,Env.putO,Env.put,tyBool,binV,unV,rK,rB,rS,rL,wk_fold,bI_add,bI_sub,bI_mul,bI_quo,bI_rem,bI_and,bI_or,bI_xor,qH,bI_eql,bI_neq,bI_lss,bI_leq,bI_gtr,bI_geq,bI_shl,bI_shr,bS_add,bS_eql,bS_neq,bS_lss,bS_leq,bS_gtr,bS_geq,qA,qG,
      ↓reduceIte,eq_self,Option.isSome_some,Option.isSome_none,Option.bind_some,Option.bind_none,Option.map_some,Option.map_none,Bool.false_eq_true,Nat.reduceLT,Nat.reduceLeDiff,Nat.reduceEqDiff,Nat.reduceAdd,Nat.reduceMul,Nat.reduceSub,Int.reduceLT,Int.reduceEq,Int.reduceNeg,List.length_map,List.length_set,List.length_cons,List.length_nil,List.length_append,List.getElem?_map,List.map_cons,List.map_nil,true_or,or_true,or_false,false_or,and_true,true_and,and_self,not_true,not_false_eq_true,reduceCtorEq,List.all_cons,List.all_nil,Bool.and_true,Bool.true_and,ne_eq,List.drop_zero,List.nil_append,List.append_nil,List.singleton_append,List.cons_append,List.flatMap_cons,List.flatMap_nil,List.flatten_cons,List.flatten_nil,List.mapM_cons,List.mapM_nil,Option.pure_def,Option.bind_eq_bind,List.take_zero,List.take_succ_cons,List.drop_succ_cons,List.getElem?_cons_zero,List.getElem?_cons_succ,List.set_cons_zero,List.set_cons_succ,List.headD_cons,List.take_nil,List.drop_nil,Nat.sub_zero,Nat.add_zero,Nat.zero_add,Nat.zero_le,Nat.le_refl,← List.map_append,← List.map_take,← List.map_drop] <;> rfl):Tl H t r (opsV X ops (o1 :: o2 :: l) Post e):=fun a b=>opsV_ins hg1 ho1 hd1 hg2 ho2 hf1 hf2 hf3 ht hk hte hR (he a) (h a b)
theorem l_on {oj:Oper} (hg:o.guard=some (j,want)) (hj:ops[j]? = some oj) (hjd:oj.dst=some n) (hb:H→e.sc (.tmp n)=some (.bool want)) (h:Tl H t r (opsV X ops ({o with guard:=none} :: l) Post e)):Tl H t r (opsV X ops (o :: l) Post e):=fun a b=>opsV_on hg hj hjd (hb a) (h a b)
theorem l_off {oj:Oper} (hg:o.guard=some (j,want)) (hj:ops[j]? = some oj) (hjd:oj.dst=some n) (hb:H→e.sc (.tmp n)=some (.bool !want)) (he:e.putO o.dst (.tup [])=some e') (h:Tl H t r (opsV X ops l Post e')):Tl H t r (opsV X ops (o :: l) Post e):=fun a b=>opsV_off hg hj hjd (hb a) he (h a b)
theorem l_dead {oj:Oper} (hg:o.guard=some (j,want)) (hj:ops[j]? = some oj) (hjd:oj.dst=some n) (hb:e.val (.tmp n)=some (.tup [])) (he:e.putO o.dst (.tup [])=some e') (h:Tl H t r (opsV X ops l Post e')):Tl H t r (opsV X ops (o :: l) Post e):=fun a b=>opsV_dead hg hj hjd hb he (h a b)
theorem hd_o:HdO (opsV X ops (o :: l) Post e) o:=trivial
theorem hd_q:HdO (quV X ops (o :: l) Post e) o:=trivial
theorem l_qop (hg:o.guard=none) (he:H→evQuiet X.T o e=some e') (h:Tl H t r (quV X ops l Post e')):Tl H t r (quV X ops (o :: l) Post e):=fun a b=>quV_op hg (he a) (h a b)
theorem l_qon {oj:Oper} (hg:o.guard=some (j,want)) (hj:ops[j]? = some oj) (hjd:oj.dst=some n) (hb:H→e.sc (.tmp n)=some (.bool want)) (h:Tl H t r (quV X ops ({o with guard:=none} :: l) Post e)):Tl H t r (quV X ops (o :: l) Post e):=fun a b=>quV_on hg hj hjd (hb a) (h a b)
theorem l_qoff {oj:Oper} (hg:o.guard=some (j,want)) (hj:ops[j]? = some oj) (hjd:oj.dst=some n) (hb:H→e.sc (.tmp n)=some (.bool !want)) (he:e.putO o.dst (.tup [])=some e') (h:Tl H t r (quV X ops l Post e')):Tl H t r (quV X ops (o :: l) Post e):=fun a b=>quV_off hg hj hjd (hb a) he (h a b)
theorem l_qdead {oj:Oper} (hg:o.guard=some (j,want)) (hj:ops[j]? = some oj) (hjd:oj.dst=some n) (hb:e.val (.tmp n)=some (.tup [])) (he:e.putO o.dst (.tup [])=some e') (h:Tl H t r (quV X ops l Post e')):Tl H t r (quV X ops (o :: l) Post e):=fun a b=>quV_dead hg hj hjd hb he (h a b)
theorem sq (h:Tl H t r (wpV X c (seqV X d Post) e)):Tl H t r (wpV X (.seq c d) Post e):=fun a b=>wpV_seq1 (h a b)
theorem lf {G':Prop} (h:Tl H t r G') (k:H→G'→G):Tl H t r G:=fun a b=>k a (h a b)
theorem sp {x:Operand} {t1 t2:Option ρ} (h1:Tl H t1 r (wpV X c Post e)) (h2:Tl H t2 r (wpV X d Post e)) (hx:H→e.sc x=some (.bool b):=by (intro hH; simp only [hH,Env.sc,Env.val,lk,↓reduceIte,Nat.reduceEqDiff] <;> rfl)):Tl H (if b=true then t1 else t2) r (wpV X (.cond x c d) Post e):=fun a q =>
 wpV_cond (hx a) (fun hb=>h1 a (by rw [← q,if_pos hb])) (fun hb=>h2 a (by rw [← q,if_neg (by simp [hb])]))
theorem jn (J:Env→Prop) (h1:Tl H t r (wpV X c (thenV (Shd J) Post) e)) (h2:∀ e',J e'→H→wpV X d Post e'):Tl H t r (wpV X (.seq c d) Post e):=fun a b=>wpV_seqJ J (h1 a b) (fun e' q=>h2 e' q a)
theorem je {I:Env→Prop} (ks:List Nat) (os:List (Nat×Nat)) (nx:Nat) (h:t=some r→I e') (he:e.shed ks os nx=some e':=by
 simp only [Env.shed,shedS,shedO,lk,delO,C.ren,Ag.map,Sl.map,List.map_cons,List.map_nil,↓reduceIte,eq_self,Option.isSome_some,Option.isSome_none,Option.bind_some,Option.map_some,Nat.reduceEqDiff,Nat.reduceLT,Nat.reduceLeDiff,true_or,or_true,or_false,false_or,and_true,true_and,not_true,not_false_eq_true,Bool.false_eq_true,implies_true,imp_self,false_implies,Nat.le_refl] <;> rfl):Tl H t r (Shd I e):=fun _ b=>.of ks os nx he (h b)
def lpP {σ π:Type} (I:σ→Env→Prop) (k:π→Option ρ) (r:ρ) (y:σ⊕π) (Post:Exit→Env→Prop):Exit→Env→Prop
 | .normal,e=>Shd (fun e'=>∃ s',y=.inl s'∧I s' e') e
 | x,e=>∃ r',y=.inr r'∧(k r'=some r→Post x e)
theorem lp {σ π:Type} {body:σ→Option (σ⊕π)} {s:σ} {k:π→Option ρ} {e1:Env} (I:σ→Env→Prop) (ks:List Nat) (os:List (Nat×Nat)) (nx:Nat) (hI:I s e1) (hb:∀ s e',I s e'→∀ y,Tl H (body s) y (wpV X c (lpP I k r y Post) e')) (he:e.shed ks os nx=some e1:=by
 simp only [Env.shed,shedS,shedO,lk,delO,C.ren,Ag.map,Sl.map,List.map_cons,List.map_nil,↓reduceIte,eq_self,Option.isSome_some,Option.isSome_none,Option.bind_some,Option.map_some,Nat.reduceEqDiff,Nat.reduceLT,Nat.reduceLeDiff,true_or,or_true,or_false,false_or,and_true,true_and,not_true,not_false_eq_true,Bool.false_eq_true,implies_true,imp_self,false_implies,Nat.le_refl] <;> rfl):Tl H ((zI body s).bind k) r (wpV X (.loop c) Post e):=fun a b=>by
 have h0:Shd (I s) e:=.of ks os nx he hI
 obtain ⟨p,h1,h2⟩:=zbi b
 refine wpV_loopM I h1 h0 (fun s y e' g1 g2=>wpV_mono (hb s e' g2 y a g1) (fun x e'' q=>?_))
 cases x with
 | normal=>exact q
 | _ =>
  obtain ⟨r',q1,q2⟩:=q
  exact ⟨r',q1,fun q3=>q2 (by rw [q3]; exact h2)⟩
theorem bk {σ π:Type} {I:σ→Env→Prop} {k:π→Option ρ} {s:σ} {y:σ⊕π} {r0:ρ} (ks:List Nat) (os:List (Nat×Nat)) (nx:Nat) (h:I s e') (he:e.shed ks os nx=some e':=by
 simp only [Env.shed,shedS,shedO,lk,delO,C.ren,Ag.map,Sl.map,List.map_cons,List.map_nil,↓reduceIte,eq_self,Option.isSome_some,Option.isSome_none,Option.bind_some,Option.map_some,Nat.reduceEqDiff,Nat.reduceLT,Nat.reduceLeDiff,true_or,or_true,or_false,false_or,and_true,true_and,not_true,not_false_eq_true,Bool.false_eq_true,implies_true,imp_self,false_implies,Nat.le_refl] <;> rfl):Tl H (some (.inl s)) y (lpP I k r0 y Post .normal e):=fun _ b=>(show Shd (fun e'=>∃ s',y=.inl s'∧I s' e') e from .of ks os nx he ⟨s,(zso b).symm,h⟩)
theorem exN {σ π:Type} {I:σ→Env→Prop} {k:π→Option ρ} {v:π} {y:σ⊕π} {i:Nat} (h:Tl H (k v) r Q) (hq:Q→Post (.exit i) e):Tl H (some (.inr v)) y (lpP I k r y Post (.exit i) e):=fun a b=>⟨v,(zso b).symm,fun q=>hq (h a q)⟩
theorem exR {σ π:Type} {I:σ→Env→Prop} {k:π→Option ρ} {v:π} {y:σ⊕π} (h:Tl H (k v) r Q) (hq:Q→Post .ret e):Tl H (some (.inr v)) y (lpP I k r y Post .ret e):=fun a b=>⟨v,(zso b).symm,fun q=>hq (h a q)⟩
theorem exM {σ π:Type} {I:σ→Env→Prop} {k:π→Option ρ} {f:Option ρ} {g:ρ→π} {y:σ⊕π} {i:Nat} (h:Tl H f r Q) (hq:Q→Post (.exit i) e) (hk:∀ c,k (g c)=some c):Tl H (f.map fun c=>(Sum.inr (g c):σ⊕π)) y (lpP I k r y Post (.exit i) e):=fun a b=>by
 obtain ⟨c,h1,rfl⟩:=Option.map_eq_some_iff.1 b
 exact ⟨g c,rfl,fun q=>hq (h a (by rw [hk] at q; rw [h1,q]))⟩
theorem exMR {σ π:Type} {I:σ→Env→Prop} {k:π→Option ρ} {f:Option ρ} {g:ρ→π} {y:σ⊕π} (h:Tl H f r Q) (hq:Q→Post .ret e) (hk:∀ c,k (g c)=some c):Tl H (f.map fun c=>(Sum.inr (g c):σ⊕π)) y (lpP I k r y Post .ret e):=fun a b=>by
 obtain ⟨c,h1,rfl⟩:=Option.map_eq_some_iff.1 b
 exact ⟨g c,rfl,fun q=>hq (h a (by rw [hk] at q; rw [h1,q]))⟩
def cutP (J:Env→Prop):Exit→Env→Prop:=fun x e=>x=.normal∧Shd J e
theorem cpN {J:Env→Prop} {e:Env} (h:Shd J e):cutP J .normal e:=⟨rfl,h⟩
def cutQ {π:Type} (J:π→Env→Prop) (p:π):Exit→Env→Prop:=fun x e=>x=.normal∧Shd (J p) e
theorem gc {π:Type} {k:π→Option ρ} {t1:Option π} {l1 l2:List Oper} (m:Nat) (J:π→Env→Prop) (h1:∀ p,Tl H t1 p (opsV X ops l1 (cutQ J p) e)) (h2:∀ p e',J p e'→Tl H (k p) r (opsV X ops l2 Post e')) (e1:l.take m=l1:=by (simp only [List.take_succ_cons,List.take_zero]; rfl)) (e2:l.drop m=l2:=by (simp only [List.drop_succ_cons,List.drop_zero]; rfl)):Tl H (t1.bind k) r (opsV X ops l Post e):=fun a b=>by
 obtain ⟨p,g1,g2⟩:=zbi b
 exact opsV_cut m (J p) (by rw [e1]; exact h1 p a g1) (fun e' q=>by rw [e2]; exact h2 p e' q a g2)
theorem qc {π:Type} {k:π→Option ρ} {t1:Option π} {l1 l2:List Oper} (m:Nat) (J:π→Env→Prop) (h1:∀ p,Tl H t1 p (quV X ops l1 (cutQ J p) e)) (h2:∀ p e',J p e'→Tl H (k p) r (quV X ops l2 Post e')) (e1:l.take m=l1:=by (simp only [List.take_succ_cons,List.take_zero]; rfl)) (e2:l.drop m=l2:=by (simp only [List.drop_succ_cons,List.drop_zero]; rfl)):Tl H (t1.bind k) r (quV X ops l Post e):=fun a b=>by
 obtain ⟨p,g1,g2⟩:=zbi b
 exact quV_cut m (J p) (by rw [e1]; exact h1 p a g1) (fun e' q=>by rw [e2]; exact h2 p e' q a g2)
theorem ge {π:Type} {v p:π} {J:π→Env→Prop} (ks:List Nat) (os:List (Nat×Nat)) (nx:Nat) (h:J v e') (he:e.shed ks os nx=some e':=by
 simp only [Env.shed,shedS,shedO,lk,delO,C.ren,Ag.map,Sl.map,List.map_cons,List.map_nil,↓reduceIte,eq_self,Option.isSome_some,Option.isSome_none,Option.bind_some,Option.map_some,Nat.reduceEqDiff,Nat.reduceLT,Nat.reduceLeDiff,true_or,or_true,or_false,false_or,and_true,true_and,not_true,not_false_eq_true,Bool.false_eq_true,implies_true,imp_self,false_implies,Nat.le_refl] <;> rfl):Tl H (some v) p (cutQ J p .normal e):=fun _ b=>⟨rfl,.of ks os nx he (zso b ▸ h)⟩
theorem opsV_spL {π:Type} {p:π} {t1 t2:Option π} {oj:Oper} {e1 e2:Env} (h1:Tl H t1 p (opsV X ops ({o with guard:=none} :: l) Post e1)) (h2:Tl H t2 p (opsV X ops l Post e2))
  (hg:o.guard=some (j,true):=by rfl) (hj:ops[j]? = some oj:=by rfl) (hjd:oj.dst=some n:=by rfl) (hb:e.sc (.tmp n)=some (.bool b):=by (simp only [Env.sc,Env.val,lk,reduceIte,Nat.reduceEqDiff] <;> rfl)) (he1:e.put n (.pl (.one (.v (.sc (.bool true)))))=e1:=by (simp only [Env.put]; rfl)) (he2:(e.put n (.pl (.one (.v (.sc (.bool !true)))))).putO o.dst (.tup [])=some e2:=by (simp only [Env.putO,Env.put,Bool.not_true,Bool.not_false,reduceIte,Nat.reduceLT]; rfl)):Tl H (if b=true then t1 else t2) p (opsV X ops (o :: l) Post e):=fun a q =>
 opsV_sp (fun hb=>h1 a (by rw [← q,if_pos hb])) (fun hb=>h2 a (by rw [← q,if_neg (by simp [hb])])) hg hj hjd hb he1 he2
theorem opsV_spR {π:Type} {p:π} {t1 t2:Option π} {oj:Oper} {e1 e2:Env} (h1:Tl H t1 p (opsV X ops l Post e1)) (h2:Tl H t2 p (opsV X ops ({o with guard:=none} :: l) Post e2))
  (hg:o.guard=some (j,false):=by rfl) (hj:ops[j]? = some oj:=by rfl) (hjd:oj.dst=some n:=by rfl) (hb:e.sc (.tmp n)=some (.bool b):=by (simp only [Env.sc,Env.val,lk,reduceIte,Nat.reduceEqDiff] <;> rfl)) (he2:e.put n (.pl (.one (.v (.sc (.bool false)))))=e2:=by (simp only [Env.put]; rfl)) (he1:(e.put n (.pl (.one (.v (.sc (.bool !false)))))).putO o.dst (.tup [])=some e1:=by (simp only [Env.putO,Env.put,Bool.not_true,Bool.not_false,reduceIte,Nat.reduceLT]; rfl)):Tl H (if b=true then t1 else t2) p (opsV X ops (o :: l) Post e):=fun a q =>
 opsV_sp (fun hb=>h2 a (by rw [← q,if_neg (by simp [hb])])) (fun hb=>h1 a (by rw [← q,if_pos (by simpa using hb)])) hg hj hjd hb he2 he1
theorem quV_spL {π:Type} {p:π} {t1 t2:Option π} {oj:Oper} {e1 e2:Env} (h1:Tl H t1 p (quV X ops ({o with guard:=none} :: l) Post e1)) (h2:Tl H t2 p (quV X ops l Post e2))
  (hg:o.guard=some (j,true):=by rfl) (hj:ops[j]? = some oj:=by rfl) (hjd:oj.dst=some n:=by rfl) (hb:e.sc (.tmp n)=some (.bool b):=by (simp only [Env.sc,Env.val,lk,reduceIte,Nat.reduceEqDiff] <;> rfl)) (he1:e.put n (.pl (.one (.v (.sc (.bool true)))))=e1:=by (simp only [Env.put]; rfl)) (he2:(e.put n (.pl (.one (.v (.sc (.bool !true)))))).putO o.dst (.tup [])=some e2:=by (simp only [Env.putO,Env.put,Bool.not_true,Bool.not_false,reduceIte,Nat.reduceLT]; rfl)):Tl H (if b=true then t1 else t2) p (quV X ops (o :: l) Post e):=fun a q =>
 quV_sp (fun hb=>h1 a (by rw [← q,if_pos hb])) (fun hb=>h2 a (by rw [← q,if_neg (by simp [hb])])) hg hj hjd hb he1 he2
theorem quV_spR {π:Type} {p:π} {t1 t2:Option π} {oj:Oper} {e1 e2:Env} (h1:Tl H t1 p (quV X ops l Post e1)) (h2:Tl H t2 p (quV X ops ({o with guard:=none} :: l) Post e2))
  (hg:o.guard=some (j,false):=by rfl) (hj:ops[j]? = some oj:=by rfl) (hjd:oj.dst=some n:=by rfl) (hb:e.sc (.tmp n)=some (.bool b):=by (simp only [Env.sc,Env.val,lk,reduceIte,Nat.reduceEqDiff] <;> rfl)) (he2:e.put n (.pl (.one (.v (.sc (.bool false)))))=e2:=by (simp only [Env.put]; rfl)) (he1:(e.put n (.pl (.one (.v (.sc (.bool !false)))))).putO o.dst (.tup [])=some e1:=by (simp only [Env.putO,Env.put,Bool.not_true,Bool.not_false,reduceIte,Nat.reduceLT]; rfl)):Tl H (if b=true then t1 else t2) p (quV X ops (o :: l) Post e):=fun a q =>
 quV_sp (fun hb=>h2 a (by rw [← q,if_neg (by simp [hb])])) (fun hb=>h1 a (by rw [← q,if_pos (by simpa using hb)])) hg hj hjd hb he2 he1
theorem jr (J:Env→Prop) (h1:Tl H (some ()) () (wpV X c (cutP J) e)) (h2:∀ e',J e'→Tl H t r (Post .normal e')):Tl H t r (wpV X c Post e):=fun a b=>wpV_J J (h1 a rfl) (fun e' q=>h2 e' q a b)
theorem cn (h:Tl H t r Q) (hq:Q→G:=by
 intro hq
 try simp only [seqV_normal,seqV_ret,seqV_exit,thenV,blockV,reduceIte,Nat.reduceEqDiff]
 exact hq):Tl H t r G:=fun a b=>hq (h a b)
theorem gq {J:Env→Prop} (ks:List Nat) (os:List (Nat×Nat)) (nx:Nat) (h:J e') (he:e.shed ks os nx=some e':=by
 simp only [Env.shed,shedS,shedO,lk,delO,C.ren,Ag.map,Sl.map,List.map_cons,List.map_nil,↓reduceIte,eq_self,Option.isSome_some,Option.isSome_none,Option.bind_some,Option.map_some,Nat.reduceEqDiff,Nat.reduceLT,Nat.reduceLeDiff,true_or,or_true,or_false,false_or,and_true,true_and,not_true,not_false_eq_true,Bool.false_eq_true,implies_true,imp_self,false_implies,Nat.le_refl] <;> rfl):Tl H t r (cutP J .normal e):=fun _ b=>⟨rfl,.of ks os nx he h⟩
theorem oF (i:Nat) (h:Tl H t r (opsV X ops l Post e')) (he:H→e.freeze i=some e':=by
   intro hH
   simp only [hH,Env.freeze,lk,delO,V.own,V.bor,borRow,rK,rB,rS,rL,slMap,Sl.map,Ag.map,C.frz,List.map_cons,List.map_nil,Option.bind_some,reduceIte,Nat.reduceEqDiff,Nat.reduceLeDiff,and_self,true_and,and_true] <;> rfl):Tl H t r (opsV X ops l Post e):=fun a b=>opsV_frz a i (h a b) he
end
class Wlk (X:Cfg) {ρ:Type} (t:Option ρ) (f:outParam Nat) (ml:outParam (List Nat)) (az:outParam (List (Ag V))) (rs:outParam (ρ→List (Ag V))) (fin:outParam (ρ→List (Nat×V))):Prop where
 w:∀ r,t=some r→Fn X f az (rs r) (fin r)
theorem h2 {a b:Prop} (p:a) (q:b):a∧b:=⟨p,q⟩
section
variable {X:Cfg} {Post:Exit→Env→Prop} {e e' e1:Env} {ops:Array Oper} {o:Oper} {l:List Oper} {f:Nat} {ml:List Nat} {az:List (Ag V)} {cells:List C} {cf:Operand} {args:Array Operand} {ts:Array TypeId}
theorem ws {rs : ρ → List (Ag V)} {fin : ρ → List (Nat × V)} {body : Code} (fn : Func) (N : Nat) (res : List ResultVar) (hH : H) (h : ∀ r, Tl H t r (wpV X body (RetL X res (rs r) (fin r)) e)) (hf : X.P.funcs[f]? = some fn := by rfl) (hb : fn.body = some body := by rfl) (hN : fn.ntmps = N := by rfl) (hr : fn.results.toList = res := by rfl) (hn : (fn.name == "runtime.NumGoroutine") = false := by rfl) (hl : az.length ≤ N := by simp)
  (he:entry az N=e:=by
   simp only [entry,entS,entC,entCs,V.own,entOs,zE,List.length_cons,List.length_nil,Nat.reduceAdd,Bool.false_eq_true,reduceIte,List.cons_append,List.nil_append] <;> rfl):Wlk X t f ml az rs fin:=
 ⟨fun r q=>by
  refine Fn.start hf hb hN hr hn hl ?_
  rw [he]
  exact h r hH q⟩
theorem og {rs:ρ→List (Ag V)} {fin:ρ→List (Nat×V)} {v:ρ} {res:List ResultVar} (h:H→(evRes X.T res e).map (fun q=>(q.1,q.2.fin))=some (rs v,fin v)):Tl H (some v) r (RetL X res (rs r) (fin r) .ret e):=fun a b=>by
 obtain rfl:=zso b
 exact .of (.inl rfl) (h a)
theorem on {rs:ρ→List (Ag V)} {fin:ρ→List (Nat×V)} {v:ρ} {res:List ResultVar} (h:H→(evRes X.T res e).map (fun q=>(q.1,q.2.fin))=some (rs v,fin v)):Tl H (some v) r (RetL X res (rs r) (fin r) .normal e):=fun a b=>by
 obtain rfl:=zso b
 exact .of (.inr rfl) (h a)
variable {π:Type} {t1:Option π} {k:π→Option ρ} {rs:π→List (Ag V)} {fin:π→List (Nat×V)} {e2:π→Env}
theorem l_call [hw:Wlk X t1 f ml az rs fin] (hg:o.guard=none) (ho:o.op=.call {callee:=.value cf,args:=args,argTypes:=ts}) (h1:H→evCall (fun _=>ml) cf args.toList e=some (f,az,cells,e1)) (hn:∀ x,H→zW (zE (rs x))=true) (hfin:∀ x,H→(fin x).all (fun q=>ml.contains q.1 && q.2.noBor)=true)
  (h2:∀ x,H→evRet o (rs x) (fin x) cells e1=some (e2 x)) (h:∀ x,Tl H (k x) r (opsV X ops l Post (e2 x))):Tl H (t1.bind k) r (opsV X ops (o :: l) Post e):=bx fun x v a b=>opsV_call (fun _=>ml) (hw.w x v) hg ho (h1 a) (hn x a) (hfin x a) (h2 x a) (h x a b)
theorem l_callD [hw:Wlk X t1 f ml az rs fin] (hg:o.guard=none) (ho:o.op=.call {callee:=.value cf,args:=args,argTypes:=ts}) (h1:H→evCallD (fun _=>ml) cf args.toList e=some (f,az,cells,e1)) (hfin:∀ x,H→(fin x).all (fun q=>ml.contains q.1)=true)
  (h2:∀ x,H→evRet o (rs x) (fin x) cells e1=some (e2 x)) (h:∀ x,Tl H (k x) r (opsV X ops l Post (e2 x))):Tl H (t1.bind k) r (opsV X ops (o :: l) Post e):=bx fun x v a b=>opsV_callD (fun _=>ml) (hw.w x v) hg ho (h1 a) (hfin x a) (h2 x a) (h x a b)
theorem l_callQ {v:π→Value} [hw:Wlk X t1 f ml az (fun x=>[.one (.sc (v x))]) (fun _=>[])] (hg:o.guard=none) (ho:o.op=.call {callee:=.value cf,args:=args,argTypes:=ts}) (hp:∀ x,plain (v x)=true) (h1:H→evCallQ cf args.toList e=some (f,az))
  (h2:∀ x,e.putO o.dst (.pl (.one (.v (.sc (v x)))))=some (e2 x)) (h:∀ x,Tl H (k x) r (quV X ops l Post (e2 x))):Tl H (t1.bind k) r (quV X ops (o :: l) Post e):=bx fun x q a b=>quV_call (hw.w x q) hg ho (hp x) (h1 a) (h2 x) (h x a b)
end
def lkd:Option Nat→List (Nat×Sl)→Option Sl
 | some d,sl=>lk d sl
 | none,_=>none
def dlN:Option Nat→Nat→Bool
 | some d,N=>decide (d < N)
 | none,_=>true
def gslot (ops:Array Oper):Option (Nat×Bool)→List Nat
 | some (j,_)=>dl (dstOf ops j)
 | none=>[]
def opndO (ops:Array Oper) (o:Oper):List Nat:=tmps o.op.operands.toList++gslot ops o.guard
theorem opnd_eq {ops:Array Oper} {i:Nat} {o:Oper} (h:ops[i]? = some o):opndO ops o=opnd ops i:=by
 unfold opnd
 rw [h]
 simp only [opndO]
 cases q:o.guard <;> rfl
def rmN (os:List Nat):List Nat→List Nat
 | []=>[]
 | x :: r=>if os.contains x=true then rmN os r else x :: rmN os r
theorem rmN_mem {os:List Nat} {x:Nat}:∀ {l:List Nat},x ∈ l→x ∈ os∨x ∈ rmN os l
 | [],h=>by cases h
 | y :: r,h=>by
  simp only [rmN]
  rcases List.mem_cons.1 h with rfl | h
  ·split
   ·rename_i q; exact .inl (by simpa using q)
   ·exact .inr (by simp)
  ·rcases rmN_mem h with q | q
   ·exact .inl q
   ·split
    ·exact .inr q
    ·exact .inr (by simp [q])
theorem rmN_sub {os:List Nat} {x:Nat}:∀ {l:List Nat},x ∈ rmN os l→x ∈ l∧x ∉ os
 | [],h=>by cases h
 | y :: r,h=>by
  simp only [rmN] at h
  split at h
  ·obtain ⟨h1,h2⟩:=rmN_sub h
   exact ⟨by simp [h1],h2⟩
  ·rename_i q
   rcases List.mem_cons.1 h with rfl | h
   ·exact ⟨by simp,by simpa using q⟩
   ·obtain ⟨h1,h2⟩:=rmN_sub h
    exact ⟨by simp [h1],h2⟩
theorem rmN_nodup {os:List Nat}:∀ {l:List Nat},l.Nodup→(rmN os l).Nodup
 | [],_=>List.nodup_nil
 | y :: r,h=>by
  have h:=List.nodup_cons.1 h
  simp only [rmN]
  split
  ·exact rmN_nodup h.2
  ·exact List.nodup_cons.2 ⟨fun z=>h.1 (rmN_sub z).1,rmN_nodup h.2⟩
def lendS:List (Nat×V)→List (Nat×Sl)→List (Nat×Sl)
 | [],sl=>sl
 | b :: bl,sl=>slMap (C.lend (b :: bl)) sl
theorem slMap_lend_nil:∀ (sl:List (Nat×Sl)),slMap (C.lend []) sl=sl
 | []=>rfl
 | (t,s) :: r=>by simp only [slMap,Sl.lend_nil,slMap_lend_nil r]
theorem lendS_eq (bl:List (Nat×V)) (sl:List (Nat×Sl)):lendS bl sl=slMap (C.lend bl) sl:=by
 cases bl with
 | nil=>exact (slMap_lend_nil sl).symm
 | cons b bl=>rfl
def stepQ3 (os fk rd:List Nat) (d:Nat) (x:Sl) (e:Env):Option (Env×List Nat×List Nat):=if ((rd.all fun i=>fk.contains i) && decide (d < e.N))=true then some (e.put d x,os,rd) else none
def stepQ2 (ev:Env→Option Env) (o:Oper) (os:List Nat) (e F:Env):Option (Env×List Nat×List Nat):=(ev F).bind fun F'=>(lkd o.dst F'.sl).bind fun x=>o.dst.bind fun d=>stepQ3 os (zC F.ob) x.ids d x e
def stepQ1 (ev:Env→Option Env) (o:Oper) (ks os:List Nat) (e:Env):Option (Env×List Nat×List Nat):=stepQ2 ev o os e {e with sl:=fpS e.sl ks,ob:=fpS e.ob os}
def stepQ (ev:Env→Option Env) (o:Oper) (ks:List Nat) (e:Env):Option (Env×List Nat×List Nat):=stepQ1 ev o ks (dd (idsAt e.sl ks)) e
def stepE1 (dst:Option Nat) (bl:List (Nat×V)) (os kp sw fk:List Nat) (e F':Env):Option (List Nat×(List Nat×List (Nat×List Nat))×Env):=
 if (okW e F' os sw fk && dlN dst e.N && (bl.isEmpty || okN F' sw))=true then some (rmN os fk,(idsAt F'.sl (dl dst),klOf F'.sl kp),{e with nx:=F'.nx,sl:=fpS F'.sl sw++rmK sw e.sl,ob:=F'.ob++rmK os e.ob}) else none
def deadS (fk:List Nat):List (Nat×Sl)→List (Nat×Sl)
 | []=>[]
 | (t,s) :: r=>(t,if (s.ids.all fun i=>fk.contains i)=true then s else .pl (.one .dead)) :: deadS fk r
theorem lk_deadS {fk:List Nat} {t:Nat}:∀ {sl:List (Nat×Sl)},lk t (deadS fk sl)=(lk t sl).map fun s=>if (s.ids.all fun i=>fk.contains i)=true then s else .pl (.one .dead)
 | []=>rfl
 | (k,s) :: r=>by
  simp only [deadS]
  rw [zK,zK]
  split
  ·rfl
  ·exact lk_deadS
theorem St.deadS {gG:GG} {c:Ctx gG} {e:Env} {a:Act} {w:World} (h:St c e a w) (fk:List Nat):St c {e with sl:=TV.deadS fk e.sl} a w:=by
 obtain ⟨D,hs,S,h⟩:=h
 exact ⟨D,hs,S,{h with
  sl:=fun t s q=>by
   have q:lk t (TV.deadS fk e.sl)=some s:=q
   rw [lk_deadS,Option.map_eq_some_iff] at q
   obtain ⟨s0,q1,rfl⟩:=q
   split
   ·exact h.sl t s0 q1
   ·trivial}⟩
def stepE0 (dst:Option Nat) (bl:List (Nat×V)) (os kp fk:List Nat) (e F':Env):Option (List Nat×(List Nat×List (Nat×List Nat))×Env):=stepE1 dst bl os kp (dl dst++kp) fk e {F' with sl:=deadS fk F'.sl}
def stepE (dst:Option Nat) (bl:List (Nat×V)) (os kp:List Nat) (e F':Env):Option (List Nat×(List Nat×List (Nat×List Nat))×Env):=stepE0 dst bl os kp (zC F'.ob) e F'
def stepW2 (T:Nat→Option TyI) (o:Oper) (ks os kp:List Nat) (e:Env):Option (List Nat×List Nat×List Nat×(List Nat×List (Nat×List Nat))×Env):=
 (evOp T o {e with sl:=fpS e.sl (ks++kp),ob:=fpS e.ob os}).bind fun F'=>(stepE o.dst [] os kp e F').map fun q=>(os,kp,q)
def stepW1 (T:Nat→Option TyI) (o:Oper) (ks os:List Nat) (e:Env):Option (List Nat×List Nat×List Nat×(List Nat×List (Nat×List Nat))×Env):=stepW2 T o ks os (kpOf os e.sl) e
def stepW (T:Nat→Option TyI) (o:Oper) (ks:List Nat) (e:Env):Option (List Nat×List Nat×List Nat×(List Nat×List (Nat×List Nat))×Env):=stepW1 T o ks (zC (fpS e.ob (dd (idsAt e.sl ks)))) e
def exOf (ml:List Nat) (bo:Bool):Nat→List C→List Nat
 | _,[]=>[]
 | k,c :: cs=>(if (ml.contains k || !bo)=true then c.ids else match c with | .ref _ []=>[] | c=>c.ids)++exOf ml bo (k+1) cs
def boOf (ml:List Nat) (bo:Bool):Nat→List C→List Nat
 | _,[]=>[]
 | k,c :: cs=>(if (ml.contains k || !bo)=true then [] else match c with | .ref i []=>[i] | _=>[])++boOf ml bo (k+1) cs
def stepF3 (kp os bs:List Nat) (bl:List (Nat×V)) (ks:List Nat) (e:Env):Option (Env×List (Nat×V)×List Nat×List Nat×List Nat):=
 if (bl.all fun q=>q.2.alive)=true then some ({e with sl:=lendS bl (fpS e.sl (ks++kp)),ob:=fpS e.ob os},bl,bs,os,kp) else none
def stepF2 (os bs ks:List Nat) (e:Env):Option (Env×List (Nat×V)×List Nat×List Nat×List Nat):=stepF3 (kpOf os e.sl) os bs (fpS e.ob bs) ks e
def stepF1 (os bs ks:List Nat) (e:Env):Option (Env×List (Nat×V)×List Nat×List Nat×List Nat):=stepF2 (zC (fpS e.ob (dd os))) (rmN (dd os) (dd bs)) ks e
def stepF (ml:List Nat) (bo:Bool) (az:List Operand) (ks:List Nat) (e:Env):Option (Env×List (Nat×V)×List Nat×List Nat×List Nat):=(e.args az).bind fun gs=>stepF1 (exOf ml bo 0 (flatC gs)) (boOf ml bo 0 (flatC gs)) ks e
section
variable {X:Cfg} {Post:Exit→Env→Prop} {e0 e e' e1 F F':Env} {ops:Array Oper} {o:Oper} {l:List Oper} {i j d f:Nat} {ml ix os kp bs nw rd ks:List Nat} {rj:List Nat×List (Nat×List Nat)} {acc:List Dat} {bl:List (Nat×V)} {want b:Bool} {Q G0:Prop} {az:List (Ag V)} {cells:List C} {cf:Operand} {args:Array Operand} {ts:Array TypeId}
def Cy (X:Cfg) (ops:Array Oper) (e0:Env) (G:Prop) (ix:List Nat) (acc:List Dat) (e:Env):Prop:=Cx X ops e0 G acc e
theorem hd_y (hi:ops[i]? = some o):HdO (Cy X ops e0 G0 (i :: ix) acc e) o:=trivial
theorem rc (ix:List Nat) {id:Nat} (h:Tl H t r (Cy X l.toArray e (wpV X (.region id l.toArray true) Post e) ix [] e)) (h0:okE e=true:=by kernel_rfl):Tl H t r (wpV X (.region id l.toArray true) Post e):=fun a b=>h a b [] (AOk.start h0)
theorem ce {id:Nat} (hc:chkR l.toArray (e0.sl.map fun q=>(q.1,q.2.ids)) (zC e0.ob) acc=true) (h:Tl H t r Q) (hq:Q→Post .normal e):Tl H t r (Cy X l.toArray e0 (wpV X (.region id l.toArray true) Post e0) [] acc e):=fun a b st hst =>
 cx_main hc hst.v hst.d hst.N hst.np hst.x0 hst.nx (fun t x ht=>⟨(hst.sl t x ht).1,(hst.sl t x ht).2.1⟩) hst.ob hst.nd (hq (h a b))
theorem gOn.part {ks os:List Nat} (h:gOn ops o e) (hk:∀ j w d,o.guard=some (j,w)→dstOf ops j=some d→d ∈ ks) {f:List (Nat×Sl)→List (Nat×Sl)} (hf:∀ d v,lk d e.sl=some (.pl (.one (.v (.sc v))))→d ∈ ks→lk d (f e.sl)=some (.pl (.one (.v (.sc v))))):gOn ops o {e with sl:=f e.sl,ob:=fpS e.ob os}:=by
 rcases h with h | ⟨j,w,d,h1,h2,h3⟩
 ·exact .inl h
 ·refine .inr ⟨j,w,d,h1,h2,?_⟩
  unfold Env.sc Env.val at h3 ⊢
  have hv:lk d e.sl=some (.pl (.one (.v (.sc (.bool w))))):=by
   revert h3
   simp only
   cases lk d e.sl with
   | none=>intro q; cases q
   | some s =>
    intro q
    split at q <;> first | (rename_i q2; injection q2 with q2; injection q with q; subst q2; subst q; rfl) | cases q
  simp only [hf d _ hv (hk j w d h1 h2)]
theorem mem_gslot {j d:Nat} {w:Bool} (h1:o.guard=some (j,w)) (h2:dstOf ops j=some d):d ∈ opndO ops o:=by
 unfold opndO gslot
 rw [h1]
 simp only [h2,dl,List.mem_append,List.mem_singleton,or_true]
def pu8 (o:Oper):Bool:=o.guard.isNone && match o.op with
 | .move _ | .pick _ _ _ | .binOp _ _ _ _ _ | .unOp _ _ _ | .extract _ _ | .nilCheck _ | .fieldAddr _ _ _ | .indexAddr _ _ _ | .index _ _ _ | .field _ _ _ | .convert _ _ _=>true
 | .call {callee:=.builtin _,..}=>true
 | _=>false
def DidPu (P:Program) (e:Env) (o:Oper) (a:Act) (w:World) (D:CS) (hs:Nat→Value) (e':Env) (p:Bool):Prop:=
 ∃ u s,(∀ w',Frm w w' emp→(execOp a.eval o).run P w'=.ok (.value u) w')∧e.putO o.dst s=some e'∧SlRep w D hs e.nx e.ob s u∧(p=true→∀ w',(execOp a.eval o).run P w'=.ok (.value u) w')
theorem DidP.pu {P:Program} {o:Oper} {a:Act} {w:World} {e e':Env} {D:CS} {hs:Nat→Value} {p:Bool} (h:DidP P e o a w D hs e'):DidPu P e o a w D hs e' p:=by
 obtain ⟨u,s,h1,h2,h3⟩:=h
 exact ⟨u,s,fun w' _=>h1 w',h2,h3,fun _=>h1⟩
theorem DidR.pu {P:Program} {o:Oper} {a:Act} {w:World} {e e':Env} {D:CS} {hs:Nat→Value} (h:DidR P e o a w D hs e'):DidPu P e o a w D hs e' false:=by
 obtain ⟨u,s,h1,h2,h3⟩:=h
 exact ⟨u,s,h1,h2,h3,fun q=>by cases q⟩
theorem pu8_ok {gG:GG} {c:Ctx gG} {a:Act} {w:World} {D:CS} {hs:Nat→Value} {S:CS} (h:StD c F a w D hs S) (hp:pu8 o=true) (he:evR X.T o F=some F'):DidP X.P F o a w D hs F':=by
 unfold pu8 at hp
 simp only [Bool.and_eq_true] at hp
 obtain ⟨_,hp⟩:=hp
 unfold evR at he
 split at he
 ·exact evMove_pure' h (.inl ‹_›) he
 ·exact evMove_pure' h (.inr ‹_›) he
 ·exact evPick_pure h ‹_› he
 ·exact evBin_pure h ‹_› he
 ·exact evUn_pure h ‹_› he
 ·exact evExtract_pure h ‹_› he
 ·exact evNil_pure h ‹_› he
 ·exact evFieldAddr_pure h ‹_› he
 ·exact evIndexAddr_pure h ‹_› he
 ·exact evIndex_pure h ‹_› he
 ·exact evField_pure h ‹_› he
 ·rename_i ho; rw [ho] at hp; cases hp
 ·exact evConv_pure h ‹_› he
 ·rename_i ho; rw [ho] at hp; cases hp
 ·rename_i b az ts ho
  split at he
  ·rename_i x t h1 h2
   rw [show az = #[x] from Array.ext' h1,show ts = #[t] from Array.ext' h2] at ho
   exact evLen_pure h ho he
  ·rename_i x y h1
   rw [show az = #[x,y] from Array.ext' h1] at ho
   exact evMin_pure h ho he
  ·rename_i x y h1
   rw [show az = #[x,y] from Array.ext' h1] at ho
   exact evMax_pure h ho he
  ·cases he
 ·cases he
theorem cQ0 {p:Bool} {ev:Env→Option Env} (hev:∀ (k:Ctx X.G) (a:Act) (w:World) (D:CS) (hs:Nat→Value) (S:CS) (F F':Env),StD k F a w D hs S→ev F=some F'→DidPu X.P F o a w D hs F' p) (hi:ops[i]? = some o) (hg:H→gOn ops o e) (hs:H→stepQ ev o (opndO ops o) e=some (e',os,rd))
  (h:Tl H t r (Cy X ops e0 G0 ix (⟨i,false,p,[],os,[],[],(rd,[])⟩ :: acc) e')):Tl H t r (Cy X ops e0 G0 (i :: ix) acc e):=fun a b st hst=>by
 have hs:=hs a
 unfold stepQ stepQ1 stepQ2 at hs
 obtain ⟨F',g1,hs⟩:=zbi hs
 obtain ⟨x,g2,hs⟩:=zbi hs
 obtain ⟨d,g3,hs⟩:=zbi hs
 rw [g3] at g2
 have g2:lk d F'.sl=some x:=g2
 unfold stepQ3 at hs
 split at hs
 case isFalse=>cases hs
 rename_i hc
 simp only [Bool.and_eq_true,decide_eq_true_eq,List.all_eq_true,List.contains_iff_mem] at hc
 injection hs with hs
 simp only [Prod.mk.injEq] at hs
 obtain ⟨rfl,rfl,rfl⟩:=hs
 refine h a b _ (hst.q hi g3 hc.2 (opnd_eq hi) (dd_nodup _) rfl hc.1 rfl (fun k ac w D hs S hd=>?_))
 obtain ⟨u,s,q1,q2,q3,q4⟩:=hev k ac w D hs S _ F' hd g1
 have hs':s=x:=by
  rw [g3] at q2
  simp only [Env.putO] at q2
  split at q2
  ·injection q2 with q2
   subst q2
   simp only [Env.put,zK,if_true] at g2
   exact zso g2
  ·cases q2
 subst hs'
 have hgF:gOn ops o {e with sl:=fpS e.sl (opndO ops o),ob:=fpS e.ob (dd (idsAt e.sl (opndO ops o)))}:=(hg a).part (f:=fun sl=>fpS sl (opndO ops o)) (fun j w d h1 h2=>mem_gslot h1 h2) (fun d v hd hk=>by rw [lk_fpS,if_pos hk]; exact hd)
 refine ⟨u,q3,fun Q K hK=>?_,fun hp=>⟨o,hi,.inl ⟨hgF.wanted hd,q4 hp⟩⟩⟩
 unfold wpOp
 simp only [hi]
 rw [if_pos (hgF.wanted hd)]
 refine .inl ?_
 unfold Oper.wp
 rw [q1 w (Frm.refl w emp)]
 show K (ac.put o.dst u) w
 rw [g3]
 exact hK
theorem cQ {p:Bool} (hi:ops[i]? = some o) (hp:pu8 o=p) (hg:H→gOn ops o e) (hs:H→stepQ (evR X.T o) o (opndO ops o) e=some (e',os,rd)) (h:Tl H t r (Cy X ops e0 G0 ix (⟨i,false,p,[],os,[],[],(rd,[])⟩ :: acc) e')):Tl H t r (Cy X ops e0 G0 (i :: ix) acc e):=
 cQ0 (fun k a w D hs S F F' hd he=>by
  cases p with
  | true=>exact (pu8_ok hd hp he).pu
  | false=>exact (evR_ok hd he).pu) hi hg hs h
theorem cF (hi:ops[i]? = some o) (hd:o.dst=some d) (hg:o.guard=some (j,want)) (hj:dstOf ops j=some f) (hdN:d < e.N) (hb:H→e.sc (.tmp f)=some (.bool !want)∨e.val (.tmp f)=some (.tup [])) (h:Tl H t r (Cy X ops e0 G0 ix (⟨i,false,false,[],[],[],[],([],[])⟩ :: acc) (e.put d (.tup [])))):Tl H t r (Cy X ops e0 G0 (i :: ix) acc e):=fun a b st hst=>by
 refine h a b _ (hst.q hi hd hdN (opnd_eq hi) List.nodup_nil rfl (fun i hi=>by cases hi) rfl (fun k ac w D hs S hst'=>⟨undef,⟨[],rfl,rfl⟩,fun Q K hK=>?_,fun q=>by cases q⟩))
 have hk:f ∈ opndO ops o:=mem_gslot hg hj
 have hlk:lk f (fpS e.sl (opndO ops o))=lk f e.sl:=by rw [lk_fpS,if_pos hk]
 have hoff:gOff ops o {e with sl:=fpS e.sl (opndO ops o),ob:=fpS e.ob []}:=⟨j,want,f,hg,hj,(hb a).imp (fun q=>by unfold Env.sc Env.val at q ⊢; simp only [hlk]; exact q) (fun q=>by unfold Env.val at q ⊢; simp only [hlk]; exact q)⟩
 unfold wpOp
 simp only [hi]
 rw [hoff.unwanted hst']
 simp only [Bool.false_eq_true,if_false,hd]
 exact hK
theorem AOk.w' {st:List Stp} (h:AOk X ops e0 st acc e) (hi:ops[i]? = some o) (hos:os.Nodup) (hbs:bs.Nodup) (hbl:bl=fpS e.ob bs) (hbo:∀ j ∈ bs,j ∉ os) (hal:(bl.all fun q=>q.2.alive)=true) (hpr:∀ j ∈ os,j ∈ zC (fpS e.ob os))
  (hF:F={e with sl:=lendS bl (fpS e.sl (opndO ops o++kp)),ob:=fpS e.ob os}) (hW:opsV X ops [o] (fun x e'=>x=.normal∧e'=F') F) (hE:stepE o.dst bl os kp e F'=some (nw,rj,e')) :
  AOk X ops e0 (⟨i,true,false,o.dst,F,{F' with sl:=deadS (zC F'.ob) F'.sl},bl,opndO ops o,kp⟩ :: st) (⟨i,true,false,kp,os,nw,bs,rj⟩ :: acc) e':=by
 unfold stepE stepE0 stepE1 at hE
 split at hE
 case isFalse=>cases hE
 rename_i hc
 simp only [Bool.and_eq_true,Bool.or_eq_true,List.isEmpty_iff] at hc
 injection hE with hE
 simp only [Prod.mk.injEq] at hE
 obtain ⟨rfl,rfl,rfl⟩:=hE
 rw [lendS_eq] at hF
 have hW':opsV X ops [o] (fun x e'=>x=.normal∧e'={F' with sl:=deadS (zC F'.ob) F'.sl}) F:=fun k a w hs=>by
  refine wpList_app (l2:=[]) (fun x a w q=>?_) [o] _ _ (hW k a w hs)
  obtain ⟨e1,⟨q1,q2⟩,q3⟩:=q
  subst q2
  exact ⟨q1,wpList_nil ⟨_,⟨rfl,rfl⟩,q3.deadS _⟩⟩
 exact h.w (F':={F' with sl:=deadS (zC F'.ob) F'.sl}) hi (opnd_eq hi) hos hbs hbl hbo hal hF hW' hc.1.1 hc.2 (fun d q=>by have:=hc.1.2; rw [q] at this; exact of_decide_eq_true this) (fun j hj=>rmN_mem hj) (fun j hj hj'=>hpr j hj') rfl
theorem keys_fpS_idem {e:Env} {os:List Nat}:∀ j ∈ zC (fpS e.ob os),j ∈ zC (fpS e.ob (zC (fpS e.ob os))):=fun j hj=>by
 obtain ⟨v,hv⟩:=keys_lk hj
 refine lk_keys (v:=v) ?_
 rw [lk_fpS,if_pos hj]
 rw [lk_fpS] at hv
 split at hv
 ·exact hv
 ·cases hv
theorem cW (hi:ops[i]? = some o) (hg:H→gOn ops o e) (hs:H→stepW X.T o (opndO ops o) e=some (os,kp,nw,rj,e')) (h:Tl H t r (Cy X ops e0 G0 ix (⟨i,true,false,kp,os,nw,[],rj⟩ :: acc) e')):Tl H t r (Cy X ops e0 G0 (i :: ix) acc e):=fun a b st hst=>by
 have hs:=hs a
 unfold stepW stepW1 stepW2 at hs
 obtain ⟨F',g1,hs⟩:=zbi hs
 obtain ⟨q,g2,hs⟩:=Option.map_eq_some_iff.1 hs
 obtain ⟨q1,q2,q3⟩:=q
 simp only [Prod.mk.injEq] at hs
 obtain ⟨rfl,rfl,rfl,rfl,rfl⟩:=hs
 refine h a b _ (hst.w' (bl:=[]) (F':=F') hi (fpS_nodup (dd_nodup _)) List.nodup_nil rfl (fun j hj=>by cases hj) rfl keys_fpS_idem rfl ?_ g2)
 refine gOn.opsV ((hg a).part (f:=fun sl=>lendS [] (fpS sl (opndO ops o++kpOf (zC (fpS e.ob (dd (idsAt e.sl (opndO ops o))))) e.sl))) (fun j w d h1 h2=>mem_gslot h1 h2) (fun d v hd hk=>by show lk d (fpS _ _)=_; rw [lk_fpS,if_pos (List.mem_append.2 (.inl hk))]; exact hd)) ?_
 exact opsV_op rfl (evOp_ok (X:=X) (o:={o with guard:=none}) g1) (zD ⟨rfl,rfl⟩)
theorem lend_sc {bl:List (Nat×V)} {sl:List (Nat×Sl)} {d:Nat} {v:Value} (h:lk d sl=some (.pl (.one (.v (.sc v))))):lk d (lendS bl sl)=some (.pl (.one (.v (.sc v)))):=by
 rw [lendS_eq,lk_slMapF,h]
 rfl
theorem cA {x y:Operand} (hi:ops[i]? = some o) (ho:o.op=.call {callee:=.builtin .append,args:=#[x,y],argTypes:=ts}) (hg:H→gOn ops o e) (hF:H→stepF1 (idsAt e.sl (tmps [x])) (idsAt e.sl (tmps [y])) (opndO ops o) e=some (F,bl,bs,os,kp)) (hb:bs.isEmpty=false)
  (h1:H→evOp X.T o F=some F') (hE:H→stepE o.dst bl os kp e F'=some (nw,rj,e')) (h:Tl H t r (Cy X ops e0 G0 ix (⟨i,true,false,kp,os,nw,bs,rj⟩ :: acc) e')):Tl H t r (Cy X ops e0 G0 (i :: ix) acc e):=fun a b st hst=>by
 have hF:=hF a
 unfold stepF1 stepF2 stepF3 at hF
 split at hF
 case isFalse=>cases hF
 rename_i hal
 injection hF with hF
 simp only [Prod.mk.injEq] at hF
 obtain ⟨hFe,rfl,rfl,rfl,rfl⟩:=hF
 refine h a b _ (hst.w' (F':=F') hi (fpS_nodup (dd_nodup _)) (rmN_nodup (dd_nodup _)) rfl (fun j hj z=>(rmN_sub hj).2 (fpS_keys z).1) hal keys_fpS_idem hFe.symm ?_ (hE a))
 have hgF:gOn ops o F:=by
  rw [← hFe]
  exact (hg a).part (f:=fun sl=>lendS _ (fpS sl _)) (fun j w d h1 h2=>mem_gslot h1 h2) (fun d v hd hk=>lend_sc (by rw [lk_fpS,if_pos (List.mem_append.2 (.inl hk))]; exact hd))
 refine hgF.opsV ?_
 exact opsV_op rfl (evOp_ok (X:=X) (o:={o with guard:=none}) (h1 a)) (zD ⟨rfl,rfl⟩)
theorem cC0 {rs:List (Ag V)} {fin:List (Nat×V)} (D:Bool) (hf:Fn X f az rs fin) (hi:ops[i]? = some o) (ho:o.op=.call {callee:=.value cf,args:=args,argTypes:=ts}) (hg:gOn ops o e) (hF:stepF ml (!D) args.toList (opndO ops o) e=some (F,bl,bs,os,kp))
  (h1:(if D=true then evCallD (fun _=>ml) cf args.toList F else evCall (fun _=>ml) cf args.toList F)=some (f,az,cells,e1)) (hn:D=true∨zW (zE rs)=true) (hfin:fin.all (fun q=>ml.contains q.1 && (D || q.2.noBor))=true) (h2:evRet o rs fin cells e1=some F') (hE:stepE o.dst bl os kp e F'=some (nw,rj,e'))
  (h:Cy X ops e0 G0 ix (⟨i,true,false,kp,os,nw,bs,rj⟩ :: acc) e'):Cy X ops e0 G0 (i :: ix) acc e:=fun st hst=>by
 unfold stepF stepF1 stepF2 stepF3 at hF
 obtain ⟨gs,_,hF⟩:=zbi hF
 split at hF
 case isFalse=>cases hF
 rename_i hal
 injection hF with hF
 simp only [Prod.mk.injEq] at hF
 obtain ⟨hFe,rfl,rfl,rfl,rfl⟩:=hF
 refine h _ (hst.w' (F':=F') hi (fpS_nodup (dd_nodup _)) (rmN_nodup (dd_nodup _)) rfl (fun j hj z=>(rmN_sub hj).2 (fpS_keys z).1) hal keys_fpS_idem hFe.symm ?_ hE)
 have hgF:gOn ops o F:=by
  rw [← hFe]
  exact hg.part (f:=fun sl=>lendS _ (fpS sl _)) (fun j w d h1 h2=>mem_gslot h1 h2) (fun d v hd hk=>lend_sc (by rw [lk_fpS,if_pos (List.mem_append.2 (.inl hk))]; exact hd))
 refine hgF.opsV ?_
 cases D with
 | true=>exact opsV_callD (fun _=>ml) hf rfl ho h1 (by simpa using hfin) h2 (zD ⟨rfl,rfl⟩)
 | false=>exact opsV_call (fun _=>ml) hf rfl ho h1 (hn.resolve_left (by simp)) (by simpa using hfin) h2 (zD ⟨rfl,rfl⟩)
variable {π:Type} {t1:Option π} {k:π→Option ρ} {rs:π→List (Ag V)} {fin:π→List (Nat×V)} {F2 e2:π→Env} {nw2 rd2:List Nat}
theorem cC [hw:Wlk X t1 f ml az rs fin] (hi:ops[i]? = some o) (ho:o.op=.call {callee:=.value cf,args:=args,argTypes:=ts}) (hg:H→gOn ops o e) (hF:H→stepF ml true args.toList (opndO ops o) e=some (F,bl,bs,os,kp))
  (h1:H→evCall (fun _=>ml) cf args.toList F=some (f,az,cells,e1)) (hn:∀ x,H→zW (zE (rs x))=true) (hfin:∀ x,H→(fin x).all (fun q=>ml.contains q.1 && q.2.noBor)=true) (h2:∀ x,H→evRet o (rs x) (fin x) cells e1=some (F2 x)) (hE:∀ x,H→stepE o.dst bl os kp e (F2 x)=some (nw,rj,e2 x))
  (h:∀ x,Tl H (k x) r (Cy X ops e0 G0 ix (⟨i,true,false,kp,os,nw,bs,rj⟩ :: acc) (e2 x))):Tl H (t1.bind k) r (Cy X ops e0 G0 (i :: ix) acc e):=bx fun x v a b =>
 cC0 false (hw.w x v) hi ho (hg a) (hF a) (h1 a) (.inr (hn x a)) (hfin x a) (h2 x a) (hE x a) (h x a b)
theorem cD [hw:Wlk X t1 f ml az rs fin] (hi:ops[i]? = some o) (ho:o.op=.call {callee:=.value cf,args:=args,argTypes:=ts}) (hg:H→gOn ops o e) (hF:H→stepF ml false args.toList (opndO ops o) e=some (F,bl,bs,os,kp))
  (h1:H→evCallD (fun _=>ml) cf args.toList F=some (f,az,cells,e1)) (hfin:∀ x,H→(fin x).all (fun q=>ml.contains q.1)=true) (h2:∀ x,H→evRet o (rs x) (fin x) cells e1=some (F2 x)) (hE:∀ x,H→stepE o.dst bl os kp e (F2 x)=some (nw,rj,e2 x))
  (h:∀ x,Tl H (k x) r (Cy X ops e0 G0 ix (⟨i,true,false,kp,os,nw,bs,rj⟩ :: acc) (e2 x))):Tl H (t1.bind k) r (Cy X ops e0 G0 (i :: ix) acc e):=bx fun x v a b =>
 cC0 true (hw.w x v) hi ho (hg a) (hF a) (h1 a) (.inl rfl) (by simpa using hfin x a) (h2 x a) (hE x a) (h x a b)
theorem AOk.same {st:List Stp} (h:AOk X ops e0 st acc e) {s:Sl} (hd:lk d e.sl=some s):AOk X ops e0 st acc (e.put d s) where
 v:=h.v
 d:=h.d
 N:=h.N
 np:=h.np
 x0:=h.x0
 npx:=h.npx
 nx:=h.nx
 sl:=fun t x ht=>by
  have ht:lk t ((d,s) :: e.sl)=some x:=ht
  rw [zK] at ht
  split at ht
  ·rename_i q
   rw [q] at *
   exact h.sl d x (hd.trans ht)
  ·exact h.sl t x ht
 ob:=h.ob
 nd:=h.nd
theorem cs (h1:b=true→Tl H t r (Cy X ops e0 G0 (i :: ix) acc (e.put d (.pl (.one (.v (.sc (.bool true)))))))) (h2:b=false→Tl H t r (Cy X ops e0 G0 (i :: ix) acc (e.put d (.pl (.one (.v (.sc (.bool false))))))))
  (hi:ops[i]? = some o:=by (simp only [List.getElem?_toArray,List.getElem?_cons_zero,List.getElem?_cons_succ] <;> rfl)) (hg:o.guard=some (j,want):=by rfl) (hj:dstOf ops j=some d:=by rfl) (hb:lk d e.sl=some (.pl (.one (.v (.sc (.bool b))))):=by (simp only [lk,reduceIte,Nat.reduceEqDiff]; rfl)):Tl H t r (Cy X ops e0 G0 (i :: ix) acc e):=fun a q st hst=>by
 cases b with
 | true=>exact h1 rfl a q st (hst.same hb)
 | false=>exact h2 rfl a q st (hst.same hb)
end
section
variable {X:Cfg} {e0 e e1 F F' e':Env} {ops:Array Oper} {o:Oper} {i f:Nat} {ml ix os kp bs nw:List Nat} {rj:List Nat×List (Nat×List Nat)} {acc:List Dat} {bl:List (Nat×V)} {G0:Prop} {az:List (Ag V)} {cells:List C} {cf:Operand} {args:Array Operand} {ts:Array TypeId} {π:Type} {t1:Option π} {x:π} {rs:π→List (Ag V)} {fin:π→List (Nat×V)}
theorem cC1 (hy:t1=some x) [hw:Wlk X t1 f ml az rs fin] (hi:ops[i]? = some o) (ho:o.op=.call {callee:=.value cf,args:=args,argTypes:=ts}) (hg:H→gOn ops o e) (hF:H→stepF ml true args.toList (opndO ops o) e=some (F,bl,bs,os,kp))
  (h1:H→evCall (fun _=>ml) cf args.toList F=some (f,az,cells,e1)) (hn:H→zW (zE (rs x))=true) (hfin:H→(fin x).all (fun q=>ml.contains q.1 && q.2.noBor)=true) (h2:H→evRet o (rs x) (fin x) cells e1=some F') (hE:H→stepE o.dst bl os kp e F'=some (nw,rj,e'))
  (h:Tl H t r (Cy X ops e0 G0 ix (⟨i,true,false,kp,os,nw,bs,rj⟩ :: acc) e')):Tl H t r (Cy X ops e0 G0 (i :: ix) acc e):=fun a b =>
 cC0 false (hw.w x hy) hi ho (hg a) (hF a) (h1 a) (.inr (hn a)) (hfin a) (h2 a) (hE a) (h a b)
theorem cD1 (hy:t1=some x) [hw:Wlk X t1 f ml az rs fin] (hi:ops[i]? = some o) (ho:o.op=.call {callee:=.value cf,args:=args,argTypes:=ts}) (hg:H→gOn ops o e) (hF:H→stepF ml false args.toList (opndO ops o) e=some (F,bl,bs,os,kp))
  (h1:H→evCallD (fun _=>ml) cf args.toList F=some (f,az,cells,e1)) (hfin:H→(fin x).all (fun q=>ml.contains q.1)=true) (h2:H→evRet o (rs x) (fin x) cells e1=some F') (hE:H→stepE o.dst bl os kp e F'=some (nw,rj,e'))
  (h:Tl H t r (Cy X ops e0 G0 ix (⟨i,true,false,kp,os,nw,bs,rj⟩ :: acc) e')):Tl H t r (Cy X ops e0 G0 (i :: ix) acc e):=fun a b =>
 cC0 true (hw.w x hy) hi ho (hg a) (hF a) (h1 a) (.inl rfl) (by simpa using hfin a) (h2 a) (hE a) (h a b)
end
theorem cc {π:Type} {t1:Option π} {x:π} {goal next:Prop} (hy:t1=some x) (hn:next) (h:t1=some x→next→goal:=by
 intro hy hn
 first
  | (refine cC1 (o:=?_) (F:=?_) (e1:=?_) (os:=?_) (kp:=?_) (bs:=?_) (nw:=?_) (rj:=?_) (bl:=?_) (cells:=?_) (F':=?_) (e':=?_) (cf:=?_) (args:=?_) (ts:=?_) hy ?_ ?_ ?_ ?_ ?_ ?_ ?_ ?_ ?_ ?_
     rotate_left 15
     focus (simp only [List.getElem?_toArray,List.getElem?_cons_zero,List.getElem?_cons_succ] <;> rfl)
     focus rfl
     focus (first | exact fun _=>.inl rfl | (intro hH; refine .inr ⟨_,_,_,rfl,rfl,?_⟩; simp only [hH,Env.sc,Env.val,lk,reduceIte,Nat.reduceEqDiff,Env.put]; done))
     focus (intro hH; simp only [hH,C.lend,V.bor,borRow,klOf,klA,lkE,stepF,stepF1,stepF2,stepF3,stepQ,stepQ1,stepQ2,stepQ3,stepW,stepW1,stepW2,stepE,stepE0,stepE1,deadS,exOf,boOf,lkd,dl,dlN,opndO,gslot,dstOf,List.getElem?_toArray,dd,idsAt,fpS,rmK,rmN,kpOf,ndB,okW,okN,zC,Sl.ids,Sl.cells,C.ids,inter,lendS,Sl.nb,C.nb,tmps,Op.operands,Call.operands,Option.toArray,List.any_cons,List.any_nil,List.contains_cons,List.contains_nil,Nat.reduceBEq,BEq.rfl,Bool.or_false,Bool.or_true,Bool.true_or,Bool.false_or,Bool.not_true,Bool.not_false,Bool.and_false,Bool.false_and,decide_true,decide_false,decide_eq_true_eq,List.isEmpty_nil,List.isEmpty_cons,Array.toList_append,List.toList_toArray,List.append_assoc,Env.args,flatC,evMove,qE,evPick,evBin,evUn,zY,Env.sure,evNil,zM,evLoad,Env.int,Env.node,zL,evIndex,evField,Env.bound,Env.cut,evSlice,V.alive,Env.takes,evAlloc,Ag.cells,evBox,Env.newListO,evMake,over,Env.solid,Env.solidG,Env.parts,Ty.places,evBuild,Env.rowsOf,chunk,zO,Env.rows,isU8B,evLen,zR,V.isSc,C.killN,Ag.map,Sl.map,slMap,Env.place,Env.lay,evStore,C.killA,scR_nil,qM,alR_nil,alR_cons,Env.src,Env.newAt,qJ,Env.take,V.get,V.set,V.rowAt,V.setRow,Option.getD_some,List.set_cons_zero,List.set_cons_succ,zT,List.set_set,cellOf,cellsOf,Env.behind,Env.val,Env.sc,Env.cl,lk,setO,delO,zZ,zV,plain,Env.putO,Env.put,tyBool,binV,unV,rK,rB,rS,rL,wk_fold,bI_add,bI_sub,bI_mul,bI_quo,bI_rem,bI_and,bI_or,bI_xor,qH,bI_eql,bI_neq,bI_lss,bI_leq,bI_gtr,bI_geq,bI_shl,bI_shr,bS_add,bS_eql,bS_neq,bS_lss,bS_leq,bS_gtr,bS_geq,qA,qG,
      ↓reduceIte,eq_self,Option.isSome_some,Option.isSome_none,Option.bind_some,Option.bind_none,Option.map_some,Option.map_none,Bool.false_eq_true,Nat.reduceLT,Nat.reduceLeDiff,Nat.reduceEqDiff,Nat.reduceAdd,Nat.reduceMul,Nat.reduceSub,Int.reduceLT,Int.reduceEq,Int.reduceNeg,List.length_map,List.length_set,List.length_cons,List.length_nil,List.length_append,List.getElem?_map,List.map_cons,List.map_nil,true_or,or_true,or_false,false_or,and_true,true_and,and_self,not_true,not_false_eq_true,reduceCtorEq,List.all_cons,List.all_nil,Bool.and_true,Bool.true_and,ne_eq,List.drop_zero,List.nil_append,List.append_nil,List.singleton_append,List.cons_append,List.flatMap_cons,List.flatMap_nil,List.flatten_cons,List.flatten_nil,List.mapM_cons,List.mapM_nil,Option.pure_def,Option.bind_eq_bind,List.take_zero,List.take_succ_cons,List.drop_succ_cons,List.getElem?_cons_zero,List.getElem?_cons_succ,List.set_cons_zero,List.set_cons_succ,List.headD_cons,List.take_nil,List.drop_nil,Nat.sub_zero,Nat.add_zero,Nat.zero_add,Nat.zero_le,Nat.le_refl,← List.map_append,← List.map_take,← List.map_drop] <;> rfl)
     focus (intro hH; simp only [hH,evCall,Env.callee,Env.args,flatC,Env.own1,Env.carve,Env.lend,Env.fill,shape,Env.deadAt,Env.deads,Env.node,Env.rows,Env.val,Env.sc,Env.cl,lk,setO,delO,zZ,zV,plain,Env.putO,Env.put,V.get,V.set,V.rowAt,V.setRow,Option.getD_some,List.set_cons_zero,List.set_cons_succ,zT,List.set_set,V.alive,V.bor,borRow,rK,rB,rS,rL,List.getElem?_map,List.append_nil,↓reduceIte,eq_self,Option.isSome_some,Option.isSome_none,Option.bind_some,Option.bind_none,Option.map_some,Option.map_none,Bool.false_eq_true,Nat.reduceLT,Nat.reduceLeDiff,Nat.reduceEqDiff,Nat.reduceAdd,Nat.reduceMul,Nat.reduceSub,Nat.reduceBEq,List.map_cons,List.map_nil,List.length_cons,List.length_nil,List.cons_append,List.nil_append,List.headD_cons,List.tail_cons,List.contains_nil,List.contains_cons,List.take_zero,List.take_succ_cons,List.drop_zero,List.drop_succ_cons,List.getElem?_cons_zero,List.getElem?_cons_succ,Bool.and_true,Bool.true_and,Bool.or_false,Bool.or_true,and_self,and_true,true_and,← List.map_append,← List.map_take,← List.map_drop] <;> rfl)
     focus (intro hH; simp only [hH,zE,zW,V.noBor,zS,List.cons_append,List.nil_append,Bool.and_true,Bool.true_and])
     focus (intro hH; simp only [hH,List.all_nil,List.all_cons,zW,V.noBor,zS,Bool.and_true,Bool.true_and,Bool.or_false,Bool.or_true,List.contains_cons,List.contains_nil,Nat.reduceBEq,BEq.rfl])
     focus (intro hH; simp only [hH,evRet,retS,entA,entC,entCs,entOs,V.own,zE,Env.back,Env.graft,slMap,Sl.map,Ag.map,C.killN,Env.node,Env.val,Env.sc,Env.cl,lk,setO,delO,zZ,zV,plain,Env.putO,Env.put,V.get,V.set,V.rowAt,V.setRow,Option.getD_some,List.set_cons_zero,List.set_cons_succ,zT,List.set_set,V.alive,rK,rB,rS,rL,List.getElem?_map,List.append_nil,↓reduceIte,eq_self,Option.isSome_some,Option.isSome_none,Option.bind_some,Option.bind_none,Option.map_some,Option.map_none,Bool.false_eq_true,Nat.reduceLT,Nat.reduceLeDiff,Nat.reduceEqDiff,Nat.reduceAdd,Nat.reduceMul,Nat.reduceSub,List.map_cons,List.map_nil,List.length_cons,List.length_nil,List.cons_append,List.nil_append,List.take_zero,List.take_succ_cons,List.drop_zero,List.drop_succ_cons,List.getElem?_cons_zero,List.getElem?_cons_succ,List.set_cons_zero,List.set_cons_succ,Bool.and_true,Bool.true_and,and_self,and_true,true_and] <;> rfl)
     focus (intro hH; simp only [hH,V.noBor,zW,zS,klOf,klA,lkE,stepF,stepF1,stepF2,stepF3,stepQ,stepQ1,stepQ2,stepQ3,stepW,stepW1,stepW2,stepE,stepE0,stepE1,deadS,exOf,boOf,lkd,dl,dlN,opndO,gslot,dstOf,List.getElem?_toArray,dd,idsAt,fpS,rmK,rmN,kpOf,ndB,okW,okN,zC,Sl.ids,Sl.cells,C.ids,inter,lendS,Sl.nb,C.nb,tmps,Op.operands,Call.operands,Option.toArray,List.any_cons,List.any_nil,List.contains_cons,List.contains_nil,Nat.reduceBEq,BEq.rfl,Bool.or_false,Bool.or_true,Bool.true_or,Bool.false_or,Bool.not_true,Bool.not_false,Bool.and_false,Bool.false_and,decide_true,decide_false,decide_eq_true_eq,List.isEmpty_nil,List.isEmpty_cons,Array.toList_append,List.toList_toArray,List.append_assoc,evMove,qE,evPick,evBin,evUn,zY,Env.sure,evNil,zM,evLoad,Env.int,Env.node,zL,evIndex,evField,Env.bound,Env.cut,evSlice,V.alive,Env.takes,evAlloc,Ag.cells,evBox,Env.newListO,evMake,over,Env.solid,Env.solidG,Env.parts,Ty.places,evBuild,Env.rowsOf,chunk,zO,Env.rows,isU8B,evLen,zR,V.isSc,C.killN,Ag.map,Sl.map,slMap,Env.place,Env.lay,evStore,C.killA,scR_nil,qM,alR_nil,alR_cons,Env.src,Env.newAt,qJ,Env.take,V.get,V.set,V.rowAt,V.setRow,Option.getD_some,List.set_cons_zero,List.set_cons_succ,zT,List.set_set,cellOf,cellsOf,Env.behind,Env.val,Env.sc,Env.cl,lk,setO,delO,zZ,zV,plain,Env.putO,Env.put,tyBool,binV,unV,rK,rB,rS,rL,wk_fold,bI_add,bI_sub,bI_mul,bI_quo,bI_rem,bI_and,bI_or,bI_xor,qH,bI_eql,bI_neq,bI_lss,bI_leq,bI_gtr,bI_geq,bI_shl,bI_shr,bS_add,bS_eql,bS_neq,bS_lss,bS_leq,bS_gtr,bS_geq,qA,qG,
      ↓reduceIte,eq_self,Option.isSome_some,Option.isSome_none,Option.bind_some,Option.bind_none,Option.map_some,Option.map_none,Bool.false_eq_true,Nat.reduceLT,Nat.reduceLeDiff,Nat.reduceEqDiff,Nat.reduceAdd,Nat.reduceMul,Nat.reduceSub,Int.reduceLT,Int.reduceEq,Int.reduceNeg,List.length_map,List.length_set,List.length_cons,List.length_nil,List.length_append,List.getElem?_map,List.map_cons,List.map_nil,true_or,or_true,or_false,false_or,and_true,true_and,and_self,not_true,not_false_eq_true,reduceCtorEq,List.all_cons,List.all_nil,Bool.and_true,Bool.true_and,ne_eq,List.drop_zero,List.nil_append,List.append_nil,List.singleton_append,List.cons_append,List.flatMap_cons,List.flatMap_nil,List.flatten_cons,List.flatten_nil,List.mapM_cons,List.mapM_nil,Option.pure_def,Option.bind_eq_bind,List.take_zero,List.take_succ_cons,List.drop_succ_cons,List.getElem?_cons_zero,List.getElem?_cons_succ,List.set_cons_zero,List.set_cons_succ,List.headD_cons,List.take_nil,List.drop_nil,Nat.sub_zero,Nat.add_zero,Nat.zero_add,Nat.zero_le,Nat.le_refl,← List.map_append,← List.map_take,← List.map_drop] <;> rfl)
     exact hn)
  | (refine cD1 (o:=?_) (F:=?_) (e1:=?_) (os:=?_) (kp:=?_) (bs:=?_) (nw:=?_) (rj:=?_) (bl:=?_) (cells:=?_) (F':=?_) (e':=?_) (cf:=?_) (args:=?_) (ts:=?_) hy ?_ ?_ ?_ ?_ ?_ ?_ ?_ ?_ ?_
     rotate_left 15
     focus (simp only [List.getElem?_toArray,List.getElem?_cons_zero,List.getElem?_cons_succ] <;> rfl)
     focus rfl
     focus (first | exact fun _=>.inl rfl | (intro hH; refine .inr ⟨_,_,_,rfl,rfl,?_⟩; simp only [hH,Env.sc,Env.val,lk,reduceIte,Nat.reduceEqDiff,Env.put]; done))
     focus (intro hH; simp only [hH,C.lend,V.bor,borRow,klOf,klA,lkE,stepF,stepF1,stepF2,stepF3,stepQ,stepQ1,stepQ2,stepQ3,stepW,stepW1,stepW2,stepE,stepE0,stepE1,deadS,exOf,boOf,lkd,dl,dlN,opndO,gslot,dstOf,List.getElem?_toArray,dd,idsAt,fpS,rmK,rmN,kpOf,ndB,okW,okN,zC,Sl.ids,Sl.cells,C.ids,inter,lendS,Sl.nb,C.nb,tmps,Op.operands,Call.operands,Option.toArray,List.any_cons,List.any_nil,List.contains_cons,List.contains_nil,Nat.reduceBEq,BEq.rfl,Bool.or_false,Bool.or_true,Bool.true_or,Bool.false_or,Bool.not_true,Bool.not_false,Bool.and_false,Bool.false_and,decide_true,decide_false,decide_eq_true_eq,List.isEmpty_nil,List.isEmpty_cons,Array.toList_append,List.toList_toArray,List.append_assoc,Env.args,flatC,evMove,qE,evPick,evBin,evUn,zY,Env.sure,evNil,zM,evLoad,Env.int,Env.node,zL,evIndex,evField,Env.bound,Env.cut,evSlice,V.alive,Env.takes,evAlloc,Ag.cells,evBox,Env.newListO,evMake,over,Env.solid,Env.solidG,Env.parts,Ty.places,evBuild,Env.rowsOf,chunk,zO,Env.rows,isU8B,evLen,zR,V.isSc,C.killN,Ag.map,Sl.map,slMap,Env.place,Env.lay,evStore,C.killA,scR_nil,qM,alR_nil,alR_cons,Env.src,Env.newAt,qJ,Env.take,V.get,V.set,V.rowAt,V.setRow,Option.getD_some,List.set_cons_zero,List.set_cons_succ,zT,List.set_set,cellOf,cellsOf,Env.behind,Env.val,Env.sc,Env.cl,lk,setO,delO,zZ,zV,plain,Env.putO,Env.put,tyBool,binV,unV,rK,rB,rS,rL,wk_fold,bI_add,bI_sub,bI_mul,bI_quo,bI_rem,bI_and,bI_or,bI_xor,qH,bI_eql,bI_neq,bI_lss,bI_leq,bI_gtr,bI_geq,bI_shl,bI_shr,bS_add,bS_eql,bS_neq,bS_lss,bS_leq,bS_gtr,bS_geq,qA,qG,
      ↓reduceIte,eq_self,Option.isSome_some,Option.isSome_none,Option.bind_some,Option.bind_none,Option.map_some,Option.map_none,Bool.false_eq_true,Nat.reduceLT,Nat.reduceLeDiff,Nat.reduceEqDiff,Nat.reduceAdd,Nat.reduceMul,Nat.reduceSub,Int.reduceLT,Int.reduceEq,Int.reduceNeg,List.length_map,List.length_set,List.length_cons,List.length_nil,List.length_append,List.getElem?_map,List.map_cons,List.map_nil,true_or,or_true,or_false,false_or,and_true,true_and,and_self,not_true,not_false_eq_true,reduceCtorEq,List.all_cons,List.all_nil,Bool.and_true,Bool.true_and,ne_eq,List.drop_zero,List.nil_append,List.append_nil,List.singleton_append,List.cons_append,List.flatMap_cons,List.flatMap_nil,List.flatten_cons,List.flatten_nil,List.mapM_cons,List.mapM_nil,Option.pure_def,Option.bind_eq_bind,List.take_zero,List.take_succ_cons,List.drop_succ_cons,List.getElem?_cons_zero,List.getElem?_cons_succ,List.set_cons_zero,List.set_cons_succ,List.headD_cons,List.take_nil,List.drop_nil,Nat.sub_zero,Nat.add_zero,Nat.zero_add,Nat.zero_le,Nat.le_refl,← List.map_append,← List.map_take,← List.map_drop] <;> rfl)
     focus (intro hH; simp only [hH,evCallD,fillOk,evCall,Env.callee,Env.args,flatC,Env.own1,Env.carve,Env.lend,Env.fill,shape,Env.deadAt,Env.deads,Env.node,Env.rows,Env.val,Env.sc,Env.cl,lk,setO,delO,zZ,zV,plain,Env.putO,Env.put,V.get,V.set,V.rowAt,V.setRow,Option.getD_some,List.set_cons_zero,List.set_cons_succ,zT,List.set_set,V.alive,V.bor,borRow,rK,rB,rS,rL,List.getElem?_map,List.append_nil,↓reduceIte,eq_self,Option.isSome_some,Option.isSome_none,Option.bind_some,Option.bind_none,Option.map_some,Option.map_none,Bool.false_eq_true,Nat.reduceLT,Nat.reduceLeDiff,Nat.reduceEqDiff,Nat.reduceAdd,Nat.reduceMul,Nat.reduceSub,Nat.reduceBEq,List.map_cons,List.map_nil,List.length_cons,List.length_nil,List.cons_append,List.nil_append,List.headD_cons,List.tail_cons,List.contains_nil,List.contains_cons,List.take_zero,List.take_succ_cons,List.drop_zero,List.drop_succ_cons,List.getElem?_cons_zero,List.getElem?_cons_succ,Bool.and_true,Bool.true_and,Bool.or_false,Bool.or_true,and_self,and_true,true_and,← List.map_append,← List.map_take,← List.map_drop] <;> rfl)
     focus (intro hH; simp only [hH,List.all_nil,List.all_cons,zW,V.noBor,zS,Bool.and_true,Bool.true_and,Bool.or_false,Bool.or_true,List.contains_cons,List.contains_nil,Nat.reduceBEq,BEq.rfl])
     focus (intro hH; simp only [hH,evRet,retS,entA,entC,entCs,entOs,V.own,zE,Env.back,Env.graft,slMap,Sl.map,Ag.map,C.killN,Env.node,Env.val,Env.sc,Env.cl,lk,setO,delO,zZ,zV,plain,Env.putO,Env.put,V.get,V.set,V.rowAt,V.setRow,Option.getD_some,List.set_cons_zero,List.set_cons_succ,zT,List.set_set,V.alive,rK,rB,rS,rL,List.getElem?_map,List.append_nil,↓reduceIte,eq_self,Option.isSome_some,Option.isSome_none,Option.bind_some,Option.bind_none,Option.map_some,Option.map_none,Bool.false_eq_true,Nat.reduceLT,Nat.reduceLeDiff,Nat.reduceEqDiff,Nat.reduceAdd,Nat.reduceMul,Nat.reduceSub,List.map_cons,List.map_nil,List.length_cons,List.length_nil,List.cons_append,List.nil_append,List.take_zero,List.take_succ_cons,List.drop_zero,List.drop_succ_cons,List.getElem?_cons_zero,List.getElem?_cons_succ,List.set_cons_zero,List.set_cons_succ,Bool.and_true,Bool.true_and,and_self,and_true,true_and] <;> rfl)
     focus (intro hH; simp only [hH,V.noBor,zW,zS,klOf,klA,lkE,stepF,stepF1,stepF2,stepF3,stepQ,stepQ1,stepQ2,stepQ3,stepW,stepW1,stepW2,stepE,stepE0,stepE1,deadS,exOf,boOf,lkd,dl,dlN,opndO,gslot,dstOf,List.getElem?_toArray,dd,idsAt,fpS,rmK,rmN,kpOf,ndB,okW,okN,zC,Sl.ids,Sl.cells,C.ids,inter,lendS,Sl.nb,C.nb,tmps,Op.operands,Call.operands,Option.toArray,List.any_cons,List.any_nil,List.contains_cons,List.contains_nil,Nat.reduceBEq,BEq.rfl,Bool.or_false,Bool.or_true,Bool.true_or,Bool.false_or,Bool.not_true,Bool.not_false,Bool.and_false,Bool.false_and,decide_true,decide_false,decide_eq_true_eq,List.isEmpty_nil,List.isEmpty_cons,Array.toList_append,List.toList_toArray,List.append_assoc,evMove,qE,evPick,evBin,evUn,zY,Env.sure,evNil,zM,evLoad,Env.int,Env.node,zL,evIndex,evField,Env.bound,Env.cut,evSlice,V.alive,Env.takes,evAlloc,Ag.cells,evBox,Env.newListO,evMake,over,Env.solid,Env.solidG,Env.parts,Ty.places,evBuild,Env.rowsOf,chunk,zO,Env.rows,isU8B,evLen,zR,V.isSc,C.killN,Ag.map,Sl.map,slMap,Env.place,Env.lay,evStore,C.killA,scR_nil,qM,alR_nil,alR_cons,Env.src,Env.newAt,qJ,Env.take,V.get,V.set,V.rowAt,V.setRow,Option.getD_some,List.set_cons_zero,List.set_cons_succ,zT,List.set_set,cellOf,cellsOf,Env.behind,Env.val,Env.sc,Env.cl,lk,setO,delO,zZ,zV,plain,Env.putO,Env.put,tyBool,binV,unV,rK,rB,rS,rL,wk_fold,bI_add,bI_sub,bI_mul,bI_quo,bI_rem,bI_and,bI_or,bI_xor,qH,bI_eql,bI_neq,bI_lss,bI_leq,bI_gtr,bI_geq,bI_shl,bI_shr,bS_add,bS_eql,bS_neq,bS_lss,bS_leq,bS_gtr,bS_geq,qA,qG,
      ↓reduceIte,eq_self,Option.isSome_some,Option.isSome_none,Option.bind_some,Option.bind_none,Option.map_some,Option.map_none,Bool.false_eq_true,Nat.reduceLT,Nat.reduceLeDiff,Nat.reduceEqDiff,Nat.reduceAdd,Nat.reduceMul,Nat.reduceSub,Int.reduceLT,Int.reduceEq,Int.reduceNeg,List.length_map,List.length_set,List.length_cons,List.length_nil,List.length_append,List.getElem?_map,List.map_cons,List.map_nil,true_or,or_true,or_false,false_or,and_true,true_and,and_self,not_true,not_false_eq_true,reduceCtorEq,List.all_cons,List.all_nil,Bool.and_true,Bool.true_and,ne_eq,List.drop_zero,List.nil_append,List.append_nil,List.singleton_append,List.cons_append,List.flatMap_cons,List.flatMap_nil,List.flatten_cons,List.flatten_nil,List.mapM_cons,List.mapM_nil,Option.pure_def,Option.bind_eq_bind,List.take_zero,List.take_succ_cons,List.drop_succ_cons,List.getElem?_cons_zero,List.getElem?_cons_succ,List.set_cons_zero,List.set_cons_succ,List.headD_cons,List.take_nil,List.drop_nil,Nat.sub_zero,Nat.add_zero,Nat.zero_add,Nat.zero_le,Nat.le_refl,← List.map_append,← List.map_take,← List.map_drop] <;> rfl)
     exact hn)):goal:=h hy hn
theorem go {goal next:Prop} (hn:next) (h:next→goal:=by
 intro hn
 repeat (first
  | with_reducible refine l_seqR ?_
  | with_reducible refine l_reg ?_
  | with_reducible refine l_blk ?_
  | ((with_reducible refine b_geti (o:=?_) ?_ ?_ ?_); rotate_left; (focus first | with_reducible exact hd_o | with_reducible exact hd_q | (refine hd_y ?_; simp only [List.getElem?_toArray,List.getElem?_cons_zero,List.getElem?_cons_succ] <;> rfl)); (focus rfl))
  | ((with_reducible refine b_sidx (o:=?_) ?_ ?_ ?_); rotate_left; (focus first | with_reducible exact hd_o | with_reducible exact hd_q | (refine hd_y ?_; simp only [List.getElem?_toArray,List.getElem?_cons_zero,List.getElem?_cons_succ] <;> rfl)); (focus rfl))
  | ((with_reducible refine b_sub2 (o:=?_) ?_ ?_ ?_); rotate_left; (focus first | with_reducible exact hd_o | with_reducible exact hd_q | (refine hd_y ?_; simp only [List.getElem?_toArray,List.getElem?_cons_zero,List.getElem?_cons_succ] <;> rfl)); (focus rfl))
  | ((with_reducible refine b_subL (o:=?_) ?_ ?_ ?_); rotate_left; (focus first | with_reducible exact hd_o | with_reducible exact hd_q | (refine hd_y ?_; simp only [List.getElem?_toArray,List.getElem?_cons_zero,List.getElem?_cons_succ] <;> rfl)); (focus rfl))
  | ((with_reducible refine b_subH (o:=?_) ?_ ?_ ?_); rotate_left; (focus first | with_reducible exact hd_o | with_reducible exact hd_q | (refine hd_y ?_; simp only [List.getElem?_toArray,List.getElem?_cons_zero,List.getElem?_cons_succ] <;> rfl)); (focus rfl))
  | ((with_reducible refine b_cut2 (o:=?_) ?_ ?_ ?_); rotate_left; (focus first | with_reducible exact hd_o | with_reducible exact hd_q | (refine hd_y ?_; simp only [List.getElem?_toArray,List.getElem?_cons_zero,List.getElem?_cons_succ] <;> rfl)); (focus rfl))
  | ((with_reducible refine b_cutL (o:=?_) ?_ ?_ ?_); rotate_left; (focus first | with_reducible exact hd_o | with_reducible exact hd_q | (refine hd_y ?_; simp only [List.getElem?_toArray,List.getElem?_cons_zero,List.getElem?_cons_succ] <;> rfl)); (focus rfl))
  | ((with_reducible refine b_cutH (o:=?_) ?_ ?_ ?_); rotate_left; (focus first | with_reducible exact hd_o | with_reducible exact hd_q | (refine hd_y ?_; simp only [List.getElem?_toArray,List.getElem?_cons_zero,List.getElem?_cons_succ] <;> rfl)); (focus rfl))
  | ((with_reducible refine b_mkl (o:=?_) ?_ ?_ ?_); rotate_left; (focus first | with_reducible exact hd_o | with_reducible exact hd_q | (refine hd_y ?_; simp only [List.getElem?_toArray,List.getElem?_cons_zero,List.getElem?_cons_succ] <;> rfl)); (focus rfl))
  | ((with_reducible refine b_app1 (o:=?_) ?_ ?_ ?_); rotate_left; (focus first | with_reducible exact hd_o | with_reducible exact hd_q | (refine hd_y ?_; simp only [List.getElem?_toArray,List.getElem?_cons_zero,List.getElem?_cons_succ] <;> rfl)); (focus rfl))
  | ((with_reducible refine b_app2 (o:=?_) ?_ ?_ ?_); rotate_left; (focus first | with_reducible exact hd_o | with_reducible exact hd_q | (refine hd_y ?_; simp only [List.getElem?_toArray,List.getElem?_cons_zero,List.getElem?_cons_succ] <;> rfl)); (focus rfl))
  | ((with_reducible refine b_app3 (o:=?_) ?_ ?_ ?_); rotate_left; (focus first | with_reducible exact hd_o | with_reducible exact hd_q | (refine hd_y ?_; simp only [List.getElem?_toArray,List.getElem?_cons_zero,List.getElem?_cons_succ] <;> rfl)); (focus rfl))
  | ((with_reducible refine b_app4 (o:=?_) ?_ ?_ ?_); rotate_left; (focus first | with_reducible exact hd_o | with_reducible exact hd_q | (refine hd_y ?_; simp only [List.getElem?_toArray,List.getElem?_cons_zero,List.getElem?_cons_succ] <;> rfl)); (focus rfl))
  | ((with_reducible refine b_appn (o:=?_) ?_ ?_ ?_); rotate_left; (focus first | with_reducible exact hd_o | with_reducible exact hd_q | (refine hd_y ?_; simp only [List.getElem?_toArray,List.getElem?_cons_zero,List.getElem?_cons_succ] <;> rfl)); (focus rfl))
  | ((with_reducible refine b_ins1 (o:=?_) ?_ ?_ ?_); rotate_left; (focus first | with_reducible exact hd_o | with_reducible exact hd_q | (refine hd_y ?_; simp only [List.getElem?_toArray,List.getElem?_cons_zero,List.getElem?_cons_succ] <;> rfl)); (focus rfl))
  | ((with_reducible refine b_sapp (o:=?_) ?_ ?_ ?_); rotate_left; (focus first | with_reducible exact hd_o | with_reducible exact hd_q | (refine hd_y ?_; simp only [List.getElem?_toArray,List.getElem?_cons_zero,List.getElem?_cons_succ] <;> rfl)); (focus rfl))
  | ((with_reducible refine b_chk (o:=?_) ?_ ?_ ?_); rotate_left; (focus first | with_reducible exact hd_o | with_reducible exact hd_q | (refine hd_y ?_; simp only [List.getElem?_toArray,List.getElem?_cons_zero,List.getElem?_cons_succ] <;> rfl)); (focus rfl))
  | ((with_reducible refine l_op (e':=?_) rfl ?_ ?_ ?_)
     rotate_left
     focus rfl
     focus (intro hH; simp only [hH,evOp,evConv,evMove,qE,evPick,evBin,evUn,zY,Env.sure,evNil,zM,evLoad,Env.int,Env.node,zL,evIndex,evField,Env.bound,Env.cut,evSlice,V.alive,Env.takes,evAlloc,Ag.cells,evBox,Env.newListO,evMake,over,Env.solid,Env.solidG,Env.parts,Ty.places,evBuild,Env.rowsOf,chunk,zO,Env.rows,isU8B,evLen,zR,V.isSc,C.killN,Ag.map,Sl.map,slMap,Env.place,Env.lay,evStore,C.killA,scR_nil,qM,alR_nil,alR_cons,Env.src,Env.newAt,qJ,Env.take,V.get,V.set,V.rowAt,V.setRow,Option.getD_some,List.set_cons_zero,List.set_cons_succ,zT,List.set_set,cellOf,cellsOf,Env.behind,Env.val,Env.sc,Env.cl,lk,setO,delO,zZ,zV,plain,Env.putO,Env.put,tyBool,binV,unV,rK,rB,rS,rL,wk_fold,bI_add,bI_sub,bI_mul,bI_quo,bI_rem,bI_and,bI_or,bI_xor,qH,bI_eql,bI_neq,bI_lss,bI_leq,bI_gtr,bI_geq,bI_shl,bI_shr,bS_add,bS_eql,bS_neq,bS_lss,bS_leq,bS_gtr,bS_geq,qA,qG,
      ↓reduceIte,eq_self,Option.isSome_some,Option.isSome_none,Option.bind_some,Option.bind_none,Option.map_some,Option.map_none,Bool.false_eq_true,Nat.reduceLT,Nat.reduceLeDiff,Nat.reduceEqDiff,Nat.reduceAdd,Nat.reduceMul,Nat.reduceSub,Int.reduceLT,Int.reduceEq,Int.reduceNeg,List.length_map,List.length_set,List.length_cons,List.length_nil,List.length_append,List.getElem?_map,List.map_cons,List.map_nil,true_or,or_true,or_false,false_or,and_true,true_and,and_self,not_true,not_false_eq_true,reduceCtorEq,List.all_cons,List.all_nil,Bool.and_true,Bool.true_and,ne_eq,List.drop_zero,List.nil_append,List.append_nil,List.singleton_append,List.cons_append,List.flatMap_cons,List.flatMap_nil,List.flatten_cons,List.flatten_nil,List.mapM_cons,List.mapM_nil,Option.pure_def,Option.bind_eq_bind,List.take_zero,List.take_succ_cons,List.drop_succ_cons,List.getElem?_cons_zero,List.getElem?_cons_succ,List.set_cons_zero,List.set_cons_succ,List.headD_cons,List.take_nil,List.drop_nil,Nat.sub_zero,Nat.add_zero,Nat.zero_add,Nat.zero_le,Nat.le_refl,← List.map_append,← List.map_take,← List.map_drop]; with_reducible rfl))
  | (refine l_on rfl rfl rfl ?_ ?_
     focus (intro hH; simp only [hH,Env.sc,Env.val,lk,reduceIte,Nat.reduceEqDiff]; done))
  | (refine l_off (e':=?_) rfl rfl rfl ?_ ?_ ?_
     rotate_left
     focus (intro hH; simp only [hH,Env.sc,Env.val,lk,reduceIte,Nat.reduceEqDiff,Bool.not_true,Bool.not_false]; done)
     focus (simp only [Env.putO,Env.put,reduceIte,Nat.reduceLT]; rfl))
  | (refine l_dead (e':=?_) rfl rfl rfl ?_ ?_ ?_
     rotate_left
     focus (simp only [Env.val,lk,reduceIte,Nat.reduceEqDiff]; done)
     focus (simp only [Env.putO,Env.put,reduceIte,Nat.reduceLT]; rfl))
  | ((with_reducible refine l_call (e1:=?_) (cells:=?_) (e2:=?_) rfl rfl ?_ ?_ ?_ ?_ ?_)
     rotate_left 3
     focus (intro hH; simp only [hH,evCall,Env.callee,Env.args,flatC,Env.own1,Env.carve,Env.lend,Env.fill,shape,Env.deadAt,Env.deads,Env.node,Env.rows,Env.val,Env.sc,Env.cl,lk,setO,delO,zZ,zV,plain,Env.putO,Env.put,V.get,V.set,V.rowAt,V.setRow,Option.getD_some,List.set_cons_zero,List.set_cons_succ,zT,List.set_set,V.alive,V.bor,borRow,rK,rB,rS,rL,List.getElem?_map,List.append_nil,↓reduceIte,eq_self,Option.isSome_some,Option.isSome_none,Option.bind_some,Option.bind_none,Option.map_some,Option.map_none,Bool.false_eq_true,Nat.reduceLT,Nat.reduceLeDiff,Nat.reduceEqDiff,Nat.reduceAdd,Nat.reduceMul,Nat.reduceSub,Nat.reduceBEq,List.map_cons,List.map_nil,List.length_cons,List.length_nil,List.cons_append,List.nil_append,List.headD_cons,List.tail_cons,List.contains_nil,List.contains_cons,List.take_zero,List.take_succ_cons,List.drop_zero,List.drop_succ_cons,List.getElem?_cons_zero,List.getElem?_cons_succ,Bool.and_true,Bool.true_and,Bool.or_false,Bool.or_true,and_self,and_true,true_and,← List.map_append,← List.map_take,← List.map_drop] <;> rfl)
     focus (intro x hH; simp only [hH,zE,zW,V.noBor,zS,List.cons_append,List.nil_append,Bool.and_true,Bool.true_and])
     focus (intro x hH; simp only [hH,List.all_nil,List.all_cons,zW,V.noBor,zS,Bool.and_true,Bool.true_and,Bool.or_false,Bool.or_true,List.contains_cons,List.contains_nil,Nat.reduceBEq,BEq.rfl])
     focus (intro x hH; simp only [hH,evRet,retS,entA,entC,entCs,entOs,V.own,zE,Env.back,Env.graft,slMap,Sl.map,Ag.map,C.killN,Env.node,Env.val,Env.sc,Env.cl,lk,setO,delO,zZ,zV,plain,Env.putO,Env.put,V.get,V.set,V.rowAt,V.setRow,Option.getD_some,List.set_cons_zero,List.set_cons_succ,zT,List.set_set,V.alive,rK,rB,rS,rL,List.getElem?_map,List.append_nil,↓reduceIte,eq_self,Option.isSome_some,Option.isSome_none,Option.bind_some,Option.bind_none,Option.map_some,Option.map_none,Bool.false_eq_true,Nat.reduceLT,Nat.reduceLeDiff,Nat.reduceEqDiff,Nat.reduceAdd,Nat.reduceMul,Nat.reduceSub,List.map_cons,List.map_nil,List.length_cons,List.length_nil,List.cons_append,List.nil_append,List.take_zero,List.take_succ_cons,List.drop_zero,List.drop_succ_cons,List.getElem?_cons_zero,List.getElem?_cons_succ,List.set_cons_zero,List.set_cons_succ,Bool.and_true,Bool.true_and,and_self,and_true,true_and] <;> rfl))
  | ((with_reducible refine l_callD (e1:=?_) (cells:=?_) (e2:=?_) rfl rfl ?_ ?_ ?_ ?_)
     rotate_left 3
     focus (intro hH; simp only [hH,evCallD,fillOk,evCall,Env.callee,Env.args,flatC,Env.own1,Env.carve,Env.lend,Env.fill,shape,Env.deadAt,Env.deads,Env.node,Env.rows,Env.val,Env.sc,Env.cl,lk,setO,delO,zZ,zV,plain,Env.putO,Env.put,V.get,V.set,V.rowAt,V.setRow,Option.getD_some,List.set_cons_zero,List.set_cons_succ,zT,List.set_set,V.alive,V.bor,borRow,rK,rB,rS,rL,List.getElem?_map,List.append_nil,↓reduceIte,eq_self,Option.isSome_some,Option.isSome_none,Option.bind_some,Option.bind_none,Option.map_some,Option.map_none,Bool.false_eq_true,Nat.reduceLT,Nat.reduceLeDiff,Nat.reduceEqDiff,Nat.reduceAdd,Nat.reduceMul,Nat.reduceSub,Nat.reduceBEq,List.map_cons,List.map_nil,List.length_cons,List.length_nil,List.cons_append,List.nil_append,List.headD_cons,List.tail_cons,List.contains_nil,List.contains_cons,List.take_zero,List.take_succ_cons,List.drop_zero,List.drop_succ_cons,List.getElem?_cons_zero,List.getElem?_cons_succ,Bool.and_true,Bool.true_and,Bool.or_false,Bool.or_true,and_self,and_true,true_and,← List.map_append,← List.map_take,← List.map_drop] <;> rfl)
     focus (intro x hH; simp only [hH,List.all_nil,List.all_cons,zW,V.noBor,zS,Bool.and_true,Bool.true_and,Bool.or_false,Bool.or_true,List.contains_cons,List.contains_nil,Nat.reduceBEq,BEq.rfl])
     focus (intro x hH; simp only [hH,evRet,retS,entA,entC,entCs,entOs,V.own,zE,Env.back,Env.graft,slMap,Sl.map,Ag.map,C.killN,Env.node,Env.val,Env.sc,Env.cl,lk,setO,delO,zZ,zV,plain,Env.putO,Env.put,V.get,V.set,V.rowAt,V.setRow,Option.getD_some,List.set_cons_zero,List.set_cons_succ,zT,List.set_set,V.alive,rK,rB,rS,rL,List.getElem?_map,List.append_nil,↓reduceIte,eq_self,Option.isSome_some,Option.isSome_none,Option.bind_some,Option.bind_none,Option.map_some,Option.map_none,Bool.false_eq_true,Nat.reduceLT,Nat.reduceLeDiff,Nat.reduceEqDiff,Nat.reduceAdd,Nat.reduceMul,Nat.reduceSub,List.map_cons,List.map_nil,List.length_cons,List.length_nil,List.cons_append,List.nil_append,List.take_zero,List.take_succ_cons,List.drop_zero,List.drop_succ_cons,List.getElem?_cons_zero,List.getElem?_cons_succ,List.set_cons_zero,List.set_cons_succ,Bool.and_true,Bool.true_and,and_self,and_true,true_and] <;> rfl))
  | (refine cQ (o:=?_) (e':=?_) (os:=?_) (rd:=?_) (p:=?_) ?_ ?_ ?_ ?_ ?_
     rotate_left 5
     focus (simp only [List.getElem?_toArray,List.getElem?_cons_zero,List.getElem?_cons_succ] <;> rfl)
     focus (first | exact (rfl:true=true) | exact (rfl:false=false))
     focus (first | exact fun _=>.inl rfl | (intro hH; refine .inr ⟨_,_,_,rfl,rfl,?_⟩; simp only [hH,Env.sc,Env.val,lk,reduceIte,Nat.reduceEqDiff,Env.put]; done))
     focus (intro hH; simp only [hH,evR,evConvQ,evSliceS,klOf,klA,lkE,stepF,stepF1,stepF2,stepF3,stepQ,stepQ1,stepQ2,stepQ3,stepW,stepW1,stepW2,stepE,stepE0,stepE1,deadS,exOf,boOf,lkd,dl,dlN,opndO,gslot,dstOf,List.getElem?_toArray,dd,idsAt,fpS,rmK,rmN,kpOf,ndB,okW,okN,zC,Sl.ids,Sl.cells,C.ids,inter,lendS,Sl.nb,C.nb,tmps,Op.operands,Call.operands,Option.toArray,List.any_cons,List.any_nil,List.contains_cons,List.contains_nil,Nat.reduceBEq,BEq.rfl,Bool.or_false,Bool.or_true,Bool.true_or,Bool.false_or,Bool.not_true,Bool.not_false,Bool.and_false,Bool.false_and,decide_true,decide_false,decide_eq_true_eq,List.isEmpty_nil,List.isEmpty_cons,Array.toList_append,List.toList_toArray,List.append_assoc,evMove,qE,evPick,evBin,evUn,zY,Env.sure,evNil,zM,evLoad,Env.int,Env.node,zL,evIndex,evField,Env.bound,Env.cut,evSlice,V.alive,Env.takes,evAlloc,Ag.cells,evBox,Env.newListO,evMake,over,Env.solid,Env.solidG,Env.parts,Ty.places,evBuild,Env.rowsOf,chunk,zO,Env.rows,isU8B,evLen,zR,V.isSc,C.killN,Ag.map,Sl.map,slMap,Env.place,Env.lay,evStore,C.killA,scR_nil,qM,alR_nil,alR_cons,Env.src,Env.newAt,qJ,Env.take,V.get,V.set,V.rowAt,V.setRow,Option.getD_some,List.set_cons_zero,List.set_cons_succ,zT,List.set_set,cellOf,cellsOf,Env.behind,Env.val,Env.sc,Env.cl,lk,setO,delO,zZ,zV,plain,Env.putO,Env.put,tyBool,binV,unV,rK,rB,rS,rL,wk_fold,bI_add,bI_sub,bI_mul,bI_quo,bI_rem,bI_and,bI_or,bI_xor,qH,bI_eql,bI_neq,bI_lss,bI_leq,bI_gtr,bI_geq,bI_shl,bI_shr,bS_add,bS_eql,bS_neq,bS_lss,bS_leq,bS_gtr,bS_geq,qA,qG,
      ↓reduceIte,eq_self,Option.isSome_some,Option.isSome_none,Option.bind_some,Option.bind_none,Option.map_some,Option.map_none,Bool.false_eq_true,Nat.reduceLT,Nat.reduceLeDiff,Nat.reduceEqDiff,Nat.reduceAdd,Nat.reduceMul,Nat.reduceSub,Int.reduceLT,Int.reduceEq,Int.reduceNeg,List.length_map,List.length_set,List.length_cons,List.length_nil,List.length_append,List.getElem?_map,List.map_cons,List.map_nil,true_or,or_true,or_false,false_or,and_true,true_and,and_self,not_true,not_false_eq_true,reduceCtorEq,List.all_cons,List.all_nil,Bool.and_true,Bool.true_and,ne_eq,List.drop_zero,List.nil_append,List.append_nil,List.singleton_append,List.cons_append,List.flatMap_cons,List.flatMap_nil,List.flatten_cons,List.flatten_nil,List.mapM_cons,List.mapM_nil,Option.pure_def,Option.bind_eq_bind,List.take_zero,List.take_succ_cons,List.drop_succ_cons,List.getElem?_cons_zero,List.getElem?_cons_succ,List.set_cons_zero,List.set_cons_succ,List.headD_cons,List.take_nil,List.drop_nil,Nat.sub_zero,Nat.add_zero,Nat.zero_add,Nat.zero_le,Nat.le_refl,← List.map_append,← List.map_take,← List.map_drop]; with_reducible rfl))
  | (refine cF (o:=?_) (d:=?_) (j:=?_) (want:=?_) (f:=?_) ?_ ?_ ?_ ?_ ?_ ?_ ?_
     rotate_left 5
     focus (simp only [List.getElem?_toArray,List.getElem?_cons_zero,List.getElem?_cons_succ] <;> rfl)
     focus rfl
     focus rfl
     focus rfl
     focus (simp only [Nat.reduceLT,Env.put]; done)
     focus (intro hH; first | (left; simp only [hH,Env.sc,Env.val,lk,reduceIte,Nat.reduceEqDiff,Env.put,Bool.not_true,Bool.not_false]; done) | (right; simp only [Env.val,lk,Env.put,reduceIte,Nat.reduceEqDiff]; done)))
  | (refine cC (o:=?_) (F:=?_) (e1:=?_) (os:=?_) (kp:=?_) (bs:=?_) (nw:=?_) (rj:=?_) (bl:=?_) (cells:=?_) (F2:=?_) (e2:=?_) (cf:=?_) (args:=?_) (ts:=?_) ?_ ?_ ?_ ?_ ?_ ?_ ?_ ?_ ?_ ?_
     rotate_left 15
     focus (simp only [List.getElem?_toArray,List.getElem?_cons_zero,List.getElem?_cons_succ] <;> rfl)
     focus rfl
     focus (first | exact fun _=>.inl rfl | (intro hH; refine .inr ⟨_,_,_,rfl,rfl,?_⟩; simp only [hH,Env.sc,Env.val,lk,reduceIte,Nat.reduceEqDiff,Env.put]; done))
     focus (intro hH; simp only [hH,C.lend,V.bor,borRow,klOf,klA,lkE,stepF,stepF1,stepF2,stepF3,stepQ,stepQ1,stepQ2,stepQ3,stepW,stepW1,stepW2,stepE,stepE0,stepE1,deadS,exOf,boOf,lkd,dl,dlN,opndO,gslot,dstOf,List.getElem?_toArray,dd,idsAt,fpS,rmK,rmN,kpOf,ndB,okW,okN,zC,Sl.ids,Sl.cells,C.ids,inter,lendS,Sl.nb,C.nb,tmps,Op.operands,Call.operands,Option.toArray,List.any_cons,List.any_nil,List.contains_cons,List.contains_nil,Nat.reduceBEq,BEq.rfl,Bool.or_false,Bool.or_true,Bool.true_or,Bool.false_or,Bool.not_true,Bool.not_false,Bool.and_false,Bool.false_and,decide_true,decide_false,decide_eq_true_eq,List.isEmpty_nil,List.isEmpty_cons,Array.toList_append,List.toList_toArray,List.append_assoc,Env.args,flatC,evMove,qE,evPick,evBin,evUn,zY,Env.sure,evNil,zM,evLoad,Env.int,Env.node,zL,evIndex,evField,Env.bound,Env.cut,evSlice,V.alive,Env.takes,evAlloc,Ag.cells,evBox,Env.newListO,evMake,over,Env.solid,Env.solidG,Env.parts,Ty.places,evBuild,Env.rowsOf,chunk,zO,Env.rows,isU8B,evLen,zR,V.isSc,C.killN,Ag.map,Sl.map,slMap,Env.place,Env.lay,evStore,C.killA,scR_nil,qM,alR_nil,alR_cons,Env.src,Env.newAt,qJ,Env.take,V.get,V.set,V.rowAt,V.setRow,Option.getD_some,List.set_cons_zero,List.set_cons_succ,zT,List.set_set,cellOf,cellsOf,Env.behind,Env.val,Env.sc,Env.cl,lk,setO,delO,zZ,zV,plain,Env.putO,Env.put,tyBool,binV,unV,rK,rB,rS,rL,wk_fold,bI_add,bI_sub,bI_mul,bI_quo,bI_rem,bI_and,bI_or,bI_xor,qH,bI_eql,bI_neq,bI_lss,bI_leq,bI_gtr,bI_geq,bI_shl,bI_shr,bS_add,bS_eql,bS_neq,bS_lss,bS_leq,bS_gtr,bS_geq,qA,qG,
      ↓reduceIte,eq_self,Option.isSome_some,Option.isSome_none,Option.bind_some,Option.bind_none,Option.map_some,Option.map_none,Bool.false_eq_true,Nat.reduceLT,Nat.reduceLeDiff,Nat.reduceEqDiff,Nat.reduceAdd,Nat.reduceMul,Nat.reduceSub,Int.reduceLT,Int.reduceEq,Int.reduceNeg,List.length_map,List.length_set,List.length_cons,List.length_nil,List.length_append,List.getElem?_map,List.map_cons,List.map_nil,true_or,or_true,or_false,false_or,and_true,true_and,and_self,not_true,not_false_eq_true,reduceCtorEq,List.all_cons,List.all_nil,Bool.and_true,Bool.true_and,ne_eq,List.drop_zero,List.nil_append,List.append_nil,List.singleton_append,List.cons_append,List.flatMap_cons,List.flatMap_nil,List.flatten_cons,List.flatten_nil,List.mapM_cons,List.mapM_nil,Option.pure_def,Option.bind_eq_bind,List.take_zero,List.take_succ_cons,List.drop_succ_cons,List.getElem?_cons_zero,List.getElem?_cons_succ,List.set_cons_zero,List.set_cons_succ,List.headD_cons,List.take_nil,List.drop_nil,Nat.sub_zero,Nat.add_zero,Nat.zero_add,Nat.zero_le,Nat.le_refl,← List.map_append,← List.map_take,← List.map_drop] <;> rfl)
     focus (intro hH; simp only [hH,evCall,Env.callee,Env.args,flatC,Env.own1,Env.carve,Env.lend,Env.fill,shape,Env.deadAt,Env.deads,Env.node,Env.rows,Env.val,Env.sc,Env.cl,lk,setO,delO,zZ,zV,plain,Env.putO,Env.put,V.get,V.set,V.rowAt,V.setRow,Option.getD_some,List.set_cons_zero,List.set_cons_succ,zT,List.set_set,V.alive,V.bor,borRow,rK,rB,rS,rL,List.getElem?_map,List.append_nil,↓reduceIte,eq_self,Option.isSome_some,Option.isSome_none,Option.bind_some,Option.bind_none,Option.map_some,Option.map_none,Bool.false_eq_true,Nat.reduceLT,Nat.reduceLeDiff,Nat.reduceEqDiff,Nat.reduceAdd,Nat.reduceMul,Nat.reduceSub,Nat.reduceBEq,List.map_cons,List.map_nil,List.length_cons,List.length_nil,List.cons_append,List.nil_append,List.headD_cons,List.tail_cons,List.contains_nil,List.contains_cons,List.take_zero,List.take_succ_cons,List.drop_zero,List.drop_succ_cons,List.getElem?_cons_zero,List.getElem?_cons_succ,Bool.and_true,Bool.true_and,Bool.or_false,Bool.or_true,and_self,and_true,true_and,← List.map_append,← List.map_take,← List.map_drop] <;> rfl)
     focus (intro x hH; simp only [hH,zE,zW,V.noBor,zS,List.cons_append,List.nil_append,Bool.and_true,Bool.true_and])
     focus (intro x hH; simp only [hH,List.all_nil,List.all_cons,zW,V.noBor,zS,Bool.and_true,Bool.true_and,Bool.or_false,Bool.or_true,List.contains_cons,List.contains_nil,Nat.reduceBEq,BEq.rfl])
     focus (intro x hH; simp only [hH,evRet,retS,entA,entC,entCs,entOs,V.own,zE,Env.back,Env.graft,slMap,Sl.map,Ag.map,C.killN,Env.node,Env.val,Env.sc,Env.cl,lk,setO,delO,zZ,zV,plain,Env.putO,Env.put,V.get,V.set,V.rowAt,V.setRow,Option.getD_some,List.set_cons_zero,List.set_cons_succ,zT,List.set_set,V.alive,rK,rB,rS,rL,List.getElem?_map,List.append_nil,↓reduceIte,eq_self,Option.isSome_some,Option.isSome_none,Option.bind_some,Option.bind_none,Option.map_some,Option.map_none,Bool.false_eq_true,Nat.reduceLT,Nat.reduceLeDiff,Nat.reduceEqDiff,Nat.reduceAdd,Nat.reduceMul,Nat.reduceSub,List.map_cons,List.map_nil,List.length_cons,List.length_nil,List.cons_append,List.nil_append,List.take_zero,List.take_succ_cons,List.drop_zero,List.drop_succ_cons,List.getElem?_cons_zero,List.getElem?_cons_succ,List.set_cons_zero,List.set_cons_succ,Bool.and_true,Bool.true_and,and_self,and_true,true_and] <;> rfl)
     focus (intro x hH; simp only [hH,V.noBor,zW,zS,klOf,klA,lkE,stepF,stepF1,stepF2,stepF3,stepQ,stepQ1,stepQ2,stepQ3,stepW,stepW1,stepW2,stepE,stepE0,stepE1,deadS,exOf,boOf,lkd,dl,dlN,opndO,gslot,dstOf,List.getElem?_toArray,dd,idsAt,fpS,rmK,rmN,kpOf,ndB,okW,okN,zC,Sl.ids,Sl.cells,C.ids,inter,lendS,Sl.nb,C.nb,tmps,Op.operands,Call.operands,Option.toArray,List.any_cons,List.any_nil,List.contains_cons,List.contains_nil,Nat.reduceBEq,BEq.rfl,Bool.or_false,Bool.or_true,Bool.true_or,Bool.false_or,Bool.not_true,Bool.not_false,Bool.and_false,Bool.false_and,decide_true,decide_false,decide_eq_true_eq,List.isEmpty_nil,List.isEmpty_cons,Array.toList_append,List.toList_toArray,List.append_assoc,evMove,qE,evPick,evBin,evUn,zY,Env.sure,evNil,zM,evLoad,Env.int,Env.node,zL,evIndex,evField,Env.bound,Env.cut,evSlice,V.alive,Env.takes,evAlloc,Ag.cells,evBox,Env.newListO,evMake,over,Env.solid,Env.solidG,Env.parts,Ty.places,evBuild,Env.rowsOf,chunk,zO,Env.rows,isU8B,evLen,zR,V.isSc,C.killN,Ag.map,Sl.map,slMap,Env.place,Env.lay,evStore,C.killA,scR_nil,qM,alR_nil,alR_cons,Env.src,Env.newAt,qJ,Env.take,V.get,V.set,V.rowAt,V.setRow,Option.getD_some,List.set_cons_zero,List.set_cons_succ,zT,List.set_set,cellOf,cellsOf,Env.behind,Env.val,Env.sc,Env.cl,lk,setO,delO,zZ,zV,plain,Env.putO,Env.put,tyBool,binV,unV,rK,rB,rS,rL,wk_fold,bI_add,bI_sub,bI_mul,bI_quo,bI_rem,bI_and,bI_or,bI_xor,qH,bI_eql,bI_neq,bI_lss,bI_leq,bI_gtr,bI_geq,bI_shl,bI_shr,bS_add,bS_eql,bS_neq,bS_lss,bS_leq,bS_gtr,bS_geq,qA,qG,
      ↓reduceIte,eq_self,Option.isSome_some,Option.isSome_none,Option.bind_some,Option.bind_none,Option.map_some,Option.map_none,Bool.false_eq_true,Nat.reduceLT,Nat.reduceLeDiff,Nat.reduceEqDiff,Nat.reduceAdd,Nat.reduceMul,Nat.reduceSub,Int.reduceLT,Int.reduceEq,Int.reduceNeg,List.length_map,List.length_set,List.length_cons,List.length_nil,List.length_append,List.getElem?_map,List.map_cons,List.map_nil,true_or,or_true,or_false,false_or,and_true,true_and,and_self,not_true,not_false_eq_true,reduceCtorEq,List.all_cons,List.all_nil,Bool.and_true,Bool.true_and,ne_eq,List.drop_zero,List.nil_append,List.append_nil,List.singleton_append,List.cons_append,List.flatMap_cons,List.flatMap_nil,List.flatten_cons,List.flatten_nil,List.mapM_cons,List.mapM_nil,Option.pure_def,Option.bind_eq_bind,List.take_zero,List.take_succ_cons,List.drop_succ_cons,List.getElem?_cons_zero,List.getElem?_cons_succ,List.set_cons_zero,List.set_cons_succ,List.headD_cons,List.take_nil,List.drop_nil,Nat.sub_zero,Nat.add_zero,Nat.zero_add,Nat.zero_le,Nat.le_refl,← List.map_append,← List.map_take,← List.map_drop] <;> rfl))
  | (refine cD (o:=?_) (F:=?_) (e1:=?_) (os:=?_) (kp:=?_) (bs:=?_) (nw:=?_) (rj:=?_) (bl:=?_) (cells:=?_) (F2:=?_) (e2:=?_) (cf:=?_) (args:=?_) (ts:=?_) ?_ ?_ ?_ ?_ ?_ ?_ ?_ ?_ ?_
     rotate_left 15
     focus (simp only [List.getElem?_toArray,List.getElem?_cons_zero,List.getElem?_cons_succ] <;> rfl)
     focus rfl
     focus (first | exact fun _=>.inl rfl | (intro hH; refine .inr ⟨_,_,_,rfl,rfl,?_⟩; simp only [hH,Env.sc,Env.val,lk,reduceIte,Nat.reduceEqDiff,Env.put]; done))
     focus (intro hH; simp only [hH,C.lend,V.bor,borRow,klOf,klA,lkE,stepF,stepF1,stepF2,stepF3,stepQ,stepQ1,stepQ2,stepQ3,stepW,stepW1,stepW2,stepE,stepE0,stepE1,deadS,exOf,boOf,lkd,dl,dlN,opndO,gslot,dstOf,List.getElem?_toArray,dd,idsAt,fpS,rmK,rmN,kpOf,ndB,okW,okN,zC,Sl.ids,Sl.cells,C.ids,inter,lendS,Sl.nb,C.nb,tmps,Op.operands,Call.operands,Option.toArray,List.any_cons,List.any_nil,List.contains_cons,List.contains_nil,Nat.reduceBEq,BEq.rfl,Bool.or_false,Bool.or_true,Bool.true_or,Bool.false_or,Bool.not_true,Bool.not_false,Bool.and_false,Bool.false_and,decide_true,decide_false,decide_eq_true_eq,List.isEmpty_nil,List.isEmpty_cons,Array.toList_append,List.toList_toArray,List.append_assoc,Env.args,flatC,evMove,qE,evPick,evBin,evUn,zY,Env.sure,evNil,zM,evLoad,Env.int,Env.node,zL,evIndex,evField,Env.bound,Env.cut,evSlice,V.alive,Env.takes,evAlloc,Ag.cells,evBox,Env.newListO,evMake,over,Env.solid,Env.solidG,Env.parts,Ty.places,evBuild,Env.rowsOf,chunk,zO,Env.rows,isU8B,evLen,zR,V.isSc,C.killN,Ag.map,Sl.map,slMap,Env.place,Env.lay,evStore,C.killA,scR_nil,qM,alR_nil,alR_cons,Env.src,Env.newAt,qJ,Env.take,V.get,V.set,V.rowAt,V.setRow,Option.getD_some,List.set_cons_zero,List.set_cons_succ,zT,List.set_set,cellOf,cellsOf,Env.behind,Env.val,Env.sc,Env.cl,lk,setO,delO,zZ,zV,plain,Env.putO,Env.put,tyBool,binV,unV,rK,rB,rS,rL,wk_fold,bI_add,bI_sub,bI_mul,bI_quo,bI_rem,bI_and,bI_or,bI_xor,qH,bI_eql,bI_neq,bI_lss,bI_leq,bI_gtr,bI_geq,bI_shl,bI_shr,bS_add,bS_eql,bS_neq,bS_lss,bS_leq,bS_gtr,bS_geq,qA,qG,
      ↓reduceIte,eq_self,Option.isSome_some,Option.isSome_none,Option.bind_some,Option.bind_none,Option.map_some,Option.map_none,Bool.false_eq_true,Nat.reduceLT,Nat.reduceLeDiff,Nat.reduceEqDiff,Nat.reduceAdd,Nat.reduceMul,Nat.reduceSub,Int.reduceLT,Int.reduceEq,Int.reduceNeg,List.length_map,List.length_set,List.length_cons,List.length_nil,List.length_append,List.getElem?_map,List.map_cons,List.map_nil,true_or,or_true,or_false,false_or,and_true,true_and,and_self,not_true,not_false_eq_true,reduceCtorEq,List.all_cons,List.all_nil,Bool.and_true,Bool.true_and,ne_eq,List.drop_zero,List.nil_append,List.append_nil,List.singleton_append,List.cons_append,List.flatMap_cons,List.flatMap_nil,List.flatten_cons,List.flatten_nil,List.mapM_cons,List.mapM_nil,Option.pure_def,Option.bind_eq_bind,List.take_zero,List.take_succ_cons,List.drop_succ_cons,List.getElem?_cons_zero,List.getElem?_cons_succ,List.set_cons_zero,List.set_cons_succ,List.headD_cons,List.take_nil,List.drop_nil,Nat.sub_zero,Nat.add_zero,Nat.zero_add,Nat.zero_le,Nat.le_refl,← List.map_append,← List.map_take,← List.map_drop] <;> rfl)
     focus (intro hH; simp only [hH,evCallD,fillOk,evCall,Env.callee,Env.args,flatC,Env.own1,Env.carve,Env.lend,Env.fill,shape,Env.deadAt,Env.deads,Env.node,Env.rows,Env.val,Env.sc,Env.cl,lk,setO,delO,zZ,zV,plain,Env.putO,Env.put,V.get,V.set,V.rowAt,V.setRow,Option.getD_some,List.set_cons_zero,List.set_cons_succ,zT,List.set_set,V.alive,V.bor,borRow,rK,rB,rS,rL,List.getElem?_map,List.append_nil,↓reduceIte,eq_self,Option.isSome_some,Option.isSome_none,Option.bind_some,Option.bind_none,Option.map_some,Option.map_none,Bool.false_eq_true,Nat.reduceLT,Nat.reduceLeDiff,Nat.reduceEqDiff,Nat.reduceAdd,Nat.reduceMul,Nat.reduceSub,Nat.reduceBEq,List.map_cons,List.map_nil,List.length_cons,List.length_nil,List.cons_append,List.nil_append,List.headD_cons,List.tail_cons,List.contains_nil,List.contains_cons,List.take_zero,List.take_succ_cons,List.drop_zero,List.drop_succ_cons,List.getElem?_cons_zero,List.getElem?_cons_succ,Bool.and_true,Bool.true_and,Bool.or_false,Bool.or_true,and_self,and_true,true_and,← List.map_append,← List.map_take,← List.map_drop] <;> rfl)
     focus (intro x hH; simp only [hH,List.all_nil,List.all_cons,zW,V.noBor,zS,Bool.and_true,Bool.true_and,Bool.or_false,Bool.or_true,List.contains_cons,List.contains_nil,Nat.reduceBEq,BEq.rfl])
     focus (intro x hH; simp only [hH,evRet,retS,entA,entC,entCs,entOs,V.own,zE,Env.back,Env.graft,slMap,Sl.map,Ag.map,C.killN,Env.node,Env.val,Env.sc,Env.cl,lk,setO,delO,zZ,zV,plain,Env.putO,Env.put,V.get,V.set,V.rowAt,V.setRow,Option.getD_some,List.set_cons_zero,List.set_cons_succ,zT,List.set_set,V.alive,rK,rB,rS,rL,List.getElem?_map,List.append_nil,↓reduceIte,eq_self,Option.isSome_some,Option.isSome_none,Option.bind_some,Option.bind_none,Option.map_some,Option.map_none,Bool.false_eq_true,Nat.reduceLT,Nat.reduceLeDiff,Nat.reduceEqDiff,Nat.reduceAdd,Nat.reduceMul,Nat.reduceSub,List.map_cons,List.map_nil,List.length_cons,List.length_nil,List.cons_append,List.nil_append,List.take_zero,List.take_succ_cons,List.drop_zero,List.drop_succ_cons,List.getElem?_cons_zero,List.getElem?_cons_succ,List.set_cons_zero,List.set_cons_succ,Bool.and_true,Bool.true_and,and_self,and_true,true_and] <;> rfl)
     focus (intro x hH; simp only [hH,V.noBor,zW,zS,klOf,klA,lkE,stepF,stepF1,stepF2,stepF3,stepQ,stepQ1,stepQ2,stepQ3,stepW,stepW1,stepW2,stepE,stepE0,stepE1,deadS,exOf,boOf,lkd,dl,dlN,opndO,gslot,dstOf,List.getElem?_toArray,dd,idsAt,fpS,rmK,rmN,kpOf,ndB,okW,okN,zC,Sl.ids,Sl.cells,C.ids,inter,lendS,Sl.nb,C.nb,tmps,Op.operands,Call.operands,Option.toArray,List.any_cons,List.any_nil,List.contains_cons,List.contains_nil,Nat.reduceBEq,BEq.rfl,Bool.or_false,Bool.or_true,Bool.true_or,Bool.false_or,Bool.not_true,Bool.not_false,Bool.and_false,Bool.false_and,decide_true,decide_false,decide_eq_true_eq,List.isEmpty_nil,List.isEmpty_cons,Array.toList_append,List.toList_toArray,List.append_assoc,evMove,qE,evPick,evBin,evUn,zY,Env.sure,evNil,zM,evLoad,Env.int,Env.node,zL,evIndex,evField,Env.bound,Env.cut,evSlice,V.alive,Env.takes,evAlloc,Ag.cells,evBox,Env.newListO,evMake,over,Env.solid,Env.solidG,Env.parts,Ty.places,evBuild,Env.rowsOf,chunk,zO,Env.rows,isU8B,evLen,zR,V.isSc,C.killN,Ag.map,Sl.map,slMap,Env.place,Env.lay,evStore,C.killA,scR_nil,qM,alR_nil,alR_cons,Env.src,Env.newAt,qJ,Env.take,V.get,V.set,V.rowAt,V.setRow,Option.getD_some,List.set_cons_zero,List.set_cons_succ,zT,List.set_set,cellOf,cellsOf,Env.behind,Env.val,Env.sc,Env.cl,lk,setO,delO,zZ,zV,plain,Env.putO,Env.put,tyBool,binV,unV,rK,rB,rS,rL,wk_fold,bI_add,bI_sub,bI_mul,bI_quo,bI_rem,bI_and,bI_or,bI_xor,qH,bI_eql,bI_neq,bI_lss,bI_leq,bI_gtr,bI_geq,bI_shl,bI_shr,bS_add,bS_eql,bS_neq,bS_lss,bS_leq,bS_gtr,bS_geq,qA,qG,
      ↓reduceIte,eq_self,Option.isSome_some,Option.isSome_none,Option.bind_some,Option.bind_none,Option.map_some,Option.map_none,Bool.false_eq_true,Nat.reduceLT,Nat.reduceLeDiff,Nat.reduceEqDiff,Nat.reduceAdd,Nat.reduceMul,Nat.reduceSub,Int.reduceLT,Int.reduceEq,Int.reduceNeg,List.length_map,List.length_set,List.length_cons,List.length_nil,List.length_append,List.getElem?_map,List.map_cons,List.map_nil,true_or,or_true,or_false,false_or,and_true,true_and,and_self,not_true,not_false_eq_true,reduceCtorEq,List.all_cons,List.all_nil,Bool.and_true,Bool.true_and,ne_eq,List.drop_zero,List.nil_append,List.append_nil,List.singleton_append,List.cons_append,List.flatMap_cons,List.flatMap_nil,List.flatten_cons,List.flatten_nil,List.mapM_cons,List.mapM_nil,Option.pure_def,Option.bind_eq_bind,List.take_zero,List.take_succ_cons,List.drop_succ_cons,List.getElem?_cons_zero,List.getElem?_cons_succ,List.set_cons_zero,List.set_cons_succ,List.headD_cons,List.take_nil,List.drop_nil,Nat.sub_zero,Nat.add_zero,Nat.zero_add,Nat.zero_le,Nat.le_refl,← List.map_append,← List.map_take,← List.map_drop] <;> rfl))
  | (refine cA (o:=?_) (x:=?_) (y:=?_) (ts:=?_) (F:=?_) (F':=?_) (os:=?_) (kp:=?_) (bs:=?_) (nw:=?_) (rj:=?_) (bl:=?_) (e':=?_) ?_ ?_ ?_ ?_ ?_ ?_ ?_ ?_
     rotate_left 13
     focus (simp only [List.getElem?_toArray,List.getElem?_cons_zero,List.getElem?_cons_succ] <;> rfl)
     focus rfl
     focus (first | exact fun _=>.inl rfl | (intro hH; refine .inr ⟨_,_,_,rfl,rfl,?_⟩; simp only [hH,Env.sc,Env.val,lk,reduceIte,Nat.reduceEqDiff,Env.put]; done))
     focus (intro hH; simp only [hH,C.lend,V.bor,borRow,Env.lend,klOf,klA,lkE,stepF,stepF1,stepF2,stepF3,stepQ,stepQ1,stepQ2,stepQ3,stepW,stepW1,stepW2,stepE,stepE0,stepE1,deadS,exOf,boOf,lkd,dl,dlN,opndO,gslot,dstOf,List.getElem?_toArray,dd,idsAt,fpS,rmK,rmN,kpOf,ndB,okW,okN,zC,Sl.ids,Sl.cells,C.ids,inter,lendS,Sl.nb,C.nb,tmps,Op.operands,Call.operands,Option.toArray,List.any_cons,List.any_nil,List.contains_cons,List.contains_nil,Nat.reduceBEq,BEq.rfl,Bool.or_false,Bool.or_true,Bool.true_or,Bool.false_or,Bool.not_true,Bool.not_false,Bool.and_false,Bool.false_and,decide_true,decide_false,decide_eq_true_eq,List.isEmpty_nil,List.isEmpty_cons,Array.toList_append,List.toList_toArray,List.append_assoc,evMove,qE,evPick,evBin,evUn,zY,Env.sure,evNil,zM,evLoad,Env.int,Env.node,zL,evIndex,evField,Env.bound,Env.cut,evSlice,V.alive,Env.takes,evAlloc,Ag.cells,evBox,Env.newListO,evMake,over,Env.solid,Env.solidG,Env.parts,Ty.places,evBuild,Env.rowsOf,chunk,zO,Env.rows,isU8B,evLen,zR,V.isSc,C.killN,Ag.map,Sl.map,slMap,Env.place,Env.lay,evStore,C.killA,scR_nil,qM,alR_nil,alR_cons,Env.src,Env.newAt,qJ,Env.take,V.get,V.set,V.rowAt,V.setRow,Option.getD_some,List.set_cons_zero,List.set_cons_succ,zT,List.set_set,cellOf,cellsOf,Env.behind,Env.val,Env.sc,Env.cl,lk,setO,delO,zZ,zV,plain,Env.putO,Env.put,tyBool,binV,unV,rK,rB,rS,rL,wk_fold,bI_add,bI_sub,bI_mul,bI_quo,bI_rem,bI_and,bI_or,bI_xor,qH,bI_eql,bI_neq,bI_lss,bI_leq,bI_gtr,bI_geq,bI_shl,bI_shr,bS_add,bS_eql,bS_neq,bS_lss,bS_leq,bS_gtr,bS_geq,qA,qG,
      ↓reduceIte,eq_self,Option.isSome_some,Option.isSome_none,Option.bind_some,Option.bind_none,Option.map_some,Option.map_none,Bool.false_eq_true,Nat.reduceLT,Nat.reduceLeDiff,Nat.reduceEqDiff,Nat.reduceAdd,Nat.reduceMul,Nat.reduceSub,Int.reduceLT,Int.reduceEq,Int.reduceNeg,List.length_map,List.length_set,List.length_cons,List.length_nil,List.length_append,List.getElem?_map,List.map_cons,List.map_nil,true_or,or_true,or_false,false_or,and_true,true_and,and_self,not_true,not_false_eq_true,reduceCtorEq,List.all_cons,List.all_nil,Bool.and_true,Bool.true_and,ne_eq,List.drop_zero,List.nil_append,List.append_nil,List.singleton_append,List.cons_append,List.flatMap_cons,List.flatMap_nil,List.flatten_cons,List.flatten_nil,List.mapM_cons,List.mapM_nil,Option.pure_def,Option.bind_eq_bind,List.take_zero,List.take_succ_cons,List.drop_succ_cons,List.getElem?_cons_zero,List.getElem?_cons_succ,List.set_cons_zero,List.set_cons_succ,List.headD_cons,List.take_nil,List.drop_nil,Nat.sub_zero,Nat.add_zero,Nat.zero_add,Nat.zero_le,Nat.le_refl,← List.map_append,← List.map_take,← List.map_drop] <;> rfl)
     focus rfl
     focus (intro hH; simp only [hH,evOp,evConv,evMove,qE,evPick,evBin,evUn,zY,Env.sure,evNil,zM,evLoad,Env.int,Env.node,zL,evIndex,evField,Env.bound,Env.cut,evSlice,V.alive,Env.takes,evAlloc,Ag.cells,evBox,Env.newListO,evMake,over,Env.solid,Env.solidG,Env.parts,Ty.places,evBuild,Env.rowsOf,chunk,zO,Env.rows,isU8B,evLen,zR,V.isSc,C.killN,Ag.map,Sl.map,slMap,Env.place,Env.lay,evStore,C.killA,scR_nil,qM,alR_nil,alR_cons,Env.src,Env.newAt,qJ,Env.take,V.get,V.set,V.rowAt,V.setRow,Option.getD_some,List.set_cons_zero,List.set_cons_succ,zT,List.set_set,cellOf,cellsOf,Env.behind,Env.val,Env.sc,Env.cl,lk,setO,delO,zZ,zV,plain,Env.putO,Env.put,tyBool,binV,unV,rK,rB,rS,rL,wk_fold,bI_add,bI_sub,bI_mul,bI_quo,bI_rem,bI_and,bI_or,bI_xor,qH,bI_eql,bI_neq,bI_lss,bI_leq,bI_gtr,bI_geq,bI_shl,bI_shr,bS_add,bS_eql,bS_neq,bS_lss,bS_leq,bS_gtr,bS_geq,qA,qG,
      ↓reduceIte,eq_self,Option.isSome_some,Option.isSome_none,Option.bind_some,Option.bind_none,Option.map_some,Option.map_none,Bool.false_eq_true,Nat.reduceLT,Nat.reduceLeDiff,Nat.reduceEqDiff,Nat.reduceAdd,Nat.reduceMul,Nat.reduceSub,Int.reduceLT,Int.reduceEq,Int.reduceNeg,List.length_map,List.length_set,List.length_cons,List.length_nil,List.length_append,List.getElem?_map,List.map_cons,List.map_nil,true_or,or_true,or_false,false_or,and_true,true_and,and_self,not_true,not_false_eq_true,reduceCtorEq,List.all_cons,List.all_nil,Bool.and_true,Bool.true_and,ne_eq,List.drop_zero,List.nil_append,List.append_nil,List.singleton_append,List.cons_append,List.flatMap_cons,List.flatMap_nil,List.flatten_cons,List.flatten_nil,List.mapM_cons,List.mapM_nil,Option.pure_def,Option.bind_eq_bind,List.take_zero,List.take_succ_cons,List.drop_succ_cons,List.getElem?_cons_zero,List.getElem?_cons_succ,List.set_cons_zero,List.set_cons_succ,List.headD_cons,List.take_nil,List.drop_nil,Nat.sub_zero,Nat.add_zero,Nat.zero_add,Nat.zero_le,Nat.le_refl,← List.map_append,← List.map_take,← List.map_drop]; with_reducible rfl)
     focus (intro hH; simp only [hH,V.noBor,zW,zS,klOf,klA,lkE,stepF,stepF1,stepF2,stepF3,stepQ,stepQ1,stepQ2,stepQ3,stepW,stepW1,stepW2,stepE,stepE0,stepE1,deadS,exOf,boOf,lkd,dl,dlN,opndO,gslot,dstOf,List.getElem?_toArray,dd,idsAt,fpS,rmK,rmN,kpOf,ndB,okW,okN,zC,Sl.ids,Sl.cells,C.ids,inter,lendS,Sl.nb,C.nb,tmps,Op.operands,Call.operands,Option.toArray,List.any_cons,List.any_nil,List.contains_cons,List.contains_nil,Nat.reduceBEq,BEq.rfl,Bool.or_false,Bool.or_true,Bool.true_or,Bool.false_or,Bool.not_true,Bool.not_false,Bool.and_false,Bool.false_and,decide_true,decide_false,decide_eq_true_eq,List.isEmpty_nil,List.isEmpty_cons,Array.toList_append,List.toList_toArray,List.append_assoc,evMove,qE,evPick,evBin,evUn,zY,Env.sure,evNil,zM,evLoad,Env.int,Env.node,zL,evIndex,evField,Env.bound,Env.cut,evSlice,V.alive,Env.takes,evAlloc,Ag.cells,evBox,Env.newListO,evMake,over,Env.solid,Env.solidG,Env.parts,Ty.places,evBuild,Env.rowsOf,chunk,zO,Env.rows,isU8B,evLen,zR,V.isSc,C.killN,Ag.map,Sl.map,slMap,Env.place,Env.lay,evStore,C.killA,scR_nil,qM,alR_nil,alR_cons,Env.src,Env.newAt,qJ,Env.take,V.get,V.set,V.rowAt,V.setRow,Option.getD_some,List.set_cons_zero,List.set_cons_succ,zT,List.set_set,cellOf,cellsOf,Env.behind,Env.val,Env.sc,Env.cl,lk,setO,delO,zZ,zV,plain,Env.putO,Env.put,tyBool,binV,unV,rK,rB,rS,rL,wk_fold,bI_add,bI_sub,bI_mul,bI_quo,bI_rem,bI_and,bI_or,bI_xor,qH,bI_eql,bI_neq,bI_lss,bI_leq,bI_gtr,bI_geq,bI_shl,bI_shr,bS_add,bS_eql,bS_neq,bS_lss,bS_leq,bS_gtr,bS_geq,qA,qG,
      ↓reduceIte,eq_self,Option.isSome_some,Option.isSome_none,Option.bind_some,Option.bind_none,Option.map_some,Option.map_none,Bool.false_eq_true,Nat.reduceLT,Nat.reduceLeDiff,Nat.reduceEqDiff,Nat.reduceAdd,Nat.reduceMul,Nat.reduceSub,Int.reduceLT,Int.reduceEq,Int.reduceNeg,List.length_map,List.length_set,List.length_cons,List.length_nil,List.length_append,List.getElem?_map,List.map_cons,List.map_nil,true_or,or_true,or_false,false_or,and_true,true_and,and_self,not_true,not_false_eq_true,reduceCtorEq,List.all_cons,List.all_nil,Bool.and_true,Bool.true_and,ne_eq,List.drop_zero,List.nil_append,List.append_nil,List.singleton_append,List.cons_append,List.flatMap_cons,List.flatMap_nil,List.flatten_cons,List.flatten_nil,List.mapM_cons,List.mapM_nil,Option.pure_def,Option.bind_eq_bind,List.take_zero,List.take_succ_cons,List.drop_succ_cons,List.getElem?_cons_zero,List.getElem?_cons_succ,List.set_cons_zero,List.set_cons_succ,List.headD_cons,List.take_nil,List.drop_nil,Nat.sub_zero,Nat.add_zero,Nat.zero_add,Nat.zero_le,Nat.le_refl,← List.map_append,← List.map_take,← List.map_drop] <;> rfl))
  | (refine cW (o:=?_) (e':=?_) (os:=?_) (kp:=?_) (nw:=?_) (rj:=?_) ?_ ?_ ?_ ?_
     rotate_left 6
     focus (simp only [List.getElem?_toArray,List.getElem?_cons_zero,List.getElem?_cons_succ] <;> rfl)
     focus (first | exact fun _=>.inl rfl | (intro hH; refine .inr ⟨_,_,_,rfl,rfl,?_⟩; simp only [hH,Env.sc,Env.val,lk,reduceIte,Nat.reduceEqDiff,Env.put]; done))
     focus (intro hH; simp only [hH,V.noBor,zW,zS,klOf,klA,lkE,stepF,stepF1,stepF2,stepF3,stepQ,stepQ1,stepQ2,stepQ3,stepW,stepW1,stepW2,stepE,stepE0,stepE1,deadS,exOf,boOf,lkd,dl,dlN,opndO,gslot,dstOf,List.getElem?_toArray,dd,idsAt,fpS,rmK,rmN,kpOf,ndB,okW,okN,zC,Sl.ids,Sl.cells,C.ids,inter,lendS,Sl.nb,C.nb,tmps,Op.operands,Call.operands,Option.toArray,List.any_cons,List.any_nil,List.contains_cons,List.contains_nil,Nat.reduceBEq,BEq.rfl,Bool.or_false,Bool.or_true,Bool.true_or,Bool.false_or,Bool.not_true,Bool.not_false,Bool.and_false,Bool.false_and,decide_true,decide_false,decide_eq_true_eq,List.isEmpty_nil,List.isEmpty_cons,Array.toList_append,List.toList_toArray,List.append_assoc,evOp,evConv,evMove,qE,evPick,evBin,evUn,zY,Env.sure,evNil,zM,evLoad,Env.int,Env.node,zL,evIndex,evField,Env.bound,Env.cut,evSlice,V.alive,Env.takes,evAlloc,Ag.cells,evBox,Env.newListO,evMake,over,Env.solid,Env.solidG,Env.parts,Ty.places,evBuild,Env.rowsOf,chunk,zO,Env.rows,isU8B,evLen,zR,V.isSc,C.killN,Ag.map,Sl.map,slMap,Env.place,Env.lay,evStore,C.killA,scR_nil,qM,alR_nil,alR_cons,Env.src,Env.newAt,qJ,Env.take,V.get,V.set,V.rowAt,V.setRow,Option.getD_some,List.set_cons_zero,List.set_cons_succ,zT,List.set_set,cellOf,cellsOf,Env.behind,Env.val,Env.sc,Env.cl,lk,setO,delO,zZ,zV,plain,Env.putO,Env.put,tyBool,binV,unV,rK,rB,rS,rL,wk_fold,bI_add,bI_sub,bI_mul,bI_quo,bI_rem,bI_and,bI_or,bI_xor,qH,bI_eql,bI_neq,bI_lss,bI_leq,bI_gtr,bI_geq,bI_shl,bI_shr,bS_add,bS_eql,bS_neq,bS_lss,bS_leq,bS_gtr,bS_geq,qA,qG,
      ↓reduceIte,eq_self,Option.isSome_some,Option.isSome_none,Option.bind_some,Option.bind_none,Option.map_some,Option.map_none,Bool.false_eq_true,Nat.reduceLT,Nat.reduceLeDiff,Nat.reduceEqDiff,Nat.reduceAdd,Nat.reduceMul,Nat.reduceSub,Int.reduceLT,Int.reduceEq,Int.reduceNeg,List.length_map,List.length_set,List.length_cons,List.length_nil,List.length_append,List.getElem?_map,List.map_cons,List.map_nil,true_or,or_true,or_false,false_or,and_true,true_and,and_self,not_true,not_false_eq_true,reduceCtorEq,List.all_cons,List.all_nil,Bool.and_true,Bool.true_and,ne_eq,List.drop_zero,List.nil_append,List.append_nil,List.singleton_append,List.cons_append,List.flatMap_cons,List.flatMap_nil,List.flatten_cons,List.flatten_nil,List.mapM_cons,List.mapM_nil,Option.pure_def,Option.bind_eq_bind,List.take_zero,List.take_succ_cons,List.drop_succ_cons,List.getElem?_cons_zero,List.getElem?_cons_succ,List.set_cons_zero,List.set_cons_succ,List.headD_cons,List.take_nil,List.drop_nil,Nat.sub_zero,Nat.add_zero,Nat.zero_add,Nat.zero_le,Nat.le_refl,← List.map_append,← List.map_take,← List.map_drop]; with_reducible rfl))
  | (refine ce (Q:=?_) (by kernel_rfl) ?_ ?_; rotate_left 2; focus (intro hq; (try simp only [seqV_normal,seqV_ret,seqV_exit,thenV,blockV,reduceIte,Nat.reduceEqDiff]); exact hq))
  | ((with_reducible refine l_nil (Q:=?_) ?_ ?_); rotate_left 2; focus (intro hq; (try simp only [seqV_normal,seqV_ret,seqV_exit,thenV,blockV,reduceIte,Nat.reduceEqDiff]); exact hq))
  | ((with_reducible refine l_skip (Q:=?_) ?_ ?_); rotate_left 2; focus (intro hq; (try simp only [seqV_normal,seqV_ret,seqV_exit,thenV,blockV,reduceIte,Nat.reduceEqDiff]); exact hq))
  | ((with_reducible refine l_exit (Q:=?_) ?_ ?_); rotate_left 2; focus (intro hq; (try simp only [seqV_normal,seqV_ret,seqV_exit,thenV,blockV,reduceIte,Nat.reduceEqDiff]); exact hq))
  | ((with_reducible refine l_ret (Q:=?_) ?_ ?_); rotate_left 2; focus (intro hq; (try simp only [seqV_normal,seqV_ret,seqV_exit,thenV,blockV,reduceIte,Nat.reduceEqDiff]); exact hq))
  | ((with_reducible refine exN (Q:=?_) ?_ ?_); rotate_left 2; focus (intro hq; (try simp only [seqV_normal,seqV_ret,seqV_exit,thenV,blockV,reduceIte,Nat.reduceEqDiff]); exact hq)) | ((with_reducible refine exR (Q:=?_) ?_ ?_); rotate_left 2; focus (intro hq; (try simp only [seqV_normal,seqV_ret,seqV_exit,thenV,blockV,reduceIte,Nat.reduceEqDiff]); exact hq))
  | ((with_reducible refine exM (Q:=?_) ?_ ?_ ?_); rotate_left 2; (focus (intro hq; (try simp only [seqV_normal,seqV_ret,seqV_exit,thenV,blockV,reduceIte,Nat.reduceEqDiff]); exact hq)); (focus (intro c; rfl)))
  | ((with_reducible refine exMR (Q:=?_) ?_ ?_ ?_); rotate_left 2; (focus (intro hq; (try simp only [seqV_normal,seqV_ret,seqV_exit,thenV,blockV,reduceIte,Nat.reduceEqDiff]); exact hq)); (focus (intro c; rfl)))
  | ((with_reducible refine l_qop (e':=?_) rfl ?_ ?_)
     rotate_left
     focus (intro hH; simp only [hH,evQuiet,evConvQ,evSliceS,evMove,qE,evPick,evBin,evUn,zY,Env.sure,evNil,zM,evLoad,Env.int,Env.node,zL,evIndex,evField,Env.bound,Env.cut,evSlice,V.alive,Env.takes,evAlloc,Ag.cells,evBox,Env.newListO,evMake,over,Env.solid,Env.solidG,Env.parts,Ty.places,evBuild,Env.rowsOf,chunk,zO,Env.rows,isU8B,evLen,zR,V.isSc,C.killN,Ag.map,Sl.map,slMap,Env.place,Env.lay,evStore,C.killA,scR_nil,qM,alR_nil,alR_cons,Env.src,Env.newAt,qJ,Env.take,V.get,V.set,V.rowAt,V.setRow,Option.getD_some,List.set_cons_zero,List.set_cons_succ,zT,List.set_set,cellOf,cellsOf,Env.behind,Env.val,Env.sc,Env.cl,lk,setO,delO,zZ,zV,plain,Env.putO,Env.put,tyBool,binV,unV,rK,rB,rS,rL,wk_fold,bI_add,bI_sub,bI_mul,bI_quo,bI_rem,bI_and,bI_or,bI_xor,qH,bI_eql,bI_neq,bI_lss,bI_leq,bI_gtr,bI_geq,bI_shl,bI_shr,bS_add,bS_eql,bS_neq,bS_lss,bS_leq,bS_gtr,bS_geq,qA,qG,
      ↓reduceIte,eq_self,Option.isSome_some,Option.isSome_none,Option.bind_some,Option.bind_none,Option.map_some,Option.map_none,Bool.false_eq_true,Nat.reduceLT,Nat.reduceLeDiff,Nat.reduceEqDiff,Nat.reduceAdd,Nat.reduceMul,Nat.reduceSub,Int.reduceLT,Int.reduceEq,Int.reduceNeg,List.length_map,List.length_set,List.length_cons,List.length_nil,List.length_append,List.getElem?_map,List.map_cons,List.map_nil,true_or,or_true,or_false,false_or,and_true,true_and,and_self,not_true,not_false_eq_true,reduceCtorEq,List.all_cons,List.all_nil,Bool.and_true,Bool.true_and,ne_eq,List.drop_zero,List.nil_append,List.append_nil,List.singleton_append,List.cons_append,List.flatMap_cons,List.flatMap_nil,List.flatten_cons,List.flatten_nil,List.mapM_cons,List.mapM_nil,Option.pure_def,Option.bind_eq_bind,List.take_zero,List.take_succ_cons,List.drop_succ_cons,List.getElem?_cons_zero,List.getElem?_cons_succ,List.set_cons_zero,List.set_cons_succ,List.headD_cons,List.take_nil,List.drop_nil,Nat.sub_zero,Nat.add_zero,Nat.zero_add,Nat.zero_le,Nat.le_refl,← List.map_append,← List.map_take,← List.map_drop]; with_reducible rfl))
  | ((with_reducible refine l_callQ (e2:=?_) rfl rfl ?_ ?_ ?_ ?_)
     rotate_left
     focus (intro x; rfl)
     focus (intro hH; simp only [hH,evCallQ,evCall,Env.callee,Env.args,flatC,Env.own1,Env.carve,Env.lend,Env.fill,shape,Env.deadAt,Env.deads,Env.node,Env.rows,Env.val,Env.sc,Env.cl,lk,setO,delO,zZ,zV,plain,Env.putO,Env.put,V.get,V.set,V.rowAt,V.setRow,Option.getD_some,List.set_cons_zero,List.set_cons_succ,zT,List.set_set,V.alive,V.bor,borRow,rK,rB,rS,rL,List.getElem?_map,List.append_nil,↓reduceIte,eq_self,Option.isSome_some,Option.isSome_none,Option.bind_some,Option.bind_none,Option.map_some,Option.map_none,Bool.false_eq_true,Nat.reduceLT,Nat.reduceLeDiff,Nat.reduceEqDiff,Nat.reduceAdd,Nat.reduceMul,Nat.reduceSub,Nat.reduceBEq,List.map_cons,List.map_nil,List.length_cons,List.length_nil,List.cons_append,List.nil_append,List.headD_cons,List.tail_cons,List.contains_nil,List.contains_cons,List.take_zero,List.take_succ_cons,List.drop_zero,List.drop_succ_cons,List.getElem?_cons_zero,List.getElem?_cons_succ,Bool.and_true,Bool.true_and,Bool.or_false,Bool.or_true,and_self,and_true,true_and,← List.map_append,← List.map_take,← List.map_drop] <;> rfl)
     focus (intro x; simp only [Env.putO,Env.put,reduceIte,Nat.reduceLT]; rfl))
  | ((with_reducible refine l_qnil (Q:=?_) ?_ ?_); rotate_left 2; focus (intro hq; (try simp only [seqV_normal,seqV_ret,seqV_exit,thenV,blockV,reduceIte,Nat.reduceEqDiff]); exact hq))
  | (refine l_qon rfl rfl rfl ?_ ?_
     focus (intro hH; simp only [hH,Env.sc,Env.val,lk,reduceIte,Nat.reduceEqDiff]; done))
  | (refine l_qoff (e':=?_) rfl rfl rfl ?_ ?_ ?_
     rotate_left
     focus (intro hH; simp only [hH,Env.sc,Env.val,lk,reduceIte,Nat.reduceEqDiff,Bool.not_true,Bool.not_false]; done)
     focus (simp only [Env.putO,Env.put,reduceIte,Nat.reduceLT]; rfl))
  | (refine l_qdead (e':=?_) rfl rfl rfl ?_ ?_ ?_
     rotate_left
     focus (simp only [Env.val,lk,reduceIte,Nat.reduceEqDiff]; done)
     focus (simp only [Env.putO,Env.put,reduceIte,Nat.reduceLT]; rfl)))
 exact hn):goal:=h hn
theorem gz {goal:Prop} (h:goal:=by
 refine go ?_
 first | (apply og; intro hH; simp only [hH,evRes,Env.res1,Env.fin,List.filter_cons,List.filter_nil,decide_true,decide_false,evMove,qE,evPick,evBin,evUn,zY,Env.sure,evNil,zM,evLoad,Env.int,Env.node,zL,evIndex,evField,Env.bound,Env.cut,evSlice,V.alive,Env.takes,evAlloc,Ag.cells,evBox,Env.newListO,evMake,over,Env.solid,Env.solidG,Env.parts,Ty.places,evBuild,Env.rowsOf,chunk,zO,Env.rows,isU8B,evLen,zR,V.isSc,C.killN,Ag.map,Sl.map,slMap,Env.place,Env.lay,evStore,C.killA,scR_nil,qM,alR_nil,alR_cons,Env.src,Env.newAt,qJ,Env.take,V.get,V.set,V.rowAt,V.setRow,Option.getD_some,List.set_cons_zero,List.set_cons_succ,zT,List.set_set,cellOf,cellsOf,Env.behind,Env.val,Env.sc,Env.cl,lk,setO,delO,zZ,zV,plain,Env.putO,Env.put,tyBool,binV,unV,rK,rB,rS,rL,wk_fold,bI_add,bI_sub,bI_mul,bI_quo,bI_rem,bI_and,bI_or,bI_xor,qH,bI_eql,bI_neq,bI_lss,bI_leq,bI_gtr,bI_geq,bI_shl,bI_shr,bS_add,bS_eql,bS_neq,bS_lss,bS_leq,bS_gtr,bS_geq,qA,qG,
      ↓reduceIte,eq_self,Option.isSome_some,Option.isSome_none,Option.bind_some,Option.bind_none,Option.map_some,Option.map_none,Bool.false_eq_true,Nat.reduceLT,Nat.reduceLeDiff,Nat.reduceEqDiff,Nat.reduceAdd,Nat.reduceMul,Nat.reduceSub,Int.reduceLT,Int.reduceEq,Int.reduceNeg,List.length_map,List.length_set,List.length_cons,List.length_nil,List.length_append,List.getElem?_map,List.map_cons,List.map_nil,true_or,or_true,or_false,false_or,and_true,true_and,and_self,not_true,not_false_eq_true,reduceCtorEq,List.all_cons,List.all_nil,Bool.and_true,Bool.true_and,ne_eq,List.drop_zero,List.nil_append,List.append_nil,List.singleton_append,List.cons_append,List.flatMap_cons,List.flatMap_nil,List.flatten_cons,List.flatten_nil,List.mapM_cons,List.mapM_nil,Option.pure_def,Option.bind_eq_bind,List.take_zero,List.take_succ_cons,List.drop_succ_cons,List.getElem?_cons_zero,List.getElem?_cons_succ,List.set_cons_zero,List.set_cons_succ,List.headD_cons,List.take_nil,List.drop_nil,Nat.sub_zero,Nat.add_zero,Nat.zero_add,Nat.zero_le,Nat.le_refl,← List.map_append,← List.map_take,← List.map_drop] <;> rfl) | (apply on; intro hH; simp only [hH,evRes,Env.res1,Env.fin,List.filter_cons,List.filter_nil,decide_true,decide_false,evMove,qE,evPick,evBin,evUn,zY,Env.sure,evNil,zM,evLoad,Env.int,Env.node,zL,evIndex,evField,Env.bound,Env.cut,evSlice,V.alive,Env.takes,evAlloc,Ag.cells,evBox,Env.newListO,evMake,over,Env.solid,Env.solidG,Env.parts,Ty.places,evBuild,Env.rowsOf,chunk,zO,Env.rows,isU8B,evLen,zR,V.isSc,C.killN,Ag.map,Sl.map,slMap,Env.place,Env.lay,evStore,C.killA,scR_nil,qM,alR_nil,alR_cons,Env.src,Env.newAt,qJ,Env.take,V.get,V.set,V.rowAt,V.setRow,Option.getD_some,List.set_cons_zero,List.set_cons_succ,zT,List.set_set,cellOf,cellsOf,Env.behind,Env.val,Env.sc,Env.cl,lk,setO,delO,zZ,zV,plain,Env.putO,Env.put,tyBool,binV,unV,rK,rB,rS,rL,wk_fold,bI_add,bI_sub,bI_mul,bI_quo,bI_rem,bI_and,bI_or,bI_xor,qH,bI_eql,bI_neq,bI_lss,bI_leq,bI_gtr,bI_geq,bI_shl,bI_shr,bS_add,bS_eql,bS_neq,bS_lss,bS_leq,bS_gtr,bS_geq,qA,qG,
      ↓reduceIte,eq_self,Option.isSome_some,Option.isSome_none,Option.bind_some,Option.bind_none,Option.map_some,Option.map_none,Bool.false_eq_true,Nat.reduceLT,Nat.reduceLeDiff,Nat.reduceEqDiff,Nat.reduceAdd,Nat.reduceMul,Nat.reduceSub,Int.reduceLT,Int.reduceEq,Int.reduceNeg,List.length_map,List.length_set,List.length_cons,List.length_nil,List.length_append,List.getElem?_map,List.map_cons,List.map_nil,true_or,or_true,or_false,false_or,and_true,true_and,and_self,not_true,not_false_eq_true,reduceCtorEq,List.all_cons,List.all_nil,Bool.and_true,Bool.true_and,ne_eq,List.drop_zero,List.nil_append,List.append_nil,List.singleton_append,List.cons_append,List.flatMap_cons,List.flatMap_nil,List.flatten_cons,List.flatten_nil,List.mapM_cons,List.mapM_nil,Option.pure_def,Option.bind_eq_bind,List.take_zero,List.take_succ_cons,List.drop_succ_cons,List.getElem?_cons_zero,List.getElem?_cons_succ,List.set_cons_zero,List.set_cons_succ,List.headD_cons,List.take_nil,List.drop_nil,Nat.sub_zero,Nat.add_zero,Nat.zero_add,Nat.zero_le,Nat.le_refl,← List.map_append,← List.map_take,← List.map_drop] <;> rfl) | exact nn):goal:=h
end
end Go.TV
