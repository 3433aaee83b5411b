/- Memory told as trees, part 5. -/
import Derived.Test.YtbapbpnchdpbhaaGreatKFnExactReadWeaveT2
import Derived.Test.YtbapbpnchdpbhaaGreatKFnExactReadWeaveT3
import Derived.KernelRfl
import Derived.Shelf.SlIterI.Sorted
import Derived.Laws.AppendOwn
import Derived.Below
set_option linter.unusedVariables false
set_option linter.unusedSimpArgs false
set_option maxHeartbeats 8000000
set_option maxRecDepth 100000
set_option maxRecDepth 100000
namespace Go.TV
theorem scRw {α:Type} {f:α→List V} (h:∀ x,(f x).all V.isSc=true):∀ l:List α,zO6 (l.map f)=true
 | []=>rfl
 | x :: l=>by rw [List.map_cons,jO,h x,scRw h l]; rfl
def Tl {ρ:Type} (H:Prop) (t:Option ρ) (r:ρ) (G:Prop):Prop:=H→t=some r→G
section
variable {ρ:Type} {H:Prop} {t:Option ρ} {r:ρ} {G:Prop}
theorem tl (h:t=some r) (k:Tl H t r G):H→G:=fun a=>k a h
theorem th (hH:H) (h:t=some r) (k:Tl H t r G):G:=k hH h
theorem fk {p:Prop} (hp:p) (k:Tl (p∧H) t r G):Tl H t r G:=fun a b=>k ⟨hp,a⟩ b
theorem nn:Tl H (none:Option ρ) r G:=fun _ h=>by cases h
theorem t0 (h:H→G):Tl H t r G:=fun a _=>h a
def HdO (G:Prop) (o:Oper):Prop:=True
def isIx (o:Oper):Bool:=match o.op with | .indexAddr ..=>true | _=>false
def isSx (o:Oper):Bool:=match o.op with | .index ..=>true | _=>false
def isSl (o:Oper):Bool:=match o.op with | .slice ..=>true | _=>false
def isMk (o:Oper):Bool:=match o.op with | .makeSlice ..=>true | _=>false
def isAp (o:Oper):Bool:=match o.op with | .call {callee:=.builtin .append,args:=_,argTypes:=_}=>true | _=>false
def isAd (o:Oper):Bool:=match o.op with | .binOp .add ..=>true | _=>false
def isBs (o:Oper):Bool:=match o.op with | .buildSlice ..=>true | _=>false
def isDv (o:Oper):Bool:=match o.op with | .binOp .quo .. | .binOp .rem .. | .binOp .shl .. | .binOp .shr ..=>true | _=>false
section
variable {α β:Type} {k:α→Option ρ}
theorem bx {f:Option α} (h:∀ x,f=some x→Tl H (k x) r G):Tl H (f.bind k) r G:=fun a b=>by
 obtain ⟨x,h1,h2⟩:=zbi b
 exact h x h1 a h2
theorem ba {m:Option β} {f:β→Option α} (h:Tl H (m.bind fun x=>(f x).bind k) r G):Tl H ((m.bind f).bind k) r G:=fun a b=>h a (by rw [← b,Option.bind_assoc])
theorem bs {v:α} (h:Tl H (k v) r G):Tl H ((some v).bind k) r G:=h
theorem b_geti {α:Type} {l:List α} {i:Int} {k:α→Option ρ} {o:Oper} (hh:HdO G o) (hk:isIx o=true) (h:∀ x,zI l i=some x→Tl ((((i < 0)=False)∧((i.toNat < l.length)=True)∧l[i.toNat]? = some x)∧H) (k x) r G):Tl H ((zI l i).bind k) r G:=bx fun x v=>fk (geti_f v) (h x v)
theorem b_sidx {s:ByteArray} {i:Int} {k:Int→Option ρ} {o:Oper} (hh:HdO G o) (hk:isSx o=true) (h:∀ x,sidx s i=some x→Tl ((((i < 0)=False)∧((i.toNat < s.size)=True)∧bt s i.toNat=x)∧H) (k x) r G):Tl H ((sidx s i).bind k) r G:=bx fun x v=>fk (sidx_f v) (h x v)
theorem b_sub2 {s:ByteArray} {lo hi:Int} {k:ByteArray→Option ρ} {o:Oper} (hh:HdO G o) (hk:isSl o=true) (h:∀ x,sub2 s lo hi=some x→Tl ((((lo < 0)=False)∧((hi < 0)=False)∧((lo.toNat≤hi.toNat∧hi.toNat≤s.size)=True)∧s.extract lo.toNat hi.toNat=x)∧H) (k x) r G):Tl H ((sub2 s lo hi).bind k) r G:=bx fun x v=>fk (sub2_f v) (h x v)
theorem b_subL {s:ByteArray} {lo:Int} {k:ByteArray→Option ρ} {o:Oper} (hh:HdO G o) (hk:isSl o=true) (h:∀ x,subL s lo=some x→Tl ((((lo < 0)=False)∧((lo.toNat≤s.size)=True)∧s.extract lo.toNat s.size=x)∧H) (k x) r G):Tl H ((subL s lo).bind k) r G:=bx fun x v=>fk (subL_f v) (h x v)
theorem b_subH {s:ByteArray} {hi:Int} {k:ByteArray→Option ρ} {o:Oper} (hh:HdO G o) (hk:isSl o=true) (h:∀ x,subH s hi=some x→Tl ((((hi < 0)=False)∧((hi.toNat≤s.size)=True)∧s.extract 0 hi.toNat=x)∧H) (k x) r G):Tl H ((subH s hi).bind k) r G:=bx fun x v=>fk (subH_f v) (h x v)
theorem b_cut2 {α:Type} {l:List α} {lo hi:Int} {k:List α→Option ρ} {o:Oper} (hh:HdO G o) (hk:isSl o=true) (h:∀ x,cut2 l lo hi=some x→Tl ((((lo < 0)=False)∧((hi < 0)=False)∧((lo.toNat≤hi.toNat∧hi.toNat≤l.length)=True)∧(l.drop lo.toNat).take (hi.toNat - lo.toNat)=x)∧H) (k x) r G):Tl H ((cut2 l lo hi).bind k) r G:=bx fun x v=>fk (cut2_f v) (h x v)
theorem b_cutL {α:Type} {l:List α} {lo:Int} {k:List α→Option ρ} {o:Oper} (hh:HdO G o) (hk:isSl o=true) (h:∀ x,cutL l lo=some x→Tl ((((lo < 0)=False)∧((lo.toNat≤l.length)=True)∧(l.drop lo.toNat).take (l.length - lo.toNat)=x)∧H) (k x) r G):Tl H ((cutL l lo).bind k) r G:=bx fun x v=>fk (cutL_f v) (h x v)
theorem b_cutH {α:Type} {l:List α} {hi:Int} {k:List α→Option ρ} {o:Oper} (hh:HdO G o) (hk:isSl o=true) (h:∀ x,cutH l hi=some x→Tl ((((hi < 0)=False)∧((hi.toNat≤l.length)=True)∧l.take hi.toNat=x)∧H) (k x) r G):Tl H ((cutH l hi).bind k) r G:=bx fun x v=>fk (cutH_f v) (h x v)
theorem b_mkl {α:Type} {n m:Int} {z:α} {k:List α→Option ρ} {o:Oper} (hh:HdO G o) (hk:isMk o=true) (h:∀ x,mkl n m z=some x→Tl ((((0≤n)=True)∧((n≤m)=True)∧((m≤1099511627776)=True)∧List.replicate n.toNat z=x)∧H) (k x) r G):Tl H ((mkl n m z).bind k) r G:=bx fun x v=>fk (mkl_f v) (h x v)
theorem b_app1 {α:Type} {l:List α} {a:α} {k:List α→Option ρ} {o:Oper} (hh:HdO G o) (hk:isAp o=true) (h:∀ x,qE l [a]=some x→Tl ((((l.length+1≤549755813888)=True)∧l++[a]=x)∧H) (k x) r G):Tl H ((qE l [a]).bind k) r G:=bx fun x v=>fk (app1_f v) (h x v)
theorem b_app2 {α:Type} {l:List α} {a b:α} {k:List α→Option ρ} {o:Oper} (hh:HdO G o) (hk:isAp o=true) (h:∀ x,qE l [a,b]=some x→Tl ((((l.length+2≤549755813888)=True)∧l++[a,b]=x)∧H) (k x) r G):Tl H ((qE l [a,b]).bind k) r G:=bx fun x v=>fk (app2_f v) (h x v)
theorem b_app3 {α:Type} {l:List α} {a b c:α} {k:List α→Option ρ} {o:Oper} (hh:HdO G o) (hk:isAp o=true) (h:∀ x,qE l [a,b,c]=some x→Tl ((((l.length+3≤549755813888)=True)∧l++[a,b,c]=x)∧H) (k x) r G):Tl H ((qE l [a,b,c]).bind k) r G:=bx fun x v=>fk (app3_f v) (h x v)
theorem b_app4 {α:Type} {l:List α} {a b c d:α} {k:List α→Option ρ} {o:Oper} (hh:HdO G o) (hk:isAp o=true) (h:∀ x,qE l [a,b,c,d]=some x→Tl ((((l.length+4≤549755813888)=True)∧l++[a,b,c,d]=x)∧H) (k x) r G):Tl H ((qE l [a,b,c,d]).bind k) r G:=bx fun x v=>fk (app4_f v) (h x v)
theorem b_appn {α:Type} {l m:List α} {k:List α→Option ρ} {o:Oper} (hh:HdO G o) (hk:isAp o=true) (h:∀ x,qE l m=some x→Tl ((((l.length+m.length≤549755813888)=True)∧l++m=x)∧H) (k x) r G):Tl H ((qE l m).bind k) r G:=bx fun x v=>fk (appn_f v) (h x v)
theorem b_ins1 {α:Type} {l:List α} {i:Int} {a:α} {k:List α→Option ρ} {o:Oper} (hh:HdO G o) (hk:isBs o=true) (h:∀ x,ins1 l i a=some x→Tl ((((0≤i)=True)∧((i≤(l.length:Int))=True)∧((l.length≤549755813887)=True)∧l.take i.toNat++[a]++l.drop i.toNat=x)∧H) (k x) r G):Tl H ((ins1 l i a).bind k) r G:=bx fun x v=>fk (ins1_f v) (h x v)
theorem b_sapp {s t:ByteArray} {k:ByteArray→Option ρ} {o:Oper} (hh:HdO G o) (hk:isAd o=true) (h:∀ x,sapp s t=some x→Tl ((((s.size+t.size≤4611686018427387904)=True)∧s++t=x)∧H) (k x) r G):Tl H ((sapp s t).bind k) r G:=bx fun x v=>fk (sapp_f v) (h x v)
theorem b_chk {p:Prop} [Decidable p] {k:Unit→Option ρ} {o:Oper} (hh:HdO G o) (hk:isDv o=true) (h:∀ x,chk (¬p)=some x→Tl ((p=False)∧H) (k x) r G):Tl H ((chk (¬p)).bind k) r G:=bx fun x v=>fk (chkF v) (h x v)
end
section
variable {X:Cfg} {Post:Exit→Env→Prop} {e e':Env} {ops:Array Oper} {o:Oper} {l:List Oper} {c d:Code} {j n:Nat} {want b:Bool} {Q:Prop}
theorem l_seqR {id:Nat} {dr:Bool} (h:Tl H t r (wpV X (.region id ops dr) (seqV X d Post) e)):Tl H t r (wpV X (.seq (.region id ops dr) d) Post e):=fun a b=>zY6 (h a b)
theorem l_reg {id:Nat} (h:Tl H t r (opsV X l.toArray l Post e)):Tl H t r (wpV X (.region id l.toArray false) Post e):=fun a b=>qD3 (h a b)
theorem l_blk {id:Nat} (h:Tl H t r (wpV X c (yP id Post) e)):Tl H t r (wpV X (.block id c) Post e):=fun a b=>wpV_block (h a b)
theorem l_nil (h:Tl H t r Q) (hq:Q→Post .normal e):Tl H t r (opsV X ops [] Post e):=fun a b=>qE4 (hq (h a b))
theorem l_qnil (h:Tl H t r Q) (hq:Q→Post .normal e):Tl H t r (quV X ops [] Post e):=fun a b=>quV_nil (hq (h a b))
theorem l_skip (h:Tl H t r Q) (hq:Q→Post .normal e):Tl H t r (wpV X .skip Post e):=fun a b=>wpV_skip (hq (h a b))
theorem l_ret (h:Tl H t r Q) (hq:Q→Post .ret e):Tl H t r (wpV X .ret Post e):=fun a b=>wpV_ret (hq (h a b))
theorem l_exit {id:Nat} (h:Tl H t r Q) (hq:Q→Post (.exit id) e):Tl H t r (wpV X (.exit id) Post e):=fun a b=>wpV_exit (hq (h a b))
def autoB (o:Oper):Bool:=match o.op with
 | .assign (.const (.slice ..)) | .move (.const (.slice ..)) | .store _ _ (.const (.slice ..)) | .slice .. | .alloc _=>false
 | _=>true
theorem rq {id:Nat} (h:Tl H t r (quV X l.toArray l Post e)) (hB:Region.lexB .any l.toArray=true:=by decide +kernel):Tl H t r (wpV X (.region id l.toArray true) Post e):=fun a b=>wpV_quiet (h a b) hB
theorem l_op (hg:o.guard=none) (hk:autoB o=true) (he:H→evOp X.T o e=some e') (h:Tl H t r (opsV X ops l Post e')):Tl H t r (opsV X ops (o :: l) Post e):=fun a b=>qF5 hg (evOp_ok (he a)) (h a b)
theorem l1 (h:Tl H t r (opsV X ops l Post e')) (hg:o.guard=none:=by rfl) (he:H→evOp X.T o e=some e':=by
   intro hH
   simp only [hH,evOp,evConv,xD,jB,xV,wF,zA7,qP,Env.sure,wH,zX,xU,Env.int,Env.node,zY,jM,jK,Env.bound,Env.cut,jS,V.alive,Env.takes,xM,Ag.cells,uG,Env.newListO,vO,over,Env.solid,Env.solidG,Env.parts,Ty.places,xN,Env.rowsOf,kR,qC,Env.rows,yM,wG,qD,V.isSc,C.killN,Ag.map,Sl.map,qG,Env.place,Env.lay,jZ,C.killA,kM,jO,kO,jX,Env.src,Env.newAt,jI,Env.take,V.get,V.set,V.rowAt,V.setRow,Option.getD_some,List.set_cons_zero,List.set_cons_succ,qH,List.set_set,vP,cellsOf,Env.behind,Env.val,Env.sc,Env.cl,lk,zU,zR,qN,qJ,plain,Env.putO,Env.put,kU,uX,unV,rK,rB,rS,rL,kN,wR,wQ,yB,wZ,wP,wV,uT,yD,jH,wL,wW,wN,wM,wU,wJ,yA,wK,wY,wS,yC,wX,wI,wO,wT,qK,jG,
      ↓reduceIte,eq_self,Option.isSome_some,Option.isSome_none,Option.bind_some,Option.bind_none,Option.map_some,Option.map_none,Bool.false_eq_true,Nat.reduceLT,Nat.reduceLeDiff,Nat.reduceEqDiff,Nat.reduceAdd,Nat.reduceMul,Nat.reduceSub,Int.reduceLT,Int.reduceEq,Int.reduceNeg,List.length_map,List.length_set,List.length_cons,List.length_nil,List.length_append,List.getElem?_map,List.map_cons,List.map_nil,true_or,or_true,or_false,false_or,and_true,true_and,and_self,not_true,not_false_eq_true,reduceCtorEq,List.all_cons,List.all_nil,Bool.and_true,Bool.true_and,ne_eq,List.drop_zero,List.nil_append,List.append_nil,List.singleton_append,List.cons_append,List.flatMap_cons,List.flatMap_nil,List.flatten_cons,List.flatten_nil,List.mapM_cons,List.mapM_nil,Option.pure_def,Option.bind_eq_bind,List.take_zero,List.take_succ_cons,List.drop_succ_cons,List.getElem?_cons_zero,List.getElem?_cons_succ,List.set_cons_zero,List.set_cons_succ,List.headD_cons,List.take_nil,List.drop_nil,Nat.sub_zero,Nat.add_zero,Nat.zero_add,Nat.zero_le,Nat.le_refl,← List.map_append,← List.map_take,← List.map_drop]
   with_reducible rfl):Tl H t r (opsV X ops (o :: l) Post e):=fun a b=>qF5 hg (evOp_ok (he a)) (h a b)
theorem l_on {oj:Oper} (hg:o.guard=some (j,want)) (hj:ops[j]? = some oj) (hjd:oj.dst=some n) (hb:H→e.sc (.tmp n)=some (.bool want)) (h:Tl H t r (opsV X ops ({o with guard:=none} :: l) Post e)):Tl H t r (opsV X ops (o :: l) Post e):=fun a b=>opsV_on hg hj hjd (hb a) (h a b)
theorem l_off {oj:Oper} (hg:o.guard=some (j,want)) (hj:ops[j]? = some oj) (hjd:oj.dst=some n) (hb:H→e.sc (.tmp n)=some (.bool !want)) (he:e.putO o.dst (.tup [])=some e') (h:Tl H t r (opsV X ops l Post e')):Tl H t r (opsV X ops (o :: l) Post e):=fun a b=>opsV_off hg hj hjd (hb a) he (h a b)
theorem l_dead {oj:Oper} (hg:o.guard=some (j,want)) (hj:ops[j]? = some oj) (hjd:oj.dst=some n) (hb:e.val (.tmp n)=some (.tup [])) (he:e.putO o.dst (.tup [])=some e') (h:Tl H t r (opsV X ops l Post e')):Tl H t r (opsV X ops (o :: l) Post e):=fun a b=>opsV_dead hg hj hjd hb he (h a b)
theorem hd_o:HdO (opsV X ops (o :: l) Post e) o:=trivial
theorem hd_q:HdO (quV X ops (o :: l) Post e) o:=trivial
theorem l_qop (hg:o.guard=none) (he:H→qH6 X.T o e=some e') (h:Tl H t r (quV X ops l Post e')):Tl H t r (quV X ops (o :: l) Post e):=fun a b=>quV_op hg (he a) (h a b)
theorem l_qon {oj:Oper} (hg:o.guard=some (j,want)) (hj:ops[j]? = some oj) (hjd:oj.dst=some n) (hb:H→e.sc (.tmp n)=some (.bool want)) (h:Tl H t r (quV X ops ({o with guard:=none} :: l) Post e)):Tl H t r (quV X ops (o :: l) Post e):=fun a b=>quV_on hg hj hjd (hb a) (h a b)
theorem l_qoff {oj:Oper} (hg:o.guard=some (j,want)) (hj:ops[j]? = some oj) (hjd:oj.dst=some n) (hb:H→e.sc (.tmp n)=some (.bool !want)) (he:e.putO o.dst (.tup [])=some e') (h:Tl H t r (quV X ops l Post e')):Tl H t r (quV X ops (o :: l) Post e):=fun a b=>quV_off hg hj hjd (hb a) he (h a b)
theorem l_qdead {oj:Oper} (hg:o.guard=some (j,want)) (hj:ops[j]? = some oj) (hjd:oj.dst=some n) (hb:e.val (.tmp n)=some (.tup [])) (he:e.putO o.dst (.tup [])=some e') (h:Tl H t r (quV X ops l Post e')):Tl H t r (quV X ops (o :: l) Post e):=fun a b=>quV_dead hg hj hjd hb he (h a b)
theorem sq (h:Tl H t r (wpV X c (seqV X d Post) e)):Tl H t r (wpV X (.seq c d) Post e):=fun a b=>zY6 (h a b)
theorem lf {G':Prop} (h:Tl H t r G') (k:H→G'→G):Tl H t r G:=fun a b=>k a (h a b)
theorem sp {x:Operand} {t1 t2:Option ρ} (h1:Tl H t1 r (wpV X c Post e)) (h2:Tl H t2 r (wpV X d Post e)) (hx:H→e.sc x=some (.bool b):=by (intro hH; simp only [hH,Env.sc,Env.val,lk,↓reduceIte,Nat.reduceEqDiff] <;> rfl)):Tl H (if b=true then t1 else t2) r (wpV X (.cond x c d) Post e):=fun a q =>
 wpV_cond (hx a) (fun hb=>h1 a (by rw [← q,if_pos hb])) (fun hb=>h2 a (by rw [← q,if_neg (by simp [hb])]))
theorem jn (J:Env→Prop) (h1:Tl H t r (wpV X c (yU (Shd J) Post) e)) (h2:∀ e',J e'→H→wpV X d Post e'):Tl H t r (wpV X (.seq c d) Post e):=fun a b=>wpV_seqJ J (h1 a b) (fun e' q=>h2 e' q a)
theorem je {I:Env→Prop} (ks:List Nat) (os:List (Nat×Nat)) (nx:Nat) (h:t=some r→I e') (he:e.shed ks os nx=some e':=by
 simp only [Env.shed,shedS,shedO,lk,zR,C.ren,Ag.map,Sl.map,List.map_cons,List.map_nil,↓reduceIte,eq_self,Option.isSome_some,Option.isSome_none,Option.bind_some,Option.map_some,Nat.reduceEqDiff,Nat.reduceLT,Nat.reduceLeDiff,true_or,or_true,or_false,false_or,and_true,true_and,not_true,not_false_eq_true,Bool.false_eq_true,implies_true,imp_self,false_implies,Nat.le_refl] <;> rfl):Tl H t r (Shd I e):=fun _ b=>.of ks os nx he (h b)
def lpP {σ π:Type} (I:σ→Env→Prop) (k:π→Option ρ) (r:ρ) (y:σ⊕π) (Post:Exit→Env→Prop):Exit→Env→Prop
 | .normal,e=>Shd (fun e'=>∃ s',y=.inl s'∧I s' e') e
 | x,e=>∃ r',y=.inr r'∧(k r'=some r→Post x e)
theorem lp {σ π:Type} {body:σ→Option (σ⊕π)} {s:σ} {k:π→Option ρ} {e1:Env} (I:σ→Env→Prop) (ks:List Nat) (os:List (Nat×Nat)) (nx:Nat) (hI:I s e1) (hb:∀ s e',I s e'→∀ y,Tl H (body s) y (wpV X c (lpP I k r y Post) e')) (he:e.shed ks os nx=some e1:=by
 simp only [Env.shed,shedS,shedO,lk,zR,C.ren,Ag.map,Sl.map,List.map_cons,List.map_nil,↓reduceIte,eq_self,Option.isSome_some,Option.isSome_none,Option.bind_some,Option.map_some,Nat.reduceEqDiff,Nat.reduceLT,Nat.reduceLeDiff,true_or,or_true,or_false,false_or,and_true,true_and,not_true,not_false_eq_true,Bool.false_eq_true,implies_true,imp_self,false_implies,Nat.le_refl] <;> rfl):Tl H ((zC body s).bind k) r (wpV X (.loop c) Post e):=fun a b=>by
 have h0:Shd (I s) e:=.of ks os nx he hI
 obtain ⟨p,h1,h2⟩:=zbi b
 refine wpV_loopM I h1 h0 (fun s y e' g1 g2=>qL2 (hb s e' g2 y a g1) (fun x e'' q=>?_))
 cases x with
 | normal=>exact q
 | _ =>
  obtain ⟨r',q1,q2⟩:=q
  exact ⟨r',q1,fun q3=>q2 (by rw [q3]; exact h2)⟩
theorem bk {σ π:Type} {I:σ→Env→Prop} {k:π→Option ρ} {s:σ} {y:σ⊕π} {r0:ρ} (ks:List Nat) (os:List (Nat×Nat)) (nx:Nat) (h:I s e') (he:e.shed ks os nx=some e':=by
 simp only [Env.shed,shedS,shedO,lk,zR,C.ren,Ag.map,Sl.map,List.map_cons,List.map_nil,↓reduceIte,eq_self,Option.isSome_some,Option.isSome_none,Option.bind_some,Option.map_some,Nat.reduceEqDiff,Nat.reduceLT,Nat.reduceLeDiff,true_or,or_true,or_false,false_or,and_true,true_and,not_true,not_false_eq_true,Bool.false_eq_true,implies_true,imp_self,false_implies,Nat.le_refl] <;> rfl):Tl H (some (.inl s)) y (lpP I k r0 y Post .normal e):=fun _ b=>(show Shd (fun e'=>∃ s',y=.inl s'∧I s' e') e from .of ks os nx he ⟨s,(zso b).symm,h⟩)
theorem exN {σ π:Type} {I:σ→Env→Prop} {k:π→Option ρ} {v:π} {y:σ⊕π} {i:Nat} (h:Tl H (k v) r Q) (hq:Q→Post (.exit i) e):Tl H (some (.inr v)) y (lpP I k r y Post (.exit i) e):=fun a b=>⟨v,(zso b).symm,fun q=>hq (h a q)⟩
theorem exR {σ π:Type} {I:σ→Env→Prop} {k:π→Option ρ} {v:π} {y:σ⊕π} (h:Tl H (k v) r Q) (hq:Q→Post .ret e):Tl H (some (.inr v)) y (lpP I k r y Post .ret e):=fun a b=>⟨v,(zso b).symm,fun q=>hq (h a q)⟩
theorem exM {σ π:Type} {I:σ→Env→Prop} {k:π→Option ρ} {f:Option ρ} {g:ρ→π} {y:σ⊕π} {i:Nat} (h:Tl H f r Q) (hq:Q→Post (.exit i) e) (hk:∀ c,k (g c)=some c):Tl H (f.map fun c=>(Sum.inr (g c):σ⊕π)) y (lpP I k r y Post (.exit i) e):=fun a b=>by
 obtain ⟨c,h1,rfl⟩:=Option.map_eq_some_iff.1 b
 exact ⟨g c,rfl,fun q=>hq (h a (by rw [hk] at q; rw [h1,q]))⟩
theorem exMR {σ π:Type} {I:σ→Env→Prop} {k:π→Option ρ} {f:Option ρ} {g:ρ→π} {y:σ⊕π} (h:Tl H f r Q) (hq:Q→Post .ret e) (hk:∀ c,k (g c)=some c):Tl H (f.map fun c=>(Sum.inr (g c):σ⊕π)) y (lpP I k r y Post .ret e):=fun a b=>by
 obtain ⟨c,h1,rfl⟩:=Option.map_eq_some_iff.1 b
 exact ⟨g c,rfl,fun q=>hq (h a (by rw [hk] at q; rw [h1,q]))⟩
def cutP (J:Env→Prop):Exit→Env→Prop:=fun x e=>x=.normal∧Shd J e
def cutQ {π:Type} (J:π→Env→Prop) (p:π):Exit→Env→Prop:=fun x e=>x=.normal∧Shd (J p) e
theorem gc {π:Type} {k:π→Option ρ} {t1:Option π} {l1 l2:List Oper} (m:Nat) (J:π→Env→Prop) (h1:∀ p,Tl H t1 p (opsV X ops l1 (cutQ J p) e)) (h2:∀ p e',J p e'→Tl H (k p) r (opsV X ops l2 Post e')) (e1:l.take m=l1:=by (simp only [List.take_succ_cons,List.take_zero]; rfl)) (e2:l.drop m=l2:=by (simp only [List.drop_succ_cons,List.drop_zero]; rfl)):Tl H (t1.bind k) r (opsV X ops l Post e):=fun a b=>by
 obtain ⟨p,g1,g2⟩:=zbi b
 exact opsV_cut m (J p) (by rw [e1]; exact h1 p a g1) (fun e' q=>by rw [e2]; exact h2 p e' q a g2)
theorem qc {π:Type} {k:π→Option ρ} {t1:Option π} {l1 l2:List Oper} (m:Nat) (J:π→Env→Prop) (h1:∀ p,Tl H t1 p (quV X ops l1 (cutQ J p) e)) (h2:∀ p e',J p e'→Tl H (k p) r (quV X ops l2 Post e')) (e1:l.take m=l1:=by (simp only [List.take_succ_cons,List.take_zero]; rfl)) (e2:l.drop m=l2:=by (simp only [List.drop_succ_cons,List.drop_zero]; rfl)):Tl H (t1.bind k) r (quV X ops l Post e):=fun a b=>by
 obtain ⟨p,g1,g2⟩:=zbi b
 exact quV_cut m (J p) (by rw [e1]; exact h1 p a g1) (fun e' q=>by rw [e2]; exact h2 p e' q a g2)
theorem ge {π:Type} {v p:π} {J:π→Env→Prop} (ks:List Nat) (os:List (Nat×Nat)) (nx:Nat) (h:J v e') (he:e.shed ks os nx=some e':=by
 simp only [Env.shed,shedS,shedO,lk,zR,C.ren,Ag.map,Sl.map,List.map_cons,List.map_nil,↓reduceIte,eq_self,Option.isSome_some,Option.isSome_none,Option.bind_some,Option.map_some,Nat.reduceEqDiff,Nat.reduceLT,Nat.reduceLeDiff,true_or,or_true,or_false,false_or,and_true,true_and,not_true,not_false_eq_true,Bool.false_eq_true,implies_true,imp_self,false_implies,Nat.le_refl] <;> rfl):Tl H (some v) p (cutQ J p .normal e):=fun _ b=>⟨rfl,.of ks os nx he (zso b ▸ h)⟩
theorem yF {π:Type} {p:π} {t1 t2:Option π} {oj:Oper} {e1 e2:Env} (h1:Tl H t1 p (opsV X ops ({o with guard:=none} :: l) Post e1)) (h2:Tl H t2 p (opsV X ops l Post e2))
  (hg:o.guard=some (j,true):=by rfl) (hj:ops[j]? = some oj:=by rfl) (hjd:oj.dst=some n:=by rfl) (hb:e.sc (.tmp n)=some (.bool b):=by (simp only [Env.sc,Env.val,lk,reduceIte,Nat.reduceEqDiff] <;> rfl)) (he1:e.put n (.pl (.one (.v (.sc (.bool true)))))=e1:=by (simp only [Env.put]; rfl)) (he2:(e.put n (.pl (.one (.v (.sc (.bool !true)))))).putO o.dst (.tup [])=some e2:=by (simp only [Env.putO,Env.put,Bool.not_true,Bool.not_false,reduceIte,Nat.reduceLT]; rfl)):Tl H (if b=true then t1 else t2) p (opsV X ops (o :: l) Post e):=fun a q =>
 opsV_sp (fun hb=>h1 a (by rw [← q,if_pos hb])) (fun hb=>h2 a (by rw [← q,if_neg (by simp [hb])])) hg hj hjd hb he1 he2
theorem qS {π:Type} {p:π} {t1 t2:Option π} {oj:Oper} {e1 e2:Env} (h1:Tl H t1 p (opsV X ops l Post e1)) (h2:Tl H t2 p (opsV X ops ({o with guard:=none} :: l) Post e2))
  (hg:o.guard=some (j,false):=by rfl) (hj:ops[j]? = some oj:=by rfl) (hjd:oj.dst=some n:=by rfl) (hb:e.sc (.tmp n)=some (.bool b):=by (simp only [Env.sc,Env.val,lk,reduceIte,Nat.reduceEqDiff] <;> rfl)) (he2:e.put n (.pl (.one (.v (.sc (.bool false)))))=e2:=by (simp only [Env.put]; rfl)) (he1:(e.put n (.pl (.one (.v (.sc (.bool !false)))))).putO o.dst (.tup [])=some e1:=by (simp only [Env.putO,Env.put,Bool.not_true,Bool.not_false,reduceIte,Nat.reduceLT]; rfl)):Tl H (if b=true then t1 else t2) p (opsV X ops (o :: l) Post e):=fun a q =>
 opsV_sp (fun hb=>h2 a (by rw [← q,if_neg (by simp [hb])])) (fun hb=>h1 a (by rw [← q,if_pos (by simpa using hb)])) hg hj hjd hb he2 he1
theorem quV_spL {π:Type} {p:π} {t1 t2:Option π} {oj:Oper} {e1 e2:Env} (h1:Tl H t1 p (quV X ops ({o with guard:=none} :: l) Post e1)) (h2:Tl H t2 p (quV X ops l Post e2))
  (hg:o.guard=some (j,true):=by rfl) (hj:ops[j]? = some oj:=by rfl) (hjd:oj.dst=some n:=by rfl) (hb:e.sc (.tmp n)=some (.bool b):=by (simp only [Env.sc,Env.val,lk,reduceIte,Nat.reduceEqDiff] <;> rfl)) (he1:e.put n (.pl (.one (.v (.sc (.bool true)))))=e1:=by (simp only [Env.put]; rfl)) (he2:(e.put n (.pl (.one (.v (.sc (.bool !true)))))).putO o.dst (.tup [])=some e2:=by (simp only [Env.putO,Env.put,Bool.not_true,Bool.not_false,reduceIte,Nat.reduceLT]; rfl)):Tl H (if b=true then t1 else t2) p (quV X ops (o :: l) Post e):=fun a q =>
 quV_sp (fun hb=>h1 a (by rw [← q,if_pos hb])) (fun hb=>h2 a (by rw [← q,if_neg (by simp [hb])])) hg hj hjd hb he1 he2
theorem zA3 {π:Type} {p:π} {t1 t2:Option π} {oj:Oper} {e1 e2:Env} (h1:Tl H t1 p (quV X ops l Post e1)) (h2:Tl H t2 p (quV X ops ({o with guard:=none} :: l) Post e2))
  (hg:o.guard=some (j,false):=by rfl) (hj:ops[j]? = some oj:=by rfl) (hjd:oj.dst=some n:=by rfl) (hb:e.sc (.tmp n)=some (.bool b):=by (simp only [Env.sc,Env.val,lk,reduceIte,Nat.reduceEqDiff] <;> rfl)) (he2:e.put n (.pl (.one (.v (.sc (.bool false)))))=e2:=by (simp only [Env.put]; rfl)) (he1:(e.put n (.pl (.one (.v (.sc (.bool !false)))))).putO o.dst (.tup [])=some e1:=by (simp only [Env.putO,Env.put,Bool.not_true,Bool.not_false,reduceIte,Nat.reduceLT]; rfl)):Tl H (if b=true then t1 else t2) p (quV X ops (o :: l) Post e):=fun a q =>
 quV_sp (fun hb=>h2 a (by rw [← q,if_neg (by simp [hb])])) (fun hb=>h1 a (by rw [← q,if_pos (by simpa using hb)])) hg hj hjd hb he2 he1
theorem jr (J:Env→Prop) (h1:Tl H (some ()) () (wpV X c (cutP J) e)) (h2:∀ e',J e'→Tl H t r (Post .normal e')):Tl H t r (wpV X c Post e):=fun a b=>wpV_J J (h1 a rfl) (fun e' q=>h2 e' q a b)
theorem cn (h:Tl H t r Q) (hq:Q→G:=by
 intro hq
 try simp only [xK,yY,vS,yU,yP,reduceIte,Nat.reduceEqDiff]
 exact hq):Tl H t r G:=fun a b=>hq (h a b)
theorem gq {J:Env→Prop} (ks:List Nat) (os:List (Nat×Nat)) (nx:Nat) (h:J e') (he:e.shed ks os nx=some e':=by
 simp only [Env.shed,shedS,shedO,lk,zR,C.ren,Ag.map,Sl.map,List.map_cons,List.map_nil,↓reduceIte,eq_self,Option.isSome_some,Option.isSome_none,Option.bind_some,Option.map_some,Nat.reduceEqDiff,Nat.reduceLT,Nat.reduceLeDiff,true_or,or_true,or_false,false_or,and_true,true_and,not_true,not_false_eq_true,Bool.false_eq_true,implies_true,imp_self,false_implies,Nat.le_refl] <;> rfl):Tl H t r (cutP J .normal e):=fun _ b=>⟨rfl,.of ks os nx he h⟩
theorem tF (i:Nat) (h:Tl H t r (wpV X c Post e')) (he:H→e.freeze i=some e':=by
   intro hH
   simp only [hH,Env.freeze,lk,zR,V.own,V.bor,qB,rK,rB,rS,rL,qG,Sl.map,Ag.map,C.frz,List.map_cons,List.map_nil,Option.bind_some,reduceIte,Nat.reduceEqDiff,Nat.reduceLeDiff,and_self,true_and,and_true] <;> rfl):Tl H t r (wpV X c Post e):=fun a b=>wpV_frz a i (h a b) he
theorem tI (i:Nat) (h:Tl H t r (wpV X c Post e')) (he:H→e.frzI i=some e':=by
   intro hH
   simp only [hH,Env.frzI,lk,zU,V.own,V.alive,V.get,V.rowAt,V.bor,qB,rK,rB,rS,rL,qG,Sl.map,Ag.map,C.frzI,List.map_cons,List.map_nil,List.getElem?_cons_zero,List.getElem?_cons_succ,Option.bind_some,reduceIte,Nat.reduceEqDiff,Nat.reduceLeDiff,and_self,true_and,and_true] <;> rfl):Tl H t r (wpV X c Post e):=fun a b=>wpV_frzI a i (h a b) he
end
class Wlk (X:Cfg) {ρ:Type} (t:Option ρ) (f:outParam Nat) (ml:outParam (List Nat)) (az:outParam (List (Ag V))) (rs:outParam (ρ→List (Ag V))) (fin:outParam (ρ→List (Nat×V))):Prop where
 w:∀ r,t=some r→Fn X f az (rs r) (fin r)
theorem h2 {a b:Prop} (p:a) (q:b):a∧b:=⟨p,q⟩
section
variable {X:Cfg} {Post:Exit→Env→Prop} {e e' e1:Env} {ops:Array Oper} {o:Oper} {l:List Oper} {f:Nat} {ml:List Nat} {az:List (Ag V)} {cells:List C} {cf:Operand} {args:Array Operand} {ts:Array TypeId}
theorem ws {rs : ρ → List (Ag V)} {fin : ρ → List (Nat × V)} {body : Code} (fn : Func) (N : Nat) (res : List ResultVar) (hH : H) (h : ∀ r, Tl H t r (wpV X body (RetL X res (rs r) (fin r)) e)) (hf : X.P.funcs[f]? = some fn := by rfl) (hb : fn.body = some body := by rfl) (hN : fn.ntmps = N := by rfl) (hr : fn.results.toList = res := by rfl) (hn : (fn.name == "runtime.NumGoroutine") = false := by rfl) (hl : az.length ≤ N := by simp)
  (he:entry az N=e:=by
   simp only [entry,entS,entC,zS7,V.own,jP,zG,List.length_cons,List.length_nil,Nat.reduceAdd,Bool.false_eq_true,reduceIte,List.cons_append,List.nil_append] <;> rfl):Wlk X t f ml az rs fin:=
 ⟨fun r q=>by
  refine Fn.start hf hb hN hr hn hl ?_
  rw [he]
  exact h r hH q⟩
theorem og {rs:ρ→List (Ag V)} {fin:ρ→List (Nat×V)} {v:ρ} {res:List ResultVar} (h:H→(zT3 X.T res e).map (fun q=>(q.1,q.2.fin))=some (rs v,fin v)):Tl H (some v) r (RetL X res (rs r) (fin r) .ret e):=fun a b=>by
 obtain rfl:=zso b
 exact .of (.inl rfl) (h a)
theorem on {rs:ρ→List (Ag V)} {fin:ρ→List (Nat×V)} {v:ρ} {res:List ResultVar} (h:H→(zT3 X.T res e).map (fun q=>(q.1,q.2.fin))=some (rs v,fin v)):Tl H (some v) r (RetL X res (rs r) (fin r) .normal e):=fun a b=>by
 obtain rfl:=zso b
 exact .of (.inr rfl) (h a)
variable {π:Type} {t1:Option π} {k:π→Option ρ} {rs:π→List (Ag V)} {fin:π→List (Nat×V)} {e2:π→Env}
theorem l_call [hw:Wlk X t1 f ml az rs fin] (hg:o.guard=none) (ho:o.op=.call {callee:=.value cf,args:=args,argTypes:=ts}) (h1:H→zD7 (fun _=>ml) cf args.toList e=some (f,az,cells,e1)) (hn:∀ x,H→zT (zG (rs x))=true) (hfin:∀ x,H→(fin x).all (fun q=>ml.contains q.1 && q.2.noBor)=true)
  (h2:∀ x,H→zB2 o (rs x) (fin x) cells e1=some (e2 x)) (h:∀ x,Tl H (k x) r (opsV X ops l Post (e2 x))):Tl H (t1.bind k) r (opsV X ops (o :: l) Post e):=bx fun x v a b=>opsV_call (fun _=>ml) (hw.w x v) hg ho (h1 a) (hn x a) (hfin x a) (h2 x a) (h x a b)
theorem l_callD [hw:Wlk X t1 f ml az rs fin] (hg:o.guard=none) (ho:o.op=.call {callee:=.value cf,args:=args,argTypes:=ts}) (h1:H→zV7 (fun _=>ml) cf args.toList e=some (f,az,cells,e1)) (hfin:∀ x,H→(fin x).all (fun q=>ml.contains q.1)=true)
  (h2:∀ x,H→zB2 o (rs x) (fin x) cells e1=some (e2 x)) (h:∀ x,Tl H (k x) r (opsV X ops l Post (e2 x))):Tl H (t1.bind k) r (opsV X ops (o :: l) Post e):=bx fun x v a b=>opsV_callD (fun _=>ml) (hw.w x v) hg ho (h1 a) (hfin x a) (h2 x a) (h x a b)
theorem l_callQ {v:π→Value} [hw:Wlk X t1 f ml az (fun x=>[.one (.sc (v x))]) (fun _=>[])] (hg:o.guard=none) (ho:o.op=.call {callee:=.value cf,args:=args,argTypes:=ts}) (hp:∀ x,plain (v x)=true) (h1:H→zI2 cf args.toList e=some (f,az))
  (h2:∀ x,e.putO o.dst (.pl (.one (.v (.sc (v x)))))=some (e2 x)) (h:∀ x,Tl H (k x) r (quV X ops l Post (e2 x))):Tl H (t1.bind k) r (quV X ops (o :: l) Post e):=bx fun x q a b=>quV_call (hw.w x q) hg ho (hp x) (h1 a) (h2 x) (h x a b)
end
def lkd:Option Nat→List (Nat×Sl)→Option Sl
 | some d,sl=>lk d sl
 | none,_=>none
def dlN:Option Nat→Nat→Bool
 | some d,N=>decide (d < N)
 | none,_=>true
def zT2 (ops:Array Oper):Option (Nat×Bool)→List Nat
 | some (j,_)=>dl (kE ops j)
 | none=>[]
def xH (ops:Array Oper) (o:Oper):List Nat:=tmps o.op.operands.toList++zT2 ops o.guard
theorem opnd_eq {ops:Array Oper} {i:Nat} {o:Oper} (h:ops[i]? = some o):xH ops o=opnd ops i:=by
 unfold opnd
 rw [h]
 simp only [xH]
 cases q:o.guard <;> rfl
def rmN (os:List Nat):List Nat→List Nat
 | []=>[]
 | x :: r=>if os.contains x=true then rmN os r else x :: rmN os r
theorem rmN_mem {os:List Nat} {x:Nat}:∀ {l:List Nat},x ∈ l→x ∈ os∨x ∈ rmN os l
 | [],h=>by cases h
 | y :: r,h=>by
  simp only [rmN]
  rcases List.mem_cons.1 h with rfl | h
  ·split
   ·rename_i q; exact .inl (by simpa using q)
   ·exact .inr (by simp)
  ·rcases rmN_mem h with q | q
   ·exact .inl q
   ·split
    ·exact .inr q
    ·exact .inr (by simp [q])
theorem rmN_sub {os:List Nat} {x:Nat}:∀ {l:List Nat},x ∈ rmN os l→x ∈ l∧x ∉ os
 | [],h=>by cases h
 | y :: r,h=>by
  simp only [rmN] at h
  split at h
  ·obtain ⟨h1,h2⟩:=rmN_sub h
   exact ⟨by simp [h1],h2⟩
  ·rename_i q
   rcases List.mem_cons.1 h with rfl | h
   ·exact ⟨by simp,by simpa using q⟩
   ·obtain ⟨h1,h2⟩:=rmN_sub h
    exact ⟨by simp [h1],h2⟩
theorem qJ9 {os:List Nat}:∀ {l:List Nat},l.Nodup→(rmN os l).Nodup
 | [],_=>List.nodup_nil
 | y :: r,h=>by
  have h:=List.nodup_cons.1 h
  simp only [rmN]
  split
  ·exact qJ9 h.2
  ·exact List.nodup_cons.2 ⟨fun z=>h.1 (rmN_sub z).1,qJ9 h.2⟩
def zE4:List (Nat×V)→List (Nat×Sl)→List (Nat×Sl)
 | [],sl=>sl
 | b :: bl,sl=>qG (C.lend (b :: bl)) sl
theorem qK4:∀ (sl:List (Nat×Sl)),qG (C.lend []) sl=sl
 | []=>rfl
 | (t,s) :: r=>by simp only [qG,Sl.lend_nil,qK4 r]
theorem lendS_eq (bl:List (Nat×V)) (sl:List (Nat×Sl)):zE4 bl sl=qG (C.lend bl) sl:=by
 cases bl with
 | nil=>exact (qK4 sl).symm
 | cons b bl=>rfl
def zL1 (os fk rd:List Nat) (d:Nat) (x:Sl) (e:Env):Option (Env×List Nat×List Nat):=if ((rd.all fun i=>fk.contains i) && decide (d < e.N))=true then some (e.put d x,os,rd) else none
def zJ6 (ev:Env→Option Env) (o:Oper) (os:List Nat) (e F:Env):Option (Env×List Nat×List Nat):=(ev F).bind fun F'=>(lkd o.dst F'.sl).bind fun x=>o.dst.bind fun d=>zL1 os (zE F.ob) x.ids d x e
def zK7 (ev:Env→Option Env) (o:Oper) (ks os:List Nat) (e:Env):Option (Env×List Nat×List Nat):=zJ6 ev o os e {e with sl:=fpS e.sl ks,ob:=fpS e.ob os}
def zQ8 (ev:Env→Option Env) (o:Oper) (ks:List Nat) (e:Env):Option (Env×List Nat×List Nat):=zK7 ev o ks (dd (uS e.sl ks)) e
def zJ5 (dst:Option Nat) (bl:List (Nat×V)) (os kp sw fk:List Nat) (e F':Env):Option (List Nat×(List Nat×List (Nat×List Nat))×Env):=
 if (okW e F' os sw fk && dlN dst e.N && (bl.isEmpty || okN F' sw))=true then some (rmN os fk,(uS F'.sl (dl dst),klOf F'.sl kp),{e with nx:=F'.nx,sl:=fpS F'.sl sw++rmK sw e.sl,ob:=F'.ob++rmK os e.ob}) else none
def deadS (fk:List Nat):List (Nat×Sl)→List (Nat×Sl)
 | []=>[]
 | (t,s) :: r=>(t,if (s.ids.all fun i=>fk.contains i)=true then s else .pl (.one .dead)) :: deadS fk r
theorem lk_deadS {fk:List Nat} {t:Nat}:∀ {sl:List (Nat×Sl)},lk t (deadS fk sl)=(lk t sl).map fun s=>if (s.ids.all fun i=>fk.contains i)=true then s else .pl (.one .dead)
 | []=>rfl
 | (k,s) :: r=>by
  simp only [deadS]
  rw [zL,zL]
  split
  ·rfl
  ·exact lk_deadS
theorem St.deadS {gG:GG} {c:Ctx gG} {e:Env} {a:Act} {w:World} (h:St c e a w) (fk:List Nat):St c {e with sl:=TV.deadS fk e.sl} a w:=by
 obtain ⟨D,hs,S,h⟩:=h
 exact ⟨D,hs,S,{h with
  sl:=fun t s q=>by
   have q:lk t (TV.deadS fk e.sl)=some s:=q
   rw [lk_deadS,Option.map_eq_some_iff] at q
   obtain ⟨s0,q1,rfl⟩:=q
   split
   ·exact h.sl t s0 q1
   ·trivial}⟩
def zK2 (dst:Option Nat) (bl:List (Nat×V)) (os kp fk:List Nat) (e F':Env):Option (List Nat×(List Nat×List (Nat×List Nat))×Env):=zJ5 dst bl os kp (dl dst++kp) fk e {F' with sl:=deadS fk F'.sl}
def zB3 (dst:Option Nat) (bl:List (Nat×V)) (os kp:List Nat) (e F':Env):Option (List Nat×(List Nat×List (Nat×List Nat))×Env):=zK2 dst bl os kp (zE F'.ob) e F'
def zL0 (T:Nat→Option TyI) (o:Oper) (ks os kp:List Nat) (e:Env):Option (List Nat×List Nat×List Nat×(List Nat×List (Nat×List Nat))×Env):=
 (evOp T o {e with sl:=fpS e.sl (ks++kp),ob:=fpS e.ob os}).bind fun F'=>(zB3 o.dst [] os kp e F').map fun q=>(os,kp,q)
def zK6 (T:Nat→Option TyI) (o:Oper) (ks os:List Nat) (e:Env):Option (List Nat×List Nat×List Nat×(List Nat×List (Nat×List Nat))×Env):=zL0 T o ks os (kpOf os e.sl) e
def zT5 (T:Nat→Option TyI) (o:Oper) (ks:List Nat) (e:Env):Option (List Nat×List Nat×List Nat×(List Nat×List (Nat×List Nat))×Env):=zK6 T o ks (zE (fpS e.ob (dd (uS e.sl ks)))) e
def exOf (ml:List Nat) (bo:Bool):Nat→List C→List Nat
 | _,[]=>[]
 | k,c :: cs=>(if (ml.contains k || !bo)=true then c.ids else match c with | .ref _ []=>[] | c=>c.ids)++exOf ml bo (k+1) cs
def boOf (ml:List Nat) (bo:Bool):Nat→List C→List Nat
 | _,[]=>[]
 | k,c :: cs=>(if (ml.contains k || !bo)=true then [] else match c with | .ref i []=>[i] | _=>[])++boOf ml bo (k+1) cs
def zG1 (kp os bs:List Nat) (bl:List (Nat×V)) (ks:List Nat) (e:Env):Option (Env×List (Nat×V)×List Nat×List Nat×List Nat):=
 if (bl.all fun q=>q.2.alive)=true then some ({e with sl:=zE4 bl (fpS e.sl (ks++kp)),ob:=fpS e.ob os},bl,bs,os,kp) else none
def zG7 (os bs ks:List Nat) (e:Env):Option (Env×List (Nat×V)×List Nat×List Nat×List Nat):=zG1 (kpOf os e.sl) os bs (fpS e.ob bs) ks e
def zD5 (os bs ks:List Nat) (e:Env):Option (Env×List (Nat×V)×List Nat×List Nat×List Nat):=zG7 (zE (fpS e.ob (dd os))) (rmN (dd os) (dd bs)) ks e
def jQ (ml:List Nat) (bo:Bool) (az:List Operand) (ks:List Nat) (e:Env):Option (Env×List (Nat×V)×List Nat×List Nat×List Nat):=(e.args az).bind fun gs=>zD5 (exOf ml bo 0 (qF gs)) (boOf ml bo 0 (qF gs)) ks e
section
variable {X:Cfg} {Post:Exit→Env→Prop} {e0 e e' e1 F F':Env} {ops:Array Oper} {o:Oper} {l:List Oper} {i j d f:Nat} {ml ix os kp bs nw rd ks:List Nat} {rj:List Nat×List (Nat×List Nat)} {acc:List Dat} {bl:List (Nat×V)} {want b:Bool} {Q G0:Prop} {az:List (Ag V)} {cells:List C} {cf:Operand} {args:Array Operand} {ts:Array TypeId}
def Cy (X:Cfg) (ops:Array Oper) (e0:Env) (G:Prop) (ix:List Nat) (acc:List Dat) (e:Env):Prop:=Cx X ops e0 G acc e
theorem hd_y (hi:ops[i]? = some o):HdO (Cy X ops e0 G0 (i :: ix) acc e) o:=trivial
theorem rc (ix:List Nat) {id:Nat} (h:Tl H t r (Cy X l.toArray e (wpV X (.region id l.toArray true) Post e) ix [] e)) (h0:okE e=true:=by kernel_rfl):Tl H t r (wpV X (.region id l.toArray true) Post e):=fun a b=>h a b [] (AOk.start h0)
theorem ce {id:Nat} (hc:chkR l.toArray (e0.sl.map fun q=>(q.1,q.2.ids)) (zE e0.ob) acc=true) (h:Tl H t r Q) (hq:Q→Post .normal e):Tl H t r (Cy X l.toArray e0 (wpV X (.region id l.toArray true) Post e0) [] acc e):=fun a b st hst =>
 cx_main hc hst.v hst.d hst.N hst.np hst.x0 hst.nx (fun t x ht=>⟨(hst.sl t x ht).1,(hst.sl t x ht).2.1⟩) hst.ob hst.nd (hq (h a b))
theorem gOn.part {ks os:List Nat} (h:gOn ops o e) (hk:∀ j w d,o.guard=some (j,w)→kE ops j=some d→d ∈ ks) {f:List (Nat×Sl)→List (Nat×Sl)} (hf:∀ d v,lk d e.sl=some (.pl (.one (.v (.sc v))))→d ∈ ks→lk d (f e.sl)=some (.pl (.one (.v (.sc v))))):gOn ops o {e with sl:=f e.sl,ob:=fpS e.ob os}:=by
 rcases h with h | ⟨j,w,d,h1,h2,h3⟩
 ·exact .inl h
 ·refine .inr ⟨j,w,d,h1,h2,?_⟩
  unfold Env.sc Env.val at h3 ⊢
  have hv:lk d e.sl=some (.pl (.one (.v (.sc (.bool w))))):=by
   revert h3
   simp only
   cases lk d e.sl with
   | none=>intro q; cases q
   | some s =>
    intro q
    split at q <;> first | (rename_i q2; injection q2 with q2; injection q with q; subst q2; subst q; rfl) | cases q
  simp only [hf d _ hv (hk j w d h1 h2)]
theorem qG2 {j d:Nat} {w:Bool} (h1:o.guard=some (j,w)) (h2:kE ops j=some d):d ∈ xH ops o:=by
 unfold xH zT2
 rw [h1]
 simp only [h2,dl,List.mem_append,List.mem_singleton,or_true]
def pu8 (o:Oper):Bool:=o.guard.isNone && match o.op with
 | .move _ | .pick _ _ _ | .binOp _ _ _ _ _ | .unOp _ _ _ | .extract _ _ | .nilCheck _ | .fieldAddr _ _ _ | .indexAddr _ _ _ | .index _ _ _ | .field _ _ _ | .convert _ _ _=>true
 | .call {callee:=.builtin _,..}=>true
 | _=>false
def DidPu (P:Program) (e:Env) (o:Oper) (a:Act) (w:World) (D:CS) (hs:Nat→Value) (e':Env) (p:Bool):Prop:=
 ∃ u s,(∀ w',Frm w w' emp→(execOp a.eval o).run P w'=.ok (.value u) w')∧e.putO o.dst s=some e'∧SlRep w D hs e.nx e.ob s u∧(p=true→∀ w',(execOp a.eval o).run P w'=.ok (.value u) w')
theorem DidP.pu {P:Program} {o:Oper} {a:Act} {w:World} {e e':Env} {D:CS} {hs:Nat→Value} {p:Bool} (h:DidP P e o a w D hs e'):DidPu P e o a w D hs e' p:=by
 obtain ⟨u,s,h1,h2,h3⟩:=h
 exact ⟨u,s,fun w' _=>h1 w',h2,h3,fun _=>h1⟩
theorem DidR.pu {P:Program} {o:Oper} {a:Act} {w:World} {e e':Env} {D:CS} {hs:Nat→Value} (h:DidR P e o a w D hs e'):DidPu P e o a w D hs e' false:=by
 obtain ⟨u,s,h1,h2,h3⟩:=h
 exact ⟨u,s,h1,h2,h3,fun q=>by cases q⟩
theorem pu8_ok {gG:GG} {c:Ctx gG} {a:Act} {w:World} {D:CS} {hs:Nat→Value} {S:CS} (h:StD c F a w D hs S) (hp:pu8 o=true) (he:evR X.T o F=some F'):DidP X.P F o a w D hs F':=by
 unfold pu8 at hp
 simp only [Bool.and_eq_true] at hp
 obtain ⟨_,hp⟩:=hp
 unfold evR at he
 split at he
 ·exact qC9 h (.inl ‹_›) he
 ·exact qC9 h (.inr ‹_›) he
 ·exact qK3 h ‹_› he
 ·exact qM4 h ‹_› he
 ·exact evUn_pure h ‹_› he
 ·exact qE5 h ‹_› he
 ·exact qL7 h ‹_› he
 ·exact zZ2 h ‹_› he
 ·exact zY7 h ‹_› he
 ·exact qJ2 h ‹_› he
 ·exact qI7 h ‹_› he
 ·rename_i ho; rw [ho] at hp; cases hp
 ·exact evConv_pure h ‹_› he
 ·rename_i ho; rw [ho] at hp; cases hp
 ·rename_i b az ts ho
  split at he
  ·rename_i x t h1 h2
   rw [show az = #[x] from Array.ext' h1,show ts = #[t] from Array.ext' h2] at ho
   exact qK6 h ho he
  ·rename_i x y h1
   rw [show az = #[x,y] from Array.ext' h1] at ho
   exact qL5 h ho he
  ·rename_i x y h1
   rw [show az = #[x,y] from Array.ext' h1] at ho
   exact qM0 h ho he
  ·cases he
 ·cases he
theorem cQ0 {p:Bool} {ev:Env→Option Env} (hev:∀ (k:Ctx X.G) (a:Act) (w:World) (D:CS) (hs:Nat→Value) (S:CS) (F F':Env),StD k F a w D hs S→ev F=some F'→DidPu X.P F o a w D hs F' p) (hi:ops[i]? = some o) (hg:H→gOn ops o e) (hs:H→zQ8 ev o (xH ops o) e=some (e',os,rd))
  (h:Tl H t r (Cy X ops e0 G0 ix (⟨i,false,p,[],os,[],[],(rd,[])⟩ :: acc) e')):Tl H t r (Cy X ops e0 G0 (i :: ix) acc e):=fun a b st hst=>by
 have hs:=hs a
 unfold zQ8 zK7 zJ6 at hs
 obtain ⟨F',g1,hs⟩:=zbi hs
 obtain ⟨x,g2,hs⟩:=zbi hs
 obtain ⟨d,g3,hs⟩:=zbi hs
 rw [g3] at g2
 have g2:lk d F'.sl=some x:=g2
 unfold zL1 at hs
 split at hs
 case isFalse=>cases hs
 rename_i hc
 simp only [Bool.and_eq_true,decide_eq_true_eq,List.all_eq_true,List.contains_iff_mem] at hc
 injection hs with hs
 simp only [Prod.mk.injEq] at hs
 obtain ⟨rfl,rfl,rfl⟩:=hs
 refine h a b _ (hst.q hi g3 hc.2 (opnd_eq hi) (zU7 _) rfl hc.1 rfl (fun k ac w D hs S hd=>?_))
 obtain ⟨u,s,q1,q2,q3,q4⟩:=hev k ac w D hs S _ F' hd g1
 have hs':s=x:=by
  rw [g3] at q2
  simp only [Env.putO] at q2
  split at q2
  ·injection q2 with q2
   subst q2
   simp only [Env.put,zL,if_true] at g2
   exact zso g2
  ·cases q2
 subst hs'
 have hgF:gOn ops o {e with sl:=fpS e.sl (xH ops o),ob:=fpS e.ob (dd (uS e.sl (xH ops o)))}:=(hg a).part (f:=fun sl=>fpS sl (xH ops o)) (fun j w d h1 h2=>qG2 h1 h2) (fun d v hd hk=>by rw [uK,if_pos hk]; exact hd)
 refine ⟨u,q3,fun Q K hK=>?_,fun hp=>⟨o,hi,.inl ⟨hgF.wanted hd,q4 hp⟩⟩⟩
 unfold wpOp
 simp only [hi]
 rw [if_pos (hgF.wanted hd)]
 refine .inl ?_
 unfold Oper.wp
 rw [q1 w (Frm.refl w emp)]
 show K (ac.put o.dst u) w
 rw [g3]
 exact hK
theorem cQ {p:Bool} (hi:ops[i]? = some o) (hp:pu8 o=p) (hg:H→gOn ops o e) (hs:H→zQ8 (evR X.T o) o (xH ops o) e=some (e',os,rd)) (h:Tl H t r (Cy X ops e0 G0 ix (⟨i,false,p,[],os,[],[],(rd,[])⟩ :: acc) e')):Tl H t r (Cy X ops e0 G0 (i :: ix) acc e):=
 cQ0 (fun k a w D hs S F F' hd he=>by
  cases p with
  | true=>exact (pu8_ok hd hp he).pu
  | false=>exact (evR_ok hd he).pu) hi hg hs h
theorem cF (hi:ops[i]? = some o) (hd:o.dst=some d) (hg:o.guard=some (j,want)) (hj:kE ops j=some f) (hdN:d < e.N) (hb:H→e.sc (.tmp f)=some (.bool !want)∨e.val (.tmp f)=some (.tup [])) (h:Tl H t r (Cy X ops e0 G0 ix (⟨i,false,false,[],[],[],[],([],[])⟩ :: acc) (e.put d (.tup [])))):Tl H t r (Cy X ops e0 G0 (i :: ix) acc e):=fun a b st hst=>by
 refine h a b _ (hst.q hi hd hdN (opnd_eq hi) List.nodup_nil rfl (fun i hi=>by cases hi) rfl (fun k ac w D hs S hst'=>⟨undef,⟨[],rfl,rfl⟩,fun Q K hK=>?_,fun q=>by cases q⟩))
 have hk:f ∈ xH ops o:=qG2 hg hj
 have hlk:lk f (fpS e.sl (xH ops o))=lk f e.sl:=by rw [uK,if_pos hk]
 have hoff:gOff ops o {e with sl:=fpS e.sl (xH ops o),ob:=fpS e.ob []}:=⟨j,want,f,hg,hj,(hb a).imp (fun q=>by unfold Env.sc Env.val at q ⊢; simp only [hlk]; exact q) (fun q=>by unfold Env.val at q ⊢; simp only [hlk]; exact q)⟩
 unfold wpOp
 simp only [hi]
 rw [hoff.unwanted hst']
 simp only [Bool.false_eq_true,if_false,hd]
 exact hK
theorem AOk.w' {st:List Stp} (h:AOk X ops e0 st acc e) (hi:ops[i]? = some o) (hos:os.Nodup) (hbs:bs.Nodup) (hbl:bl=fpS e.ob bs) (hbo:∀ j ∈ bs,j ∉ os) (hal:(bl.all fun q=>q.2.alive)=true) (hpr:∀ j ∈ os,j ∈ zE (fpS e.ob os))
  (hF:F={e with sl:=zE4 bl (fpS e.sl (xH ops o++kp)),ob:=fpS e.ob os}) (hW:opsV X ops [o] (fun x e'=>x=.normal∧e'=F') F) (hE:zB3 o.dst bl os kp e F'=some (nw,rj,e')) :
  AOk X ops e0 (⟨i,true,false,o.dst,F,{F' with sl:=deadS (zE F'.ob) F'.sl},bl,xH ops o,kp⟩ :: st) (⟨i,true,false,kp,os,nw,bs,rj⟩ :: acc) e':=by
 unfold zB3 zK2 zJ5 at hE
 split at hE
 case isFalse=>cases hE
 rename_i hc
 simp only [Bool.and_eq_true,Bool.or_eq_true,List.isEmpty_iff] at hc
 injection hE with hE
 simp only [Prod.mk.injEq] at hE
 obtain ⟨rfl,rfl,rfl⟩:=hE
 rw [lendS_eq] at hF
 have hW':opsV X ops [o] (fun x e'=>x=.normal∧e'={F' with sl:=deadS (zE F'.ob) F'.sl}) F:=fun k a w hs=>by
  refine qK8 (l2:=[]) (fun x a w q=>?_) [o] _ _ (hW k a w hs)
  obtain ⟨e1,⟨q1,q2⟩,q3⟩:=q
  subst q2
  exact ⟨q1,wpList_nil ⟨_,⟨rfl,rfl⟩,q3.deadS _⟩⟩
 exact h.w (F':={F' with sl:=deadS (zE F'.ob) F'.sl}) hi (opnd_eq hi) hos hbs hbl hbo hal hF hW' hc.1.1 hc.2 (fun d q=>by have:=hc.1.2; rw [q] at this; exact of_decide_eq_true this) (fun j hj=>rmN_mem hj) (fun j hj hj'=>hpr j hj') rfl
theorem qG5 {e:Env} {os:List Nat}:∀ j ∈ zE (fpS e.ob os),j ∈ zE (fpS e.ob (zE (fpS e.ob os))):=fun j hj=>by
 obtain ⟨v,hv⟩:=qH5 hj
 refine zM5 (v:=v) ?_
 rw [uK,if_pos hj]
 rw [uK] at hv
 split at hv
 ·exact hv
 ·cases hv
theorem cW (hi:ops[i]? = some o) (hg:H→gOn ops o e) (hs:H→zT5 X.T o (xH ops o) e=some (os,kp,nw,rj,e')) (h:Tl H t r (Cy X ops e0 G0 ix (⟨i,true,false,kp,os,nw,[],rj⟩ :: acc) e')):Tl H t r (Cy X ops e0 G0 (i :: ix) acc e):=fun a b st hst=>by
 have hs:=hs a
 unfold zT5 zK6 zL0 at hs
 obtain ⟨F',g1,hs⟩:=zbi hs
 obtain ⟨q,g2,hs⟩:=Option.map_eq_some_iff.1 hs
 obtain ⟨q1,q2,q3⟩:=q
 simp only [Prod.mk.injEq] at hs
 obtain ⟨rfl,rfl,rfl,rfl,rfl⟩:=hs
 refine h a b _ (hst.w' (bl:=[]) (F':=F') hi (zP9 (zU7 _)) List.nodup_nil rfl (fun j hj=>by cases hj) rfl qG5 rfl ?_ g2)
 refine gOn.opsV ((hg a).part (f:=fun sl=>zE4 [] (fpS sl (xH ops o++kpOf (zE (fpS e.ob (dd (uS e.sl (xH ops o))))) e.sl))) (fun j w d h1 h2=>qG2 h1 h2) (fun d v hd hk=>by show lk d (fpS _ _)=_; rw [uK,if_pos (List.mem_append.2 (.inl hk))]; exact hd)) ?_
 exact qF5 rfl (evOp_ok (X:=X) (o:={o with guard:=none}) g1) (qE4 ⟨rfl,rfl⟩)
theorem lend_sc {bl:List (Nat×V)} {sl:List (Nat×Sl)} {d:Nat} {v:Value} (h:lk d sl=some (.pl (.one (.v (.sc v))))):lk d (zE4 bl sl)=some (.pl (.one (.v (.sc v)))):=by
 rw [lendS_eq,qA1,h]
 rfl
theorem cA {x y:Operand} (hi:ops[i]? = some o) (ho:o.op=.call {callee:=.builtin .append,args:=#[x,y],argTypes:=ts}) (hg:H→gOn ops o e) (hF:H→zD5 (uS e.sl (tmps [x])) (uS e.sl (tmps [y])) (xH ops o) e=some (F,bl,bs,os,kp)) (hb:bs.isEmpty=false)
  (h1:H→evOp X.T o F=some F') (hE:H→zB3 o.dst bl os kp e F'=some (nw,rj,e')) (h:Tl H t r (Cy X ops e0 G0 ix (⟨i,true,false,kp,os,nw,bs,rj⟩ :: acc) e')):Tl H t r (Cy X ops e0 G0 (i :: ix) acc e):=fun a b st hst=>by
 have hF:=hF a
 unfold zD5 zG7 zG1 at hF
 split at hF
 case isFalse=>cases hF
 rename_i hal
 injection hF with hF
 simp only [Prod.mk.injEq] at hF
 obtain ⟨hFe,rfl,rfl,rfl,rfl⟩:=hF
 refine h a b _ (hst.w' (F':=F') hi (zP9 (zU7 _)) (qJ9 (zU7 _)) rfl (fun j hj z=>(rmN_sub hj).2 (zH3 z).1) hal qG5 hFe.symm ?_ (hE a))
 have hgF:gOn ops o F:=by
  rw [← hFe]
  exact (hg a).part (f:=fun sl=>zE4 _ (fpS sl _)) (fun j w d h1 h2=>qG2 h1 h2) (fun d v hd hk=>lend_sc (by rw [uK,if_pos (List.mem_append.2 (.inl hk))]; exact hd))
 refine hgF.opsV ?_
 exact qF5 rfl (evOp_ok (X:=X) (o:={o with guard:=none}) (h1 a)) (qE4 ⟨rfl,rfl⟩)
theorem cC0 {rs:List (Ag V)} {fin:List (Nat×V)} (D:Bool) (hf:Fn X f az rs fin) (hi:ops[i]? = some o) (ho:o.op=.call {callee:=.value cf,args:=args,argTypes:=ts}) (hg:gOn ops o e) (hF:jQ ml (!D) args.toList (xH ops o) e=some (F,bl,bs,os,kp))
  (h1:(if D=true then zV7 (fun _=>ml) cf args.toList F else zD7 (fun _=>ml) cf args.toList F)=some (f,az,cells,e1)) (hn:D=true∨zT (zG rs)=true) (hfin:fin.all (fun q=>ml.contains q.1 && (D || q.2.noBor))=true) (h2:zB2 o rs fin cells e1=some F') (hE:zB3 o.dst bl os kp e F'=some (nw,rj,e'))
  (h:Cy X ops e0 G0 ix (⟨i,true,false,kp,os,nw,bs,rj⟩ :: acc) e'):Cy X ops e0 G0 (i :: ix) acc e:=fun st hst=>by
 unfold jQ zD5 zG7 zG1 at hF
 obtain ⟨gs,_,hF⟩:=zbi hF
 split at hF
 case isFalse=>cases hF
 rename_i hal
 injection hF with hF
 simp only [Prod.mk.injEq] at hF
 obtain ⟨hFe,rfl,rfl,rfl,rfl⟩:=hF
 refine h _ (hst.w' (F':=F') hi (zP9 (zU7 _)) (qJ9 (zU7 _)) rfl (fun j hj z=>(rmN_sub hj).2 (zH3 z).1) hal qG5 hFe.symm ?_ hE)
 have hgF:gOn ops o F:=by
  rw [← hFe]
  exact hg.part (f:=fun sl=>zE4 _ (fpS sl _)) (fun j w d h1 h2=>qG2 h1 h2) (fun d v hd hk=>lend_sc (by rw [uK,if_pos (List.mem_append.2 (.inl hk))]; exact hd))
 refine hgF.opsV ?_
 cases D with
 | true=>exact opsV_callD (fun _=>ml) hf rfl ho h1 (by simpa using hfin) h2 (qE4 ⟨rfl,rfl⟩)
 | false=>exact opsV_call (fun _=>ml) hf rfl ho h1 (hn.resolve_left (by simp)) (by simpa using hfin) h2 (qE4 ⟨rfl,rfl⟩)
variable {π:Type} {t1:Option π} {k:π→Option ρ} {rs:π→List (Ag V)} {fin:π→List (Nat×V)} {F2 e2:π→Env} {nw2 rd2:List Nat}
theorem cC [hw:Wlk X t1 f ml az rs fin] (hi:ops[i]? = some o) (ho:o.op=.call {callee:=.value cf,args:=args,argTypes:=ts}) (hg:H→gOn ops o e) (hF:H→jQ ml true args.toList (xH ops o) e=some (F,bl,bs,os,kp))
  (h1:H→zD7 (fun _=>ml) cf args.toList F=some (f,az,cells,e1)) (hn:∀ x,H→zT (zG (rs x))=true) (hfin:∀ x,H→(fin x).all (fun q=>ml.contains q.1 && q.2.noBor)=true) (h2:∀ x,H→zB2 o (rs x) (fin x) cells e1=some (F2 x)) (hE:∀ x,H→zB3 o.dst bl os kp e (F2 x)=some (nw,rj,e2 x))
  (h:∀ x,Tl H (k x) r (Cy X ops e0 G0 ix (⟨i,true,false,kp,os,nw,bs,rj⟩ :: acc) (e2 x))):Tl H (t1.bind k) r (Cy X ops e0 G0 (i :: ix) acc e):=bx fun x v a b =>
 cC0 false (hw.w x v) hi ho (hg a) (hF a) (h1 a) (.inr (hn x a)) (hfin x a) (h2 x a) (hE x a) (h x a b)
theorem cD [hw:Wlk X t1 f ml az rs fin] (hi:ops[i]? = some o) (ho:o.op=.call {callee:=.value cf,args:=args,argTypes:=ts}) (hg:H→gOn ops o e) (hF:H→jQ ml false args.toList (xH ops o) e=some (F,bl,bs,os,kp))
  (h1:H→zV7 (fun _=>ml) cf args.toList F=some (f,az,cells,e1)) (hfin:∀ x,H→(fin x).all (fun q=>ml.contains q.1)=true) (h2:∀ x,H→zB2 o (rs x) (fin x) cells e1=some (F2 x)) (hE:∀ x,H→zB3 o.dst bl os kp e (F2 x)=some (nw,rj,e2 x))
  (h:∀ x,Tl H (k x) r (Cy X ops e0 G0 ix (⟨i,true,false,kp,os,nw,bs,rj⟩ :: acc) (e2 x))):Tl H (t1.bind k) r (Cy X ops e0 G0 (i :: ix) acc e):=bx fun x v a b =>
 cC0 true (hw.w x v) hi ho (hg a) (hF a) (h1 a) (.inl rfl) (by simpa using hfin x a) (h2 x a) (hE x a) (h x a b)
theorem AOk.same {st:List Stp} (h:AOk X ops e0 st acc e) {s:Sl} (hd:lk d e.sl=some s):AOk X ops e0 st acc (e.put d s) where
 v:=h.v
 d:=h.d
 N:=h.N
 np:=h.np
 x0:=h.x0
 npx:=h.npx
 nx:=h.nx
 sl:=fun t x ht=>by
  have ht:lk t ((d,s) :: e.sl)=some x:=ht
  rw [zL] at ht
  split at ht
  ·rename_i q
   rw [q] at *
   exact h.sl d x (hd.trans ht)
  ·exact h.sl t x ht
 ob:=h.ob
 nd:=h.nd
theorem cs (h1:b=true→Tl H t r (Cy X ops e0 G0 (i :: ix) acc (e.put d (.pl (.one (.v (.sc (.bool true)))))))) (h2:b=false→Tl H t r (Cy X ops e0 G0 (i :: ix) acc (e.put d (.pl (.one (.v (.sc (.bool false))))))))
  (hi:ops[i]? = some o:=by (simp only [List.getElem?_toArray,List.getElem?_cons_zero,List.getElem?_cons_succ] <;> rfl)) (hg:o.guard=some (j,want):=by rfl) (hj:kE ops j=some d:=by rfl) (hb:lk d e.sl=some (.pl (.one (.v (.sc (.bool b))))):=by (simp only [lk,reduceIte,Nat.reduceEqDiff]; rfl)):Tl H t r (Cy X ops e0 G0 (i :: ix) acc e):=fun a q st hst=>by
 cases b with
 | true=>exact h1 rfl a q st (hst.same hb)
 | false=>exact h2 rfl a q st (hst.same hb)
end
theorem cN {X:Cfg} {Post:Exit→Env→Prop} {e e1:Env} {ops:Array Oper} {o:Oper} {l:List Oper} {f:Nat} {az:List (Ag V)} {cells:List C} {cf:Operand} {args:Array Operand} {ts:Array TypeId} {π:Type} {t1:Option π} {k:π→Option ρ} {rs:π→List (Ag V)} {fin:π→List (Nat×V)} {e2:π→Env} {ml:List Nat} [hw:Wlk X t1 f ml az rs fin] (nl:List (Nat×Bool×Nat)) (h:∀ x,Tl H (k x) r (opsV X ops l Post (e2 x))) (hg:o.guard=none:=by rfl) (ho:o.op=.call {callee:=.value cf,args:=args,argTypes:=ts}:=by rfl)
  (h1:H→evCallN nl (fun _=>ml) cf args.toList e=some (f,az,cells,e1):=by
   intro hH
   simp only [hH,evCallN,qB9,renil,zD7,Env.callee,Env.args,qF,Env.own1,Env.carve,Env.lend,Env.fill,zB1,Env.deadAt,Env.deads,Env.node,Env.rows,Env.val,Env.sc,Env.cl,lk,zU,zR,qN,qJ,plain,Env.putO,Env.put,V.get,V.set,V.rowAt,V.setRow,Option.getD_some,List.set_cons_zero,List.set_cons_succ,qH,List.set_set,V.alive,V.bor,qB,rK,rB,rS,rL,List.getElem?_map,List.append_nil,↓reduceIte,eq_self,Option.isSome_some,Option.isSome_none,Option.bind_some,Option.bind_none,Option.map_some,Option.map_none,Bool.false_eq_true,Nat.reduceLT,Nat.reduceLeDiff,Nat.reduceEqDiff,Nat.reduceAdd,Nat.reduceMul,Nat.reduceSub,Nat.reduceBEq,List.map_cons,List.map_nil,List.length_cons,List.length_nil,List.cons_append,List.nil_append,List.headD_cons,List.tail_cons,List.contains_nil,List.contains_cons,List.take_zero,List.take_succ_cons,List.drop_zero,List.drop_succ_cons,List.getElem?_cons_zero,List.getElem?_cons_succ,Bool.and_true,Bool.true_and,Bool.or_false,Bool.or_true,and_self,and_true,true_and,← List.map_append,← List.map_take,← List.map_drop] <;> rfl)
  (hn:∀ x,H→zT (zG (rs x))=true:=by
   intro x hH
   simp only [hH,zG,zT,V.noBor,zP,List.cons_append,List.nil_append,Bool.and_true,Bool.true_and])
  (hfin:∀ x,H→(fin x).all (fun q=>ml.contains q.1 && q.2.noBor)=true:=by
   intro x hH
   simp only [hH,List.all_nil,List.all_cons,zT,V.noBor,zP,Bool.and_true,Bool.true_and,Bool.or_false,Bool.or_true,List.contains_cons,List.contains_nil,Nat.reduceBEq,BEq.rfl]) (h2:∀ x,H→zB2 o (rs x) (fin x) cells e1=some (e2 x):=by
   intro x hH
   simp only [hH,zB2,retS,entA,entC,zS7,jP,V.own,zG,Env.back,Env.graft,qG,Sl.map,Ag.map,C.killN,Env.node,Env.val,Env.sc,Env.cl,lk,zU,zR,qN,qJ,plain,Env.putO,Env.put,V.get,V.set,V.rowAt,V.setRow,Option.getD_some,List.set_cons_zero,List.set_cons_succ,qH,List.set_set,V.alive,rK,rB,rS,rL,List.getElem?_map,List.append_nil,↓reduceIte,eq_self,Option.isSome_some,Option.isSome_none,Option.bind_some,Option.bind_none,Option.map_some,Option.map_none,Bool.false_eq_true,Nat.reduceLT,Nat.reduceLeDiff,Nat.reduceEqDiff,Nat.reduceAdd,Nat.reduceMul,Nat.reduceSub,List.map_cons,List.map_nil,List.length_cons,List.length_nil,List.cons_append,List.nil_append,List.take_zero,List.take_succ_cons,List.drop_zero,List.drop_succ_cons,List.getElem?_cons_zero,List.getElem?_cons_succ,List.set_cons_zero,List.set_cons_succ,Bool.and_true,Bool.true_and,and_self,and_true,true_and] <;> rfl):Tl H (t1.bind k) r (opsV X ops (o :: l) Post e):=bx fun x v a b=>opsV_callN (fun _=>ml) (hw.w x v) hg ho (h1 a) (hn x a) (hfin x a) (h2 x a) (h x a b)
theorem qTW {X:Cfg} {Post:Exit→Env→Prop} {e:Env} {ops:Array Oper} {o:Oper} {l:List Oper} {f:Nat} {az:List (Ag V)} {cf:Operand} {args:Array Operand} {ts:Array TypeId} {π:Type} {t1:Option π} {k:π→Option ρ} {e2:π→Env} {rs:π→List (Ag V)} (vs:π→List Value) (hf:∀ x,t1=some x→Fn X f az (rs x) []) (h:∀ x,Tl H (k x) r (quV X ops l Post (e2 x))) (hg:o.guard=none:=by rfl) (ho:o.op=.call {callee:=.value cf,args:=args,argTypes:=ts}:=by rfl) (hrs:∀ x,rs x=(vs x).map fun v=>.one (.sc v):=by (intro x; rfl)) (hv:∀ x,2≤(vs x).length:=by (intro x; simp)) (hp:∀ x,(vs x).all plain=true:=by (intro x; rfl))
  (h1:H→zI2 cf args.toList e=some (f,az):=by
   intro hH
   simp only [hH,zI2,zD7,Env.callee,Env.args,qF,Env.own1,Env.carve,Env.lend,Env.fill,zB1,Env.deadAt,Env.deads,Env.node,Env.rows,Env.val,Env.sc,Env.cl,lk,zU,zR,qN,qJ,plain,Env.putO,Env.put,V.get,V.set,V.rowAt,V.setRow,Option.getD_some,List.set_cons_zero,List.set_cons_succ,qH,List.set_set,V.alive,V.bor,qB,rK,rB,rS,rL,List.getElem?_map,List.append_nil,↓reduceIte,eq_self,Option.isSome_some,Option.isSome_none,Option.bind_some,Option.bind_none,Option.map_some,Option.map_none,Bool.false_eq_true,Nat.reduceLT,Nat.reduceLeDiff,Nat.reduceEqDiff,Nat.reduceAdd,Nat.reduceMul,Nat.reduceSub,Nat.reduceBEq,List.map_cons,List.map_nil,List.length_cons,List.length_nil,List.cons_append,List.nil_append,List.headD_cons,List.tail_cons,List.contains_nil,List.contains_cons,List.take_zero,List.take_succ_cons,List.drop_zero,List.drop_succ_cons,List.getElem?_cons_zero,List.getElem?_cons_succ,Bool.and_true,Bool.true_and,Bool.or_false,Bool.or_true,and_self,and_true,true_and,← List.map_append,← List.map_take,← List.map_drop] <;> rfl) (h2:∀ x,e.putO o.dst (.tup ((vs x).map fun v=>.one (.v (.sc v))))=some (e2 x):=by
   intro x
   simp only [Env.putO,Env.put,reduceIte,Nat.reduceLT]
   rfl):Tl H (t1.bind k) r (quV X ops (o :: l) Post e):=bx fun x q a b=>quV_callT (vs x) (hf x q) (hrs x) (hv x) hg ho (hp x) (h1 a) (h2 x) (h x a b)
theorem qT {X:Cfg} {Post:Exit→Env→Prop} {e:Env} {ops:Array Oper} {o:Oper} {l:List Oper} {f:Nat} {az:List (Ag V)} {cf:Operand} {args:Array Operand} {ts:Array TypeId} {π:Type} {t1:Option π} {k:π→Option ρ} {e2:π→Env} {rs:π→List (Ag V)} {ml:List Nat} [hw:Wlk X t1 f ml az rs (fun _=>[])] (vs:π→List Value) (h:∀ x,Tl H (k x) r (quV X ops l Post (e2 x))) (hg:o.guard=none:=by rfl) (ho:o.op=.call {callee:=.value cf,args:=args,argTypes:=ts}:=by rfl) (hrs:∀ x,rs x=(vs x).map fun v=>.one (.sc v):=by (intro x; rfl)) (hv:∀ x,2≤(vs x).length:=by (intro x; simp)) (hp:∀ x,(vs x).all plain=true:=by (intro x; rfl))
  (h1:H→zI2 cf args.toList e=some (f,az):=by
   intro hH
   simp only [hH,zI2,zD7,Env.callee,Env.args,qF,Env.own1,Env.carve,Env.lend,Env.fill,zB1,Env.deadAt,Env.deads,Env.node,Env.rows,Env.val,Env.sc,Env.cl,lk,zU,zR,qN,qJ,plain,Env.putO,Env.put,V.get,V.set,V.rowAt,V.setRow,Option.getD_some,List.set_cons_zero,List.set_cons_succ,qH,List.set_set,V.alive,V.bor,qB,rK,rB,rS,rL,List.getElem?_map,List.append_nil,↓reduceIte,eq_self,Option.isSome_some,Option.isSome_none,Option.bind_some,Option.bind_none,Option.map_some,Option.map_none,Bool.false_eq_true,Nat.reduceLT,Nat.reduceLeDiff,Nat.reduceEqDiff,Nat.reduceAdd,Nat.reduceMul,Nat.reduceSub,Nat.reduceBEq,List.map_cons,List.map_nil,List.length_cons,List.length_nil,List.cons_append,List.nil_append,List.headD_cons,List.tail_cons,List.contains_nil,List.contains_cons,List.take_zero,List.take_succ_cons,List.drop_zero,List.drop_succ_cons,List.getElem?_cons_zero,List.getElem?_cons_succ,Bool.and_true,Bool.true_and,Bool.or_false,Bool.or_true,and_self,and_true,true_and,← List.map_append,← List.map_take,← List.map_drop] <;> rfl) (h2:∀ x,e.putO o.dst (.tup ((vs x).map fun v=>.one (.v (.sc v))))=some (e2 x):=by
   intro x
   simp only [Env.putO,Env.put,reduceIte,Nat.reduceLT]
   rfl):Tl H (t1.bind k) r (quV X ops (o :: l) Post e):=qTW vs (fun x v=>hw.w x v) h hg ho hrs hv hp h1 h2
section
variable {X:Cfg} {e0 e e1 F F' e':Env} {ops:Array Oper} {o:Oper} {i f:Nat} {ml ix os kp bs nw:List Nat} {rj:List Nat×List (Nat×List Nat)} {acc:List Dat} {bl:List (Nat×V)} {G0:Prop} {az:List (Ag V)} {cells:List C} {cf:Operand} {args:Array Operand} {ts:Array TypeId} {π:Type} {t1:Option π} {x:π} {rs:π→List (Ag V)} {fin:π→List (Nat×V)}
theorem cC1 (hy:t1=some x) [hw:Wlk X t1 f ml az rs fin] (hi:ops[i]? = some o) (ho:o.op=.call {callee:=.value cf,args:=args,argTypes:=ts}) (hg:H→gOn ops o e) (hF:H→jQ ml true args.toList (xH ops o) e=some (F,bl,bs,os,kp))
  (h1:H→zD7 (fun _=>ml) cf args.toList F=some (f,az,cells,e1)) (hn:H→zT (zG (rs x))=true) (hfin:H→(fin x).all (fun q=>ml.contains q.1 && q.2.noBor)=true) (h2:H→zB2 o (rs x) (fin x) cells e1=some F') (hE:H→zB3 o.dst bl os kp e F'=some (nw,rj,e'))
  (h:Tl H t r (Cy X ops e0 G0 ix (⟨i,true,false,kp,os,nw,bs,rj⟩ :: acc) e')):Tl H t r (Cy X ops e0 G0 (i :: ix) acc e):=fun a b =>
 cC0 false (hw.w x hy) hi ho (hg a) (hF a) (h1 a) (.inr (hn a)) (hfin a) (h2 a) (hE a) (h a b)
theorem cD1 (hy:t1=some x) [hw:Wlk X t1 f ml az rs fin] (hi:ops[i]? = some o) (ho:o.op=.call {callee:=.value cf,args:=args,argTypes:=ts}) (hg:H→gOn ops o e) (hF:H→jQ ml false args.toList (xH ops o) e=some (F,bl,bs,os,kp))
  (h1:H→zV7 (fun _=>ml) cf args.toList F=some (f,az,cells,e1)) (hfin:H→(fin x).all (fun q=>ml.contains q.1)=true) (h2:H→zB2 o (rs x) (fin x) cells e1=some F') (hE:H→zB3 o.dst bl os kp e F'=some (nw,rj,e'))
  (h:Tl H t r (Cy X ops e0 G0 ix (⟨i,true,false,kp,os,nw,bs,rj⟩ :: acc) e')):Tl H t r (Cy X ops e0 G0 (i :: ix) acc e):=fun a b =>
 cC0 true (hw.w x hy) hi ho (hg a) (hF a) (h1 a) (.inl rfl) (by simpa using hfin a) (h2 a) (hE a) (h a b)
end
theorem cc {π:Type} {t1:Option π} {x:π} {goal next:Prop} (hy:t1=some x) (hn:next) (h:t1=some x→next→goal:=by
 intro hy hn
 first
  | (refine cC1 (o:=?_) (F:=?_) (e1:=?_) (os:=?_) (kp:=?_) (bs:=?_) (nw:=?_) (rj:=?_) (bl:=?_) (cells:=?_) (F':=?_) (e':=?_) (cf:=?_) (args:=?_) (ts:=?_) hy ?_ ?_ ?_ ?_ ?_ ?_ ?_ ?_ ?_ ?_
     rotate_left 15
     focus (simp only [List.getElem?_toArray,List.getElem?_cons_zero,List.getElem?_cons_succ] <;> rfl)
     focus rfl
     focus (first | exact fun _=>.inl rfl | (intro hH; refine .inr ⟨_,_,_,rfl,rfl,?_⟩; simp only [hH,Env.sc,Env.val,lk,reduceIte,Nat.reduceEqDiff,Env.put]; done))
     focus (intro hH; simp only [hH,C.lend,V.bor,qB,klOf,klA,lkE,jQ,zD5,zG7,zG1,zQ8,zK7,zJ6,zL1,zT5,zK6,zL0,zB3,zK2,zJ5,deadS,exOf,boOf,lkd,dl,dlN,xH,zT2,kE,List.getElem?_toArray,dd,uS,fpS,rmK,rmN,kpOf,ndB,okW,okN,zE,Sl.ids,Sl.cells,C.ids,inter,zE4,Sl.nb,C.nb,tmps,Op.operands,Call.operands,Option.toArray,List.any_cons,List.any_nil,List.contains_cons,List.contains_nil,Nat.reduceBEq,BEq.rfl,Bool.or_false,Bool.or_true,Bool.true_or,Bool.false_or,Bool.not_true,Bool.not_false,Bool.and_false,Bool.false_and,decide_true,decide_false,decide_eq_true_eq,List.isEmpty_nil,List.isEmpty_cons,Array.toList_append,List.toList_toArray,List.append_assoc,Env.args,qF,xD,jB,xV,wF,zA7,qP,Env.sure,wH,zX,xU,Env.int,Env.node,zY,jM,jK,Env.bound,Env.cut,jS,V.alive,Env.takes,xM,Ag.cells,uG,Env.newListO,vO,over,Env.solid,Env.solidG,Env.parts,Ty.places,xN,Env.rowsOf,kR,qC,Env.rows,yM,wG,qD,V.isSc,C.killN,Ag.map,Sl.map,qG,Env.place,Env.lay,jZ,C.killA,kM,jO,kO,jX,Env.src,Env.newAt,jI,Env.take,V.get,V.set,V.rowAt,V.setRow,Option.getD_some,List.set_cons_zero,List.set_cons_succ,qH,List.set_set,vP,cellsOf,Env.behind,Env.val,Env.sc,Env.cl,lk,zU,zR,qN,qJ,plain,Env.putO,Env.put,kU,uX,unV,rK,rB,rS,rL,kN,wR,wQ,yB,wZ,wP,wV,uT,yD,jH,wL,wW,wN,wM,wU,wJ,yA,wK,wY,wS,yC,wX,wI,wO,wT,qK,jG,
      ↓reduceIte,eq_self,Option.isSome_some,Option.isSome_none,Option.bind_some,Option.bind_none,Option.map_some,Option.map_none,Bool.false_eq_true,Nat.reduceLT,Nat.reduceLeDiff,Nat.reduceEqDiff,Nat.reduceAdd,Nat.reduceMul,Nat.reduceSub,Int.reduceLT,Int.reduceEq,Int.reduceNeg,List.length_map,List.length_set,List.length_cons,List.length_nil,List.length_append,List.getElem?_map,List.map_cons,List.map_nil,true_or,or_true,or_false,false_or,and_true,true_and,and_self,not_true,not_false_eq_true,reduceCtorEq,List.all_cons,List.all_nil,Bool.and_true,Bool.true_and,ne_eq,List.drop_zero,List.nil_append,List.append_nil,List.singleton_append,List.cons_append,List.flatMap_cons,List.flatMap_nil,List.flatten_cons,List.flatten_nil,List.mapM_cons,List.mapM_nil,Option.pure_def,Option.bind_eq_bind,List.take_zero,List.take_succ_cons,List.drop_succ_cons,List.getElem?_cons_zero,List.getElem?_cons_succ,List.set_cons_zero,List.set_cons_succ,List.headD_cons,List.take_nil,List.drop_nil,Nat.sub_zero,Nat.add_zero,Nat.zero_add,Nat.zero_le,Nat.le_refl,← List.map_append,← List.map_take,← List.map_drop] <;> rfl)
     focus (intro hH; simp only [hH,zD7,Env.callee,Env.args,qF,Env.own1,Env.carve,Env.lend,Env.fill,zB1,Env.deadAt,Env.deads,Env.node,Env.rows,Env.val,Env.sc,Env.cl,lk,zU,zR,qN,qJ,plain,Env.putO,Env.put,V.get,V.set,V.rowAt,V.setRow,Option.getD_some,List.set_cons_zero,List.set_cons_succ,qH,List.set_set,V.alive,V.bor,qB,rK,rB,rS,rL,List.getElem?_map,List.append_nil,↓reduceIte,eq_self,Option.isSome_some,Option.isSome_none,Option.bind_some,Option.bind_none,Option.map_some,Option.map_none,Bool.false_eq_true,Nat.reduceLT,Nat.reduceLeDiff,Nat.reduceEqDiff,Nat.reduceAdd,Nat.reduceMul,Nat.reduceSub,Nat.reduceBEq,List.map_cons,List.map_nil,List.length_cons,List.length_nil,List.cons_append,List.nil_append,List.headD_cons,List.tail_cons,List.contains_nil,List.contains_cons,List.take_zero,List.take_succ_cons,List.drop_zero,List.drop_succ_cons,List.getElem?_cons_zero,List.getElem?_cons_succ,Bool.and_true,Bool.true_and,Bool.or_false,Bool.or_true,and_self,and_true,true_and,← List.map_append,← List.map_take,← List.map_drop] <;> rfl)
     focus (intro hH; simp only [hH,zG,zT,V.noBor,zP,List.cons_append,List.nil_append,Bool.and_true,Bool.true_and])
     focus (intro hH; simp only [hH,List.all_nil,List.all_cons,zT,V.noBor,zP,Bool.and_true,Bool.true_and,Bool.or_false,Bool.or_true,List.contains_cons,List.contains_nil,Nat.reduceBEq,BEq.rfl])
     focus (intro hH; simp only [hH,zB2,retS,entA,entC,zS7,jP,V.own,zG,Env.back,Env.graft,qG,Sl.map,Ag.map,C.killN,Env.node,Env.val,Env.sc,Env.cl,lk,zU,zR,qN,qJ,plain,Env.putO,Env.put,V.get,V.set,V.rowAt,V.setRow,Option.getD_some,List.set_cons_zero,List.set_cons_succ,qH,List.set_set,V.alive,rK,rB,rS,rL,List.getElem?_map,List.append_nil,↓reduceIte,eq_self,Option.isSome_some,Option.isSome_none,Option.bind_some,Option.bind_none,Option.map_some,Option.map_none,Bool.false_eq_true,Nat.reduceLT,Nat.reduceLeDiff,Nat.reduceEqDiff,Nat.reduceAdd,Nat.reduceMul,Nat.reduceSub,List.map_cons,List.map_nil,List.length_cons,List.length_nil,List.cons_append,List.nil_append,List.take_zero,List.take_succ_cons,List.drop_zero,List.drop_succ_cons,List.getElem?_cons_zero,List.getElem?_cons_succ,List.set_cons_zero,List.set_cons_succ,Bool.and_true,Bool.true_and,and_self,and_true,true_and] <;> rfl)
     focus (intro hH; simp only [hH,V.noBor,zT,zP,klOf,klA,lkE,jQ,zD5,zG7,zG1,zQ8,zK7,zJ6,zL1,zT5,zK6,zL0,zB3,zK2,zJ5,deadS,exOf,boOf,lkd,dl,dlN,xH,zT2,kE,List.getElem?_toArray,dd,uS,fpS,rmK,rmN,kpOf,ndB,okW,okN,zE,Sl.ids,Sl.cells,C.ids,inter,zE4,Sl.nb,C.nb,tmps,Op.operands,Call.operands,Option.toArray,List.any_cons,List.any_nil,List.contains_cons,List.contains_nil,Nat.reduceBEq,BEq.rfl,Bool.or_false,Bool.or_true,Bool.true_or,Bool.false_or,Bool.not_true,Bool.not_false,Bool.and_false,Bool.false_and,decide_true,decide_false,decide_eq_true_eq,List.isEmpty_nil,List.isEmpty_cons,Array.toList_append,List.toList_toArray,List.append_assoc,xD,jB,xV,wF,zA7,qP,Env.sure,wH,zX,xU,Env.int,Env.node,zY,jM,jK,Env.bound,Env.cut,jS,V.alive,Env.takes,xM,Ag.cells,uG,Env.newListO,vO,over,Env.solid,Env.solidG,Env.parts,Ty.places,xN,Env.rowsOf,kR,qC,Env.rows,yM,wG,qD,V.isSc,C.killN,Ag.map,Sl.map,qG,Env.place,Env.lay,jZ,C.killA,kM,jO,kO,jX,Env.src,Env.newAt,jI,Env.take,V.get,V.set,V.rowAt,V.setRow,Option.getD_some,List.set_cons_zero,List.set_cons_succ,qH,List.set_set,vP,cellsOf,Env.behind,Env.val,Env.sc,Env.cl,lk,zU,zR,qN,qJ,plain,Env.putO,Env.put,kU,uX,unV,rK,rB,rS,rL,kN,wR,wQ,yB,wZ,wP,wV,uT,yD,jH,wL,wW,wN,wM,wU,wJ,yA,wK,wY,wS,yC,wX,wI,wO,wT,qK,jG,
      ↓reduceIte,eq_self,Option.isSome_some,Option.isSome_none,Option.bind_some,Option.bind_none,Option.map_some,Option.map_none,Bool.false_eq_true,Nat.reduceLT,Nat.reduceLeDiff,Nat.reduceEqDiff,Nat.reduceAdd,Nat.reduceMul,Nat.reduceSub,Int.reduceLT,Int.reduceEq,Int.reduceNeg,List.length_map,List.length_set,List.length_cons,List.length_nil,List.length_append,List.getElem?_map,List.map_cons,List.map_nil,true_or,or_true,or_false,false_or,and_true,true_and,and_self,not_true,not_false_eq_true,reduceCtorEq,List.all_cons,List.all_nil,Bool.and_true,Bool.true_and,ne_eq,List.drop_zero,List.nil_append,List.append_nil,List.singleton_append,List.cons_append,List.flatMap_cons,List.flatMap_nil,List.flatten_cons,List.flatten_nil,List.mapM_cons,List.mapM_nil,Option.pure_def,Option.bind_eq_bind,List.take_zero,List.take_succ_cons,List.drop_succ_cons,List.getElem?_cons_zero,List.getElem?_cons_succ,List.set_cons_zero,List.set_cons_succ,List.headD_cons,List.take_nil,List.drop_nil,Nat.sub_zero,Nat.add_zero,Nat.zero_add,Nat.zero_le,Nat.le_refl,← List.map_append,← List.map_take,← List.map_drop] <;> rfl)
     exact hn)
  | (refine cD1 (o:=?_) (F:=?_) (e1:=?_) (os:=?_) (kp:=?_) (bs:=?_) (nw:=?_) (rj:=?_) (bl:=?_) (cells:=?_) (F':=?_) (e':=?_) (cf:=?_) (args:=?_) (ts:=?_) hy ?_ ?_ ?_ ?_ ?_ ?_ ?_ ?_ ?_
     rotate_left 15
     focus (simp only [List.getElem?_toArray,List.getElem?_cons_zero,List.getElem?_cons_succ] <;> rfl)
     focus rfl
     focus (first | exact fun _=>.inl rfl | (intro hH; refine .inr ⟨_,_,_,rfl,rfl,?_⟩; simp only [hH,Env.sc,Env.val,lk,reduceIte,Nat.reduceEqDiff,Env.put]; done))
     focus (intro hH; simp only [hH,C.lend,V.bor,qB,klOf,klA,lkE,jQ,zD5,zG7,zG1,zQ8,zK7,zJ6,zL1,zT5,zK6,zL0,zB3,zK2,zJ5,deadS,exOf,boOf,lkd,dl,dlN,xH,zT2,kE,List.getElem?_toArray,dd,uS,fpS,rmK,rmN,kpOf,ndB,okW,okN,zE,Sl.ids,Sl.cells,C.ids,inter,zE4,Sl.nb,C.nb,tmps,Op.operands,Call.operands,Option.toArray,List.any_cons,List.any_nil,List.contains_cons,List.contains_nil,Nat.reduceBEq,BEq.rfl,Bool.or_false,Bool.or_true,Bool.true_or,Bool.false_or,Bool.not_true,Bool.not_false,Bool.and_false,Bool.false_and,decide_true,decide_false,decide_eq_true_eq,List.isEmpty_nil,List.isEmpty_cons,Array.toList_append,List.toList_toArray,List.append_assoc,Env.args,qF,xD,jB,xV,wF,zA7,qP,Env.sure,wH,zX,xU,Env.int,Env.node,zY,jM,jK,Env.bound,Env.cut,jS,V.alive,Env.takes,xM,Ag.cells,uG,Env.newListO,vO,over,Env.solid,Env.solidG,Env.parts,Ty.places,xN,Env.rowsOf,kR,qC,Env.rows,yM,wG,qD,V.isSc,C.killN,Ag.map,Sl.map,qG,Env.place,Env.lay,jZ,C.killA,kM,jO,kO,jX,Env.src,Env.newAt,jI,Env.take,V.get,V.set,V.rowAt,V.setRow,Option.getD_some,List.set_cons_zero,List.set_cons_succ,qH,List.set_set,vP,cellsOf,Env.behind,Env.val,Env.sc,Env.cl,lk,zU,zR,qN,qJ,plain,Env.putO,Env.put,kU,uX,unV,rK,rB,rS,rL,kN,wR,wQ,yB,wZ,wP,wV,uT,yD,jH,wL,wW,wN,wM,wU,wJ,yA,wK,wY,wS,yC,wX,wI,wO,wT,qK,jG,
      ↓reduceIte,eq_self,Option.isSome_some,Option.isSome_none,Option.bind_some,Option.bind_none,Option.map_some,Option.map_none,Bool.false_eq_true,Nat.reduceLT,Nat.reduceLeDiff,Nat.reduceEqDiff,Nat.reduceAdd,Nat.reduceMul,Nat.reduceSub,Int.reduceLT,Int.reduceEq,Int.reduceNeg,List.length_map,List.length_set,List.length_cons,List.length_nil,List.length_append,List.getElem?_map,List.map_cons,List.map_nil,true_or,or_true,or_false,false_or,and_true,true_and,and_self,not_true,not_false_eq_true,reduceCtorEq,List.all_cons,List.all_nil,Bool.and_true,Bool.true_and,ne_eq,List.drop_zero,List.nil_append,List.append_nil,List.singleton_append,List.cons_append,List.flatMap_cons,List.flatMap_nil,List.flatten_cons,List.flatten_nil,List.mapM_cons,List.mapM_nil,Option.pure_def,Option.bind_eq_bind,List.take_zero,List.take_succ_cons,List.drop_succ_cons,List.getElem?_cons_zero,List.getElem?_cons_succ,List.set_cons_zero,List.set_cons_succ,List.headD_cons,List.take_nil,List.drop_nil,Nat.sub_zero,Nat.add_zero,Nat.zero_add,Nat.zero_le,Nat.le_refl,← List.map_append,← List.map_take,← List.map_drop] <;> rfl)
     focus (intro hH; simp only [hH,zV7,qB9,zD7,Env.callee,Env.args,qF,Env.own1,Env.carve,Env.lend,Env.fill,zB1,Env.deadAt,Env.deads,Env.node,Env.rows,Env.val,Env.sc,Env.cl,lk,zU,zR,qN,qJ,plain,Env.putO,Env.put,V.get,V.set,V.rowAt,V.setRow,Option.getD_some,List.set_cons_zero,List.set_cons_succ,qH,List.set_set,V.alive,V.bor,qB,rK,rB,rS,rL,List.getElem?_map,List.append_nil,↓reduceIte,eq_self,Option.isSome_some,Option.isSome_none,Option.bind_some,Option.bind_none,Option.map_some,Option.map_none,Bool.false_eq_true,Nat.reduceLT,Nat.reduceLeDiff,Nat.reduceEqDiff,Nat.reduceAdd,Nat.reduceMul,Nat.reduceSub,Nat.reduceBEq,List.map_cons,List.map_nil,List.length_cons,List.length_nil,List.cons_append,List.nil_append,List.headD_cons,List.tail_cons,List.contains_nil,List.contains_cons,List.take_zero,List.take_succ_cons,List.drop_zero,List.drop_succ_cons,List.getElem?_cons_zero,List.getElem?_cons_succ,Bool.and_true,Bool.true_and,Bool.or_false,Bool.or_true,and_self,and_true,true_and,← List.map_append,← List.map_take,← List.map_drop] <;> rfl)
     focus (intro hH; simp only [hH,List.all_nil,List.all_cons,zT,V.noBor,zP,Bool.and_true,Bool.true_and,Bool.or_false,Bool.or_true,List.contains_cons,List.contains_nil,Nat.reduceBEq,BEq.rfl])
     focus (intro hH; simp only [hH,zB2,retS,entA,entC,zS7,jP,V.own,zG,Env.back,Env.graft,qG,Sl.map,Ag.map,C.killN,Env.node,Env.val,Env.sc,Env.cl,lk,zU,zR,qN,qJ,plain,Env.putO,Env.put,V.get,V.set,V.rowAt,V.setRow,Option.getD_some,List.set_cons_zero,List.set_cons_succ,qH,List.set_set,V.alive,rK,rB,rS,rL,List.getElem?_map,List.append_nil,↓reduceIte,eq_self,Option.isSome_some,Option.isSome_none,Option.bind_some,Option.bind_none,Option.map_some,Option.map_none,Bool.false_eq_true,Nat.reduceLT,Nat.reduceLeDiff,Nat.reduceEqDiff,Nat.reduceAdd,Nat.reduceMul,Nat.reduceSub,List.map_cons,List.map_nil,List.length_cons,List.length_nil,List.cons_append,List.nil_append,List.take_zero,List.take_succ_cons,List.drop_zero,List.drop_succ_cons,List.getElem?_cons_zero,List.getElem?_cons_succ,List.set_cons_zero,List.set_cons_succ,Bool.and_true,Bool.true_and,and_self,and_true,true_and] <;> rfl)
     focus (intro hH; simp only [hH,V.noBor,zT,zP,klOf,klA,lkE,jQ,zD5,zG7,zG1,zQ8,zK7,zJ6,zL1,zT5,zK6,zL0,zB3,zK2,zJ5,deadS,exOf,boOf,lkd,dl,dlN,xH,zT2,kE,List.getElem?_toArray,dd,uS,fpS,rmK,rmN,kpOf,ndB,okW,okN,zE,Sl.ids,Sl.cells,C.ids,inter,zE4,Sl.nb,C.nb,tmps,Op.operands,Call.operands,Option.toArray,List.any_cons,List.any_nil,List.contains_cons,List.contains_nil,Nat.reduceBEq,BEq.rfl,Bool.or_false,Bool.or_true,Bool.true_or,Bool.false_or,Bool.not_true,Bool.not_false,Bool.and_false,Bool.false_and,decide_true,decide_false,decide_eq_true_eq,List.isEmpty_nil,List.isEmpty_cons,Array.toList_append,List.toList_toArray,List.append_assoc,xD,jB,xV,wF,zA7,qP,Env.sure,wH,zX,xU,Env.int,Env.node,zY,jM,jK,Env.bound,Env.cut,jS,V.alive,Env.takes,xM,Ag.cells,uG,Env.newListO,vO,over,Env.solid,Env.solidG,Env.parts,Ty.places,xN,Env.rowsOf,kR,qC,Env.rows,yM,wG,qD,V.isSc,C.killN,Ag.map,Sl.map,qG,Env.place,Env.lay,jZ,C.killA,kM,jO,kO,jX,Env.src,Env.newAt,jI,Env.take,V.get,V.set,V.rowAt,V.setRow,Option.getD_some,List.set_cons_zero,List.set_cons_succ,qH,List.set_set,vP,cellsOf,Env.behind,Env.val,Env.sc,Env.cl,lk,zU,zR,qN,qJ,plain,Env.putO,Env.put,kU,uX,unV,rK,rB,rS,rL,kN,wR,wQ,yB,wZ,wP,wV,uT,yD,jH,wL,wW,wN,wM,wU,wJ,yA,wK,wY,wS,yC,wX,wI,wO,wT,qK,jG,
      ↓reduceIte,eq_self,Option.isSome_some,Option.isSome_none,Option.bind_some,Option.bind_none,Option.map_some,Option.map_none,Bool.false_eq_true,Nat.reduceLT,Nat.reduceLeDiff,Nat.reduceEqDiff,Nat.reduceAdd,Nat.reduceMul,Nat.reduceSub,Int.reduceLT,Int.reduceEq,Int.reduceNeg,List.length_map,List.length_set,List.length_cons,List.length_nil,List.length_append,List.getElem?_map,List.map_cons,List.map_nil,true_or,or_true,or_false,false_or,and_true,true_and,and_self,not_true,not_false_eq_true,reduceCtorEq,List.all_cons,List.all_nil,Bool.and_true,Bool.true_and,ne_eq,List.drop_zero,List.nil_append,List.append_nil,List.singleton_append,List.cons_append,List.flatMap_cons,List.flatMap_nil,List.flatten_cons,List.flatten_nil,List.mapM_cons,List.mapM_nil,Option.pure_def,Option.bind_eq_bind,List.take_zero,List.take_succ_cons,List.drop_succ_cons,List.getElem?_cons_zero,List.getElem?_cons_succ,List.set_cons_zero,List.set_cons_succ,List.headD_cons,List.take_nil,List.drop_nil,Nat.sub_zero,Nat.add_zero,Nat.zero_add,Nat.zero_le,Nat.le_refl,← List.map_append,← List.map_take,← List.map_drop] <;> rfl)
     exact hn)):goal:=h hy hn
theorem go {goal next:Prop} (hn:next) (h:next→goal:=by
 intro hn
 repeat (first
  | with_reducible refine l_seqR ?_
  | with_reducible refine l_reg ?_
  | with_reducible refine l_blk ?_
  | ((with_reducible refine b_geti (o:=?_) ?_ ?_ ?_); rotate_left; (focus first | with_reducible exact hd_o | with_reducible exact hd_q | (refine hd_y ?_; simp only [List.getElem?_toArray,List.getElem?_cons_zero,List.getElem?_cons_succ] <;> rfl)); (focus rfl))
  | ((with_reducible refine b_sidx (o:=?_) ?_ ?_ ?_); rotate_left; (focus first | with_reducible exact hd_o | with_reducible exact hd_q | (refine hd_y ?_; simp only [List.getElem?_toArray,List.getElem?_cons_zero,List.getElem?_cons_succ] <;> rfl)); (focus rfl))
  | ((with_reducible refine b_sub2 (o:=?_) ?_ ?_ ?_); rotate_left; (focus first | with_reducible exact hd_o | with_reducible exact hd_q | (refine hd_y ?_; simp only [List.getElem?_toArray,List.getElem?_cons_zero,List.getElem?_cons_succ] <;> rfl)); (focus rfl))
  | ((with_reducible refine b_subL (o:=?_) ?_ ?_ ?_); rotate_left; (focus first | with_reducible exact hd_o | with_reducible exact hd_q | (refine hd_y ?_; simp only [List.getElem?_toArray,List.getElem?_cons_zero,List.getElem?_cons_succ] <;> rfl)); (focus rfl))
  | ((with_reducible refine b_subH (o:=?_) ?_ ?_ ?_); rotate_left; (focus first | with_reducible exact hd_o | with_reducible exact hd_q | (refine hd_y ?_; simp only [List.getElem?_toArray,List.getElem?_cons_zero,List.getElem?_cons_succ] <;> rfl)); (focus rfl))
  | ((with_reducible refine b_cut2 (o:=?_) ?_ ?_ ?_); rotate_left; (focus first | with_reducible exact hd_o | with_reducible exact hd_q | (refine hd_y ?_; simp only [List.getElem?_toArray,List.getElem?_cons_zero,List.getElem?_cons_succ] <;> rfl)); (focus rfl))
  | ((with_reducible refine b_cutL (o:=?_) ?_ ?_ ?_); rotate_left; (focus first | with_reducible exact hd_o | with_reducible exact hd_q | (refine hd_y ?_; simp only [List.getElem?_toArray,List.getElem?_cons_zero,List.getElem?_cons_succ] <;> rfl)); (focus rfl))
  | ((with_reducible refine b_cutH (o:=?_) ?_ ?_ ?_); rotate_left; (focus first | with_reducible exact hd_o | with_reducible exact hd_q | (refine hd_y ?_; simp only [List.getElem?_toArray,List.getElem?_cons_zero,List.getElem?_cons_succ] <;> rfl)); (focus rfl))
  | ((with_reducible refine b_mkl (o:=?_) ?_ ?_ ?_); rotate_left; (focus first | with_reducible exact hd_o | with_reducible exact hd_q | (refine hd_y ?_; simp only [List.getElem?_toArray,List.getElem?_cons_zero,List.getElem?_cons_succ] <;> rfl)); (focus rfl))
  | ((with_reducible refine b_app1 (o:=?_) ?_ ?_ ?_); rotate_left; (focus first | with_reducible exact hd_o | with_reducible exact hd_q | (refine hd_y ?_; simp only [List.getElem?_toArray,List.getElem?_cons_zero,List.getElem?_cons_succ] <;> rfl)); (focus rfl))
  | ((with_reducible refine b_app2 (o:=?_) ?_ ?_ ?_); rotate_left; (focus first | with_reducible exact hd_o | with_reducible exact hd_q | (refine hd_y ?_; simp only [List.getElem?_toArray,List.getElem?_cons_zero,List.getElem?_cons_succ] <;> rfl)); (focus rfl))
  | ((with_reducible refine b_app3 (o:=?_) ?_ ?_ ?_); rotate_left; (focus first | with_reducible exact hd_o | with_reducible exact hd_q | (refine hd_y ?_; simp only [List.getElem?_toArray,List.getElem?_cons_zero,List.getElem?_cons_succ] <;> rfl)); (focus rfl))
  | ((with_reducible refine b_app4 (o:=?_) ?_ ?_ ?_); rotate_left; (focus first | with_reducible exact hd_o | with_reducible exact hd_q | (refine hd_y ?_; simp only [List.getElem?_toArray,List.getElem?_cons_zero,List.getElem?_cons_succ] <;> rfl)); (focus rfl))
  | ((with_reducible refine b_appn (o:=?_) ?_ ?_ ?_); rotate_left; (focus first | with_reducible exact hd_o | with_reducible exact hd_q | (refine hd_y ?_; simp only [List.getElem?_toArray,List.getElem?_cons_zero,List.getElem?_cons_succ] <;> rfl)); (focus rfl))
  | ((with_reducible refine b_ins1 (o:=?_) ?_ ?_ ?_); rotate_left; (focus first | with_reducible exact hd_o | with_reducible exact hd_q | (refine hd_y ?_; simp only [List.getElem?_toArray,List.getElem?_cons_zero,List.getElem?_cons_succ] <;> rfl)); (focus rfl))
  | ((with_reducible refine b_sapp (o:=?_) ?_ ?_ ?_); rotate_left; (focus first | with_reducible exact hd_o | with_reducible exact hd_q | (refine hd_y ?_; simp only [List.getElem?_toArray,List.getElem?_cons_zero,List.getElem?_cons_succ] <;> rfl)); (focus rfl))
  | ((with_reducible refine b_chk (o:=?_) ?_ ?_ ?_); rotate_left; (focus first | with_reducible exact hd_o | with_reducible exact hd_q | (refine hd_y ?_; simp only [List.getElem?_toArray,List.getElem?_cons_zero,List.getElem?_cons_succ] <;> rfl)); (focus rfl))
  | ((with_reducible refine l_op (e':=?_) rfl ?_ ?_ ?_)
     rotate_left
     focus rfl
     focus (intro hH; simp only [hH,evOp,evConv,xD,jB,xV,wF,zA7,qP,Env.sure,wH,zX,xU,Env.int,Env.node,zY,jM,jK,Env.bound,Env.cut,jS,V.alive,Env.takes,xM,Ag.cells,uG,Env.newListO,vO,over,Env.solid,Env.solidG,Env.parts,Ty.places,xN,Env.rowsOf,kR,qC,Env.rows,yM,wG,qD,V.isSc,C.killN,Ag.map,Sl.map,qG,Env.place,Env.lay,jZ,C.killA,kM,jO,kO,jX,Env.src,Env.newAt,jI,Env.take,V.get,V.set,V.rowAt,V.setRow,Option.getD_some,List.set_cons_zero,List.set_cons_succ,qH,List.set_set,vP,cellsOf,Env.behind,Env.val,Env.sc,Env.cl,lk,zU,zR,qN,qJ,plain,Env.putO,Env.put,kU,uX,unV,rK,rB,rS,rL,kN,wR,wQ,yB,wZ,wP,wV,uT,yD,jH,wL,wW,wN,wM,wU,wJ,yA,wK,wY,wS,yC,wX,wI,wO,wT,qK,jG,
      ↓reduceIte,eq_self,Option.isSome_some,Option.isSome_none,Option.bind_some,Option.bind_none,Option.map_some,Option.map_none,Bool.false_eq_true,Nat.reduceLT,Nat.reduceLeDiff,Nat.reduceEqDiff,Nat.reduceAdd,Nat.reduceMul,Nat.reduceSub,Int.reduceLT,Int.reduceEq,Int.reduceNeg,List.length_map,List.length_set,List.length_cons,List.length_nil,List.length_append,List.getElem?_map,List.map_cons,List.map_nil,true_or,or_true,or_false,false_or,and_true,true_and,and_self,not_true,not_false_eq_true,reduceCtorEq,List.all_cons,List.all_nil,Bool.and_true,Bool.true_and,ne_eq,List.drop_zero,List.nil_append,List.append_nil,List.singleton_append,List.cons_append,List.flatMap_cons,List.flatMap_nil,List.flatten_cons,List.flatten_nil,List.mapM_cons,List.mapM_nil,Option.pure_def,Option.bind_eq_bind,List.take_zero,List.take_succ_cons,List.drop_succ_cons,List.getElem?_cons_zero,List.getElem?_cons_succ,List.set_cons_zero,List.set_cons_succ,List.headD_cons,List.take_nil,List.drop_nil,Nat.sub_zero,Nat.add_zero,Nat.zero_add,Nat.zero_le,Nat.le_refl,← List.map_append,← List.map_take,← List.map_drop]; with_reducible rfl))
  | (refine l_on rfl rfl rfl ?_ ?_
     focus (intro hH; simp only [hH,Env.sc,Env.val,lk,reduceIte,Nat.reduceEqDiff]; done))
  | (refine l_off (e':=?_) rfl rfl rfl ?_ ?_ ?_
     rotate_left
     focus (intro hH; simp only [hH,Env.sc,Env.val,lk,reduceIte,Nat.reduceEqDiff,Bool.not_true,Bool.not_false]; done)
     focus (simp only [Env.putO,Env.put,reduceIte,Nat.reduceLT]; rfl))
  | (refine l_dead (e':=?_) rfl rfl rfl ?_ ?_ ?_
     rotate_left
     focus (simp only [Env.val,lk,reduceIte,Nat.reduceEqDiff]; done)
     focus (simp only [Env.putO,Env.put,reduceIte,Nat.reduceLT]; rfl))
  | ((with_reducible refine l_call (e1:=?_) (cells:=?_) (e2:=?_) rfl rfl ?_ ?_ ?_ ?_ ?_)
     rotate_left 3
     focus (intro hH; simp only [hH,zD7,Env.callee,Env.args,qF,Env.own1,Env.carve,Env.lend,Env.fill,zB1,Env.deadAt,Env.deads,Env.node,Env.rows,Env.val,Env.sc,Env.cl,lk,zU,zR,qN,qJ,plain,Env.putO,Env.put,V.get,V.set,V.rowAt,V.setRow,Option.getD_some,List.set_cons_zero,List.set_cons_succ,qH,List.set_set,V.alive,V.bor,qB,rK,rB,rS,rL,List.getElem?_map,List.append_nil,↓reduceIte,eq_self,Option.isSome_some,Option.isSome_none,Option.bind_some,Option.bind_none,Option.map_some,Option.map_none,Bool.false_eq_true,Nat.reduceLT,Nat.reduceLeDiff,Nat.reduceEqDiff,Nat.reduceAdd,Nat.reduceMul,Nat.reduceSub,Nat.reduceBEq,List.map_cons,List.map_nil,List.length_cons,List.length_nil,List.cons_append,List.nil_append,List.headD_cons,List.tail_cons,List.contains_nil,List.contains_cons,List.take_zero,List.take_succ_cons,List.drop_zero,List.drop_succ_cons,List.getElem?_cons_zero,List.getElem?_cons_succ,Bool.and_true,Bool.true_and,Bool.or_false,Bool.or_true,and_self,and_true,true_and,← List.map_append,← List.map_take,← List.map_drop] <;> rfl)
     focus (intro x hH; simp only [hH,zG,zT,V.noBor,zP,List.cons_append,List.nil_append,Bool.and_true,Bool.true_and])
     focus (intro x hH; simp only [hH,List.all_nil,List.all_cons,zT,V.noBor,zP,Bool.and_true,Bool.true_and,Bool.or_false,Bool.or_true,List.contains_cons,List.contains_nil,Nat.reduceBEq,BEq.rfl])
     focus (intro x hH; simp only [hH,zB2,retS,entA,entC,zS7,jP,V.own,zG,Env.back,Env.graft,qG,Sl.map,Ag.map,C.killN,Env.node,Env.val,Env.sc,Env.cl,lk,zU,zR,qN,qJ,plain,Env.putO,Env.put,V.get,V.set,V.rowAt,V.setRow,Option.getD_some,List.set_cons_zero,List.set_cons_succ,qH,List.set_set,V.alive,rK,rB,rS,rL,List.getElem?_map,List.append_nil,↓reduceIte,eq_self,Option.isSome_some,Option.isSome_none,Option.bind_some,Option.bind_none,Option.map_some,Option.map_none,Bool.false_eq_true,Nat.reduceLT,Nat.reduceLeDiff,Nat.reduceEqDiff,Nat.reduceAdd,Nat.reduceMul,Nat.reduceSub,List.map_cons,List.map_nil,List.length_cons,List.length_nil,List.cons_append,List.nil_append,List.take_zero,List.take_succ_cons,List.drop_zero,List.drop_succ_cons,List.getElem?_cons_zero,List.getElem?_cons_succ,List.set_cons_zero,List.set_cons_succ,Bool.and_true,Bool.true_and,and_self,and_true,true_and] <;> rfl))
  | ((with_reducible refine l_callD (e1:=?_) (cells:=?_) (e2:=?_) rfl rfl ?_ ?_ ?_ ?_)
     rotate_left 3
     focus (intro hH; simp only [hH,zV7,qB9,zD7,Env.callee,Env.args,qF,Env.own1,Env.carve,Env.lend,Env.fill,zB1,Env.deadAt,Env.deads,Env.node,Env.rows,Env.val,Env.sc,Env.cl,lk,zU,zR,qN,qJ,plain,Env.putO,Env.put,V.get,V.set,V.rowAt,V.setRow,Option.getD_some,List.set_cons_zero,List.set_cons_succ,qH,List.set_set,V.alive,V.bor,qB,rK,rB,rS,rL,List.getElem?_map,List.append_nil,↓reduceIte,eq_self,Option.isSome_some,Option.isSome_none,Option.bind_some,Option.bind_none,Option.map_some,Option.map_none,Bool.false_eq_true,Nat.reduceLT,Nat.reduceLeDiff,Nat.reduceEqDiff,Nat.reduceAdd,Nat.reduceMul,Nat.reduceSub,Nat.reduceBEq,List.map_cons,List.map_nil,List.length_cons,List.length_nil,List.cons_append,List.nil_append,List.headD_cons,List.tail_cons,List.contains_nil,List.contains_cons,List.take_zero,List.take_succ_cons,List.drop_zero,List.drop_succ_cons,List.getElem?_cons_zero,List.getElem?_cons_succ,Bool.and_true,Bool.true_and,Bool.or_false,Bool.or_true,and_self,and_true,true_and,← List.map_append,← List.map_take,← List.map_drop] <;> rfl)
     focus (intro x hH; simp only [hH,List.all_nil,List.all_cons,zT,V.noBor,zP,Bool.and_true,Bool.true_and,Bool.or_false,Bool.or_true,List.contains_cons,List.contains_nil,Nat.reduceBEq,BEq.rfl])
     focus (intro x hH; simp only [hH,zB2,retS,entA,entC,zS7,jP,V.own,zG,Env.back,Env.graft,qG,Sl.map,Ag.map,C.killN,Env.node,Env.val,Env.sc,Env.cl,lk,zU,zR,qN,qJ,plain,Env.putO,Env.put,V.get,V.set,V.rowAt,V.setRow,Option.getD_some,List.set_cons_zero,List.set_cons_succ,qH,List.set_set,V.alive,rK,rB,rS,rL,List.getElem?_map,List.append_nil,↓reduceIte,eq_self,Option.isSome_some,Option.isSome_none,Option.bind_some,Option.bind_none,Option.map_some,Option.map_none,Bool.false_eq_true,Nat.reduceLT,Nat.reduceLeDiff,Nat.reduceEqDiff,Nat.reduceAdd,Nat.reduceMul,Nat.reduceSub,List.map_cons,List.map_nil,List.length_cons,List.length_nil,List.cons_append,List.nil_append,List.take_zero,List.take_succ_cons,List.drop_zero,List.drop_succ_cons,List.getElem?_cons_zero,List.getElem?_cons_succ,List.set_cons_zero,List.set_cons_succ,Bool.and_true,Bool.true_and,and_self,and_true,true_and] <;> rfl))
  | (refine cQ (o:=?_) (e':=?_) (os:=?_) (rd:=?_) (p:=?_) ?_ ?_ ?_ ?_ ?_
     rotate_left 5
     focus (simp only [List.getElem?_toArray,List.getElem?_cons_zero,List.getElem?_cons_succ] <;> rfl)
     focus (first | exact (rfl:true=true) | exact (rfl:false=false))
     focus (first | exact fun _=>.inl rfl | (intro hH; refine .inr ⟨_,_,_,rfl,rfl,?_⟩; simp only [hH,Env.sc,Env.val,lk,reduceIte,Nat.reduceEqDiff,Env.put]; done))
     focus (intro hH; simp only [hH,evR,qF2,qE9,klOf,klA,lkE,jQ,zD5,zG7,zG1,zQ8,zK7,zJ6,zL1,zT5,zK6,zL0,zB3,zK2,zJ5,deadS,exOf,boOf,lkd,dl,dlN,xH,zT2,kE,List.getElem?_toArray,dd,uS,fpS,rmK,rmN,kpOf,ndB,okW,okN,zE,Sl.ids,Sl.cells,C.ids,inter,zE4,Sl.nb,C.nb,tmps,Op.operands,Call.operands,Option.toArray,List.any_cons,List.any_nil,List.contains_cons,List.contains_nil,Nat.reduceBEq,BEq.rfl,Bool.or_false,Bool.or_true,Bool.true_or,Bool.false_or,Bool.not_true,Bool.not_false,Bool.and_false,Bool.false_and,decide_true,decide_false,decide_eq_true_eq,List.isEmpty_nil,List.isEmpty_cons,Array.toList_append,List.toList_toArray,List.append_assoc,xD,jB,xV,wF,zA7,qP,Env.sure,wH,zX,xU,Env.int,Env.node,zY,jM,jK,Env.bound,Env.cut,jS,V.alive,Env.takes,xM,Ag.cells,uG,Env.newListO,vO,over,Env.solid,Env.solidG,Env.parts,Ty.places,xN,Env.rowsOf,kR,qC,Env.rows,yM,wG,qD,V.isSc,C.killN,Ag.map,Sl.map,qG,Env.place,Env.lay,jZ,C.killA,kM,jO,kO,jX,Env.src,Env.newAt,jI,Env.take,V.get,V.set,V.rowAt,V.setRow,Option.getD_some,List.set_cons_zero,List.set_cons_succ,qH,List.set_set,vP,cellsOf,Env.behind,Env.val,Env.sc,Env.cl,lk,zU,zR,qN,qJ,plain,Env.putO,Env.put,kU,uX,unV,rK,rB,rS,rL,kN,wR,wQ,yB,wZ,wP,wV,uT,yD,jH,wL,wW,wN,wM,wU,wJ,yA,wK,wY,wS,yC,wX,wI,wO,wT,qK,jG,
      ↓reduceIte,eq_self,Option.isSome_some,Option.isSome_none,Option.bind_some,Option.bind_none,Option.map_some,Option.map_none,Bool.false_eq_true,Nat.reduceLT,Nat.reduceLeDiff,Nat.reduceEqDiff,Nat.reduceAdd,Nat.reduceMul,Nat.reduceSub,Int.reduceLT,Int.reduceEq,Int.reduceNeg,List.length_map,List.length_set,List.length_cons,List.length_nil,List.length_append,List.getElem?_map,List.map_cons,List.map_nil,true_or,or_true,or_false,false_or,and_true,true_and,and_self,not_true,not_false_eq_true,reduceCtorEq,List.all_cons,List.all_nil,Bool.and_true,Bool.true_and,ne_eq,List.drop_zero,List.nil_append,List.append_nil,List.singleton_append,List.cons_append,List.flatMap_cons,List.flatMap_nil,List.flatten_cons,List.flatten_nil,List.mapM_cons,List.mapM_nil,Option.pure_def,Option.bind_eq_bind,List.take_zero,List.take_succ_cons,List.drop_succ_cons,List.getElem?_cons_zero,List.getElem?_cons_succ,List.set_cons_zero,List.set_cons_succ,List.headD_cons,List.take_nil,List.drop_nil,Nat.sub_zero,Nat.add_zero,Nat.zero_add,Nat.zero_le,Nat.le_refl,← List.map_append,← List.map_take,← List.map_drop]; with_reducible rfl))
  | (refine cF (o:=?_) (d:=?_) (j:=?_) (want:=?_) (f:=?_) ?_ ?_ ?_ ?_ ?_ ?_ ?_
     rotate_left 5
     focus (simp only [List.getElem?_toArray,List.getElem?_cons_zero,List.getElem?_cons_succ] <;> rfl)
     focus rfl
     focus rfl
     focus rfl
     focus (simp only [Nat.reduceLT,Env.put]; done)
     focus (intro hH; first | (left; simp only [hH,Env.sc,Env.val,lk,reduceIte,Nat.reduceEqDiff,Env.put,Bool.not_true,Bool.not_false]; done) | (right; simp only [Env.val,lk,Env.put,reduceIte,Nat.reduceEqDiff]; done)))
  | (refine cC (o:=?_) (F:=?_) (e1:=?_) (os:=?_) (kp:=?_) (bs:=?_) (nw:=?_) (rj:=?_) (bl:=?_) (cells:=?_) (F2:=?_) (e2:=?_) (cf:=?_) (args:=?_) (ts:=?_) ?_ ?_ ?_ ?_ ?_ ?_ ?_ ?_ ?_ ?_
     rotate_left 15
     focus (simp only [List.getElem?_toArray,List.getElem?_cons_zero,List.getElem?_cons_succ] <;> rfl)
     focus rfl
     focus (first | exact fun _=>.inl rfl | (intro hH; refine .inr ⟨_,_,_,rfl,rfl,?_⟩; simp only [hH,Env.sc,Env.val,lk,reduceIte,Nat.reduceEqDiff,Env.put]; done))
     focus (intro hH; simp only [hH,C.lend,V.bor,qB,klOf,klA,lkE,jQ,zD5,zG7,zG1,zQ8,zK7,zJ6,zL1,zT5,zK6,zL0,zB3,zK2,zJ5,deadS,exOf,boOf,lkd,dl,dlN,xH,zT2,kE,List.getElem?_toArray,dd,uS,fpS,rmK,rmN,kpOf,ndB,okW,okN,zE,Sl.ids,Sl.cells,C.ids,inter,zE4,Sl.nb,C.nb,tmps,Op.operands,Call.operands,Option.toArray,List.any_cons,List.any_nil,List.contains_cons,List.contains_nil,Nat.reduceBEq,BEq.rfl,Bool.or_false,Bool.or_true,Bool.true_or,Bool.false_or,Bool.not_true,Bool.not_false,Bool.and_false,Bool.false_and,decide_true,decide_false,decide_eq_true_eq,List.isEmpty_nil,List.isEmpty_cons,Array.toList_append,List.toList_toArray,List.append_assoc,Env.args,qF,xD,jB,xV,wF,zA7,qP,Env.sure,wH,zX,xU,Env.int,Env.node,zY,jM,jK,Env.bound,Env.cut,jS,V.alive,Env.takes,xM,Ag.cells,uG,Env.newListO,vO,over,Env.solid,Env.solidG,Env.parts,Ty.places,xN,Env.rowsOf,kR,qC,Env.rows,yM,wG,qD,V.isSc,C.killN,Ag.map,Sl.map,qG,Env.place,Env.lay,jZ,C.killA,kM,jO,kO,jX,Env.src,Env.newAt,jI,Env.take,V.get,V.set,V.rowAt,V.setRow,Option.getD_some,List.set_cons_zero,List.set_cons_succ,qH,List.set_set,vP,cellsOf,Env.behind,Env.val,Env.sc,Env.cl,lk,zU,zR,qN,qJ,plain,Env.putO,Env.put,kU,uX,unV,rK,rB,rS,rL,kN,wR,wQ,yB,wZ,wP,wV,uT,yD,jH,wL,wW,wN,wM,wU,wJ,yA,wK,wY,wS,yC,wX,wI,wO,wT,qK,jG,
      ↓reduceIte,eq_self,Option.isSome_some,Option.isSome_none,Option.bind_some,Option.bind_none,Option.map_some,Option.map_none,Bool.false_eq_true,Nat.reduceLT,Nat.reduceLeDiff,Nat.reduceEqDiff,Nat.reduceAdd,Nat.reduceMul,Nat.reduceSub,Int.reduceLT,Int.reduceEq,Int.reduceNeg,List.length_map,List.length_set,List.length_cons,List.length_nil,List.length_append,List.getElem?_map,List.map_cons,List.map_nil,true_or,or_true,or_false,false_or,and_true,true_and,and_self,not_true,not_false_eq_true,reduceCtorEq,List.all_cons,List.all_nil,Bool.and_true,Bool.true_and,ne_eq,List.drop_zero,List.nil_append,List.append_nil,List.singleton_append,List.cons_append,List.flatMap_cons,List.flatMap_nil,List.flatten_cons,List.flatten_nil,List.mapM_cons,List.mapM_nil,Option.pure_def,Option.bind_eq_bind,List.take_zero,List.take_succ_cons,List.drop_succ_cons,List.getElem?_cons_zero,List.getElem?_cons_succ,List.set_cons_zero,List.set_cons_succ,List.headD_cons,List.take_nil,List.drop_nil,Nat.sub_zero,Nat.add_zero,Nat.zero_add,Nat.zero_le,Nat.le_refl,← List.map_append,← List.map_take,← List.map_drop] <;> rfl)
     focus (intro hH; simp only [hH,zD7,Env.callee,Env.args,qF,Env.own1,Env.carve,Env.lend,Env.fill,zB1,Env.deadAt,Env.deads,Env.node,Env.rows,Env.val,Env.sc,Env.cl,lk,zU,zR,qN,qJ,plain,Env.putO,Env.put,V.get,V.set,V.rowAt,V.setRow,Option.getD_some,List.set_cons_zero,List.set_cons_succ,qH,List.set_set,V.alive,V.bor,qB,rK,rB,rS,rL,List.getElem?_map,List.append_nil,↓reduceIte,eq_self,Option.isSome_some,Option.isSome_none,Option.bind_some,Option.bind_none,Option.map_some,Option.map_none,Bool.false_eq_true,Nat.reduceLT,Nat.reduceLeDiff,Nat.reduceEqDiff,Nat.reduceAdd,Nat.reduceMul,Nat.reduceSub,Nat.reduceBEq,List.map_cons,List.map_nil,List.length_cons,List.length_nil,List.cons_append,List.nil_append,List.headD_cons,List.tail_cons,List.contains_nil,List.contains_cons,List.take_zero,List.take_succ_cons,List.drop_zero,List.drop_succ_cons,List.getElem?_cons_zero,List.getElem?_cons_succ,Bool.and_true,Bool.true_and,Bool.or_false,Bool.or_true,and_self,and_true,true_and,← List.map_append,← List.map_take,← List.map_drop] <;> rfl)
     focus (intro x hH; simp only [hH,zG,zT,V.noBor,zP,List.cons_append,List.nil_append,Bool.and_true,Bool.true_and])
     focus (intro x hH; simp only [hH,List.all_nil,List.all_cons,zT,V.noBor,zP,Bool.and_true,Bool.true_and,Bool.or_false,Bool.or_true,List.contains_cons,List.contains_nil,Nat.reduceBEq,BEq.rfl])
     focus (intro x hH; simp only [hH,zB2,retS,entA,entC,zS7,jP,V.own,zG,Env.back,Env.graft,qG,Sl.map,Ag.map,C.killN,Env.node,Env.val,Env.sc,Env.cl,lk,zU,zR,qN,qJ,plain,Env.putO,Env.put,V.get,V.set,V.rowAt,V.setRow,Option.getD_some,List.set_cons_zero,List.set_cons_succ,qH,List.set_set,V.alive,rK,rB,rS,rL,List.getElem?_map,List.append_nil,↓reduceIte,eq_self,Option.isSome_some,Option.isSome_none,Option.bind_some,Option.bind_none,Option.map_some,Option.map_none,Bool.false_eq_true,Nat.reduceLT,Nat.reduceLeDiff,Nat.reduceEqDiff,Nat.reduceAdd,Nat.reduceMul,Nat.reduceSub,List.map_cons,List.map_nil,List.length_cons,List.length_nil,List.cons_append,List.nil_append,List.take_zero,List.take_succ_cons,List.drop_zero,List.drop_succ_cons,List.getElem?_cons_zero,List.getElem?_cons_succ,List.set_cons_zero,List.set_cons_succ,Bool.and_true,Bool.true_and,and_self,and_true,true_and] <;> rfl)
     focus (intro x hH; simp only [hH,V.noBor,zT,zP,klOf,klA,lkE,jQ,zD5,zG7,zG1,zQ8,zK7,zJ6,zL1,zT5,zK6,zL0,zB3,zK2,zJ5,deadS,exOf,boOf,lkd,dl,dlN,xH,zT2,kE,List.getElem?_toArray,dd,uS,fpS,rmK,rmN,kpOf,ndB,okW,okN,zE,Sl.ids,Sl.cells,C.ids,inter,zE4,Sl.nb,C.nb,tmps,Op.operands,Call.operands,Option.toArray,List.any_cons,List.any_nil,List.contains_cons,List.contains_nil,Nat.reduceBEq,BEq.rfl,Bool.or_false,Bool.or_true,Bool.true_or,Bool.false_or,Bool.not_true,Bool.not_false,Bool.and_false,Bool.false_and,decide_true,decide_false,decide_eq_true_eq,List.isEmpty_nil,List.isEmpty_cons,Array.toList_append,List.toList_toArray,List.append_assoc,xD,jB,xV,wF,zA7,qP,Env.sure,wH,zX,xU,Env.int,Env.node,zY,jM,jK,Env.bound,Env.cut,jS,V.alive,Env.takes,xM,Ag.cells,uG,Env.newListO,vO,over,Env.solid,Env.solidG,Env.parts,Ty.places,xN,Env.rowsOf,kR,qC,Env.rows,yM,wG,qD,V.isSc,C.killN,Ag.map,Sl.map,qG,Env.place,Env.lay,jZ,C.killA,kM,jO,kO,jX,Env.src,Env.newAt,jI,Env.take,V.get,V.set,V.rowAt,V.setRow,Option.getD_some,List.set_cons_zero,List.set_cons_succ,qH,List.set_set,vP,cellsOf,Env.behind,Env.val,Env.sc,Env.cl,lk,zU,zR,qN,qJ,plain,Env.putO,Env.put,kU,uX,unV,rK,rB,rS,rL,kN,wR,wQ,yB,wZ,wP,wV,uT,yD,jH,wL,wW,wN,wM,wU,wJ,yA,wK,wY,wS,yC,wX,wI,wO,wT,qK,jG,
      ↓reduceIte,eq_self,Option.isSome_some,Option.isSome_none,Option.bind_some,Option.bind_none,Option.map_some,Option.map_none,Bool.false_eq_true,Nat.reduceLT,Nat.reduceLeDiff,Nat.reduceEqDiff,Nat.reduceAdd,Nat.reduceMul,Nat.reduceSub,Int.reduceLT,Int.reduceEq,Int.reduceNeg,List.length_map,List.length_set,List.length_cons,List.length_nil,List.length_append,List.getElem?_map,List.map_cons,List.map_nil,true_or,or_true,or_false,false_or,and_true,true_and,and_self,not_true,not_false_eq_true,reduceCtorEq,List.all_cons,List.all_nil,Bool.and_true,Bool.true_and,ne_eq,List.drop_zero,List.nil_append,List.append_nil,List.singleton_append,List.cons_append,List.flatMap_cons,List.flatMap_nil,List.flatten_cons,List.flatten_nil,List.mapM_cons,List.mapM_nil,Option.pure_def,Option.bind_eq_bind,List.take_zero,List.take_succ_cons,List.drop_succ_cons,List.getElem?_cons_zero,List.getElem?_cons_succ,List.set_cons_zero,List.set_cons_succ,List.headD_cons,List.take_nil,List.drop_nil,Nat.sub_zero,Nat.add_zero,Nat.zero_add,Nat.zero_le,Nat.le_refl,← List.map_append,← List.map_take,← List.map_drop] <;> rfl))
  | (refine cD (o:=?_) (F:=?_) (e1:=?_) (os:=?_) (kp:=?_) (bs:=?_) (nw:=?_) (rj:=?_) (bl:=?_) (cells:=?_) (F2:=?_) (e2:=?_) (cf:=?_) (args:=?_) (ts:=?_) ?_ ?_ ?_ ?_ ?_ ?_ ?_ ?_ ?_
     rotate_left 15
     focus (simp only [List.getElem?_toArray,List.getElem?_cons_zero,List.getElem?_cons_succ] <;> rfl)
     focus rfl
     focus (first | exact fun _=>.inl rfl | (intro hH; refine .inr ⟨_,_,_,rfl,rfl,?_⟩; simp only [hH,Env.sc,Env.val,lk,reduceIte,Nat.reduceEqDiff,Env.put]; done))
     focus (intro hH; simp only [hH,C.lend,V.bor,qB,klOf,klA,lkE,jQ,zD5,zG7,zG1,zQ8,zK7,zJ6,zL1,zT5,zK6,zL0,zB3,zK2,zJ5,deadS,exOf,boOf,lkd,dl,dlN,xH,zT2,kE,List.getElem?_toArray,dd,uS,fpS,rmK,rmN,kpOf,ndB,okW,okN,zE,Sl.ids,Sl.cells,C.ids,inter,zE4,Sl.nb,C.nb,tmps,Op.operands,Call.operands,Option.toArray,List.any_cons,List.any_nil,List.contains_cons,List.contains_nil,Nat.reduceBEq,BEq.rfl,Bool.or_false,Bool.or_true,Bool.true_or,Bool.false_or,Bool.not_true,Bool.not_false,Bool.and_false,Bool.false_and,decide_true,decide_false,decide_eq_true_eq,List.isEmpty_nil,List.isEmpty_cons,Array.toList_append,List.toList_toArray,List.append_assoc,Env.args,qF,xD,jB,xV,wF,zA7,qP,Env.sure,wH,zX,xU,Env.int,Env.node,zY,jM,jK,Env.bound,Env.cut,jS,V.alive,Env.takes,xM,Ag.cells,uG,Env.newListO,vO,over,Env.solid,Env.solidG,Env.parts,Ty.places,xN,Env.rowsOf,kR,qC,Env.rows,yM,wG,qD,V.isSc,C.killN,Ag.map,Sl.map,qG,Env.place,Env.lay,jZ,C.killA,kM,jO,kO,jX,Env.src,Env.newAt,jI,Env.take,V.get,V.set,V.rowAt,V.setRow,Option.getD_some,List.set_cons_zero,List.set_cons_succ,qH,List.set_set,vP,cellsOf,Env.behind,Env.val,Env.sc,Env.cl,lk,zU,zR,qN,qJ,plain,Env.putO,Env.put,kU,uX,unV,rK,rB,rS,rL,kN,wR,wQ,yB,wZ,wP,wV,uT,yD,jH,wL,wW,wN,wM,wU,wJ,yA,wK,wY,wS,yC,wX,wI,wO,wT,qK,jG,
      ↓reduceIte,eq_self,Option.isSome_some,Option.isSome_none,Option.bind_some,Option.bind_none,Option.map_some,Option.map_none,Bool.false_eq_true,Nat.reduceLT,Nat.reduceLeDiff,Nat.reduceEqDiff,Nat.reduceAdd,Nat.reduceMul,Nat.reduceSub,Int.reduceLT,Int.reduceEq,Int.reduceNeg,List.length_map,List.length_set,List.length_cons,List.length_nil,List.length_append,List.getElem?_map,List.map_cons,List.map_nil,true_or,or_true,or_false,false_or,and_true,true_and,and_self,not_true,not_false_eq_true,reduceCtorEq,List.all_cons,List.all_nil,Bool.and_true,Bool.true_and,ne_eq,List.drop_zero,List.nil_append,List.append_nil,List.singleton_append,List.cons_append,List.flatMap_cons,List.flatMap_nil,List.flatten_cons,List.flatten_nil,List.mapM_cons,List.mapM_nil,Option.pure_def,Option.bind_eq_bind,List.take_zero,List.take_succ_cons,List.drop_succ_cons,List.getElem?_cons_zero,List.getElem?_cons_succ,List.set_cons_zero,List.set_cons_succ,List.headD_cons,List.take_nil,List.drop_nil,Nat.sub_zero,Nat.add_zero,Nat.zero_add,Nat.zero_le,Nat.le_refl,← List.map_append,← List.map_take,← List.map_drop] <;> rfl)
     focus (intro hH; simp only [hH,zV7,qB9,zD7,Env.callee,Env.args,qF,Env.own1,Env.carve,Env.lend,Env.fill,zB1,Env.deadAt,Env.deads,Env.node,Env.rows,Env.val,Env.sc,Env.cl,lk,zU,zR,qN,qJ,plain,Env.putO,Env.put,V.get,V.set,V.rowAt,V.setRow,Option.getD_some,List.set_cons_zero,List.set_cons_succ,qH,List.set_set,V.alive,V.bor,qB,rK,rB,rS,rL,List.getElem?_map,List.append_nil,↓reduceIte,eq_self,Option.isSome_some,Option.isSome_none,Option.bind_some,Option.bind_none,Option.map_some,Option.map_none,Bool.false_eq_true,Nat.reduceLT,Nat.reduceLeDiff,Nat.reduceEqDiff,Nat.reduceAdd,Nat.reduceMul,Nat.reduceSub,Nat.reduceBEq,List.map_cons,List.map_nil,List.length_cons,List.length_nil,List.cons_append,List.nil_append,List.headD_cons,List.tail_cons,List.contains_nil,List.contains_cons,List.take_zero,List.take_succ_cons,List.drop_zero,List.drop_succ_cons,List.getElem?_cons_zero,List.getElem?_cons_succ,Bool.and_true,Bool.true_and,Bool.or_false,Bool.or_true,and_self,and_true,true_and,← List.map_append,← List.map_take,← List.map_drop] <;> rfl)
     focus (intro x hH; simp only [hH,List.all_nil,List.all_cons,zT,V.noBor,zP,Bool.and_true,Bool.true_and,Bool.or_false,Bool.or_true,List.contains_cons,List.contains_nil,Nat.reduceBEq,BEq.rfl])
     focus (intro x hH; simp only [hH,zB2,retS,entA,entC,zS7,jP,V.own,zG,Env.back,Env.graft,qG,Sl.map,Ag.map,C.killN,Env.node,Env.val,Env.sc,Env.cl,lk,zU,zR,qN,qJ,plain,Env.putO,Env.put,V.get,V.set,V.rowAt,V.setRow,Option.getD_some,List.set_cons_zero,List.set_cons_succ,qH,List.set_set,V.alive,rK,rB,rS,rL,List.getElem?_map,List.append_nil,↓reduceIte,eq_self,Option.isSome_some,Option.isSome_none,Option.bind_some,Option.bind_none,Option.map_some,Option.map_none,Bool.false_eq_true,Nat.reduceLT,Nat.reduceLeDiff,Nat.reduceEqDiff,Nat.reduceAdd,Nat.reduceMul,Nat.reduceSub,List.map_cons,List.map_nil,List.length_cons,List.length_nil,List.cons_append,List.nil_append,List.take_zero,List.take_succ_cons,List.drop_zero,List.drop_succ_cons,List.getElem?_cons_zero,List.getElem?_cons_succ,List.set_cons_zero,List.set_cons_succ,Bool.and_true,Bool.true_and,and_self,and_true,true_and] <;> rfl)
     focus (intro x hH; simp only [hH,V.noBor,zT,zP,klOf,klA,lkE,jQ,zD5,zG7,zG1,zQ8,zK7,zJ6,zL1,zT5,zK6,zL0,zB3,zK2,zJ5,deadS,exOf,boOf,lkd,dl,dlN,xH,zT2,kE,List.getElem?_toArray,dd,uS,fpS,rmK,rmN,kpOf,ndB,okW,okN,zE,Sl.ids,Sl.cells,C.ids,inter,zE4,Sl.nb,C.nb,tmps,Op.operands,Call.operands,Option.toArray,List.any_cons,List.any_nil,List.contains_cons,List.contains_nil,Nat.reduceBEq,BEq.rfl,Bool.or_false,Bool.or_true,Bool.true_or,Bool.false_or,Bool.not_true,Bool.not_false,Bool.and_false,Bool.false_and,decide_true,decide_false,decide_eq_true_eq,List.isEmpty_nil,List.isEmpty_cons,Array.toList_append,List.toList_toArray,List.append_assoc,xD,jB,xV,wF,zA7,qP,Env.sure,wH,zX,xU,Env.int,Env.node,zY,jM,jK,Env.bound,Env.cut,jS,V.alive,Env.takes,xM,Ag.cells,uG,Env.newListO,vO,over,Env.solid,Env.solidG,Env.parts,Ty.places,xN,Env.rowsOf,kR,qC,Env.rows,yM,wG,qD,V.isSc,C.killN,Ag.map,Sl.map,qG,Env.place,Env.lay,jZ,C.killA,kM,jO,kO,jX,Env.src,Env.newAt,jI,Env.take,V.get,V.set,V.rowAt,V.setRow,Option.getD_some,List.set_cons_zero,List.set_cons_succ,qH,List.set_set,vP,cellsOf,Env.behind,Env.val,Env.sc,Env.cl,lk,zU,zR,qN,qJ,plain,Env.putO,Env.put,kU,uX,unV,rK,rB,rS,rL,kN,wR,wQ,yB,wZ,wP,wV,uT,yD,jH,wL,wW,wN,wM,wU,wJ,yA,wK,wY,wS,yC,wX,wI,wO,wT,qK,jG,
      ↓reduceIte,eq_self,Option.isSome_some,Option.isSome_none,Option.bind_some,Option.bind_none,Option.map_some,Option.map_none,Bool.false_eq_true,Nat.reduceLT,Nat.reduceLeDiff,Nat.reduceEqDiff,Nat.reduceAdd,Nat.reduceMul,Nat.reduceSub,Int.reduceLT,Int.reduceEq,Int.reduceNeg,List.length_map,List.length_set,List.length_cons,List.length_nil,List.length_append,List.getElem?_map,List.map_cons,List.map_nil,true_or,or_true,or_false,false_or,and_true,true_and,and_self,not_true,not_false_eq_true,reduceCtorEq,List.all_cons,List.all_nil,Bool.and_true,Bool.true_and,ne_eq,List.drop_zero,List.nil_append,List.append_nil,List.singleton_append,List.cons_append,List.flatMap_cons,List.flatMap_nil,List.flatten_cons,List.flatten_nil,List.mapM_cons,List.mapM_nil,Option.pure_def,Option.bind_eq_bind,List.take_zero,List.take_succ_cons,List.drop_succ_cons,List.getElem?_cons_zero,List.getElem?_cons_succ,List.set_cons_zero,List.set_cons_succ,List.headD_cons,List.take_nil,List.drop_nil,Nat.sub_zero,Nat.add_zero,Nat.zero_add,Nat.zero_le,Nat.le_refl,← List.map_append,← List.map_take,← List.map_drop] <;> rfl))
  | (refine cA (o:=?_) (x:=?_) (y:=?_) (ts:=?_) (F:=?_) (F':=?_) (os:=?_) (kp:=?_) (bs:=?_) (nw:=?_) (rj:=?_) (bl:=?_) (e':=?_) ?_ ?_ ?_ ?_ ?_ ?_ ?_ ?_
     rotate_left 13
     focus (simp only [List.getElem?_toArray,List.getElem?_cons_zero,List.getElem?_cons_succ] <;> rfl)
     focus rfl
     focus (first | exact fun _=>.inl rfl | (intro hH; refine .inr ⟨_,_,_,rfl,rfl,?_⟩; simp only [hH,Env.sc,Env.val,lk,reduceIte,Nat.reduceEqDiff,Env.put]; done))
     focus (intro hH; simp only [hH,C.lend,V.bor,qB,Env.lend,klOf,klA,lkE,jQ,zD5,zG7,zG1,zQ8,zK7,zJ6,zL1,zT5,zK6,zL0,zB3,zK2,zJ5,deadS,exOf,boOf,lkd,dl,dlN,xH,zT2,kE,List.getElem?_toArray,dd,uS,fpS,rmK,rmN,kpOf,ndB,okW,okN,zE,Sl.ids,Sl.cells,C.ids,inter,zE4,Sl.nb,C.nb,tmps,Op.operands,Call.operands,Option.toArray,List.any_cons,List.any_nil,List.contains_cons,List.contains_nil,Nat.reduceBEq,BEq.rfl,Bool.or_false,Bool.or_true,Bool.true_or,Bool.false_or,Bool.not_true,Bool.not_false,Bool.and_false,Bool.false_and,decide_true,decide_false,decide_eq_true_eq,List.isEmpty_nil,List.isEmpty_cons,Array.toList_append,List.toList_toArray,List.append_assoc,xD,jB,xV,wF,zA7,qP,Env.sure,wH,zX,xU,Env.int,Env.node,zY,jM,jK,Env.bound,Env.cut,jS,V.alive,Env.takes,xM,Ag.cells,uG,Env.newListO,vO,over,Env.solid,Env.solidG,Env.parts,Ty.places,xN,Env.rowsOf,kR,qC,Env.rows,yM,wG,qD,V.isSc,C.killN,Ag.map,Sl.map,qG,Env.place,Env.lay,jZ,C.killA,kM,jO,kO,jX,Env.src,Env.newAt,jI,Env.take,V.get,V.set,V.rowAt,V.setRow,Option.getD_some,List.set_cons_zero,List.set_cons_succ,qH,List.set_set,vP,cellsOf,Env.behind,Env.val,Env.sc,Env.cl,lk,zU,zR,qN,qJ,plain,Env.putO,Env.put,kU,uX,unV,rK,rB,rS,rL,kN,wR,wQ,yB,wZ,wP,wV,uT,yD,jH,wL,wW,wN,wM,wU,wJ,yA,wK,wY,wS,yC,wX,wI,wO,wT,qK,jG,
      ↓reduceIte,eq_self,Option.isSome_some,Option.isSome_none,Option.bind_some,Option.bind_none,Option.map_some,Option.map_none,Bool.false_eq_true,Nat.reduceLT,Nat.reduceLeDiff,Nat.reduceEqDiff,Nat.reduceAdd,Nat.reduceMul,Nat.reduceSub,Int.reduceLT,Int.reduceEq,Int.reduceNeg,List.length_map,List.length_set,List.length_cons,List.length_nil,List.length_append,List.getElem?_map,List.map_cons,List.map_nil,true_or,or_true,or_false,false_or,and_true,true_and,and_self,not_true,not_false_eq_true,reduceCtorEq,List.all_cons,List.all_nil,Bool.and_true,Bool.true_and,ne_eq,List.drop_zero,List.nil_append,List.append_nil,List.singleton_append,List.cons_append,List.flatMap_cons,List.flatMap_nil,List.flatten_cons,List.flatten_nil,List.mapM_cons,List.mapM_nil,Option.pure_def,Option.bind_eq_bind,List.take_zero,List.take_succ_cons,List.drop_succ_cons,List.getElem?_cons_zero,List.getElem?_cons_succ,List.set_cons_zero,List.set_cons_succ,List.headD_cons,List.take_nil,List.drop_nil,Nat.sub_zero,Nat.add_zero,Nat.zero_add,Nat.zero_le,Nat.le_refl,← List.map_append,← List.map_take,← List.map_drop] <;> rfl)
     focus rfl
     focus (intro hH; simp only [hH,evOp,evConv,xD,jB,xV,wF,zA7,qP,Env.sure,wH,zX,xU,Env.int,Env.node,zY,jM,jK,Env.bound,Env.cut,jS,V.alive,Env.takes,xM,Ag.cells,uG,Env.newListO,vO,over,Env.solid,Env.solidG,Env.parts,Ty.places,xN,Env.rowsOf,kR,qC,Env.rows,yM,wG,qD,V.isSc,C.killN,Ag.map,Sl.map,qG,Env.place,Env.lay,jZ,C.killA,kM,jO,kO,jX,Env.src,Env.newAt,jI,Env.take,V.get,V.set,V.rowAt,V.setRow,Option.getD_some,List.set_cons_zero,List.set_cons_succ,qH,List.set_set,vP,cellsOf,Env.behind,Env.val,Env.sc,Env.cl,lk,zU,zR,qN,qJ,plain,Env.putO,Env.put,kU,uX,unV,rK,rB,rS,rL,kN,wR,wQ,yB,wZ,wP,wV,uT,yD,jH,wL,wW,wN,wM,wU,wJ,yA,wK,wY,wS,yC,wX,wI,wO,wT,qK,jG,
      ↓reduceIte,eq_self,Option.isSome_some,Option.isSome_none,Option.bind_some,Option.bind_none,Option.map_some,Option.map_none,Bool.false_eq_true,Nat.reduceLT,Nat.reduceLeDiff,Nat.reduceEqDiff,Nat.reduceAdd,Nat.reduceMul,Nat.reduceSub,Int.reduceLT,Int.reduceEq,Int.reduceNeg,List.length_map,List.length_set,List.length_cons,List.length_nil,List.length_append,List.getElem?_map,List.map_cons,List.map_nil,true_or,or_true,or_false,false_or,and_true,true_and,and_self,not_true,not_false_eq_true,reduceCtorEq,List.all_cons,List.all_nil,Bool.and_true,Bool.true_and,ne_eq,List.drop_zero,List.nil_append,List.append_nil,List.singleton_append,List.cons_append,List.flatMap_cons,List.flatMap_nil,List.flatten_cons,List.flatten_nil,List.mapM_cons,List.mapM_nil,Option.pure_def,Option.bind_eq_bind,List.take_zero,List.take_succ_cons,List.drop_succ_cons,List.getElem?_cons_zero,List.getElem?_cons_succ,List.set_cons_zero,List.set_cons_succ,List.headD_cons,List.take_nil,List.drop_nil,Nat.sub_zero,Nat.add_zero,Nat.zero_add,Nat.zero_le,Nat.le_refl,← List.map_append,← List.map_take,← List.map_drop]; with_reducible rfl)
     focus (intro hH; simp only [hH,V.noBor,zT,zP,klOf,klA,lkE,jQ,zD5,zG7,zG1,zQ8,zK7,zJ6,zL1,zT5,zK6,zL0,zB3,zK2,zJ5,deadS,exOf,boOf,lkd,dl,dlN,xH,zT2,kE,List.getElem?_toArray,dd,uS,fpS,rmK,rmN,kpOf,ndB,okW,okN,zE,Sl.ids,Sl.cells,C.ids,inter,zE4,Sl.nb,C.nb,tmps,Op.operands,Call.operands,Option.toArray,List.any_cons,List.any_nil,List.contains_cons,List.contains_nil,Nat.reduceBEq,BEq.rfl,Bool.or_false,Bool.or_true,Bool.true_or,Bool.false_or,Bool.not_true,Bool.not_false,Bool.and_false,Bool.false_and,decide_true,decide_false,decide_eq_true_eq,List.isEmpty_nil,List.isEmpty_cons,Array.toList_append,List.toList_toArray,List.append_assoc,xD,jB,xV,wF,zA7,qP,Env.sure,wH,zX,xU,Env.int,Env.node,zY,jM,jK,Env.bound,Env.cut,jS,V.alive,Env.takes,xM,Ag.cells,uG,Env.newListO,vO,over,Env.solid,Env.solidG,Env.parts,Ty.places,xN,Env.rowsOf,kR,qC,Env.rows,yM,wG,qD,V.isSc,C.killN,Ag.map,Sl.map,qG,Env.place,Env.lay,jZ,C.killA,kM,jO,kO,jX,Env.src,Env.newAt,jI,Env.take,V.get,V.set,V.rowAt,V.setRow,Option.getD_some,List.set_cons_zero,List.set_cons_succ,qH,List.set_set,vP,cellsOf,Env.behind,Env.val,Env.sc,Env.cl,lk,zU,zR,qN,qJ,plain,Env.putO,Env.put,kU,uX,unV,rK,rB,rS,rL,kN,wR,wQ,yB,wZ,wP,wV,uT,yD,jH,wL,wW,wN,wM,wU,wJ,yA,wK,wY,wS,yC,wX,wI,wO,wT,qK,jG,
      ↓reduceIte,eq_self,Option.isSome_some,Option.isSome_none,Option.bind_some,Option.bind_none,Option.map_some,Option.map_none,Bool.false_eq_true,Nat.reduceLT,Nat.reduceLeDiff,Nat.reduceEqDiff,Nat.reduceAdd,Nat.reduceMul,Nat.reduceSub,Int.reduceLT,Int.reduceEq,Int.reduceNeg,List.length_map,List.length_set,List.length_cons,List.length_nil,List.length_append,List.getElem?_map,List.map_cons,List.map_nil,true_or,or_true,or_false,false_or,and_true,true_and,and_self,not_true,not_false_eq_true,reduceCtorEq,List.all_cons,List.all_nil,Bool.and_true,Bool.true_and,ne_eq,List.drop_zero,List.nil_append,List.append_nil,List.singleton_append,List.cons_append,List.flatMap_cons,List.flatMap_nil,List.flatten_cons,List.flatten_nil,List.mapM_cons,List.mapM_nil,Option.pure_def,Option.bind_eq_bind,List.take_zero,List.take_succ_cons,List.drop_succ_cons,List.getElem?_cons_zero,List.getElem?_cons_succ,List.set_cons_zero,List.set_cons_succ,List.headD_cons,List.take_nil,List.drop_nil,Nat.sub_zero,Nat.add_zero,Nat.zero_add,Nat.zero_le,Nat.le_refl,← List.map_append,← List.map_take,← List.map_drop] <;> rfl))
  | (refine cW (o:=?_) (e':=?_) (os:=?_) (kp:=?_) (nw:=?_) (rj:=?_) ?_ ?_ ?_ ?_
     rotate_left 6
     focus (simp only [List.getElem?_toArray,List.getElem?_cons_zero,List.getElem?_cons_succ] <;> rfl)
     focus (first | exact fun _=>.inl rfl | (intro hH; refine .inr ⟨_,_,_,rfl,rfl,?_⟩; simp only [hH,Env.sc,Env.val,lk,reduceIte,Nat.reduceEqDiff,Env.put]; done))
     focus (intro hH; simp only [hH,V.noBor,zT,zP,klOf,klA,lkE,jQ,zD5,zG7,zG1,zQ8,zK7,zJ6,zL1,zT5,zK6,zL0,zB3,zK2,zJ5,deadS,exOf,boOf,lkd,dl,dlN,xH,zT2,kE,List.getElem?_toArray,dd,uS,fpS,rmK,rmN,kpOf,ndB,okW,okN,zE,Sl.ids,Sl.cells,C.ids,inter,zE4,Sl.nb,C.nb,tmps,Op.operands,Call.operands,Option.toArray,List.any_cons,List.any_nil,List.contains_cons,List.contains_nil,Nat.reduceBEq,BEq.rfl,Bool.or_false,Bool.or_true,Bool.true_or,Bool.false_or,Bool.not_true,Bool.not_false,Bool.and_false,Bool.false_and,decide_true,decide_false,decide_eq_true_eq,List.isEmpty_nil,List.isEmpty_cons,Array.toList_append,List.toList_toArray,List.append_assoc,evOp,evConv,xD,jB,xV,wF,zA7,qP,Env.sure,wH,zX,xU,Env.int,Env.node,zY,jM,jK,Env.bound,Env.cut,jS,V.alive,Env.takes,xM,Ag.cells,uG,Env.newListO,vO,over,Env.solid,Env.solidG,Env.parts,Ty.places,xN,Env.rowsOf,kR,qC,Env.rows,yM,wG,qD,V.isSc,C.killN,Ag.map,Sl.map,qG,Env.place,Env.lay,jZ,C.killA,kM,jO,kO,jX,Env.src,Env.newAt,jI,Env.take,V.get,V.set,V.rowAt,V.setRow,Option.getD_some,List.set_cons_zero,List.set_cons_succ,qH,List.set_set,vP,cellsOf,Env.behind,Env.val,Env.sc,Env.cl,lk,zU,zR,qN,qJ,plain,Env.putO,Env.put,kU,uX,unV,rK,rB,rS,rL,kN,wR,wQ,yB,wZ,wP,wV,uT,yD,jH,wL,wW,wN,wM,wU,wJ,yA,wK,wY,wS,yC,wX,wI,wO,wT,qK,jG,
      ↓reduceIte,eq_self,Option.isSome_some,Option.isSome_none,Option.bind_some,Option.bind_none,Option.map_some,Option.map_none,Bool.false_eq_true,Nat.reduceLT,Nat.reduceLeDiff,Nat.reduceEqDiff,Nat.reduceAdd,Nat.reduceMul,Nat.reduceSub,Int.reduceLT,Int.reduceEq,Int.reduceNeg,List.length_map,List.length_set,List.length_cons,List.length_nil,List.length_append,List.getElem?_map,List.map_cons,List.map_nil,true_or,or_true,or_false,false_or,and_true,true_and,and_self,not_true,not_false_eq_true,reduceCtorEq,List.all_cons,List.all_nil,Bool.and_true,Bool.true_and,ne_eq,List.drop_zero,List.nil_append,List.append_nil,List.singleton_append,List.cons_append,List.flatMap_cons,List.flatMap_nil,List.flatten_cons,List.flatten_nil,List.mapM_cons,List.mapM_nil,Option.pure_def,Option.bind_eq_bind,List.take_zero,List.take_succ_cons,List.drop_succ_cons,List.getElem?_cons_zero,List.getElem?_cons_succ,List.set_cons_zero,List.set_cons_succ,List.headD_cons,List.take_nil,List.drop_nil,Nat.sub_zero,Nat.add_zero,Nat.zero_add,Nat.zero_le,Nat.le_refl,← List.map_append,← List.map_take,← List.map_drop]; with_reducible rfl))
  | (refine ce (Q:=?_) (by kernel_rfl) ?_ ?_; rotate_left 2; focus (intro hq; (try simp only [xK,yY,vS,yU,yP,reduceIte,Nat.reduceEqDiff]); exact hq))
  | ((with_reducible refine l_nil (Q:=?_) ?_ ?_); rotate_left 2; focus (intro hq; (try simp only [xK,yY,vS,yU,yP,reduceIte,Nat.reduceEqDiff]); exact hq))
  | ((with_reducible refine l_skip (Q:=?_) ?_ ?_); rotate_left 2; focus (intro hq; (try simp only [xK,yY,vS,yU,yP,reduceIte,Nat.reduceEqDiff]); exact hq))
  | ((with_reducible refine l_exit (Q:=?_) ?_ ?_); rotate_left 2; focus (intro hq; (try simp only [xK,yY,vS,yU,yP,reduceIte,Nat.reduceEqDiff]); exact hq))
  | ((with_reducible refine l_ret (Q:=?_) ?_ ?_); rotate_left 2; focus (intro hq; (try simp only [xK,yY,vS,yU,yP,reduceIte,Nat.reduceEqDiff]); exact hq))
  | ((with_reducible refine exN (Q:=?_) ?_ ?_); rotate_left 2; focus (intro hq; (try simp only [xK,yY,vS,yU,yP,reduceIte,Nat.reduceEqDiff]); exact hq)) | ((with_reducible refine exR (Q:=?_) ?_ ?_); rotate_left 2; focus (intro hq; (try simp only [xK,yY,vS,yU,yP,reduceIte,Nat.reduceEqDiff]); exact hq))
  | ((with_reducible refine exM (Q:=?_) ?_ ?_ ?_); rotate_left 2; (focus (intro hq; (try simp only [xK,yY,vS,yU,yP,reduceIte,Nat.reduceEqDiff]); exact hq)); (focus (intro c; rfl)))
  | ((with_reducible refine exMR (Q:=?_) ?_ ?_ ?_); rotate_left 2; (focus (intro hq; (try simp only [xK,yY,vS,yU,yP,reduceIte,Nat.reduceEqDiff]); exact hq)); (focus (intro c; rfl)))
  | ((with_reducible refine l_qop (e':=?_) rfl ?_ ?_)
     rotate_left
     focus (intro hH; simp only [hH,qH6,qF2,qE9,xD,jB,xV,wF,zA7,qP,Env.sure,wH,zX,xU,Env.int,Env.node,zY,jM,jK,Env.bound,Env.cut,jS,V.alive,Env.takes,xM,Ag.cells,uG,Env.newListO,vO,over,Env.solid,Env.solidG,Env.parts,Ty.places,xN,Env.rowsOf,kR,qC,Env.rows,yM,wG,qD,V.isSc,C.killN,Ag.map,Sl.map,qG,Env.place,Env.lay,jZ,C.killA,kM,jO,kO,jX,Env.src,Env.newAt,jI,Env.take,V.get,V.set,V.rowAt,V.setRow,Option.getD_some,List.set_cons_zero,List.set_cons_succ,qH,List.set_set,vP,cellsOf,Env.behind,Env.val,Env.sc,Env.cl,lk,zU,zR,qN,qJ,plain,Env.putO,Env.put,kU,uX,unV,rK,rB,rS,rL,kN,wR,wQ,yB,wZ,wP,wV,uT,yD,jH,wL,wW,wN,wM,wU,wJ,yA,wK,wY,wS,yC,wX,wI,wO,wT,qK,jG,
      ↓reduceIte,eq_self,Option.isSome_some,Option.isSome_none,Option.bind_some,Option.bind_none,Option.map_some,Option.map_none,Bool.false_eq_true,Nat.reduceLT,Nat.reduceLeDiff,Nat.reduceEqDiff,Nat.reduceAdd,Nat.reduceMul,Nat.reduceSub,Int.reduceLT,Int.reduceEq,Int.reduceNeg,List.length_map,List.length_set,List.length_cons,List.length_nil,List.length_append,List.getElem?_map,List.map_cons,List.map_nil,true_or,or_true,or_false,false_or,and_true,true_and,and_self,not_true,not_false_eq_true,reduceCtorEq,List.all_cons,List.all_nil,Bool.and_true,Bool.true_and,ne_eq,List.drop_zero,List.nil_append,List.append_nil,List.singleton_append,List.cons_append,List.flatMap_cons,List.flatMap_nil,List.flatten_cons,List.flatten_nil,List.mapM_cons,List.mapM_nil,Option.pure_def,Option.bind_eq_bind,List.take_zero,List.take_succ_cons,List.drop_succ_cons,List.getElem?_cons_zero,List.getElem?_cons_succ,List.set_cons_zero,List.set_cons_succ,List.headD_cons,List.take_nil,List.drop_nil,Nat.sub_zero,Nat.add_zero,Nat.zero_add,Nat.zero_le,Nat.le_refl,← List.map_append,← List.map_take,← List.map_drop]; with_reducible rfl))
  | ((with_reducible refine l_callQ (e2:=?_) rfl rfl ?_ ?_ ?_ ?_)
     rotate_left
     focus (intro x; rfl)
     focus (intro hH; simp only [hH,zI2,zD7,Env.callee,Env.args,qF,Env.own1,Env.carve,Env.lend,Env.fill,zB1,Env.deadAt,Env.deads,Env.node,Env.rows,Env.val,Env.sc,Env.cl,lk,zU,zR,qN,qJ,plain,Env.putO,Env.put,V.get,V.set,V.rowAt,V.setRow,Option.getD_some,List.set_cons_zero,List.set_cons_succ,qH,List.set_set,V.alive,V.bor,qB,rK,rB,rS,rL,List.getElem?_map,List.append_nil,↓reduceIte,eq_self,Option.isSome_some,Option.isSome_none,Option.bind_some,Option.bind_none,Option.map_some,Option.map_none,Bool.false_eq_true,Nat.reduceLT,Nat.reduceLeDiff,Nat.reduceEqDiff,Nat.reduceAdd,Nat.reduceMul,Nat.reduceSub,Nat.reduceBEq,List.map_cons,List.map_nil,List.length_cons,List.length_nil,List.cons_append,List.nil_append,List.headD_cons,List.tail_cons,List.contains_nil,List.contains_cons,List.take_zero,List.take_succ_cons,List.drop_zero,List.drop_succ_cons,List.getElem?_cons_zero,List.getElem?_cons_succ,Bool.and_true,Bool.true_and,Bool.or_false,Bool.or_true,and_self,and_true,true_and,← List.map_append,← List.map_take,← List.map_drop] <;> rfl)
     focus (intro x; simp only [Env.putO,Env.put,reduceIte,Nat.reduceLT]; rfl))
  | ((with_reducible refine l_qnil (Q:=?_) ?_ ?_); rotate_left 2; focus (intro hq; (try simp only [xK,yY,vS,yU,yP,reduceIte,Nat.reduceEqDiff]); exact hq))
  | (refine l_qon rfl rfl rfl ?_ ?_
     focus (intro hH; simp only [hH,Env.sc,Env.val,lk,reduceIte,Nat.reduceEqDiff]; done))
  | (refine l_qoff (e':=?_) rfl rfl rfl ?_ ?_ ?_
     rotate_left
     focus (intro hH; simp only [hH,Env.sc,Env.val,lk,reduceIte,Nat.reduceEqDiff,Bool.not_true,Bool.not_false]; done)
     focus (simp only [Env.putO,Env.put,reduceIte,Nat.reduceLT]; rfl))
  | (refine l_qdead (e':=?_) rfl rfl rfl ?_ ?_ ?_
     rotate_left
     focus (simp only [Env.val,lk,reduceIte,Nat.reduceEqDiff]; done)
     focus (simp only [Env.putO,Env.put,reduceIte,Nat.reduceLT]; rfl)))
 exact hn):goal:=h hn
theorem gz {goal:Prop} (h:goal:=by
 refine go ?_
 first | (apply og; intro hH; simp only [hH,zT3,Env.res1,Env.fin,List.filter_cons,List.filter_nil,decide_true,decide_false,xD,jB,xV,wF,zA7,qP,Env.sure,wH,zX,xU,Env.int,Env.node,zY,jM,jK,Env.bound,Env.cut,jS,V.alive,Env.takes,xM,Ag.cells,uG,Env.newListO,vO,over,Env.solid,Env.solidG,Env.parts,Ty.places,xN,Env.rowsOf,kR,qC,Env.rows,yM,wG,qD,V.isSc,C.killN,Ag.map,Sl.map,qG,Env.place,Env.lay,jZ,C.killA,kM,jO,kO,jX,Env.src,Env.newAt,jI,Env.take,V.get,V.set,V.rowAt,V.setRow,Option.getD_some,List.set_cons_zero,List.set_cons_succ,qH,List.set_set,vP,cellsOf,Env.behind,Env.val,Env.sc,Env.cl,lk,zU,zR,qN,qJ,plain,Env.putO,Env.put,kU,uX,unV,rK,rB,rS,rL,kN,wR,wQ,yB,wZ,wP,wV,uT,yD,jH,wL,wW,wN,wM,wU,wJ,yA,wK,wY,wS,yC,wX,wI,wO,wT,qK,jG,
      ↓reduceIte,eq_self,Option.isSome_some,Option.isSome_none,Option.bind_some,Option.bind_none,Option.map_some,Option.map_none,Bool.false_eq_true,Nat.reduceLT,Nat.reduceLeDiff,Nat.reduceEqDiff,Nat.reduceAdd,Nat.reduceMul,Nat.reduceSub,Int.reduceLT,Int.reduceEq,Int.reduceNeg,List.length_map,List.length_set,List.length_cons,List.length_nil,List.length_append,List.getElem?_map,List.map_cons,List.map_nil,true_or,or_true,or_false,false_or,and_true,true_and,and_self,not_true,not_false_eq_true,reduceCtorEq,List.all_cons,List.all_nil,Bool.and_true,Bool.true_and,ne_eq,List.drop_zero,List.nil_append,List.append_nil,List.singleton_append,List.cons_append,List.flatMap_cons,List.flatMap_nil,List.flatten_cons,List.flatten_nil,List.mapM_cons,List.mapM_nil,Option.pure_def,Option.bind_eq_bind,List.take_zero,List.take_succ_cons,List.drop_succ_cons,List.getElem?_cons_zero,List.getElem?_cons_succ,List.set_cons_zero,List.set_cons_succ,List.headD_cons,List.take_nil,List.drop_nil,Nat.sub_zero,Nat.add_zero,Nat.zero_add,Nat.zero_le,Nat.le_refl,← List.map_append,← List.map_take,← List.map_drop] <;> rfl) | (apply on; intro hH; simp only [hH,zT3,Env.res1,Env.fin,List.filter_cons,List.filter_nil,decide_true,decide_false,xD,jB,xV,wF,zA7,qP,Env.sure,wH,zX,xU,Env.int,Env.node,zY,jM,jK,Env.bound,Env.cut,jS,V.alive,Env.takes,xM,Ag.cells,uG,Env.newListO,vO,over,Env.solid,Env.solidG,Env.parts,Ty.places,xN,Env.rowsOf,kR,qC,Env.rows,yM,wG,qD,V.isSc,C.killN,Ag.map,Sl.map,qG,Env.place,Env.lay,jZ,C.killA,kM,jO,kO,jX,Env.src,Env.newAt,jI,Env.take,V.get,V.set,V.rowAt,V.setRow,Option.getD_some,List.set_cons_zero,List.set_cons_succ,qH,List.set_set,vP,cellsOf,Env.behind,Env.val,Env.sc,Env.cl,lk,zU,zR,qN,qJ,plain,Env.putO,Env.put,kU,uX,unV,rK,rB,rS,rL,kN,wR,wQ,yB,wZ,wP,wV,uT,yD,jH,wL,wW,wN,wM,wU,wJ,yA,wK,wY,wS,yC,wX,wI,wO,wT,qK,jG,
      ↓reduceIte,eq_self,Option.isSome_some,Option.isSome_none,Option.bind_some,Option.bind_none,Option.map_some,Option.map_none,Bool.false_eq_true,Nat.reduceLT,Nat.reduceLeDiff,Nat.reduceEqDiff,Nat.reduceAdd,Nat.reduceMul,Nat.reduceSub,Int.reduceLT,Int.reduceEq,Int.reduceNeg,List.length_map,List.length_set,List.length_cons,List.length_nil,List.length_append,List.getElem?_map,List.map_cons,List.map_nil,true_or,or_true,or_false,false_or,and_true,true_and,and_self,not_true,not_false_eq_true,reduceCtorEq,List.all_cons,List.all_nil,Bool.and_true,Bool.true_and,ne_eq,List.drop_zero,List.nil_append,List.append_nil,List.singleton_append,List.cons_append,List.flatMap_cons,List.flatMap_nil,List.flatten_cons,List.flatten_nil,List.mapM_cons,List.mapM_nil,Option.pure_def,Option.bind_eq_bind,List.take_zero,List.take_succ_cons,List.drop_succ_cons,List.getElem?_cons_zero,List.getElem?_cons_succ,List.set_cons_zero,List.set_cons_succ,List.headD_cons,List.take_nil,List.drop_nil,Nat.sub_zero,Nat.add_zero,Nat.zero_add,Nat.zero_le,Nat.le_refl,← List.map_append,← List.map_take,← List.map_drop] <;> rfl) | exact nn):goal:=h
end
end Go.TV
namespace Go.TV
def Kept (ds:List Nat) (a0 a:Act):Prop:=∀ t,t ∉ ds→a.tmps.getD t undef=a0.tmps.getD t undef
theorem Kept.put {ds:List Nat} {a0 a:Act} {dst:Option Nat} {u:Value} {a':Act} (h:Kept ds a0 a) (hd:∀ d ∈ dl dst,d ∈ ds) (he:a'.tmps=(a.put dst u).tmps):Kept ds a0 a':=fun t ht=>by
 rw [he,← h t ht]
 cases dst with
 | none=>rfl
 | some d =>
  have:d≠t:=fun q=>ht (q ▸ hd d (by simp [dl]))
  simp only [Act.put,Array.getD_eq_getD_getElem?]
  rw [Array.getElem?_setIfInBounds_ne this]
section
variable {P:Program} {md:Region.Mode} {ops:Array Oper} {Q Q':Exit→Act→World→Prop}
theorem Oper.wp_put {o:Oper} {a:Act} {w:World} {K K':Act→World→Prop} (hQ:∀ x a w,Q x a w→x=.normal) (h:∀ a' w,(∃ u,a'.tmps=(a.put o.dst u).tmps)→K a' w→K' a' w) (hh:o.wp P a w K Q):o.wp P a w K' Q':=by
 unfold Oper.wp at *
 generalize (execOp a.eval o).run P w=r at *
 cases r with
 | ok n w' =>
  cases n <;> simp only [Oper.upon] at hh ⊢ <;>
   first
    | exact h _ _ ⟨_,rfl⟩ hh
    | exact h _ _ ⟨undef,by cases o.dst <;> rfl⟩ hh
    | exact Calls.mono hh (fun e w'' he=>by cases e <;> first | exact h _ _ ⟨_,rfl⟩ he | exact nomatch (hQ _ _ _ he) | exact nomatch (hQ _ _ _ he.choose_spec.choose_spec))
    | exact Rows.mono hh (fun _ _ he=>h _ _ ⟨_,rfl⟩ he)
 | halt x w'=>cases x <;> simp only [Oper.upon] at hh ⊢ <;> first | exact hh | exact nomatch (hQ _ _ _ hh) | exact nomatch (hQ _ _ _ hh.choose_spec.choose_spec)
theorem qH2 {ds:List Nat} {a0:Act} (hQ:∀ x a w,Q x a w→x=.normal) (hQ':∀ a w,Q .normal a w→Kept ds a0 a→Q' .normal a w) (hds:∀ (i:Nat) o,ops[i]? = some o→∀ d ∈ dl o.dst,d ∈ ds) :
  ∀ fuel listed a w,Kept ds a0 a→wpAny P md ops Q fuel listed a w→wpAny P md ops Q' fuel listed a w
 | 0,listed,a,w,hk,h=>⟨h.1,hQ' _ _ h.2 hk⟩
 | fuel+1,listed,a,w,hk,h=>by
  refine ⟨fun z=>hQ' _ _ (h.1 z) hk,fun i hi=>?_⟩
  have h1:=h.2 i hi
  unfold wpOp at h1 ⊢
  cases ho:ops[i]? with
  | none =>
   rw [ho] at h1
   exact qH2 hQ hQ' hds fuel _ a w hk h1
  | some o =>
   rw [ho] at h1
   simp only at h1 ⊢
   split at h1
   ·rename_i hw
    rw [if_pos hw]
    rcases h1 with h1 | ⟨_,h1⟩
    ·exact .inl (Oper.wp_put hQ (fun a' w' ⟨u,hu⟩ hK=>qH2 hQ hQ' hds fuel _ a' w' (hk.put (hds i o ho) hu) hK) h1)
    ·exact nomatch (hQ _ _ _ h1.choose_spec.choose_spec)
   ·rename_i hw
    rw [if_neg hw]
    exact qH2 hQ hQ' hds fuel _ _ w (hk.put (hds i o ho) rfl) h1
end
def dsL:List Oper→List Nat
 | []=>[]
 | o :: l=>dl o.dst++dsL l
theorem dsL_mem:∀ {l:List Oper} {i:Nat} {o:Oper},l[i]? = some o→∀ d ∈ dl o.dst,d ∈ dsL l
 | [],i,o,h,_,_=>by simp at h
 | x :: l,0,o,h,d,hd=>by
  simp only [List.getElem?_cons_zero,Option.some.injEq] at h
  subst h
  exact List.mem_append.2 (.inl hd)
 | x :: l,i+1,o,h,d,hd=>List.mem_append.2 (.inr (dsL_mem (by simpa using h) d hd))
def Env.lendO (e:Env) (i:Nat):Option Env:=
 (lk i e.ob).bind fun v=>if v.own=true then some {N:=e.N,np:=e.nx,nx:=e.nx,sl:=qG (C.frz i v.bor) e.sl,ob:=zR i e.ob} else none
def Env.unlendO (e e':Env) (i:Nat) (ko kn:List Nat):Option Env:=
 (lk i e.ob).map fun v=>{N:=e.N,np:=e.np,nx:=e'.nx,sl:=fpS e.sl ko++fpS e'.sl kn,ob:=(i,v) :: e'.ob}
def okB (e e':Env) (i:Nat) (ds ko kn:List Nat):Bool:=
 e'.N == e.N && e'.np == e.nx && !(zE e'.ob).contains i && (ko.all fun t=>!ds.contains t && match lk t e.sl with | some s=>s.ids.all (· == i) | none=>true) &&
 (kn.all fun t=>match lk t e'.sl with | some s=>s.nb && !s.ids.contains i | none=>true)
section
variable {X:Cfg} {Post:Exit→Env→Prop} {e e0 e' e2:Env} {i:Nat} {l:List Oper} {ko kn:List Nat}
theorem StD.lendO {gG:GG} {c:Ctx gG} {a:Act} {w:World} {D:CS} {hs:Nat→Value} {S:CS} (h:StD c e a w D hs S) (he:e.lendO i=some e0) :
  ∃ v T G,lk i e.ob=some v∧v.own=true∧Rep w D v (hs i) T∧S=cup T G∧TV.dj T G∧StD (gG:=gG) ⟨w,G,cup D T,hs⟩ e0 a w (cup D T) hs G:=by
 obtain ⟨v,h1,h2⟩:=zbi he
 split at h2
 case isFalse=>cases h2
 rename_i hv
 injection h2 with h2
 subst h2
 obtain ⟨T,G,g1,rfl,g3,g4,_⟩:=h.ob.focus e.ob S i v h1
 have hb:∀ b o,T b o→b < w.heap.size:=fun b o q=>h.ob.blt b o (.inl q)
 have hl:=Rep.lent v (hs i) T g1 (D2:=cup D T) (qU _ _) (yO _ _) (V.own_alive hv)
 have hD:sub D (cup D T):=qU _ _
 have hlkd:∀ k,lk k (zR i e.ob)=if k=i then none else lk k e.ob:=fun k=>by
  by_cases q:k=i
  ·subst q; rw [if_pos rfl]; exact ObRep.del e.ob _ h.ob
  ·rw [if_neg q]; exact zQ2 q e.ob
 refine ⟨v,T,G,h1,hv,g1,rfl,g3,{
  ob:=ObRep.keep hD (zH w D) _ G g4 (zH w G) (fun _ _ _=>rfl)
  sl:=fun t s q=>?_
  sz:=h.sz
  df:=h.df
  dj:=fun x y p q=>q.elim (fun q=>h.dj x y (.inr p) q) (fun q=>g3 x y q p)
  Dl:=fun b o q=>q.elim (h.Dl b o) (hb b o)
  id:=fun k x q=>by
   have q:lk k (zR i e.ob)=some x:=q
   rw [hlkd] at q
   split at q
   ·cases q
   ·exact h.id k x q
  npx:=Nat.le_refl _
  hp:=fun _ _=>rfl
  fr:=Frm.refl w G
  Ss:=fun _ _ q=>.inl q
  D0:=zD _
  Ds:=fun _ _ q=>.inl q
  gl:=h.glo.mono (yO _ _) hD}⟩
 have q:lk t (qG (C.frz i v.bor) e.sl)=some s:=q
 rw [qA1,Option.map_eq_some_iff] at q
 obtain ⟨s0,q1,rfl⟩:=q
 refine SlRep.mapF (fun k u hk=>?_) (h.sl t s0 q1)
 have key:CRep w (cup D T) hs e.nx (zR i e.ob) k u:=CRep.move hD (zH _ _) hk (fun m hm=>⟨CsRep.id (cs:=[k]) (us:=[u]) ⟨u,[],rfl,hk,rfl⟩ k (by simp) m hm,fun p v' x' e1 e2=>by
  rw [hlkd] at e1
  split at e1
  ·cases e1
  ·exact ⟨v',x',e1,e2,fun _ q _=>q⟩⟩)
 cases k with
 | ref m p =>
  cases p with
  | nil =>
   simp only [C.frz]
   split
   ·rename_i q
    subst q
    obtain ⟨_,hp⟩:=hk
    obtain ⟨u1,e1,_,e2⟩:=hp v v h1 rfl
    injection e1 with e1
    rw [← e2,← e1]
    exact hl
   ·exact key
  | cons s p =>
   simp only [C.frz]
   split
   ·trivial
   ·exact key
 | part m p n lo hi =>
  simp only [C.frz]
  split
  ·trivial
  ·exact key
 | addr m p n r j =>
  simp only [C.frz]
  split
  ·trivial
  ·exact key
 | v x=>exact key
 | ba row=>exact key
 | dead=>trivial
theorem lendR {id:Nat} (he:e.lendO i=some e0) (hb:e.unlendO e' i ko kn=some e2) (hc:okB e e' i (dsL l) ko kn=true) (hnb:e'.ob.all (fun q=>q.2.noBor)=true) (h:anyV X l.toArray l.length (Array.replicate l.length false) (fun _ ee=>ee=e') e0) (hP:Post .normal e2) :
  wpV X (.region id l.toArray true) Post e:=by
 refine regAny (fun k a w hst=>?_)
 obtain ⟨D,hs,S,hd⟩:=hst
 obtain ⟨v,T,G,h1,hv,g1,rfl,g3,hd1⟩:=hd.lendO he
 have h2:=h _ a w ⟨_,_,_,hd1⟩
 refine qH2 (ds:=dsL l) (a0:=a) (fun x a w q=>q.1) (fun a' w' q hk=>?_) (fun j o ho=>dsL_mem (by simpa using ho)) _ _ a w (fun _ _=>rfl) h2
 obtain ⟨_,e'',rfl,D',hs',S',hn⟩:=q
 unfold okB at hc
 simp only [Bool.and_eq_true,beq_iff_eq,Bool.not_eq_true',List.all_eq_true] at hc
 obtain ⟨⟨⟨⟨c1,c2⟩,c3⟩,c4⟩,c5⟩:=hc
 obtain ⟨v',hb1,rfl⟩:=Option.map_eq_some_iff.1 hb
 rw [h1] at hb1
 injection hb1 with hb1
 subst hb1
 have hi:=hd.id i v h1
 have hnx:e.nx≤e''.nx:=by have:=hn.npx; omega
 have hhs:∀ j,j < e.nx→hs' j=hs j:=fun j hj=>hn.hp j (by omega)
 have hT:TV.sameOn w w' T:=hn.fr.sameOn g3 (fun b o q=>hd.ob.blt b o (.inl q))
 have hD:TV.sameOn w w' D:=hn.fr.sameOn (fun x y p q=>hd.dj x y (.inr q) p) hd.Dl
 have hjT:TV.dj T S':=fun x y p q=>hn.dj x y q (hn.D0 x y (.inr p))
 have hino:lk i e''.ob=none:=by
  refine lk_none (fun z=>?_)
  have:(zE e''.ob).contains i=true:=by simpa using z
  rw [this] at c3
  cases c3
 have hnb':∀ j x,lk j e''.ob=some x→x.noBor=true:=fun j x q=>List.all_eq_true.1 hnb _ (qA8 q)
 have hTk:=g1.keep (zD D) hD hT
 refine ⟨rfl,_,hP,D,hs',cup T S',{
  ob:=⟨T,S',hino,by rw [hhs i hi]; exact hTk,ObRep.unlend _ _ hnb' hn.ob,hjT,rfl⟩
  sl:=fun t s q=>?_
  sz:=by show a'.tmps.size=e.N; rw [← c1]; exact hn.sz
  df:=hn.df
  dj:=fun x y p q=>p.elim (fun p=>hd.dj x y (.inl p) q) (fun p=>hn.dj x y p (hn.D0 x y (.inl q)))
  Dl:=fun b o q=>Nat.lt_of_lt_of_le (hd.Dl b o q) hn.fr.size
  id:=fun j x q=>by
   have q:lk j ((i,v) :: e''.ob)=some x:=q
   rw [zL] at q
   split at q
   ·rename_i z; subst z; show j < e''.nx; omega
   ·exact hn.id j x q
  npx:=Nat.le_trans hd.npx hnx
  hp:=fun j hj=>by rw [hhs j (Nat.lt_of_lt_of_le hj hd.npx)]; exact hd.hp j hj
  fr:=hd.fr.trans hn.fr (fun b o q=>hd.Ss b o (.inr q))
  Ss:=fun b o q=>q.elim (fun q=>hd.Ss b o (.inl q)) (fun q=>(hn.Ss b o q).elim (fun q=>hd.Ss b o (.inr q)) (fun q=>.inr (Nat.le_trans hd.fr.size q)))
  D0:=hd.D0
  Ds:=hd.Ds
  gl:=hd.gl}⟩
 have q:lk t (fpS e.sl ko++fpS e''.sl kn)=some s:=q
 rw [lk_app,uK,uK] at q
 have old:t ∈ ko→lk t e.sl=some s→SlRep w' D hs' e''.nx ((i,v) :: e''.ob) s (a'.tmps.getD t undef):=fun ht hs1=>by
  have c:=c4 t ht
  rw [hs1] at c
  simp only [Bool.and_eq_true,Bool.not_eq_true',List.all_eq_true,beq_iff_eq] at c
  rw [hk t (fun z=>by
   have:(dsL l).contains t=true:=by simpa using z
   rw [this] at c
   cases c.1)]
  refine SlRep.move (zD D) hD (hd.sl t s hs1) (fun j hj=>?_)
  have hji:=c.2 j hj
  subst hji
  refine ⟨by omega,fun p v' x' q1 q2=>?_⟩
  rw [zL,if_pos rfl] at q1
  injection q1 with q1
  subst q1
  exact ⟨v,x',h1,q2,fun u hu _=>by rw [hhs j hi,g1.loc_keep q2 hD hT]; exact hu⟩
 have new:t ∈ kn→lk t e''.sl=some s→SlRep w' D hs' e''.nx ((i,v) :: e''.ob) s (a'.tmps.getD t undef):=fun ht hs1=>by
  have c:=c5 t ht
  rw [hs1] at c
  simp only [Bool.and_eq_true,Bool.not_eq_true'] at c
  have z:=hn.sl t s hs1
  refine SlRep.unlend (D:=D') c.1 (SlRep.move (zD D') (zH _ _) z (fun j hj=>⟨SlRep.id z j hj,fun p v' x' q1 q2=>?_⟩))
  rw [zL] at q1
  split at q1
  ·rename_i z
   subst z
   have:s.ids.contains j=true:=by simpa using hj
   rw [this] at c
   cases c.2
  ·exact ⟨v',x',q1,q2,fun _ q _=>q⟩
 by_cases h3:t ∈ ko
 ·rw [if_pos h3] at q
  cases h4:lk t e.sl with
  | some s' =>
   rw [h4] at q
   simp only [Option.orElse,Option.some.injEq] at q
   subst q
   exact old h3 h4
  | none =>
   rw [h4] at q
   simp only [Option.orElse] at q
   split at q
   ·exact new (by assumption) q
   ·cases q
 ·rw [if_neg h3] at q
  simp only [Option.orElse] at q
  split at q
  ·exact new (by assumption) q
  ·cases q
end
section
variable {ρ:Type} {H:Prop} {t:Option ρ} {r:ρ} {X:Cfg} {Post:Exit→Env→Prop} {e e0 e' e2:Env} {l:List Oper} {acc:List Dat} {Q:Prop}
theorem rO {id:Nat} (i:Nat) (ix:List Nat) (h:Tl H t r (Cy X l.toArray e0 (wpV X (.region id l.toArray true) Post e) ix [] e0)) (he:H→e.lendO i=some e0:=by
   intro hH
   simp only [hH,Env.lendO,lk,zR,V.own,V.bor,qB,rK,rB,rS,rL,qG,Sl.map,Ag.map,C.frz,List.map_cons,List.map_nil,Option.bind_some,reduceIte,Nat.reduceEqDiff,Nat.reduceLeDiff,and_self,true_and,and_true] <;> rfl) (h0:okE e0=true:=by kernel_rfl):Tl H t r (wpV X (.region id l.toArray true) Post e):=fun a b=>h a b [] (AOk.start h0)
theorem bO {id:Nat} (i:Nat) (ko kn:List Nat) (h:Tl H t r Q) (hc:chkR l.toArray (e0.sl.map fun q=>(q.1,q.2.ids)) (zE e0.ob) acc=true:=by kernel_rfl) (he:H→e.lendO i=some e0:=by
   intro hH
   simp only [hH,Env.lendO,lk,zR,V.own,V.bor,qB,rK,rB,rS,rL,qG,Sl.map,Ag.map,C.frz,List.map_cons,List.map_nil,Option.bind_some,reduceIte,Nat.reduceEqDiff,Nat.reduceLeDiff,and_self,true_and,and_true] <;> rfl)
  (hb:e.unlendO e' i ko kn=some e2:=by
   simp only [Env.unlendO,lk,fpS,reduceIte,Nat.reduceEqDiff,Option.map_some,List.cons_append,List.nil_append] <;> rfl)
  (hk:okB e e' i (dsL l) ko kn=true:=by kernel_rfl)
  (hnb:H→e'.ob.all (fun q=>q.2.noBor)=true:=by
   intro hH
   simp only [hH,List.all_cons,List.all_nil,V.noBor,zT,zP,rK,rB,rS,rL,Bool.and_true,Bool.true_and,Bool.and_self])
  (hq:Q→Post .normal e2:=by
   intro hq
   try simp only [xK,yY,vS,yU,yP,reduceIte,Nat.reduceEqDiff]
   exact hq):Tl H t r (Cy X l.toArray e0 (wpV X (.region id l.toArray true) Post e) [] acc e'):=fun a b st hst =>
 lendR (he a) hb hk (hnb a) (cx_any hc hst.v hst.d hst.N hst.np hst.x0 hst.nx (fun t x ht=>⟨(hst.sl t x ht).1,(hst.sl t x ht).2.1⟩) hst.ob hst.nd rfl) (hq (h a b))
end
end Go.TV
namespace Go.TV
open Go.Proofs Go.RowKit Go.Maps Go.Sort Go.Shelf
variable {P:Program} {ρ:Ren}
def SeqB (F:Fence) (n:Nat) (P:Program) (g:Nat) (lb:Array Value) (d:List Int) (w:World):Prop:=
 ∀ (l:Nat) (J:List Int→World→Prop) (W:World),Below w.heap.size w W→AbidesFrom W.heap.size J→(∀ s W1,J s W1→Below w.heap.size w W1) →
  (∀ pre x W1,J pre W1→pre.length < d.length→YieldAt F (n - 1) P l #[encZ x] W1 fun e W'=>e=.returned (.bool true)∧J (pre++[x]) W'∧KeepsWalks W1 W') →
  J [] W →
  CallsIn F n P g (#[.func (.yield l) #[] #[]]++lb) W fun e W'=>(∃ v,e=.returned v)∧J d W'
set_option maxRecDepth 100000 in
set_option maxHeartbeats 2000000 in
theorem appendB_in (L:SlLaysZI.n11 P ρ) (F:Fence) (n:Nat) (h11:F.fn (ρ.f 11)) (hro:F.round=none) (hn:2≤n) (g:Nat) (lb:Array Value) (hFg:F.fn g) (eg:∀ args w,(callFunc g args).run P w=.ok (.enter g args) w)
  (d:List Int) (hN:d.length≤maxLen) (hNb:d.length * 8≤140737488355328) (w:World) (hseq:SeqB F (n - 1) P g lb d w) :
  CallsIn F n P (ρ.f 11) #[.slice none 0 0,.func (.func g) #[] lb] w fun e w'=>∃ (v:Value),e=.returned v∧w'.ownsRow w.heap.size (ρ.t 26) 1 v d.length (d.map encZ)∧(v=.slice none 0 0↔d=[])∧Below w.heap.size w w':=by
 have h1:1≤n:=by omega
 have mixed:=L.mixed; have t0:=L.t0; have a0:=L.a0; have z0:=L.z0; have v0:=L.v0; have t24:=L.t24; have a24:=L.a24; have z24:=L.z24; have v24:=L.v24; have t26:=L.t26; have a26:=L.a26; have z26:=L.z26; have v26:=L.v26; have t28:=L.t28; have a28:=L.a28; have z28:=L.z28; have v28:=L.v28
 have hne:ρ.t 24≠ρ.t 26:=fun e=>by have h:=L.t24; rw [e,L.t26] at h; cases h
 have u0:=run_underlying L.t0; have u24:=run_underlying L.t24; have u26:=run_underlying L.t26; have u28:=run_underlying L.t28
 obtain ⟨_,_,FG⟩:=L.f11
 refine callsIn_of_wp_marks FG rfl h11 ?_ hro
 simp only [SlBodyZ.n11_ntmps ρ,List.size_toArray,List.length_cons,List.length_nil,Nat.reduceAdd,Nat.reduceSub,Array.replicate_succ,Array.replicate_zero,List.push_toArray,List.append_toArray,List.nil_append,List.cons_append]
 gi_wp2
 refine wpIn_rangeFunc ?_
 intro fn hfn
 rw [hro]
 obtain ⟨W0,hW0⟩:∃ W0,w.alloc (.cells #[.slice none 0 0] (ρ.t 24))=W0:=⟨_,rfl⟩
 have hs0:W0.heap.size=w.heap.size+1:=by rw [← hW0]; simp
 have hv0:W0.heap[w.heap.size]? = some (.cells #[.slice none 0 0] (ρ.t 24) (0,0)):=by rw [← hW0]; exact World.alloc_heap_new w _
 have hb0:Below w.heap.size w W0:=by rw [← hW0]; exact (Below.refl _ w).alloc (Nat.le_refl _) _
 rw [hW0]
 obtain ⟨W1,hW1⟩:∃ W1,(W0.alloc (.deferred (some []))).alloc (.loop (AnyZI.apRec ρ fn (.func (.func g) #[] lb) w.heap.size W0.heap.size .ready none))=W1:=⟨_,rfl⟩
 have hold:∀ k,k < W0.heap.size→W1.heap[k]? = W0.heap[k]?:=fun k hk=>by
  rw [← hW1]; exact (Below.heap_alloc _ _ k (by simp; omega)).trans (Below.heap_alloc _ _ k hk)
 have hb1:Below w.heap.size w W1:=by rw [← hW1]; exact (hb0.alloc hb0.size _).alloc (by have:=hb0.size; simp; omega) _
 have hs1:W1.heap.size=W0.heap.size+2:=by rw [← hW1]; simp
 have hM:AnyZI.ApAt ρ w fn (.func (.func g) #[] lb) w.heap.size (W0.heap.size+1) W0.heap.size [] W1:=
  ⟨⟨_,(hold w.heap.size (by omega)).trans hv0,⟨rfl,.inl ⟨rfl,rfl⟩⟩,by simp⟩,
    by rw [← hW1]; have:=World.alloc_heap_new (W0.alloc (.deferred (some []))) (.loop (AnyZI.apRec ρ fn (.func (.func g) #[] lb) w.heap.size W0.heap.size .ready none)); rwa [World.size_alloc] at this,
    by rw [← hW1]; exact (Below.heap_alloc _ _ _ (by simp)).trans (World.alloc_heap_new W0 _),hb1⟩
 refine ⟨W0.heap.size+1,[{target:=.collected W0.heap.size,args:=#[]}],W1,{target:=.fn (.func g) lb,args:=#[.func (.yield (W0.heap.size+1)) #[] #[]]},W1,g,
  #[.func (.yield (W0.heap.size+1)) #[] #[]]++lb,W1,?_,?_,?_,?_,fun _=>h1,?_⟩
 ·rw [← hW1]; exact run_enterLoop_outer _ _ _ _ _
 ·simp [resolve,go_sem]
 ·intro f' hf'; simp [Target.leads] at hf'; subst hf'; exact hFg
 ·simp [invoke,go_sem,eg]
 ·refine (hseq (W0.heap.size+1) (AnyZI.ApAt ρ w fn (.func (.func g) #[] lb) w.heap.size (W0.heap.size+1) W0.heap.size) W1 hb1 (AnyZI.ap_abides ρ _ _ _ _ _ _ _ hb1.size) (fun _ _ h=>h.below)
   (fun pre x W hJ hl=>AnyZI.apYield {L with} F (n - 1 - 1) w fn hfn _ w.heap.size (W0.heap.size+1) W0.heap.size (by omega) (by omega) (by omega) (Nat.le_refl _) (by omega) d.length hN hNb pre x W hJ hl) hM).mono ?_
  rintro e W2 ⟨⟨v0,rfl⟩,h2⟩
  obtain ⟨v,hv,hrow,hnil⟩:=h2.box
  have hend:=run_endLoop (P:=P) h2.L (by simp [AnyZI.apRec])
  obtain ⟨W3,hW3⟩:∃ W3,W2.putObj (W0.heap.size+1) (.loop {AnyZI.apRec ρ fn (.func (.func g) #[] lb) w.heap.size W0.heap.size .ready none with state:=.exhausted})=W3:=⟨_,rfl⟩
  rw [hW3] at hend
  have hg3:W2.grownBy W3 (some (W0.heap.size+1)):=by rw [← hW3]; exact grownBy_putObj_a _ _ _
  have hv3:W3.heap[w.heap.size]? = some (.cells #[v] (ρ.t 24) (0,0)):=by rw [← hW3]; exact (World.putObj_heap_other (by omega)).trans hv
  have hK3:W3.heap[W0.heap.size]? = some (.deferred (some [])):=by rw [← hW3]; exact (World.putObj_heap_other (by omega)).trans h2.K
  have hrow3:=hrow.kept hg3 (ownsRow_ne_a hrow h2.L (fun cur e=>by first | cases e | exact hne (Obj.cells.inj e).2.1))
  have hb3:Below w.heap.size w W3:=h2.below.grown hg3 h2.below.size (fun k e=>by cases e; omega)
  obtain ⟨hc3,hf3⟩:=cell_of_box_a hv3
  clear hW3
  refine ⟨none,W3,hend,?_⟩
  gi_wp2
  rw [← hs0]
  refine ⟨by simp,.inl ⟨_,_,rfl,run_takeDeferred hK3,?_⟩⟩
  exact ⟨_,results_tmp rfl _ _ _,v,rfl,hrow3.kept (grownBy_putObj_a _ _ _) (ownsRow_ne_a hrow3 hK3 (fun cur e=>by first | cases e | exact hne (Obj.cells.inj e).2.1)),hnil,hb3.grown (grownBy_putObj_a _ _ _) hb3.size (fun k e=>by cases e; omega)⟩
set_option maxHeartbeats 1000000 in
theorem collectB_in (L:SlLaysZI.n8 P ρ) (F:Fence) (n:Nat) (h8:F.fn (ρ.f 8)) (h11:F.fn (ρ.f 11)) (hro:F.round=none) (hn:3≤n) (g:Nat) (lb:Array Value) (hFg:F.fn g) (eg:∀ args w,(callFunc g args).run P w=.ok (.enter g args) w)
  (d:List Int) (hN:d.length≤maxLen) (hNb:d.length * 8≤140737488355328) (w:World) (hseq:SeqB F (n - 1 - 1) P g lb d w) :
  CallsIn F n P (ρ.f 8) #[.func (.func g) #[] lb] w fun e w'=>∃ (v:Value),e=.returned v∧w'.ownsRow w.heap.size (ρ.t 26) 1 v d.length (d.map encZ)∧(v=.slice none 0 0↔d=[])∧Below w.heap.size w w':=by
 have h1:1≤n:=by omega
 have e11:∀ args w,(callFunc (ρ.f 11) args).run P w=.ok (.enter (ρ.f 11) args) w:=L.f11.enters rfl
 have mixed:=L.mixed; have t0:=L.t0; have a0:=L.a0; have z0:=L.z0; have v0:=L.v0; have t24:=L.t24; have a24:=L.a24; have z24:=L.z24; have v24:=L.v24; have t26:=L.t26; have a26:=L.a26; have z26:=L.z26; have v26:=L.v26; have t28:=L.t28; have a28:=L.a28; have z28:=L.z28; have v28:=L.v28
 have u0:=run_underlying L.t0; have u24:=run_underlying L.t24; have u26:=run_underlying L.t26; have u28:=run_underlying L.t28
 obtain ⟨_,_,FG⟩:=L.f8
 refine callsIn_of_wp FG rfl h8 ?_ hro
 simp only [SlBodyZ.n8_ntmps ρ,List.size_toArray,List.length_cons,List.length_nil,Nat.reduceAdd,Nat.reduceSub,Array.replicate_succ,Array.replicate_zero,List.push_toArray,List.append_toArray,List.nil_append,List.cons_append]
 gi_wp2_with (gi_at_fn (ρ.f 11); refine (appendB_in {L with} F (n - 1) h11 hro (by omega) g lb hFg eg d hN hNb _ hseq).mono ?_; rintro e w' ⟨v,rfl,hrow,hnil,hb⟩)
 go_ret
 exact ⟨v,rfl,hrow,hnil,hb⟩
set_option maxRecDepth 100000 in
set_option maxHeartbeats 2000000 in
theorem sortedB_in (L:SlLaysZI.n6 P ρ) (F:Fence) (n:Nat) (h6:F.fn (ρ.f 6)) (h8:F.fn (ρ.f 8)) (h9:F.fn (ρ.f 9)) (h11:F.fn (ρ.f 11)) (hro:F.round=none) (hn:4≤n) (hsort:AnyZI.SortsIn P ρ F (n - 1)) (e9:∀ args w,(callFunc (ρ.f 9) args).run P w=.ok (.enter (ρ.f 9) args) w) (g:Nat) (lb:Array Value) (hFg:F.fn g) (eg:∀ args w,(callFunc g args).run P w=.ok (.enter g args) w)
  (d:List Int) (hN:d.length≤maxLen) (hNb:d.length * 8≤140737488355328) (w:World) (hseq:SeqB F (n - 1 - 1 - 1) P g lb d w) :
  CallsIn F n P (ρ.f 6) #[.func (.func g) #[] lb] w fun e w'=>∃ (v:Value),e=.returned v ∧
   w'.ownsRow w.heap.size (ρ.t 26) 1 v d.length ((d.mergeSort (fun x y=>decide (x≤y))).map encZ)∧(v=.slice none 0 0↔d=[])∧Below w.heap.size w w':=by
 have h1:1≤n:=by omega
 have e8:∀ args w,(callFunc (ρ.f 8) args).run P w=.ok (.enter (ρ.f 8) args) w:=L.f8.enters rfl
 have mixed:=L.mixed; have t0:=L.t0; have a0:=L.a0; have z0:=L.z0; have v0:=L.v0; have t24:=L.t24; have a24:=L.a24; have z24:=L.z24; have v24:=L.v24; have t26:=L.t26; have a26:=L.a26; have z26:=L.z26; have v26:=L.v26; have t28:=L.t28; have a28:=L.a28; have z28:=L.z28; have v28:=L.v28
 have u0:=run_underlying L.t0; have u24:=run_underlying L.t24; have u26:=run_underlying L.t26; have u28:=run_underlying L.t28
 obtain ⟨_,_,FG⟩:=L.f6
 refine callsIn_of_wp FG rfl h6 ?_ hro
 simp only [SlBodyZ.n6_ntmps ρ,List.size_toArray,List.length_cons,List.length_nil,Nat.reduceAdd,Nat.reduceSub,Array.replicate_succ,Array.replicate_zero,List.push_toArray,List.append_toArray,List.nil_append,List.cons_append]
 gi_wp2_with (gi_at_fn (ρ.f 8); refine (collectB_in {L with} F (n - 1) h8 h11 hro (by omega) g lb hFg eg d hN hNb _ hseq).mono ?_; rintro e W ⟨v,rfl,hrow,hnil,hb⟩)
 rcases hrow.2 with ⟨rfl,hz⟩ | ⟨gb,cap,cur,rfl,hbase,hgb,r1,r2,r3,r4⟩
 ·have hss:d=[]:=List.eq_nil_of_length_eq_zero hz
  subst hss
  gi_wp2_with (gi_at_fn (ρ.f 9); refine (hsort.2 none 0 W).mono ?_; rintro e w' ⟨rfl,rfl⟩)
  go_ret
  exact ⟨.slice none 0 0,rfl,by simpa using hrow,by simp,hb⟩
 ·have hH:Holds encZ W gb 0 d.toArray:=holds_of_block_i hgb (by simpa using r4)
  have hgl:gb < W.heap.size:=(Array.getElem?_eq_some_iff.1 hgb).1
  have hsz:d.length < 4611686018427387904:=by omega
  have cS:=hsort.1 gb 0 cap d W hH hgl hsz
  gi_wp2_with (gi_at_fn (ρ.f 9); refine cS.mono ?_; rintro e w' ⟨rfl,nn,os,rfl⟩)
  go_ret
  exact ⟨_,rfl,ownsRow_sorted_i (by simp) hbase hgb r1 r2 r3,hnil,hb.grown (grownBy_sorted_i _) hb.size (fun j hj=>by cases hj; exact hbase)⟩
end Go.TV
namespace Go.TV
open Go.RowKit
structure SortRaw (P:Program) (fv fs g:Nat):Prop where
 fnv : ∃ fn, P.funcs[fv]? = some fn ∧ fn.body.isSome = true ∧ (fn.name == "runtime.NumGoroutine") = false
 fns : ∃ fn, P.funcs[fs]? = some fn ∧ fn.body.isSome = true ∧ (fn.name == "runtime.NumGoroutine") = false
 values:∀ (w:World) (A:Option Addr) (n c:Nat),Calls P fv #[.slice A n c] w fun e w'=>e=.returned (.func (.func g) #[] #[.pointer (some ⟨w.heap.size,0,none⟩)])∧∃ t,w'=w.alloc (.cells #[.slice A n c] t)
 sorted:∀ (w:World) (Bm Bo:Nat) (A:Option Addr) (cap:Nat) (d:List Int),Bm < w.heap.size→w.cell? ⟨Bm,Bo,none⟩=some (.slice A d.length cap) →
  (∀ (q:Nat) x,d[q]? = some x→∃ b off,A=some ⟨b,off,none⟩∧b < w.heap.size∧w.cell? ⟨b,off+q,none⟩=some (.int .i64 x))→d.length≤549755813888 →
  Calls P fs #[.func (.func g) #[] #[.pointer (some ⟨Bm,Bo,none⟩)]] w fun e w'=>∃ (t:TypeId) (v:Value),e=.returned v∧w'.ownsRow w.heap.size t 1 v d.length ((d.mergeSort (fun x y=>decide (x≤y))).map (Value.int .i64))∧Below w.heap.size w w'
section
variable {w w':World} {D:CS} {X:Cfg}
theorem lent_slice {u:Value} {k:Nat} {rows:List (List V)} {S:CS} (h:Rep w D (.list false k rows) u S):(∃ A c,u=.slice A rows.length c)∧S=emp:=by
 rcases h with ⟨rfl,q,rfl⟩ | ⟨b,o',cap,T,rfl,hc,_,_,rfl,_⟩
 ·obtain ⟨a,rfl⟩:=zK8 q
  exact ⟨⟨_,_,rfl⟩,rfl⟩
 ·exact ⟨⟨_,_,rfl⟩,rfl⟩
theorem values_fn {fv fs g k:Nat} {rows:List (List V)} (R:SortRaw X.P fv fs g):Fn X fv [.one (.list false k rows)] [.one (.fn g [.box false [.list false k rows]])] []:=by
 refine ⟨R.fnv,fun w D S us fl ha hr hdj hD hg=>?_⟩
 obtain ⟨u0,us1,fl1,rfl,rfl,rfl,rfl⟩:=ha
 obtain ⟨y0,S0,S1,hy0,hx0,hS1,hd0,rfl⟩:=hr
 simp only [List.getElem?_cons_zero,Option.some.injEq] at hy0
 subst hy0
 obtain rfl:S1=emp:=hS1
 obtain ⟨⟨A,c,rfl⟩,rfl⟩:=lent_slice hx0
 refine (R.values w A rows.length c).mono ?_
 rintro e W ⟨rfl,t,rfl⟩
 have f0:=zU1 w (.cells #[.slice A rows.length c] t)
 have hsz:(w.alloc (.cells #[.slice A rows.length c] t)).heap.size=w.heap.size+1:=by simp
 have hsub:sub D (cup D (rng w.heap.size 0 1)):=fun x y q=>.inl q
 have hc0:(w.alloc (.cells #[.slice A rows.length c] t)).cell? (ad w.heap.size 0)=some (.slice A rows.length c):=by
  rw [zL2 w #[.slice A rows.length c] t 0]
  rfl
 have hl:Rep (w.alloc (.cells #[.slice A rows.length c] t)) (cup D (rng w.heap.size 0 1)) (.list false k rows) (.slice A rows.length c) emp:=Rep.keep hx0 hsub (f0.sameOn (qR _) hD) (fun _ _ q=>q.elim)
 have hbox:Rep (w.alloc (.cells #[.slice A rows.length c] t)) (cup D (rng w.heap.size 0 1)) (.box false [.list false k rows]) (.pointer (some ⟨w.heap.size,0,none⟩)) emp:=
  ⟨w.heap.size,0,emp,rfl,⟨_,emp,emp,hc0,hl,rfl,zW _,(zV _).symm⟩,rfl,rfl,fun x y q=>.inr q⟩
 refine ⟨_,[.func (.func g) #[] #[.pointer (some ⟨w.heap.size,0,none⟩)]],cup D (rng w.heap.size 0 1),emp,emp,rfl,⟨_,_,_,rfl,rfl,rfl,rfl⟩,
  ⟨_,emp,emp,rfl,⟨_,rfl,rfl,⟨_,emp,emp,rfl,hbox,rfl,zW _,(zV _).symm⟩,rfl⟩,rfl,zW _,(zV _).symm⟩,rfl,zW _,?_,?_,?_,hsub,?_,?_⟩
 ·rw [jE]
  exact zW _
 ·exact (Frm.refl w _).trans f0 (fun _ _ q=>q.elim)
 ·intro x y q
  rw [jE] at q
  exact q.elim
 ·rintro x y (q | q)
  ·exact .inl q
  ·exact .inr (.inr (by rw [q.1]; exact Nat.le_refl _))
 ·rintro x y (q | q)
  ·have:=hD x y q
   omega
  ·rw [q.1]
   omega
theorem ints_row {rd:Nat→Option Value}:∀ (l:List Int) (k:Nat) (T:CS),RepRow w D rd (List.map (fun x:Int=>V.sc (.int .i64 x)) l) k T→∀ (q:Nat) x,l[q]? = some x→rd (k+q)=some (.int .i64 x)
 | [],_,_,_,q,x,hx=>by simp at hx
 | y :: l,k,T,⟨u,S1,S2,h1,h2,h3,h4,h5⟩,q,x,hx=>by
  cases q with
  | zero =>
   simp at hx
   subst hx
   obtain ⟨rfl,_,_⟩:=h2
   exact h1
  | succ q =>
   have:=ints_row l (k+1) S2 h3 q x (by simpa using hx)
   rwa [show k+(q+1)=k+1+q by omega]
theorem row_ints {rd:Nat→Option Value}:∀ (l:List Int) (k:Nat),(∀ (q:Nat) x,l[q]? = some x→rd (k+q)=some (.int .i64 x))→RepRow w D rd (List.map (fun x:Int=>V.sc (.int .i64 x)) l) k emp
 | [],_,_=>rfl
 | y :: l,k,h=>⟨_,emp,emp,h 0 y rfl,⟨rfl,rfl,rfl⟩,row_ints l (k+1) (fun q x hx=>by rw [show k+1+q=k+(q+1) by omega]; exact h (q+1) x (by simpa using hx)),zW _,(zV _).symm⟩
theorem flat_ints:∀ l:List Int,(List.map (rK .i64) l).flatten=List.map (fun x:Int=>V.sc (.int .i64 x)) l
 | []=>rfl
 | x :: l=>by
  rw [List.map_cons,List.flatten_cons,flat_ints l]
  rfl
theorem sorted_fn {fv fs g:Nat} {l:List Int} (R:SortRaw X.P fv fs g) (hlen:l.length≤549755813888) :
  Fn X fs [.one (.fn g [.box false [.list false 1 (List.map (rK .i64) l)]])] [.one (.list true 1 (List.map (rK .i64) (l.mergeSort (fun x y=>decide (x≤y)))))] []:=by
 refine ⟨R.fns,fun w D S us fl ha hr hdj hD hg=>?_⟩
 obtain ⟨u0,us1,fl1,rfl,rfl,rfl,rfl⟩:=ha
 obtain ⟨y0,S0,S1,hy0,hx0,hS1,hd0,rfl⟩:=hr
 simp only [List.getElem?_cons_zero,Option.some.injEq] at hy0
 subst hy0
 obtain rfl:S1=emp:=hS1
 obtain ⟨us,rfl,hus,hcaps,rfl⟩:=hx0
 obtain ⟨p,T1,T2,hp,hbox,_,_,_⟩:=hcaps
 obtain ⟨B,o,T3,rfl,⟨y,T4,T5,hy,hlist,_,_,_⟩,rfl,rfl,hsubD⟩:=hbox
 obtain rfl:us = #[.pointer (some (ad B o))]:=by
  apply Array.ext
  ·exact hus
  ·intro i h1 h2
   simp at h2
   subst h2
   have:=(Array.getElem?_eq_some_iff.1 hp).2
   simpa using this
 have hy:w.cell? (ad B (o+0))=some y:=hy
 obtain ⟨⟨A,c,rfl⟩,rfl⟩:=lent_slice hlist
 rw [List.length_map] at hy
 have hB:B < w.heap.size:=cell_lt hy
 have hel:∀ (q:Nat) x,l[q]? = some x→∃ b off,A=some ⟨b,off,none⟩∧b < w.heap.size∧w.cell? ⟨b,off+q,none⟩=some (.int .i64 x):=fun q x hx=>by
  have hq:=(List.getElem?_eq_some_iff.1 hx).1
  rcases hlist with ⟨e,_,_⟩ | ⟨b,o',cap,T,e,hc,hrr,_⟩
  ·have:=congrArg List.length e
   simp at this
   subst this
   simp at hq
  ·injection e with e1 e2 e3
   obtain ⟨x1,x2,x3⟩:=RepRows.flat _ 0 T hrr
   rw [Nat.zero_mul,flat_ints] at x1
   have:=ints_row l 0 T x1 q x hx
   rw [Nat.zero_add] at this
   exact ⟨b,o',e1,cell_lt this,this⟩
 refine (R.sorted w B o A c l hB hy hel hlen).mono ?_
 rintro e W ⟨t,v,rfl,⟨hl1,hrow⟩,hb⟩
 have hml:(l.mergeSort (fun x y=>decide (x≤y))).length=l.length:=List.length_mergeSort l
 have f0:Frm w W emp:=⟨hb.os,hb.tape,hb.output,hb.size,fun k hk _=>hb.block k hk,fun k o hk _=>same_of_heap (hb.block k hk) o⟩
 obtain ⟨S1,hrep,hnew⟩:∃ S1,Rep W D (.list true 1 (List.map (rK .i64) (l.mergeSort (fun x y=>decide (x≤y))))) v S1∧∀ x y,S1 x y→w.heap.size≤x:=by
  rcases hrow with ⟨rfl,h0⟩ | ⟨gb,cap,cur,rfl,hbase,hgb,r1,r2,r3,r4⟩
  ·refine ⟨emp,.inl ⟨?_,.inl rfl,rfl⟩,fun _ _ q=>q.elim⟩
   rw [List.map_eq_nil_iff]
   exact List.eq_nil_of_length_eq_zero (by omega)
  ·have hcell:∀ j,W.cell? (ad gb j)=cur[j]?:=fun j=>by simp [World.cell?,ad,hgb]
   refine ⟨cup (rng gb 0 (cap * 1)) emp,.inr ⟨gb,0,cap,emp,by rw [List.length_map,hml]; rfl,by rw [List.length_map,hml]; exact r1,?_,fun q hq=>?_,qR _,rfl⟩,?_⟩
   ·refine RepRows.of_flat (rd:=fun j=>W.cell? (ad gb (0+j))) _ 0 _ ?_ (fun r hr=>?_) (fun _ _ _=>rfl)
    ·rw [Nat.zero_mul,flat_ints]
     refine row_ints _ 0 (fun q x hx=>?_)
     rw [Nat.zero_add,Nat.zero_add,hcell]
     have hq:=(List.getElem?_eq_some_iff.1 hx).1
     have h1:(cur.toList.take (l.length * 1))[q]? = some (.int .i64 x):=by rw [r4,List.getElem?_map,hx]; rfl
     rw [List.getElem?_take,if_pos (by omega)] at h1
     simpa using h1
    ·obtain ⟨x,_,rfl⟩:=List.mem_map.1 hr
     rfl
   ·rw [Nat.zero_add]
    refine ⟨⟨cur[q]'(by omega),by rw [hcell]; exact Array.getElem?_eq_getElem (by omega)⟩,by simp [World.frozen?,ad,hgb]⟩
   ·rintro x y (q | q)
    ·rw [q.1]
     exact hbase
    ·exact q.elim
 have hS1D:TV.dj S1 D:=fun x y q1 q2=>by
  have:=hD x y q2
  have:=hnew x y q1
  omega
 refine ⟨_,[v],D,S1,emp,rfl,⟨_,_,_,rfl,rfl,rfl,rfl⟩,⟨_,_,emp,rfl,hrep,rfl,qR _,(zV _).symm⟩,rfl,qR _,?_,?_,?_,zD D,fun _ _ h=>.inl h,?_⟩
 ·rw [zV]
  exact hS1D
 ·exact (Frm.refl w _).trans f0 (fun _ _ q=>q.elim)
 ·intro x y q
  rw [zV] at q
  exact .inr (hnew x y q)
 ·intro x y q
  have h1:=hD x y q
  have h2:=f0.size
  omega
end
end Go.TV
namespace Go.TV
open Go.RowKit
structure MarkRaw (P:Program) (f f1 f2 T:Nat):Prop where
 fn : ∃ fn, P.funcs[f]? = some fn ∧ fn.body.isSome = true ∧ (fn.name == "runtime.NumGoroutine") = false
 run:∀ (w:World) (u0 u1:Value) (k:Int) (Q:Int→World→Prop),
  Calls P f1 #[u0,.int .i64 k] (w.alloc (.cells #[u0,u1] T)) (fun e w1=>∃ k1,e=.returned (.int .i64 k1)∧w1.cell? ⟨w.heap.size,1,none⟩=some u1∧Calls P f2 #[u1,.int .i64 k1] w1 fun e w2=>∃ k2,e=.returned (.int .i64 k2)∧Q k2 w2) →
  Calls P f #[.agg #[u0,u1],.int .i64 k] w fun e w'=>∃ k2,e=.returned (.int .i64 k2)∧Q k2 w'
section
variable {X:Cfg}
theorem noBor_rep {w:World} {D D2:CS} {v:V} {u:Value} {S:CS} (h:Rep w D v u S) (hn:v.noBor=true):Rep w D2 v u S:=Rep.free v u S h hn
theorem mark_fn {f f1 f2 T:Nat} {k k1 k2:Int} {xA xA' xB xB':V} (R:MarkRaw X.P f f1 f2 T) (nA:xA.noBor=true) (nB:xB.noBor=true) (nA':xA'.noBor=true) (nB':xB'.noBor=true)
  (F1:Fn X f1 [.one xA,.one (.sc (.int .i64 k))] [.one (.sc (.int .i64 k1))] [(0,xA')])
  (F2:Fn X f2 [.one xB,.one (.sc (.int .i64 k1))] [.one (.sc (.int .i64 k2))] [(0,xB')]) :
  Fn X f [.agg [xA,xB],.one (.sc (.int .i64 k))] [.one (.sc (.int .i64 k2))] [(0,xA'),(1,xB')]:=by
 refine ⟨R.fn,fun w D S us fl ha hr hdj hD hg=>?_⟩
 obtain ⟨vs,us1,fl1,rfl,hvl,rfl,uk,us2,fl2,rfl,rfl,rfl,rfl⟩:=ha
 obtain ⟨u0,u1,rfl⟩:∃ a b,vs=[a,b]:=by
  match vs,hvl with
  | [a,b],_=>exact ⟨a,b,rfl⟩
 obtain ⟨y0,SA,SR,hy0,hA,⟨y1,SB,SK,hy1,hB,⟨y2,SC,SN,hy2,hK,hN,_,rfl⟩,hdB,rfl⟩,hdA,rfl⟩:=hr
 simp only [List.cons_append,List.nil_append,List.getElem?_cons_zero,List.getElem?_cons_succ,Option.some.injEq,Nat.zero_add,Nat.reduceAdd] at hy0 hy1 hy2
 subst hy0; subst hy1; subst hy2
 obtain ⟨rfl,_,rfl⟩:=hK
 obtain rfl:SN=emp:=hN
 rw [jE] at hdB
 rw [jE,zV] at hdA hdj hg ⊢
 have ltA:=Rep.lt xA u0 SA hA
 have ltB:=Rep.lt xB u1 SB hB
 refine R.run w u0 u1 k (fun q W=>q=k2∧∃ D' T1 T2,Rep W D' xA' u0 T1∧Rep W D' xB' u1 T2∧dj T1 T2∧dj (cup T1 T2) D'∧Frm w W (cup SA SB)∧(∀ b o,cup T1 T2 b o→cup SA SB b o∨w.heap.size≤b)∧sub D D'∧(∀ b o,D' b o→D b o∨cup SA SB b o∨w.heap.size≤b)∧(∀ b o,D' b o→b < W.heap.size)) ?_ |>.mono ?_
 ·have f0:=zU1 w (.cells #[u0,u1] T)
  have hs0:(w.alloc (.cells #[u0,u1] T)).heap.size=w.heap.size+1:=by simp
  have hA0:Rep (w.alloc (.cells #[u0,u1] T)) D xA u0 SA:=Rep.frame (zD D) (f0.sameOn (qR _) hD) xA u0 SA hA (f0.sameOn (qR _) ltA)
  have hB0:Rep (w.alloc (.cells #[u0,u1] T)) D xB u1 SB:=Rep.frame (zD D) (f0.sameOn (qR _) hD) xB u1 SB hB (f0.sameOn (qR _) ltB)
  have hg0:Glo X.G (w.alloc (.cells #[u0,u1] T)) SA D:=fun b φ q=>by
   obtain ⟨h0,h1,h2,x,h3,h4⟩:=hg b φ q
   exact ⟨by omega,h1,fun o z=>h2 o (.inl z),x,(f0.blk b h0 (fun _ z=>z.elim)).trans h3,h4⟩
  refine (F1.2 (w.alloc (.cells #[u0,u1] T)) D SA [u0,.int .i64 k] [u0,.int .i64 k] ⟨_,_,_,rfl,rfl,_,_,_,rfl,rfl,rfl,rfl⟩
   ⟨_,SA,emp,rfl,hA0,⟨_,emp,emp,rfl,⟨rfl,rfl,rfl⟩,rfl,qR _,(zV _).symm⟩,qR _,(zV _).symm⟩ (yR hdj (qU _ _)) (fun b o q=>by have:=hD b o q; omega) hg0).mono ?_
  rintro e w1 ⟨u,fr,D1,T1,T2,rfl,hres,hrr,hob,hd12,hdD,hfrm,hcov,hDD,hDn,hDlt⟩
  obtain ⟨z,zs,zf,hz,rfl,hz2,rfl⟩:=hres
  simp only [List.cons.injEq] at hz
  obtain ⟨rfl,rfl⟩:=hz
  obtain ⟨y,P1,P2,hy,hY,hP2,_,rfl⟩:=hrr
  simp only [List.getElem?_cons_zero,Option.some.injEq] at hy
  subst hy
  obtain ⟨rfl,_,rfl⟩:=hY
  obtain rfl:P2=emp:=hP2
  rw [jE,jE] at hdD hcov
  obtain ⟨Q1,Q2,_,hA1,hQ2,_,rfl⟩:=hob
  obtain rfl:Q2=emp:=hQ2
  rw [zV] at hdD hcov
  have hA1:Rep w1 D1 xA' u0 Q1:=hA1
  have hcell:w1.cell? ⟨w.heap.size,1,none⟩=some u1:=by
   have h1:=(hfrm.cel w.heap.size 1 (by omega) (fun q=>by have:=ltA _ _ q; omega)).1
   have h2:(w.alloc (.cells #[u0,u1] T)).cell? ⟨w.heap.size,1,none⟩=some u1:=by
    have:=zL2 w #[u0,u1] T 1
    exact this
   exact h1.trans h2
  refine ⟨k1,rfl,hcell,?_⟩
  have hB1:Rep w1 D1 xB u1 SB:=by
   have:Rep w1 D xB u1 SB:=Rep.frame (zD D) (hfrm.sameOn (qL (yR hdj (qU _ _))) (fun b o q=>by have:=hD b o q; omega)) xB u1 SB hB0 (hfrm.sameOn (qL hdA) (fun b o q=>by have:=ltB b o q; omega))
   exact noBor_rep this nB
  have ltA1:=Rep.lt xA' u0 Q1 hA1
  have hsz1:=hfrm.size
  have hdB1:dj SB D1:=fun b o q z=>by
   rcases hDn b o z with h | h | h
   ·exact hdj b o (.inr q) h
   ·exact hdA b o h q
   ·have:=ltB b o q; omega
  have hg1:Glo X.G w1 SB D1:=fun b φ q=>by
   obtain ⟨h0,h1,h2,x,h3,h4⟩:=hg0 b φ q
   exact ⟨hDlt b 0 (hDD b 0 (h1 0)),fun o=>hDD b o (h1 o),fun o z=>hdB1 b o z (hDD b o (h1 o)),x,(hfrm.blk b h0 h2).trans h3,h4⟩
  refine (F2.2 w1 D1 SB [u1,.int .i64 k1] [u1,.int .i64 k1] ⟨_,_,_,rfl,rfl,_,_,_,rfl,rfl,rfl,rfl⟩
   ⟨_,SB,emp,rfl,hB1,⟨_,emp,emp,rfl,⟨rfl,rfl,rfl⟩,rfl,qR _,(zV _).symm⟩,qR _,(zV _).symm⟩ hdB1 hDlt hg1).mono ?_
  rintro e w2 ⟨u,fr,D2,U1,U2,rfl,hres,hrr,hob,hd12',hdD',hfrm',hcov',hDD',hDn',hDlt'⟩
  obtain ⟨z,zs,zf,hz,rfl,hz2,rfl⟩:=hres
  simp only [List.cons.injEq] at hz
  obtain ⟨rfl,rfl⟩:=hz
  obtain ⟨y,P1,P2,hy,hY,hP2,_,rfl⟩:=hrr
  simp only [List.getElem?_cons_zero,Option.some.injEq] at hy
  subst hy
  obtain ⟨rfl,_,rfl⟩:=hY
  obtain rfl:P2=emp:=hP2
  rw [jE,jE] at hdD' hcov'
  obtain ⟨Q3,Q4,_,hB2,hQ4,_,rfl⟩:=hob
  obtain rfl:Q4=emp:=hQ4
  rw [zV] at hdD' hcov'
  have hB2:Rep w2 D2 xB' u1 Q3:=hB2
  have hAB:dj Q1 SB:=fun b o q z=>by
   rcases hcov b o q with h | h
   ·exact hdA b o h z
   ·have:=ltB b o z; omega
  have hA2:Rep w2 D2 xA' u0 Q1:=by
   have:Rep w2 D1 xA' u0 Q1:=Rep.frame (zD D1) (hfrm'.sameOn (qL hdB1) hDlt) xA' u0 Q1 hA1 (hfrm'.sameOn hAB ltA1)
   exact noBor_rep this nA'
  have hQQ:dj Q1 Q3:=fun b o q z=>by
   rcases hcov' b o z with h | h
   ·exact hAB b o q h
   ·have:=ltA1 b o q; omega
  refine ⟨k2,rfl,rfl,D2,Q1,Q3,hA2,hB2,hQQ,qV (fun b o q z=>?_) hdD',?_,?_,zZ hDD hDD',?_,hDlt'⟩
  ·rcases hDn' b o z with h | h | h
   ·exact hdD b o q h
   ·exact hAB b o q h
   ·have:=ltA1 b o q; omega
  ·exact (((Frm.refl w (cup SA SB)).trans f0 (fun _ _ q=>q.elim)).trans hfrm (fun _ _ q=>.inl (.inl q))).trans hfrm' (fun _ _ q=>.inl (.inr q))
  ·rintro b o (q | q)
   ·rcases hcov b o q with h | h
    ·exact .inl (.inl h)
    ·exact .inr (by omega)
   ·rcases hcov' b o q with h | h
    ·exact .inl (.inr h)
    ·exact .inr (by omega)
  ·intro b o q
   rcases hDn' b o q with h | h | h
   ·rcases hDn b o h with h | h | h
    ·exact .inl h
    ·exact .inr (.inl (.inl h))
    ·exact .inr (.inr (by omega))
   ·exact .inr (.inl (.inr h))
   ·exact .inr (.inr (by omega))
 ·rintro e W ⟨q,rfl,rfl,D',T1,T2,hA',hB',hd,hdD,hF,hc,hs,hn,hl⟩
  refine ⟨_,[.int .i64 q],D',emp,cup T1 T2,rfl,⟨_,_,_,rfl,rfl,rfl,rfl⟩,⟨_,emp,emp,rfl,⟨rfl,rfl,rfl⟩,rfl,qR _,(zV _).symm⟩,⟨T1,T2,rfl,hA',⟨T2,emp,rfl,hB',rfl,qR _,(zV _).symm⟩,hd,rfl⟩,zW _,?_,hF,?_,hs,hn,hl⟩
  ·rw [jE]; exact hdD
  ·intro b o z; rw [jE] at z; exact hc b o z
end
end Go.TV
namespace Go.TV
end Go.TV
namespace Go.TV
open Go
section
variable {X:Cfg} {ops:Array Oper} {e0 e1:Env} {st0 st:List Stp} {acc0 acc:List Dat}
theorem fv_app {α:Type} {W:Stp→List Nat} {val:Stp→Nat→Option α} {z z0:Nat→Option α} {r0:List Stp} (hz:∀ k x,z k=some x→fv W val z0 all1 r0 k=some x):∀ (r:List Stp) (k:Nat) (x:α),fv W val z all1 r k=some x→fv W val z0 all1 (r++r0) k=some x
 | [],k,x,h=>hz k x h
 | s :: r,k,x,h=>by
  simp only [fv,List.cons_append] at h ⊢
  split
  ·rename_i q
   rw [if_pos q] at h
   exact h
  ·rename_i q
   rw [if_neg q] at h
   exact fv_app hz r k x h
theorem sv_app (h0:AOk X ops e0 st0 acc0 e1) {r:List Stp} {t:Nat} {x:Sl} (h:svL e1 r all1 t=some x):svL e0 (r++st0) all1 t=some x:=
 fv_app (z:=fun t=>lk t e1.sl) (z0:=fun t=>lk t e0.sl) (fun k x h=>(h0.sl k x h).2.1) r t x h
theorem ov_app (h0:AOk X ops e0 st0 acc0 e1) {r:List Stp} {i:Nat} {v:V} (h:ovL e1 r all1 i=some v):ovL e0 (r++st0) all1 i=some v:=
 fv_app (z:=fun t=>lk t e1.ob) (z0:=fun t=>lk t e0.ob) (fun k x h=>(h0.ob k x h).2) r i v h
theorem val_app (h0:AOk X ops e0 st0 acc0 e1):∀ {r:List Stp},Val X ops e1 r→Val X ops e0 (r++st0)
 | [],_=>h0.v
 | s :: r,h=>by
  obtain ⟨hs,hr⟩:=h
  exact ⟨{N:=hs.N.trans h0.N,np:=hs.np.trans h0.np,npx:=hs.npx,dst:=hs.dst,dN:=fun d hd=>h0.N ▸ hs.dN d hd,ob:=fun i v hi=>⟨ov_app h0 (hs.ob i v hi).1,(hs.ob i v hi).2⟩,nd:=hs.nd,lb:=fun i v hi=>⟨ov_app h0 (hs.lb i v hi).1,(hs.lb i v hi).2⟩,bnd:=hs.bnd,sl:=fun t x ht=>(fun ⟨a1,a2,⟨x0,a3,a4⟩,a5⟩=>⟨h0.N ▸ a1,a2,⟨x0,sv_app h0 a3,a4⟩,a5⟩) (hs.sl t x ht),q:=hs.q,w:=hs.w,nx':=hs.nx',pu:=hs.pu},val_app h0 hr⟩
theorem dsok_app (h0:DsOk ops st0 acc0):∀ {r:List Stp} {ds:List Dat},DsOk ops r ds→DsOk ops (r++st0) (ds++acc0)
 | [],ds,h=>by
  have:ds=[]:=h
  subst this
  exact h0
 | s :: r,ds,h=>by
  obtain ⟨d,rs,rfl,h1,h2⟩:=h
  exact ⟨d,rs++acc0,rfl,h1,dsok_app h0 h2⟩
end
def addT (T:List Nat) (a b:Nat) (n:Nat):List Nat:=(List.range n).map fun x=>(T.getD x 0) ||| (if (x == b || anc T b x)=true then (1 <<< a) ||| T.getD a 0 else 0)
theorem qD8 {T:List Nat} {a b n x y:Nat} (hx:x < n):anc (addT T a b n) y x=true↔anc T y x=true∨((x=b∨anc T b x=true)∧(y=a∨anc T y a=true)):=by
 unfold addT
 simp only [anc,List.getD_eq_getElem?_getD,List.getElem?_map,List.getElem?_range hx,Option.map_some,Option.getD_some,Nat.testBit_or,Bool.or_eq_true]
 constructor
 ·rintro (h | h)
  ·exact .inl h
  ·split at h
   ·rename_i q
    simp only [Bool.or_eq_true,beq_iff_eq] at q
    refine .inr ⟨q,?_⟩
    simp only [Nat.testBit_or,Bool.or_eq_true] at h
    rcases h with h | h
    ·rw [Nat.one_shiftLeft,Nat.testBit_two_pow] at h
     exact .inl (of_decide_eq_true h).symm
    ·exact .inr h
   ·simp at h
 ·rintro (h | ⟨h1,h2⟩)
  ·exact .inl h
  ·right
   rw [if_pos (by simpa using h1)]
   simp only [Nat.testBit_or,Bool.or_eq_true]
   rcases h2 with rfl | h2
   ·left
    rw [Nat.one_shiftLeft,Nat.testBit_two_pow]
    exact decide_eq_true rfl
   ·exact .inr h2
def chk2 (ops:Array Oper) (rf0:List (Nat×List Nat)) (ob0:List Nat) (acc0:List Dat) (pl:List Nat) (a b:Nat) (acc:List Dat):Bool:=
 (puL (acc++acc0) ops.size == pl) && chkT ops rf0 ob0 (acc++acc0) (addT (jL ops pl ops.size) a b ops.size) && Region.noSelect ops && pl.all (freeS ops (jL ops pl ops.size)) &&
 !anc (jL ops pl ops.size) a b && !anc (jL ops pl ops.size) b a && !(a == b) && decide (a < ops.size) && decide (b < ops.size) &&
 (acc.all fun d=>d.i == a || d.i == b || anc (jL ops pl ops.size) a d.i || anc (jL ops pl ops.size) b d.i)
def Done (X:Cfg) (ops:Array Oper) (rf0:List (Nat×List Nat)) (ob0:List Nat) (acc0:List Dat) (pl:List Nat) (a b nx:Nat) (e1:Env) (Post:Exit→Env→Prop):Prop:=
 ∃ st acc e,AOk X ops e1 st acc e∧chk2 ops rf0 ob0 acc0 pl a b acc=true∧e.nx=nx∧Post .normal e
section
variable {X:Cfg} {ops:Array Oper} {e0 e1:Env} {st0:List Stp} {acc0:List Dat} {pl:List Nat} {a b nx:Nat} {Post:Exit→Env→Prop}
structure Leg (X:Cfg) (ops:Array Oper) (e0:Env) (st0:List Stp) (pl:List Nat) (a b nx:Nat) (Post:Exit→Env→Prop) (st:List Stp) (ds:List Dat):Prop where
 v:Val X ops e0 (st++st0)
 d:DsOk ops (st++st0) ds
 c:chkT ops (e0.sl.map fun q=>(q.1,q.2.ids)) (zE e0.ob) ds (addT (jL ops pl ops.size) a b ops.size)=true
 p:puL ds ops.size=pl
 m:∀ s ∈ st++st0,s.F'.nx≤nx
 t:∀ s ∈ st,s.i=a∨s.i=b∨anc (jL ops pl ops.size) a s.i=true∨anc (jL ops pl ops.size) b s.i=true
 e:∀ (L:Nat→Bool),(∀ j,j < ops.size→L j=true)→∀ (k:Ctx X.G) (a:Act) (w:World),St k (EL e0 nx (st++st0) L) a w→∃ e',Post .normal e'∧St k e' a w
theorem Done.leg (h0:AOk X ops e0 st0 acc0 e1) (h:Done X ops (e0.sl.map fun q=>(q.1,q.2.ids)) (zE e0.ob) acc0 pl a b nx e1 Post):(∃ st ds,Leg X ops e0 st0 pl a b nx Post st ds) ∧
  anc (jL ops pl ops.size) a b=false∧anc (jL ops pl ops.size) b a=false∧a≠b∧a < ops.size∧b < ops.size∧Region.noSelect ops=true∧pl.all (freeS ops (jL ops pl ops.size))=true:=by
 obtain ⟨st,acc,e,hA,hc,rfl,hP⟩:=h
 unfold chk2 at hc
 simp only [Bool.and_eq_true,Bool.not_eq_true',beq_iff_eq,decide_eq_true_eq,beq_eq_false_iff_ne] at hc
 obtain ⟨⟨⟨⟨⟨⟨⟨⟨⟨c1,c2⟩,c3⟩,c4⟩,c5⟩,c6⟩,c7⟩,c8⟩,c9⟩,c10⟩:=hc
 refine ⟨⟨st,acc++acc0,?_⟩,c5,c6,c7,c8,c9,c3,c4⟩
 have hd:=dsok_app h0.d hA.d
 have hlt:∀ r ∈ st++st0,r.i < ops.size:=fun r hr=>by
  obtain ⟨d,h1,h2⟩:=hd.mem r hr
  have c2':=c2
  unfold chkT at c2'
  simp only [Bool.and_eq_true] at c2'
  obtain ⟨⟨⟨⟨⟨⟨⟨_,q2⟩,_⟩,_⟩,_⟩,_⟩,_⟩,_⟩:=c2'
  have:=List.all_eq_true.1 q2 d h1
  rw [h2.i] at this
  exact of_decide_eq_true this
 refine ⟨val_app h0 hA.v,hd,c2,c1,fun s hs=>?_,fun s hs=>?_,fun L hL k a w hst=>?_⟩
 ·rcases List.mem_append.1 hs with hs | hs
  ·exact hA.nx s hs
  ·exact Nat.le_trans (h0.nx s hs) hA.x0
 ·obtain ⟨d,h1,h2⟩:=hA.d.mem s hs
  have:=List.all_eq_true.1 c10 d h1
  simp only [Bool.or_eq_true,beq_iff_eq,h2.i] at this
  rcases this with ((q | q) | q) | q
  ·exact .inl q
  ·exact .inr (.inl q)
  ·exact .inr (.inr (.inl q))
  ·exact .inr (.inr (.inr q))
 ·refine ⟨e,hP,hst.weak (hA.N.trans h0.N) (hA.np.trans h0.np) (Nat.le_refl _) (fun i v hi=>?_) hA.nd (fun t x ht=>?_)⟩
  ·obtain ⟨h1,h2⟩:=hA.ob i v hi
   rw [zL3,if_pos h1,← ov_app h0 h2]
   exact zQ1 (st++st0) i (fun r hr _=>hL r.i (hlt r hr))
  ·obtain ⟨h1,h2,_⟩:=hA.sl t x ht
   rw [zQ3,if_pos (by rw [← h0.N]; exact h1),← sv_app h0 h2]
   exact zQ1 (st++st0) t (fun r hr _=>hL r.i (hlt r hr))
theorem EL_skip {st:List Stp} {L:Nat→Bool} (h:∀ s ∈ st,L s.i=false):EL e0 nx (st++st0) L=EL e0 nx st0 L:=by
 unfold EL
 have h1:svL e0 (st++st0) L=svL e0 st0 L:=funext fun k=>qF6 st st0 k fun s hs _=>h s hs
 have h2:ovL e0 (st++st0) L=ovL e0 st0 L:=funext fun k=>qF6 st st0 k fun s hs _=>h s hs
 rw [h1,h2]
theorem Leg.off {st:List Stp} {ds:List Dat} (h:Leg X ops e0 st0 pl a b nx Post st ds) {L:Nat→Bool} (hL:Down (jL ops pl ops.size) ops.size L) (ha:L a=false) (hb:L b=false):∀ s ∈ st,L s.i=false:=fun s hs=>by
 have hlt:s.i < ops.size:=by
  obtain ⟨d,h1,h2⟩:=h.d.mem s (List.mem_append.2 (.inl hs))
  have c2':=h.c
  unfold chkT at c2'
  simp only [Bool.and_eq_true] at c2'
  obtain ⟨⟨⟨⟨⟨⟨⟨_,q2⟩,_⟩,_⟩,_⟩,_⟩,_⟩,_⟩:=c2'
  have:=List.all_eq_true.1 q2 d h1
  rw [h2.i] at this
  exact of_decide_eq_true this
 cases q:L s.i with
 | false=>rfl
 | true =>
  rcases h.t s hs with z | z | z | z
  ·rw [z,ha] at q; cases q
  ·rw [z,hb] at q; cases q
  ·rw [hL _ _ hlt z q] at ha; cases ha
  ·rw [hL _ _ hlt z q] at hb; cases hb
theorem cx_leg {st:List Stp} {ds:List Dat} (h:Leg X ops e0 st0 pl a b nx Post st ds) {L:Nat→Bool} (hL:Down (addT (jL ops pl ops.size) a b ops.size) ops.size L) {s:Stp} (hs:s ∈ st++st0) (hsL:L s.i=false) (hsd:∀ x,anc (addT (jL ops pl ops.size) a b ops.size) x s.i=true→L x=true)
  {k:Ctx X.G} {c:Act} {w:World} (hst:St k (EL e0 nx (st++st0) L) c w) :
  (∀ (Q:Exit→Act→World→Prop) (K:Act→World→Prop),(∀ a' w',St k (EL e0 nx (st++st0) (fun j=>j == s.i || L j)) a' w'→K a' w')→wpOp X.P ops Q s.i K c w) ∧
  (s.pu=true→∃ o u,ops[s.i]? = some o∧Yields X.P ops o u c∧St k (EL e0 nx (st++st0) (fun j=>j == s.i || L j)) (c.put o.dst u) w):=
 cx_step rfl h.c h.v h.d h.m hL hs hsL hsd hst
def Inv2 (X:Cfg) (ops:Array Oper) (e0:Env) (st0 sA sB:List Stp) (pl:List Nat) (a b nx:Nat) (L:Nat→Bool) (k:Ctx X.G) (c:Act) (w:World):Prop:=
 Down (jL ops pl ops.size) ops.size L∧((L a=false∧L b=false∧St k (EL e0 nx st0 L) c w) ∨
  (L a=true∧Down (addT (jL ops pl ops.size) a b ops.size) ops.size L∧St k (EL e0 nx (sA++st0) L) c w) ∨
  (L b=true∧Down (addT (jL ops pl ops.size) b a ops.size) ops.size L∧St k (EL e0 nx (sB++st0) L) c w))
theorem qF7 {T:List Nat} {n i:Nat} {L:Nat→Bool} (h:Down T n L) (hi:∀ x,anc T x i=true→L x=true):Down T n (fun j=>j == i || L j):=fun b a hb hab hlb=>by
 simp only [Bool.or_eq_true,beq_iff_eq] at hlb ⊢
 rcases hlb with rfl | hlb
 ·exact .inr (hi a hab)
 ·exact .inr (h b a hb hab hlb)
def Nxt (X:Cfg) (ops:Array Oper) (e0:Env) (st0 sA sB:List Stp) (pl:List Nat) (a b nx:Nat) (L:Nat→Bool) (k:Ctx X.G) (c:Act) (w:World) (i:Nat):Prop:=
 ∃ s,s.i=i∧(s ∈ sA++st0∨s ∈ sB++st0) ∧
   (∀ (Q:Exit→Act→World→Prop) (K:Act→World→Prop),(∀ a' w',Inv2 X ops e0 st0 sA sB pl a b nx (fun j=>j == i || L j) k a' w'→K a' w')→wpOp X.P ops Q i K c w) ∧
   (s.pu=true→∃ o u,ops[i]? = some o∧Yields X.P ops o u c∧Inv2 X ops e0 st0 sA sB pl a b nx (fun j=>j == i || L j) k (c.put o.dst u) w)
theorem inv_step {sA sB:List Stp} {dA dB:List Dat} (lA:Leg X ops e0 st0 pl a b nx Post sA dA) (lB:Leg X ops e0 st0 pl b a nx Post sB dB) (hab:anc (jL ops pl ops.size) a b=false) (hba:anc (jL ops pl ops.size) b a=false) (hne:a≠b)
  {L:Nat→Bool} {k:Ctx X.G} {c:Act} {w:World} (h:Inv2 X ops e0 st0 sA sB pl a b nx L k c w) {i:Nat} (hi:i < ops.size) (hiL:L i=false) (hsd:∀ x,anc (jL ops pl ops.size) x i=true→L x=true) :
  Nxt X ops e0 st0 sA sB pl a b nx L k c w i:=by
 have hcov:∀ {a b:Nat} {st:List Stp} {ds:List Dat},Leg X ops e0 st0 pl a b nx Post st ds→∃ s ∈ st++st0,s.i=i:=fun {a b st ds} l=>by
  have c2':=l.c
  unfold chkT at c2'
  simp only [Bool.and_eq_true] at c2'
  obtain ⟨⟨⟨⟨⟨⟨⟨_,_⟩,_⟩,q4⟩,_⟩,_⟩,_⟩,_⟩:=c2'
  obtain ⟨d,h1,h2⟩:=List.any_eq_true.1 (List.all_eq_true.1 q4 i (List.mem_range.2 hi))
  obtain ⟨r,h3,h4⟩:=l.d.mem' d h1
  exact ⟨r,h3,by rw [← h4.i]; exact eq_of_beq h2⟩
 have hdn:=qF7 h.1 hsd
 obtain ⟨sa,hsa,rfl⟩:=hcov lA
 obtain ⟨sb,hsb,hsbi⟩:=hcov lB
 -- behind a wA on one leg
 obtain ⟨hD,hcase⟩:=h
 have stepA:Down (addT (jL ops pl ops.size) a b ops.size) ops.size L→(∀ x,anc (addT (jL ops pl ops.size) a b ops.size) x sa.i=true→L x=true)→St k (EL e0 nx (sA++st0) L) c w →
   (∀ a' w',St k (EL e0 nx (sA++st0) (fun j=>j == sa.i || L j)) a' w'→Inv2 X ops e0 st0 sA sB pl a b nx (fun j=>j == sa.i || L j) k a' w')→Nxt X ops e0 st0 sA sB pl a b nx L k c w sa.i:=fun h1 h2 h3 h4=>by
  obtain ⟨g1,g2⟩:=cx_leg lA h1 hsa hiL h2 h3
  exact (⟨sa,rfl,.inl hsa,fun Q K hK=>g1 Q K fun a' w' z=>hK a' w' (h4 a' w' z),fun q=>by
   obtain ⟨o,u,e1,e2,e3⟩:=g2 q
   exact ⟨o,u,e1,e2,h4 _ _ e3⟩⟩)
 have stepB:Down (addT (jL ops pl ops.size) b a ops.size) ops.size L→(∀ x,anc (addT (jL ops pl ops.size) b a ops.size) x sa.i=true→L x=true)→St k (EL e0 nx (sB++st0) L) c w →
   (∀ a' w',St k (EL e0 nx (sB++st0) (fun j=>j == sa.i || L j)) a' w'→Inv2 X ops e0 st0 sA sB pl a b nx (fun j=>j == sa.i || L j) k a' w')→Nxt X ops e0 st0 sA sB pl a b nx L k c w sa.i:=fun h1 h2 h3 h4=>by
  rw [← hsbi] at hiL h2 h4
  obtain ⟨g1,g2⟩:=cx_leg lB h1 hsb hiL h2 h3
  exact (⟨sb,hsbi,.inr hsb,fun Q K hK=>by
    rw [← hsbi] at hK ⊢
    exact g1 Q K fun a' w' z=>hK a' w' (h4 a' w' z),fun q=>by
   obtain ⟨o,u,e1,e2,e3⟩:=g2 q
   rw [← hsbi]
   exact ⟨o,u,e1,e2,h4 _ _ e3⟩⟩)
 rcases hcase with ⟨ha,hb,hst⟩ | ⟨ha,hdA,hst⟩ | ⟨hb,hdB,hst⟩
 ·by_cases hib:sa.i=b
  ·have hdB:Down (addT (jL ops pl ops.size) b a ops.size) ops.size L:=fun x y hx hy hl=>by
    rcases (qD8 hx).1 hy with z | ⟨z | z,_⟩
    ·exact hD x y hx z hl
    ·rw [z,ha] at hl; cases hl
    ·rw [hD x a hx z hl] at ha; cases ha
   have hsB:∀ x,anc (addT (jL ops pl ops.size) b a ops.size) x sa.i=true→L x=true:=fun x hx=>by
    rcases (qD8 hi).1 hx with z | ⟨z | z,_⟩
    ·exact hsd x z
    ·exact absurd (hib.symm.trans z).symm hne
    ·rw [hib,hab] at z; cases z
   refine stepB hdB hsB (by rw [EL_skip (lB.off hD hb ha)]; exact hst) (fun a' w' z=>⟨hdn,.inr (.inr ⟨by simp [hib],qF7 hdB hsB,z⟩)⟩)
  ·have hdA:Down (addT (jL ops pl ops.size) a b ops.size) ops.size L:=fun x y hx hy hl=>by
    rcases (qD8 hx).1 hy with z | ⟨z | z,_⟩
    ·exact hD x y hx z hl
    ·rw [z,hb] at hl; cases hl
    ·rw [hD x b hx z hl] at hb; cases hb
   have hsA:∀ x,anc (addT (jL ops pl ops.size) a b ops.size) x sa.i=true→L x=true:=fun x hx=>by
    rcases (qD8 hi).1 hx with z | ⟨z | z,_⟩
    ·exact hsd x z
    ·exact absurd z hib
    ·rw [hsd b z] at hb; cases hb
   by_cases hia:sa.i=a
   ·refine stepA hdA hsA (by rw [EL_skip (lA.off hD ha hb)]; exact hst) (fun a' w' z=>⟨hdn,.inr (.inl ⟨by simp [hia],qF7 hdA hsA,z⟩)⟩)
   ·refine stepA hdA hsA (by rw [EL_skip (lA.off hD ha hb)]; exact hst) (fun a' w' z=>⟨hdn,.inl ⟨?_,?_,?_⟩⟩)
    ·simp only [Bool.or_eq_false_iff,beq_eq_false_iff_ne]
     exact ⟨fun q=>hia q.symm,ha⟩
    ·simp only [Bool.or_eq_false_iff,beq_eq_false_iff_ne]
     exact ⟨fun q=>hib q.symm,hb⟩
    ·rw [EL_skip (lA.off hdn (by simp only [Bool.or_eq_false_iff,beq_eq_false_iff_ne]; exact ⟨fun q=>hia q.symm,ha⟩) (by simp only [Bool.or_eq_false_iff,beq_eq_false_iff_ne]; exact ⟨fun q=>hib q.symm,hb⟩))] at z
     exact z
 ·have hsA:∀ x,anc (addT (jL ops pl ops.size) a b ops.size) x sa.i=true→L x=true:=fun x hx=>by
   rcases (qD8 hi).1 hx with z | ⟨_,z | z⟩
   ·exact hsd x z
   ·rw [z]; exact ha
   ·exact hD a x (by
     have:=lA.c
     cases Nat.lt_or_ge a ops.size with
     | inl q=>exact q
     | inr q =>
      exfalso
      unfold anc at z
      rw [List.getD_eq_getElem?_getD,List.getElem?_eq_none (by rw [zS1]; exact q)] at z
      simp at z) z ha
  exact stepA hdA hsA hst (fun a' w' z=>⟨hdn,.inr (.inl ⟨by simp [ha],qF7 hdA hsA,z⟩)⟩)
 ·have hsB:∀ x,anc (addT (jL ops pl ops.size) b a ops.size) x sa.i=true→L x=true:=fun x hx=>by
   rcases (qD8 hi).1 hx with z | ⟨_,z | z⟩
   ·exact hsd x z
   ·rw [z]; exact hb
   ·exact hD b x (by
     cases Nat.lt_or_ge b ops.size with
     | inl q=>exact q
     | inr q =>
      exfalso
      unfold anc at z
      rw [List.getD_eq_getElem?_getD,List.getElem?_eq_none (by rw [zS1]; exact q)] at z
      simp at z) z hb
  exact stepB hdB hsB hst (fun a' w' z=>⟨hdn,.inr (.inr ⟨by simp [hb],qF7 hdB hsB,z⟩)⟩)
theorem Leg.chk {st:List Stp} {ds:List Dat} (l:Leg X ops e0 st0 pl a b nx Post st ds):topo ops=true∧(∀ k ∈ pl,k < ops.size∧∀ s ∈ st++st0,s.i=k→s.pu=true):=by
 have c2':=l.c
 unfold chkT at c2'
 simp only [Bool.and_eq_true] at c2'
 obtain ⟨⟨⟨⟨⟨⟨⟨q1,_⟩,q3⟩,_⟩,_⟩,_⟩,_⟩,_⟩:=c2'
 refine ⟨q1,fun k hk=>?_⟩
 rw [← l.p] at hk
 unfold puL at hk
 simp only [List.mem_filter,List.mem_range,List.any_eq_true,Bool.and_eq_true,beq_iff_eq] at hk
 obtain ⟨h1,d,h2,h3,h4⟩:=hk
 refine ⟨h1,fun s hs hi=>?_⟩
 obtain ⟨s',g1,g2⟩:=l.d.mem' d h2
 have hndi:((st++st0).map Stp.i).Nodup:=by rw [← l.d.map_i]; exact of_decide_eq_true q3
 have:s=s':=nodup_inj hndi hs g1 (by rw [hi,← h3,g2.i])
 rw [this,← g2.pu,h4]
theorem cx_two {l:List Oper} (h0:AOk X l.toArray e0 st0 acc0 e1) (hA:Done X l.toArray (e0.sl.map fun q=>(q.1,q.2.ids)) (zE e0.ob) acc0 pl a b nx e1 Post) (hB:Done X l.toArray (e0.sl.map fun q=>(q.1,q.2.ids)) (zE e0.ob) acc0 pl b a nx e1 Post) (hnx:e0.nx≤nx) :
  anyV X l.toArray l.length (Array.replicate l.length false) Post e0:=by
 obtain ⟨⟨sA,dA,lA⟩,hab,hba,hne,han,hbn,hns,hfr⟩:=hA.leg h0
 obtain ⟨⟨sB,dB,lB⟩,_⟩:=hB.leg h0
 obtain ⟨c1,hpA⟩:=lA.chk
 obtain ⟨_,hpB⟩:=lB.chk
 have key:∀ fuel (L:Nat→Bool),unl l.toArray.size L≤fuel→∀ (k:Ctx X.G) (c:Act) (w:World),Inv2 X l.toArray e0 st0 sA sB pl a b nx L k c w→wpAny X.P .any l.toArray (fun x a' w'=>x=.normal∧∃ e',Post .normal e'∧St k e' a' w') fuel (msk l.toArray.size L) c w:=by
  have hend:∀ (L:Nat→Bool),(∀ j,j < l.toArray.size→L j=true)→∀ (k:Ctx X.G) (c:Act) (w:World),Inv2 X l.toArray e0 st0 sA sB pl a b nx L k c w→∃ e',Post .normal e'∧St k e' c w:=fun L hL k c w h=>by
   rcases h.2 with ⟨h1,_⟩ | ⟨_,_,h3⟩ | ⟨_,_,h3⟩
   ·rw [hL a han] at h1; cases h1
   ·exact lA.e L hL k c w h3
   ·exact lB.e L hL k c w h3
  intro fuel
  induction fuel with
  | zero =>
   intro L hu k c w hst
   have hAll:=unl_zero (n:=l.toArray.size) (f:=L) (by omega)
   refine wpAny_done ?_ ⟨rfl,hend L hAll k c w hst⟩ 0
   cases hq':Region.ready .any l.toArray (msk l.toArray.size L) with
   | nil=>rfl
   | cons i r =>
    have hi:i ∈ Region.ready .any l.toArray (msk l.toArray.size L):=by rw [hq']; simp
    obtain ⟨h1,h2,_⟩:=ready_msk.1 hi
    rw [hAll i h1] at h2
    cases h2
  | succ fuel ih =>
   intro L hu k c w hst
   have hL:=hst.1
   by_cases hex:∃ i ∈ pl,L i=false∧∀ d ∈ zU2 l.toArray i,L d=true
   ·obtain ⟨i,hmem,g2,g3⟩:=hex
    have hin:=(hpA i hmem).1
    have hnxt:=qK7 c1 hL hin g3 (.inl (by simpa using hmem))
    obtain ⟨s,si,hs,_,h2⟩:=inv_step lA lB hab hba hne hst hin g2 hnxt
    have hpu:s.pu=true:=hs.elim (fun z=>(hpA i hmem).2 s z si) (fun z=>(hpB i hmem).2 s z si)
    obtain ⟨o,u,k1,k2,k3⟩:=h2 hpu
    have hfree:=List.all_eq_true.1 hfr i hmem
    unfold freeS at hfree
    rw [k1] at hfree
    simp only [Bool.and_eq_true] at hfree
    refine wpAny_take k1 hns ?_ ?_ (fun c a w z=>by cases z.1) k2 ?_
    ·unfold Region.free
     rw [k1]
     simp only [List.all_eq_true,List.mem_range]
     intro j hj
     have:=List.all_eq_true.1 hfree.2 j (List.mem_range.2 hj)
     rw [qE8,if_pos hj]
     simp only [Bool.or_eq_true] at this ⊢
     rcases this with (q | q) | q
     ·exact .inl (.inl q)
     ·exact .inl (.inr (hnxt j q))
     ·exact .inr q
    ·have:i ∈ Region.ready .any l.toArray (msk l.toArray.size L):=ready_msk.2 ⟨hin,g2,fun d hd'=>by
      have hdb:d < i:=by
       have:=List.all_eq_true.1 (List.all_eq_true.1 c1 i (List.mem_range.2 hin)) d hd'
       simpa using this
      exact ⟨by omega,g3 d hd'⟩⟩
     simpa using this
    ·rw [msk_set hin]
     refine ih (fun j=>j == i || L j) ?_ k _ w k3
     have:=unl_set (n:=l.toArray.size) (i:=i) (f:=L) hin g2
     omega
   refine ⟨fun h0=>⟨rfl,hend L (ready_none c1 h0) k c w hst⟩,fun i hi=>?_⟩
   obtain ⟨hin,hfi,hdep⟩:=ready_msk.1 hi
   have hnxt:=qK7 c1 hL hin (fun d hd'=>(hdep d hd').2) (.inr fun k hk _ hdk=>by
    cases q:L k with
    | true=>rfl
    | false=>exact absurd ⟨k,hk,q,hdk⟩ hex)
   obtain ⟨s,si,hs,h1,_⟩:=inv_step lA lB hab hba hne hst hin hfi hnxt
   refine h1 _ _ (fun a' w' hst'=>?_)
   rw [msk_set hin]
   refine ih (fun j=>j == i || L j) ?_ k a' w' hst'
   have:=unl_set (n:=l.toArray.size) (i:=i) (f:=L) hin hfi
   omega
 intro k c w hst
 have hi:Inv2 X l.toArray e0 st0 sA sB pl a b nx (fun _=>false) k c w:=by
  refine And.intro (fun _ _ _ _ (q:false=true)=>nomatch q) (Or.inl ⟨rfl,rfl,?_⟩)
  obtain ⟨D,hs,S,hst⟩:=hst
  have e1:∀ t,svL e0 st0 (fun _=>false) t=lk t e0.sl:=fun t=>by
   have:∀ r:List Stp,svL e0 r (fun _=>false) t=lk t e0.sl:=fun r=>by
    induction r with
    | nil=>rfl
    | cons p r ih=>unfold svL at ih ⊢; simp only [fv,Bool.false_and,Bool.false_eq_true,if_false]; exact ih
   exact this st0
  have e2:∀ i,ovL e0 st0 (fun _=>false) i=lk i e0.ob:=fun i=>by
   have:∀ r:List Stp,ovL e0 r (fun _=>false) i=lk i e0.ob:=fun r=>by
    induction r with
    | nil=>rfl
    | cons p r ih=>unfold ovL at ih ⊢; simp only [fv,Bool.false_and,Bool.false_eq_true,if_false]; exact ih
   exact this st0
  refine hst.weak rfl rfl hnx (fun i v hi=>?_) keys_rl (fun t x ht=>?_)
  ·rw [zL3] at hi
   split at hi
   ·rw [e2] at hi; exact hi
   ·cases hi
  ·rw [zQ3] at ht
   split at ht
   ·rw [e1] at ht; exact ht
   ·cases ht
 have:=key l.length (fun _=>false) (by
  show unl l.toArray.size (fun _=>false)≤_
  rw [unl_none]
  simp) k c w hi
 rw [msk_none]
 exact this
variable {ρ:Type} {H:Prop} {t:Option ρ} {r:ρ} {e:Env} {acc:List Dat} {Q:Prop} {l:List Oper}
theorem c2 {id m:Nat} (pl:List Nat) (a b nx:Nat) (ixA ixB:List Nat)
  (h1:Tl H t r (Cy X l.toArray e (Done X l.toArray (e0.sl.map fun q=>(q.1,q.2.ids)) (zE e0.ob) acc pl a b nx e Post) ixA [] e))
  (h2:Tl H t r (Cy X l.toArray e (Done X l.toArray (e0.sl.map fun q=>(q.1,q.2.ids)) (zE e0.ob) acc pl b a nx e Post) ixB [] e))
  (h0:okE e=true:=by kernel_rfl) (hx:decide (e.nx≤nx)=true:=by kernel_rfl):Tl H t r (Cy X l.toArray e0 (wpV X (.region id l.toArray true) Post e0) [m] acc e):=fun p q st hst =>
 regAny (cx_two hst (h1 p q [] (AOk.start h0)) (h2 p q [] (AOk.start h0)) (Nat.le_trans hst.x0 (of_decide_eq_true hx)))
end
end Go.TV
