/- Memory told as trees, part 4. -/
import Derived.Test.YtmoglghkjfjalaaGreatKFnStatsT2
import Derived.WalkKit
import Derived.ProofKit
import Derived.Lib.UnsafeStr
import Derived.Lib.Walk
import Derived.Shelf.RegionOpenPlain
import Derived.Lib.IndexMore
import Derived.Lib.LaidTab
import Derived.Lib.ItoaNum
import Derived.Sort.Grow
import Derived.Deep.Draws
import Derived.Laws.StructEq
set_option linter.unusedVariables false
set_option linter.unusedSimpArgs false
set_option maxHeartbeats 8000000
set_option maxRecDepth 100000
namespace Go.TV
section
variable {gG:GG} {c:Ctx gG} {e e':Env} {a:Act} {w:World} {D:CS} {hs:Nat→Value} {S:CS} {X:Cfg} {o:Oper}
end
theorem mklR_f {α:Type} (r:α→List V) (c:List V) {n m:Int} {z:α} {l:List α} (hz:r z=c) (h:mkl n m z=some l):((0≤n)=True)∧((n≤m)=True)∧((m≤1099511627776)=True)∧List.replicate n.toNat c=List.map r l:=by
 obtain ⟨h1,h2,h3,h4⟩:=mkl_f h
 exact ⟨h1,h2,h3,by rw [← h4,← hz,rep_rows]⟩
end Go.TV
namespace Go.TV
def Cfg.ofG (P:Program) (h:P.follows .mixedOrders=true) (l:List (Nat×(Obj→Prop))):Cfg:={Cfg.of P h with G:=fun b=>(l.find? fun x=>x.1 == b).map fun x=>x.2}
theorem Cfg.ofG_mem {l:List (Nat×(Obj→Prop))} {b:Nat} {φ:Obj→Prop} (h:((l.find? fun x=>x.1 == b).map fun x=>x.2)=some φ):(b,φ) ∈ l:=by
 cases q:l.find? fun x=>x.1 == b with
 | none=>rw [q] at h; cases h
 | some x =>
  rw [q] at h
  injection h with h
  have h1:=List.mem_of_find?_eq_some q
  have h2:=List.find?_some q
  have h2:x.1=b:=by simpa using h2
  subst h2 h
  exact h1
def isNum (x:Obj):Prop:=∃ cs e k m,x=.cells cs e k∧cs[0]? = some (.int .i64 m)
theorem isNum_cell {w:World} {b:Nat} {x:Obj} (h:w.heap[b]? = some x) (hx:isNum x):∃ m,w.cell? (ad b 0)=some (.int .i64 m):=by
 obtain ⟨cs,e,k,m,rfl,h1⟩:=hx
 refine ⟨m,?_⟩
 unfold World.cell? ad
 simp only [h]
 exact h1
theorem cell_isNum {w:World} {b:Nat} {m:Int} (h:w.cell? (ad b 0)=some (.int .i64 m)):∃ x,w.heap[b]? = some x∧isNum x:=by
 unfold World.cell? ad at h
 simp only at h
 split at h
 ·rename_i cs e k hq
  exact ⟨_,hq,cs,e,k,m,rfl,by simpa using h⟩
 ·cases h
theorem Fn_pureB {X : Cfg} {f : Nat} {s x : ByteArray} {b : Bool} (hex : ∃ fn, X.P.funcs[f]? = some fn ∧ fn.body.isSome = true ∧ (fn.name == "runtime.NumGoroutine") = false)
  (hc:∀ w:World,(∀ g φ,X.G g=some φ→∃ x,w.heap[g]? = some x∧φ x)→Calls X.P f #[.string s,.string x] w fun e w'=>e=.returned (.bool b)∧w'=w) :
  Fn X f [.one (.sc (.string s)),.one (.sc (.string x))] [.one (.sc (.bool b))] []:=by
 refine ⟨hex,fun w D S us fl ha hr hj hD hg=>?_⟩
 obtain ⟨u0,us1,fl1,rfl,rfl,u1,us2,fl2,rfl,rfl,rfl,rfl⟩:=ha
 obtain ⟨y0,S0,S1,hy0,hx0,⟨y1,S2,S3,hy1,hx1,hS3,hd1,rfl⟩,hd0,rfl⟩:=hr
 simp only [List.getElem?_cons_zero,Option.some.injEq] at hy0
 simp only [Nat.zero_add,List.getElem?_cons_succ,List.getElem?_cons_zero,Option.some.injEq] at hy1
 subst hy0 hy1
 obtain ⟨rfl,_,rfl⟩:=hx0
 obtain ⟨rfl,_,rfl⟩:=hx1
 obtain rfl:S3=emp:=hS3
 refine (hc w (fun g φ q=>(hg g φ q).2.2.2)).mono ?_
 rintro en w' ⟨rfl,rfl⟩
 refine ⟨_,[.bool b],D,emp,emp,rfl,⟨_,_,_,rfl,rfl,rfl,rfl⟩,⟨_,emp,emp,rfl,⟨rfl,rfl,rfl⟩,rfl,emp_dj _,(cup_emp emp).symm⟩,rfl,emp_dj _,?_,Frm.refl _ _,?_,zK D,fun _ _ h=>.inl h,hD⟩
 ·rw [emp_cup]
  exact emp_dj _
 ·intro y o q
  rw [emp_cup] at q
  exact q.elim
end Go.TV
namespace Go.TV
def eqV:Kd→Value→Value→Option Bool
 | .bool,.bool a,.bool b=>some (a == b)
 | .int _,.int k a,.int k2 b=>if k=k2 then some (a == b) else none
 | .string,.string a,.string b=>some (a.toList == b.toList)
 | _,_,_=>none
def scOf:C→Option Value
 | .v (.sc v)=>some v
 | _=>none
def eq1 (T:Nat→Option TyI) (cs ds:List C) (f:Nat×Nat):Option Bool:=
 (T f.2).bind fun d=>(cs[f.1]?).bind fun c=>(scOf c).bind fun u=>(ds[f.1]?).bind fun c2=>(scOf c2).bind fun v=>eqV d.kd u v
def eqF (T:Nat→Option TyI) (cs ds:List C):List (Nat×Nat)→Option Bool
 | []=>some true
 | [f]=>eq1 T cs ds f
 | f :: g :: fs=>(eq1 T cs ds f).bind fun b=>(eqF T cs ds (g :: fs)).bind fun r=>some (b && r)
def Env.ag (e:Env) (x:Operand):Option (List C):=
 match e.val x with
 | some (.pl (.agg l))=>some l
 | _=>none
def evCmp (T:Nat→Option TyI) (o:Oper) (op:BinOp) (t:Nat) (x y:Operand) (e:Env):Option Env:=
 (T t).bind fun d=>match d.kd with
  | .struct fs=>(e.ag x).bind fun cs=>(e.ag y).bind fun ds=>(eqF T cs ds fs).bind fun b=>match op with
   | .eql=>e.putO o.dst (.pl (.one (.v (.sc (.bool b)))))
   | .neq=>e.putO o.dst (.pl (.one (.v (.sc (.bool (!b))))))
   | _=>none
  | _=>none
def cmpOk (P : Program) (t : Nat) : Bool := !P.eqGuardType P.depth t && !P.stoodInHeld t && (P.fieldsOf t).toList.all fun f => f.name != "_"
section
variable {gG:GG} {c:Ctx gG} {e e':Env} {a:Act} {w:World} {D:CS} {hs:Nat→Value} {S:CS} {X:Cfg} {o:Oper}
theorem eqV_run {P:Program} {t:Nat} {d:TyI} (ht:TyOk P t d) {u v:Value} {b:Bool} (h:eqV d.kd u v=some b) (n:Nat) (w:World):(Op.equalIn (n+1) t u v).run P w=.ok b w∧(isAgg t).run P w=.ok false w:=by
 have ha:=run_agg (w:=w) ht
 unfold eqV at h
 split at h
 ·rename_i hk
  injection h with h
  rw [hk] at ha
  exact ⟨h ▸ run_equalIn_bool' w n t _ _ (run_und_bool ht hk),ha⟩
 ·rename_i hk
  split at h
  ·rename_i q
   subst q
   injection h with h
   rw [hk] at ha
   exact ⟨h ▸ run_equalIn_int w n t _ _ _ _ (run_und_int ht hk),ha⟩
  ·cases h
 ·rename_i hk
  injection h with h
  rw [hk] at ha
  exact ⟨h ▸ run_equalIn_string w n t _ _ (jD ht hk),ha⟩
 ·cases h
theorem scOf_rep {nx:Nat} {ob:List (Nat×V)} {k:C} {u v:Value} (h:scOf k=some v) (hr:CRep w D hs nx ob k u):u=v:=by
 unfold scOf at h
 split at h
 ·injection h with h
  subst h
  exact hr.1
 ·cases h
theorem eq1_run {nx:Nat} {ob:List (Nat×V)} {cs ds:List C} {us vs:List Value} (hc:CsRep w D hs nx ob cs us) (hd:CsRep w D hs nx ob ds vs) {f:Field} {b:Bool} (h:eq1 X.T cs ds (f.offset,f.type)=some b) (n:Nat) (w:World) :
  ∃ u v,(part f.type us.toArray f.offset).run X.P w=.ok u w∧(part f.type vs.toArray f.offset).run X.P w=.ok v w∧(Op.equalIn (n+1) f.type u v).run X.P w=.ok b w:=by
 obtain ⟨d,h1,h⟩:=zbi h
 obtain ⟨k1,h2,h⟩:=zbi h
 obtain ⟨u,h3,h⟩:=zbi h
 obtain ⟨k2,h4,h⟩:=zbi h
 obtain ⟨v,h5,h⟩:=zbi h
 obtain ⟨u',g1,g2⟩:=CsRep.get _ _ _ _ hc h2
 obtain ⟨v',g3,g4⟩:=CsRep.get _ _ _ _ hd h4
 obtain rfl:=scOf_rep h3 g2
 obtain rfl:=scOf_rep h5 g4
 obtain ⟨k1,k2⟩:=eqV_run (X.hT _ _ h1) h n w
 have g1:us[f.offset]? = some u':=g1
 have g3:vs[f.offset]? = some v':=g3
 refine ⟨u',v',?_,?_,k1⟩ <;> simp [part,k2,g1,g3]
theorem eqF_run {nx : Nat} {ob : List (Nat × V)} {cs ds : List C} {us vs : List Value} (hc : CsRep w D hs nx ob cs us) (hd : CsRep w D hs nx ob ds vs) (n : Nat) (w2 : World) : ∀ (fs : List Field) (b : Bool), (∀ f ∈ fs, f.name ≠ "_") → eqF X.T cs ds (fs.map fun f => (f.offset, f.type)) = some b → (Op.eqFields (n + 1) us.toArray vs.toArray fs).run X.P w2 = .ok b w2
 | [],b,_,h=>by
  injection h with h
  subst h
  rfl
 | [f],b,hn,h=>by
  obtain ⟨u,v,h1,h2,h3⟩:=eq1_run hc hd h n w2
  simp only [Op.eqFields,hn f (by simp),ne_eq,not_false_eq_true,if_true,Sem.run_bind,h1,h2,h3,Result.andThen_ok]
  cases b <;> rfl
 | f :: g :: fs,b,hn,h=>by
  obtain ⟨b1,h0,h⟩:=zbi h
  obtain ⟨r,h4,h⟩:=zbi h
  injection h with h
  subst h
  obtain ⟨u,v,h1,h2,h3⟩:=eq1_run hc hd h0 n w2
  have ih:=eqF_run hc hd n w2 (g :: fs) r (fun x hx=>hn x (List.mem_cons_of_mem _ hx)) h4
  rw [Op.eqFields,if_pos (hn f (by simp))]
  simp only [Sem.run_bind,h1,h2,h3,Result.andThen_ok]
  cases b1
  ·rfl
  ·simp only [Bool.not_true,Bool.false_eq_true,if_false,Bool.true_and]
   exact ih
theorem Env.ag_rep (h:StD c e a w D hs S) {x:Operand} {l:List C} (hx:e.ag x=some l):∃ us:List Value,a.eval x=.agg us.toArray∧CsRep w D hs e.nx e.ob l us:=by
 unfold Env.ag at hx
 split at hx
 ·rename_i l' hv
  injection hx with hx
  subst hx
  exact h.val hv
 ·cases hx
theorem evCmp_pure (h:StD c e a w D hs S) {op:BinOp} {t t':Nat} {x y:Operand} (ho:o.op=.binOp op t x y t') (hp:cmpOk X.P t=true) (he:evCmp X.T o op t x y e=some e'):DidP X.P e o a w D hs e':=by
 obtain ⟨d,h1,h2⟩:=zbi he
 split at h2
 case h_2=>cases h2
 rename_i fs hk
 obtain ⟨cs,h3,h4⟩:=zbi h2
 obtain ⟨ds,h5,h6⟩:=zbi h4
 obtain ⟨b,h7,h8⟩:=zbi h6
 obtain ⟨us,g1,g2⟩:=Env.ag_rep h h3
 obtain ⟨vs,g3,g4⟩:=Env.ag_rep h h5
 obtain ⟨fl,g5,rfl⟩:=run_und_struct (X.hT _ _ h1) hk
 unfold cmpOk at hp
 simp only [Bool.and_eq_true,Bool.not_eq_true',List.all_eq_true,bne_iff_ne] at hp
 obtain ⟨⟨p1,p2⟩,p3⟩:=hp
 have hf:X.P.fieldsOf t=fl:=by unfold Program.fieldsOf; rw [g5]
 rw [hf] at p3
 have g5':X.P.underlying t=some (.struct (X.P.fieldsOf t)):=by rw [hf]; exact g5
 have hr:∀ w2,(Op.equalIn 10000 t (.agg us.toArray) (.agg vs.toArray)).run X.P w2=.ok b w2:=fun w2=>by
  rw [show (10000:Nat)=9999+1 from rfl,run_equalIn_agg w2 9999 t _ _ g5' p2,hf]
  exact eqF_run g2 g4 9998 w2 fl.toList b p3 h7
 have he2:execOp a.eval o=(do pure (.value (← (do eqGuard op t x y (a.eval x) (a.eval y); binOp op t (a.eval x) (a.eval y):Sem Value)))):=by simp only [execOp,ho]
 have hg:∀ w2,(eqGuard op t x y (.agg us.toArray) (.agg vs.toArray)).run X.P w2=.ok () w2:=fun w2=>run_eqGuard_agg w2 op t x y _ _ p1
 cases op <;> first | (cases h8; done) | skip
 ·refine h.didP (fun w2=>?_) h8 (sc_rep rfl)
  rw [he2,g1,g3]
  simp only [Sem.run_bind,hg,Result.andThen_ok,run_eql_struct,hr]
  rfl
 ·refine h.didP (fun w2=>?_) h8 (sc_rep rfl)
  rw [he2,g1,g3]
  simp only [Sem.run_bind,hg,Result.andThen_ok,run_neq_struct,hr]
  rfl
end
theorem quV_cmp {X:Cfg} {Post:Exit→Env→Prop} {e e':Env} {ops:Array Oper} {o:Oper} {l:List Oper} {op:BinOp} {t t':Nat} {x y:Operand} {p:Prop} (hH:p) (hp:cmpOk X.P t=true) (h:quV X ops l Post e') (hg:o.guard=none:=by rfl) (ho:o.op=.binOp op t x y t':=by rfl)
  (he:p→evCmp X.T o op t x y e=some e':=by
   intro hH
   simp only [hH,evCmp,Env.ag,eqF,eq1,eqV,scOf,evMove,qS,evPick,evBin,evUn,qL,Env.sure,evNil,zW,evLoad,Env.int,Env.node,zV,jC,jB,Env.bound,Env.cut,jF,V.alive,Env.takes,evAlloc,Ag.cells,evBox,Env.newListO,evMake,over,Env.solid,Env.solidG,Env.parts,Ty.places,evBuild,Env.rowsOf,chunk,zX,Env.rows,isU8B,evLen,qD,V.isSc,C.killN,Ag.map,Sl.map,qB,Env.place,Env.lay,jG,C.killA,scR_nil,jA,alR_nil,jE,Env.src,Env.newAt,qY,Env.take,V.get,V.set,V.rowAt,V.setRow,Option.getD_some,List.set_cons_zero,List.set_cons_succ,qC,List.set_set,cellOf,cellsOf,Env.behind,Env.val,Env.sc,Env.cl,lk,setO,delO,qI,qF,plain,Env.putO,Env.put,tyBool,binV,unV,rK,rB,rS,rL,wk_fold,bI_add,bI_sub,bI_mul,bI_quo,bI_rem,bI_and,bI_or,bI_xor,qU,bI_eql,bI_neq,bI_lss,bI_leq,bI_gtr,bI_geq,bI_shl,bI_shr,bS_add,bS_eql,bS_neq,bS_lss,bS_leq,bS_gtr,bS_geq,qP,qV,
      ↓reduceIte,eq_self,Option.isSome_some,Option.isSome_none,Option.bind_some,Option.bind_none,Option.map_some,Option.map_none,Bool.false_eq_true,Nat.reduceLT,Nat.reduceLeDiff,Nat.reduceEqDiff,Nat.reduceAdd,Nat.reduceMul,Nat.reduceSub,Int.reduceLT,Int.reduceEq,Int.reduceNeg,List.length_map,List.length_cons,List.length_nil,List.length_append,List.getElem?_map,List.map_cons,List.map_nil,true_or,or_true,or_false,false_or,and_true,true_and,and_self,not_true,not_false_eq_true,reduceCtorEq,List.all_cons,List.all_nil,Bool.and_true,Bool.true_and,ne_eq,List.drop_zero,List.nil_append,List.append_nil,List.singleton_append,List.cons_append,List.flatMap_cons,List.flatMap_nil,List.flatten_cons,List.flatten_nil,List.mapM_cons,List.mapM_nil,Option.pure_def,Option.bind_eq_bind,List.take_zero,List.take_succ_cons,List.drop_succ_cons,List.getElem?_cons_zero,List.getElem?_cons_succ,List.set_cons_zero,List.set_cons_succ,List.headD_cons,List.take_nil,List.drop_nil,Nat.sub_zero,Nat.add_zero,Nat.zero_add,Nat.zero_le,Nat.le_refl,← List.map_append,← List.map_take,← List.map_drop] <;> rfl):quV X ops (o :: l) Post e:=fun k a w ⟨D,hs,S,hd⟩=>by
 obtain ⟨u,h1,h2⟩:=(evCmp_pure hd ho hp (he hH)).st hd
 have hw:Region.wanted o (yielded ops a.tmps)=true:=by simp [Region.wanted,hg]
 unfold wpQuiet
 rw [if_pos hw]
 exact ⟨u,fun w' hw'=>by unfold Oper.quietAt; rw [h1 w']; exact ⟨rfl,rfl⟩,h k _ w h2⟩
end Go.TV
namespace Go.TV
def C.frzI (i:Nat) (v:V):C→C
 | .ref k []=>.ref k []
 | .ref k (s :: p)=>if k=i then (match p with | []=>(match v.get [s] with | some x=>if x.alive=true then .v x.bor else .dead | none=>.dead) | _ :: _=>.dead) else .ref k (s :: p)
 | .part k p n lo hi=>if k=i then .dead else .part k p n lo hi
 | .addr k [] n r j=>.addr k [] n r j
 | .addr k (s :: p) n r j=>if k=i then .dead else .addr k (s :: p) n r j
 | c=>c
def Env.frzI (e:Env) (i:Nat):Option Env:=
 (lk i e.ob).bind fun v=>match v with
  | .box true row=>if e.np≤i then some {e with ob:=setO i (.box true (zQ row)) e.ob,sl:=qB (C.frzI i (.box true row)) e.sl} else none
  | _=>none
section
variable {gG:GG} {c:Ctx gG} {e e':Env} {a:Act} {w:World} {D:CS} {hs:Nat→Value} {S:CS} {X:Cfg} {o:Oper}
theorem lk_setO {i k:Nat} {x:V}:∀ {ob:List (Nat×V)} {v:V},lk i ob=some v→lk k (setO i x ob)=if k=i then some x else lk k ob
 | [],_,h=>by simp [lk] at h
 | (m,y) :: r,v,h=>by
  simp only [lk] at h
  simp only [setO]
  by_cases q:i=m
  ·subst q
   simp only [if_true,lk]
   split <;> rfl
  ·rw [if_neg q] at h
   rw [if_neg q]
   simp only [lk]
   rw [lk_setO h]
   by_cases q2:k=m
   ·subst q2
    rw [if_pos rfl,if_neg (fun z=>q z.symm),if_pos rfl]
   ·rw [if_neg q2,if_neg q2]
theorem RepRow.at {w:World} {D:CS}:∀ (row:List V) (rd:Nat→Option Value) (k:Nat) (S:CS) (j:Nat) (x:V),RepRow w D rd row k S→row[j]? = some x→∃ u Sx,rd (k+j)=some u∧Rep w D x u Sx∧sub Sx S
 | [],_,_,_,j,x,_,h=>by simp at h
 | v :: row,rd,k,S,0,x,h,hx=>by
  obtain ⟨u,S1,S2,h1,h2,h3,h4,rfl⟩:=h
  simp only [List.getElem?_cons_zero,Option.some.injEq] at hx
  subst hx
  exact ⟨u,S1,by simpa using h1,h2,sub_l _ _⟩
 | v :: row,rd,k,S,j+1,x,h,hx=>by
  obtain ⟨u,S1,S2,h1,h2,h3,h4,rfl⟩:=h
  obtain ⟨u',Sx,g1,g2,g3⟩:=RepRow.at row rd (k+1) S2 j x h3 (by simpa using hx)
  exact ⟨u',Sx,by rw [show k+(j+1)=k+1+j by omega]; exact g1,g2,qM g3 (sub_r _ _)⟩
theorem StD.frzI (h:StD c e a w D hs S) {i:Nat} (he:e.frzI i=some e'):St c e' a w:=by
 obtain ⟨v,h1,h2⟩:=zbi he
 split at h2
 case h_2=>cases h2
 rename_i row
 split at h2
 case isFalse=>cases h2
 rename_i hnp
 injection h2 with h2
 subst h2
 obtain ⟨T1,G,g1,rfl,g3,g4,g5⟩:=h.ob.focus e.ob S i _ h1
 obtain ⟨b,o,S1,hu,hr,hown,hdj,rfl⟩:=g1
 -- what is lent from now on
 have hD2:sub D (cup D S1):=sub_l _ _
 have hS2:sub S1 (cup D S1):=sub_r _ _
 have hrow:RepRow w (cup D S1) (rdm w b o) (zQ row) 0 emp:=RepRow.lent row _ 0 S1 hr hD2 hS2
 have hlen:(zQ row).length=row.length:=by rw [borRow_map,List.length_map]
 have hbox:Rep w (cup D S1) (.box true (zQ row)) (hs i) (cup (rng b o row.length) emp):=⟨b,o,emp,hu,hrow,by rw [hlen]; exact ⟨hown,dj_emp _,rfl⟩⟩
 have hd1:TV.dj (cup (rng b o row.length) emp) G:=fun x y p q=>p.elim (fun p=>g3 x y (.inl p) q) (fun p=>p.elim)
 have hob:=g5 w (cup D S1) hs (.box true (zQ row)) (cup (rng b o row.length) emp) hD2 (zL w D) (zL w G) (fun _ _ _ _=>rfl) hbox hd1
 have hlk:∀ k,lk k (setO i (.box true (zQ row)) e.ob)=if k=i then some (.box true (zQ row)) else lk k e.ob:=fun k=>lk_setO h1
 have hsub:∀ x y,cup (cup (rng b o row.length) emp) G x y→cup (cup (rng b o row.length) S1) G x y:=fun x y q=>q.elim (fun q=>q.elim (fun q=>.inl (.inl q)) (fun q=>q.elim)) .inr
 refine ⟨cup D S1,hs,_,{
  ob:=hob
  sl:=fun t s q=>?_
  sz:=h.sz
  df:=h.df
  dj:=fun x y p q=>?_
  Dl:=fun x y q=>q.elim (h.Dl x y) (fun q=>h.ob.blt x y (.inl (.inr q)))
  id:=fun k x q=>?_
  npx:=h.npx
  hp:=h.hp
  fr:=h.fr
  Ss:=fun x y q=>h.Ss x y (hsub x y q)
  D0:=qM h.D0 hD2
  Ds:=fun x y q=>q.elim (h.Ds x y) (fun q=>(h.Ss x y (.inl (.inr q))).elim (fun z=>.inr (.inl z)) (fun z=>.inr (.inr z)))
  gl:=h.gl}⟩
 ·have q:lk t (qB (C.frzI i (.box true row)) e.sl)=some s:=q
  rw [lk_slMapF,Option.map_eq_some_iff] at q
  obtain ⟨s0,q1,rfl⟩:=q
  refine SlRep.mapF (fun k u hk=>?_) (h.sl t s0 q1)
  have pth:∀ (m:Nat) (p:List Step) (φ:Value→Prop),m≠i→Pth w hs e.ob m p φ→Pth w hs (setO i (.box true (zQ row)) e.ob) m p φ:=fun m p φ hm hp v x hv hx=>by
   rw [hlk,if_neg hm] at hv
   exact hp v x hv hx
  have pth0:∀ (m:Nat) (φ:Value→Prop),Pth w hs e.ob m [] φ→Pth w hs (setO i (.box true (zQ row)) e.ob) m [] φ:=fun m φ hp v x hv hx=>by
   rw [hlk] at hv
   split at hv
   ·rename_i q
    subst q
    exact hp _ _ h1 rfl
   ·exact hp v x hv hx
  cases k with
  | ref m p =>
   cases p with
   | nil=>exact ⟨hk.1,pth0 m _ hk.2⟩
   | cons s p =>
    simp only [C.frzI]
    split
    ·rename_i hm
     subst hm
     cases p with
     | cons _ _=>trivial
     | nil =>
      simp only
      split
      ·rename_i x hx
       split
       ·rename_i hal
        obtain ⟨u1,k1,_,rfl⟩:=hk.2 _ x h1 hx
        obtain ⟨n,i',j⟩:=s
        simp only [V.get,V.rowAt] at hx
        split at hx
        ·rename_i hi'
         subst hi'
         obtain ⟨y,hy,hyx⟩:=zbi (show (row[j]?).bind (fun x=>some x)=some x from hx)
         injection hyx with hyx
         subst hyx
         obtain ⟨u2,Sx,f1,f2,f3⟩:=RepRow.at row _ 0 S1 j y hr hy
         have e1:loc w (hs m) [(n,0,j)]=some u2:=by
          simp only [loc,hu,base,ad_add,Nat.zero_mul]
          simp only [rdm] at f1
          rw [f1]
         rw [e1] at k1
         injection k1 with k1
         subst k1
         exact Rep.lent y u2 Sx f2 hD2 (qM f3 hS2) hal
        ·cases hx
       ·trivial
      ·trivial
    ·rename_i hm
     exact ⟨hk.1,pth m _ _ hm hk.2⟩
  | part m p n lo hi =>
   simp only [C.frzI]
   split
   ·trivial
   ·rename_i hm
    exact ⟨hk.1,pth m _ _ hm hk.2⟩
  | addr m p n r j =>
   cases p with
   | nil=>exact ⟨hk.1,pth0 m _ hk.2⟩
   | cons s p =>
    simp only [C.frzI]
    split
    ·trivial
    ·rename_i hm
     exact ⟨hk.1,pth m _ _ hm hk.2⟩
  | v x=>exact Rep.mono hD2 hk
  | ba row'=>exact CRep.growD (k:=.ba row') hD2 hk
  | dead=>trivial
 ·rcases q with q | q
  ·exact h.dj x y (hsub x y p) q
  ·rcases p with p | p
   ·rcases p with p | p
    ·exact hdj x y p q
    ·exact p
   ·exact g3 x y (.inr q) p
 ·have q:lk k (setO i (.box true (zQ row)) e.ob)=some x:=q
  rw [hlk] at q
  split at q
  ·rename_i hk
   subst hk
   exact h.id _ _ h1
  ·exact h.id k x q
end
theorem shdI {I:Env→Prop} {e e':Env} {p:Prop} (hH:p) (i:Nat) (h:Shd I e')
  (he:p→e.frzI i=some e':=by
   intro hH
   simp only [hH,Env.frzI,lk,setO,V.own,V.alive,V.get,V.rowAt,V.bor,zQ,rK,rB,rS,rL,qB,Sl.map,Ag.map,C.frzI,List.map_cons,List.map_nil,List.getElem?_cons_zero,List.getElem?_cons_succ,Option.bind_some,reduceIte,Nat.reduceEqDiff,Nat.reduceLeDiff,and_self,true_and,and_true] <;> rfl):Shd I e:=.inr fun g c a w hs=>by
 obtain ⟨D,hs',S,hd⟩:=hs
 exact h.st (hd.frzI (he hH))
theorem wpV_frzI {X:Cfg} {Post:Exit→Env→Prop} {e e':Env} {cd:Code} {p:Prop} (hH:p) (i:Nat) (h:wpV X cd Post e')
  (he:p→e.frzI i=some e':=by
   intro hH
   simp only [hH,Env.frzI,lk,setO,V.own,V.alive,V.get,V.rowAt,V.bor,zQ,rK,rB,rS,rL,qB,Sl.map,Ag.map,C.frzI,List.map_cons,List.map_nil,List.getElem?_cons_zero,List.getElem?_cons_succ,Option.bind_some,reduceIte,Nat.reduceEqDiff,Nat.reduceLeDiff,and_self,true_and,and_true] <;> rfl):wpV X cd Post e:=fun k a w hs=>by
 obtain ⟨D,hs',S,hd⟩:=hs
 exact h k a w (hd.frzI (he hH))
end Go.TV
