/- Memory told as trees, part 3. -/
import Derived.Test.YtmoglghkjfjalaaGreatKFnExactFileLogT2
import Derived.Deep.Quiet
import Derived.StillTail
set_option linter.unusedVariables false
set_option linter.unusedSimpArgs false
set_option maxHeartbeats 8000000
set_option maxRecDepth 100000
namespace Go.TV
def kdOf:TypeDesc→Option Kd
 | .bool=>some .bool
 | .int k=>some (.int k)
 | .string=>some .string
 | .slice e=>some (.slice e)
 | .pointer e=>some (.ptr e)
 | .struct fs=>some (.struct (fs.toList.map fun f=>(f.offset,f.type)))
 | .func ..=>some .other
 | _=>none
theorem kdOf_ok {u:TypeDesc} {k:Kd} (h:kdOf u=some k):KdOk u k:=by
 cases u <;> simp [kdOf] at h <;> subst h <;> simp [KdOk]
def zOf (n:Nat) (v:Value):Option V:=
 match v with
 | .slice none 0 0=>some (.list true n [])
 | v=>if plain v=true then some (.sc v) else none
theorem zOf_ok {n:Nat} {v:Value} {x:V} (h:zOf n v=some x):zv x=v∧zok x=true:=by
 unfold zOf at h
 split at h
 ·injection h with h; subst h; exact ⟨rfl,rfl⟩
 ·split at h
  ·rename_i q
   injection h with h
   subst h
   exact ⟨rfl,q⟩
  ·cases h
def zsOf:List Value→List Nat→Option (List V)
 | [],_=>some []
 | v :: vs,ns=>(zOf (ns.headD 1) v).bind fun x=>(zsOf vs ns.tail).map fun xs=>x :: xs
theorem zsOf_ok:∀ (vs:List Value) (ns:List Nat) (xs:List V),zsOf vs ns=some xs→vs=xs.map zv∧xs.all zok=true
 | [],_,xs,h=>by injection h with h; subst h; exact ⟨rfl,rfl⟩
 | v :: vs,ns,xs,h=>by
  obtain ⟨x,h1,h⟩:=zbi h
  obtain ⟨ys,h2,rfl⟩:=Option.map_eq_some_iff.1 h
  obtain ⟨g1,g2⟩:=zOf_ok h1
  obtain ⟨g3,g4⟩:=zsOf_ok vs _ ys h2
  exact ⟨by rw [List.map_cons,g1,← g3],by simp [g2]; simpa using g4⟩
def cellNs (P:Program):Nat→Nat→List Nat
 | 0,_=>[]
 | d+1,t=>match P.underlying t with
  | some (.struct fs)=>fs.toList.flatMap fun f=>cellNs P d f.type
  | some (.slice e)=>[match P.info? e with | some i=>i.size | none=>1]
  | _=>[1]
def tyOf (P:Program) (t:Nat):Option TyI:=
 (P.info? t).bind fun i=>(P.underlying t).bind fun u=>(kdOf u).bind fun k=>i.zero.bind fun z=>(zsOf z.cells.toList (cellNs P 9 t)).bind fun l =>
  if l.length=i.size then some ⟨i.size,i.bytes,k,l⟩ else none
theorem tyOf_ok {P:Program} {t:Nat} {d:TyI} (h:tyOf P t=some d):TyOk P t d:=by
 obtain ⟨i,h1,h⟩:=zbi h
 obtain ⟨u,h2,h⟩:=zbi h
 obtain ⟨k,h3,h⟩:=zbi h
 obtain ⟨z,h4,h⟩:=zbi h
 obtain ⟨l,h5,h⟩:=zbi h
 split at h
 case isFalse=>cases h
 rename_i hl
 injection h with h
 subst h
 obtain ⟨g1,g2⟩:=zsOf_ok _ _ _ h5
 exact {inf:=⟨i,h1,rfl,rfl,z,h4,g1⟩,und:=⟨u,h2,kdOf_ok h3⟩,zo:=g2,zl:=hl}
def Cfg.of (P:Program) (h:P.follows .mixedOrders=true):Cfg:={P:=P,T:=tyOf P,hT:=fun _ _ q=>tyOf_ok q,mx:=h}
end Go.TV
namespace Go.TV
def DidP (P:Program) {gG:GG} (c:Ctx gG) (o:Oper) (a:Act) (w:World) (e':Env):Prop:=
 ∃ u,(∀ w',(execOp a.eval o).run P w'=.ok (.value u) w')∧St c e' (a.put o.dst u) w
section
variable {gG:GG} {c:Ctx gG} {e e':Env} {a:Act} {w:World} {D:CS} {hs:Nat→Value} {S:CS} {X:Cfg} {o:Oper}
theorem StD.didP (h:StD c e a w D hs S) {P:Program} {o:Oper} {s:Sl} {u:Value} {e':Env} (hr:∀ w',(execOp a.eval o).run P w'=.ok (.value u) w') (he:e.putO o.dst s=some e') (hu:SlRep w D hs e.nx e.ob s u) :
  DidP P c o a w e':=⟨u,hr,D,hs,S,h.putO he hu⟩
theorem evMove_pure (h:StD c e a w D hs S) {x:Operand} (ho:o.op=.move x) (he:evMove o x e=some e'):DidP X.P c o a w e':=by
 obtain ⟨s,h1,h2⟩:=zbi he
 exact h.didP (fun w=>by simp [execOp,ho]) h2 (h.val h1)
theorem evPick_pure (h:StD c e a w D hs S) {k x y:Operand} (ho:o.op=.pick k x y) (he:evPick o k x y e=some e'):DidP X.P c o a w e':=by
 obtain ⟨s,h1,h2⟩:=zbi he
 obtain ⟨g1,g2⟩:=h.sc h1
 cases s with
 | bool t =>
  simp only at h2
  split at h2
  ·rename_i ht
   subst ht
   obtain ⟨s,h3,h4⟩:=zbi h2
   exact h.didP (fun w=>by simp [execOp,ho,g1,asBool]) h4 (h.val h3)
  ·rename_i ht
   have ht:t=false:=by simpa using ht
   subst ht
   obtain ⟨s,h3,h4⟩:=zbi h2
   exact h.didP (fun w=>by simp [execOp,ho,g1,asBool]) h4 (h.val h3)
 | _=>cases h2
theorem evBin_pure (h:StD c e a w D hs S) {op:BinOp} {t t':Nat} {x y:Operand} (ho:o.op=.binOp op t x y t') (he:evBin X.T o op t x y e=some e'):DidP X.P c o a w e':=by
 obtain ⟨u,h1,h2⟩:=zbi he
 obtain ⟨v,h3,h4⟩:=zbi h2
 obtain ⟨r,h5,h6⟩:=zbi h4
 obtain ⟨g1,_⟩:=h.sc h1
 obtain ⟨g3,_⟩:=h.sc h3
 have hr:∀ w,(do eqGuard op t x y (a.eval x) (a.eval y); binOp op t (a.eval x) (a.eval y):Sem Value).run X.P w=.ok r w:=fun w=>by
  rw [g1,g3]
  unfold binV at h5
  split at h5
  ·split at h5
   ·exact run_binI ‹_› h5
   ·cases h5
  ·exact run_binS h5
  ·split at h5
   ·rename_i hb
    unfold tyBool at hb
    split at hb
    ·rename_i hT
     exact run_binB (X.hT _ _ hT) rfl h5
    ·cases hb
   ·cases h5
  ·cases h5
 refine h.didP (fun w=>?_) h6 (sc_rep (binV_plain h5))
 have:execOp a.eval o=(do pure (.value (← (do eqGuard op t x y (a.eval x) (a.eval y); binOp op t (a.eval x) (a.eval y):Sem Value)))):=by simp only [execOp,ho]
 rw [this,Sem.run_bind,hr]
 rfl
theorem evUn_pure (h:StD c e a w D hs S) {op:UnOp} {t:Nat} {x:Operand} (ho:o.op=.unOp op t x) (he:evUn o op x e=some e'):DidP X.P c o a w e':=by
 obtain ⟨u,h1,h2⟩:=zbi he
 obtain ⟨r,h5,h6⟩:=zbi h2
 obtain ⟨g1,_⟩:=h.sc h1
 have k1:=fun w=>(run_un (P:=X.P) (w:=w) h5).1
 have k2:=(run_un (P:=X.P) (w:=w) h5).2
 exact h.didP (fun w=>by simp [execOp,ho,g1,k1]) h6 (sc_rep k2)
theorem evExtract_pure (h:StD c e a w D hs S) {x:Operand} {i:Nat} (ho:o.op=.extract x i) (he:evExtract o x i e=some e'):DidP X.P c o a w e':=by
 obtain ⟨s,h1,h2⟩:=zbi he
 have hv:=h.val h1
 cases s with
 | tup as =>
  obtain ⟨us,h3,h4⟩:=hv
  obtain ⟨s,h5,h6⟩:=zbi h2
  obtain ⟨u,k1,k2⟩:=AgsRep.get as us i s h4 h5
  refine h.didP (u:=u) (fun w=>?_) h6 k2
  have:(us.toArray)[i]? = some u:=by simpa using k1
  simp [execOp,ho,h3,Instr.extract,this]
 | pl _=>cases h2
theorem evNil_pure (h:StD c e a w D hs S) {x:Operand} (ho:o.op=.nilCheck x) (he:evNil o x e=some e'):DidP X.P c o a w e':=by
 obtain ⟨k,h1,h2⟩:=zbi he
 split at h2
 ·rename_i hs1
  have hv:=h.cl h1
  refine h.didP (u:=a.eval x) (fun w=>?_) h2 hv
  rcases h.sure hs1 hv with ⟨b,o,hu⟩ | ⟨f,us,hu⟩ <;> simp [execOp,ho,hu]
 ·cases h2
theorem evFieldAddr_pure (h:StD c e a w D hs S) {t f:Nat} {x:Operand} (ho:o.op=.fieldAddr t x f) (he:evFieldAddr X.T o t x f e=some e'):DidP X.P c o a w e':=by
 obtain ⟨d,h1,h2⟩:=zbi he
 split at h2
 ·rename_i fs hk
  obtain ⟨q,h3,h2⟩:=zbi h2
  obtain ⟨df,h4,h2⟩:=zbi h2
  split at h2
  ·cases h2
  ·rename_i hz
   obtain ⟨k,h5,h2⟩:=zbi h2
   have hv:=h.cl h5
   obtain ⟨FS,hu,hfs⟩:=run_und_struct (X.hT _ _ h1) hk
   subst hfs
   obtain ⟨F,hF,hq⟩:∃ F,FS[f]? = some F∧(F.offset,F.type)=q:=by
    rw [List.getElem?_map,Array.getElem?_toList] at h3
    obtain ⟨F,k1,k2⟩:=Option.map_eq_some_iff.1 h3
    exact ⟨F,k1,k2⟩
   subst hq
   have run:∀ b o',a.eval x=.pointer (some (ad b o'))→∀ w,(execOp a.eval o).run X.P w=.ok (.value (.pointer (some (ad b (o'+F.offset))))) w:=fun b o' hp w=>by
    simp [execOp,ho,hp,Instr.fieldAt,run_underlying hu,hF,Instr.sureAddr,fieldPlace,run_size (X.hT _ _ h4),hz,ad_add]
   split at h2
   case isFalse=>cases h2
   rename_i hsure
   split at h2
   ·rename_i i p n r j
    obtain ⟨hi,hp⟩:=hv
    simp only [Env.sure,Option.isSome_iff_exists] at hsure
    obtain ⟨y,hy⟩:=hsure
    obtain ⟨v,k1,k2⟩:=zbi hy
    obtain ⟨u1,g1,gh,b,o1,g2,g3⟩:=hp v y k1 k2
    refine h.didP (run b _ g3) h2 ⟨hi,fun v' y' k1' k2'=>?_⟩
    obtain ⟨u2,g1',_,b',o',g2',g3'⟩:=hp v' y' k1' k2'
    rw [g1] at g1'
    injection g1' with g1'
    subst g1'
    exact ⟨u1,g1,gh,b,o1,g2,by rw [Nat.add_assoc]⟩
   ·rename_i i p
    obtain ⟨hi,hp⟩:=hv
    split at h2
    ·rename_i row hx
     obtain ⟨v,k1,k2⟩:=zbi hx
     obtain ⟨u1,g1,gh,rfl⟩:=hp v _ k1 k2
     obtain ⟨u2,Sx,k3,k4,_⟩:=h.node k1 k2
     rw [g1] at k3
     injection k3 with k3
     subst k3
     obtain ⟨b,o1,_,g3,_⟩:=k4
     refine h.didP (run b o1 g3) h2 ⟨hi,fun v' y' k1' k2'=>?_⟩
     rw [k1] at k1'
     injection k1' with k1'
     subst k1'
     exact ⟨_,g1,gh,b,o1,by rw [g3]; rfl,by simp⟩
    ·cases h2
   ·rename_i row
    split at h2
    ·rename_i hl
     obtain ⟨b,o1,g1,g2,g3⟩:=hv
     refine h.didP (run b o1 g1) h2 ⟨b,o1+F.offset,rfl,RepRow.drop g2 hl,?_⟩
     exact qZ (rng_drop hl) g3
    ·cases h2
   ·rename_i row
    split at h2
    ·rename_i hl
     obtain ⟨b,o1,S1,g1,g2,rfl,_,g3⟩:=hv
     refine h.didP (run b o1 g1) h2 ⟨b,o1+F.offset,rfl,RepRow.drop g2 hl,?_⟩
     exact qZ (rng_drop hl) g3
    ·cases h2
   ·cases h2
 ·cases h2
theorem evIndexAddr_pure (h:StD c e a w D hs S) {t:Nat} {x ix:Operand} (ho:o.op=.indexAddr t x ix) (he:evIndexAddr X.T o t x ix e=some e'):DidP X.P c o a w e':=by
 obtain ⟨d,h1,h2⟩:=zbi he
 split at h2
 case h_2=>cases h2
 rename_i el hk
 obtain ⟨de,h3,h2⟩:=zbi h2
 obtain ⟨z,h4,h2⟩:=zbi h2
 split at h2
 ·cases h2
 rename_i hz
 obtain ⟨k,h5,h2⟩:=zbi h2
 have hv:=h.cl h5
 obtain ⟨kz,hzv⟩:=h.int h4
 have hu:=jF (X.hT _ _ h1) hk
 have hde:=X.hT _ _ h3
 have run:∀ b o' len cap,a.eval x=.slice (some (ad b o')) len cap→z < len→∀ w,(execOp a.eval o).run X.P w=.ok (.value (.pointer (some (ad b (o'+z.toNat * de.size))))) w:=fun b o' len cap hx hl w=>by
  have:=run_ixa (w:=w) (b:=b) (o':=o') (len:=len) (cap:=cap) (k:=kz) hu hde (by omega) hl
  simp [execOp,ho,hx,hzv,this]
 split at h2
 ·rename_i i p
  split at h2
  ·rename_i m rows hn
   split at h2
   ·rename_i hm
    subst hm
    split at h2
    ·rename_i hl
     obtain ⟨v,k1,k2⟩:=h.lnode hn
     obtain ⟨u1,g1,gh,g2⟩:=hv.2 v _ k1 k2
     obtain ⟨u2,Sx,k3,k4,_⟩:=h.node k1 k2
     rw [g1] at k3
     injection k3 with k3
     subst k3
     subst g2
     rcases k4 with ⟨rfl,_,_⟩ | ⟨b,o',cap,S1,k5,k6,_⟩
     ·simp at hl
     ·refine h.didP (run b o' _ cap k5 (by omega)) h2 ⟨hv.1,fun v' y' q1 q2=>?_⟩
      rw [k1] at q1
      injection q1 with q1
      subst q1
      exact ⟨_,g1,gh,b,o',by rw [k5]; rfl,by simp⟩
    ·cases h2
   ·cases h2
  ·cases h2
 ·rename_i i p m lo hi
  split at h2
  ·rename_i m' rows hn
   split at h2
   ·rename_i hm
    obtain ⟨rfl,rfl⟩:=hm
    split at h2
    ·rename_i hl
     obtain ⟨v,k1,k2⟩:=h.lnode hn
     obtain ⟨u1,g1,gh,⟨A,len,cap,A',cap',q1,q2,q3,q4,q5,q6,q7⟩⟩:=hv.2 v _ k1 k2
     rcases q7 with ⟨_,_,q7⟩ | ⟨b,o1,o2,q8,q9,q10⟩
     ·omega
     ·have ho2:=q10 (by omega)
      subst q8
      subst q9
      refine h.didP (run b o2 (hi - lo) cap' q6 (by omega)) h2 ⟨hv.1,fun v' y' r1 r2=>?_⟩
      rw [k1] at r1
      injection r1 with r1
      subst r1
      refine ⟨_,g1,gh,b,o1,by rw [q1]; rfl,?_⟩
      rw [ho2,Nat.add_mul]
      simp [Nat.add_assoc]
    ·cases h2
   ·cases h2
  ·cases h2
 ·rename_i m rows
  split at h2
  ·rename_i hm
   subst hm
   split at h2
   ·rename_i r hr
    rcases hv with ⟨rfl,_,_⟩ | ⟨b,o',cap,S1,k5,k6,k7,rfl,_,k8⟩
    ·simp at hr
    ·have hl:=(List.getElem?_eq_some_iff.1 hr).1
     obtain ⟨r1,r2⟩:=RepRows.get rows 0 z.toNat r k7 hr
     rw [Nat.zero_add] at r2
     refine h.didP (run b o' _ cap k5 (by omega)) h2 ⟨b,_,rfl,r2,?_⟩
     rintro x y ⟨s1,s2,s3⟩
     refine k8 x y ⟨s1,by omega,?_⟩
     have:(z.toNat+1) * de.size≤rows.length * de.size:=Nat.mul_le_mul_right _ hl
     rw [Nat.add_mul,Nat.one_mul] at this
     omega
   ·cases h2
  ·cases h2
 ·cases h2
theorem evIndex_pure (h:StD c e a w D hs S) {t:Nat} {x ix:Operand} (ho:o.op=.index t x ix) (he:evIndex X.T o t x ix e=some e'):DidP X.P c o a w e':=by
 obtain ⟨d,h1,h2⟩:=zbi he
 split at h2
 case h_2=>cases h2
 rename_i hk
 obtain ⟨z,h4,h2⟩:=zbi h2
 split at h2
 ·cases h2
 rename_i hz
 obtain ⟨s,h5,h2⟩:=zbi h2
 split at h2
 ·rename_i s
  split at h2
  ·rename_i hl
   obtain ⟨kz,hzv⟩:=h.int h4
   have hu:=run_underlying (qY (X.hT _ _ h1) hk)
   have hx:=(h.sc h5).1
   refine h.didP (fun w=>?_) h2 (sc_rep rfl)
   have hb:s[z.toNat]? = some (s[z.toNat]'hl):=by simp [hl]
   have hq:((s[z.toNat]'hl).toNat:Int)=bt s z.toNat:=by
    unfold bt
    rw [Array.getD_eq_getD_getElem?,Array.getElem?_eq_getElem hl]
    rfl
   simp [execOp,ho,hx,hzv,Instr.index,asIntOf,hu,show 0≤z by omega,hb,hq]
  ·cases h2
 ·cases h2
theorem evField_pure (h:StD c e a w D hs S) {t f:Nat} {x:Operand} (ho:o.op=.field t x f) (he:evField X.T o t x f e=some e'):DidP X.P c o a w e':=by
 obtain ⟨d,h1,h2⟩:=zbi he
 split at h2
 case h_2=>cases h2
 rename_i fs hk
 obtain ⟨q,h3,h2⟩:=zbi h2
 obtain ⟨df,h4,h2⟩:=zbi h2
 obtain ⟨s,h5,h2⟩:=zbi h2
 obtain ⟨FS,hu,hfs⟩:=run_und_struct (X.hT _ _ h1) hk
 subst hfs
 obtain ⟨F,hF,hq⟩:∃ F,FS[f]? = some F∧(F.offset,F.type)=q:=by
  rw [List.getElem?_map,Array.getElem?_toList] at h3
  obtain ⟨F,k1,k2⟩:=Option.map_eq_some_iff.1 h3
  exact ⟨F,k1,k2⟩
 subst hq
 have hv:=h.val h5
 have hdf:=X.hT _ _ h4
 split at h2
 case h_2=>cases h2
 rename_i cs
 obtain ⟨us,h6,h7⟩:=hv
 have hlen:=h7.length
 split at h2
 ·rename_i fs' hk'
  split at h2
  ·rename_i hl
   refine h.didP (u:=.agg ((us.drop F.offset).take df.size).toArray) (fun w=>?_) h2 ⟨_,rfl,(h7.drop F.offset).take df.size⟩
   have hagg:df.kd.agg=true:=by rw [hk']; rfl
   have hx:us.toArray.extract F.offset (F.offset+df.size)=((us.drop F.offset).take df.size).toArray:=by
    simp [List.extract_eq_take_drop]
   simp [execOp,ho,Instr.field,run_underlying hu,hF,h6,asAgg,part,run_agg hdf,run_size hdf,hagg,hx]
  ·cases h2
 ·rename_i hk'
  obtain ⟨k,h8,h2⟩:=zbi h2
  obtain ⟨u,g1,g2⟩:=CsRep.get cs us _ k h7 h8
  have hagg:df.kd.agg=false:=by
   cases hd:df.kd <;> simp [Kd.agg]
   rename_i l
   exact hk' l hd
  refine h.didP (u:=u) (fun w=>?_) h2 g2
  have g1':us.toArray[F.offset]? = some u:=by simpa using g1
  have hp:(part F.type us.toArray F.offset).run X.P w=.ok u w:=by
   unfold part
   rw [Sem.run_bind,run_agg hdf,hagg]
   simp only [Result.andThen_ok,Bool.false_eq_true,if_false]
   rw [g1']
   rfl
  simp [execOp,ho,Instr.field,run_underlying hu,hF,h6,asAgg,hp]
theorem evLen_pure (h:StD c e a w D hs S) {t:Nat} {x:Operand} (ho:o.op=.call {callee:=.builtin .len,args:=#[x],argTypes:=#[t]}) (he:evLen X.T o t x e=some e'):DidP X.P c o a w e':=by
 obtain ⟨d,h1,h2⟩:=zbi he
 have ht:=X.hT _ _ h1
 split at h2
 ·rename_i el hk
  obtain ⟨k,h4,h2⟩:=zbi h2
  obtain ⟨⟨n,rows⟩,h5,h6⟩:=zbi h2
  obtain ⟨A,cap,g1,g2⟩:=h.rows h5 (h.cl h4)
  have hu:=run_underlying (jF ht hk)
  refine h.didP (fun w=>?_) h6 (sc_rep rfl)
  simp [execOp,ho,resolve,invoke,builtin,Builtin.len_,g1,hu,goInt]
 ·rename_i hk
  obtain ⟨v,h4,h5⟩:=zbi h2
  split at h5
  ·rename_i v
   have hx:=(h.sc h4).1
   have hu:=run_underlying (qY ht hk)
   refine h.didP (fun w=>?_) h5 (sc_rep rfl)
   simp [execOp,ho,resolve,invoke,builtin,Builtin.len_,hx,hu,goInt]
  ·cases h5
 ·cases h2
theorem evMin_pure (h:StD c e a w D hs S) {ts:Array TypeId} {x y:Operand} (ho:o.op=.call {callee:=.builtin .min,args:=#[x,y],argTypes:=ts}) (he:evMinMax o false x y e=some e'):DidP X.P c o a w e':=by
 unfold evMinMax at he
 split at he
 ·rename_i k n k' m h1 h2
  have hx:=(h.sc h1).1
  have hy:=(h.sc h2).1
  refine h.didP (fun w=>?_) he (sc_rep rfl)
  simp [execOp,ho,resolve,invoke,builtin,Builtin.min_,Builtin.min2,hx,hy]
 ·cases he
theorem evMax_pure (h:StD c e a w D hs S) {ts:Array TypeId} {x y:Operand} (ho:o.op=.call {callee:=.builtin .max,args:=#[x,y],argTypes:=ts}) (he:evMinMax o true x y e=some e'):DidP X.P c o a w e':=by
 unfold evMinMax at he
 split at he
 ·rename_i k n k' m h1 h2
  have hx:=(h.sc h1).1
  have hy:=(h.sc h2).1
  refine h.didP (fun w=>?_) he (sc_rep rfl)
  simp [execOp,ho,resolve,invoke,builtin,Builtin.max_,Builtin.max2,hx,hy]
 ·cases he
end
end Go.TV
namespace Go.TV
def DidQ (P:Program) {gG:GG} (c:Ctx gG) (o:Oper) (a:Act) (w:World) (e':Env):Prop:=
 ∃ u,(∀ w',Frm w w' emp→(execOp a.eval o).run P w'=.ok (.value u) w')∧St c e' (a.put o.dst u) w
theorem DidP.q {P:Program} {gG:GG} {c:Ctx gG} {o:Oper} {a:Act} {w:World} {e':Env} (h:DidP P c o a w e'):DidQ P c o a w e':=by
 obtain ⟨u,h1,h2⟩:=h
 exact ⟨u,fun w' _=>h1 w',h2⟩
section
variable {gG:GG} {c:Ctx gG} {e e':Env} {a:Act} {w:World} {D:CS} {hs:Nat→Value} {S:CS} {X:Cfg} {o:Oper}
theorem evAssign_q (h:StD c e a w D hs S) {x:Operand} (ho:o.op=.assign x) (he:evAssign o x e=some e'):DidQ X.P c o a w e':=by
 obtain ⟨u,w',hr,hst⟩:=evAssign_ok (X:=X) h ho he
 have hr0:∀ w',(execOp a.eval o).run X.P w'=.ok (.value (a.eval x)) w':=fun w'=>by simp [execOp,ho]
 rcases hr with hr | ⟨hr,_⟩
 ·rw [hr0 w] at hr
  injection hr with q1 q2
  injection q1 with q1
  subst q1
  subst q2
  exact ⟨_,fun w' _=>hr0 w',hst⟩
 ·rw [hr0 w] at hr
  injection hr with q1 q2
  cases q1
theorem cell_lt {w:World} {b o:Nat} {u:Value} (h:w.cell? (ad b o)=some u):b < w.heap.size:=block_lt h
theorem evLoad_q (h:StD c e a w D hs S) {t:Nat} {x:Operand} (ho:o.op=.load t x) (he:evLoad X.T o t x e=some e'):DidQ X.P c o a w e':=by
 obtain ⟨d,h1,h2⟩:=zbi he
 obtain ⟨k,h3,h2⟩:=zbi h2
 split at h2
 case isFalse=>cases h2
 obtain ⟨l,h4,h2⟩:=zbi h2
 obtain ⟨b,o',us,g1,g2,g3,g4⟩:=h.behind h4 (h.cl h3)
 have hd:=X.hT _ _ h1
 have g3':∀ w',Frm w w' emp→∀ k y,us[k]? = some y→w'.cell? (ad b (o'+k))=some y:=fun w' hw k y q=>by
  have:=g3 k y q
  rw [(hw.cel b (o'+k) (cell_lt this) (fun z=>z)).1]
  exact this
 split at h2
 ·rename_i fs hk
  have hagg:d.kd.agg=true:=by rw [hk]; rfl
  refine ⟨.agg us.toArray,fun w' hw=>?_,D,hs,S,h.putO h2 ⟨us,rfl,g4⟩⟩
  simp [execOp,ho,g1,run_load_agg hd hagg g2 (g3' w' hw)]
 ·rename_i hk
  have hagg:d.kd.agg=false:=by
   cases hq:d.kd <;> simp [Kd.agg]
   rename_i l
   exact hk l hq
  split at h2
  ·rename_i q
   obtain ⟨u,r,rfl,f1,f2⟩:=g4
   refine ⟨u,fun w' hw=>?_,D,hs,S,h.putO h2 f1⟩
   have hc:w'.cell? (ad b o')=some u:=g3' w' hw 0 u rfl
   simp [execOp,ho,g1,run_load_one hd hagg hc]
  ·cases h2
def evConvQ (T:Nat→Option TyI) (o:Oper) (src dst:Nat) (x:Operand) (e:Env):Option Env:=
 (T src).bind fun s=>(T dst).bind fun d=>match s.kd,d.kd with
  | .int _,.int k=>(e.int x).bind fun n=>e.putO o.dst (.pl (.one (.v (.sc (.int k (k.wrap n))))))
  | .string,.string=>(e.sc x).bind fun
   | .string v=>e.putO o.dst (.pl (.one (.v (.sc (.string v)))))
   | _=>none
  | _,_=>none
theorem evConv_q (h:StD c e a w D hs S) {src dst:Nat} {x:Operand} (ho:o.op=.convert src dst x) (he:evConvQ X.T o src dst x e=some e'):DidQ X.P c o a w e':=by
 obtain ⟨s,h1,h2⟩:=zbi he
 obtain ⟨d,h3,h2⟩:=zbi h2
 have hsrc:=X.hT _ _ h1
 have hdst:=X.hT _ _ h3
 split at h2
 ·rename_i k1 k2 hk1 hk2
  obtain ⟨n,h4,h5⟩:=zbi h2
  obtain ⟨kz,hz⟩:=h.int h4
  refine (h.didP (fun w=>?_) h5 (sc_rep rfl)).q
  have e1:=run_underlying (run_und_int hsrc hk1) w
  have e2:=run_underlying (run_und_int hdst hk2) w
  simp [execOp,ho,hz,convert,e1,e2,Conv.intToInt]
 ·rename_i hk1 hk2
  obtain ⟨v,h4,h5⟩:=zbi h2
  split at h5
  ·rename_i v
   have hx:=(h.sc h4).1
   refine (h.didP (fun w=>?_) h5 (sc_rep rfl)).q
   have e1:=run_underlying (qY hsrc hk1) w
   have e2:=run_underlying (qY hdst hk2) w
   simp [execOp,ho,hx,convert,e1,e2]
  ·cases h5
 ·cases h2
def evSliceS (T:Nat→Option TyI) (o:Oper) (t:Nat) (x:Operand) (lo hi:Option Operand) (e:Env):Option Env:=
 (T t).bind fun d=>match d.kd with
  | .string=>(e.sc x).bind fun
   | .string s=>(e.cut s.size lo hi none).bind fun q=>e.putO o.dst (.pl (.one (.v (.sc (.string (s.extract q.1 q.2))))))
   | _=>none
  | _=>none
theorem evSliceS_q (h:StD c e a w D hs S) {t:Nat} {x:Operand} {lo hi:Option Operand} (ho:o.op=.slice t x lo hi none) (he:evSliceS X.T o t x lo hi e=some e'):DidQ X.P c o a w e':=by
 obtain ⟨d,h1,h2⟩:=zbi he
 split at h2
 ·rename_i hk
  obtain ⟨s,h3,h2'⟩:=zbi h2
  split at h2'
  ·rename_i s
   obtain ⟨q,h4,h5⟩:=zbi h2'
   have hx:=(h.sc h3).1
   refine ⟨.string (s.extract q.1 q.2),fun w' hw'=>?_,D,hs,S,h.putO h5 (sc_rep rfl)⟩
   have h':=h.world' hw' (fun _ _ _ q=>q) (fun _ _ _ q=>q) (fun _ _ q=>q.elim)
   obtain ⟨m,g1,g2,g3,g4,g5,g6⟩:=h'.bounds (P:=X.P) (isSlice:=false) h4 (Nat.le_refl _)
   have hu:=run_underlying (qY (X.hT _ _ h1) hk) w'
   simp only [Option.map_none] at g1
   simp [execOp,ho,hx,Instr.sliceAt,hu,Instr.slice,g1]
  ·cases h2'
 ·cases h2
end
def evQuiet (T:Nat→Option TyI) (o:Oper) (e:Env):Option Env:=
 match o.op with
 | .move x=>evMove o x e
 | .assign x=>evAssign o x e
 | .pick c x y=>evPick o c x y e
 | .binOp op t x y _=>evBin T o op t x y e
 | .unOp op _ x=>evUn o op x e
 | .extract x i=>evExtract o x i e
 | .nilCheck x=>evNil o x e
 | .fieldAddr t x f=>evFieldAddr T o t x f e
 | .indexAddr t x i=>evIndexAddr T o t x i e
 | .index t x i=>evIndex T o t x i e
 | .field t x f=>evField T o t x f e
 | .load t x=>evLoad T o t x e
 | .convert s d x=>evConvQ T o s d x e
 | .slice t x lo hi none=>evSliceS T o t x lo hi e
 | .call {callee:=.builtin b,args:=as,argTypes:=ts}=>match b,as.toList,ts.toList with
  | .len,[x],[t]=>evLen T o t x e
  | .min,[x,y],_=>evMinMax o false x y e
  | .max,[x,y],_=>evMinMax o true x y e
  | _,_,_=>none
 | _=>none
theorem evQuiet_ok {X:Cfg} {o:Oper} {e e':Env} {gG:GG} {c:Ctx gG} {a:Act} {w:World} {D:CS} {hs:Nat→Value} {S:CS} (h:StD c e a w D hs S) (he:evQuiet X.T o e=some e'):DidQ X.P c o a w e':=by
 unfold evQuiet at he
 split at he
 ·exact (evMove_pure h ‹_› he).q
 ·exact evAssign_q h ‹_› he
 ·exact (evPick_pure h ‹_› he).q
 ·exact (evBin_pure h ‹_› he).q
 ·exact (evUn_pure h ‹_› he).q
 ·exact (evExtract_pure h ‹_› he).q
 ·exact (evNil_pure h ‹_› he).q
 ·exact (evFieldAddr_pure h ‹_› he).q
 ·exact (evIndexAddr_pure h ‹_› he).q
 ·exact (evIndex_pure h ‹_› he).q
 ·exact (evField_pure h ‹_› he).q
 ·exact evLoad_q h ‹_› he
 ·exact evConv_q h ‹_› he
 ·exact evSliceS_q h ‹_› he
 ·rename_i b as ts ho
  split at he
  ·rename_i x t h1 h2
   rw [show as = #[x] from Array.ext' h1,show ts = #[t] from Array.ext' h2] at ho
   exact (evLen_pure h ho he).q
  ·rename_i x y h1
   rw [show as = #[x,y] from Array.ext' h1] at ho
   exact (evMin_pure h ho he).q
  ·rename_i x y h1
   rw [show as = #[x,y] from Array.ext' h1] at ho
   exact (evMax_pure h ho he).q
  ·cases he
 ·cases he
theorem St.grow {gG:GG} {c:Ctx gG} {e:Env} {a:Act} {w w':World} (h:St c e a w) (hw:Frm w w' emp):St c e a w':=by
 obtain ⟨D,hs,S,h⟩:=h
 exact ⟨D,hs,S,h.world' hw (fun _ _ _ q=>q) (fun _ _ _ q=>q) (fun _ _ q=>q.elim)⟩
theorem frm_drawn (w:World) (n:Nat):Frm w {w with drawn:=n} emp:=⟨rfl,rfl,rfl,Nat.le_refl _,fun _ _ _=>rfl,fun _ _ _ _=>⟨rfl,rfl,rfl⟩⟩
theorem wpQuiet_mono {P:Program} {ops:Array Oper} {C:World→Prop} {Q Q':Act→Prop} (h:∀ a,Q a→Q' a):∀ (l:List Oper) (a:Act),wpQuiet P ops C Q l a→wpQuiet P ops C Q' l a
 | [],a,hh=>h a hh
 | o :: l,a,hh=>by
  unfold wpQuiet at hh ⊢
  split
  ·rename_i q
   rw [if_pos q] at hh
   exact Oper.quiet_mono (wpQuiet_mono h l) hh
  ·rename_i q
   rw [if_neg q] at hh
   exact wpQuiet_mono h l _ hh
def quV (X:Cfg) (ops:Array Oper) (l:List Oper) (Post:Exit→Env→Prop) (e:Env):Prop:=
 ∀ (k:Ctx X.G) (a:Act) (w:World),St k e a w→wpQuiet X.P ops (fun w'=>Frm w w' emp) (fun a'=>∃ e',Post .normal e'∧St k e' a' w) l a
section
variable {X:Cfg} {Post:Exit→Env→Prop} {e e':Env} {ops:Array Oper} {o oj:Oper} {l:List Oper} {j d:Nat} {want b:Bool}
theorem wpV_quiet {id:Nat} (h:quV X l.toArray l Post e) (hB:Region.lexB .any l.toArray=true):wpV X (.region id l.toArray true) Post e:=fun k a w hs=>by
 have hq:=h k a w hs
 refine wp_region_quiet (C:=fun w'=>Frm w w' emp) X.mx hB (frm_drawn w _) (wpQuiet_mono (Q:=fun a'=>∃ e',Post .normal e'∧St k e' a' w) (fun a' q w' hw'=>?_) _ _ hq)
 obtain ⟨e',h1,h2⟩:=q
 exact ⟨e',h1,h2.grow hw'⟩
theorem qU (h:Post .normal e):quV X ops [] Post e:=fun k a w hs=>by
 unfold wpQuiet
 exact ⟨e,h,hs⟩
theorem quV_op (hg:o.guard=none) (he:evQuiet X.T o e=some e') (h:quV X ops l Post e'):quV X ops (o :: l) Post e:=fun k a w ⟨D,hs,S,hd⟩=>by
 obtain ⟨u,h1,h2⟩:=evQuiet_ok hd he
 have hw:Region.wanted o (yielded ops a.tmps)=true:=by simp [Region.wanted,hg]
 unfold wpQuiet
 rw [if_pos hw]
 exact ⟨u,fun w' hw'=>by unfold Oper.quietAt; rw [h1 w' hw']; exact ⟨rfl,rfl⟩,h k _ w h2⟩
theorem quV_on (hg:o.guard=some (j,want)) (hj:ops[j]? = some oj) (hjd:oj.dst=some d) (hb:e.sc (.tmp d)=some (.bool want)) (h:quV X ops ({o with guard:=none} :: l) Post e):quV X ops (o :: l) Post e:=fun k a w ⟨D,hs,S,hd⟩=>by
 have hw:=hd.wanted hg hj hjd hb
 have:=h k a w ⟨D,hs,S,hd⟩
 have hw':Region.wanted {o with guard:=none} (yielded ops a.tmps)=true:=rfl
 unfold wpQuiet at this ⊢
 rw [if_pos hw'] at this
 rw [hw,if_pos (by simp)]
 exact this
theorem quV_off (hg:o.guard=some (j,want)) (hj:ops[j]? = some oj) (hjd:oj.dst=some d) (hb:e.sc (.tmp d)=some (.bool !want)) (he:e.putO o.dst (.tup [])=some e') (h:quV X ops l Post e'):quV X ops (o :: l) Post e:=fun k a w ⟨D,hs,S,hd⟩=>by
 have hw:=hd.wanted hg hj hjd hb
 unfold wpQuiet
 rw [hw,if_neg (by cases want <;> simp)]
 exact h k _ w ⟨D,hs,S,hd.putO he (u:=undef) ⟨[],rfl,rfl⟩⟩
theorem quV_dead (hg:o.guard=some (j,want)) (hj:ops[j]? = some oj) (hjd:oj.dst=some d) (hb:e.val (.tmp d)=some (.tup [])) (he:e.putO o.dst (.tup [])=some e') (h:quV X ops l Post e'):quV X ops (o :: l) Post e:=fun k a w ⟨D,hs,S,hd⟩=>by
 have hw:=hd.unwanted hg hj hjd hb
 unfold wpQuiet
 rw [hw,if_neg (by simp)]
 exact h k _ w ⟨D,hs,S,hd.putO he (u:=undef) ⟨[],rfl,rfl⟩⟩
end
end Go.TV
namespace Go.TV
def evCallQ (cf:Operand) (as:List Operand) (e:Env):Option (Nat×List (Ag V)):=
 (e.callee cf).bind fun q=>(e.args as).bind fun gs=>(e.fill ((flatC (gs++q.2.map fun x=>.one (.v x))).map fun _=>none) (flatC (gs++q.2.map fun x=>.one (.v x)))).map fun xs=>(q.1,shape (gs++q.2.map fun x=>.one (.v x)) xs)
section
variable {gG:GG} {c:Ctx gG} {e e':Env} {a:Act} {w:World} {D:CS} {hs:Nat→Value} {S:CS} {X:Cfg} {o:Oper}
theorem repO_none:∀ (cs:List C) (us:List Value),us.length=cs.length→RepO w D (cs.map fun _=>none) us emp
 | [],us,h=>⟨List.length_eq_zero_iff.1 h,rfl⟩
 | k :: cs,[],h=>by simp at h
 | k :: cs,u :: us,h=>⟨u,us,rfl,repO_none cs us (by simpa using h)⟩
theorem StD.callQ {c:Ctx X.G} (h:StD c e a w D hs S) {cf:Operand} {args:Array Operand} {ts:Array TypeId} {f:Nat} {as:List (Ag V)} {v:Value}
  (ho:o.op=.call {callee:=.value cf,args:=args,argTypes:=ts}) (h1:evCallQ cf args.toList e=some (f,as)) (hf:Fn X f as [.one (.sc v)] []):Oper.quietAt X.P o a (fun w'=>Frm w w' emp) w v:=by
 obtain ⟨⟨g,caps⟩,k1,h1⟩:=zbi h1
 obtain ⟨gs,k2,h1⟩:=zbi h1
 obtain ⟨xs,k4,k5⟩:=Option.map_eq_some_iff.1 h1
 simp only [Prod.mk.injEq] at k5
 obtain ⟨e_f,e_as⟩:=k5
 subst e_f
 subst e_as
 obtain ⟨uc,c1,c2,c3⟩:=h.callee k1
 obtain ⟨fl1,a1,a2⟩:=h.args args.toList gs k2
 have hA:=argsV_append gs (caps.map fun x=>(.one (.v x):Ag C)) _ _ _ _ a2 (argsV_ones c2)
 have hC:CsRep w D hs e.nx e.ob (flatC (gs++caps.map fun x=>(.one (.v x):Ag C))) (fl1++uc):=by
  rw [flatC_append,flatC_ones]
  exact CsRep.append _ _ _ _ a1 c3
 obtain ⟨r1,r2⟩:=h.fill _ _ (fl1++uc) xs emp (fun j=>(fl1++uc)[j]?) 0 k4 (repO_none _ _ hC.length) hC (fun j u hj=>by rw [Nat.zero_add]; exact hj)
 obtain ⟨s1,s2⟩:=shape_ok _ _ _ xs hA r2
 obtain ⟨⟨fn,p1,p2,p3⟩,hcall⟩:=hf
 have hc:=hcall w (cup D S) emp _ _ s1 (by rw [s2]; exact r1) (emp_dj _) (fun b o q=>q.elim (h.Dl b o) (h.ob.blt b o)) (h.glo.mono (fun _ _ q=>q.elim) (fun _ _ q=>.inl q))
 have hexec:(execOp a.eval o).run X.P w=.ok (.enter g (List.map a.eval args.toList++uc).toArray) w:=by
  have e1:(args.map a.eval)++uc.toArray=(List.map a.eval args.toList++uc).toArray:=by
   apply Array.ext'
   simp
  have hb:fn.body.isNone=false:=by cases q:fn.body <;> simp [q] at p2 ⊢
  simp only [execOp,ho,resolve,c1,Deferred.ofValue,Sem.run_bind,Sem.run_pure,Result.andThen_ok,invoke,callFunc,run_program,p1]
  simp [p3,hb,e1]
 unfold Oper.quietAt
 rw [hexec]
 refine ⟨rfl,Calls.mono hc (fun en w' hq=>?_)⟩
 obtain ⟨u,fr,D',T1,T2,rfl,q1,q2,q3,q4,q5,q6,q7,q8,q9,q10⟩:=hq
 refine ⟨?_,q6⟩
 obtain ⟨u1,us',fl',e1,e2,e3⟩:=q1
 injection e1 with e1 _
 subst e1
 obtain ⟨u2,T3,T4,g1,g2,_⟩:=q2
 rw [e2] at g1
 injection g1 with g1
 subst g1
 rw [g2.1]
end
theorem quV_call {X:Cfg} {Post:Exit→Env→Prop} {e e':Env} {ops:Array Oper} {o:Oper} {l:List Oper} {cf:Operand} {args:Array Operand} {ts:Array TypeId} {f:Nat} {as:List (Ag V)} {v:Value}
  (hf:Fn X f as [.one (.sc v)] []) (hg:o.guard=none) (ho:o.op=.call {callee:=.value cf,args:=args,argTypes:=ts}) (hp:plain v=true) (h1:evCallQ cf args.toList e=some (f,as))
  (h2:e.putO o.dst (.pl (.one (.v (.sc v))))=some e') (h:quV X ops l Post e'):quV X ops (o :: l) Post e:=fun k a w ⟨D,hs,S,hd⟩=>by
 have hw:Region.wanted o (yielded ops a.tmps)=true:=by simp [Region.wanted,hg]
 unfold wpQuiet
 rw [if_pos hw]
 refine ⟨v,fun w' hw'=>?_,h k _ w ⟨D,hs,S,hd.putO h2 (sc_rep hp)⟩⟩
 have hd':=hd.world' hw' (fun _ _ _ q=>q) (fun _ _ _ q=>q) (fun _ _ q=>q.elim)
 have:=hd'.callQ (o:=o) ho h1 hf
 unfold Oper.quietAt at this ⊢
 revert this
 generalize (execOp a.eval o).run X.P w'=r
 intro this
 cases r with
 | ok x w1 =>
  cases x <;> first | exact this | skip
  obtain ⟨q1,q2⟩:=this
  exact ⟨q1,q2.mono fun en w2 ⟨z1,z2⟩=>⟨z1,hw'.trans z2 (fun _ _ q=>q.elim)⟩⟩
 | halt x w1=>exact this
end Go.TV
namespace Go.TV
def RetL (X:Cfg) (res:List ResultVar) (rs:List (Ag V)) (fin:List (Nat×V)):Exit→Env→Prop:=fun x e=>(x=.ret∨x=.normal)∧(evRes X.T res e).map (fun q=>(q.1,q.2.fin))=some (rs,fin)
theorem Fn.start {X : Cfg} {f : Nat} {fn : Func} {body : Code} {N : Nat} {res : List ResultVar} {as rs : List (Ag V)} {fin : List (Nat × V)} (hf : X.P.funcs[f]? = some fn) (hb : fn.body = some body) (hN : fn.ntmps = N) (hr : fn.results.toList = res) (hn : (fn.name == "runtime.NumGoroutine") = false)
  (hl:as.length≤N) (h:wpV X body (RetL X res rs fin) (entry as N)):Fn X f as rs fin:=by
 subst hN
 subst hr
 refine Fn.intro hf hb hn hl (wpV_mono h fun x e q=>⟨q.1,?_⟩)
 obtain ⟨z,h1,h2⟩:=Option.map_eq_some_iff.1 q.2
 simp only [Prod.mk.injEq] at h2
 exact ⟨z.2,by rw [h1,← h2.1],h2.2⟩
section
variable {X:Cfg} {Post:Exit→Env→Prop} {e e':Env}
theorem opsV_on {ops:Array Oper} {o oj:Oper} {l:List Oper} {j d:Nat} {want:Bool} (hg:o.guard=some (j,want)) (hj:ops[j]? = some oj) (hjd:oj.dst=some d) (hb:e.sc (.tmp d)=some (.bool want))
  (h:opsV X ops ({o with guard:=none} :: l) Post e):opsV X ops (o :: l) Post e:=
 opsV_guard hg hj hjd hb (fun _=>h) (fun q=>by cases want <;> cases q)
theorem opsV_off {ops:Array Oper} {o oj:Oper} {l:List Oper} {j d:Nat} {want:Bool} (hg:o.guard=some (j,want)) (hj:ops[j]? = some oj) (hjd:oj.dst=some d) (hb:e.sc (.tmp d)=some (.bool !want))
  (hd:e.putO o.dst (.tup [])=some e') (h:opsV X ops l Post e'):opsV X ops (o :: l) Post e:=
 opsV_guard hg hj hjd hb (fun q=>by cases want <;> cases q) (fun _=>⟨e',hd,h⟩)
end
def seqV (X:Cfg) (d:Code) (Post:Exit→Env→Prop):Exit→Env→Prop:=thenV (wpV X d Post) Post
theorem zB {X:Cfg} {c d:Code} {Post:Exit→Env→Prop} {e:Env} (h:wpV X c (seqV X d Post) e):wpV X (.seq c d) Post e:=wpV_seq h
theorem seqV_normal (X:Cfg) (d:Code) (Post:Exit→Env→Prop) (e:Env):seqV X d Post .normal e=wpV X d Post e:=rfl
theorem seqV_ret (X:Cfg) (d:Code) (Post:Exit→Env→Prop) (e:Env):seqV X d Post .ret e=Post .ret e:=rfl
theorem seqV_exit (X:Cfg) (d:Code) (Post:Exit→Env→Prop) (i:Nat) (e:Env):seqV X d Post (.exit i) e=Post (.exit i) e:=rfl
theorem wrap_i64 {x:Int} (h1 : -9223372036854775808≤x) (h2:x < 9223372036854775808):IntKind.wrap .i64 x=x:=by
 simp only [IntKind.wrap,IntKind.bits,IntKind.signed,Bool.true_and,decide_eq_true_eq,Nat.reduceSub,Int.reducePow]
 split
 ·rename_i h; simp at h; omega
 ·rename_i h; simp at h; omega
theorem RetL.of {X:Cfg} {res:List ResultVar} {rs:List (Ag V)} {fin:List (Nat×V)} {x:Exit} {e:Env} (hx:x=.ret∨x=.normal) (h:(evRes X.T res e).map (fun q=>(q.1,q.2.fin))=some (rs,fin)):RetL X res rs fin x e:=⟨hx,h⟩
theorem out {X:Cfg} {res:List ResultVar} {rs rs':List (Ag V)} {fin fin':List (Nat×V)} {e:Env} (he:rs'=rs) (hf:fin'=fin) (h:(evRes X.T res e).map (fun q=>(q.1,q.2.fin))=some (rs',fin'):=by
 simp only [evRes,Env.res1,Env.takes,Env.take,Env.node,Env.fin,lk,V.alive,V.get,V.set,V.rowAt,V.setRow,setO,delO,↓reduceIte,eq_self,Option.isSome_some,Option.isSome_none,Option.bind_some,Option.map_some,Nat.reduceEqDiff,Nat.reduceLT,List.filter_cons,List.filter_nil,decide_true,decide_false,Bool.false_eq_true,List.append_nil,List.nil_append] <;> rfl):RetL X res rs fin .ret e:=.of (.inl rfl) (by rw [h,he,hf])
theorem Shd.go {I:Env→Prop} {e e':Env} (ks:List Nat) (os:List (Nat×Nat)) (nx:Nat) (h:I e') (he:e.shed ks os nx=some e':=by
 simp only [Env.shed,shedS,shedO,lk,delO,C.ren,Ag.map,Sl.map,List.map_cons,List.map_nil,↓reduceIte,eq_self,Option.isSome_some,Option.isSome_none,Option.bind_some,Option.map_some,Nat.reduceEqDiff,Nat.reduceLT,Nat.reduceLeDiff,true_or,or_true,or_false,false_or,and_true,true_and,not_true,not_false_eq_true,Bool.false_eq_true,implies_true,imp_self,false_implies,Nat.le_refl] <;> rfl):Shd I e:=.of ks os nx he h
theorem quV_guard {X:Cfg} {Post:Exit→Env→Prop} {e:Env} {ops:Array Oper} {o oj:Oper} {l:List Oper} {j d:Nat} {want b:Bool} (hg:o.guard=some (j,want)) (hj:ops[j]? = some oj) (hjd:oj.dst=some d) (hb:e.sc (.tmp d)=some (.bool b))
  (h1:b=want→quV X ops ({o with guard:=none} :: l) Post e) (h2:b=!want→∃ e',e.putO o.dst (.tup [])=some e'∧quV X ops l Post e'):quV X ops (o :: l) Post e:=by
 by_cases q:b=want
 ·subst q
  exact quV_on hg hj hjd hb (h1 rfl)
 ·have q':b=!want:=by cases b <;> cases want <;> simp_all
  obtain ⟨e',h3,h4⟩:=h2 q'
  subst q'
  exact quV_off hg hj hjd hb h3 h4
theorem zH {X:Cfg} {Post:Exit→Env→Prop} {e:Env} {x:Operand} {b:Bool} {c d:Code} (h1:b=true→wpV X c Post e) (h2:b=false→wpV X d Post e) (hx:e.sc x=some (.bool b):=by (simp only [Env.sc,Env.val,lk,↓reduceIte,Nat.reduceEqDiff]; rfl)):wpV X (.cond x c d) Post e:=wpV_cond hx h1 h2
theorem callQ {X:Cfg} {Post:Exit→Env→Prop} {e e':Env} {ops:Array Oper} {o:Oper} {l:List Oper} {cf:Operand} {args:Array Operand} {ts:Array TypeId} {f:Nat} {as:List (Ag V)} {v:Value}
  (hf:Fn X f as [.one (.sc v)] []) (h:quV X ops l Post e') (hg:o.guard=none:=by rfl) (ho:o.op=.call {callee:=.value cf,args:=args,argTypes:=ts}:=by rfl) (hp:plain v=true:=by rfl)
  (h1:evCallQ cf args.toList e=some (f,as):=by
   simp only [evCallQ,Env.callee,Env.args,flatC,Env.lend,Env.fill,shape,Env.node,Env.val,Env.sc,Env.cl,lk,setO,delO,constS,constC,plain,Env.putO,Env.put,V.get,V.set,V.rowAt,V.setRow,V.alive,V.bor,borRow,qF,borRows_map,↓reduceIte,eq_self,Option.isSome_some,Option.isSome_none,Option.bind_some,Option.bind_none,Option.map_some,Option.map_none,Bool.false_eq_true,Nat.reduceLT,Nat.reduceLeDiff,Nat.reduceEqDiff,Nat.reduceAdd,Nat.reduceMul,Nat.reduceSub,List.map_cons,List.map_nil,List.map_map,List.length_cons,List.length_nil,List.cons_append,List.nil_append,List.append_nil,List.headD_cons,List.tail_cons,List.contains_nil,List.contains_cons,List.take_zero,List.take_succ_cons,List.drop_zero,List.drop_succ_cons,List.getElem?_cons_zero,List.getElem?_cons_succ,Bool.and_true,Bool.true_and,Function.comp_def]
   rfl)
  (h2:e.putO o.dst (.pl (.one (.v (.sc v))))=some e':=by
   simp only [Env.putO,Env.put,reduceIte,Nat.reduceLT]
   rfl):quV X ops (o :: l) Post e:=quV_call hf hg ho hp h1 h2 h
theorem enter {goal next:Prop} (hn:next) (h:next→goal:=by
 intro hn
 simp only [entry,entS,entC,entCs,V.own,entOs,qD,List.length_cons,List.length_nil,Nat.reduceAdd,Bool.false_eq_true,reduceIte,List.cons_append,List.nil_append]
 exact hn):goal:=h hn
end Go.TV
namespace Go.TV
def iter {σ ρ:Type} (body:σ→Option (σ⊕ρ)):Nat→σ→Option ρ
 | 0,_=>none
 | n+1,s=>(body s).bind fun | .inl s'=>iter body n s' | .inr r=>some r
open Classical in
noncomputable def zW {σ ρ:Type} (body:σ→Option (σ⊕ρ)) (s:σ):Option ρ:=
 if h:∃ n r,iter body n s=some r then some h.choose_spec.choose else none
theorem iter_mono {σ ρ:Type} {body:σ→Option (σ⊕ρ)}:∀ {n m:Nat} {s:σ} {r:ρ},iter body n s=some r→n≤m→iter body m s=some r
 | 0,_,_,_,h,_=>by cases h
 | n+1,0,_,_,_,h=>by omega
 | n+1,m+1,s,r,h,hm=>by
  simp only [iter] at h ⊢
  obtain ⟨y,h1,h2⟩:=zbi h
  rw [h1,Option.bind_some]
  cases y with
  | inl s'=>exact iter_mono h2 (by omega)
  | inr r'=>exact h2
theorem loopM_iff {σ ρ:Type} {body:σ→Option (σ⊕ρ)} {s:σ} {r:ρ}:zW body s=some r↔∃ n,iter body n s=some r:=by
 unfold zW
 constructor
 ·intro h
  split at h
  ·rename_i hx
   injection h with h
   rw [← h]
   exact ⟨_,hx.choose_spec.choose_spec⟩
  ·cases h
 ·rintro ⟨n,h⟩
  have hx:∃ n r,iter body n s=some r:=⟨n,r,h⟩
  rw [dif_pos hx]
  have h1:=hx.choose_spec.choose_spec
  have h2:=iter_mono h1 (Nat.le_max_left _ n)
  have h3:=iter_mono h (Nat.le_max_right hx.choose n)
  rw [h2] at h3
  exact h3
theorem qX {σ ρ:Type} (body:σ→Option (σ⊕ρ)) (s:σ):zW body s=(body s).bind fun | .inl s'=>zW body s' | .inr r=>some r:=by
 apply Option.ext
 intro r
 rw [loopM_iff]
 constructor
 ·rintro ⟨n,h⟩
  cases n with
  | zero=>cases h
  | succ n =>
   obtain ⟨y,h1,h2⟩:=zbi h
   rw [h1,Option.bind_some]
   cases y with
   | inl s'=>exact loopM_iff.2 ⟨n,h2⟩
   | inr r'=>exact h2
 ·intro h
  obtain ⟨y,h1,h2⟩:=zbi h
  cases y with
  | inl s' =>
   obtain ⟨n,h3⟩:=loopM_iff.1 h2
   exact ⟨n+1,by simp only [iter]; rw [h1,Option.bind_some]; exact h3⟩
  | inr r'=>exact ⟨1,by simp only [iter]; rw [h1,Option.bind_some]; exact h2⟩
theorem loopM_total {σ ρ:Type} {body:σ→Option (σ⊕ρ)} (I:σ→Prop) (m:σ→Nat) (Q:ρ→Prop) {s:σ} (h0:I s)
  (h:∀ s,I s→(∃ s',body s=some (.inl s')∧I s'∧m s' < m s)∨∃ r,body s=some (.inr r)∧Q r):∃ r,zW body s=some r∧Q r:=by
 have key:∀ n s,I s→m s=n→∃ r,zW body s=some r∧Q r:=by
  intro n
  induction n using Nat.strongRecOn with
  | _ n ih =>
   intro s hs hm
   rw [qX]
   rcases h s hs with ⟨s',h1,h2,h3⟩ | ⟨r,h1,h2⟩
   ·rw [h1]
    exact ih (m s') (by omega) s' h2 rfl
   ·rw [h1]
    exact ⟨r,rfl,h2⟩
 exact key _ s h0 rfl
def wk (k:IntKind) (x:Int):Int:=IntKind.wrap k x
def shlI (k:IntKind) (x y:Int):Int:=k.wrap (x * 2 ^ min y.toNat k.bits)
def shrI (k:IntKind) (x y:Int):Int:=x / 2 ^ min y.toNat k.bits
def chk (p:Prop) [Decidable p]:Option Unit:=if p then some () else none
def zX {α:Type} (l:List α) (i:Int):Option α:=if i < 0 then none else l[i.toNat]?
def sidx (s:ByteArray) (i:Int):Option Int:=if i < 0 then none else if i.toNat < s.size then some (bt s i.toNat) else none
def subL (s:ByteArray) (lo:Int):Option ByteArray:=if lo < 0 then none else if lo.toNat≤s.size then some (s.extract lo.toNat s.size) else none
def subH (s:ByteArray) (hi:Int):Option ByteArray:=if hi < 0 then none else if hi.toNat≤s.size then some (s.extract 0 hi.toNat) else none
def mkl {α:Type} (n m:Int) (z:α):Option (List α):=if 0≤n∧n≤m∧m≤1099511627776 then some (List.replicate n.toNat z) else none
def appn {α:Type} (l m:List α):Option (List α):=if l.length+m.length≤549755813888 then some (l++m) else none
def sapp (s t:ByteArray):Option ByteArray:=if s.size+t.size≤4611686018427387904 then some (s++t) else none
def bytesL (s:ByteArray):List Int:=s.data.toList.map fun b=>(b.toNat:Int)
theorem chk_f {p:Prop} [Decidable p] {u:Unit} (h:chk p=some u):p:=by
 unfold chk at h
 split at h
 ·assumption
 ·cases h
theorem chkF {p:Prop} [Decidable p] {u:Unit} (h:chk (¬p)=some u):p=False:=eq_false (chk_f h)
theorem zP {α:Type} {l:List α} {i:Int} {x:α} (h:zX l i=some x):((i < 0)=False)∧((i.toNat < l.length)=True)∧l[i.toNat]? = some x:=by
 unfold zX at h
 split at h
 ·cases h
 ·rename_i q
  exact ⟨eq_false q,eq_true (List.getElem?_eq_some_iff.1 h).1,h⟩
theorem sidx_f {s:ByteArray} {i x:Int} (h:sidx s i=some x):((i < 0)=False)∧((i.toNat < s.size)=True)∧bt s i.toNat=x:=by
 unfold sidx at h
 split at h
 ·cases h
 ·rename_i q
  split at h
  ·rename_i q2
   injection h with h
   exact ⟨eq_false q,eq_true q2,h⟩
  ·cases h
theorem subL_f {s t:ByteArray} {lo:Int} (h:subL s lo=some t):((lo < 0)=False)∧((lo.toNat≤s.size)=True)∧s.extract lo.toNat s.size=t:=by
 unfold subL at h
 split at h
 ·cases h
 split at h
 ·injection h with h
  exact ⟨eq_false ‹_›,eq_true ‹_›,h⟩
 ·cases h
theorem subH_f {s t:ByteArray} {hi:Int} (h:subH s hi=some t):((hi < 0)=False)∧((hi.toNat≤s.size)=True)∧s.extract 0 hi.toNat=t:=by
 unfold subH at h
 split at h
 ·cases h
 split at h
 ·injection h with h
  exact ⟨eq_false ‹_›,eq_true ‹_›,h⟩
 ·cases h
theorem mkl_f {α:Type} {n m:Int} {z:α} {l:List α} (h:mkl n m z=some l):((0≤n)=True)∧((n≤m)=True)∧((m≤1099511627776)=True)∧List.replicate n.toNat z=l:=by
 unfold mkl at h
 split at h
 ·rename_i q
  injection h with h
  exact ⟨eq_true q.1,eq_true q.2.1,eq_true q.2.2,h⟩
 ·cases h
theorem appn_f {α:Type} {l m t:List α} (h:appn l m=some t):((l.length+m.length≤549755813888)=True)∧l++m=t:=by
 unfold appn at h
 split at h
 ·injection h with h
  exact ⟨eq_true ‹_›,h⟩
 ·cases h
theorem app1_f {α:Type} {l t:List α} {a:α} (h:appn l [a]=some t):((l.length+1≤549755813888)=True)∧l++[a]=t:=appn_f h
theorem sapp_f {s t u:ByteArray} (h:sapp s t=some u):((s.size+t.size≤4611686018427387904)=True)∧s++t=u:=by
 unfold sapp at h
 split at h
 ·injection h with h
  exact ⟨eq_true ‹_›,h⟩
 ·cases h
theorem ifT {α:Type} {b:Bool} {x y:α} (h:b=true):(if b=true then x else y)=x:=if_pos h
theorem ifF {α:Type} {b:Bool} {x y:α} (h:b=false):(if b=true then x else y)=y:=if_neg (by simp [h])
def rK (k:IntKind) (x:Int):List V:=[.sc (.int k x)]
def rB (x:Bool):List V:=[.sc (.bool x)]
def rS (x:ByteArray):List V:=[.sc (.string x)]
def rL {α:Type} (o:Bool) (n:Nat) (r:α→List V) (l:List α):List V:=[.list o n (l.map r)]
theorem alRows {α:Type} {r:α→List V} (h:∀ x,(r x).all V.alive=true) (l:List α):qR (l.map r)=true:=by
 simp [qR,List.all_map,Function.comp_def,h]
theorem set_get {α:Type} (l:List α) (i:Nat) (a:α):(l.set i a)[i]? = (l[i]?).map fun _=>a:=by
 rw [List.getElem?_set]
 simp only [↓reduceIte]
 split
 ·rw [List.getElem?_eq_getElem ‹_›]; rfl
 ·rw [List.getElem?_eq_none (by omega)]; rfl
theorem alR_nil:qR []=true:=rfl
theorem alR_cons (r:List V) (rs:List (List V)):qR (r :: rs)=(r.all V.alive && qR rs):=rfl
theorem scR_nil:scRows []=true:=rfl
theorem scR_cons (r:List V) (rs:List (List V)):scRows (r :: rs)=(r.all V.isSc && scRows rs):=rfl
theorem qG {α:Type} (r:α→List V) (l m:List α):l.map r++m.map r=(l++m).map r:=by rw [List.map_append]
theorem qO {α:Type} (r:α→List V) (l:List α) (i:Nat) (x:α):(l.map r).set i (r x)=(l.set i x).map r:=by rw [List.map_set]
theorem rep_rows {α:Type} (r:α→List V) (z:α) (n:Nat):List.replicate n (r z)=(List.replicate n z).map r:=by rw [List.map_replicate]
theorem bytesOf_rK (l:List Int):bytesOf (l.map (rK .u8))=some l:=by
 induction l with
 | nil=>rfl
 | cons x l ih=>simp only [List.map_cons,rK,bytesOf] at ih ⊢; rw [ih]; rfl
theorem bytesL_rK (s:ByteArray):(s.data.toList.map fun b=>[V.sc (.int .u8 b.toNat)])=(bytesL s).map (rK .u8):=by
 unfold bytesL
 rw [List.map_map]
 rfl
theorem qH {α:Type} {r r':α→List V} (h:∀ x,borRow (r x)=r' x) (l:List α):qF (l.map r)=l.map r':=by
 rw [borRows_map,List.map_map]
 apply List.map_congr_left
 intro x _
 rw [← h x,borRow_map]
 rfl
theorem nb_rows {α:Type} {r:α→List V} (h:∀ x,noBorRow (r x)=true) (l:List α):qP (l.map r)=true:=by
 induction l with
 | nil=>rfl
 | cons x l ih=>simp [qP,h,ih]
theorem bor_rL {α:Type} {o:Bool} {n:Nat} {r r':α→List V} (h:∀ x,borRow (r x)=r' x) (l:List α):borRow (rL o n r l)=rL false n r' l:=by
 simp only [rL,borRow,V.bor]
 rw [qH h]
theorem nb_rL {α:Type} {n:Nat} {r:α→List V} (h:∀ x,noBorRow (r x)=true) (l:List α):noBorRow (rL true n r l)=true:=by
 simp only [rL,noBorRow,V.noBor,nb_rows h l,Bool.and_true]
theorem bI_add (k:IntKind) (x y:Int):binI .add k x y=some (.int k (wk k (x+y))):=rfl
theorem bI_sub (k:IntKind) (x y:Int):binI .sub k x y=some (.int k (wk k (x - y))):=rfl
theorem bI_mul (k:IntKind) (x y:Int):binI .mul k x y=some (.int k (wk k (x * y))):=rfl
theorem bI_quo (k:IntKind) (x y:Int):binI .quo k x y=if y=0 then none else some (.int k (wk k (x.tdiv y))):=rfl
theorem bI_rem (k:IntKind) (x y:Int):binI .rem k x y=if y=0 then none else some (.int k (x.tmod y)):=rfl
theorem bI_and (k:IntKind) (x y:Int):binI .and k x y=some (.int k (bits .and k x y)):=rfl
theorem bI_or (k:IntKind) (x y:Int):binI .or k x y=some (.int k (bits .or k x y)):=rfl
theorem bI_xor (k:IntKind) (x y:Int):binI .xor k x y=some (.int k (bits .xor k x y)):=rfl
theorem bI_andNot (k:IntKind) (x y:Int):binI .andNot k x y=some (.int k (bits .andNot k x y)):=rfl
theorem bI_eql (k:IntKind) (x y:Int):binI .eql k x y=some (.bool (x == y)):=rfl
theorem bI_neq (k:IntKind) (x y:Int):binI .neq k x y=some (.bool (x != y)):=rfl
theorem bI_lss (k:IntKind) (x y:Int):binI .lss k x y=some (.bool (decide (x < y))):=rfl
theorem bI_leq (k:IntKind) (x y:Int):binI .leq k x y=some (.bool (decide (x≤y))):=rfl
theorem bI_gtr (k:IntKind) (x y:Int):binI .gtr k x y=some (.bool (decide (x > y))):=rfl
theorem bI_geq (k:IntKind) (x y:Int):binI .geq k x y=some (.bool (decide (x≥y))):=rfl
theorem bI_shl (k:IntKind) (x y:Int):binI .shl k x y=if y < 0 then none else some (.int k (shlI k x y)):=rfl
theorem bI_shr (k:IntKind) (x y:Int):binI .shr k x y=if y < 0 then none else some (.int k (shrI k x y)):=rfl
theorem bS_add (x y:ByteArray):binS .add x y=if x.size+y.size≤4611686018427387904 then some (.string (x++y)) else none:=rfl
theorem bS_eql (x y:ByteArray):binS .eql x y=some (.bool (x.toList == y.toList)):=rfl
theorem bS_neq (x y:ByteArray):binS .neq x y=some (.bool !(x.toList == y.toList)):=rfl
theorem bS_lss (x y:ByteArray):binS .lss x y=some (.bool (Op.bytesLess x.toList y.toList)):=rfl
theorem bS_leq (x y:ByteArray):binS .leq x y=some (.bool (Op.bytesLess x.toList y.toList || x.toList == y.toList)):=rfl
theorem bS_gtr (x y:ByteArray):binS .gtr x y=some (.bool !(Op.bytesLess x.toList y.toList || x.toList == y.toList)):=rfl
theorem bS_geq (x y:ByteArray):binS .geq x y=some (.bool !(Op.bytesLess x.toList y.toList)):=rfl
theorem wk_fold (k:IntKind) (x:Int):IntKind.wrap k x=wk k x:=rfl
end Go.TV
namespace Go.TV
theorem wpList_app {P:Program} {ops:Array Oper} {Q Q1:Exit→Act→World→Prop} {l2:List Oper} (hQ:∀ x a w,Q1 x a w→x=.normal∧wpList P ops Q l2 a w):∀ (l1:List Oper) (a:Act) (w:World),wpList P ops Q1 l1 a w→wpList P ops Q (l1++l2) a w
 | [],a,w,h=>(hQ _ _ _ h).2
 | o :: l1,a,w,h=>by
  have ih:=wpList_app (P:=P) (ops:=ops) (Q:=Q) (Q1:=Q1) (l2:=l2) hQ l1
  show wpList P ops Q (o :: (l1++l2)) a w
  unfold wpList at h ⊢
  split
  ·rename_i q
   rw [if_pos q] at h
   rcases h with h | ⟨_,a',w',h⟩
   ·refine .inl ?_
    unfold Oper.wp at h ⊢
    generalize (execOp a.eval o).run P w=r at h
    cases r with
    | ok n w' =>
     cases n <;> simp only [Oper.upon] at h ⊢
     case value v=>exact ih _ _ h
     case skip=>exact ih _ _ h
     case defer d=>exact ih _ _ h
     case enter f args =>
      refine Calls.mono h (fun e w'' he=>?_)
      cases e with
      | returned v=>exact ih _ _ he
      | panicked ch=>cases (hQ _ _ _ he).1
      | outgrown=>obtain ⟨_,_,he⟩:=he; cases (hQ _ _ _ he).1
     case row r args=>exact Rows.mono h (fun v w'' he=>ih _ _ he)
    | halt x w'=>cases x <;> simp only [Oper.upon] at h ⊢ <;> cases (hQ _ _ _ h).1
   ·cases (hQ _ _ _ h).1
  ·rename_i q
   rw [if_neg q] at h
   exact ih _ _ h
theorem wpQuiet_app {P:Program} {ops:Array Oper} {C:World→Prop} {Q:Act→Prop} {l2:List Oper}:∀ (l1:List Oper) (a:Act),wpQuiet P ops C (fun a=>wpQuiet P ops C Q l2 a) l1 a→wpQuiet P ops C Q (l1++l2) a
 | [],a,h=>h
 | o :: l1,a,h=>by
  have ih:=wpQuiet_app (P:=P) (ops:=ops) (C:=C) (Q:=Q) (l2:=l2) l1
  show wpQuiet P ops C Q (o :: (l1++l2)) a
  unfold wpQuiet at h ⊢
  split
  ·rename_i q
   rw [if_pos q] at h
   exact Oper.quiet_mono ih h
  ·rename_i q
   rw [if_neg q] at h
   exact ih _ h
section
variable {X:Cfg} {Post:Exit→Env→Prop} {e e':Env} {ops:Array Oper}
theorem qC {l:List Oper} (n:Nat) (J:Env→Prop) (h:opsV X ops (l.take n) (fun x e=>x=.normal∧Shd J e) e) (h2:∀ e,J e→opsV X ops (l.drop n) Post e):opsV X ops l Post e:=fun k a w hs=>by
 rw [← List.take_append_drop n l]
 refine wpList_app (fun x a w q=>?_) _ _ _ (h k a w hs)
 obtain ⟨e',⟨h3,h4⟩,h5⟩:=q
 obtain ⟨e2,h6,h7⟩:=h4.st h5
 exact ⟨h3,h2 e2 h6 k a w h7⟩
theorem quV_cut {l:List Oper} (n:Nat) (J:Env→Prop) (h:quV X ops (l.take n) (fun x e=>x=.normal∧Shd J e) e) (h2:∀ e,J e→quV X ops (l.drop n) Post e):quV X ops l Post e:=fun k a w hs=>by
 rw [← List.take_append_drop n l]
 refine wpQuiet_app _ _ (wpQuiet_mono (fun a q=>?_) _ _ (h k a w hs))
 obtain ⟨e',⟨h3,h4⟩,h5⟩:=q
 obtain ⟨e2,h6,h7⟩:=h4.st h5
 exact h2 e2 h6 k a w h7
theorem Shd.mono {I J:Env→Prop} (h:Shd I e) (hj:∀ e,I e→J e):Shd J e:=by
 rcases h with h | h
 ·exact .inl (hj e h)
 ·exact .inr fun g c a w hs=>(h g c a w hs).elim fun e' q=>⟨e',hj e' q.1,q.2⟩
theorem zS {σ ρ:Type} {body:σ→Option (σ⊕ρ)} {s:σ} {r:ρ} {c:Code} (I:σ→Env→Prop) (hl:zW body s=some r) (h0:Shd (I s) e)
  (hb:∀ s y e,body s=some y→I s e→wpV X c (thenV (Shd fun e'=>∃ s',y=.inl s'∧I s' e') (fun ex e'=>∃ r',y=.inr r'∧(r'=r→Post ex e'))) e):wpV X (.loop c) Post e:=by
 obtain ⟨n,hn⟩:=loopM_iff.1 hl
 refine wpV_loopS (fun m e=>∃ s,iter body m s=some r∧I s e) (n:=n) (h0.mono fun e q=>⟨s,hn,q⟩) fun n e ⟨s,hi,hI⟩=>?_
 cases n with
 | zero=>cases hi
 | succ n =>
  obtain ⟨y,h1,h2⟩:=zbi hi
  refine wpV_mono (hb s y e h1 hI) fun x e' q=>?_
  cases x with
  | normal =>
   show Shd (fun e'=>∃ m,m < n+1∧∃ s,iter body m s=some r∧I s e') e'
   refine Shd.mono (I:=fun e'=>∃ s',y=.inl s'∧I s' e') q fun e'' ⟨s',q1,q2⟩=>?_
   subst q1
   exact ⟨n,Nat.lt_succ_self n,s',h2,q2⟩
  | _ =>
   obtain ⟨r',q1,q2⟩:=q
   subst q1
   injection h2 with h2
   exact q2 h2
end
theorem StD.tell {gG:GG} {c:Ctx gG} {e:Env} {a:Act} {w:World} {D:CS} {hs:Nat→Value} {S:CS} (h:StD c e a w D hs S) {d:Nat} {s:Sl} (hd:SlRep w D hs e.nx e.ob s (a.tmps.getD d undef)):StD c (e.put d s) a w D hs S:=
 {h with
  sl:=fun t s' q=>by
   have q:lk t ((d,s) :: e.sl)=some s':=q
   simp only [lk] at q
   by_cases e1:t=d
   ·rw [if_pos e1] at q
    have q:=zso q
    rw [e1,← q]
    exact hd
   ·rw [if_neg e1] at q
    exact h.sl t s' q}
theorem StD.tellB {gG:GG} {c:Ctx gG} {e:Env} {a:Act} {w:World} {D:CS} {hs:Nat→Value} {S:CS} (h:StD c e a w D hs S) {d:Nat} {b:Bool} (hb:e.sc (.tmp d)=some (.bool b)):StD c (e.put d (.pl (.one (.v (.sc (.bool b)))))) a w D hs S:=
 h.tell (by
  have hv:=(h.sc hb).1
  have hv:a.tmps.getD d undef=.bool b:=hv
  rw [hv]
  exact ⟨rfl,rfl,rfl⟩)
theorem St.tellB {gG:GG} {c:Ctx gG} {e:Env} {a:Act} {w:World} (h:St c e a w) {d:Nat} {b:Bool} (hb:e.sc (.tmp d)=some (.bool b)):St c (e.put d (.pl (.one (.v (.sc (.bool b)))))) a w:=by
 obtain ⟨D,hs,S,h⟩:=h
 exact ⟨D,hs,S,h.tellB hb⟩
theorem sc_put {e:Env} {d:Nat} {v:Value}:(e.put d (.pl (.one (.v (.sc v))))).sc (.tmp d)=some v:=by simp [Env.sc,Env.val,Env.put,lk]
theorem qE {X:Cfg} {Post:Exit→Env→Prop} {e e1 e2:Env} {ops:Array Oper} {o oj:Oper} {l:List Oper} {j d:Nat} {b want:Bool} (h1:b=want→opsV X ops ({o with guard:=none} :: l) Post e1) (h2:b=!want→opsV X ops l Post e2)
  (hg:o.guard=some (j,want):=by rfl) (hj:ops[j]? = some oj:=by rfl) (hjd:oj.dst=some d:=by rfl) (hb:e.sc (.tmp d)=some (.bool b):=by (simp only [Env.sc,Env.val,lk,reduceIte,Nat.reduceEqDiff]; rfl))
  (he1:e.put d (.pl (.one (.v (.sc (.bool want)))))=e1:=by (simp only [Env.put]; rfl)) (he2:(e.put d (.pl (.one (.v (.sc (.bool !want)))))).putO o.dst (.tup [])=some e2:=by (simp only [Env.putO,Env.put,Bool.not_true,Bool.not_false,reduceIte,Nat.reduceLT]; rfl)):opsV X ops (o :: l) Post e:=fun k a w hs=>by
 have ht:=hs.tellB hb
 by_cases q:b=want
 ·subst q
  exact opsV_guard hg hj hjd sc_put (fun _=>he1 ▸ h1 rfl) (fun q=>by cases b <;> cases q) k a w ht
 ·have q':b=!want:=by cases b <;> cases want <;> simp_all
  subst q'
  exact opsV_guard hg hj hjd sc_put (fun q=>by cases want <;> cases q) (fun _=>⟨e2,he2,h2 rfl⟩) k a w ht
theorem quV_sp {X:Cfg} {Post:Exit→Env→Prop} {e e1 e2:Env} {ops:Array Oper} {o oj:Oper} {l:List Oper} {j d:Nat} {b want:Bool} (h1:b=want→quV X ops ({o with guard:=none} :: l) Post e1) (h2:b=!want→quV X ops l Post e2)
  (hg:o.guard=some (j,want):=by rfl) (hj:ops[j]? = some oj:=by rfl) (hjd:oj.dst=some d:=by rfl) (hb:e.sc (.tmp d)=some (.bool b):=by (simp only [Env.sc,Env.val,lk,reduceIte,Nat.reduceEqDiff]; rfl))
  (he1:e.put d (.pl (.one (.v (.sc (.bool want)))))=e1:=by (simp only [Env.put]; rfl)) (he2:(e.put d (.pl (.one (.v (.sc (.bool !want)))))).putO o.dst (.tup [])=some e2:=by (simp only [Env.putO,Env.put,Bool.not_true,Bool.not_false,reduceIte,Nat.reduceLT]; rfl)):quV X ops (o :: l) Post e:=fun k a w hs=>by
 have ht:=hs.tellB hb
 by_cases q:b=want
 ·subst q
  exact quV_guard hg hj hjd sc_put (fun _=>he1 ▸ h1 rfl) (fun q=>by cases b <;> cases q) k a w ht
 ·have q':b=!want:=by cases b <;> cases want <;> simp_all
  subst q'
  exact quV_guard hg hj hjd sc_put (fun q=>by cases want <;> cases q) (fun _=>⟨e2,he2,h2 rfl⟩) k a w ht
section
variable {X:Cfg} {Post:Exit→Env→Prop} {e e':Env} {ops:Array Oper} {o oj:Oper} {l:List Oper} {j d:Nat} {want b:Bool}
end
theorem ops {goal next p:Prop} (hH:p) (hn:next) (h:p→next→goal:=by
 intro hH hn
 repeat (first
  | (refine opsV_op (e':=?_) rfl (evOp_ok ?_) ?_
     rotate_left
     focus
      simp only [hH,evOp,evConv,evMove,evAssign,evPick,evBin,evUn,evExtract,Env.sure,evNil,evFieldAddr,evLoad,Env.int,Env.node,evIndexAddr,evIndex,evField,Env.bound,Env.cut,evSlice,V.alive,Env.takes,evAlloc,Ag.cells,evBox,Env.newListO,evMake,over,Env.solid,Env.solidG,Env.parts,Ty.places,evBuild,Env.rowsOf,chunk,evBuildSlice,Env.rows,isU8B,evLen,evMinMax,V.isSc,C.killN,Ag.map,Sl.map,slMap,Env.place,Env.lay,evStore,C.killA,scR_nil,scR_cons,alR_nil,alR_cons,Env.src,Env.newAt,evAppend,Env.take,V.get,V.set,V.rowAt,V.setRow,Option.getD_some,List.set_cons_zero,List.set_cons_succ,set_get,List.set_set,cellOf,cellsOf,Env.behind,Env.val,Env.sc,Env.cl,lk,setO,delO,constS,constC,plain,Env.putO,Env.put,tyBool,binV,unV,rK,rB,rS,rL,wk_fold,bI_add,bI_sub,bI_mul,bI_quo,bI_rem,bI_and,bI_or,bI_xor,bI_andNot,bI_eql,bI_neq,bI_lss,bI_leq,bI_gtr,bI_geq,bI_shl,bI_shr,bS_add,bS_eql,bS_neq,bS_lss,bS_leq,bS_gtr,bS_geq,bytesOf_rK,bytesL_rK,
      ↓reduceIte,eq_self,Option.isSome_some,Option.isSome_none,Option.bind_some,Option.bind_none,Option.map_some,Option.map_none,Bool.false_eq_true,Nat.reduceLT,Nat.reduceLeDiff,Nat.reduceEqDiff,Nat.reduceAdd,Nat.reduceMul,Nat.reduceSub,Int.reduceLT,Int.reduceEq,Int.reduceNeg,List.length_map,List.length_set,List.length_cons,List.length_nil,List.length_append,List.getElem?_map,List.map_cons,List.map_nil,true_or,or_true,or_false,false_or,and_true,true_and,and_self,not_true,not_false_eq_true,reduceCtorEq,List.all_cons,List.all_nil,Bool.and_true,Bool.true_and,ne_eq,List.drop_zero,List.nil_append,List.append_nil,List.singleton_append,List.cons_append,List.flatMap_cons,List.flatMap_nil,List.flatten_cons,List.flatten_nil,List.mapM_cons,List.mapM_nil,Option.pure_def,Option.bind_eq_bind,List.take_zero,List.take_succ_cons,List.drop_succ_cons,List.getElem?_cons_zero,List.getElem?_cons_succ,List.set_cons_zero,List.set_cons_succ,List.headD_cons,List.take_nil,List.drop_nil,Nat.sub_zero,Nat.add_zero,Nat.zero_add,Nat.zero_le,Nat.le_refl,← List.map_append,← List.map_take,← List.map_drop]
      with_reducible rfl)
  | (refine opsV_on rfl rfl rfl ?_ ?_
     ·(simp only [hH,Env.sc,Env.val,lk,reduceIte,Nat.reduceEqDiff]; done))
  | (refine opsV_off (e':=?_) rfl rfl rfl ?_ ?_ ?_
     rotate_left
     focus (simp only [hH,Env.sc,Env.val,lk,reduceIte,Nat.reduceEqDiff,Bool.not_true,Bool.not_false]; done)
     focus (simp only [Env.putO,Env.put,reduceIte,Nat.reduceLT]; rfl))
  | (refine opsV_dead (e':=?_) rfl rfl rfl ?_ ?_ ?_
     rotate_left
     focus (simp only [Env.val,lk,reduceIte,Nat.reduceEqDiff]; done)
     focus (simp only [Env.putO,Env.put,reduceIte,Nat.reduceLT]; rfl))
  | (refine quV_op (e':=?_) rfl ?_ ?_
     rotate_left
     focus
      simp only [hH,evQuiet,evConvQ,evSliceS,evMove,evAssign,evPick,evBin,evUn,evExtract,Env.sure,evNil,evFieldAddr,evLoad,Env.int,Env.node,evIndexAddr,evIndex,evField,Env.bound,Env.cut,evSlice,V.alive,Env.takes,evAlloc,Ag.cells,evBox,Env.newListO,evMake,over,Env.solid,Env.solidG,Env.parts,Ty.places,evBuild,Env.rowsOf,chunk,evBuildSlice,Env.rows,isU8B,evLen,evMinMax,V.isSc,C.killN,Ag.map,Sl.map,slMap,Env.place,Env.lay,evStore,C.killA,scR_nil,scR_cons,alR_nil,alR_cons,Env.src,Env.newAt,evAppend,Env.take,V.get,V.set,V.rowAt,V.setRow,Option.getD_some,List.set_cons_zero,List.set_cons_succ,set_get,List.set_set,cellOf,cellsOf,Env.behind,Env.val,Env.sc,Env.cl,lk,setO,delO,constS,constC,plain,Env.putO,Env.put,tyBool,binV,unV,rK,rB,rS,rL,wk_fold,bI_add,bI_sub,bI_mul,bI_quo,bI_rem,bI_and,bI_or,bI_xor,bI_andNot,bI_eql,bI_neq,bI_lss,bI_leq,bI_gtr,bI_geq,bI_shl,bI_shr,bS_add,bS_eql,bS_neq,bS_lss,bS_leq,bS_gtr,bS_geq,bytesOf_rK,bytesL_rK,
      ↓reduceIte,eq_self,Option.isSome_some,Option.isSome_none,Option.bind_some,Option.bind_none,Option.map_some,Option.map_none,Bool.false_eq_true,Nat.reduceLT,Nat.reduceLeDiff,Nat.reduceEqDiff,Nat.reduceAdd,Nat.reduceMul,Nat.reduceSub,Int.reduceLT,Int.reduceEq,Int.reduceNeg,List.length_map,List.length_set,List.length_cons,List.length_nil,List.length_append,List.getElem?_map,List.map_cons,List.map_nil,true_or,or_true,or_false,false_or,and_true,true_and,and_self,not_true,not_false_eq_true,reduceCtorEq,List.all_cons,List.all_nil,Bool.and_true,Bool.true_and,ne_eq,List.drop_zero,List.nil_append,List.append_nil,List.singleton_append,List.cons_append,List.flatMap_cons,List.flatMap_nil,List.flatten_cons,List.flatten_nil,List.mapM_cons,List.mapM_nil,Option.pure_def,Option.bind_eq_bind,List.take_zero,List.take_succ_cons,List.drop_succ_cons,List.getElem?_cons_zero,List.getElem?_cons_succ,List.set_cons_zero,List.set_cons_succ,List.headD_cons,List.take_nil,List.drop_nil,Nat.sub_zero,Nat.add_zero,Nat.zero_add,Nat.zero_le,Nat.le_refl,← List.map_append,← List.map_take,← List.map_drop]
      with_reducible rfl)
  | (refine quV_on rfl rfl rfl ?_ ?_
     ·(simp only [hH,Env.sc,Env.val,lk,reduceIte,Nat.reduceEqDiff]; done))
  | (refine quV_off (e':=?_) rfl rfl rfl ?_ ?_ ?_
     rotate_left
     focus (simp only [hH,Env.sc,Env.val,lk,reduceIte,Nat.reduceEqDiff,Bool.not_true,Bool.not_false]; done)
     focus (simp only [Env.putO,Env.put,reduceIte,Nat.reduceLT]; rfl))
  | (refine quV_dead (e':=?_) rfl rfl rfl ?_ ?_ ?_
     rotate_left
     focus (simp only [Env.val,lk,reduceIte,Nat.reduceEqDiff]; done)
     focus (simp only [Env.putO,Env.put,reduceIte,Nat.reduceLT]; rfl)))
 exact hn):goal:=h hH hn
theorem zE {X:Cfg} {Post:Exit→Env→Prop} {e:Env} {arr:Array Oper} {next:Prop} (hn:next) (h:next→Post .normal e:=by
 intro hn
 try simp only [seqV_normal,seqV_ret,seqV_exit,thenV,blockV,reduceIte,Nat.reduceEqDiff]
 exact hn):opsV X arr [] Post e:=zG (h hn)
theorem quN {X:Cfg} {Post:Exit→Env→Prop} {e:Env} {arr:Array Oper} {next:Prop} (hn:next) (h:next→Post .normal e:=by
 intro hn
 try simp only [seqV_normal,seqV_ret,seqV_exit,thenV,blockV,reduceIte,Nat.reduceEqDiff]
 exact hn):quV X arr [] Post e:=qU (h hn)
theorem zM {X:Cfg} {Post:Exit→Env→Prop} {e:Env} {next:Prop} (hn:next) (h:next→Post .normal e:=by
 intro hn
 try simp only [seqV_normal,seqV_ret,seqV_exit,thenV,blockV,reduceIte,Nat.reduceEqDiff]
 exact hn):wpV X .skip Post e:=wpV_skip (h hn)
theorem zN {X:Cfg} {Post:Exit→Env→Prop} {e:Env} {next:Prop} (hn:next) (h:next→Post .ret e:=by
 intro hn
 try simp only [seqV_normal,seqV_ret,seqV_exit,thenV,blockV,reduceIte,Nat.reduceEqDiff]
 exact hn):wpV X .ret Post e:=wpV_ret (h hn)
theorem qJ {X:Cfg} {Post:Exit→Env→Prop} {e:Env} {i:Nat} {next:Prop} (hn:next) (h:next→Post (.exit i) e:=by
 intro hn
 try simp only [seqV_normal,seqV_ret,seqV_exit,thenV,blockV,reduceIte,Nat.reduceEqDiff]
 exact hn):wpV X (.exit i) Post e:=wpV_exit (h hn)
theorem regQ {X:Cfg} {Post:Exit→Env→Prop} {e:Env} {id:Nat} {l:List Oper} (h:quV X l.toArray l Post e) (hB:Region.lexB .any l.toArray=true:=by decide +kernel):wpV X (.region id l.toArray true) Post e:=wpV_quiet h hB
theorem shd {I:Env→Prop} {e e':Env} (ks:List Nat) (os:List (Nat×Nat)) (nx:Nat) (h:I e') (he:e.shed ks os nx=some e':=by
 simp only [Env.shed,shedS,shedO,lk,delO,C.ren,Ag.map,Sl.map,List.map_cons,List.map_nil,↓reduceIte,eq_self,Option.isSome_some,Option.isSome_none,Option.bind_some,Option.map_some,Nat.reduceEqDiff,Nat.reduceLT,Nat.reduceLeDiff,true_or,or_true,or_false,false_or,and_true,true_and,not_true,not_false_eq_true,Bool.false_eq_true,implies_true,imp_self,false_implies,Nat.le_refl] <;> rfl):Shd I e:=.of ks os nx he h
theorem zR {X:Cfg} {Post:Exit→Env→Prop} {e e':Env} {ops:Array Oper} {o:Oper} {l:List Oper} {cf:Operand} {args:Array Operand} {ts:Array TypeId} {f:Nat} {as rs:List (Ag V)} {fin:List (Nat×V)} {cells:List C} {e1:Env} {p:Prop}
  (hH:p) (md:Nat→List Nat) (hf:Fn X f as rs fin) (h:opsV X ops l Post e') (hg:o.guard=none:=by rfl) (ho:o.op=.call {callee:=.value cf,args:=args,argTypes:=ts}:=by rfl)
  (h1:p→evCall md cf args.toList e=some (f,as,cells,e1):=by
   intro hH
   simp only [hH,evCall,Env.callee,Env.args,flatC,Env.own1,Env.carve,Env.lend,Env.fill,shape,Env.deadAt,Env.deads,Env.node,Env.rows,Env.val,Env.sc,Env.cl,lk,setO,delO,constS,constC,plain,Env.putO,Env.put,V.get,V.set,V.rowAt,V.setRow,Option.getD_some,List.set_cons_zero,List.set_cons_succ,set_get,List.set_set,V.alive,V.bor,borRow,rK,rB,rS,rL,List.getElem?_map,List.append_nil,↓reduceIte,eq_self,Option.isSome_some,Option.isSome_none,Option.bind_some,Option.bind_none,Option.map_some,Option.map_none,Bool.false_eq_true,Nat.reduceLT,Nat.reduceLeDiff,Nat.reduceEqDiff,Nat.reduceAdd,Nat.reduceMul,Nat.reduceSub,Nat.reduceBEq,List.map_cons,List.map_nil,List.length_cons,List.length_nil,List.cons_append,List.nil_append,List.headD_cons,List.tail_cons,List.contains_nil,List.contains_cons,List.take_zero,List.take_succ_cons,List.drop_zero,List.drop_succ_cons,List.getElem?_cons_zero,List.getElem?_cons_succ,Bool.and_true,Bool.true_and,Bool.or_false,Bool.or_true,and_self,and_true,true_and,← List.map_append,← List.map_take,← List.map_drop] <;> rfl) (hn:p→noBorRow (qD rs)=true:=by intro hH; simp only [hH,qD,noBorRow,V.noBor,qP,List.cons_append,List.nil_append,Bool.and_true,Bool.true_and])
  (hfin:p→fin.all (fun q=>(md f).contains q.1 && q.2.noBor)=true:=by intro hH; simp only [hH,List.all_nil,List.all_cons,noBorRow,V.noBor,qP,Bool.and_true,Bool.true_and,Bool.or_false,Bool.or_true,List.contains_cons,List.contains_nil,Nat.reduceBEq,BEq.rfl])
  (h2:p→evRet o rs fin cells e1=some e':=by
   intro hH
   simp only [hH,evRet,retS,entA,entC,entCs,entOs,V.own,qD,Env.back,Env.graft,slMap,Sl.map,Ag.map,C.killN,Env.node,Env.val,Env.sc,Env.cl,lk,setO,delO,constS,constC,plain,Env.putO,Env.put,V.get,V.set,V.rowAt,V.setRow,Option.getD_some,List.set_cons_zero,List.set_cons_succ,set_get,List.set_set,V.alive,rK,rB,rS,rL,List.getElem?_map,List.append_nil,↓reduceIte,eq_self,Option.isSome_some,Option.isSome_none,Option.bind_some,Option.bind_none,Option.map_some,Option.map_none,Bool.false_eq_true,Nat.reduceLT,Nat.reduceLeDiff,Nat.reduceEqDiff,Nat.reduceAdd,Nat.reduceMul,Nat.reduceSub,List.map_cons,List.map_nil,List.length_cons,List.length_nil,List.cons_append,List.nil_append,List.take_zero,List.take_succ_cons,List.drop_zero,List.drop_succ_cons,List.getElem?_cons_zero,List.getElem?_cons_succ,List.set_cons_zero,List.set_cons_succ,Bool.and_true,Bool.true_and,and_self,and_true,true_and] <;> rfl):opsV X ops (o :: l) Post e:=opsV_call md hf hg ho (h1 hH) (hn hH) (hfin hH) (h2 hH) h
theorem callGQ {X:Cfg} {Post:Exit→Env→Prop} {e e':Env} {ops:Array Oper} {o:Oper} {l:List Oper} {cf:Operand} {args:Array Operand} {ts:Array TypeId} {f:Nat} {as:List (Ag V)} {v:Value} {p:Prop}
  (hH:p) (hf:Fn X f as [.one (.sc v)] []) (h:quV X ops l Post e') (hg:o.guard=none:=by rfl) (ho:o.op=.call {callee:=.value cf,args:=args,argTypes:=ts}:=by rfl) (hp:plain v=true:=by rfl)
  (h1:p→evCallQ cf args.toList e=some (f,as):=by
   intro hH
   simp only [hH,evCallQ,evCall,Env.callee,Env.args,flatC,Env.own1,Env.carve,Env.lend,Env.fill,shape,Env.deadAt,Env.deads,Env.node,Env.rows,Env.val,Env.sc,Env.cl,lk,setO,delO,constS,constC,plain,Env.putO,Env.put,V.get,V.set,V.rowAt,V.setRow,Option.getD_some,List.set_cons_zero,List.set_cons_succ,set_get,List.set_set,V.alive,V.bor,borRow,rK,rB,rS,rL,List.getElem?_map,List.append_nil,↓reduceIte,eq_self,Option.isSome_some,Option.isSome_none,Option.bind_some,Option.bind_none,Option.map_some,Option.map_none,Bool.false_eq_true,Nat.reduceLT,Nat.reduceLeDiff,Nat.reduceEqDiff,Nat.reduceAdd,Nat.reduceMul,Nat.reduceSub,Nat.reduceBEq,List.map_cons,List.map_nil,List.length_cons,List.length_nil,List.cons_append,List.nil_append,List.headD_cons,List.tail_cons,List.contains_nil,List.contains_cons,List.take_zero,List.take_succ_cons,List.drop_zero,List.drop_succ_cons,List.getElem?_cons_zero,List.getElem?_cons_succ,Bool.and_true,Bool.true_and,Bool.or_false,Bool.or_true,and_self,and_true,true_and,← List.map_append,← List.map_take,← List.map_drop] <;> rfl)
  (h2:e.putO o.dst (.pl (.one (.v (.sc v))))=some e':=by
   simp only [Env.putO,Env.put,reduceIte,Nat.reduceLT]
   rfl):quV X ops (o :: l) Post e:=quV_call hf hg ho hp (h1 hH) h2 h
theorem zO {X:Cfg} {res:List ResultVar} {rs rs':List (Ag V)} {fin fin':List (Nat×V)} {e:Env} {p:Prop} (hH:p) (he:rs'=rs) (hf:fin'=fin) (h:p→(evRes X.T res e).map (fun q=>(q.1,q.2.fin))=some (rs',fin'):=by
 intro hH
 simp only [hH,evRes,Env.res1,Env.takes,Env.take,Env.node,Env.fin,lk,V.alive,V.get,V.set,V.rowAt,V.setRow,Option.getD_some,List.set_cons_zero,List.set_cons_succ,set_get,List.set_set,setO,delO,rK,rB,rS,rL,List.getElem?_map,↓reduceIte,eq_self,Option.isSome_some,Option.isSome_none,Option.bind_some,Option.map_some,Nat.reduceEqDiff,Nat.reduceLT,List.filter_cons,List.filter_nil,decide_true,decide_false,Bool.false_eq_true,List.append_nil,List.nil_append,List.getElem?_cons_zero,List.getElem?_cons_succ] <;> rfl):RetL X res rs fin .ret e:=.of (.inl rfl) (by rw [h hH,he,hf])
theorem zU {goal next p:Prop} (hH:p) (hn:next) (h:p→next→goal:=by
 intro hH hn
 simp only [entry,entS,entC,entCs,V.own,entOs,qD,List.length_cons,List.length_nil,Nat.reduceAdd,Bool.false_eq_true,reduceIte,List.cons_append,List.nil_append]
 exact hn):goal:=h hH hn
end Go.TV
namespace Go.TV
def fillOk:List (Option V)→List C→Bool
 | some _ :: os,_ :: cs=>fillOk os cs
 | none :: os,c :: cs=>(match c with | .v _ | .ba _=>true | _=>false) && fillOk os cs
 | _,_=>true
def evCallD (md:Nat→List Nat) (cf:Operand) (as:List Operand) (e:Env):Option (Nat×List (Ag V)×List C×Env):=
 (e.callee cf).bind fun q=>(e.args as).bind fun gs=>(Env.own1 (md q.1) e 0 (flatC (gs++q.2.map fun x=>.one (.v x)))).bind fun z =>
  if fillOk z.1 (flatC (gs++q.2.map fun x=>.one (.v x)))=true then (if z.2.deads z.1 (flatC (gs++q.2.map fun x=>.one (.v x)))=true then (z.2.fill z.1 (flatC (gs++q.2.map fun x=>.one (.v x)))).map fun xs=>(q.1,shape (gs++q.2.map fun x=>.one (.v x)) xs,flatC (gs++q.2.map fun x=>.one (.v x)),z.2) else none) else none
section
variable {gG:GG} {c:Ctx gG} {e e':Env} {a:Act} {w:World} {D:CS} {hs:Nat→Value} {S:CS} {X:Cfg} {o:Oper}
theorem StD.fillD (h:StD c e a w D hs S):∀ (os:List (Option V)) (cs:List C) (us:List Value) (xs:List V) (S1:CS) (rd:Nat→Option Value) (k:Nat),e.fill os cs=some xs→fillOk os cs=true→RepO w D os us S1→CsRep w D hs e.nx e.ob cs us →
  (∀ j u,us[j]? = some u→rd (k+j)=some u)→RepRow w D rd xs k S1∧xs.length=cs.length
 | [],[],us,xs,S1,rd,k,hf,_,hO,hC,hr=>by
  injection hf with hf
  subst hf
  exact ⟨hO.2,rfl⟩
 | some x :: os,q :: cs,us,xs,S1,rd,k,hf,hk,hO,hC,hr=>by
  obtain ⟨xs',h1,rfl⟩:=Option.map_eq_some_iff.1 hf
  obtain ⟨u,r,T1,T2,rfl,h2,h3,h4,rfl⟩:=hO
  obtain ⟨u',r',he,_,h5⟩:=hC
  injection he with he1 he2
  subst he1
  subst he2
  obtain ⟨g1,g2⟩:=StD.fillD h os cs r xs' T2 rd (k+1) h1 hk h3 h5 (fun j z hj=>by
   have:=hr (j+1) z (by simpa using hj)
   rwa [show k+(j+1)=k+1+j by omega] at this)
  exact ⟨⟨u,T1,T2,by have:=hr 0 u rfl; simpa using this,h2,g1,h4,rfl⟩,by simp [g2]⟩
 | none :: os,q :: cs,us,xs,S1,rd,k,hf,hk,hO,hC,hr=>by
  simp only [Env.fill] at hf
  obtain ⟨x,h0,hf⟩:=zbi hf
  obtain ⟨xs',h1,rfl⟩:=Option.map_eq_some_iff.1 hf
  obtain ⟨u,r,rfl,h3⟩:=hO
  obtain ⟨u',r',he,h6,h5⟩:=hC
  injection he with he1 he2
  subst he1
  subst he2
  simp only [fillOk,Bool.and_eq_true] at hk
  obtain ⟨g1,g2⟩:=StD.fillD h os cs r xs' S1 rd (k+1) h1 hk.2 h3 h5 (fun j z hj=>by
   have:=hr (j+1) z (by simpa using hj)
   rwa [show k+(j+1)=k+1+j by omega] at this)
  have hx:Rep w D x u emp:=by
   cases q with
   | v y=>injection h0 with h0; subst h0; exact h6
   | ba row =>
    injection h0 with h0
    subst h0
    obtain ⟨b,o,h1,h2,h3⟩:=h6
    exact ⟨b,o,emp,h1,h2,rfl,rfl,h3⟩
   | _=>simp at hk
  exact ⟨⟨u,emp,S1,by have:=hr 0 u rfl; simpa using this,hx,g1,emp_dj _,(emp_cup _).symm⟩,by simp [g2]⟩
 | [],_ :: _,_,_,_,_,_,hf,_,_,_,_=>by cases hf
 | some _ :: _,[],_,_,_,_,_,hf,_,_,_,_=>by cases hf
 | none :: _,[],_,_,_,_,_,hf,_,_,_,_=>by cases hf
theorem ObRep.growD {D':CS} (hD:sub D D'):∀ (ob:List (Nat×V)) (S:CS),ObRep w D hs ob S→ObRep w D' hs ob S
 | [],_,h=>h
 | (i,v) :: r,S,h=>by
  obtain ⟨S1,S2,h0,h1,h2,h3,rfl⟩:=h
  exact ⟨S1,S2,h0,Rep.mono hD h1,ObRep.growD hD r S2 h2,h3,rfl⟩
theorem CRep.growD {D':CS} (hD:sub D D') {nx:Nat} {ob:List (Nat×V)} {k:C} {u:Value} (h:CRep w D hs nx ob k u):CRep w D' hs nx ob k u:=by
 cases k with
 | v x=>exact Rep.mono hD h
 | ba row =>
  obtain ⟨b,o,h1,h2,h3⟩:=h
  exact ⟨b,o,h1,RepRow.frame hD (qM w D) row _ _ 0 emp h2 (qM w emp) (fun _ _ _=>rfl),qZ h3 hD⟩
 | ref i p=>exact h
 | part i p n lo hi=>exact h
 | addr i p n r j=>exact h
 | dead=>trivial
theorem AgRep.growD {D':CS} (hD:sub D D') {nx:Nat} {ob:List (Nat×V)} {g:Ag C} {u:Value} (h:AgRep w D hs nx ob g u):AgRep w D' hs nx ob g u:=by
 cases g with
 | one k=>exact CRep.growD hD h
 | agg ks=>obtain ⟨us,e,h⟩:=h; exact ⟨us,e,CsRep.imp (fun k u q=>CRep.growD hD q) ks us h⟩
theorem AgsRep.growD {D':CS} (hD:sub D D') {nx:Nat} {ob:List (Nat×V)}:∀ (gs:List (Ag C)) (us:List Value),AgsRep w D hs nx ob gs us→AgsRep w D' hs nx ob gs us
 | [],_,h=>h
 | g :: gs,us,h=>by
  obtain ⟨u,r,e,h2,h3⟩:=h
  exact ⟨u,r,e,AgRep.growD hD h2,AgsRep.growD hD gs r h3⟩
theorem StD.growD (h:StD c e a w D hs S) {D':CS} (hD:sub D D') (hj:TV.dj S D') (hl:∀ b o,D' b o→b < w.heap.size) (hs':∀ b o,D' b o→c.D0 b o∨c.S0 b o∨c.w0.heap.size≤b):StD c e a w D' hs S:=
 {h with
  ob:=ObRep.growD hD _ _ h.ob
  sl:=fun t s q=>by
   have:=h.sl t s q
   cases s with
   | pl g=>exact AgRep.growD hD this
   | tup gs=>obtain ⟨us,e,h⟩:=this; exact ⟨us,e,AgsRep.growD hD gs us h⟩
  dj:=hj
  Dl:=hl
  D0:=qZ h.D0 hD
  Ds:=hs'}
theorem StD.backD {cells:List C} {fl:List Value}:∀ (fin:List (Nat×V)) {e e':Env} {S T:CS} (h:StD c e a w D hs S),Env.back cells fin e=some e'→ObRep w D (fun i=>fl.getD i undef) fin T →
  TV.dj T S→TV.dj T D→(∀ b o,T b o→c.S0 b o∨c.w0.heap.size≤b)→(∀ q ∈ fin,∀ k,cells[q.1]? = some k→ownLoc w hs k (fl.getD q.1 undef))→∃ S',StD c e' a w D hs S'
 | [],e,e',S,T,h,hb,_,_,_,_,_=>by
  injection hb with hb
  subst hb
  exact ⟨S,h⟩
 | (i,v) :: fin,e,e',S,T,h,hb,ho,hj,hD,h0,hl=>by
  simp only [Env.back] at hb
  obtain ⟨k,h1,hb⟩:=zbi hb
  obtain ⟨e1,h2,hb⟩:=zbi hb
  obtain ⟨T1,T2,g0,g1,g2,g3,rfl⟩:=ho
  obtain ⟨f1,f2,f3,f4⟩:=h.graft (u:=fl.getD i undef) h2 (hl (i,v) (by simp) k h1) g1 (l_dj hj) (l_dj hD) (fun b o q=>h0 b o (.inl q))
  exact StD.backD fin f1 hb g2 (dj_cup (dj_comm g3) (r_dj hj)) (r_dj hD) (fun b o q=>h0 b o (.inr q)) (fun q hq=>hl q (by simp [hq]))
theorem StD.callD {c:Ctx X.G} (h:StD c e a w D hs S) {md:Nat→List Nat} {cf:Operand} {args:Array Operand} {ts:Array TypeId} {f:Nat} {as rs:List (Ag V)} {fin:List (Nat×V)} {cells:List C} {e1:Env}
  (ho:o.op=.call {callee:=.value cf,args:=args,argTypes:=ts}) (h1:evCallD md cf args.toList e=some (f,as,cells,e1)) (hf:Fn X f as rs fin)
  (hfin:fin.all (fun q=>(md f).contains q.1)=true) (h2:evRet o rs fin cells e1=some e') {next:Act→World→Prop} {Q:Exit→Act→World→Prop} (hnext:∀ a w,St c e' a w→next a w):o.wp X.P a w next Q:=by
 obtain ⟨⟨g,caps⟩,k1,h1⟩:=zbi h1
 obtain ⟨gs,k2,h1⟩:=zbi h1
 obtain ⟨⟨os,e0⟩,k3,h1⟩:=zbi h1
 simp only at h1
 split at h1
 case isFalse=>cases h1
 rename_i hfok
 split at h1
 case isFalse=>cases h1
 rename_i hdeads
 obtain ⟨xs,k4,k5⟩:=Option.map_eq_some_iff.1 h1
 simp only [Prod.mk.injEq] at k5
 obtain ⟨e_f,e_as,e_cells,e_e1⟩:=k5
 subst e_f
 subst e_as
 subst e_cells
 subst e_e1
 obtain ⟨uc,c1,c2,c3⟩:=h.callee k1
 obtain ⟨fl1,a1,a2⟩:=h.args args.toList gs k2
 have hA:=argsV_append gs (caps.map fun x=>(.one (.v x):Ag C)) _ _ _ _ a2 (argsV_ones c2)
 have hC:CsRep w D hs e.nx e.ob (flatC (gs++caps.map fun x=>(.one (.v x):Ag C))) (fl1++uc):=by
  rw [flatC_append,flatC_ones]
  exact CsRep.append _ _ _ _ a1 c3
 obtain ⟨S1,S',f1,f2,f3,f4,f5,f6,f7,f8,f9,f10,f11,f12⟩:=StD.own1 _ 0 h k3 hC
 obtain ⟨r1,r2⟩:=f2.fillD os _ (fl1++uc) xs S1 (fun j=>(fl1++uc)[j]?) 0 k4 hfok f1 (CsRep.imp f9 _ _ hC) (fun j u hj=>by rw [Nat.zero_add]; exact hj)
 obtain ⟨s1,s2⟩:=shape_ok _ _ _ xs hA r2
 obtain ⟨⟨fn,p1,p2,p3⟩,hcall⟩:=hf
 have hSD:TV.dj S1 D:=dj_sub h.dj f4
 have hS1b:∀ b o,S1 b o→b < w.heap.size:=fun b o q=>h.ob.blt b o (f4 b o q)
 have hS'b:∀ b o,S' b o→b < w.heap.size:=fun b o q=>h.ob.blt b o (f5 b o q)
 have hc:=hcall w D S1 _ _ s1 (by rw [s2]; exact r1) hSD h.Dl (h.glo.mono f4 (qA D))
 have hexec:(execOp a.eval o).run X.P w=.ok (.enter g (List.map a.eval args.toList++uc).toArray) w:=by
  have e1:(args.map a.eval)++uc.toArray=(List.map a.eval args.toList++uc).toArray:=by
   apply Array.ext'
   simp
  have hb:fn.body.isNone=false:=by cases q:fn.body <;> simp [q] at p2 ⊢
  simp only [execOp,ho,resolve,c1,Deferred.ofValue,Sem.run_bind,Sem.run_pure,Result.andThen_ok,invoke,callFunc,run_program,p1]
  simp [p3,hb,e1]
 unfold Oper.wp
 rw [hexec]
 show Calls X.P g _ w _
 refine Calls.mono hc (fun en w' hq=>?_)
 obtain ⟨u,fr,D',T1,T2,rfl,q1,q2,q3,q4,q5,q6,q7,q8,q9,q10⟩:=hq
 show next (a.put o.dst u) w'
 have h0:∀ b o,S1 b o→c.S0 b o∨c.w0.heap.size≤b:=fun b o q=>h.Ss b o (f4 b o q)
 have d0:=f2.world' q6 (dj_comm f3) (dj_comm hSD) h0
 have hnew:∀ b,w.heap.size≤b→c.w0.heap.size≤b:=fun b q=>Nat.le_trans h.fr.size q
 have d1:=d0.growD q8 (fun b o z1 z2=>by
   rcases q9 b o z2 with z | z | z
   ·exact f2.dj b o z1 z
   ·exact f3 b o z z1
   ·have:=hS'b b o z1; omega) q10 (fun b o z=>by
   rcases q9 b o z with z | z | z
   ·exact h.Ds b o z
   ·exact .inr (h0 b o z)
   ·exact .inr (.inr (hnew b z)))
 have tS:∀ b o,cup T1 T2 b o→S1 b o∨w.heap.size≤b:=q7
 have tdj:TV.dj (cup T1 T2) S':=fun b o z1 z2=>(tS b o z1).elim (fun z=>f3 b o z z2) (fun z=>by have:=hS'b b o z2; omega)
 have tdD:TV.dj (cup T1 T2) D':=q5
 have t0:∀ b o,cup T1 T2 b o→c.S0 b o∨c.w0.heap.size≤b:=fun b o z=>(tS b o z).elim (h0 b o) (fun z=>.inr (hnew b z))
 have hfl:=resV_flat q1
 have d2:=d1.objs (fr:=fr) q2 hfl (l_dj tdj) (l_dj tdD) (fun b o z=>t0 b o (.inl z))
 obtain ⟨e2,z1,z2⟩:=zbi h2
 have hrd:∀ i,e0.nx≤i→i < e0.nx+(qD rs).length→(fun j=>fr[j - e0.nx]?) i=some ((fun i=>if e0.nx≤i then fr.getD (i - e0.nx) undef else hs i) i):=fun i m1 m2=>by
  have:i - e0.nx < fr.length:=by omega
  simp only [m1,if_true]
  rw [List.getD_eq_getElem?_getD,List.getElem?_eq_getElem this]
  rfl
 have hxr:RepRow w' D' (fun j=>fr[j - e0.nx]?) (qD rs) e0.nx T1:=RepRow.shift _ _ _ 0 e0.nx T1 q2 (fun q _=>by
  show fr[e0.nx+q - e0.nx]? = fr[0+q]?
  rw [Nat.add_sub_cancel_left,Nat.zero_add])
 have hgt:∀ j v,fr[j]? = some v→(fun i=>if e0.nx≤i then fr.getD (i - e0.nx) undef else hs i) (e0.nx+j)=v:=fun j v hj=>by
  simp only [Nat.le_add_right,if_true,Nat.add_sub_cancel_left]
  exact fl_get hj
 have hsl:SlRep w' D' (fun i=>if e0.nx≤i then fr.getD (i - e0.nx) undef else hs i) (e0.nx+(qD rs).length) (entOs (qD rs) e0.nx++e0.ob) (retS rs e0.nx) u:=by
  unfold ResV at q1
  split at q1
  ·rename_i r
   obtain ⟨u1,r1',e3,e4,e5⟩:∃ u1 r1',[u]=u1 :: r1'∧AgRep w' D' (fun i=>if e0.nx≤i then fr.getD (i - e0.nx) undef else hs i) (e0.nx+(qD [r]).length) (entOs (qD [r]) e0.nx++e0.ob) ((entA [r] e0.nx).headD (.agg [])) u1∧r1'=[]:=by
    have:=ent_as (nx:=e0.nx+(qD [r]).length) (ob:=entOs (qD [r]) e0.nx++e0.ob) [r] e0.nx T1 [u] fr _ q1 hxr hrd hgt (Nat.le_refl _)
    cases r with
    | one x=>obtain ⟨u1,r1',w1,w2,w3⟩:=this; exact ⟨u1,r1',w1,w2,w3⟩
    | agg x=>obtain ⟨u1,r1',w1,w2,w3⟩:=this; exact ⟨u1,r1',w1,w2,w3⟩
   injection e3 with e3 _
   subst e3
   cases r <;> exact e4
  ·rename_i hne
   obtain ⟨us,hu,hus⟩:=q1
   have:=ent_as (nx:=e0.nx+(qD rs).length) (ob:=entOs (qD rs) e0.nx++e0.ob) rs e0.nx T1 us fr _ hus hxr hrd hgt (Nat.le_refl _)
   have hshape:retS rs e0.nx=.tup (entA rs e0.nx):=by
    unfold retS
    split
    ·rename_i g hg
     exfalso
     cases rs with
     | nil=>cases hg
     | cons r rs' =>
      cases rs' with
      | nil=>exact hne r rfl
      | cons r2 rs''=>cases r <;> cases r2 <;> simp [entA] at hg
    ·rfl
   rw [hshape]
   exact ⟨us,hu,this⟩
 have d3:=d2.putO z1 hsl
 simp only [List.all_eq_true] at hfin
 have hL:∀ q ∈ fin,∀ k,(flatC (gs++caps.map fun x=>(Ag.one (C.v x):Ag C)))[q.1]? = some k→ownLoc w' (fun i=>if e0.nx≤i then fr.getD (i - e0.nx) undef else hs i) k ((fl1++uc).getD q.1 undef):=fun q hq k hk=>by
  have hql:q.1 < (flatC (gs++caps.map fun x=>(.one (.v x):Ag C))).length:=(List.getElem?_eq_some_iff.1 hk).1
  obtain ⟨x,hx⟩:=f12 q.1 (by rw [Nat.zero_add]; exact hfin q hq) hql
  obtain ⟨uq,g1,g2⟩:=CsRep.get _ _ q.1 k hC hk
  have hloc:=f11 q.1 k uq x hk g1 hx
  have hdead:=deads_at os _ q.1 x k hdeads hx hk
  rw [fl_get g1]
  cases k with
  | ref i p =>
   simp only [Env.deadAt] at hdead
   split at hdead
   case h_2=>cases hdead
   rename_i hnode
   obtain ⟨v,m1,m2⟩:=f2.lnode hnode
   have hi:i < e0.nx:=f2.id i v m1
   obtain ⟨Z1,Z2,y1,y2,y3,_⟩:=f2.ob.focus e0.ob S' i v m1
   have hS'same:TV.sameOn w w' S':=q6.sameOn (dj_comm f3) hS'b
   have hDsame:TV.sameOn w w' D:=q6.sameOn (dj_comm hSD) h.Dl
   have:=y1.loc_keep m2 hDsame (qS hS'same (by rw [y2]; exact sub_l _ _))
   show loc w' (if e0.nx≤i then fr.getD (i - e0.nx) undef else hs i) p=some uq
   rw [if_neg (by omega),this]
   exact hloc
  | _=>trivial
 obtain ⟨S3,d4⟩:=StD.backD fin d3 z2 q3 (dj_cup (dj_comm q4) (r_dj tdj)) (r_dj tdD) (fun b o z=>t0 b o (.inr z)) hL
 exact hnext _ _ ⟨D',_,S3,d4⟩
end
theorem opsV_callD {X:Cfg} {Post:Exit→Env→Prop} {e e':Env} {ops:Array Oper} {o:Oper} {l:List Oper} {cf:Operand} {args:Array Operand} {ts:Array TypeId} {f:Nat} {as rs:List (Ag V)} {fin:List (Nat×V)} {cells:List C} {e1:Env}
  (md:Nat→List Nat) (hf:Fn X f as rs fin) (hg:o.guard=none) (ho:o.op=.call {callee:=.value cf,args:=args,argTypes:=ts}) (h1:evCallD md cf args.toList e=some (f,as,cells,e1))
  (hfin:fin.all (fun q=>(md f).contains q.1)=true) (h2:evRet o rs fin cells e1=some e') (h:opsV X ops l Post e'):opsV X ops (o :: l) Post e:=fun k a w ⟨D,hs,S,hd⟩ =>
 wpList_plain hg (fun K hK=>hd.callD ho h1 hf hfin h2 (fun a w hs'=>hK a w (h k a w hs')))
end Go.TV
namespace Go.TV
theorem callGD {X:Cfg} {Post:Exit→Env→Prop} {e e':Env} {ops:Array Oper} {o:Oper} {l:List Oper} {cf:Operand} {args:Array Operand} {ts:Array TypeId} {f:Nat} {as rs:List (Ag V)} {fin:List (Nat×V)} {cells:List C} {e1:Env} {p:Prop}
  (hH:p) (md:Nat→List Nat) (hf:Fn X f as rs fin) (h:opsV X ops l Post e') (hg:o.guard=none:=by rfl) (ho:o.op=.call {callee:=.value cf,args:=args,argTypes:=ts}:=by rfl)
  (h1:p→evCallD md cf args.toList e=some (f,as,cells,e1):=by
   intro hH
   simp only [hH,evCallD,fillOk,evCall,Env.callee,Env.args,flatC,Env.own1,Env.carve,Env.lend,Env.fill,shape,Env.deadAt,Env.deads,Env.node,Env.rows,Env.val,Env.sc,Env.cl,lk,setO,delO,constS,constC,plain,Env.putO,Env.put,V.get,V.set,V.rowAt,V.setRow,Option.getD_some,List.set_cons_zero,List.set_cons_succ,set_get,List.set_set,V.alive,V.bor,borRow,rK,rB,rS,rL,List.getElem?_map,List.append_nil,↓reduceIte,eq_self,Option.isSome_some,Option.isSome_none,Option.bind_some,Option.bind_none,Option.map_some,Option.map_none,Bool.false_eq_true,Nat.reduceLT,Nat.reduceLeDiff,Nat.reduceEqDiff,Nat.reduceAdd,Nat.reduceMul,Nat.reduceSub,Nat.reduceBEq,List.map_cons,List.map_nil,List.length_cons,List.length_nil,List.cons_append,List.nil_append,List.headD_cons,List.tail_cons,List.contains_nil,List.contains_cons,List.take_zero,List.take_succ_cons,List.drop_zero,List.drop_succ_cons,List.getElem?_cons_zero,List.getElem?_cons_succ,Bool.and_true,Bool.true_and,Bool.or_false,Bool.or_true,and_self,and_true,true_and,← List.map_append,← List.map_take,← List.map_drop] <;> rfl)
  (hfin:p→fin.all (fun q=>(md f).contains q.1)=true:=by intro hH; simp only [List.all_nil,List.all_cons,Bool.and_true,Bool.true_and,Bool.or_false,Bool.or_true,List.contains_cons,List.contains_nil,Nat.reduceBEq,BEq.rfl])
  (h2:p→evRet o rs fin cells e1=some e':=by
   intro hH
   simp only [hH,evRet,retS,entA,entC,entCs,entOs,V.own,qD,Env.back,Env.graft,slMap,Sl.map,Ag.map,C.killN,Env.node,Env.val,Env.sc,Env.cl,lk,setO,delO,constS,constC,plain,Env.putO,Env.put,V.get,V.set,V.rowAt,V.setRow,Option.getD_some,List.set_cons_zero,List.set_cons_succ,set_get,List.set_set,V.alive,rK,rB,rS,rL,List.getElem?_map,List.append_nil,↓reduceIte,eq_self,Option.isSome_some,Option.isSome_none,Option.bind_some,Option.bind_none,Option.map_some,Option.map_none,Bool.false_eq_true,Nat.reduceLT,Nat.reduceLeDiff,Nat.reduceEqDiff,Nat.reduceAdd,Nat.reduceMul,Nat.reduceSub,List.map_cons,List.map_nil,List.length_cons,List.length_nil,List.cons_append,List.nil_append,List.take_zero,List.take_succ_cons,List.drop_zero,List.drop_succ_cons,List.getElem?_cons_zero,List.getElem?_cons_succ,List.set_cons_zero,List.set_cons_succ,Bool.and_true,Bool.true_and,and_self,and_true,true_and] <;> rfl):opsV X ops (o :: l) Post e:=opsV_callD md hf hg ho (h1 hH) (hfin hH) (h2 hH) h
end Go.TV
namespace Go.TV
def C.frz (i:Nat) (x:V):C→C
 | .ref k []=>if k=i then .v x else .ref k []
 | .ref k (s :: p)=>if k=i then .dead else .ref k (s :: p)
 | .part k p n lo hi=>if k=i then .dead else .part k p n lo hi
 | .addr k p n r j=>if k=i then .dead else .addr k p n r j
 | c=>c
def Env.freeze (e:Env) (i:Nat):Option Env:=
 (lk i e.ob).bind fun v=>if v.own=true∧e.np≤i then some {e with ob:=delO i e.ob,sl:=slMap (C.frz i v.bor) e.sl} else none
section
variable {gG:GG} {c:Ctx gG} {e e':Env} {a:Act} {w:World} {D:CS} {hs:Nat→Value} {S:CS} {X:Cfg} {o:Oper}
theorem lk_slMapF (f:C→C) (t:Nat):∀ (sl:List (Nat×Sl)),lk t (slMap f sl)=(lk t sl).map (Sl.map f)
 | []=>rfl
 | (k,s) :: r=>by
  simp only [slMap,lk]
  split
  ·rfl
  ·exact lk_slMapF f t r
theorem CsRep.mapF {f:C→C} {w':World} {D D':CS} {hs':Nat→Value} {nx nx':Nat} {ob ob':List (Nat×V)} (hh:∀ k u,CRep w D hs nx ob k u→CRep w' D' hs' nx' ob' (f k) u):∀ (cs:List C) (us:List Value),
  CsRep w D hs nx ob cs us→CsRep w' D' hs' nx' ob' (cs.map f) us
 | [],_,h=>h
 | k :: cs,us,h=>by
  obtain ⟨u,r,h1,h2,h3⟩:=h
  exact ⟨u,r,h1,hh k u h2,CsRep.mapF hh cs r h3⟩
theorem AgRep.mapF {f:C→C} {w':World} {D D':CS} {hs':Nat→Value} {nx nx':Nat} {ob ob':List (Nat×V)} (hh:∀ k u,CRep w D hs nx ob k u→CRep w' D' hs' nx' ob' (f k) u) {g:Ag C} {u:Value} (h:AgRep w D hs nx ob g u):AgRep w' D' hs' nx' ob' (g.map f) u:=by
 cases g with
 | one k=>exact hh k u h
 | agg ks=>obtain ⟨us,e,h⟩:=h; exact ⟨us,e,CsRep.mapF hh ks us h⟩
theorem AgsRep.mapF {f:C→C} {w':World} {D D':CS} {hs':Nat→Value} {nx nx':Nat} {ob ob':List (Nat×V)} (hh:∀ k u,CRep w D hs nx ob k u→CRep w' D' hs' nx' ob' (f k) u):∀ (gs:List (Ag C)) (us:List Value),
  AgsRep w D hs nx ob gs us→AgsRep w' D' hs' nx' ob' (gs.map (Ag.map f)) us
 | [],_,h=>h
 | g :: gs,us,h=>by
  obtain ⟨u,r,e,h2,h3⟩:=h
  exact ⟨u,r,e,AgRep.mapF hh h2,AgsRep.mapF hh gs r h3⟩
theorem SlRep.mapF {f:C→C} {w':World} {D D':CS} {hs':Nat→Value} {nx nx':Nat} {ob ob':List (Nat×V)} (hh:∀ k u,CRep w D hs nx ob k u→CRep w' D' hs' nx' ob' (f k) u) {s:Sl} {u:Value} (h:SlRep w D hs nx ob s u):SlRep w' D' hs' nx' ob' (s.map f) u:=by
 cases s with
 | pl g=>exact AgRep.mapF hh h
 | tup gs=>obtain ⟨us,e,h⟩:=h; exact ⟨us,e,AgsRep.mapF hh gs us h⟩
theorem V.own_alive {v:V} (h:v.own=true):v.alive=true:=by cases v <;> simp [V.own,V.alive] at h ⊢
theorem StD.freeze (h:StD c e a w D hs S) {i:Nat} (he:e.freeze i=some e'):St c e' a w:=by
 obtain ⟨v,h1,h2⟩:=zbi he
 split at h2
 case isFalse=>cases h2
 rename_i hv
 injection h2 with h2
 subst h2
 obtain ⟨S1,G,g1,g2,g3,g4,_⟩:=h.ob.focus e.ob S i v h1
 have hu:CRep w D hs e.nx e.ob (.ref i []) (hs i):=⟨h.id i v h1,fun v' x q1 q2=>⟨hs i,rfl,by
  rw [h1] at q1
  injection q1 with q1
  subst q1
  exact own_hdr g1 hv.1,rfl⟩⟩
 have ht:e.take (.ref i [])=some (v,{e with ob:=delO i e.ob}):=by simp only [Env.take,h1,Option.map_some]
 obtain ⟨T1,S',f1,f2,f3,f4,f5,f6,f7,f8⟩:=h.take ht hu
 have hb:∀ b o,T1 b o→b < w.heap.size:=fun b o q=>h.ob.blt b o (f4 b o q)
 have hl:=Rep.lent v (hs i) T1 f1 (D2:=cup D T1) (sub_l _ _) (sub_r _ _) (V.own_alive hv.1)
 have d1:=f2.growD (D':=cup D T1) (sub_l _ _) (dj_cup f2.dj (dj_comm f3)) (fun b o q=>q.elim (h.Dl b o) (hb b o)) (fun b o q=>q.elim (h.Ds b o) (fun q=>(h.Ss b o (f4 b o q)).elim (fun z=>.inr (.inl z)) (fun z=>.inr (.inr z))))
 refine ⟨_,hs,S',{d1 with sl:=fun t s q=>?_}⟩
 have q:lk t (slMap (C.frz i v.bor) e.sl)=some s:=q
 rw [lk_slMapF,Option.map_eq_some_iff] at q
 obtain ⟨s0,q1,rfl⟩:=q
 refine SlRep.mapF (fun k u hk=>?_) (h.sl t s0 q1)
 have key:CRep w (cup D T1) hs e.nx (delO i e.ob) k u:=CRep.growD (sub_l _ _) (f8.2 k u hk)
 cases k with
 | ref m p =>
  cases p with
  | nil =>
   simp only [C.frz]
   split
   ·rename_i q
    subst q
    obtain ⟨_,hp⟩:=hk
    obtain ⟨u1,e1,_,e2⟩:=hp v v h1 rfl
    injection e1 with e1
    rw [← e2,← e1]
    exact hl
   ·exact key
  | cons s p =>
   simp only [C.frz]
   split
   ·trivial
   ·exact key
 | part m p n lo hi =>
  simp only [C.frz]
  split
  ·trivial
  ·exact key
 | addr m p n r j =>
  simp only [C.frz]
  split
  ·trivial
  ·exact key
 | v x=>exact key
 | ba row=>exact key
 | dead=>trivial
def vsOf:List C→Option (List V)
 | []=>some []
 | .v x :: cs=>(vsOf cs).map fun xs=>x :: xs
 | _ :: _=>none
def Env.cls (e:Env):List Operand→Option (List C)
 | []=>some []
 | x :: xs=>(e.cl x).bind fun k=>(e.cls xs).map fun ks=>k :: ks
def evMkF (o:Oper) (f:Nat) (caps:List Operand) (e:Env):Option Env:=
 (e.cls caps).bind fun cs=>(vsOf cs).bind fun xs=>e.putO o.dst (.pl (.one (.v (.fn f xs))))
theorem StD.caps (h:StD c e a w D hs S):∀ (caps:List Operand) (cs:List C) (xs:List V) (k:Nat) (rd:Nat→Option Value),e.cls caps=some cs→vsOf cs=some xs→(∀ j u,(caps.map a.eval)[j]? = some u→rd (k+j)=some u)→xs.length=caps.length∧RepRow w D rd xs k emp
 | [],cs,xs,k,rd,h1,h2,_=>by
  injection h1 with h1
  subst h1
  injection h2 with h2
  subst h2
  exact ⟨rfl,rfl⟩
 | x :: caps,cs,xs,k,rd,h1,h2,hr=>by
  obtain ⟨q,h3,h1⟩:=zbi h1
  obtain ⟨ks,h4,rfl⟩:=Option.map_eq_some_iff.1 h1
  cases q with
  | v y =>
   obtain ⟨ys,h5,rfl⟩:=Option.map_eq_some_iff.1 h2
   obtain ⟨g1,g2⟩:=StD.caps h caps ks ys (k+1) rd h4 h5 (fun j u hj=>by
    have:=hr (j+1) u (by simpa using hj)
    rwa [show k+(j+1)=k+1+j by omega] at this)
   have hv:Rep w D y (a.eval x) emp:=h.cl h3
   exact ⟨by simp [g1],a.eval x,emp,emp,by have:=hr 0 (a.eval x) rfl; simpa using this,hv,g2,emp_dj _,cup_emp_emp.symm⟩
  | _=>cases h2
theorem evMkF_ok {f:Nat} {caps:Array Operand} (ho:o.op=.makeFunc (.func f) #[] caps) (he:evMkF o f caps.toList e=some e'):Does X o e e':=fun k a w ⟨D,hs,S,h⟩=>by
 obtain ⟨cs,h1,he⟩:=zbi he
 obtain ⟨xs,h2,h3⟩:=zbi he
 obtain ⟨g1,g2⟩:=h.caps caps.toList cs xs 0 (fun j=>(caps.map a.eval)[j]?) h1 h2 (fun j u hj=>by
  rw [Nat.zero_add,← Array.getElem?_toList,Array.toList_map]
  exact hj)
 refine h.did (u:=.func (.func f) #[] (caps.map a.eval)) ?_ h3 ⟨caps.map a.eval,rfl,by simp [g1],g2,rfl⟩
 simp [execOp,ho,Instr.makeFunc]
end
theorem opsV_mkF {X:Cfg} {Post:Exit→Env→Prop} {e e':Env} {ops:Array Oper} {o:Oper} {l:List Oper} {f:Nat} {caps:Array Operand} {p:Prop} (hH:p) (h:opsV X ops l Post e') (hg:o.guard=none:=by rfl) (ho:o.op=.makeFunc (.func f) #[] caps:=by rfl)
  (he:p→evMkF o f caps.toList e=some e':=by
   intro hH
   simp only [hH,evMkF,Env.cls,vsOf,Env.cl,Env.val,lk,Env.putO,Env.put,Option.bind_some,Option.map_some,reduceIte,Nat.reduceEqDiff,Nat.reduceLT] <;> rfl):opsV X ops (o :: l) Post e:=opsV_op hg (evMkF_ok ho (he hH)) h
theorem opsV_frz {X:Cfg} {Post:Exit→Env→Prop} {e e':Env} {ops:Array Oper} {l:List Oper} {p:Prop} (hH:p) (i:Nat) (h:opsV X ops l Post e')
  (he:p→e.freeze i=some e':=by
   intro hH
   simp only [hH,Env.freeze,lk,delO,V.own,V.bor,borRow,rK,rB,rS,rL,slMap,Sl.map,Ag.map,C.frz,List.map_cons,List.map_nil,Option.bind_some,reduceIte,Nat.reduceEqDiff,Nat.reduceLeDiff,and_self,true_and,and_true] <;> rfl):opsV X ops l Post e:=fun k a w hs=>by
 obtain ⟨D,hs',S,hd⟩:=hs
 exact h k a w (hd.freeze (he hH))
theorem wpV_frz {X:Cfg} {Post:Exit→Env→Prop} {e e':Env} {cd:Code} {p:Prop} (hH:p) (i:Nat) (h:wpV X cd Post e')
  (he:p→e.freeze i=some e':=by
   intro hH
   simp only [hH,Env.freeze,lk,delO,V.own,V.bor,borRow,rK,rB,rS,rL,slMap,Sl.map,Ag.map,C.frz,List.map_cons,List.map_nil,Option.bind_some,reduceIte,Nat.reduceEqDiff,Nat.reduceLeDiff,and_self,true_and,and_true] <;> rfl):wpV X cd Post e:=fun k a w hs=>by
 obtain ⟨D,hs',S,hd⟩:=hs
 exact h k a w (hd.freeze (he hH))
end Go.TV
namespace Go.TV
theorem nil_any {w:World} {D:CS} {u:Value} (h:Rep w D (.list true 1 []) u emp) (o:Bool) (n:Nat):Rep w D (.list o n []) u emp:=by
 rcases h with ⟨_,q,_⟩ | ⟨b,of,cap,S1,hu,hc,hr,ho,hj,hS⟩
 ·obtain rfl:=nilish_own q
  exact .inl ⟨rfl,.inl rfl,rfl⟩
 ·have h1:=emp_l hS
  have h0:cap=0:=by
   rcases Nat.eq_zero_or_pos cap with q | q
   ·exact q
   ·have:rng b of (cap * 1) b of:=⟨rfl,Nat.le_refl _,by omega⟩
    rw [h1] at this
    exact this.elim
  subst h0
  cases o with
  | false=>exact .inl ⟨rfl,.inr ⟨rfl,_,hu⟩,rfl⟩
  | true=>exact .inr ⟨b,of,0,emp,hu,Nat.le_refl _,rfl,fun k hk=>by omega,dj_emp _,by
    rw [cup_emp]
    exact cs_ext fun x y=>⟨fun q=>q.elim,fun ⟨_,q1,q2⟩=>by omega⟩⟩
section
variable {gG:GG} {c:Ctx gG} {e e':Env} {a:Act} {w:World} {D:CS} {hs:Nat→Value} {S:CS} {X:Cfg} {o:Oper}
def isNil (e:Env) (x:Operand):Bool:=match e.val x with | some (.pl (.one (.v (.list true 1 []))))=>true | _=>false
theorem StD.nilRep (h:StD c e a w D hs S) {x:Operand} (hx:isNil e x=true):Rep w D (.list true 1 []) (a.eval x) emp:=by
 unfold isNil at hx
 split at hx
 ·rename_i q
  exact h.val q
 ·cases hx
def evAssignN (n:Nat) (o:Oper) (x:Operand) (e:Env):Option Env:=
 if isNil e x=true then ({e with nx:=e.nx+1,ob:=(e.nx,.list true n []) :: e.ob}:Env).putO o.dst (.pl (.one (.ref e.nx []))) else none
theorem evAssignN_ok {n:Nat} {x:Operand} (ho:o.op=.assign x) (he:evAssignN n o x e=some e'):Does X o e e':=fun k a w ⟨D,hs,S,h⟩=>by
 unfold evAssignN at he
 split at he
 case isFalse=>cases he
 rename_i hx
 have hr:(execOp a.eval o).run X.P w=.ok (.value (a.eval x)) w:=by simp [execOp,ho]
 have hv':Rep w D (.list true n []) (a.eval x) emp:=nil_any (h.nilRep hx) true n
 have h':=h.obj hv' (emp_dj S) (emp_dj D) (fun _ _ q=>q.elim)
 refine ⟨a.eval x,w,.inl hr,D,_,_,h'.putO he ⟨Nat.lt_succ_self _,fun v y hv hy=>?_⟩⟩
 simp only [lk_cons,if_true] at hv
 injection hv with hv
 subst hv
 exact ⟨_,rfl,by simp only [if_true]; exact own_hdr hv' rfl,by simp⟩
end
theorem opsV_nilA {X:Cfg} {Post:Exit→Env→Prop} {e e':Env} {ops:Array Oper} {o:Oper} {l:List Oper} {x:Operand} {p:Prop} (hH:p) (n:Nat) (h:opsV X ops l Post e') (hg:o.guard=none:=by rfl) (ho:o.op=.assign x:=by rfl)
  (he:evAssignN n o x e=some e':=by
   simp only [evAssignN,isNil,Env.val,constS,constC,lk,Env.putO,Env.put,Option.map_some,reduceIte,Nat.reduceEqDiff,Nat.reduceLT] <;> rfl):opsV X ops (o :: l) Post e:=opsV_op hg (evAssignN_ok ho he) h
end Go.TV
namespace Go.TV
section
variable {gG:GG} {c:Ctx gG} {e e':Env} {a:Act} {w:World} {D:CS} {hs:Nat→Value} {S:CS} {X:Cfg} {o:Oper}
theorem Own.sub {w:World} {b o n o' n':Nat} (h:Own w b o n) (h1:o≤o') (h2:o'+n'≤o+n):Own w b o' n':=fun k hk=>by
 have:=h (o' - o+k) (by omega)
 rw [show o+(o' - o+k)=o'+k by omega] at this
 exact this
end
theorem outC {X:Cfg} {res:List ResultVar} {rs rs':List (Ag V)} {fin fin':List (Nat×V)} {e:Env} {p:Prop} (hH:p) (he:rs'=rs) (hf:fin'=fin) (h:p→(evRes X.T res e).map (fun q=>(q.1,q.2.fin))=some (rs',fin'):=by
 intro hH
 simp only [hH,evRes,Env.res1,Env.fin,List.filter_cons,List.filter_nil,decide_true,decide_false,evMove,evAssign,evPick,evBin,evUn,evExtract,Env.sure,evNil,evFieldAddr,evLoad,Env.int,Env.node,evIndexAddr,evIndex,evField,Env.bound,Env.cut,evSlice,V.alive,Env.takes,evAlloc,Ag.cells,evBox,Env.newListO,evMake,over,Env.solid,Env.solidG,Env.parts,Ty.places,evBuild,Env.rowsOf,chunk,evBuildSlice,Env.rows,isU8B,evLen,evMinMax,V.isSc,C.killN,Ag.map,Sl.map,slMap,Env.place,Env.lay,evStore,C.killA,scR_nil,scR_cons,alR_nil,alR_cons,Env.src,Env.newAt,evAppend,Env.take,V.get,V.set,V.rowAt,V.setRow,Option.getD_some,List.set_cons_zero,List.set_cons_succ,set_get,List.set_set,cellOf,cellsOf,Env.behind,Env.val,Env.sc,Env.cl,lk,setO,delO,constS,constC,plain,Env.putO,Env.put,tyBool,binV,unV,rK,rB,rS,rL,wk_fold,bI_add,bI_sub,bI_mul,bI_quo,bI_rem,bI_and,bI_or,bI_xor,bI_andNot,bI_eql,bI_neq,bI_lss,bI_leq,bI_gtr,bI_geq,bI_shl,bI_shr,bS_add,bS_eql,bS_neq,bS_lss,bS_leq,bS_gtr,bS_geq,bytesOf_rK,bytesL_rK,
      ↓reduceIte,eq_self,Option.isSome_some,Option.isSome_none,Option.bind_some,Option.bind_none,Option.map_some,Option.map_none,Bool.false_eq_true,Nat.reduceLT,Nat.reduceLeDiff,Nat.reduceEqDiff,Nat.reduceAdd,Nat.reduceMul,Nat.reduceSub,Int.reduceLT,Int.reduceEq,Int.reduceNeg,List.length_map,List.length_cons,List.length_nil,List.length_append,List.getElem?_map,List.map_cons,List.map_nil,true_or,or_true,or_false,false_or,and_true,true_and,and_self,not_true,not_false_eq_true,reduceCtorEq,List.all_cons,List.all_nil,Bool.and_true,Bool.true_and,ne_eq,List.drop_zero,List.nil_append,List.append_nil,List.singleton_append,List.cons_append,List.flatMap_cons,List.flatMap_nil,List.flatten_cons,List.flatten_nil,List.mapM_cons,List.mapM_nil,Option.pure_def,Option.bind_eq_bind,List.take_zero,List.take_succ_cons,List.drop_succ_cons,List.getElem?_cons_zero,List.getElem?_cons_succ,List.set_cons_zero,List.set_cons_succ,List.headD_cons,List.take_nil,List.drop_nil,Nat.sub_zero,Nat.add_zero,Nat.zero_add,Nat.zero_le,Nat.le_refl,← List.map_append,← List.map_take,← List.map_drop] <;> rfl):RetL X res rs fin .ret e:=.of (.inl rfl) (by rw [h hH,he,hf])
theorem outN {X:Cfg} {res:List ResultVar} {rs rs':List (Ag V)} {fin fin':List (Nat×V)} {e:Env} {p:Prop} (hH:p) (he:rs'=rs) (hf:fin'=fin) (h:p→(evRes X.T res e).map (fun q=>(q.1,q.2.fin))=some (rs',fin'):=by
 intro hH
 simp only [hH,evRes,Env.res1,Env.fin,List.filter_cons,List.filter_nil,decide_true,decide_false,evMove,evAssign,evPick,evBin,evUn,evExtract,Env.sure,evNil,evFieldAddr,evLoad,Env.int,Env.node,evIndexAddr,evIndex,evField,Env.bound,Env.cut,evSlice,V.alive,Env.takes,evAlloc,Ag.cells,evBox,Env.newListO,evMake,over,Env.solid,Env.solidG,Env.parts,Ty.places,evBuild,Env.rowsOf,chunk,evBuildSlice,Env.rows,isU8B,evLen,evMinMax,V.isSc,C.killN,Ag.map,Sl.map,slMap,Env.place,Env.lay,evStore,C.killA,scR_nil,scR_cons,alR_nil,alR_cons,Env.src,Env.newAt,evAppend,Env.take,V.get,V.set,V.rowAt,V.setRow,Option.getD_some,List.set_cons_zero,List.set_cons_succ,set_get,List.set_set,cellOf,cellsOf,Env.behind,Env.val,Env.sc,Env.cl,lk,setO,delO,constS,constC,plain,Env.putO,Env.put,tyBool,binV,unV,rK,rB,rS,rL,wk_fold,bI_add,bI_sub,bI_mul,bI_quo,bI_rem,bI_and,bI_or,bI_xor,bI_andNot,bI_eql,bI_neq,bI_lss,bI_leq,bI_gtr,bI_geq,bI_shl,bI_shr,bS_add,bS_eql,bS_neq,bS_lss,bS_leq,bS_gtr,bS_geq,bytesOf_rK,bytesL_rK,
      ↓reduceIte,eq_self,Option.isSome_some,Option.isSome_none,Option.bind_some,Option.bind_none,Option.map_some,Option.map_none,Bool.false_eq_true,Nat.reduceLT,Nat.reduceLeDiff,Nat.reduceEqDiff,Nat.reduceAdd,Nat.reduceMul,Nat.reduceSub,Int.reduceLT,Int.reduceEq,Int.reduceNeg,List.length_map,List.length_cons,List.length_nil,List.length_append,List.getElem?_map,List.map_cons,List.map_nil,true_or,or_true,or_false,false_or,and_true,true_and,and_self,not_true,not_false_eq_true,reduceCtorEq,List.all_cons,List.all_nil,Bool.and_true,Bool.true_and,ne_eq,List.drop_zero,List.nil_append,List.append_nil,List.singleton_append,List.cons_append,List.flatMap_cons,List.flatMap_nil,List.flatten_cons,List.flatten_nil,List.mapM_cons,List.mapM_nil,Option.pure_def,Option.bind_eq_bind,List.take_zero,List.take_succ_cons,List.drop_succ_cons,List.getElem?_cons_zero,List.getElem?_cons_succ,List.set_cons_zero,List.set_cons_succ,List.headD_cons,List.take_nil,List.drop_nil,Nat.sub_zero,Nat.add_zero,Nat.zero_add,Nat.zero_le,Nat.le_refl,← List.map_append,← List.map_take,← List.map_drop] <;> rfl):RetL X res rs fin .normal e:=.of (.inr rfl) (by rw [h hH,he,hf])
end Go.TV
namespace Go.TV
section
variable {gG:GG} {c:Ctx gG} {e e':Env} {a:Act} {w:World} {D:CS} {hs:Nat→Value} {S:CS} {X:Cfg} {o:Oper}
end
end Go.TV
namespace Go.TV
def anyV (X:Cfg) (ops:Array Oper) (fuel:Nat) (listed:Array Bool) (Post:Exit→Env→Prop) (e:Env):Prop:=
 ∀ (k:Ctx X.G) (a:Act) (w:World),St k e a w→wpAny X.P .any ops (fun x a' w'=>x=.normal∧∃ e',Post .normal e'∧St k e' a' w') fuel listed a w
theorem regAny {X:Cfg} {Post:Exit→Env→Prop} {e:Env} {id:Nat} {l:List Oper} (h:anyV X l.toArray l.length (Array.replicate l.length false) Post e):wpV X (.region id l.toArray true) Post e:=fun k a w hs=>by
 have hs2:St k e a {w with drawn:=w.drawn+1}:=hs.grow (frm_drawn w _)
 have:=h k a _ hs2
 refine Code.wp_mono (Q:=fun x a' w'=>x=.normal∧∃ e',Post .normal e'∧St k e' a' w') ?_ (wp_region_any X.mx (by simpa using this))
 rintro x a' w' ⟨rfl,z⟩
 exact z
theorem Oper.wp_normal {P:Program} {o:Oper} {a:Act} {w:World} {K K':Act→World→Prop} {Q Q':Exit→Act→World→Prop} (hQ:∀ x a w,Q x a w→x=.normal) (h:∀ a w,K a w→K' a w) (hh:o.wp P a w K Q):o.wp P a w K' Q':=by
 unfold Oper.wp at *
 generalize (execOp a.eval o).run P w=r at *
 cases r with
 | ok n w' =>
  cases n <;> simp only [Oper.upon] at hh ⊢ <;>
   first
    | exact h _ _ hh
    | exact Calls.mono hh (fun e w'' he=>by cases e <;> first | exact h _ _ he | exact nomatch (hQ _ _ _ he) | exact nomatch (hQ _ _ _ he.choose_spec.choose_spec))
    | exact Rows.mono hh (fun _ _ he=>h _ _ he)
 | halt x w'=>cases x <;> simp only [Oper.upon] at hh ⊢ <;> first | exact hh | exact nomatch (hQ _ _ _ hh) | exact nomatch (hQ _ _ _ hh.choose_spec.choose_spec)
def evP (T:Nat→Option TyI) (o:Oper) (e:Env):Option Env:=
 match o.op with
 | .move x=>evMove o x e
 | .pick c x y=>evPick o c x y e
 | .binOp op t x y _=>evBin T o op t x y e
 | .unOp op _ x=>evUn o op x e
 | .extract x i=>evExtract o x i e
 | .nilCheck x=>evNil o x e
 | .fieldAddr t x f=>evFieldAddr T o t x f e
 | .indexAddr t x i=>evIndexAddr T o t x i e
 | .index t x i=>evIndex T o t x i e
 | .field t x f=>evField T o t x f e
 | .convert s d x=>evConvQ T o s d x e
 | .call {callee:=.builtin b,args:=as,argTypes:=ts}=>match b,as.toList,ts.toList with
  | .len,[x],[t]=>evLen T o t x e
  | _,_,_=>none
 | _=>none
section
variable {gG:GG} {c:Ctx gG} {e e':Env} {a:Act} {w:World} {D:CS} {hs:Nat→Value} {S:CS} {X:Cfg} {o:Oper}
theorem evConv_pure (h:StD c e a w D hs S) {src dst:Nat} {x:Operand} (ho:o.op=.convert src dst x) (he:evConvQ X.T o src dst x e=some e'):DidP X.P c o a w e':=by
 obtain ⟨s,h1,h2⟩:=zbi he
 obtain ⟨d,h3,h2⟩:=zbi h2
 have hsrc:=X.hT _ _ h1
 have hdst:=X.hT _ _ h3
 split at h2
 ·rename_i k1 k2 hk1 hk2
  obtain ⟨n,h4,h5⟩:=zbi h2
  obtain ⟨kz,hz⟩:=h.int h4
  refine h.didP (fun w=>?_) h5 (sc_rep rfl)
  have e1:=run_underlying (run_und_int hsrc hk1) w
  have e2:=run_underlying (run_und_int hdst hk2) w
  simp [execOp,ho,hz,convert,e1,e2,Conv.intToInt]
 ·rename_i hk1 hk2
  obtain ⟨v,h4,h5⟩:=zbi h2
  split at h5
  ·rename_i v
   have hx:=(h.sc h4).1
   refine h.didP (fun w=>?_) h5 (sc_rep rfl)
   have e1:=run_underlying (qY hsrc hk1) w
   have e2:=run_underlying (qY hdst hk2) w
   simp [execOp,ho,hx,convert,e1,e2]
  ·cases h5
 ·cases h2
theorem evP_ok (h:StD c e a w D hs S) (he:evP X.T o e=some e'):DidP X.P c o a w e':=by
 unfold evP at he
 split at he
 ·exact evMove_pure h ‹_› he
 ·exact evPick_pure h ‹_› he
 ·exact evBin_pure h ‹_› he
 ·exact evUn_pure h ‹_› he
 ·exact evExtract_pure h ‹_› he
 ·exact evNil_pure h ‹_› he
 ·exact evFieldAddr_pure h ‹_› he
 ·exact evIndexAddr_pure h ‹_› he
 ·exact evIndex_pure h ‹_› he
 ·exact evField_pure h ‹_› he
 ·exact evConv_pure h ‹_› he
 ·rename_i b as ts ho
  split at he
  ·rename_i x t h1 h2
   rw [show as = #[x] from Array.ext' h1,show ts = #[t] from Array.ext' h2] at ho
   exact evLen_pure h ho he
  ·cases he
 ·cases he
end
theorem contN {next goal:Prop} (hn:next) (h:next→goal:=by
 intro hn
 try simp only [seqV_normal,seqV_ret,seqV_exit,thenV,blockV,reduceIte,Nat.reduceEqDiff]
 exact hn):goal:=h hn
theorem wpV_J {X:Cfg} {Post:Exit→Env→Prop} {e:Env} {c:Code} (J:Env→Prop) (h1:wpV X c (fun x e'=>x=.normal∧Shd J e') e) (h2:∀ e',J e'→Post .normal e'):wpV X c Post e:=fun k a w hs=>by
 refine Code.wp_mono ?_ (h1 k a w hs)
 rintro x a' w' ⟨e',⟨rfl,hJ⟩,hst⟩
 obtain ⟨e2,h6,h7⟩:=hJ.st hst
 exact ⟨e2,h2 e2 h6,h7⟩
end Go.TV
namespace Go.TV
theorem appz_f {α:Type} (r:α→List V) {s t:List α} (h:appn [] s=some t):((s.length≤549755813888)=True)∧([]++List.map r s=List.map r t):=by
 unfold appn at h
 split at h
 ·rename_i q
  injection h with h
  simp only [List.length_nil,Nat.zero_add] at q
  exact ⟨eq_true q,by rw [← h]; rfl⟩
 ·cases h
theorem run_nilEq {P:Program} {w:World} {t el:Nat} {A:Option Addr} {len cap:Nat} {o1 o2:Operand} (hu:P.underlying t=some (.slice el)) :
  (do eqGuard .eql t o1 o2 (.slice A len cap) (.slice none 0 0); binOp .eql t (.slice A len cap) (.slice none 0 0):Sem Value).run P w=.ok (.bool A.isNone) w:=by
 have hg:eqGuard .eql t o1 o2 (.slice A len cap) (.slice none 0 0)=pure ():=by simp [eqGuard]
 have hu:=run_underlying hu w
 have he:(Op.equal t (.slice A len cap) (.slice none 0 0)).run P w=.ok A.isNone w:=by
  unfold Op.equal
  show (Op.equalIn (9999+1) t (.slice A len cap) (.slice none 0 0)).run P w=_
  rw [Op.equalIn]
  cases A <;> simp [hu]
 rw [hg]
 show ((do pure (Value.bool (← Op.equal t (.slice A len cap) (.slice none 0 0))):Sem Value)).run P w=_
 simp [he]
theorem opsV_nilEq {X:Cfg} {Post:Exit→Env→Prop} {e:Env} {ops:Array Oper} {o:Oper} {l:List Oper} {t el t':Nat} {d:TyI} {x:Operand} {own:Bool} {m:Nat} {rows:List (List V)} {E:Bool→Env} {p:Prop} (hH:p)
  (h:∀ b:Bool,(b=true→rows=[])→opsV X ops l Post (E b)) (hg:o.guard=none:=by rfl) (ho:o.op=.binOp .eql t x (.const (.slice none 0 0)) t':=by rfl)
  (hx:p→e.cl x=some (.v (.list own m rows)):=by intro hH; simp only [hH,Env.cl,Env.val,lk,Option.bind_some,reduceIte,Nat.reduceEqDiff] <;> rfl)
  (hT:p→X.T t=some d:=by intro hH; simp only [hH] <;> rfl) (hk:d.kd=.slice el:=by rfl)
  (he:∀ b,e.putO o.dst (.pl (.one (.v (.sc (.bool b)))))=some (E b):=by
   intro b
   simp only [Env.putO,Env.put,reduceIte,Nat.reduceLT] <;> rfl):opsV X ops (o :: l) Post e:=fun k a w ⟨D,hs,S,hd⟩=>by
 have hv:Rep w D (.list own m rows) (a.eval x) emp:=hd.cl (hx hH)
 obtain ⟨A,len,cap,hA,hrows⟩:∃ A len cap,a.eval x=.slice A len cap∧(A.isNone=true→rows=[]):=by
  rcases hv with ⟨h1,h2,_⟩ | ⟨b,of,cap,S1,hu,_⟩
  ·obtain ⟨a',h2⟩:=nilish_len h2
   exact ⟨_,_,_,h2,fun _=>h1⟩
  ·exact ⟨_,_,_,hu,fun z=>by cases z⟩
 have hr:=run_nilEq (P:=X.P) (w:=w) (A:=A) (len:=len) (cap:=cap) (o1:=x) (o2:=.const (.slice none 0 0)) (jF (X.hT _ _ (hT hH)) hk)
 have hdo:Did X.P k o a w (E A.isNone):=by
  refine hd.did (u:=.bool A.isNone) ?_ (he A.isNone) (sc_rep rfl)
  have e2:a.eval (.const (.slice none 0 0))=.slice none 0 0:=rfl
  have:execOp a.eval o=(do pure (.value (← (do eqGuard .eql t x (.const (.slice none 0 0)) (a.eval x) (a.eval (.const (.slice none 0 0))); binOp .eql t (a.eval x) (a.eval (.const (.slice none 0 0))):Sem Value)))):=by simp only [execOp,ho]
  rw [this,hA,e2,Sem.run_bind,hr]
  rfl
 exact wpList_plain hg (fun K hK=>hdo.upon (fun a w hs'=>hK a w (h A.isNone hrows k a w hs')))
end Go.TV
namespace Go.TV
section
variable {gG:GG} {c:Ctx gG} {e e':Env} {a:Act} {w:World} {D:CS} {hs:Nat→Value} {S:CS} {X:Cfg} {o:Oper}
end
end Go.TV
namespace Go.TV
section
variable {gG:GG} {c:Ctx gG} {e e':Env} {a:Act} {w:World} {D:CS} {hs:Nat→Value} {S:CS} {X:Cfg} {o:Oper}
end
end Go.TV
namespace Go.TV
def stabC:C→Bool
 | .v _ | .ba _ | .dead=>true
 | _=>false
def stabA:Ag C→Bool
 | .one c=>stabC c
 | .agg cs=>cs.all stabC
def stab:Sl→Bool
 | .pl g=>stabA g
 | .tup gs=>gs.all stabA
section
variable {w w':World} {D D':CS} {hs hs':Nat→Value} {nx nx':Nat} {ob ob':List (Nat×V)}
theorem CRep.stab (hD:sub D D') (hd:sameOn w w' D) {c:C} {u:Value} (hc:stabC c=true) (h:CRep w D hs nx ob c u):CRep w' D' hs' nx' ob' c u:=by
 cases c with
 | v x=>exact Rep.keep h hD hd (fun _ _ q=>q.elim)
 | ba row =>
  obtain ⟨b,o,h1,h2,h3⟩:=h
  exact ⟨b,o,h1,RepRow.frame hD hd row _ _ 0 emp h2 (fun _ _ q=>q.elim) (fun j _ hj=>(hd b (o+j) (h3 b (o+j) ⟨rfl,by omega,by omega⟩)).1),qZ h3 hD⟩
 | dead=>trivial
 | _=>cases hc
theorem CsRep.stab (hD:sub D D') (hd:sameOn w w' D):∀ (cs:List C) (us:List Value),cs.all stabC=true→CsRep w D hs nx ob cs us→CsRep w' D' hs' nx' ob' cs us
 | [],_,_,h=>h
 | c :: cs,us,hc,h=>by
  obtain ⟨u,r,h1,h2,h3⟩:=h
  simp only [List.all_cons,Bool.and_eq_true] at hc
  exact ⟨u,r,h1,h2.stab hD hd hc.1,CsRep.stab hD hd cs r hc.2 h3⟩
theorem AgRep.stab (hD:sub D D') (hd:sameOn w w' D) {a:Ag C} {u:Value} (hc:stabA a=true) (h:AgRep w D hs nx ob a u):AgRep w' D' hs' nx' ob' a u:=by
 cases a with
 | one c=>exact CRep.stab hD hd hc h
 | agg cs =>
  obtain ⟨us,h1,h2⟩:=h
  exact ⟨us,h1,CsRep.stab hD hd cs us hc h2⟩
theorem AgsRep.stab (hD:sub D D') (hd:sameOn w w' D):∀ (cs:List (Ag C)) (us:List Value),cs.all stabA=true→AgsRep w D hs nx ob cs us→AgsRep w' D' hs' nx' ob' cs us
 | [],_,_,h=>h
 | c :: cs,us,hc,h=>by
  obtain ⟨u,r,h1,h2,h3⟩:=h
  simp only [List.all_cons,Bool.and_eq_true] at hc
  exact ⟨u,r,h1,h2.stab hD hd hc.1,AgsRep.stab hD hd cs r hc.2 h3⟩
theorem SlRep.stab (hD:sub D D') (hd:sameOn w w' D) {s:Sl} {u:Value} (hc:stab s=true) (h:SlRep w D hs nx ob s u):SlRep w' D' hs' nx' ob' s u:=by
 cases s with
 | pl g=>exact AgRep.stab hD hd hc h
 | tup gs =>
  obtain ⟨us,h1,h2⟩:=h
  exact ⟨us,h1,AgsRep.stab hD hd gs us hc h2⟩
end
theorem Oper.upon_put {P:Program} {o:Oper} {a:Act} {K:Act→World→Prop} {Q:Exit→Act→World→Prop} {r:Result Next} (hh:o.upon P a K Q r) :
  o.upon P a (fun a' w'=>K a' w'∧∃ u,a'.tmps=(a.put o.dst u).tmps) Q r:=by
 cases r with
 | ok n w' =>
  cases n <;> simp only [Oper.upon] at hh ⊢ <;>
   first
    | exact ⟨hh,_,rfl⟩
    | exact ⟨hh,undef,by cases o.dst <;> rfl⟩
    | exact Calls.mono hh (fun e w'' he=>by cases e <;> first | exact ⟨he,_,rfl⟩ | exact he)
    | exact Rows.mono hh (fun _ _ he=>⟨he,_,rfl⟩)
 | halt x w'=>cases x <;> simp only [Oper.upon] at hh ⊢ <;> exact hh
structure Aft (D:CS) (w w':World) (D':CS) (a a':Act) (dst:Option Nat):Prop where
 hD:sub D D'
 hd:sameOn w w' D
 p:∃ u,a'.tmps=(a.put dst u).tmps
theorem StD.self {gG:GG} {c:Ctx gG} {e:Env} {a:Act} {w:World} {D:CS} {hs:Nat→Value} {S:CS} (h:StD c e a w D hs S):StD (⟨w,S,D,hs⟩:Ctx gG) e a w D hs S where
 ob:=h.ob
 sl:=h.sl
 sz:=h.sz
 df:=h.df
 dj:=h.dj
 Dl:=h.Dl
 id:=h.id
 npx:=h.npx
 hp:=fun _ _=>rfl
 fr:=Frm.refl w S
 Ss:=fun _ _ q=>.inl q
 D0:=qA D
 gl:=h.glo
 Ds:=fun _ _ q=>.inl q
theorem StD.ret {gG:GG} {c:Ctx gG} {e e':Env} {a a':Act} {w w':World} {D D':CS} {hs hs':Nat→Value} {S S':CS} (h:StD c e a w D hs S) (h':StD (⟨w,S,D,hs⟩:Ctx gG) e' a' w' D' hs' S') (hn:e'.np=e.np):StD c e' a' w' D' hs' S' where
 ob:=h'.ob
 sl:=h'.sl
 sz:=h'.sz
 df:=h'.df
 dj:=h'.dj
 Dl:=h'.Dl
 id:=h'.id
 npx:=h'.npx
 hp:=fun i hi=>(h'.hp i hi).trans (h.hp i (by omega))
 fr:=h.fr.trans h'.fr h.Ss
 Ss:=fun b o q=>by
  rcases h'.Ss b o q with q | q
  ·exact h.Ss b o q
  ·exact .inr (Nat.le_trans h.fr.size q)
 D0:=qZ h.D0 h'.D0
 gl:=h.gl
 Ds:=fun b o q=>by
  rcases h'.Ds b o q with q | q | q
  ·exact h.Ds b o q
  ·rcases h.Ss b o q with q | q
   ·exact .inr (.inl q)
   ·exact .inr (.inr q)
  ·exact .inr (.inr (Nat.le_trans h.fr.size q))
theorem opsV_aft {X:Cfg} {I:Env→Prop} {e:Env} {ops:Array Oper} {i:Nat} {oi:Oper} (hi:ops[i]? = some oi) (h:opsV X ops [oi] (fun x e'=>x=.normal∧I e') e) {c:Ctx X.G} {a:Act} {w:World} {D:CS} {hs:Nat→Value} {S:CS} (hd:StD c e a w D hs S)
  {Q:Exit→Act→World→Prop} (K:Act→World→Prop) (hQ:∀ a' w' e' D' hs' S',I e'→StD (⟨w,S,D,hs⟩:Ctx X.G) e' a' w' D' hs' S'→Aft D w w' D' a a' oi.dst→K a' w'):wpOp X.P ops Q i K a w:=by
 have hK:∀ a' w',((∃ e',((Exit.normal:Exit)=.normal∧I e')∧St ⟨w,S,D,hs⟩ e' a' w')∧∃ u,a'.tmps=(a.put oi.dst u).tmps)→K a' w':=fun a' w' z=>by
  obtain ⟨⟨e',⟨_,h1⟩,D',hs',S',h2⟩,h3⟩:=z
  exact hQ a' w' e' D' hs' S' h1 h2 ⟨h2.D0,h2.fr.sameOn (fun b o q1 q2=>hd.dj b o q2 q1) hd.Dl,h3⟩
 have:=h _ a w ⟨D,hs,S,hd.self⟩
 unfold wpOp
 simp only [hi]
 unfold wpList at this
 split
 ·rename_i hw
  rw [if_pos hw] at this
  rcases this with q | ⟨q1,a',w',e',q2,_⟩
  ·refine .inl (Oper.wp_normal (fun x a w z=>?_) hK (Oper.upon_put q))
   obtain ⟨e',z,_⟩:=z
   exact z.1
  ·cases q2.1
 ·rename_i hw
  rw [if_neg hw] at this
  exact hK _ _ ⟨this,_,rfl⟩
def depsOf (ops:Array Oper) (i:Nat):List Nat:=match ops[i]? with
 | some o=>(o.after.toList.filter (Region.binds .any)).map (·.on)
 | none=>[]
def msk (n:Nat) (f:Nat→Bool):Array Bool:=((List.range n).map f).toArray
def unl:Nat→(Nat→Bool)→Nat
 | 0,_=>0
 | n+1,f=>unl n f+if f n=true then 0 else 1
theorem unl_congr:∀ {n:Nat} {f g:Nat→Bool},(∀ j,j < n→f j=g j)→unl n f=unl n g
 | 0,_,_,_=>rfl
 | n+1,f,g,h=>by
  simp only [unl]
  rw [unl_congr (n:=n) (fun j hj=>h j (by omega)),h n (by omega)]
theorem unl_set:∀ {n i:Nat} {f:Nat→Bool},i < n→f i=false→unl n (fun j=>j == i || f j)+1=unl n f
 | 0,_,_,h,_=>by omega
 | n+1,i,f,h,hf=>by
  simp only [unl]
  by_cases q:i=n
  ·subst q
   have e1:unl i (fun j=>j == i || f j)=unl i f:=unl_congr (fun j hj=>by
    have:j≠i:=by omega
    simp [this])
   simp [e1,hf]
  ·have:=unl_set (n:=n) (i:=i) (f:=f) (by omega) hf
   have hne:(n == i)=false:=by simp; omega
   simp only [hne,Bool.false_or]
   omega
theorem unl_zero:∀ {n:Nat} {f:Nat→Bool},unl n f=0→∀ j,j < n→f j=true
 | 0,_,_,_,h=>by omega
 | n+1,f,h,j,hj=>by
  simp only [unl] at h
  have h1:unl n f=0:=by omega
  by_cases q:j=n
  ·subst q
   by_cases q2:f j=true
   ·exact q2
   ·rw [if_neg q2] at h
    omega
  ·exact unl_zero h1 j (by omega)
theorem unl_none:∀ n:Nat,unl n (fun _=>false)=n
 | 0=>rfl
 | n+1=>by simp [unl,unl_none n]
theorem msk_getD {n:Nat} {f:Nat→Bool} {j:Nat} {b:Bool}:(msk n f).getD j b=if j < n then f j else b:=by
 unfold msk
 rw [Array.getD_eq_getD_getElem?]
 simp only [List.getElem?_toArray,List.getElem?_map]
 by_cases h:j < n
 ·rw [List.getElem?_range h]
  simp [h]
 ·rw [List.getElem?_eq_none (by simpa using h)]
  simp [h]
theorem msk_set {n:Nat} {f:Nat→Bool} {i:Nat} (hi:i < n):(msk n f).setIfInBounds i true=msk n (fun j=>j == i || f j):=by
 unfold msk
 apply Array.ext'
 simp only [Array.toList_setIfInBounds]
 apply List.ext_getElem?
 intro j
 rw [List.getElem?_set]
 simp only [List.length_map,List.length_range,List.getElem?_map]
 by_cases h:i=j
 ·subst h
  simp [hi,List.getElem?_range hi]
 ·rw [if_neg h]
  by_cases h2:j < n
  ·rw [List.getElem?_range h2]
   have:(j == i)=false:=by simp; omega
   simp [this]
  ·rw [List.getElem?_eq_none (by simpa using h2)]
   rfl
theorem msk_none {n:Nat}:Array.replicate n false=msk n (fun _=>false):=by
 unfold msk
 apply Array.ext'
 simp [Array.toList_replicate]
 exact (List.eq_replicate_iff.2 ⟨by simp,by simp⟩).symm
theorem ready_msk {ops:Array Oper} {f:Nat→Bool} {i:Nat}:i ∈ Region.ready .any ops (msk ops.size f)↔i < ops.size∧f i=false∧∀ d ∈ depsOf ops i,d < ops.size∧f d=true:=by
 unfold Region.ready depsOf
 simp only [List.mem_filter,List.mem_range,Bool.and_eq_true,Bool.not_eq_true']
 constructor
 ·rintro ⟨h1,h2,h3⟩
  rw [msk_getD,if_pos h1] at h2
  refine ⟨h1,h2,fun d hd=>?_⟩
  rw [Array.getElem?_eq_getElem h1] at h3 hd
  simp only [Option.map_some,Option.getD_some,List.mem_map,List.mem_filter] at h3 hd
  obtain ⟨x,⟨hx,hb⟩,rfl⟩:=hd
  have:=Array.all_eq_true_iff_forall_mem.1 h3 x (by simpa using hx)
  rw [hb] at this
  simp only [Bool.not_true,Bool.false_or] at this
  rw [msk_getD] at this
  split at this
  ·exact ⟨by assumption,this⟩
  ·cases this
 ·rintro ⟨h1,h2,h3⟩
  refine ⟨h1,by rw [msk_getD,if_pos h1]; exact h2,?_⟩
  rw [Array.getElem?_eq_getElem h1] at h3 ⊢
  simp only [Option.map_some,Option.getD_some,List.mem_map,List.mem_filter] at h3 ⊢
  refine Array.all_eq_true_iff_forall_mem.2 (fun x hx=>?_)
  cases hb:Region.binds .any x with
  | false=>rfl
  | true =>
   obtain ⟨g1,g2⟩:=h3 x.on ⟨x,⟨by simpa using hx,hb⟩,rfl⟩
   simp only [Bool.not_true,Bool.false_or]
   rw [msk_getD,if_pos g1]
   exact g2
def topo (ops:Array Oper):Bool:=(List.range ops.size).all fun i=>(depsOf ops i).all fun d=>d < i
theorem ready_none {ops:Array Oper} {f:Nat→Bool} (ht:topo ops=true) (h:Region.ready .any ops (msk ops.size f)=[]):∀ j,j < ops.size→f j=true:=by
 intro j
 induction j using Nat.strongRecOn with
 | _ j ih =>
  intro hj
  cases q:f j with
  | true=>rfl
  | false =>
   have:j ∈ Region.ready .any ops (msk ops.size f):=ready_msk.2 ⟨hj,q,fun d hd=>by
    have:=List.all_eq_true.1 (List.all_eq_true.1 ht j (List.mem_range.2 hj)) d hd
    have hdj:d < j:=by simpa using this
    exact ⟨by omega,ih d hdj (by omega)⟩⟩
   rw [h] at this
   cases this
abbrev Flt:=Nat×Nat×Sl
def keysF (qs:List Flt):List Nat:=qs.map (·.1)
def Env.puts (e:Env) (qs:List Flt):Env:={e with sl:=qs.map (fun q=>(q.2.1,q.2.2))++e.sl}
def sel (qs:List Flt) (ks:List Nat):List Flt:=qs.filter fun q=>ks.contains q.1
def unsel (qs:List Flt) (ks:List Nat):List Flt:=qs.filter fun q=>!ks.contains q.1
theorem lk_puts {qs:List Flt} {sl:List (Nat×Sl)} {t:Nat} {s:Sl} (h:lk t (qs.map (fun q=>(q.2.1,q.2.2))++sl)=some s):(∃ q ∈ qs,q.2.1=t∧q.2.2=s)∨lk t sl=some s:=by
 induction qs with
 | nil=>exact .inr h
 | cons q qs ih =>
  simp only [List.map_cons,List.cons_append] at h
  rw [lk_cons] at h
  split at h
  ·rename_i e
   injection h with h
   exact .inl ⟨q,by simp,e.symm,h⟩
  ·rcases ih h with ⟨q',h1,h2⟩ | h
   ·exact .inl ⟨q',by simp [h1],h2⟩
   ·exact .inr h
section
variable {gG:GG} {c:Ctx gG} {e e':Env} {a:Act} {w:World} {D:CS} {hs:Nat→Value} {S:CS} {X:Cfg}
theorem StD.puts (h:StD c e a w D hs S) {qs:List Flt} (hq:∀ q ∈ qs,SlRep w D hs e.nx e.ob q.2.2 (a.tmps.getD q.2.1 undef)):StD c (e.puts qs) a w D hs S where
 ob:=h.ob
 sl:=fun t s ht=>by
  rcases lk_puts ht with ⟨q,h1,rfl,rfl⟩ | ht
  ·exact hq q h1
  ·exact h.sl t s ht
 sz:=h.sz
 df:=h.df
 dj:=h.dj
 Dl:=h.Dl
 id:=h.id
 npx:=h.npx
 hp:=h.hp
 fr:=h.fr
 Ss:=h.Ss
 D0:=h.D0
 gl:=h.gl
 Ds:=h.Ds
theorem StD.unput {d:Nat} {s:Sl} (h:StD c (e.put d s) a w D hs S) (hd:(lk d e.sl).isNone=true):StD c e a w D hs S where
 ob:=h.ob
 sl:=fun t s' ht=>h.sl t s' (by
  simp only [Env.put,lk_cons]
  split
  ·rename_i q
   subst q
   rw [ht] at hd
   cases hd
  ·exact ht)
 sz:=h.sz
 df:=h.df
 dj:=h.dj
 Dl:=h.Dl
 id:=h.id
 npx:=h.npx
 hp:=h.hp
 fr:=h.fr
 Ss:=h.Ss
 D0:=h.D0
 gl:=h.gl
 Ds:=h.Ds
end
def anyF (X:Cfg) (ops:Array Oper) (L:List Nat) (qs:List Flt) (Post:Exit→Env→Prop) (e:Env):Prop:=
 ∀ (T:Nat→Bool),(∀ j,T j=true→(keysF qs).contains j=true)→(∀ j,T j=true→∀ d ∈ depsOf ops j,L.contains d=true∨T d=true) →
  ∀ fuel,unl ops.size (fun j=>L.contains j || T j)≤fuel→∀ (k:Ctx X.G) (a:Act) (w:World) (D:CS) (hs:Nat→Value) (S:CS),StD k e a w D hs S →
   (∀ q ∈ qs,T q.1=true→SlRep w D hs e.nx e.ob q.2.2 (a.tmps.getD q.2.1 undef)) →
   wpAny X.P .any ops (fun x a' w'=>x=.normal∧∃ e',Post .normal e'∧St k e' a' w') fuel (msk ops.size (fun j=>L.contains j || T j)) a w
theorem regAnyF {X:Cfg} {Post:Exit→Env→Prop} {e:Env} {id:Nat} {l:List Oper} (qs:List Flt) (h:anyF X l.toArray [] qs Post e):wpV X (.region id l.toArray true) Post e:=by
 refine regAny (fun k a w ⟨D,hs,S,hd⟩=>?_)
 have:=h (fun _=>false) (fun j q=>by cases q) (fun j q=>by cases q) l.length (by
  show unl l.toArray.size (fun _=>false)≤_
  rw [unl_none]
  simp) k a w D hs S hd (fun q _ z=>by cases z)
 rw [msk_none]
 exact this
inductive Ob where
 | q (i:Nat) (d:Nat) (s:Sl) (ks:List Nat)
 | m (i:Nat) (ab:List Nat) (L':List Nat) (qs':List Flt)
def Ob.ix:Ob→Nat
 | .q i _ _ _=>i
 | .m i _ _ _=>i
def Ob.holds (X:Cfg) (ops:Array Oper) (qs:List Flt) (Post:Exit→Env→Prop) (e:Env):Ob→Prop
 | .q i d s ks=>(i,d,s) ∈ qs∧∃ o,ops[i]? = some o∧opsV X ops [o] (fun x e'=>x=.normal∧Shd (fun e''=>e''=e.put d s) e') (e.puts (sel qs ks))
 | .m i ab L' qs'=>qs'=unsel qs ab∧∃ o,ops[i]? = some o∧opsV X ops [o] (fun x e'=>x=.normal∧Shd (fun e''=>e''.np=e.np∧anyF X ops L' qs' Post e'') e') (e.puts (sel qs ab))
def Obs (X:Cfg) (ops:Array Oper) (qs:List Flt) (Post:Exit→Env→Prop) (e:Env):List Ob→Prop
 | []=>True
 | o :: r=>o.holds X ops qs Post e∧Obs X ops qs Post e r
theorem Obs.mem {X:Cfg} {ops:Array Oper} {qs:List Flt} {Post:Exit→Env→Prop} {e:Env}:∀ {obs:List Ob},Obs X ops qs Post e obs→∀ o ∈ obs,o.holds X ops qs Post e
 | [],_,_,h=>by cases h
 | x :: r,h,o,ho=>by
  rcases List.mem_cons.1 ho with rfl | ho
  ·exact h.1
  ·exact Obs.mem h.2 o ho
def abOk (ops:Array Oper) (ks:List Nat):List Nat→List Nat→Bool
 | [],_=>true
 | x :: ab,seen=>ks.contains x && seen.any (fun b=>(depsOf ops b).contains x) && abOk ops ks ab (x :: seen)
theorem abOk_all {ops:Array Oper} {ks L:List Nat} {T:Nat→Bool} (hL:∀ j,ks.contains j=true→L.contains j=false) (hT:∀ j,T j=true→∀ d ∈ depsOf ops j,L.contains d=true∨T d=true):∀ (ab seen:List Nat),abOk ops ks ab seen=true →
  (∀ s ∈ seen,∀ d ∈ depsOf ops s,L.contains d=true∨T d=true)→∀ x ∈ ab,T x=true
 | [],_,_,_,_,h=>by cases h
 | x :: ab,seen,h,hs,y,hy=>by
  simp only [abOk,Bool.and_eq_true,List.any_eq_true] at h
  obtain ⟨⟨h1,b,hb,h2⟩,h3⟩:=h
  have hx:T x=true:=by
   rcases hs b hb x (by simpa using h2) with q | q
   ·rw [hL x h1] at q
    cases q
   ·exact q
  rcases List.mem_cons.1 hy with rfl | hy
  ·exact hx
  ·refine abOk_all hL hT ab (x :: seen) h3 (fun s hs'=>?_) y hy
   rcases List.mem_cons.1 hs' with rfl | hs'
   ·exact hT s hx
   ·exact hs s hs'
theorem key_inj:∀ {qs:List Flt},(qs.map (·.1)).Nodup→∀ p ∈ qs,∀ q ∈ qs,p.1=q.1→p=q
 | [],_,_,h,_,_,_=>by cases h
 | x :: qs,hn,p,hp,q,hq,e=>by
  simp only [List.map_cons,List.nodup_cons] at hn
  rcases List.mem_cons.1 hp with hp | hp
  ·subst hp
   rcases List.mem_cons.1 hq with hq | hq
   ·exact hq.symm
   ·exact absurd (List.mem_map.2 ⟨q,hq,e.symm⟩) hn.1
  ·rcases List.mem_cons.1 hq with hq | hq
   ·exact absurd (List.mem_map.2 ⟨p,hp,e.trans (congrArg Prod.fst hq)⟩) hn.1
   ·exact key_inj hn.2 p hp q hq e
def dstOf (ops:Array Oper) (i:Nat):Option Nat:=(ops[i]?).bind (·.dst)
def dstOk (ops:Array Oper):Bool:=(List.range ops.size).all fun i=>(List.range ops.size).all fun j=>i == j || (dstOf ops i).isNone || !(dstOf ops i == dstOf ops j)
def nodeOk (ops:Array Oper) (L:List Nat) (qs:List (Nat×Nat)) (av:List Nat) (obs:List (Nat×Bool×List Nat×List Nat)):Bool:=
 topo ops && dstOk ops && decide (qs.map (·.1)).Nodup && (qs.all fun q=>!L.contains q.1 && decide (q.1 < ops.size) && dstOf ops q.1 == some q.2) &&
 (qs.all fun q=>av.contains q.1 || (depsOf ops q.1).any fun d=>!(L.contains d || av.contains d)) &&
 (List.range ops.size).all fun i=>L.contains i || ((depsOf ops i).any fun d=>!(L.contains d || av.contains d)) ||
  obs.any fun o=>o.1 == i && match o.2 with
   | (true,ks,_)=>(qs.map (·.1)).contains i && ks.all (fun k=>(depsOf ops i).contains k)
   | (false,ab,L')=>!(qs.map (·.1)).contains i && abOk ops (qs.map (·.1)) ab [i] && (List.range ops.size).all fun j=>L'.contains j == (j == i || ab.contains j || L.contains j)
def Ob.key:Ob→Nat×Bool×List Nat×List Nat
 | .q i _ _ ks=>(i,true,ks,[])
 | .m i ab L' _=>(i,false,ab,L')
def qsOk (e:Env) (qs:List Flt):Bool:=qs.all fun q=>stab q.2.2 && (lk q.2.1 e.sl).isNone
theorem getD_put_ne {a:Act} {t:Nat} {o:Option Nat} {u:Value} (h:o≠some t):(a.put o u).tmps.getD t undef=a.tmps.getD t undef:=by
 cases o with
 | none=>rfl
 | some d =>
  have hd:d≠t:=fun q=>h (by rw [q])
  simp only [Act.put,Array.getD_eq_getD_getElem?]
  rw [Array.getElem?_setIfInBounds_ne hd]
theorem wpAny_congr {P:Program} {ops:Array Oper} {Q:Exit→Act→World→Prop} {fuel:Nat} {f g:Nat→Bool} {a:Act} {w:World} (h:∀ j,j < ops.size→f j=g j) (hh:wpAny P .any ops Q fuel (msk ops.size f) a w):wpAny P .any ops Q fuel (msk ops.size g) a w:=by
 have:msk ops.size f=msk ops.size g:=by
  unfold msk
  congr 1
  exact List.map_congr_left (fun j hj=>h j (List.mem_range.1 hj))
 rw [← this]
 exact hh
theorem anyF_node {X:Cfg} {ops:Array Oper} {L:List Nat} {qs:List Flt} {Post:Exit→Env→Prop} {e:Env} (av:List Nat) (obs:List Ob) (h:Obs X ops qs Post e obs) (hfin:((List.range ops.size).all fun j=>L.contains j || (keysF qs).contains j)=true→Shd (Post .normal) (e.puts qs))
  (hn:nodeOk ops L (qs.map fun q=>(q.1,q.2.1)) av (obs.map Ob.key)=true) (hq:qsOk e qs=true):anyF X ops L qs Post e:=by
 intro T hT1 hT2 fuel
 simp only [nodeOk,Bool.and_eq_true,List.map_map,Function.comp_def] at hn
 obtain ⟨⟨⟨⟨⟨htop,hdst⟩,hnod⟩,hqs⟩,havl⟩,hcov⟩:=hn
 have hnod:=key_inj (of_decide_eq_true hnod)
 have hqk:∀ q ∈ qs,L.contains q.1=false∧q.1 < ops.size∧dstOf ops q.1=some q.2.1:=fun q hq=>by
  have:=List.all_eq_true.1 hqs (q.1,q.2.1) (List.mem_map.2 ⟨q,hq,rfl⟩)
  simp only [Bool.and_eq_true,Bool.not_eq_true',beq_iff_eq,decide_eq_true_eq] at this
  exact ⟨this.1.1,this.1.2,this.2⟩
 have hav:∀ T:Nat→Bool,(∀ j,T j=true→(keysF qs).contains j=true)→(∀ j,T j=true→∀ d ∈ depsOf ops j,L.contains d=true∨T d=true)→∀ j,T j=true→av.contains j=true:=fun T h1 h2 j=>by
  induction j using Nat.strongRecOn with
  | _ j ih =>
   intro hj
   have hk:=h1 j hj
   obtain ⟨q,hm,rfl⟩:=List.mem_map.1 (List.contains_iff_mem.1 hk)
   have:=List.all_eq_true.1 havl (q.1,q.2.1) (List.mem_map.2 ⟨q,hm,rfl⟩)
   simp only [Bool.or_eq_true,List.any_eq_true] at this
   rcases this with z | ⟨d,hd,z⟩
   ·exact z
   ·simp only [Bool.not_eq_true',Bool.or_eq_false_iff] at z
    have hdj:=List.all_eq_true.1 (List.all_eq_true.1 htop q.1 (List.mem_range.2 (hqk q hm).2.1)) d hd
    have hdj:d < q.1:=by simpa using hdj
    rcases h2 q.1 hj d hd with y | y
    ·rw [z.1] at y; cases y
    ·have:=ih d hdj y
     rw [z.2] at this
     cases this
 have hqe:∀ q ∈ qs,stab q.2.2=true∧(lk q.2.1 e.sl).isNone=true:=fun q hm=>by
  have:=List.all_eq_true.1 hq q hm
  simpa only [Bool.and_eq_true] using this
 have hkL:∀ j,(keysF qs).contains j=true→L.contains j=false:=fun j hj=>by
  obtain ⟨q,h1,rfl⟩:=List.mem_map.1 (List.contains_iff_mem.1 hj)
  exact (hqk q h1).1
 have hdne:∀ i j,i < ops.size→j < ops.size→i≠j→∀ t,dstOf ops j=some t→dstOf ops i≠some t:=fun i j hi hj hij t ht hit=>by
  have:=List.all_eq_true.1 (List.all_eq_true.1 hdst i (List.mem_range.2 hi)) j (List.mem_range.2 hj)
  simp only [Bool.or_eq_true,beq_iff_eq,Bool.not_eq_true'] at this
  rcases this with (q | q) | q
  ·exact hij q
  ·rw [hit] at q; cases q
  ·rw [hit,ht] at q; simp at q
 have hall:∀ T:Nat→Bool,(∀ j,T j=true→(keysF qs).contains j=true)→(∀ j,j < ops.size→(L.contains j || T j)=true)→∀ (k:Ctx X.G) (a:Act) (w:World) (D:CS) (hs:Nat→Value) (S:CS),StD k e a w D hs S→(∀ q ∈ qs,T q.1=true→SlRep w D hs e.nx e.ob q.2.2 (a.tmps.getD q.2.1 undef)) →
   ∃ e',Post .normal e'∧St k e' a w:=fun T hT1 hA k a w D hs S hd hr=>by
  have hf:=hfin (List.all_eq_true.2 (fun j hj=>by
   have:=hA j (List.mem_range.1 hj)
   rw [Bool.or_eq_true] at this ⊢
   exact this.imp id (hT1 j)))
  exact hf.st ⟨D,hs,S,hd.puts (fun q hm=>hr q hm (by
   obtain ⟨g1,g2,g3⟩:=hqk q hm
   have:=hA q.1 g2
   rw [g1,Bool.false_or] at this
   exact this))⟩
 induction fuel generalizing T with
 | zero =>
  intro hu k a w D hs S hd hr
  have hA:=unl_zero (n:=ops.size) (by omega:unl ops.size (fun j=>L.contains j || T j)=0)
  refine wpAny_done ?_ ⟨rfl,hall T hT1 hA k a w D hs S hd hr⟩ 0
  cases hq':Region.ready .any ops (msk ops.size fun j=>L.contains j || T j) with
  | nil=>rfl
  | cons i r =>
   have hi:i ∈ Region.ready .any ops (msk ops.size fun j=>L.contains j || T j):=by rw [hq']; simp
   obtain ⟨h1,h2,_⟩:=ready_msk.1 hi
   rw [hA i h1] at h2
   cases h2
 | succ fuel ih =>
  intro hu k a w D hs S hd hr
  refine ⟨fun h0=>⟨rfl,hall T hT1 (ready_none htop h0) k a w D hs S hd hr⟩,fun i hi=>?_⟩
  obtain ⟨hin,hfi,hdep⟩:=ready_msk.1 hi
  simp only [Bool.or_eq_false_iff] at hfi
  have hdep':∀ d ∈ depsOf ops i,L.contains d=true∨T d=true:=fun d hm=>by
   have:=(hdep d hm).2
   rwa [Bool.or_eq_true] at this
  rw [msk_set hin]
  have hui:unl ops.size (fun j=>j == i || (L.contains j || T j))≤fuel:=by
   have:=unl_set (n:=ops.size) (i:=i) (f:=fun j=>L.contains j || T j) hin (by show (L.contains i || T i)=false; rw [hfi.1,hfi.2]; rfl)
   omega
  have hci:=List.all_eq_true.1 hcov i (List.mem_range.2 hin)
  simp only [Bool.or_eq_true,List.any_eq_true] at hci
  rcases hci with (q | ⟨d,hm,q⟩) | ⟨ob,hob,q⟩
  ·rw [hfi.1] at q; cases q
  ·simp only [Bool.not_eq_true',Bool.or_eq_false_iff] at q
   rcases hdep' d hm with z | z
   ·rw [q.1] at z; cases z
   ·have:=hav T hT1 hT2 d z
    rw [q.2] at this
    cases this
  obtain ⟨o,ho,rfl⟩:=List.mem_map.1 hob
  have hh:=h.mem o ho
  simp only [Bool.and_eq_true,beq_iff_eq] at q
  cases o with
  | q i' d s ks =>
   obtain ⟨rfl,q2⟩:=q
   simp only [Ob.key,Bool.and_eq_true] at hin hfi hdep hdep' hui q2 ⊢
   obtain ⟨hmem,oi,hoi,hops⟩:=hh
   obtain ⟨g1,g2,g3⟩:=hqk _ hmem
   obtain ⟨g4,g5⟩:=hqe _ hmem
   have hod:oi.dst=some d:=by
    have:=g3
    unfold dstOf at this
    rw [hoi] at this
    exact this
   refine opsV_aft hoi hops (hd.puts (fun q hm=>?_)) _ (fun a' w' e' D' hs' S' hI hst haft=>?_)
   ·obtain ⟨m1,m2⟩:=List.mem_filter.1 hm
    refine hr q m1 ?_
    have hdm:q.1 ∈ depsOf ops i':=by
     have:=List.all_eq_true.1 q2.2 q.1 (by simpa using m2)
     simpa using this
    rcases hdep' q.1 hdm with z | z
    ·rw [(hqk q m1).1] at z; cases z
    ·exact z
   ·obtain ⟨e2,rfl,hst2⟩:=hI.st ⟨D',hs',S',hst⟩
    obtain ⟨D2,hs2,S2,hst2⟩:=hst2
    have hDD:sub D D2:=hst2.D0
    have hsame:sameOn w w' D:=hst2.fr.sameOn (fun b o q1 q2=>hd.dj b o q2 q1) hd.Dl
    have hback:=hd.ret hst2 rfl
    refine wpAny_congr (f:=fun j=>L.contains j || (j == i' || T j)) (fun j _=>by cases L.contains j <;> cases (j == i') <;> rfl) ?_
    refine ih (fun j=>j == i' || T j) (fun j hj=>?_) (fun j hj x hx=>?_) (by
     refine Nat.le_trans (Nat.le_of_eq (unl_congr (fun j _=>?_))) hui
     cases L.contains j <;> cases (j == i') <;> rfl) k a' w' D2 hs2 S2 (hback.unput g5) (fun q hm hq=>?_)
    ·simp only [Bool.or_eq_true,beq_iff_eq] at hj
     rcases hj with rfl | hj
     ·unfold keysF
      simp only [List.contains_iff_mem,List.mem_map]
      exact ⟨_,hmem,rfl⟩
     ·exact hT1 j hj
    ·simp only [Bool.or_eq_true,beq_iff_eq] at hj
     rcases hj with rfl | hj
     ·exact (hdep' x hx).imp id (fun z=>by rw [z,Bool.or_true])
     ·exact (hT2 j hj x hx).imp id (fun z=>by rw [z,Bool.or_true])
    ·by_cases hqi:q.1=i'
     ·obtain rfl:=hnod q hm _ hmem hqi
      exact SlRep.stab (qA _) (qM _ _) g4 (hst2.sl d s (by simp [Env.put,lk_cons]))
     ·have hq2:T q.1=true:=by
       simp only [Bool.or_eq_true,beq_iff_eq] at hq
       exact hq.resolve_left hqi
      obtain ⟨u,hu'⟩:=haft.p
      rw [hu',hod,getD_put_ne (t:=q.2.1) (fun z=>by
       have:=hdne i' q.1 hin (hqk q hm).2.1 (fun z2=>hqi z2.symm) q.2.1 (hqk q hm).2.2
       rw [g3] at this
       exact this z)]
      exact SlRep.stab hDD hsame (hqe q hm).1 (hr q hm hq2)
  | m i' ab L' qs' =>
   obtain ⟨rfl,q2⟩:=q
   simp only [Ob.key,Bool.and_eq_true,Bool.not_eq_true'] at hin hfi hdep hdep' hui q2 ⊢
   obtain ⟨rfl,oi,hoi,hops⟩:=hh
   obtain ⟨⟨z1,z2⟩,z3⟩:=q2
   have hab:∀ x ∈ ab,T x=true:=abOk_all (ks:=keysF qs) hkL hT2 ab [i'] z2 (fun s hs'=>by
    obtain rfl:=List.mem_singleton.1 hs'
    exact hdep')
   have hL':∀ j,j < ops.size→L'.contains j=(j == i' || ab.contains j || L.contains j):=fun j hj=>by
    have:=List.all_eq_true.1 z3 j (List.mem_range.2 hj)
    simpa using this
   refine opsV_aft hoi hops (hd.puts (fun q hm=>?_)) _ (fun a' w' e' D' hs' S' hI hst haft=>?_)
   ·obtain ⟨m1,m2⟩:=List.mem_filter.1 hm
    exact hr q m1 (hab q.1 (by simpa using m2))
   ·obtain ⟨e2,⟨hnp,hany⟩,hst2⟩:=hI.st ⟨D',hs',S',hst⟩
    obtain ⟨D2,hs2,S2,hst2⟩:=hst2
    have hDD:sub D D2:=hst2.D0
    have hsame:sameOn w w' D:=hst2.fr.sameOn (fun b o q1 q2=>hd.dj b o q2 q1) hd.Dl
    have hback:=hd.ret hst2 hnp
    have heq:∀ j,j < ops.size→(L'.contains j || (T j && !ab.contains j))=(j == i' || (L.contains j || T j)):=fun j hj=>by
     rw [hL' j hj]
     cases hz:ab.contains j with
     | true =>
      have:=hab j (by simpa using hz)
      rw [this]
      cases (j == i') <;> cases L.contains j <;> rfl
     | false=>cases (j == i') <;> cases L.contains j <;> cases T j <;> rfl
    refine wpAny_congr heq ?_
    refine hany (fun j=>T j && !ab.contains j) (fun j hj=>?_) (fun j hj x hx=>?_) fuel (by
     refine Nat.le_trans (Nat.le_of_eq (unl_congr (fun j hj=>?_))) hui
     exact heq j hj) k a' w' D2 hs2 S2 hback (fun q hm hq=>?_)
    ·simp only [Bool.and_eq_true,Bool.not_eq_true'] at hj
     have:=hT1 j hj.1
     unfold keysF at this ⊢
     simp only [List.contains_iff_mem,List.mem_map] at this ⊢
     obtain ⟨q,hm,rfl⟩:=this
     exact ⟨q,List.mem_filter.2 ⟨hm,by rw [hj.2]; rfl⟩,rfl⟩
    ·simp only [Bool.and_eq_true,Bool.not_eq_true'] at hj
     have hxs:x < ops.size:=by
      have hj':j < ops.size:=by
       have:=hT1 j hj.1
       unfold keysF at this
       simp only [List.contains_iff_mem,List.mem_map] at this
       obtain ⟨q,hm,rfl⟩:=this
       exact (hqk q hm).2.1
      have:=List.all_eq_true.1 (List.all_eq_true.1 htop j (List.mem_range.2 hj')) x hx
      have:x < j:=by simpa using this
      omega
     rw [hL' x hxs]
     rcases hT2 j hj.1 x hx with q | q
     ·exact .inl (by rw [q,Bool.or_true])
     ·cases hz:ab.contains x with
      | true=>exact .inl (by simp)
      | false=>exact .inr (by simp [q])
    ·obtain ⟨m1,m2⟩:=List.mem_filter.1 hm
     simp only [Bool.and_eq_true] at hq
     obtain ⟨u,hu'⟩:=haft.p
     rw [hu',getD_put_ne (t:=q.2.1) (fun z=>by
      have hne:i'≠q.1:=fun z2=>by
       have:(keysF qs).contains i'=true:=by
        unfold keysF
        simp only [List.contains_iff_mem,List.mem_map]
        exact ⟨q,m1,z2.symm⟩
       unfold keysF at this
       rw [z1] at this
       cases this
      have:=hdne i' q.1 hin (hqk q m1).2.1 hne q.2.1 (hqk q m1).2.2
      unfold dstOf at this
      rw [hoi] at this
      exact this z)]
     exact SlRep.stab hDD hsame (hqe q m1).1 (hr q m1 hq.1)
theorem anyF_pure {X:Cfg} {Post:Exit→Env→Prop} {e e':Env} {ops:Array Oper} {L L':List Nat} {qs:List Flt} {i:Nat} {oi:Oper} (hi:ops[i]? = some oi) (hg:oi.guard=none) (he:evP X.T oi e=some e') (hs:Region.noSelect ops=true)
  (hf:Region.free .any ops (msk ops.size L.contains) i=true) (hok:(topo ops && !L.contains i && !(keysF qs).contains i && decide (i < ops.size) && (depsOf ops i).all (fun d=>L.contains d && decide (d < ops.size)) && (List.range ops.size).all (fun j=>L'.contains j == (j == i || L.contains j)) &&
   (qs.all fun q=>decide (q.1 < ops.size) && !(dstOf ops i == some q.2.1)))=true) (hnp:e'.np=e.np) (hk:(qs.all fun q=>stab q.2.2)=true) (h:anyF X ops L' qs Post e'):anyF X ops L qs Post e:=by
 simp only [Bool.and_eq_true,Bool.not_eq_true',decide_eq_true_eq] at hok
 obtain ⟨⟨⟨⟨⟨⟨o0,o1⟩,o2⟩,o3⟩,o4⟩,o5⟩,o6⟩:=hok
 intro T hT1 hT2 fuel hu k a w D hs' S hd hr
 have hTi:T i=false:=by
  cases q:T i with
  | false=>rfl
  | true=>have:=hT1 i q; rw [o2] at this; cases this
 have hui:=unl_set (n:=ops.size) (i:=i) (f:=fun j=>L.contains j || T j) o3 (by show (L.contains i || T i)=false; rw [o1,hTi]; rfl)
 obtain ⟨fuel,rfl⟩:∃ m,fuel=m+1:=⟨fuel - 1,by omega⟩
 obtain ⟨u,hu1,hst⟩:=evP_ok hd.self he
 have hL':∀ j,j < ops.size→L'.contains j=(j == i || L.contains j):=fun j hj=>by
  have:=List.all_eq_true.1 o5 j (List.mem_range.2 hj)
  simpa using this
 refine wpAny_take hi hs ?_ ?_ (fun c a w z=>by cases z.1) (.inl ⟨by simp [Region.wanted,hg],hu1⟩) ?_
 ·unfold Region.free at hf ⊢
  rw [hi] at hf ⊢
  simp only [List.all_eq_true,List.mem_range] at hf ⊢
  intro j hj
  have:=hf j hj
  rw [msk_getD,if_pos hj] at this ⊢
  simp only [Bool.or_eq_true] at this ⊢
  rcases this with (q | q) | q
  ·exact .inl (.inl q)
  ·exact .inl (.inr (.inl q))
  ·exact .inr q
 ·have:i ∈ Region.ready .any ops (msk ops.size fun j=>L.contains j || T j):=ready_msk.2 ⟨o3,by show (L.contains i || T i)=false; rw [o1,hTi]; rfl,fun d hd=>by
   have:=List.all_eq_true.1 o4 d hd
   simp only [Bool.and_eq_true,decide_eq_true_eq] at this
   exact ⟨this.2,by rw [this.1]; rfl⟩⟩
  simpa using this
 ·rw [msk_set o3]
  obtain ⟨D2,hs2,S2,hst2⟩:=hst
  have heq:∀ j,j < ops.size→(L'.contains j || T j)=(j == i || (L.contains j || T j)):=fun j hj=>by
   rw [hL' j hj]
   cases (j == i) <;> cases L.contains j <;> rfl
  refine wpAny_congr heq ?_
  refine h T hT1 (fun j hj x hx=>?_) fuel (by
   have:unl ops.size (fun j=>L'.contains j || T j)=unl ops.size (fun j=>j == i || (L.contains j || T j)):=unl_congr heq
   omega) k _ w D2 hs2 S2 (hd.ret hst2 hnp) (fun q hm hq=>?_)
  ·rcases hT2 j hj x hx with q | q
   ·by_cases hxs:x < ops.size
    ·exact .inl (by rw [hL' x hxs,q,Bool.or_true])
    ·exfalso
     have hj':j < ops.size:=by
      have:=hT1 j hj
      unfold keysF at this
      simp only [List.contains_iff_mem,List.mem_map] at this
      obtain ⟨q,hm,rfl⟩:=this
      have:=List.all_eq_true.1 o6 q hm
      simp only [Bool.and_eq_true,decide_eq_true_eq] at this
      exact this.1
     have:=List.all_eq_true.1 (List.all_eq_true.1 o0 j (List.mem_range.2 hj')) x hx
     have:x < j:=by simpa using this
     omega
   ·exact .inr q
  ·have:=List.all_eq_true.1 o6 q hm
   simp only [Bool.and_eq_true,Bool.not_eq_true',decide_eq_true_eq,beq_eq_false_iff_ne] at this
   unfold dstOf at this
   rw [hi] at this
   have h2:oi.dst≠some q.2.1:=this.2
   rw [getD_put_ne h2]
   exact SlRep.stab hst2.D0 (hst2.fr.sameOn (fun b o q1 q2=>hd.dj b o q2 q1) hd.Dl) (List.all_eq_true.1 hk q hm) (hr q hm hq)
theorem qN {X:Cfg} {Post:Exit→Env→Prop} {e e':Env} {ops:Array Oper} {L:List Nat} {qs:List Flt} (ks:List Nat) (os:List (Nat×Nat)) (nx:Nat) (h:anyF X ops L qs Post e') (hq:(qs.all fun q=>stab q.2.2)=true:=by rfl) (he:e.shed ks os nx=some e':=by
 simp only [Env.shed,shedS,shedO,lk,delO,C.ren,Ag.map,Sl.map,List.map_cons,List.map_nil,↓reduceIte,eq_self,Option.isSome_some,Option.isSome_none,Option.bind_some,Option.map_some,Nat.reduceEqDiff,Nat.reduceLT,Nat.reduceLeDiff,true_or,or_true,or_false,false_or,and_true,true_and,not_true,not_false_eq_true,Bool.false_eq_true,implies_true,imp_self,false_implies,Nat.le_refl] <;> rfl):anyF X ops L qs Post e:=fun T h1 h2 fuel hu k a w D hs S hd hr=>by
 obtain ⟨D2,hs2,S2,hst2⟩:=St.shed he ⟨D,hs,S,hd.self⟩
 have hnp:e'.np=e.np:=by
  unfold Env.shed at he
  split at he
  case isFalse=>cases he
  obtain ⟨sl,g1,he⟩:=zbi he
  obtain ⟨ob,g2,rfl⟩:=Option.map_eq_some_iff.1 he
  rfl
 exact h T h1 h2 fuel hu k a w D2 hs2 S2 (hd.ret hst2 hnp) (fun q hm hq'=>SlRep.stab hst2.D0 (hst2.fr.sameOn (fun b o q1 q2=>hd.dj b o q2 q1) hd.Dl) (List.all_eq_true.1 hq q hm) (hr q hm hq'))
def full (n:Nat) (L:List Nat) (ks:List Nat):Bool:=(List.range n).all fun j=>L.contains j || ks.contains j
theorem fnode {X:Cfg} {ops:Array Oper} {L:List Nat} {qs:List Flt} {Post:Exit→Env→Prop} {e:Env} (av:List Nat) (obs:List Ob) (qk:List (Nat×Nat)) (ok:List (Nat×Bool×List Nat×List Nat)) (h:Obs X ops qs Post e obs) (hqk:(qs.map fun q=>(q.1,q.2.1))=qk:=by rfl) (hok:obs.map Ob.key=ok:=by rfl)
  (hnf:full ops.size L (qk.map (·.1))=false:=by decide +kernel) (hn:nodeOk ops L qk av ok=true:=by decide +kernel) (hq:qsOk e qs=true:=by rfl):anyF X ops L qs Post e:=by
 refine anyF_node av obs h (fun hf=>?_) (by rw [hqk,hok]; exact hn) hq
 exfalso
 subst hqk
 simp only [full,List.map_map,Function.comp_def] at hnf
 have:(keysF qs)=qs.map (fun x=>x.1):=rfl
 rw [this,hnf] at hf
 cases hf
theorem fend {X:Cfg} {ops:Array Oper} {L:List Nat} {qs:List Flt} {Post:Exit→Env→Prop} {e e2:Env} (av:List Nat) (obs:List Ob) (qk:List (Nat×Nat)) (ok:List (Nat×Bool×List Nat×List Nat)) (h:Obs X ops qs Post e obs) (hp:Post .normal e2) (he2:e.puts qs=e2:=by rfl) (hqk:(qs.map fun q=>(q.1,q.2.1))=qk:=by rfl) (hok:obs.map Ob.key=ok:=by rfl)
  (hn:nodeOk ops L qk av ok=true:=by decide +kernel) (hq:qsOk e qs=true:=by rfl):anyF X ops L qs Post e:=
 anyF_node av obs h (fun _=>.inl (he2 ▸ hp)) (by rw [hqk,hok]; exact hn) hq
theorem fpure {X:Cfg} {Post:Exit→Env→Prop} {e e':Env} {ops:Array Oper} {L:List Nat} {qs:List Flt} {oi:Oper} {p:Prop} (hH:p) (i:Nat) (L':List Nat) (qk:List (Nat×Nat)) (h:anyF X ops L' qs Post e') (hi:ops[i]? = some oi:=by (simp only [List.getElem?_toArray,List.getElem?_cons_zero,List.getElem?_cons_succ]; rfl)) (hg:oi.guard=none:=by rfl)
  (he:p→evP X.T oi e=some e':=by
   intro hH
   simp only [hH,evP,evConvQ,evMove,evAssign,evPick,evBin,evUn,evExtract,Env.sure,evNil,evFieldAddr,evLoad,Env.int,Env.node,evIndexAddr,evIndex,evField,Env.bound,Env.cut,evSlice,V.alive,Env.takes,evAlloc,Ag.cells,evBox,Env.newListO,evMake,over,Env.solid,Env.solidG,Env.parts,Ty.places,evBuild,Env.rowsOf,chunk,evBuildSlice,Env.rows,isU8B,evLen,evMinMax,V.isSc,C.killN,Ag.map,Sl.map,slMap,Env.place,Env.lay,evStore,C.killA,scR_nil,scR_cons,alR_nil,alR_cons,Env.src,Env.newAt,evAppend,Env.take,V.get,V.set,V.rowAt,V.setRow,Option.getD_some,List.set_cons_zero,List.set_cons_succ,set_get,List.set_set,cellOf,cellsOf,Env.behind,Env.val,Env.sc,Env.cl,lk,setO,delO,constS,constC,plain,Env.putO,Env.put,tyBool,binV,unV,rK,rB,rS,rL,wk_fold,bI_add,bI_sub,bI_mul,bI_quo,bI_rem,bI_and,bI_or,bI_xor,bI_andNot,bI_eql,bI_neq,bI_lss,bI_leq,bI_gtr,bI_geq,bI_shl,bI_shr,bS_add,bS_eql,bS_neq,bS_lss,bS_leq,bS_gtr,bS_geq,bytesOf_rK,bytesL_rK,
      ↓reduceIte,eq_self,Option.isSome_some,Option.isSome_none,Option.bind_some,Option.bind_none,Option.map_some,Option.map_none,Bool.false_eq_true,Nat.reduceLT,Nat.reduceLeDiff,Nat.reduceEqDiff,Nat.reduceAdd,Nat.reduceMul,Nat.reduceSub,Int.reduceLT,Int.reduceEq,Int.reduceNeg,List.length_map,List.length_set,List.length_cons,List.length_nil,List.length_append,List.getElem?_map,List.map_cons,List.map_nil,true_or,or_true,or_false,false_or,and_true,true_and,and_self,not_true,not_false_eq_true,reduceCtorEq,List.all_cons,List.all_nil,Bool.and_true,Bool.true_and,ne_eq,List.drop_zero,List.nil_append,List.append_nil,List.singleton_append,List.cons_append,List.flatMap_cons,List.flatMap_nil,List.flatten_cons,List.flatten_nil,List.mapM_cons,List.mapM_nil,Option.pure_def,Option.bind_eq_bind,List.take_zero,List.take_succ_cons,List.drop_succ_cons,List.getElem?_cons_zero,List.getElem?_cons_succ,List.set_cons_zero,List.set_cons_succ,List.headD_cons,List.take_nil,List.drop_nil,Nat.sub_zero,Nat.add_zero,Nat.zero_add,Nat.zero_le,Nat.le_refl,← List.map_append,← List.map_take,← List.map_drop] <;> rfl)
  (hs:Region.noSelect ops=true:=by decide +kernel) (hf:Region.free .any ops (msk ops.size L.contains) i=true:=by decide +kernel) (hqk:(qs.map fun q=>(q.1,q.2.1))=qk:=by rfl)
  (hok:(topo ops && !L.contains i && !(qk.map (·.1)).contains i && decide (i < ops.size) && (depsOf ops i).all (fun d=>L.contains d && decide (d < ops.size)) && (List.range ops.size).all (fun j=>L'.contains j == (j == i || L.contains j)) && (qk.all fun q=>decide (q.1 < ops.size) && !(dstOf ops i == some q.2)))=true:=by decide +kernel)
  (hnp:e'.np=e.np:=by rfl) (hk:(qs.all fun q=>stab q.2.2)=true:=by rfl):anyF X ops L qs Post e:=by
 refine anyF_pure hi hg (he hH) hs hf ?_ hnp hk h
 subst hqk
 simp only [List.map_map,List.all_map,Function.comp_def] at hok
 exact hok
theorem qB {X:Cfg} {ops:Array Oper} {qs:List Flt} {Post:Exit→Env→Prop} {e:Env} {i d:Nat} {s:Sl} {ks:List Nat} {o:Oper} (p:Nat) (e1:Env) (h:opsV X ops [o] (fun x e'=>x=.normal∧Shd (fun e''=>e''=e.put d s) e') e1)
  (hm:qs[p]? = some (i,d,s):=by rfl) (hi:ops[i]? = some o:=by (simp only [List.getElem?_toArray,List.getElem?_cons_zero,List.getElem?_cons_succ]; rfl)) (he:e.puts (sel qs ks)=e1:=by rfl):Ob.holds X ops qs Post e (.q i d s ks):=by
 subst he
 exact ⟨List.mem_of_getElem? hm,o,hi,h⟩
theorem obMx {X:Cfg} {ops:Array Oper} {qs qs':List Flt} {Post:Exit→Env→Prop} {e:Env} {i:Nat} {ab L':List Nat} {o:Oper} (e1:Env) (h:opsV X ops [o] (fun x e'=>x=.normal∧Shd (fun e''=>e''.np=e.np∧anyF X ops L' qs' Post e'') e') e1)
  (hm:qs'=unsel qs ab:=by rfl) (hi:ops[i]? = some o:=by (simp only [List.getElem?_toArray,List.getElem?_cons_zero,List.getElem?_cons_succ]; rfl)) (he:e.puts (sel qs ab)=e1:=by rfl):Ob.holds X ops qs Post e (.m i ab L' qs'):=by
 subst he
 exact ⟨hm,o,hi,h⟩
theorem opsOn {X:Cfg} {Post:Exit→Env→Prop} {e:Env} {ops:Array Oper} {o oj:Oper} {l:List Oper} {j d:Nat} {want b:Bool} (hc:b=want) (h:opsV X ops ({o with guard:=none} :: l) Post e) (hg:o.guard=some (j,want):=by rfl) (hj:ops[j]? = some oj:=by (simp only [List.getElem?_toArray,List.getElem?_cons_zero,List.getElem?_cons_succ]; rfl)) (hjd:oj.dst=some d:=by rfl)
  (hb:e.sc (.tmp d)=some (.bool b):=by (simp only [Env.sc,Env.val,lk,↓reduceIte,Nat.reduceEqDiff] <;> rfl)):opsV X ops (o :: l) Post e:=opsV_on hg hj hjd (by rw [hb,hc]) h
theorem opsOff {X:Cfg} {Post:Exit→Env→Prop} {e e':Env} {ops:Array Oper} {o oj:Oper} {l:List Oper} {j d:Nat} {want b:Bool} (hc:b=!want) (h:opsV X ops l Post e') (hg:o.guard=some (j,want):=by rfl) (hj:ops[j]? = some oj:=by (simp only [List.getElem?_toArray,List.getElem?_cons_zero,List.getElem?_cons_succ]; rfl)) (hjd:oj.dst=some d:=by rfl)
  (hb:e.sc (.tmp d)=some (.bool b):=by (simp only [Env.sc,Env.val,lk,↓reduceIte,Nat.reduceEqDiff] <;> rfl)) (hd:e.putO o.dst (.tup [])=some e':=by (simp only [Env.putO,Env.put,reduceIte,Nat.reduceLT] <;> rfl)):opsV X ops (o :: l) Post e:=opsV_off hg hj hjd (by rw [hb,hc]) hd h
theorem evPick_of {o:Oper} {c x y:Operand} {e:Env} {b v:Bool} (hs:e.sc c=some (.bool b)) (hc:b=v):evPick o c x y e=if v=true then (e.val x).bind fun s=>e.putO o.dst s else (e.val y).bind fun s=>e.putO o.dst s:=by
 unfold evPick
 rw [hs,hc]
 rfl
theorem opsPick {X:Cfg} {Post:Exit→Env→Prop} {e e':Env} {ops:Array Oper} {o:Oper} {l:List Oper} {c x y:Operand} {b v:Bool} {p:Prop} (hH:p) (hc:b=v) (h:opsV X ops l Post e') (hg:o.guard=none:=by rfl) (ho:o.op=.pick c x y:=by rfl)
  (hs:e.sc c=some (.bool b):=by (simp only [Env.sc,Env.val,lk,↓reduceIte,Nat.reduceEqDiff] <;> rfl))
  (he:(if v=true then (e.val x).bind fun s=>e.putO o.dst s else (e.val y).bind fun s=>e.putO o.dst s)=some e':=by (simp only [Env.val,Env.sc,lk,constS,constC,Env.putO,Env.put,plain,Option.bind_some,↓reduceIte,Nat.reduceEqDiff,Nat.reduceLT,Bool.false_eq_true] <;> rfl)):opsV X ops (o :: l) Post e:=
 opsV_op hg (evOp_ok (by unfold evOp; rw [ho]; simp only; rw [evPick_of hs hc,he])) h
end Go.TV
