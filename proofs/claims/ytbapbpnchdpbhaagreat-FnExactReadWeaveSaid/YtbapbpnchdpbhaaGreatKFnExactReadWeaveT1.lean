/- Memory told as trees, part 2. -/
import Derived.Test.YtbapbpnchdpbhaaGreatKFnExactReadWeaveT0
import Derived.Laws.Append
import Derived.Deep.Quiet
import Derived.StillTail
set_option linter.unusedVariables false
set_option linter.unusedSimpArgs false
set_option maxHeartbeats 8000000
set_option maxRecDepth 100000
namespace Go.TV
def C.killA (i:Nat):C→C
 | .ref k p=>if k=i then .dead else .ref k p
 | .part k p n lo hi=>if k=i then .dead else .part k p n lo hi
 | .addr k p n r j=>if k=i then .dead else .addr k p n r j
 | x=>x
section
variable {gG:GG} {c:Ctx gG} {e e':Env} {a:Act} {w:World} {D:CS} {hs:Nat→Value} {S:CS} {X:Cfg} {o:Oper}
theorem StD.objAt (h:StD c e a w D hs S) {i:Nat} {v:V} {u:Value} {S1:CS} (hi:lk i e.ob=none) (hin:i < e.nx) (hip:e.np≤i)
  (hv:Rep w D v u S1) (hj:TV.dj S1 S) (hjD:TV.dj S1 D) (h0:∀ b o,S1 b o→c.S0 b o∨c.w0.heap.size≤b) :
  StD c {e with ob:=(i,v) :: e.ob,sl:=qG (C.killA i) e.sl} a w D (fun k=>if k=i then u else hs k) (cup S1 S):=by
 have hne:∀ k x,lk k e.ob=some x→k≠i:=fun k x q r=>by rw [r,hi] at q; cases q
 have hD:=zH w D
 exact {
  ob:=⟨S1,S,hi,by simpa using hv,ObRep.keep (zD D) hD e.ob S h.ob (zH w S) (fun k x q=>by simp [hne k x q]),hj,rfl⟩
  sl:=fun t s ht=>by
   obtain ⟨s0,q1,rfl⟩:=qL0 e.sl ht
   refine SlRep.mapf (fun k u' hk=>?_) (h.sl t s0 q1)
   have other:∀ k' q,k'≠i→Kp w w hs (fun k=>if k=i then u else hs k) e.ob ((i,v) :: e.ob) k' q:=fun k' q hk' =>
    Kp.same h.ob _ (by simp only [zL]; rw [if_neg hk']) (by show (if k'=i then u else hs k')=_; rw [if_neg hk']) hD (fun _ _ _ _ _ _ _=>zH _ _)
   cases k with
   | v x=>exact hk
   | ba row=>exact hk
   | dead=>trivial
   | ref k' q =>
    simp only [C.killA]
    split
    ·trivial
    ·rename_i hne'
     exact CRep.kc (c:=.ref k' q) (zD D) hD (Nat.le_refl _) hk (fun _=>other k' q hne')
   | part k' q n lo hi =>
    simp only [C.killA]
    split
    ·trivial
    ·rename_i hne'
     exact CRep.kc (c:=.part k' q n lo hi) (zD D) hD (Nat.le_refl _) hk (fun _=>other k' q hne')
   | addr k' q n r j =>
    simp only [C.killA]
    split
    ·trivial
    ·rename_i hne'
     exact CRep.kc (c:=.addr k' q n r j) (zD D) hD (Nat.le_refl _) hk (fun _=>other k' q hne')
  sz:=h.sz
  df:=h.df
  dj:=qV hjD h.dj
  Dl:=h.Dl
  id:=fun k x q=>by
   simp only [zL] at q
   split at q
   ·rename_i e
    subst e
    exact hin
   ·exact h.id k x q
  npx:=h.npx
  hp:=fun k hk=>by
   have hk':k < e.np:=hk
   simp only [show k≠i by omega,if_false]
   exact h.hp k hk
  fr:=h.fr
  Ss:=fun b o q=>q.elim (h0 b o) (h.Ss b o)
  D0:=h.D0
  gl:=h.gl
  Ds:=h.Ds}
theorem StD.world' (h:StD c e a w D hs S) {w':World} {Z:CS} (hf:Frm w w' Z) (hZS:TV.dj S Z) (hZD:TV.dj D Z) (hZ0:∀ b o,Z b o→c.S0 b o∨c.w0.heap.size≤b):StD c e a w' D hs S:=by
 have hS:TV.sameOn w w' S:=hf.sameOn hZS h.ob.blt
 have hD:TV.sameOn w w' D:=hf.sameOn hZD h.Dl
 exact {
  ob:=ObRep.keep (zD D) hD e.ob S h.ob hS (fun _ _ _=>rfl)
  sl:=fun t s ht=>(h.sl t s ht).kc (zD D) hD (Nat.le_refl _) s _ (fun c _=>by
   cases c <;> first | trivial | exact fun _=>Kp.same h.ob _ rfl rfl hD (fun v S1 G _ _ h2 _=>zQ hS (by rw [h2]; exact qU _ _)))
  sz:=h.sz
  df:=h.df
  dj:=h.dj
  Dl:=fun b o q=>Nat.lt_of_lt_of_le (h.Dl b o q) hf.size
  id:=h.id
  npx:=h.npx
  hp:=h.hp
  fr:=h.fr.trans hf hZ0
  Ss:=h.Ss
  D0:=h.D0
  gl:=h.gl
  Ds:=h.Ds}
theorem qM2 (w:World):Frm w w.drew emp:=⟨rfl,rfl,rfl,Nat.le_refl _,fun _ _ _=>rfl,fun _ _ _ _=>⟨rfl,rfl,rfl⟩⟩
theorem zZ5 {n:Nat}:∀ (rows:List (List V)),(∀ r ∈ rows,r.length=n)→rows.flatten.length=rows.length * n
 | [],_=>by simp
 | r :: rs,hr=>by
  rw [List.flatten_cons,List.length_append,hr r (by simp),zZ5 rs (fun q hq=>hr q (by simp [hq])),List.length_cons,Nat.add_mul,Nat.one_mul]
  omega
theorem list_new {rows:List (List V)} {n cap t:Nat} {us:List Value} {T:CS} (hx:RepRow w D (fun k=>us[k]?) rows.flatten 0 T) (hrl:∀ r ∈ rows,r.length=n)
  (hl:us.length=cap * n) (hc:rows.length≤cap) (hTb:∀ b o,T b o→b < w.heap.size) (hDb:∀ b o,D b o→b < w.heap.size) :
  Rep (w.alloc (.cells us.toArray t)) D (.list true n rows) (.slice (some (ad w.heap.size 0)) rows.length cap) (cup (rng w.heap.size 0 (cap * n)) T):=by
 have hf:=zU1 w (.cells us.toArray t)
 have hfl:=zZ5 rows hrl
 have hcn:rows.length * n≤cap * n:=Nat.mul_le_mul_right n hc
 refine .inr ⟨w.heap.size,0,cap,T,rfl,hc,?_,?_,?_,rfl⟩
 ·refine RepRows.of_flat (rd:=fun k=>us[k]?) rows 0 T ?_ hrl (fun j _ hj=>?_)
  ·rw [Nat.zero_mul]
   exact RepRow.frame (zD D) (hf.sameOn (qR D) hDb) _ _ _ 0 T hx (hf.sameOn (qR T) hTb) (fun j _ hj=>rfl)
  ·rw [Nat.zero_add,zL2]
   simp
 ·intro k hk
  rw [Nat.zero_add,zL2,qI0]
  exact ⟨⟨us[k]'(by omega),by simp [show k < us.length by omega]⟩,rfl⟩
 ·rintro x y ⟨rfl,_,_⟩ q
  have:=hTb _ _ q
  omega
theorem qC7 {P:Program} {t u ty e1 e2:Nat} {A B:Option Addr} {l k m q:Nat} (hu:P.underlying u=some (.slice e1)) (ht:P.underlying t=some (.slice e2)) :
  (Builtin.append_ #[t,u] ty #[.slice A l k,.slice B m q]).run P w=(Builtin.append_ #[t,t] ty #[.slice A l k,.slice B m q]).run P w:=by
 simp [Builtin.append_,run_underlying hu,run_underlying ht]
theorem run_append_none {P:Program} {t ty el:Nat} {de:TyI} {A B:Option Addr} {l k q:Nat} (ht:P.underlying t=some (.slice el)) (hde:TyOk P el de) (hl:l≤k) :
  (Builtin.append_ #[t,t] ty #[.slice A l k,.slice B 0 q]).run P w=.ok (.slice A l k) w:=by
 have hf:∀ w',(Builtin.firstCells de.size 0 (.slice B 0 q)).run P w'=.ok #[] w':=fun w'=>by
  cases B <;> simp [Builtin.firstCells,loadCells,loadCellsFrom]
 cases A <;> simp [Builtin.append_,run_underlying ht,zD2 hde,Builtin.lenOf,hl,hf,storeCells]
theorem run_append_in {P:Program} {t ty el:Nat} {de:TyI} {b o b2 o2 l k m q:Nat} {us:List Value} (ht:P.underlying t=some (.slice el)) (hde:TyOk P el de) (hlen:us.length=m * de.size)
  (hus:∀ j u,us[j]? = some u→w.cell? ((ad b2 o2).add j)=some u) (h1:∀ u ∈ us,u.oneCell'=true) (hr:l+m≤k)
  (hown:∀ j,j < us.length→(∃ z,w.cell? (ad b (o+l * de.size+j))=some z)∧w.frozen? (ad b (o+l * de.size+j))=false) :
  (Builtin.append_ #[t,t] ty #[.slice (some (ad b o)) l k,.slice (some (ad b2 o2)) m q]).run P w=.ok (.slice (some (ad b o)) (l+m) k) (w.setCells b (o+l * de.size) us):=by
 have hf:=run_firstCells_some (P:=P) w de.size m (ad b2 o2) m q us hlen hus
 have hst:=Go.run_storeCells_cells (P:=P) b (o+l * de.size) us 0 w (fun j hj=>by obtain ⟨z,hz⟩:=(hown j hj).1; exact Option.isSome_iff_exists.2 ⟨z,hz⟩) (fun j hj=>(hown j hj).2) h1
 have hst':(storeCells (ad b (o+l * de.size)) us).run P w=.ok () (w.setCells b (o+l * de.size) us):=hst
 simp [Builtin.append_,run_underlying ht,zD2 hde,Builtin.lenOf,hr,hf,zC0,hst']
theorem append_done (h:StD c e a w D hs S) {t u ty el e2:Nat} {de:TyI} {rows rows2:List (List V)} {ux uy:Value} {S1 S2:CS} (ht:X.P.underlying t=some (.slice el)) (hu:X.P.underlying u=some (.slice e2)) (hde:TyOk X.P el de)
  (hx:Rep w D (.list true de.size rows) ux S1) (hy:∃ A cap,uy=.slice A rows2.length cap∧((True∧rows2=[]∧S2=emp)∨∃ b o,A=some (ad b o)∧RepRows w D de.size b o rows2 0 S2))
  (h12:TV.dj S1 S2) (h1S:TV.dj S1 S) (h2S:TV.dj S2 S) (h1D:TV.dj S1 D) (h2D:TV.dj S2 D) (h2l:∀ b o,S2 b o→b < w.heap.size)
  (h10:∀ b o,S1 b o→c.S0 b o∨c.w0.heap.size≤b) (h20:∀ b o,S2 b o→c.S0 b o∨c.w0.heap.size≤b) (hsz:de.size≠0) (hby:de.bytes≤256) (hln:rows.length+rows2.length≤549755813888)
  (h1c:∀ r ∈ rows2,∀ x ∈ r,x.alive=true) :
  ∃ v w' S3,(Builtin.append_ #[t,u] ty #[ux,uy]).run X.P w=.ok v w'∧hdr v=true∧StD c e a w' D hs S∧Rep w' D (.list true de.size (rows++rows2)) v S3∧TV.dj S3 S∧TV.dj S3 D∧(∀ b o,S3 b o→c.S0 b o∨c.w0.heap.size≤b):=by
 obtain ⟨A,cap2,rfl,hy⟩:=hy
 have hbig:(rows.length+rows2.length) * de.bytes≤140737488355328:=by
  have:(rows.length+rows2.length) * de.bytes≤549755813888 * 256:=Nat.mul_le_mul hln hby
  omega
 obtain ⟨i,i1,i2,i3,z,i4,i5⟩:=hde.inf
 have hzs:z.cells.size=de.size:=by
  have:=congrArg List.length i5
  simp [hde.zl] at this
  exact this
 -- nothing appended
 by_cases hm:rows2.length=0
 ·have hr2:rows2=[]:=List.length_eq_zero_iff.1 hm
  subst hr2
  have he:∃ B l k,ux=.slice B l k∧l≤k:=by
   rcases hx with ⟨rfl,q,_⟩ | ⟨b,o',cap,T,rfl,hc,_⟩
   ·obtain rfl:=yT q
    exact ⟨_,_,_,rfl,Nat.le_refl _⟩
   ·exact ⟨_,_,_,rfl,hc⟩
  obtain ⟨B,l,k,rfl,hlk⟩:=he
  refine ⟨_,w,S1,by rw [qC7 hu ht]; exact run_append_none ht hde hlk,rfl,h,by simpa using hx,h1S,h1D,h10⟩
 rcases hy with ⟨_,hy,_⟩ | ⟨b2,o2,rfl,hy⟩
 ·rw [hy] at hm
  exact absurd rfl hm
 -- the cells of what is appended
 obtain ⟨y1,y2,y3⟩:=RepRows.flat rows2 0 S2 hy
 rw [Nat.zero_mul] at y1
 obtain ⟨us2,v1,v2⟩:=RepRow.vals _ _ _ y1
 simp only [Nat.zero_add] at v2
 have hus2:∀ j u,us2[j]? = some u→w.cell? ((ad b2 o2).add j)=some u:=fun j u q=>by rw [zC0]; exact v2 j u q
 have one2:∀ u ∈ us2,u.oneCell'=true:=by
  have gen:∀ (r:List V) (rd:Nat→Option Value) (k:Nat) (T:CS) (us:List Value),RepRow w D rd r k T→(∀ x ∈ r,x.alive=true)→us.length=r.length→(∀ j u,us[j]? = some u→rd (k+j)=some u)→∀ u ∈ us,u.oneCell'=true:=by
   intro r
   induction r with
   | nil=>intro rd k T us _ _ hl _ u hu; rw [List.length_eq_zero_iff.1 hl] at hu; simp at hu
   | cons x r ih =>
    intro rd k T us hr ha hl hj u hu
    obtain ⟨u1,T1,T2,g1,g2,g3,g4,g5⟩:=hr
    cases us with
    | nil=>simp at hl
    | cons u2 us =>
     have e:=hj 0 u2 rfl
     rw [Nat.add_zero,g1] at e
     injection e with e
     subst e
     rcases List.mem_cons.1 hu with rfl | hu
     ·exact g2.oneCell (ha x (by simp))
     ·exact ih rd (k+1) T2 us g3 (fun y hy=>ha y (by simp [hy])) (by simpa using hl) (fun j u hj'=>by have:=hj (j+1) u (by simpa using hj'); rwa [show k+(j+1)=k+1+j by omega] at this) u hu
  refine gen rows2.flatten _ 0 S2 us2 y1 (fun x hx=>?_) v1 (by simpa using v2)
  obtain ⟨r,hr,hxr⟩:=List.mem_flatten.1 hx
  exact h1c r hr x hxr
 have hl2:us2.length=rows2.length * de.size:=by rw [v1,y2]
 have row2:∀ (rd:Nat→Option Value) (k:Nat),(∀ j u,us2[j]? = some u→rd (k+j)=some u)→RepRow w D rd rows2.flatten k S2:=fun rd k hrd=>by
  refine RepRow.shift _ _ rd 0 k S2 y1 (fun q hq=>?_)
  have hql:q < us2.length:=by omega
  rw [hrd q _ (List.getElem?_eq_getElem hql),Nat.zero_add,v2 q _ (List.getElem?_eq_getElem hql)]
 -- a new block
 have grow:∀ (olds:List Value) (T1:CS) (cap:Nat),olds.length=rows.length * de.size→RepRow w D (fun k=>olds[k]?) rows.flatten 0 T1→(∀ r ∈ rows,r.length=de.size)→TV.sub T1 S1→rows.length+rows2.length≤cap →
   ∃ S3,StD c e a (w.drew.alloc (.cells (olds.toArray++us2.toArray++Builtin.zeroCells z.cells (cap - (rows.length+rows2.length))) el)) D hs S ∧
    Rep (w.drew.alloc (.cells (olds.toArray++us2.toArray++Builtin.zeroCells z.cells (cap - (rows.length+rows2.length))) el)) D (.list true de.size (rows++rows2)) (.slice (some (ad w.heap.size 0)) (rows.length+rows2.length) cap) S3 ∧
    TV.dj S3 S∧TV.dj S3 D∧(∀ b o,S3 b o→c.S0 b o∨c.w0.heap.size≤b):=by
  intro olds T1 cap ho hr hrl hsub hcap
  have e0:olds.toArray++us2.toArray++Builtin.zeroCells z.cells (cap - (rows.length+rows2.length))=(olds++us2++(Builtin.zeroCells z.cells (cap - (rows.length+rows2.length))).toList).toArray:=by
   apply Array.ext'
   simp
  rw [e0]
  have hd:=h.world (qM2 w)
  have h2:=hd.world (zU1 w.drew (.cells (olds++us2++(Builtin.zeroCells z.cells (cap - (rows.length+rows2.length))).toList).toArray el))
  have hrl':∀ r ∈ rows++rows2,r.length=de.size:=fun r hr=>(List.mem_append.1 hr).elim (hrl r) (y3 r)
  have hll:(olds++us2++(Builtin.zeroCells z.cells (cap - (rows.length+rows2.length))).toList).length=cap * de.size:=by
   simp only [List.length_append,ho,hl2,Array.length_toList,size_zeroCells,hzs,← Nat.add_mul]
   congr 1
   omega
  have hflat:RepRow w D (fun k=>(olds++us2++(Builtin.zeroCells z.cells (cap - (rows.length+rows2.length))).toList)[k]?) (rows++rows2).flatten 0 (cup T1 S2):=by
   rw [List.flatten_append]
   have hfl:=zZ5 rows hrl
   refine RepRow.join _ _ 0 T1 S2 (RepRow.frame (zD D) (zH w D) _ _ _ 0 T1 hr (zH w T1) (fun j _ hj=>?_)) (row2 _ _ (fun j u hj=>?_)) (yR h12 hsub)
   ·have:j < olds.length:=by omega
    rw [List.append_assoc,List.getElem?_append_left this]
   ·have hjl:=(List.getElem?_eq_some_iff.1 hj).1
    rw [Nat.zero_add,hfl,← ho,List.append_assoc,List.getElem?_append_right (by omega),Nat.add_sub_cancel_left,List.getElem?_append_left hjl]
    exact hj
  have hS1b:∀ b o,S1 b o→b < w.heap.size:=fun b o q=>by
   exact Rep.lt _ _ _ hx b o q
  have hTb:∀ b o,cup T1 S2 b o→b < w.drew.heap.size:=fun b o q=>q.elim (fun q=>hS1b b o (hsub b o q)) (fun q=>h2l b o q)
  have hflat':RepRow w.drew D (fun k=>(olds++us2++(Builtin.zeroCells z.cells (cap - (rows.length+rows2.length))).toList)[k]?) (rows++rows2).flatten 0 (cup T1 S2):=
   RepRow.frame (zD D) ((qM2 w).sameOn (qR D) h.Dl) _ _ _ 0 _ hflat ((qM2 w).sameOn (qR _) hTb) (fun _ _ _=>rfl)
  have hrep:=list_new (w:=w.drew) (t:=el) (cap:=cap) hflat' hrl' hll (by rw [List.length_append]; exact hcap) hTb h.Dl
  rw [List.length_append] at hrep
  refine ⟨_,h2,hrep,?_,?_,?_⟩
  ·exact qV (fun x y p q=>by have:=h.ob.blt x y q; have:=p.1; simp at this; omega) (qV (yR h1S hsub) h2S)
  ·exact qV (fun x y p q=>by have:=h.Dl x y q; have:=p.1; simp at this; omega) (qV (yR h1D hsub) h2D)
  ·rintro x y (q | q | q)
   ·right
    have:=q.1
    simp at this
    rw [this]
    exact h.fr.size
   ·exact h10 x y (hsub x y q)
   ·exact h20 x y q
 rcases hx with ⟨rfl,q,rfl⟩ | ⟨b,o',cap,T,rfl,hc,hrr,hown,hdj,rfl⟩
 ·obtain rfl:=yT q
  have hcap:=grownCap_ge w rows2.length 0 el
  obtain ⟨S3,g1,g2,g3,g4,g5⟩:=grow [] emp (grownCap w rows2.length 0 el) (by simp) rfl (fun r hr=>by simp at hr) (fun _ _ q=>q.elim) (by simpa using hcap)
  have hr:=run_append_nil (P:=X.P) w t ty el i z ht i1 i4 (ad b2 o2) rows2.length cap2 us2 (by rw [i2]; exact hl2) hus2 (by omega) (by omega) (by rw [i3]; simp at hbig; omega)
  simp only [List.length_nil,Nat.zero_add,List.nil_append] at g1 g2
  have e1:(#[]:Array Value)++us2.toArray=us2.toArray:=by simp
  rw [e1] at g1 g2
  exact ⟨_,_,S3,by rw [qC7 hu ht]; exact hr,rfl,g1,by rw [List.nil_append]; exact g2,g3,g4,g5⟩
 ·obtain ⟨x1,x2,x3⟩:=RepRows.flat rows 0 T hrr
  rw [Nat.zero_mul] at x1
  obtain ⟨us1,p1,p2⟩:=RepRow.vals _ _ _ x1
  simp only [Nat.zero_add] at p2
  have hl1:us1.length=rows.length * de.size:=by rw [p1,x2]
  by_cases hroom:rows.length+rows2.length≤cap
  ·have hroomn:rows.length * de.size+rows2.length * de.size≤cap * de.size:=by rw [← Nat.add_mul]; exact Nat.mul_le_mul_right _ hroom
   have hin:TV.sub (rng b (o'+rows.length * de.size) us2.length) (rng b o' (cap * de.size)):=by
    rintro x y ⟨q1,q2,q3⟩
    exact ⟨q1,by omega,by omega⟩
   have hcell:∀ j,j < us2.length→(∃ z,w.cell? (ad b (o'+rows.length * de.size+j))=some z)∧w.frozen? (ad b (o'+rows.length * de.size+j))=false:=fun j hj=>by
    have:=hown (rows.length * de.size+j) (by omega)
    rw [← Nat.add_assoc] at this
    exact this
   have hne:us2≠[]:=fun q=>by
    rw [q,List.length_nil] at hl2
    have:rows2.length * de.size≠0:=Nat.mul_ne_zero hm hsz
    omega
   have hf:=frm_set w b (o'+rows.length * de.size) us2 hne
   have hzS:TV.dj S (rng b (o'+rows.length * de.size) us2.length):=fun x y q1 q2=>h1S x y (.inl (hin x y q2)) q1
   have hzD:TV.dj D (rng b (o'+rows.length * de.size) us2.length):=fun x y q1 q2=>h1D x y (.inl (hin x y q2)) q1
   have h':=h.world' hf hzS hzD (fun x y q=>h10 x y (.inl (hin x y q)))
   have smD:TV.sameOn w (w.setCells b (o'+rows.length * de.size) us2) D:=hf.sameOn hzD h.Dl
   have smT:TV.sameOn w (w.setCells b (o'+rows.length * de.size) us2) T:=fun x y q=>wD (fun q2=>hdj x y (hin x y q2) q)
   have sm2:TV.sameOn w (w.setCells b (o'+rows.length * de.size) us2) S2:=fun x y q=>wD (fun q2=>h12 x y (.inl (hin x y q2)) q)
   have hfl:=zZ5 rows x3
   have hT2:TV.dj T S2:=fun x y q1 q2=>h12 x y (.inr q1) q2
   have hflat:RepRow (w.setCells b (o'+rows.length * de.size) us2) D (fun j=>(w.setCells b (o'+rows.length * de.size) us2).cell? (ad b (o'+j))) (rows++rows2).flatten 0 (cup T S2):=by
    rw [List.flatten_append]
    refine RepRow.join _ _ 0 T S2 (RepRow.frame (zD D) smD _ _ _ 0 T x1 smT (fun j _ hj=>(wD (by rintro ⟨_,q1,q2⟩; omega)).1)) ?_ hT2
    refine RepRow.frame (w:=w) (zD D) smD _ _ _ _ S2 (row2 (fun j=>(w.setCells b (o'+rows.length * de.size) us2).cell? (ad b (o'+j))) (0+rows.flatten.length) (fun j u hj=>?_)) sm2 (fun _ _ _=>rfl)
    rw [Nat.zero_add,hfl,← Nat.add_assoc]
    exact zS2 (fun k hk=>(hcell k hk).1) hj
   refine ⟨.slice (some (ad b o')) (rows.length+rows2.length) cap,_,cup (rng b o' (cap * de.size)) (cup T S2),by rw [qC7 hu ht]; exact run_append_in ht hde hl2 hus2 one2 hroom hcell,rfl,h',?_,?_,?_,?_⟩
   ·refine .inr ⟨b,o',cap,cup T S2,by rw [List.length_append],by rw [List.length_append]; exact hroom,?_,?_,?_,rfl⟩
    ·refine RepRows.of_flat (rows++rows2) 0 _ (by rw [Nat.zero_mul]; exact hflat) (fun r hr=>(List.mem_append.1 hr).elim (x3 r) (y3 r)) (fun j _ _=>rfl)
    ·intro k hk
     by_cases hkj:rows.length * de.size≤k∧k < rows.length * de.size+us2.length
     ·have:(w.setCells b (o'+rows.length * de.size) us2).cell? (ad b (o'+rows.length * de.size+(k - rows.length * de.size)))=some us2[k - rows.length * de.size]:=zS2 (fun k hk=>(hcell k hk).1) (List.getElem?_eq_getElem (by omega))
      rw [show o'+rows.length * de.size+(k - rows.length * de.size)=o'+k by omega] at this
      refine ⟨⟨_,this⟩,?_⟩
      rw [show (w.setCells b (o'+rows.length * de.size) us2).frozen? (ad b (o'+k))=w.frozen? (ad b (o'+k)) from World.frozen?_setCells b us2 _ w _]
      exact (hown k hk).2
     ·have:=wD (w:=w) (b:=b) (o:=o'+rows.length * de.size) (us:=us2) (b':=b) (o':=o'+k) (by rintro ⟨_,q1,q2⟩; omega)
      rw [this.1,this.2]
      exact hown k hk
    ·exact dj_cup hdj (fun x y q1 q2=>h12 x y (.inl q1) q2)
   ·exact qV (kG h1S) (qV (vZ h1S) h2S)
   ·exact qV (kG h1D) (qV (vZ h1D) h2D)
   ·rintro x y (q | q | q)
    ·exact h10 x y (.inl q)
    ·exact h10 x y (.inr q)
    ·exact h20 x y q
  ·have hcap:=grownCap_ge w (rows.length+rows2.length) cap el
   obtain ⟨S3,g1,g2,g3,g4,g5⟩:=grow us1 T (grownCap w (rows.length+rows2.length) cap el) hl1
    (RepRow.shift _ _ _ 0 0 T x1 (fun q hq=>by
     have hql:q < us1.length:=by omega
     rw [Nat.zero_add,p2 q _ (List.getElem?_eq_getElem hql),List.getElem?_eq_getElem hql])) x3 (yO _ _) hcap
   have hr:=run_append_grow (P:=X.P) w t ty el i z ht i1 i4 (ad b o') rows.length cap us1 (by rw [i2]; exact hl1) (fun j u q=>by rw [zC0]; exact p2 j u q) (ad b2 o2) rows2.length cap2 us2 (by rw [i2]; exact hl2) hus2
    (by omega) (by omega) (growslice_fits (by omega) (by rw [i3]; exact hbig))
   exact ⟨_,_,S3,by rw [qC7 hu ht]; exact hr,rfl,g1,g2,g3,g4,g5⟩
end
end Go.TV
namespace Go.TV
def zO6 (rows:List (List V)):Bool:=rows.all fun r=>r.all V.isSc
def qY (rows:List (List V)):Bool:=rows.all fun r=>r.all V.alive
def Env.src (e:Env) (k:C):Option (Nat×List (List V)×Env):=
 match k with
 | .ref i []=>(match e.take (.ref i []) with | some (.list true m rows,e')=>some (m,rows,e') | _=>none)
 | .v (.list _ m rows)=>some (m,rows,e)
 | k=>(e.rows k).bind fun q=>if zO6 q.2=true then some (q.1,q.2,e) else none
def Env.newAt (e:Env) (k:C) (o:Oper) (n:Nat) (rows:List (List V)):Option Env:=
 match k with
 | .ref i []=>if e.np≤i then ({e with ob:=(i,.list true n rows) :: e.ob,sl:=qG (C.killA i) e.sl}:Env).putO o.dst (.pl (.one (.ref i []))) else e.newListO o n rows
 | _=>e.newListO o n rows
def jI (T:Nat→Option TyI) (o:Oper) (t u:Nat) (x y:Operand) (e:Env):Option Env:=
 (T t).bind fun d=>(T u).bind fun du=>match d.kd,du.kd with
  | .slice el,.slice _=>(T el).bind fun de=>if de.size≠0∧de.bytes≤256 then
    (e.cl x).bind fun kx=>(e.cl y).bind fun ky=>(e.take kx).bind fun q=>match q.1 with
     | .list true n rows=>if n=de.size then (q.2.src ky).bind fun z=>if z.1=n∧rows.length+z.2.1.length≤549755813888∧qY z.2.1=true then z.2.2.newAt kx o n (rows++z.2.1) else none else none
     | _=>none
    else none
  | _,_=>none
section
variable {gG:GG} {c:Ctx gG} {e e':Env} {a:Act} {w:World} {D:CS} {hs:Nat→Value} {S:CS} {X:Cfg} {o:Oper}
theorem sc_emp {n b o':Nat}:∀ (rows:List (List V)) (k:Nat) (S1:CS),zO6 rows=true→RepRows w D n b o' rows k S1→S1=emp
 | [],_,_,_,h=>h
 | r :: rs,k,S1,hs,h=>by
  obtain ⟨T1,T2,h1,h2,h3,h4,rfl⟩:=h
  simp only [zO6,List.all_cons,Bool.and_eq_true] at hs
  have e2:=sc_emp rs (k+1) T2 hs.2 h3
  have e1:∀ (r:List V) (rd:Nat→Option Value) (k:Nat) (T:CS),r.all V.isSc=true→RepRow w D rd r k T→T=emp:=by
   intro r
   induction r with
   | nil=>intro _ _ _ _ h; exact h
   | cons v r ih =>
    intro rd k T hs h
    obtain ⟨u,U1,U2,g1,g2,g3,g4,rfl⟩:=h
    simp only [List.all_cons,Bool.and_eq_true] at hs
    have:=ih rd (k+1) U2 hs.2 g3
    subst this
    cases v <;> simp [V.isSc] at hs
    obtain ⟨_,_,rfl⟩:=g2
    exact zV emp
  rw [e1 r _ _ T1 hs.1 h2,e2,zV]
theorem qM9 {k:C} {x:V} {i:Nat} (h:StD c e a w D hs S) (hi:lk i e.ob=none) (hk:e.take k=some (x,e')):lk i e'.ob=none:=by
 cases k with
 | v y=>injection hk with hk; injection hk with h1 h2; subst h2; exact hi
 | ba row=>injection hk with hk; injection hk with h1 h2; subst h2; exact hi
 | ref m p =>
  cases p with
  | nil =>
   simp only [Env.take] at hk
   obtain ⟨v,h1,h2⟩:=Option.map_eq_some_iff.1 hk
   injection h2 with h2 h3
   subst h3
   by_cases q:i=m
   ·subst q; exact ObRep.del e.ob _ h.ob
   ·simp only [zQ2 q]; exact hi
  | cons s p =>
   simp only [Env.take] at hk
   obtain ⟨v,h1,h2⟩:=zbi hk
   obtain ⟨y,h3,h2⟩:=Option.map_eq_some_iff.1 h2
   injection h2 with h2 h4
   subst h4
   by_cases q:i=m
   ·subst q; rw [hi] at h1; cases h1
   ·simp only [zB0 q]; exact hi
 | _=>cases hk
theorem StD.src (h:StD c e a w D hs S) {k:C} {m:Nat} {rows:List (List V)} {u:Value} (hk:e.src k=some (m,rows,e')) (hu:CRep w D hs e.nx e.ob k u) :
  ∃ S2 S',(∃ A cap,u=.slice A rows.length cap∧((True∧rows=[]∧S2=emp)∨∃ b o,A=some (ad b o)∧RepRows w D m b o rows 0 S2))∧StD c e' a w D hs S'∧TV.dj S2 S'∧sub S2 S∧sub S' S ∧
   e'.nx=e.nx∧e'.np=e.np∧e'.N=e.N∧(∀ i,lk i e.ob=none→lk i e'.ob=none):=by
 unfold Env.src at hk
 split at hk
 ·rename_i i
  split at hk
  case h_2=>cases hk
  rename_i m' rows' e1 ht
  injection hk with hk
  injection hk with h1 h2
  injection h2 with h2 h3
  subst h1
  subst h2
  subst h3
  obtain ⟨S1,S',g1,g2,g3,g4,g5,g6,g7,g8,g9⟩:=h.take ht hu
  rcases g1 with ⟨rfl,q,rfl⟩ | ⟨b,o',cap,T,rfl,k1,k2,k3,k4,rfl⟩
  ·exact ⟨emp,S',⟨none,0,yT q,.inl ⟨trivial,rfl,rfl⟩⟩,g2,zW _,fun _ _ q=>q.elim,g5,g6,g7,g8,fun i hi=>qM9 h hi ht⟩
  ·exact ⟨T,S',⟨_,cap,rfl,.inr ⟨b,o',rfl,k2⟩⟩,g2,vZ g3,fun x y q=>g4 x y (.inr q),g5,g6,g7,g8,fun i hi=>qM9 h hi ht⟩
 ·rename_i own m' rows'
  injection hk with hk
  injection hk with h1 h2
  injection h2 with h2 h3
  subst h1
  subst h2
  subst h3
  rcases hu with ⟨rfl,q,_⟩ | ⟨b,o',cap,T,rfl,k1,k2,k3⟩
  ·obtain ⟨A,rfl⟩:=zK8 q
   exact ⟨emp,S,⟨A,0,rfl,.inl ⟨trivial,rfl,rfl⟩⟩,h,zW _,fun _ _ q=>q.elim,zD S,rfl,rfl,rfl,fun _ q=>q⟩
  ·have hT:T=emp:=by
    cases own with
    | true=>exact emp_r k3.2.2
    | false=>exact k3.1
   subst hT
   exact ⟨emp,S,⟨_,cap,rfl,.inr ⟨b,o',rfl,k2⟩⟩,h,zW _,fun _ _ q=>q.elim,zD S,rfl,rfl,rfl,fun _ q=>q⟩
 ·obtain ⟨⟨m',rows'⟩,h1,h2⟩:=zbi hk
  split at h2
  case isFalse=>cases h2
  rename_i hsc
  injection h2 with h2
  injection h2 with h3 h2
  injection h2 with h2 h4
  subst h3
  subst h2
  subst h4
  obtain ⟨A,cap,g1,g2⟩:=h.rows h1 hu
  refine ⟨emp,S,⟨A,cap,g1,?_⟩,h,zW _,fun _ _ q=>q.elim,zD S,rfl,rfl,rfl,fun _ q=>q⟩
  rcases g2 with ⟨_,g2⟩ | ⟨b,o',S1,rfl,g3,_⟩
  ·exact .inl ⟨trivial,g2,rfl⟩
  ·have:=sc_emp _ _ _ hsc g3
   subst this
   exact .inr ⟨b,o',rfl,g3⟩
theorem StD.newAt (h:StD c e a w D hs S) {k:C} {n:Nat} {rows:List (List V)} {u:Value} {S1:CS} (hk:∀ i,k=.ref i []→lk i e.ob=none∧i < e.nx) (hv:Rep w D (.list true n rows) u S1) (hj:TV.dj S1 S) (hjD:TV.dj S1 D)
  (h0:∀ b o,S1 b o→c.S0 b o∨c.w0.heap.size≤b) (hh:hdr u=true) (he:e.newAt k o n rows=some e'):St c e' (a.put o.dst u) w:=by
 have dflt:e.newListO o n rows=some e'→St c e' (a.put o.dst u) w:=fun he=>by
  have:=h.obj hv hj hjD h0
  exact ⟨D,_,_,this.putO he (qE6 (by simp) hh)⟩
 unfold Env.newAt at he
 split at he
 ·rename_i i
  split at he
  ·rename_i hnp
   obtain ⟨k1,k2⟩:=hk i rfl
   have:=h.objAt k1 k2 hnp hv hj hjD h0
   refine ⟨D,_,_,this.putO he ⟨k2,fun v' x' q1 q2=>⟨_,rfl,?_,?_⟩⟩⟩
   ·simpa using hh
   ·simp
  ·exact dflt he
 ·exact dflt he
theorem evAppend_ok (h:StD c e a w D hs S) {t u:Nat} {x y:Operand} (ho:o.op=.call {callee:=.builtin .append,args:=#[x,y],argTypes:=#[t,u]}) (he:jI X.T o t u x y e=some e'):Did X.P c o a w e':=by
 obtain ⟨d,h1,h2⟩:=zbi he
 obtain ⟨du,h3,h2⟩:=zbi h2
 split at h2
 case h_2=>cases h2
 rename_i el e2 hk1 hk2
 obtain ⟨de,h4,h2⟩:=zbi h2
 split at h2
 case isFalse=>cases h2
 rename_i hsz
 obtain ⟨kx,h5,h2⟩:=zbi h2
 obtain ⟨ky,h6,h2⟩:=zbi h2
 obtain ⟨⟨tr,e1⟩,h7,h2⟩:=zbi h2
 simp only at h2
 split at h2
 case h_2=>cases h2
 rename_i n rows
 split at h2
 case isFalse=>cases h2
 rename_i hn
 subst hn
 obtain ⟨⟨m,rows2,e3⟩,h8,h2⟩:=zbi h2
 simp only at h2
 split at h2
 case isFalse=>cases h2
 rename_i hc
 obtain ⟨c1,c2,c3⟩:=hc
 subst c1
 obtain ⟨S1,S',g1,g2,g3,g4,g5,g6,g7,g8,g9⟩:=h.take h7 (h.cl h5)
 obtain ⟨S2,S'',f1,f2,f3,f4,f5,f6,f7,f8,f9⟩:=g2.src h8 (g9 _ _ (h.cl h6))
 obtain ⟨v,w',S3,r1,r2,r3,r4,r5,r6,r7⟩:=append_done (X:=X) f2 (ty:=o.type) (xC (X.hT _ _ h1) hk1) (xC (X.hT _ _ h3) hk2) (X.hT _ _ h4) g1 f1 (zA0 g3 f4) (zA0 g3 f5) f3
  (yR h.dj g4) (yR h.dj (zZ f4 g5)) (fun b o q=>h.ob.blt b o (g5 b o (f4 b o q))) (fun b o q=>h.Ss b o (g4 b o q)) (fun b o q=>h.Ss b o (g5 b o (f4 b o q))) hsz.1 hsz.2 c2
  (fun r hr x hx=>by
   simp only [qY,List.all_eq_true] at c3
   exact c3 r hr x hx)
 refine ⟨v,w',.inl ?_,r3.newAt (fun i hi=>?_) r4 r5 r6 r7 r2 h2⟩
 ·simp [execOp,ho,resolve,invoke,builtin,r1]
 ·subst hi
  have hcl:=h.cl h5
  simp only [Env.take] at h7
  obtain ⟨v0,z1,z2⟩:=Option.map_eq_some_iff.1 h7
  injection z2 with z2 z3
  subst z3
  exact ⟨f9 i (ObRep.del e.ob _ h.ob),by rw [f6]; exact hcl.1⟩
end
end Go.TV
namespace Go.TV
def wpV (X:Cfg) (c:Code) (Post:Exit→Env→Prop) (e:Env):Prop:=
 ∀ (k:Ctx X.G) (a:Act) (w:World),St k e a w→c.wp X.P (fun x a' w'=>∃ e',Post x e'∧St k e' a' w') a w
def opsV (X:Cfg) (ops:Array Oper) (l:List Oper) (Post:Exit→Env→Prop) (e:Env):Prop:=
 ∀ (k:Ctx X.G) (a:Act) (w:World),St k e a w→wpList X.P ops (fun x a' w'=>∃ e',Post x e'∧St k e' a' w') l a w
section
variable {X:Cfg} {Post:Exit→Env→Prop} {e e':Env}
theorem qL2 {c:Code} {Post':Exit→Env→Prop} (h:wpV X c Post e) (hp:∀ x e,Post x e→Post' x e):wpV X c Post' e:=
 fun k a w hs=>Code.wp_mono (fun x a w ⟨e',h1,h2⟩=>⟨e',hp x e' h1,h2⟩) (h k a w hs)
theorem wpV_skip (h:Post .normal e):wpV X .skip Post e:=fun k a w hs=>wp_skip ⟨e,h,hs⟩
theorem wpV_ret (h:Post .ret e):wpV X .ret Post e:=fun k a w hs=>wp_ret ⟨e,h,hs⟩
theorem wpV_exit {id:Nat} (h:Post (.exit id) e):wpV X (.exit id) Post e:=fun k a w hs=>wp_exit ⟨e,h,hs⟩
def yU (next:Env→Prop) (Post:Exit→Env→Prop):Exit→Env→Prop
 | .normal,e=>next e
 | x,e=>Post x e
theorem wpV_seq {c d:Code} (h:wpV X c (yU (wpV X d Post) Post) e):wpV X (.seq c d) Post e:=fun k a w hs=>by
 refine wp_seq (Code.wp_mono (fun x a w hq=>?_) (h k a w hs))
 obtain ⟨e',h1,h2⟩:=hq
 cases x with
 | normal=>exact h1 k a w h2
 | _=>exact ⟨e',h1,h2⟩
def yP (id:Nat) (Post:Exit→Env→Prop):Exit→Env→Prop
 | .exit id',e=>if id'=id then Post .normal e else Post (.exit id') e
 | x,e=>Post x e
theorem wpV_block {id:Nat} {c:Code} (h:wpV X c (yP id Post) e):wpV X (.block id c) Post e:=fun k a w hs=>by
 refine wp_block (Code.wp_mono (fun x a w hq=>?_) (h k a w hs))
 obtain ⟨e',h1,h2⟩:=hq
 cases x with
 | exit id' =>
  simp only [Exit.inBlock,yP] at h1 ⊢
  split
  ·rename_i hid
   rw [if_pos hid] at h1
   exact ⟨e',h1,h2⟩
  ·rename_i hid
   rw [if_neg hid] at h1
   exact ⟨e',h1,h2⟩
 | _=>exact ⟨e',h1,h2⟩
theorem wpV_cond {x:Operand} {b:Bool} {c d:Code} (hx:e.sc x=some (.bool b)) (h1:b=true→wpV X c Post e) (h2:b=false→wpV X d Post e):wpV X (.cond x c d) Post e:=fun k a w hs=>by
 obtain ⟨D,hs',S,hd⟩:=hs
 exact wp_cond_split (hd.sc hx).1 (fun hb=>h1 hb k a w ⟨D,hs',S,hd⟩) (fun hb=>h2 hb k a w ⟨D,hs',S,hd⟩)
theorem wpV_loop {c:Code} (I:Nat→Env→Prop) {n:Nat} (h0:I n e) (h:∀ n e,I n e→wpV X c (yU (fun e'=>∃ m,m < n∧I m e') Post) e):wpV X (.loop c) Post e:=fun k a w hs=>by
 intro b kk cs
 have key:∀ n e a w,I n e→St k e a w→∃ x a' w',(∃ e',Post x e'∧St k e' a' w')∧Arrives X.P (lone (b.at a (.code c :: .inLoop c :: kk)) cs w) b kk cs x a' w':=by
  intro n
  induction n using Nat.strongRecOn with
  | _ n ih =>
   intro e a w hI hs
   obtain ⟨x,a₁,w₁,⟨e₁,hq,hs₁⟩,harr⟩:=h n e hI k a w hs b (.inLoop c :: kk) cs
   cases x with
   | normal =>
    obtain ⟨m,hlt,hI₁⟩:=hq
    obtain ⟨x₂,a₂,w₂,hq₂,harr₂⟩:=ih m hlt e₁ a₁ w₁ hI₁ hs₁
    exact ⟨x₂,a₂,w₂,hq₂,.of_steps (Steps.trans harr (.one step_inLoop)) harr₂⟩
   | exit id=>exact ⟨_,a₁,w₁,⟨e₁,hq,hs₁⟩,.pass (x:=.inLoop c) rfl (fun _ _=>.inl (by simp)) harr⟩
   | goto l=>exact ⟨_,a₁,w₁,⟨e₁,hq,hs₁⟩,.pass (x:=.inLoop c) rfl (fun _ _=>.inl (by simp)) harr⟩
   | ret=>exact ⟨_,a₁,w₁,⟨e₁,hq,hs₁⟩,.pass (x:=.inLoop c) rfl (fun _ _=>.inl (by simp)) harr⟩
   | panic ch=>exact ⟨_,a₁,w₁,⟨e₁,hq,hs₁⟩,.pass (x:=.inLoop c) rfl (fun _ _=>.inl (by simp)) harr⟩
   | outgrown=>exact ⟨_,a₁,w₁,⟨e₁,hq,hs₁⟩,.pass (x:=.inLoop c) rfl (fun _ _=>.inl (by simp)) harr⟩
 obtain ⟨x,a',w',hq,harr⟩:=key n e a w h0 hs
 exact ⟨x,a',w',hq,.of_steps (.one step_loop) harr⟩
theorem qD3 {id:Nat} {l:List Oper} (h:opsV X l.toArray l Post e):wpV X (.region id l.toArray false) Post e:=fun k a w hs=>wp_region_lit (h k a w hs)
theorem qE4 {ops:Array Oper} (h:Post .normal e):opsV X ops [] Post e:=fun k a w hs=>wpList_nil ⟨e,h,hs⟩
def Does (X:Cfg) (o:Oper) (e e':Env):Prop:=∀ (k:Ctx X.G) (a:Act) (w:World),St k e a w→Did X.P k o a w e'
theorem Did.upon {P:Program} {gG:GG} {k:Ctx gG} {o:Oper} {a:Act} {w:World} {e':Env} {next:Act→World→Prop} {Q:Exit→Act→World→Prop} (h:Did P k o a w e') (hn:∀ a w,St k e' a w→next a w):o.wp P a w next Q:=by
 obtain ⟨u,w',hr,hs⟩:=h
 unfold Oper.wp
 rcases hr with hr | ⟨hr,rfl⟩ <;> rw [hr]
 ·exact hn _ _ hs
 ·exact hn _ _ hs
theorem qF5 {ops:Array Oper} {o:Oper} {l:List Oper} (hg:o.guard=none) (hd:Does X o e e') (h:opsV X ops l Post e'):opsV X ops (o :: l) Post e:=fun k a w hs =>
 wpList_plain hg (fun K hK=>(hd k a w hs).upon (fun a w hs'=>hK a w (h k a w hs')))
theorem StD.wanted {gG:GG} {k:Ctx gG} {a:Act} {w:World} {D:CS} {hs:Nat→Value} {S:CS} (hd:StD k e a w D hs S) {ops:Array Oper} {o oj:Oper} {j d:Nat} {want b:Bool} (hg:o.guard=some (j,want)) (hj:ops[j]? = some oj) (hjd:oj.dst=some d) (hb:e.sc (.tmp d)=some (.bool b)) :
  Region.wanted o (yielded ops a.tmps)=(b == want):=by
 have hbv:=(hd.sc hb).1
 have hsz:d < a.tmps.size:=by
  rcases Nat.lt_or_ge d a.tmps.size with q | q
  ·exact q
  ·simp only [Act.eval,Array.getD_eq_getD_getElem?,Array.getElem?_eq_none q,Option.getD_none] at hbv
   cases hbv
 have hy:yielded ops a.tmps j=some b:=by
  simp only [Act.eval,Array.getD_eq_getD_getElem?,Array.getElem?_eq_getElem hsz,Option.getD_some] at hbv
  simp [yielded,hj,hjd,Array.getElem?_eq_getElem hsz,hbv]
 simp only [Region.wanted,hg,hy]
 cases b <;> cases want <;> rfl
theorem StD.unwanted {gG:GG} {k:Ctx gG} {a:Act} {w:World} {D:CS} {hs:Nat→Value} {S:CS} (hd:StD k e a w D hs S) {ops:Array Oper} {o oj:Oper} {j d:Nat} {want:Bool} (hg:o.guard=some (j,want)) (hj:ops[j]? = some oj) (hjd:oj.dst=some d) (hb:e.val (.tmp d)=some (.tup [])) :
  Region.wanted o (yielded ops a.tmps)=false:=by
 obtain ⟨us,h1,h2⟩:=hd.sl d _ hb
 have h2:us=[]:=h2
 subst h2
 have hy:yielded ops a.tmps j=none:=by
  rcases Nat.lt_or_ge d a.tmps.size with q | q
  ·simp only [Array.getD_eq_getD_getElem?,Array.getElem?_eq_getElem q,Option.getD_some] at h1
   simp [yielded,hj,hjd,Array.getElem?_eq_getElem q,h1]
  ·simp [yielded,hj,hjd,Array.getElem?_eq_none q]
 simp [Region.wanted,hg,hy]
theorem qH3 {ops:Array Oper} {o oj:Oper} {l:List Oper} {j d:Nat} {want b:Bool} (hg:o.guard=some (j,want)) (hj:ops[j]? = some oj) (hjd:oj.dst=some d) (hb:e.sc (.tmp d)=some (.bool b))
  (h1:b=want→opsV X ops ({o with guard:=none} :: l) Post e) (h2:b=!want→∃ e',e.putO o.dst (.tup [])=some e'∧opsV X ops l Post e'):opsV X ops (o :: l) Post e:=fun k a w hs=>by
 obtain ⟨D,hs',S,hd⟩:=hs
 have hw:=hd.wanted hg hj hjd hb
 by_cases q:b=want
 ·have:=h1 q k a w ⟨D,hs',S,hd⟩
  have hw':Region.wanted {o with guard:=none} (yielded ops a.tmps)=true:=rfl
  unfold wpList at this ⊢
  rw [hw'] at this
  rw [hw,show (b == want)=true by simp [q]]
  simp only [if_true] at this ⊢
  exact this
 ·have q':b=!want:=by cases b <;> cases want <;> simp_all
  obtain ⟨e',h3,h4⟩:=h2 q'
  unfold wpList
  rw [hw,show (b == want)=false by simp [q]]
  simp only [Bool.false_eq_true,if_false]
  exact h4 k _ w ⟨D,hs',S,hd.putO h3 (u:=undef) ⟨[],rfl,rfl⟩⟩
theorem opsV_dead {ops:Array Oper} {o oj:Oper} {l:List Oper} {j d:Nat} {want:Bool} (hg:o.guard=some (j,want)) (hj:ops[j]? = some oj) (hjd:oj.dst=some d) (hb:e.val (.tmp d)=some (.tup []))
  (he:e.putO o.dst (.tup [])=some e') (h:opsV X ops l Post e'):opsV X ops (o :: l) Post e:=fun k a w ⟨D,hs,S,hd⟩=>by
 have hw:=hd.unwanted hg hj hjd hb
 unfold wpList
 rw [hw]
 simp only [Bool.false_eq_true,if_false]
 exact h k _ w ⟨D,hs,S,hd.putO he (u:=undef) ⟨[],rfl,rfl⟩⟩
def evOp (T:Nat→Option TyI) (o:Oper) (e:Env):Option Env:=
 match o.op with
 | .move x=>xD o x e
 | .assign x=>jB o x e
 | .pick c x y=>xV o c x y e
 | .binOp op t x y _=>wF T o op t x y e
 | .unOp op _ x=>zA7 o op x e
 | .extract x i=>qP o x i e
 | .nilCheck x=>wH o x e
 | .fieldAddr t x f=>zX T o t x f e
 | .indexAddr t x i=>zY T o t x i e
 | .index t x i=>jM T o t x i e
 | .field t x f=>jK T o t x f e
 | .load t x=>xU T o t x e
 | .slice t x lo hi mx=>jS T o t x lo hi mx e
 | .convert s d x=>evConv T o s d x e
 | .alloc t=>xM T o t e
 | .box _ x=>uG o x e
 | .build t ps=>xN T o t ps.toList e
 | .buildSlice t n ps=>qC T o t n ps.toList e
 | .makeSlice t l k=>vO T o t l k e
 | .store t x y=>jZ T o t x y e
 | .call {callee:=.builtin b,args:=as,argTypes:=ts}=>match b,as.toList,ts.toList with
  | .len,[x],[t]=>wG T o t x e
  | .append,[x,y],[t,u]=>jI T o t u x y e
  | .min,[x,y],_=>qD o false x y e
  | .max,[x,y],_=>qD o true x y e
  | _,_,_=>none
 | _=>none
theorem evOp_ok {o:Oper} (he:evOp X.T o e=some e'):Does X o e e':=fun k a w ⟨D,hs,S,h⟩=>by
 unfold evOp at he
 split at he
 ·exact evMove_ok h ‹_› he
 ·exact evAssign_ok h ‹_› he
 ·exact evPick_ok h ‹_› he
 ·exact evBin_ok h ‹_› he
 ·exact evUn_ok h ‹_› he
 ·exact evExtract_ok h ‹_› he
 ·exact evNil_ok h ‹_› he
 ·exact evFieldAddr_ok h ‹_› he
 ·exact evIndexAddr_ok h ‹_› he
 ·exact evIndex_ok h ‹_› he
 ·exact evField_ok h ‹_› he
 ·exact evLoad_ok h ‹_› he
 ·exact evSlice_ok h ‹_› he
 ·exact evConv_ok h ‹_› he
 ·exact evAlloc_ok h ‹_› he
 ·exact evBox_ok h ‹_› he
 ·exact evBuild_ok h ‹_› he
 ·exact evBuildSlice_ok h ‹_› he
 ·exact evMake_ok h ‹_› he
 ·exact evStore_ok h ‹_› he
 ·rename_i b as ts ho
  split at he
  ·rename_i x t h1 h2
   rw [show as = #[x] from Array.ext' h1,show ts = #[t] from Array.ext' h2] at ho
   exact evLen_ok h ho he
  ·rename_i x y t u h1 h2
   rw [show as = #[x,y] from Array.ext' h1,show ts = #[t,u] from Array.ext' h2] at ho
   exact evAppend_ok h ho he
  ·rename_i x y h1
   rw [show as = #[x,y] from Array.ext' h1] at ho
   exact evMin_ok h ho he
  ·rename_i x y h1
   rw [show as = #[x,y] from Array.ext' h1] at ho
   exact evMax_ok h ho he
  ·cases he
 ·cases he
end
end Go.TV
namespace Go.TV
mutual
def V.bor:V→V
 | .list _ n rows=>.list false n (jY rows)
 | .box _ row=>.box false (qB row)
 | .sc v=>.sc v
 | .fn f caps=>.fn f caps
 | .bld _ _ _=>.dead
 | .dead=>.dead
def qB:List V→List V
 | []=>[]
 | v :: r=>v.bor :: qB r
def jY:List (List V)→List (List V)
 | []=>[]
 | r :: rs=>qB r :: jY rs
end
theorem zK4:∀ (r:List V),qB r=r.map V.bor
 | []=>rfl
 | v :: r=>by simp [qB,zK4 r]
theorem zY0:∀ (rs:List (List V)),jY rs=rs.map (·.map V.bor)
 | []=>rfl
 | r :: rs=>by simp [jY,zK4,zY0 rs]
mutual
def V.noBor:V→Bool
 | .list own _ rows=>own && zP rows
 | .box own row=>own && zT row
 | .sc _=>true
 | .fn _ caps=>caps.isEmpty
 | .bld _ _ _=>true
 | .dead=>true
def zT:List V→Bool
 | []=>true
 | v :: r=>v.noBor && zT r
def zP:List (List V)→Bool
 | []=>true
 | r :: rs=>zT r && zP rs
end
theorem cup_emp_emp:cup emp emp=emp:=zV emp
mutual
theorem Rep.lent {w:World} {D D2:CS}:∀ (v:V) (u:Value) (S:CS),Rep w D v u S→sub D D2→sub S D2→v.alive=true→Rep w D2 v.bor u emp
 | .sc _,_,_,h,_,_,_=>by obtain ⟨h1,h2,_⟩:=h; exact ⟨h1,h2,rfl⟩
 | .list own n rows,u,S,h,hD,hS,_=>by
  rcases h with ⟨rfl,h1,_⟩ | ⟨b,o,cap,S1,hu,hc,hr,hm⟩
  ·exact .inl ⟨rfl,h1.elim .inl (fun h1=>.inr ⟨rfl,h1.2⟩),rfl⟩
  ·have hl:(jY rows).length=rows.length:=by simp [zY0]
   have hsub:sub (rng b o (rows.length * n)) D2∧sub S1 D2:=by
    cases own with
    | true =>
     obtain ⟨_,_,rfl⟩:=hm
     have hcn:rows.length * n≤cap * n:=Nat.mul_le_mul_right n hc
     exact ⟨fun x y q=>hS x y (.inl ⟨q.1,q.2.1,by have:=q.2.2; omega⟩),fun x y q=>hS x y (.inr q)⟩
    | false=>obtain ⟨rfl,_,h3⟩:=hm; exact ⟨zZ h3 hD,fun _ _ q=>q.elim⟩
   exact .inr ⟨b,o,cap,emp,by rw [hl]; exact hu,by rw [hl]; exact hc,RepRows.lent n b o rows 0 S1 hr hD hsub.2,rfl,rfl,by rw [hl]; exact hsub.1⟩
 | .box own row,u,S,h,hD,hS,_=>by
  obtain ⟨b,o,S1,hu,hr,hm⟩:=h
  have hl:(qB row).length=row.length:=by simp [zK4]
  have hsub:sub (rng b o row.length) D2∧sub S1 D2:=by
   cases own with
   | true=>obtain ⟨_,_,rfl⟩:=hm; exact ⟨fun x y q=>hS x y (.inl q),fun x y q=>hS x y (.inr q)⟩
   | false=>obtain ⟨rfl,_,h3⟩:=hm; exact ⟨zZ h3 hD,fun _ _ q=>q.elim⟩
  exact ⟨b,o,emp,hu,RepRow.lent row _ 0 S1 hr hD hsub.2,rfl,rfl,by rw [hl]; exact hsub.1⟩
 | .fn f caps,u,S,h,hD,_,_=>by
  obtain ⟨us,h1,h2,h3,_⟩:=h
  exact ⟨us,h1,h2,RepRow.frame hD (zH w D) caps _ _ 0 emp h3 (zH w emp) (fun _ _ _=>rfl),rfl⟩
 | .bld _ _ _,_,_,_,_,_,_=>rfl
 | .dead,_,_,_,_,_,h=>by cases h
theorem RepRow.lent {w:World} {D D2:CS}:∀ (vs:List V) (rd:Nat→Option Value) (k:Nat) (S:CS),RepRow w D rd vs k S→sub D D2→sub S D2→RepRow w D2 rd (qB vs) k emp
 | [],_,_,_,_,_,_=>rfl
 | v :: vs,rd,k,S,h,hD,hS=>by
  obtain ⟨u,S1,S2,h1,h2,h3,h4,rfl⟩:=h
  have hv:Rep w D2 v.bor u emp:=by
   by_cases ha:v.alive=true
   ·exact Rep.lent v u S1 h2 hD (fun x y q=>hS x y (.inl q)) ha
   ·cases v <;> simp [V.alive] at ha
    rfl
  exact ⟨u,emp,emp,h1,hv,RepRow.lent vs rd (k+1) S2 h3 hD (fun x y q=>hS x y (.inr q)),zW _,cup_emp_emp.symm⟩
theorem RepRows.lent {w:World} {D D2:CS}:∀ (n b o:Nat) (rs:List (List V)) (k:Nat) (S:CS),RepRows w D n b o rs k S→sub D D2→sub S D2→RepRows w D2 n b o (jY rs) k emp
 | _,_,_,[],_,_,_,_,_=>rfl
 | n,b,o,r :: rs,k,S,h,hD,hS=>by
  obtain ⟨S1,S2,h1,h2,h3,h4,rfl⟩:=h
  exact ⟨emp,emp,by rw [zK4,List.length_map]; exact h1,RepRow.lent r _ 0 S1 h2 hD (fun x y q=>hS x y (.inl q)),RepRows.lent n b o rs (k+1) S2 h3 hD (fun x y q=>hS x y (.inr q)),zW _,cup_emp_emp.symm⟩
end
mutual
theorem Rep.free {w:World} {D D2:CS}:∀ (v:V) (u:Value) (S:CS),Rep w D v u S→v.noBor=true→Rep w D2 v u S
 | .sc _,_,_,h,_=>h
 | .list own n rows,u,S,h,hn=>by
  simp only [V.noBor,Bool.and_eq_true] at hn
  obtain ⟨rfl,hn⟩:=hn
  rcases h with h | ⟨b,o,cap,S1,hu,hc,hr,hm⟩
  ·exact .inl h
  ·exact .inr ⟨b,o,cap,S1,hu,hc,RepRows.free n b o rows 0 S1 hr hn,hm⟩
 | .box own row,u,S,h,hn=>by
  simp only [V.noBor,Bool.and_eq_true] at hn
  obtain ⟨rfl,hn⟩:=hn
  obtain ⟨b,o,S1,hu,hr,hm⟩:=h
  exact ⟨b,o,S1,hu,RepRow.free row _ 0 S1 hr hn,hm⟩
 | .fn f caps,u,S,h,hn=>by
  simp only [V.noBor,List.isEmpty_iff] at hn
  subst hn
  obtain ⟨us,h1,h2,_,h4⟩:=h
  exact ⟨us,h1,h2,rfl,h4⟩
 | .bld _ _ _,_,_,h,_=>h
 | .dead,_,_,h,_=>h
theorem RepRow.free {w:World} {D D2:CS}:∀ (vs:List V) (rd:Nat→Option Value) (k:Nat) (S:CS),RepRow w D rd vs k S→zT vs=true→RepRow w D2 rd vs k S
 | [],_,_,_,h,_=>h
 | v :: vs,rd,k,S,h,hn=>by
  simp only [zT,Bool.and_eq_true] at hn
  obtain ⟨u,S1,S2,h1,h2,h3,h4,h5⟩:=h
  exact ⟨u,S1,S2,h1,Rep.free v u S1 h2 hn.1,RepRow.free vs rd (k+1) S2 h3 hn.2,h4,h5⟩
theorem RepRows.free {w:World} {D D2:CS}:∀ (n b o:Nat) (rs:List (List V)) (k:Nat) (S:CS),RepRows w D n b o rs k S→zP rs=true→RepRows w D2 n b o rs k S
 | _,_,_,[],_,_,h,_=>h
 | n,b,o,r :: rs,k,S,h,hn=>by
  simp only [zP,Bool.and_eq_true] at hn
  obtain ⟨S1,S2,h1,h2,h3,h4,h5⟩:=h
  exact ⟨S1,S2,h1,RepRow.free r _ 0 S1 h2 hn.1,RepRows.free n b o rs (k+1) S2 h3 hn.2,h4,h5⟩
end
def zG:List (Ag V)→List V
 | []=>[]
 | .one x :: as=>x :: zG as
 | .agg xs :: as=>xs++zG as
def yW {α:Type}:List (Ag α)→List Value→List Value→Prop
 | [],us,fl=>us=[]∧fl=[]
 | .one _ :: as,us,fl=>∃ u us' fl',us=u :: us'∧fl=u :: fl'∧yW as us' fl'
 | .agg xs :: as,us,fl=>∃ vs us' fl',us=.agg vs.toArray :: us'∧vs.length=xs.length∧fl=vs++fl'∧yW as us' fl'
def ResV (rs:List (Ag V)) (u:Value) (fl:List Value):Prop:=
 match rs with
 | [r]=>yW [r] [u] fl
 | rs=>∃ us:List Value,u=.tuple us.toArray∧yW rs us fl
def Fn (X:Cfg) (f:Nat) (as rs:List (Ag V)) (fin:List (Nat×V)):Prop:=
 (∃ fn, X.P.funcs[f]? = some fn ∧ fn.body.isSome = true ∧ (fn.name == "runtime.NumGoroutine") = false) ∧
 ∀ (w:World) (D S:CS) (us fl:List Value),yW as us fl→RepRow w D (fun k=>fl[k]?) (zG as) 0 S→dj S D→(∀ b o,D b o→b < w.heap.size)→Glo X.G w S D →
  Calls X.P f us.toArray w fun e w'=>∃ u fr D' S1 S2,e=.returned u∧ResV rs u fr∧RepRow w' D' (fun k=>fr[k]?) (zG rs) 0 S1∧ObRep w' D' (fun i=>fl.getD i undef) fin S2∧dj S1 S2∧dj (cup S1 S2) D' ∧
   Frm w w' S∧(∀ b o,cup S1 S2 b o→S b o∨w.heap.size≤b)∧sub D D'∧(∀ b o,D' b o→D b o∨S b o∨w.heap.size≤b)∧(∀ b o,D' b o→b < w'.heap.size)
def V.own:V→Bool
 | .list true _ _ | .box true _ | .bld _ _ _=>true
 | _=>false
def entC (x:V) (k:Nat):C:=if x.own=true then .ref k [] else .v x
def zS7:List V→Nat→List C
 | [],_=>[]
 | x :: xs,k=>entC x k :: zS7 xs (k+1)
def jP:List V→Nat→List (Nat×V)
 | [],_=>[]
 | x :: xs,k=>if x.own=true then (k,x) :: jP xs (k+1) else jP xs (k+1)
def entS:List (Ag V)→Nat→Nat→List (Nat×Sl)
 | [],_,_=>[]
 | .one x :: as,t,k=>(t,.pl (.one (entC x k))) :: entS as (t+1) (k+1)
 | .agg xs :: as,t,k=>(t,.pl (.agg (zS7 xs k))) :: entS as (t+1) (k+xs.length)
def entry (as:List (Ag V)) (N:Nat):Env:={N:=N,np:=(zG as).length,nx:=(zG as).length,sl:=entS as 0 0,ob:=jP (zG as) 0}
theorem qE3:∀ (xs:List V) (k i:Nat) (v:V),lk i (jP xs k)=some v→k≤i∧i < k+xs.length
 | [],_,_,_,h=>by cases h
 | x :: xs,k,i,v,h=>by
  simp only [jP] at h
  have hrec:lk i (jP xs (k+1))=some v→k≤i∧i < k+(x :: xs).length:=fun h=>by
   have:=qE3 xs (k+1) i v h
   simp
   omega
  split at h
  ·simp only [zL] at h
   split at h
   ·rename_i e
    subst e
    simp
   ·exact hrec h
  ·exact hrec h
theorem own_hdr {w:World} {D:CS} {x:V} {u:Value} {S:CS} (h:Rep w D x u S) (ho:x.own=true):hdr u=true:=by
 cases x with
 | list own n rows=>rcases h with ⟨_,q,_⟩ | ⟨_,_,_,_,rfl,_⟩ <;> first | (obtain ⟨a,rfl⟩:=zK8 q; rfl) | rfl
 | box own row=>obtain ⟨_,_,_,rfl,_⟩:=h; rfl
 | bld _ _ _=>obtain ⟨_,_,_,rfl,_⟩:=h; rfl
 | _=>simp [V.own] at ho
theorem notOwn_emp {w:World} {D:CS} {x:V} {u:Value} {S:CS} (h:Rep w D x u S) (ho:x.own=false):S=emp:=by
 cases x with
 | sc _=>exact h.2.2
 | list own n rows =>
  cases own with
  | true=>simp [V.own] at ho
  | false =>
   rcases h with ⟨_,_,rfl⟩ | ⟨_,_,_,_,_,_,_,_,rfl,_⟩ <;> rfl
 | box own row =>
  cases own with
  | true=>simp [V.own] at ho
  | false=>obtain ⟨_,_,_,_,_,_,rfl,_⟩:=h; rfl
 | fn f caps=>obtain ⟨_,_,_,_,rfl⟩:=h; rfl
 | bld _ _ _=>simp [V.own] at ho
 | dead=>exact h
theorem ent_ob {w:World} {D:CS} {hs:Nat→Value}:∀ (xs:List V) (rd:Nat→Option Value) (k:Nat) (S:CS),RepRow w D rd xs k S→(∀ i,k≤i→i < k+xs.length→rd i=some (hs i))→ObRep w D hs (jP xs k) S
 | [],_,_,_,h,_=>h
 | x :: xs,rd,k,S,h,hr=>by
  obtain ⟨u,S1,S2,h1,h2,h3,h4,rfl⟩:=h
  have hu:u=hs k:=by have:=hr k (Nat.le_refl _) (by simp); rw [h1] at this; injection this
  subst hu
  have ih:=ent_ob xs rd (k+1) S2 h3 (fun i h1 h2=>hr i (by omega) (by simp; omega))
  simp only [jP]
  split
  ·refine ⟨S1,S2,?_,h2,ih,h4,rfl⟩
   cases q:lk k (jP xs (k+1)) with
   | none=>rfl
   | some v=>have:=qE3 xs (k+1) k v q; omega
  ·rename_i ho
   rw [notOwn_emp h2 (by simpa using ho),jE]
   exact ih
theorem ent_cs {w:World} {D:CS} {hs:Nat→Value} {nx:Nat} {ob:List (Nat×V)}:∀ (xs:List V) (rd:Nat→Option Value) (k:Nat) (S:CS) (us:List Value),RepRow w D rd xs k S→us.length=xs.length →
  (∀ i,k≤i→i < k+xs.length→rd i=some (hs i))→(∀ j u,us[j]? = some u→hs (k+j)=u)→k+xs.length≤nx→CsRep w D hs nx ob (zS7 xs k) us
 | [],_,_,_,us,_,hl,_,_,_=>List.length_eq_zero_iff.1 hl
 | x :: xs,rd,k,S,us,h,hl,hr,hu,hn=>by
  obtain ⟨u,S1,S2,h1,h2,h3,h4,rfl⟩:=h
  have hk:u=hs k:=by have:=hr k (Nat.le_refl _) (by simp); rw [h1] at this; injection this
  cases us with
  | nil=>simp at hl
  | cons v us =>
   have hv:hs k=v:=hu 0 v rfl
   refine ⟨v,us,rfl,?_,ent_cs xs rd (k+1) S2 us h3 (by simpa using hl) (fun i a b=>hr i (by omega) (by simp; omega)) (fun j y hj=>?_) (by simp at hn; omega)⟩
   ·subst hk
    simp only [entC]
    simp at hn
    split
    ·rename_i ho
     refine ⟨by omega,fun _ _ _ hp=>?_⟩
     exact ⟨_,rfl,own_hdr h2 ho,hv⟩
    ·rename_i ho
     have:=notOwn_emp h2 (by simpa using ho)
     subst this
     rw [← hv]
     exact h2
   ·have:=hu (j+1) y (by simpa using hj)
    rw [show k+(j+1)=k+1+j by omega] at this
    exact this
theorem ent_sl {w:World} {D:CS} {hs:Nat→Value} {nx:Nat} {ob:List (Nat×V)}:∀ (as:List (Ag V)) (t k:Nat) (S:CS) (us fl:List Value) (rd:Nat→Option Value),yW as us fl→RepRow w D rd (zG as) k S →
  (∀ i,k≤i→i < k+(zG as).length→rd i=some (hs i))→(∀ j u,fl[j]? = some u→hs (k+j)=u)→k+(zG as).length≤nx →
  ∀ t' s,lk t' (entS as t k)=some s→t≤t'∧∃ u,us[t' - t]? = some u∧SlRep w D hs nx ob s u
 | [],_,_,_,_,_,_,_,_,_,_,_,_,_,h=>by cases h
 | .one x :: as,t,k,S,us,fl,rd,ha,h,hr,hu,hn,t',s,hs'=>by
  obtain ⟨u,us',fl',rfl,rfl,ha'⟩:=ha
  simp only [zG] at h hr hn
  simp only [entS,zL] at hs'
  split at hs'
  ·rename_i e
   subst e
   injection hs' with hs'
   subst hs'
   have h0:RepRow w D rd ([x]++zG as) k S:=h
   obtain ⟨T1,T2,g1,_⟩:=RepRow.split [x] (zG as) k S h0
   have:=ent_cs (nx:=nx) (ob:=ob) (hs:=hs) [x] rd k T1 [u] g1 rfl (fun i a b=>hr i a (by simp at b ⊢; omega)) (fun j y hj=>hu j y (by
    cases j with
    | zero=>simpa using hj
    | succ j=>simp at hj)) (by simp at hn ⊢; omega)
   obtain ⟨u',r,e1,e2,_⟩:=this
   injection e1 with e1 _
   subst e1
   exact ⟨Nat.le_refl _,u,by simp,e2⟩
  ·obtain ⟨u0,S1,S2,h1,h2,h3,h4,rfl⟩:=h
   obtain ⟨g1,v,g2,g3⟩:=ent_sl (nx:=nx) (ob:=ob) (hs:=hs) as (t+1) (k+1) S2 us' fl' rd ha' h3 (fun i a b=>hr i (by omega) (by simp; omega)) (fun j y hj=>by
    have:=hu (j+1) y (by simpa using hj)
    rwa [show k+(j+1)=k+1+j by omega] at this) (by simp at hn; omega) t' s hs'
   exact ⟨by omega,v,by rw [show t' - t=(t' - (t+1))+1 by omega]; simpa using g2,g3⟩
 | .agg xs :: as,t,k,S,us,fl,rd,ha,h,hr,hu,hn,t',s,hs'=>by
  obtain ⟨vs,us',fl',rfl,hl,rfl,ha'⟩:=ha
  simp only [zG] at h hr hn
  obtain ⟨T1,T2,g1,g2,_⟩:=RepRow.split xs (zG as) k S h
  simp only [List.length_append] at hr hn
  simp only [entS,zL] at hs'
  split at hs'
  ·rename_i e
   subst e
   injection hs' with hs'
   subst hs'
   have:=ent_cs (nx:=nx) (ob:=ob) (hs:=hs) xs rd k T1 vs g1 hl (fun i a b=>hr i a (by omega)) (fun j y hj=>hu j y (by
    have:=(List.getElem?_eq_some_iff.1 hj).1
    rw [List.getElem?_append_left this]
    exact hj)) (by omega)
   exact ⟨Nat.le_refl _,_,by simp,vs,rfl,this⟩
  ·obtain ⟨g3,v,g4,g5⟩:=ent_sl (nx:=nx) (ob:=ob) (hs:=hs) as (t+1) (k+xs.length) T2 us' fl' rd ha' g2 (fun i a b=>hr i (by omega) (by omega)) (fun j y hj=>by
    have:=hu (vs.length+j) y (by rw [List.getElem?_append_right (by omega),Nat.add_sub_cancel_left]; exact hj)
    rwa [hl,← Nat.add_assoc] at this) (by omega) t' s hs'
   exact ⟨by omega,v,by rw [show t' - t=(t' - (t+1))+1 by omega]; simpa using g4,g5⟩
end Go.TV
namespace Go.TV
def Env.res1 (T:Nat→Option TyI) (e:Env):ResultVar→Option (Ag V×Env)
 | .tmp t=>match lk t e.sl with
  | some (.pl (.one k))=>(match e.takes [k] with | some ([x],e')=>some (.one x,e') | _=>none)
  | some (.pl (.agg ks))=>(e.takes ks).map fun q=>(.agg q.1,q.2)
  | _=>none
 | .cell a ty=>match lk a e.sl with
  | some (.pl (.one k))=>(T ty).bind fun d=>if e.sure k=true then (e.behind k d.size).bind fun l=>(match d.kd with
   | .struct _=>(e.takes l).map fun q=>(.agg q.1,q.2)
   | _=>(match e.takes l with | some ([x],e')=>some (.one x,e') | _=>none)) else none
  | _=>none
def zT3 (T:Nat→Option TyI):List ResultVar→Env→Option (List (Ag V)×Env)
 | [],e=>some ([],e)
 | r :: rs,e=>(e.res1 T r).bind fun q=>(zT3 T rs q.2).map fun z=>(q.1 :: z.1,z.2)
def resM (tmps:Array Value):ResultVar→Sem Value
 | .tmp t=>pure (tmps.getD t undef)
 | .cell a t=>do loadVar t (← asAddr (tmps.getD a undef))
section
variable {gG:GG} {c:Ctx gG} {e e':Env} {a:Act} {w:World} {D:CS} {hs:Nat→Value} {S:CS} {X:Cfg} {o:Oper}
theorem StD.res1 (h:StD c e a w D hs S) {r:ResultVar} {g:Ag V} (hr:e.res1 X.T r=some (g,e')) :
  ∃ u fl S1 S',(resM a.tmps r).run X.P w=.ok u w∧(∀ as us fl',yW as us fl'→yW (g :: as) (u :: us) (fl++fl'))∧RepRow w D (fun k=>fl[k]?) (zG [g]) 0 S1∧fl.length=(zG [g]).length∧StD c e' a w D hs S'∧TV.dj S1 S'∧sub S1 S∧sub S' S ∧
   e'.np=e.np∧e'.sl=e.sl:=by
 have takes_sl:∀ (ks:List C) (e e':Env) (xs:List V),e.takes ks=some (xs,e')→e'.sl=e.sl:=by
  intro ks
  induction ks with
  | nil=>intro e e' xs h; injection h with h; injection h with _ h; rw [← h]
  | cons k ks ih =>
   intro e e' xs h
   simp only [Env.takes] at h
   obtain ⟨⟨x,e1⟩,h1,h⟩:=zbi h
   simp only at h
   split at h
   case isFalse=>cases h
   obtain ⟨⟨ys,e2⟩,h2,h3⟩:=Option.map_eq_some_iff.1 h
   injection h3 with h3 h4
   subst h4
   rw [ih e1 e2 ys h2]
   cases k with
   | v y=>injection h1 with h1; injection h1 with _ h1; rw [← h1]
   | ba row=>injection h1 with h1; injection h1 with _ h1; rw [← h1]
   | ref i p =>
    cases p with
    | nil =>
     simp only [Env.take] at h1
     obtain ⟨v,_,h2⟩:=Option.map_eq_some_iff.1 h1
     injection h2 with _ h2
     rw [← h2]
    | cons s p =>
     simp only [Env.take] at h1
     obtain ⟨v,_,h2⟩:=zbi h1
     obtain ⟨y,_,h2⟩:=Option.map_eq_some_iff.1 h2
     injection h2 with _ h2
     rw [← h2]
   | _=>cases h1
 cases r with
 | tmp t =>
  simp only [Env.res1] at hr
  split at hr
  ·rename_i k hk
   split at hr
   case h_2=>cases hr
   rename_i x e1 ht
   injection hr with hr
   injection hr with h1 h2
   subst h1
   subst h2
   have hu:CRep w D hs e.nx e.ob k (a.tmps.getD t undef):=h.sl t _ hk
   obtain ⟨S1,S',f1,f2,f3,f4,f5,f6,f7,f8,f9,_⟩:=StD.takes [k] h ht ⟨_,[],rfl,hu,rfl⟩
   refine ⟨_,[a.tmps.getD t undef],S1,S',rfl,fun as us fl' ha=>⟨_,us,fl',rfl,rfl,ha⟩,f1,rfl,f4,f5,f6,f7,f9,takes_sl _ _ _ _ ht⟩
  ·rename_i ks hk
   obtain ⟨⟨xs,e1⟩,ht,hq⟩:=Option.map_eq_some_iff.1 hr
   injection hq with h1 h2
   subst h1
   subst h2
   obtain ⟨us,hu1,hu2⟩:AgRep w D hs e.nx e.ob (.agg ks) (a.tmps.getD t undef):=h.sl t _ hk
   obtain ⟨S1,S',f1,f2,f3,f4,f5,f6,f7,f8,f9,_⟩:=StD.takes ks h ht hu2
   refine ⟨_,us,S1,S',rfl,fun as vs fl' ha=>⟨us,vs,fl',by rw [hu1],f2.symm,rfl,ha⟩,by simpa [zG] using f1,by simp [zG,f2],f4,f5,f6,f7,f9,takes_sl _ _ _ _ ht⟩
  ·cases hr
 | cell t ty =>
  simp only [Env.res1] at hr
  split at hr
  case h_2=>cases hr
  rename_i k hk
  obtain ⟨d,hd,hr⟩:=zbi hr
  split at hr
  case isFalse=>cases hr
  rename_i hsure
  obtain ⟨l,hl,hr⟩:=zbi hr
  have hu:CRep w D hs e.nx e.ob k (a.tmps.getD t undef):=h.sl t _ hk
  obtain ⟨b,o',us,g1,g2,g3,g4⟩:=h.behind hl hu
  have hT:=X.hT _ _ hd
  split at hr
  ·rename_i fs hkd
   obtain ⟨⟨xs,e1⟩,ht,hq⟩:=Option.map_eq_some_iff.1 hr
   injection hq with h1 h2
   subst h1
   subst h2
   obtain ⟨S1,S',f1,f2,f3,f4,f5,f6,f7,f8,f9,_⟩:=StD.takes l h ht g4
   have hagg:d.kd.agg=true:=by rw [hkd]; rfl
   have hld:(loadVar ty (ad b o')).run X.P w=.ok (.agg us.toArray) w:=qI3 hT hagg g2 g3
   refine ⟨.agg us.toArray,us,S1,S',?_,fun as vs fl' ha=>⟨us,vs,fl',rfl,f2.symm,rfl,ha⟩,by simpa [zG] using f1,by simp [zG,f2],f4,f5,f6,f7,f9,takes_sl _ _ _ _ ht⟩
   simp only [resM,g1,asAddr,Sem.run_bind,Sem.run_pure,Result.andThen_ok]
   exact hld
  ·rename_i hkd
   split at hr
   case h_2=>cases hr
   rename_i x e1 ht
   injection hr with hr
   injection hr with h1 h2
   subst h1
   subst h2
   obtain ⟨S1,S',f1,f2,f3,f4,f5,f6,f7,f8,f9,_⟩:=StD.takes l h ht g4
   have hagg:d.kd.agg=false:=by
    cases hq:d.kd <;> simp [Kd.agg]
    rename_i l'
    exact hkd l' hq
   cases us with
   | nil=>simp at f2
   | cons u us =>
    have:us=[]:=by simpa using f2.symm
    subst this
    have hld:(loadVar ty (ad b o')).run X.P w=.ok u w:=qI4 hT hagg (g3 0 u rfl)
    refine ⟨u,[u],S1,S',?_,fun as vs fl' ha=>⟨u,vs,fl',rfl,rfl,ha⟩,f1,rfl,f4,f5,f6,f7,f9,takes_sl _ _ _ _ ht⟩
    simp only [resM,g1,asAddr,Sem.run_bind,Sem.run_pure,Result.andThen_ok]
    exact hld
theorem flatA_cons (g:Ag V) (as:List (Ag V)):zG (g :: as)=zG [g]++zG as:=by
 cases g <;> simp [zG]
theorem StD.res:∀ (rs:List ResultVar) {e e':Env} {S:CS} (h:StD c e a w D hs S) {as:List (Ag V)},zT3 X.T rs e=some (as,e') →
  ∃ us fl S1 S',(rs.mapM (resM a.tmps)).run X.P w=.ok us w∧yW as us fl∧RepRow w D (fun k=>fl[k]?) (zG as) 0 S1∧us.length=rs.length∧StD c e' a w D hs S'∧TV.dj S1 S'∧sub S1 S∧sub S' S∧e'.np=e.np∧as.length=rs.length
 | [],e,e',S,h,as,hr=>by
  injection hr with hr
  injection hr with h1 h2
  subst h1
  subst h2
  exact ⟨[],[],emp,S,rfl,⟨rfl,rfl⟩,rfl,rfl,h,zW S,fun _ _ q=>q.elim,zD S,rfl,rfl⟩
 | r :: rs,e,e',S,h,as,hr=>by
  simp only [zT3] at hr
  obtain ⟨⟨g,e1⟩,h1,hr⟩:=zbi hr
  obtain ⟨⟨as',e2⟩,h2,h3⟩:=Option.map_eq_some_iff.1 hr
  simp only [Prod.mk.injEq] at h3
  obtain ⟨h3,h4⟩:=h3
  subst h3
  subst h4
  obtain ⟨u,fl,S1,S',f1,f2,f3,f3l,f4,f5,f6,f7,f8,f9⟩:=h.res1 h1
  obtain ⟨us,fl',T1,T',g1,g2,g3,g3l,g4,g5,g6,g7,g8,g9⟩:=StD.res rs f4 h2
  refine ⟨u :: us,fl++fl',cup S1 T1,T',?_,f2 as' us fl' g2,?_,by simp [g3l],g4,qV (zA0 f5 g7) g5,fun b o q=>q.elim (f6 b o) (fun q=>f7 b o (g6 b o q)),zZ g7 f7,g8.trans f8,by simp [g9]⟩
  ·simp [List.mapM_cons,f1,g1]
  ·rw [flatA_cons]
   refine RepRow.join _ _ 0 S1 T1 (RepRow.frame (zD D) (zH w D) _ _ _ 0 S1 f3 (zH w S1) (fun j _ hj=>?_)) (RepRow.shift _ _ _ 0 _ T1 g3 (fun q hq=>?_)) (zA0 f5 g6)
   ·rw [List.getElem?_append_left (by omega)]
   ·rw [Nat.zero_add,Nat.zero_add,← f3l,List.getElem?_append_right (by omega),Nat.add_sub_cancel_left]
def Env.fin (e:Env):List (Nat×V):=e.ob.filter fun q=>decide (q.1 < e.np)
theorem lk_filter {p:Nat×V→Bool} {i:Nat}:∀ (ob:List (Nat×V)),lk i ob=none→lk i (ob.filter p)=none
 | [],_=>rfl
 | (k,v) :: r,h=>by
  simp only [lk] at h
  split at h
  ·cases h
  ·rename_i e
   simp only [List.filter_cons]
   split
   ·simp only [lk,if_neg e]
    exact lk_filter r h
   ·exact lk_filter r h
theorem ObRep.filter {p:Nat×V→Bool}:∀ (ob:List (Nat×V)) (S:CS),ObRep w D hs ob S→∃ S',ObRep w D hs (ob.filter p) S'∧sub S' S
 | [],S,h=>⟨S,h,zD S⟩
 | (i,v) :: r,S,h=>by
  obtain ⟨S1,S2,h0,h1,h2,h3,rfl⟩:=h
  obtain ⟨S',g1,g2⟩:=ObRep.filter r S2 h2
  simp only [List.filter_cons]
  split
  ·exact ⟨cup S1 S',⟨S1,S',lk_filter r h0,h1,g1,zA0 h3 g2,rfl⟩,fun x y q=>q.elim .inl (fun q=>.inr (g2 x y q))⟩
  ·exact ⟨S',g1,zZ g2 (yO _ _)⟩
theorem ObRep.hs_eq {hs':Nat→Value}:∀ (ob:List (Nat×V)) (S:CS),ObRep w D hs ob S→(∀ i v,(i,v) ∈ ob→hs' i=hs i)→ObRep w D hs' ob S
 | [],_,h,_=>h
 | (i,v) :: r,S,h,hh=>by
  obtain ⟨S1,S2,h0,h1,h2,h3,rfl⟩:=h
  exact ⟨S1,S2,h0,by rw [hh i v (by simp)]; exact h1,ObRep.hs_eq r S2 h2 (fun k x q=>hh k x (by simp [q])),h3,rfl⟩
def RetV (X:Cfg) (fn:Func) (rs:List (Ag V)) (fin:List (Nat×V)):Exit→Env→Prop:=fun x e=>(x=.ret∨x=.normal)∧∃ e',zT3 X.T fn.results.toList e=some (rs,e')∧e'.fin=fin
theorem Fn.intro {f : Nat} {fn : Func} {body : Code} {as rs : List (Ag V)} {fin : List (Nat × V)} (hf : X.P.funcs[f]? = some fn) (hb : fn.body = some body) (hn : (fn.name == "runtime.NumGoroutine") = false) (hN : as.length ≤ fn.ntmps)
  (h:wpV X body (RetV X fn rs fin) (entry as fn.ntmps)):Fn X f as rs fin:=by
 refine ⟨⟨fn,hf,by rw [hb]; rfl,hn⟩,fun w D S us fl ha hr hj hD hg=>?_⟩
 have hlen:∀ (as:List (Ag V)) (us fl:List Value),yW as us fl→us.length=as.length∧fl.length=(zG as).length:=by
  intro as
  induction as with
  | nil=>rintro us fl ⟨rfl,rfl⟩; exact ⟨rfl,rfl⟩
  | cons g as ih =>
   intro us fl hq
   cases g with
   | one x =>
    obtain ⟨u,us',fl',rfl,rfl,h2⟩:=hq
    obtain ⟨h3,h4⟩:=ih us' fl' h2
    exact ⟨by simp [h3],by simp [zG,h4]⟩
   | agg xs =>
    obtain ⟨vs,us',fl',rfl,h1,rfl,h2⟩:=hq
    obtain ⟨h3,h4⟩:=ih us' fl' h2
    exact ⟨by simp [h3],by simp [zG,h4,h1]⟩
 obtain ⟨l1,l2⟩:=hlen as us fl ha
 have hrd:∀ i,0≤i→i < 0+(zG as).length→fl[i]? = some (fl.getD i undef):=fun i _ hi=>by
  have:i < fl.length:=by omega
  rw [List.getD_eq_getElem?_getD,List.getElem?_eq_getElem this]
  rfl
 have hget:∀ j u,fl[j]? = some u→fl.getD (0+j) undef=u:=fun j u hj=>by rw [Nat.zero_add,List.getD_eq_getElem?_getD,hj]; rfl
 let k:Ctx X.G:={w0:=w,S0:=S,D0:=D,h0:=fun i=>fl.getD i undef}
 have hst:StD k (entry as fn.ntmps) {tmps:=us.toArray++Array.replicate (fn.ntmps - us.toArray.size) undef,defers:=[]} w D (fun i=>fl.getD i undef) S:={
  ob:=ent_ob (zG as) _ 0 S hr hrd
  sl:=fun t s ht=>by
   obtain ⟨_,u,g1,g2⟩:=ent_sl (w:=w) (D:=D) (hs:=fun i=>fl.getD i undef) (nx:=(zG as).length) (ob:=jP (zG as) 0) as 0 0 S us fl _ ha hr hrd hget (by omega) t s ht
   have hu:(us.toArray++Array.replicate (fn.ntmps - us.toArray.size) undef).getD t undef=u:=by
    rw [Nat.sub_zero] at g1
    have hl:=(List.getElem?_eq_some_iff.1 g1).1
    rw [Array.getD_eq_getD_getElem?,Array.getElem?_append_left (by simpa using hl)]
    simp [g1]
   show SlRep w D _ _ _ s _
   rw [hu]
   exact g2
  sz:=by simp [entry]; omega
  df:=rfl
  dj:=hj
  Dl:=hD
  id:=fun i v q=>by have:=qE3 (zG as) 0 i v q; show i < (zG as).length; omega
  npx:=Nat.le_refl _
  hp:=fun i _=>rfl
  fr:=Frm.refl w S
  Ss:=fun b o q=>.inl q
  D0:=zD D
  gl:=hg
  Ds:=fun b o q=>.inl q}
 refine calls_of_wp hf hb (Code.wp_mono (fun x a' w' hq=>?_) (h k _ w ⟨D,_,S,hst⟩))
 obtain ⟨e',⟨hx,e1,hres,hfin⟩,D',hs',S',hd⟩:=hq
 obtain ⟨us',fl',T1,T',g1,g2,g3,g3l,g4,g5,g6,g7,g8,g9⟩:=StD.res fn.results.toList hd hres
 obtain ⟨S2,f1,f2⟩:=ObRep.filter (p:=fun q=>decide (q.1 < e1.np)) e1.ob T' g4.ob
 have f3:ObRep w' D' (fun i=>fl.getD i undef) e1.fin S2:=by
  refine ObRep.hs_eq _ _ f1 (fun i v q=>?_)
  have:=(List.mem_filter.1 q).2
  exact (g4.hp i (by simpa using this)).symm
 rw [hfin] at f3
 have hrun:∃ u,(results fn a'.tmps).run X.P w'=.ok u w'∧ResV rs u fl':=by
  have hm:(results fn a'.tmps)=(do
    let vs ← fn.results.mapM (resM a'.tmps)
    pure (if h:vs.size=1 then vs[0] else .tuple vs)):=by
   unfold results
   congr 1
  have hmm:(fn.results.mapM (resM a'.tmps)).run X.P w'=.ok us'.toArray w':=by
   rw [Array.mapM_eq_mapM_toList]
   simp [g1]
  rw [hm]
  simp only [Sem.run_bind,hmm,Result.andThen_ok,Sem.run_pure]
  refine ⟨_,rfl,?_⟩
  have h9:rs.length=us'.length:=g9.trans g3l.symm
  unfold ResV
  split
  ·rename_i r
   cases us' with
   | nil=>simp at h9
   | cons u us' =>
    have:us'=[]:=List.length_eq_zero_iff.1 (by simp only [List.length_cons,List.length_nil] at h9; omega)
    subst this
    simpa using g2
  ·rename_i hne
   refine ⟨us',?_,g2⟩
   rw [dif_neg]
   intro hq
   have hq':us'.length=1:=by simpa using hq
   cases rs with
   | nil=>simp only [List.length_nil] at h9; omega
   | cons r rs' =>
    have:rs'=[]:=List.length_eq_zero_iff.1 (by simp only [List.length_cons,List.length_nil] at h9; omega)
    subst this
    exact hne r rfl
 obtain ⟨u,hu1,hu2⟩:=hrun
 have out:bodyPost X.P fn (fun e w'=>∃ u fr D' S1 S2,e=.returned u∧ResV rs u fr∧RepRow w' D' (fun k=>fr[k]?) (zG rs) 0 S1∧ObRep w' D' (fun i=>fl.getD i undef) fin S2∧TV.dj S1 S2∧TV.dj (cup S1 S2) D' ∧
   Frm w w' S∧(∀ b o,cup S1 S2 b o→S b o∨w.heap.size≤b)∧sub D D'∧(∀ b o,D' b o→D b o∨S b o∨w.heap.size≤b)∧(∀ b o,D' b o→b < w'.heap.size)) .ret a' w':=
  ⟨hd.df,u,hu1,u,fl',D',T1,S2,rfl,hu2,g3,f3,zA0 g5 f2,qV (yR hd.dj g6) (yR hd.dj (zZ f2 g7)),hd.fr,fun b o q=>hd.Ss b o (q.elim (g6 b o) (fun q=>g7 b o (f2 b o q))),hd.D0,hd.Ds,hd.Dl⟩
 rcases hx with rfl | rfl
 ·exact out
 ·exact out
end
end Go.TV
namespace Go.TV
def Env.carve (e:Env):C→Option (V×Env)
 | .v x=>some (x,e)
 | .ref i p=>(lk i e.ob).bind fun v=>(v.get p).bind fun x=>if x.alive=true then some (x,{e with ob:=zU i (v.set p .dead) e.ob}) else none
 | _=>none
def qG0 (w:World) (hs:Nat→Value):C→Value→Prop
 | .ref i p,u=>loc w (hs i) p=some u
 | _,_=>True
def Env.graft (e:Env) (k:C) (v:V):Option Env:=
 match k with
 | .ref i p=>(lk i e.ob).bind fun v0=>match v0.get p with
  | some .dead=>some {e with ob:=zU i (v0.set p v) e.ob,sl:=qG (C.killN i) e.sl}
  | _=>none
 | _=>none
section
variable {gG:GG} {c:Ctx gG} {e e':Env} {a:Act} {w:World} {D:CS} {hs:Nat→Value} {S:CS} {X:Cfg} {o:Oper}
theorem StD.carve (h:StD c e a w D hs S) {k:C} {x:V} {u:Value} (hk:e.carve k=some (x,e')) (hu:CRep w D hs e.nx e.ob k u) :
  ∃ S1 S',Rep w D x u S1∧StD c e' a w D hs S'∧TV.dj S1 S'∧sub S1 S∧sub S' S∧e'.nx=e.nx∧e'.np=e.np∧e'.N=e.N∧qG0 w hs k u ∧
   (∀ k' u',CRep w D hs e.nx e.ob k' u'→CRep w D hs e'.nx e'.ob k' u'):=by
 have hD:=zH w D
 cases k with
 | v y =>
  injection hk with hk
  injection hk with h1 h2
  subst h1
  subst h2
  exact ⟨emp,S,hu,h,zW S,fun _ _ q=>q.elim,zD S,rfl,rfl,rfl,trivial,fun _ _ q=>q⟩
 | ref i p =>
  obtain ⟨hi,hp⟩:=hu
  simp only [Env.carve] at hk
  obtain ⟨v,h1,h2⟩:=zbi hk
  obtain ⟨y,h3,h2⟩:=zbi h2
  split at h2
  case isFalse=>cases h2
  injection h2 with h2
  injection h2 with h2 h4
  subst h2
  subst h4
  obtain ⟨u0,g1,_,g2⟩:=hp v y h1 h3
  subst g2
  obtain ⟨S1,G,e1,rfl,e3,e4,e5⟩:=h.ob.focus e.ob S i v h1
  obtain ⟨u1,Sx,G2,f1,f2,rfl,f4,f5⟩:=e1.focus p v _ _ y h3
  rw [g1] at f1
  injection f1 with f1
  subst f1
  obtain ⟨d1,_⟩:=f5 w D .dead emp (zD D) hD (zH w _) rfl (zW _)
  rw [jE] at d1
  have d2:=e5 w D hs (v.set p .dead) G2 (zD D) hD (zH w _) (fun _ _ _ _=>rfl) d1 (vZ e3)
  have kk:∀ c',KC w w hs hs e.nx e.ob (zU i (v.set p .dead) e.ob) c':=fun c'=>by
   have:∀ k q,Kp w w hs hs e.ob (zU i (v.set p .dead) e.ob) k q:=fun k q v' x' r1 r2=>by
    by_cases hki:k=i
    ·subst hki
     rw [qL4 _ e.ob h1] at r1
     injection r1 with r1
     subst r1
     obtain ⟨x,hx⟩:=V.set_dead_get p q v y x' h3 r2
     exact ⟨v,x,h1,hx,fun _ q _=>q⟩
    ·rw [zB0 hki] at r1
     exact ⟨v',x',r1,r2,fun _ q _=>q⟩
   cases c' <;> first | trivial | exact fun _=>this _ _
  refine ⟨Sx,cup G2 G,f2,?_,dj_cup f4 (kG e3),fun b o q=>.inl (.inl q),fun b o q=>q.elim (fun q=>.inl (.inr q)) .inr,rfl,rfl,rfl,g1,fun k' u' q=>q.kc (zD D) hD (Nat.le_refl _) (kk k')⟩
  exact {
   ob:=d2
   sl:=fun t s ht=>(h.sl t s ht).kc (zD D) hD (Nat.le_refl _) s _ (fun c' _=>kk c')
   sz:=h.sz
   df:=h.df
   dj:=fun b o q r=>h.dj b o (q.elim (fun q=>.inl (.inr q)) .inr) r
   Dl:=h.Dl
   id:=fun k x q=>by
    by_cases hki:k=i
    ·subst hki
     exact h.id _ v h1
    ·rw [zB0 hki] at q
     exact h.id k x q
   npx:=h.npx
   hp:=h.hp
   fr:=h.fr
   Ss:=fun b o q=>h.Ss b o (q.elim (fun q=>.inl (.inr q)) .inr)
   D0:=h.D0
   gl:=h.gl
   Ds:=h.Ds}
 | _=>cases hk
theorem StD.graft (h:StD c e a w D hs S) {k:C} {v:V} {u:Value} {S1:CS} (hk:e.graft k v=some e') (hl:qG0 w hs k u) (hv:Rep w D v u S1) (hj:TV.dj S1 S) (hjD:TV.dj S1 D)
  (h0:∀ b o,S1 b o→c.S0 b o∨c.w0.heap.size≤b):StD c e' a w D hs (cup S1 S)∧e'.nx=e.nx∧e'.np=e.np∧e'.N=e.N:=by
 have hD:=zH w D
 cases k with
 | ref i p =>
  simp only [Env.graft] at hk
  obtain ⟨v0,h1,h2⟩:=zbi hk
  split at h2
  case h_2=>cases h2
  rename_i hdead
  injection h2 with h2
  subst h2
  obtain ⟨T1,G,e1,rfl,e3,e4,e5⟩:=h.ob.focus e.ob S i v0 h1
  obtain ⟨u1,Sx,G2,f1,f2,rfl,f4,f5⟩:=e1.focus p v0 _ _ _ hdead
  have hSx:Sx=emp:=f2
  subst hSx
  rw [show loc w (hs i) p=some u from hl] at f1
  injection f1 with f1
  subst f1
  rw [jE] at e1 e3 hj ⊢
  obtain ⟨d1,_⟩:=f5 w D v S1 (zD D) hD (zH w _) hv (dj_l hj)
  have d2:=e5 w D hs (v0.set p v) (cup S1 G2) (zD D) hD (zH w _) (fun _ _ _ _=>rfl) d1 (qV (zE5 hj) e3)
  rw [kY] at d2
  refine ⟨?_,rfl,rfl,rfl⟩
  exact {
   ob:=d2
   sl:=fun t s ht=>by
    obtain ⟨s0,q1,rfl⟩:=qL0 e.sl ht
    refine SlRep.mapf (fun k u' hk=>?_) (h.sl t s0 q1)
    have other:∀ k' q,k'≠i→Kp w w hs hs e.ob (zU i (v0.set p v) e.ob) k' q:=fun k' q hk' v' x' r1 r2=>by
     rw [zB0 hk'] at r1
     exact ⟨v',x',r1,r2,fun _ q _=>q⟩
    have self:Kp w w hs hs e.ob (zU i (v0.set p v) e.ob) i []:=fun v' x' _ _=>⟨v0,v0,h1,rfl,fun u hu _=>hu⟩
    have kc:∀ k',(KC w w hs hs e.nx e.ob (zU i (v0.set p v) e.ob) k')→CRep w D hs e.nx e.ob k' u'→CRep w D hs e.nx (zU i (v0.set p v) e.ob) k' u':=
     fun k' h1 h2=>h2.kc (zD D) hD (Nat.le_refl _) h1
    cases k with
    | v x=>exact kc _ trivial hk
    | ba row=>exact kc _ trivial hk
    | dead=>trivial
    | ref k' q =>
     cases q with
     | nil =>
      refine kc _ (fun _=>?_) hk
      by_cases q:k'=i
      ·subst q; exact self
      ·exact other k' [] q
     | cons s q =>
      simp only [C.killN]
      split
      ·trivial
      ·rename_i hne'
       exact kc _ (fun _=>other k' _ hne') hk
    | part k' q _ _ _ =>
     cases q with
     | nil =>
      refine kc _ (fun _=>?_) hk
      by_cases q:k'=i
      ·subst q; exact self
      ·exact other k' [] q
     | cons s q =>
      simp only [C.killN]
      split
      ·trivial
      ·rename_i hne'
       exact kc _ (fun _=>other k' _ hne') hk
    | addr k' q _ _ _ =>
     cases q with
     | nil =>
      refine kc _ (fun _=>?_) hk
      by_cases q:k'=i
      ·subst q; exact self
      ·exact other k' [] q
     | cons s q =>
      simp only [C.killN]
      split
      ·trivial
      ·rename_i hne'
       exact kc _ (fun _=>other k' _ hne') hk
   sz:=h.sz
   df:=h.df
   dj:=qV hjD (by have:=h.dj; rwa [jE] at this)
   Dl:=h.Dl
   id:=fun k x q=>by
    by_cases hki:k=i
    ·subst hki
     exact h.id _ v0 h1
    ·rw [zB0 hki] at q
     exact h.id k x q
   npx:=h.npx
   hp:=h.hp
   fr:=h.fr
   Ss:=fun b o q=>q.elim (h0 b o) (fun q=>h.Ss b o (by rw [jE]; exact q))
   D0:=h.D0
   gl:=h.gl
   Ds:=h.Ds}
 | _=>cases hk
theorem qJ4 {α:Type} {i:Nat}:∀ (A B:List (Nat×α)),lk i (A++B)=(lk i A).or (lk i B)
 | [],B=>by simp [lk]
 | (k,v) :: A,B=>by
  simp only [List.cons_append,lk]
  split
  ·rfl
  ·exact qJ4 A B
theorem ObRep.join:∀ (A B:List (Nat×V)) (S1 S2:CS),ObRep w D hs A S1→ObRep w D hs B S2→TV.dj S1 S2→(∀ i v x,lk i A=some v→lk i B=some x→False)→ObRep w D hs (A++B) (cup S1 S2)
 | [],B,S1,S2,h1,h2,_,_=>by rw [show S1=emp from h1,jE]; exact h2
 | (i,v) :: A,B,S1,S2,h1,h2,hj,hd=>by
  obtain ⟨T1,T2,g0,g1,g2,g3,rfl⟩:=h1
  refine ⟨T1,cup T2 S2,?_,g1,ObRep.join A B T2 S2 g2 h2 (vZ hj) (fun k y z hy hz=>hd k y z ?_ hz),dj_cup g3 (kG hj),kY _ _ _⟩
  ·have hB:lk i B=none:=by
    cases q:lk i B with
    | none=>rfl
    | some z=>exact (hd i v z (by simp [lk]) q).elim
   show lk i (A++B)=none
   rw [qJ4,g0,hB]
   rfl
  ·simp only [lk]
   split
   ·rename_i e
    subst e
    rw [g0] at hy
    cases hy
   ·exact hy
theorem StD.objs (h:StD c e a w D hs S) {xs:List V} {fr:List Value} {S1:CS} (hx:RepRow w D (fun k=>fr[k]?) xs 0 S1) (hl:fr.length=xs.length) (hj:TV.dj S1 S) (hjD:TV.dj S1 D)
  (h0:∀ b o,S1 b o→c.S0 b o∨c.w0.heap.size≤b) :
  StD c {e with nx:=e.nx+xs.length,ob:=jP xs e.nx++e.ob} a w D (fun i=>if e.nx≤i then fr.getD (i - e.nx) undef else hs i) (cup S1 S):=by
 have hD:=zH w D
 have hlt:∀ i v,lk i e.ob=some v→¬e.nx≤i:=fun i v q=>by have:=h.id i v q; omega
 have hx':RepRow w D (fun k=>fr[k - e.nx]?) xs e.nx S1:=RepRow.shift xs _ _ 0 e.nx S1 hx (fun q _=>by
  show fr[e.nx+q - e.nx]? = fr[0+q]?
  rw [Nat.add_sub_cancel_left,Nat.zero_add])
 have hob:=ent_ob (hs:=fun i=>if e.nx≤i then fr.getD (i - e.nx) undef else hs i) xs _ e.nx S1 hx' (fun i h1 h2=>by
  have:i - e.nx < fr.length:=by omega
  simp only [h1,if_true]
  rw [List.getD_eq_getElem?_getD,List.getElem?_eq_getElem this]
  rfl)
 have hold:ObRep w D (fun i=>if e.nx≤i then fr.getD (i - e.nx) undef else hs i) e.ob S:=ObRep.keep (zD D) hD e.ob S h.ob (zH w S) (fun i x q=>by simp [hlt i x q])
 have hlkne:∀ i,i < e.nx→lk i (jP xs e.nx++e.ob)=lk i e.ob:=fun i hi=>by
  rw [qJ4]
  cases q:lk i (jP xs e.nx) with
  | none=>rfl
  | some v=>have:=qE3 xs e.nx i v q; omega
 exact {
  ob:=ObRep.join _ _ S1 S hob hold hj (fun i v x h1 h2=>by have:=qE3 xs e.nx i v h1; have:=h.id i x h2; omega)
  sl:=fun t s ht=>by
   have q:=h.sl t s ht
   refine SlRep.kc (zD D) hD (by show e.nx≤e.nx+xs.length; omega) s _ q (fun c _=>?_)
   cases c <;> first
    | trivial
    | exact fun hi=>Kp.same h.ob _ (hlkne _ hi) (by show (if e.nx≤_ then fr.getD _ undef else hs _)=_; rw [if_neg (by omega)]) hD (fun _ _ _ _ _ _ _=>zH _ _)
  sz:=h.sz
  df:=h.df
  dj:=qV hjD h.dj
  Dl:=h.Dl
  id:=fun i x q=>by
   rw [qJ4] at q
   show i < e.nx+xs.length
   cases z:lk i (jP xs e.nx) with
   | some v=>have:=qE3 xs e.nx i v z; omega
   | none=>rw [z] at q; have:=h.id i x q; omega
  npx:=by have:=h.npx; show e.np≤e.nx+xs.length; omega
  hp:=fun i hi=>by
   have:=h.npx
   have hi':i < e.np:=hi
   simp only [show ¬e.nx≤i by omega,if_false]
   exact h.hp i hi
  fr:=h.fr
  Ss:=fun b o q=>q.elim (h0 b o) (h.Ss b o)
  D0:=h.D0
  gl:=h.gl
  Ds:=h.Ds}
def entA:List (Ag V)→Nat→List (Ag C)
 | [],_=>[]
 | .one x :: as,k=>.one (entC x k) :: entA as (k+1)
 | .agg xs :: as,k=>.agg (zS7 xs k) :: entA as (k+xs.length)
def retS (rs:List (Ag V)) (nx:Nat):Sl:=
 match entA rs nx with
 | [g]=>.pl g
 | gs=>.tup gs
theorem qF9 {w:World} {D:CS} {hs:Nat→Value} {nx:Nat} {ob:List (Nat×V)}:∀ (as:List (Ag V)) (k:Nat) (S:CS) (us fl:List Value) (rd:Nat→Option Value),yW as us fl→RepRow w D rd (zG as) k S →
  (∀ i,k≤i→i < k+(zG as).length→rd i=some (hs i))→(∀ j u,fl[j]? = some u→hs (k+j)=u)→k+(zG as).length≤nx→AgsRep w D hs nx ob (entA as k) us
 | [],_,_,us,fl,_,h,_,_,_,_=>h.1
 | .one x :: as,k,S,us,fl,rd,ha,h,hr,hu,hn=>by
  obtain ⟨u,us',fl',rfl,rfl,ha'⟩:=ha
  simp only [zG] at h hr hn
  have h0:RepRow w D rd ([x]++zG as) k S:=h
  obtain ⟨T1,T2,g1,g2,_⟩:=RepRow.split [x] (zG as) k S h0
  have:=ent_cs (nx:=nx) (ob:=ob) (hs:=hs) [x] rd k T1 [u] g1 rfl (fun i a b=>hr i a (by simp at b ⊢; omega)) (fun j y hj=>hu j y (by
   cases j with
   | zero=>simpa using hj
   | succ j=>simp at hj)) (by simp at hn ⊢; omega)
  obtain ⟨u',r,e1,e2,_⟩:=this
  injection e1 with e1 _
  subst e1
  exact ⟨u,us',rfl,e2,qF9 as (k+1) T2 us' fl' rd ha' g2 (fun i a b=>hr i (by omega) (by simp; omega)) (fun j y hj=>by
   have:=hu (j+1) y (by simpa using hj)
   rwa [show k+(j+1)=k+1+j by omega] at this) (by simp at hn; omega)⟩
 | .agg xs :: as,k,S,us,fl,rd,ha,h,hr,hu,hn=>by
  obtain ⟨vs,us',fl',rfl,hl,rfl,ha'⟩:=ha
  simp only [zG] at h hr hn
  obtain ⟨T1,T2,g1,g2,_⟩:=RepRow.split xs (zG as) k S h
  simp only [List.length_append] at hr hn
  have:=ent_cs (nx:=nx) (ob:=ob) (hs:=hs) xs rd k T1 vs g1 hl (fun i a b=>hr i a (by omega)) (fun j y hj=>hu j y (by
   have:=(List.getElem?_eq_some_iff.1 hj).1
   rw [List.getElem?_append_left this]
   exact hj)) (by omega)
  exact ⟨_,us',rfl,⟨vs,rfl,this⟩,qF9 as (k+xs.length) T2 us' fl' rd ha' g2 (fun i a b=>hr i (by omega) (by omega)) (fun j y hj=>by
   have:=hu (vs.length+j) y (by rw [List.getElem?_append_right (by omega),Nat.add_sub_cancel_left]; exact hj)
   rwa [hl,← Nat.add_assoc] at this) (by omega)⟩
end
end Go.TV
namespace Go.TV
def Env.args (e:Env):List Operand→Option (List (Ag C))
 | []=>some []
 | x :: xs=>match e.val x with
  | some (.pl g)=>(e.args xs).map fun gs=>g :: gs
  | _=>none
def qF:List (Ag C)→List C
 | []=>[]
 | .one k :: gs=>k :: qF gs
 | .agg ks :: gs=>ks++qF gs
def Env.callee (e:Env):Operand→Option (Nat×List V)
 | .func f=>some (f,[])
 | .tmp t=>match lk t e.sl with
  | some (.pl (.one (.v (.fn f caps))))=>some (f,caps)
  | _=>none
 | _=>none
def Env.own1 (md:List Nat):Env→Nat→List C→Option (List (Option V)×Env)
 | e,_,[]=>some ([],e)
 | e,k,c :: cs=>if md.contains k=true then (e.carve c).bind fun q=>(Env.own1 md q.2 (k+1) cs).map fun r=>(some q.1 :: r.1,r.2) else (Env.own1 md e (k+1) cs).map fun r=>(none :: r.1,r.2)
def Env.lend (e:Env):C→Option V
 | .v x=>some x
 | .ba row=>some (.box false row)
 | .ref i p=>(e.node i p).bind fun x=>if x.alive=true then some x.bor else none
 | .part i p n lo hi=>(e.rows (.part i p n lo hi)).map fun q=>.list false q.1 (jY q.2)
 | .addr i p n r j=>(e.node i p).bind fun x=>(x.rowAt n r).bind fun row=>if j≤row.length then some (.box false (qB (row.drop j))) else none
 | .dead=>none
def Env.fill (e:Env):List (Option V)→List C→Option (List V)
 | [],[]=>some []
 | some x :: os,_ :: cs=>(e.fill os cs).map fun xs=>x :: xs
 | none :: os,c :: cs=>(e.lend c).bind fun x=>(e.fill os cs).map fun xs=>x :: xs
 | _,_=>none
def zB1:List (Ag C)→List V→List (Ag V)
 | [],_=>[]
 | .one _ :: gs,xs=>.one (xs.headD .dead) :: zB1 gs xs.tail
 | .agg ks :: gs,xs=>.agg (xs.take ks.length) :: zB1 gs (xs.drop ks.length)
def Env.deadAt (e:Env):C→Bool
 | .ref i p=>match e.node i p with | some .dead=>true | _=>false
 | _=>true
def Env.deads (e:Env):List (Option V)→List C→Bool
 | some _ :: os,c :: cs=>e.deadAt c && e.deads os cs
 | none :: os,_ :: cs=>e.deads os cs
 | _,_=>true
def zD7 (md:Nat→List Nat) (cf:Operand) (as:List Operand) (e:Env):Option (Nat×List (Ag V)×List C×Env):=
 (e.callee cf).bind fun q=>(e.args as).bind fun gs=>(Env.own1 (md q.1) e 0 (qF (gs++q.2.map fun x=>.one (.v x)))).bind fun z =>
  if z.2.deads z.1 (qF (gs++q.2.map fun x=>.one (.v x)))=true then (z.2.fill z.1 (qF (gs++q.2.map fun x=>.one (.v x)))).map fun xs=>(q.1,zB1 (gs++q.2.map fun x=>.one (.v x)) xs,qF (gs++q.2.map fun x=>.one (.v x)),z.2) else none
def Env.back (cells:List C):List (Nat×V)→Env→Option Env
 | [],e=>some e
 | (i,v) :: fin,e=>(cells[i]?).bind fun c=>(e.graft c v).bind fun e'=>Env.back cells fin e'
def zB2 (o:Oper) (rs:List (Ag V)) (fin:List (Nat×V)) (cells:List C) (e:Env):Option Env:=
 (({e with nx:=e.nx+(zG rs).length,ob:=jP (zG rs) e.nx++e.ob}:Env).putO o.dst (retS rs e.nx)).bind fun e2=>e2.back cells fin
section
variable {gG:GG} {c:Ctx gG} {e e':Env} {a:Act} {w:World} {D:CS} {hs:Nat→Value} {S:CS} {X:Cfg} {o:Oper}
theorem StD.args (h:StD c e a w D hs S):∀ (xs:List Operand) (gs:List (Ag C)),e.args xs=some gs→∃ fl,CsRep w D hs e.nx e.ob (qF gs) fl∧(yW gs (xs.map a.eval) fl)
 | [],gs,hx=>by
  injection hx with hx
  subst hx
  exact ⟨[],rfl,rfl,rfl⟩
 | x :: xs,gs,hx=>by
  simp only [Env.args] at hx
  split at hx
  case h_2=>cases hx
  rename_i g hg
  obtain ⟨gs',h1,rfl⟩:=Option.map_eq_some_iff.1 hx
  obtain ⟨fl,h2,h3⟩:=StD.args h xs gs' h1
  have hv:=h.val hg
  cases g with
  | one k=>exact ⟨_ :: fl,⟨_,fl,rfl,hv,h2⟩,_,_,fl,rfl,rfl,h3⟩
  | agg ks =>
   obtain ⟨us,hu,hc⟩:=hv
   exact ⟨us++fl,CsRep.append _ _ _ _ hc h2,us,_,fl,by rw [List.map_cons,hu],hc.length,rfl,h3⟩
theorem zH0 {α:Type}:∀ (A B:List (Ag α)) (u1 u2 f1 f2:List Value),yW A u1 f1→yW B u2 f2→yW (A++B) (u1++u2) (f1++f2)
 | [],B,u1,u2,f1,f2,h1,h2=>by obtain ⟨rfl,rfl⟩:=h1; exact h2
 | .one x :: A,B,u1,u2,f1,f2,h1,h2=>by
  obtain ⟨u,us,fl,rfl,rfl,h3⟩:=h1
  exact ⟨u,us++u2,fl++f2,rfl,rfl,zH0 A B us u2 fl f2 h3 h2⟩
 | .agg xs :: A,B,u1,u2,f1,f2,h1,h2=>by
  obtain ⟨vs,us,fl,rfl,hl,rfl,h3⟩:=h1
  exact ⟨vs,us++u2,fl++f2,rfl,hl,by simp,zH0 A B us u2 fl f2 h3 h2⟩
theorem zG0:∀ (A B:List (Ag C)),qF (A++B)=qF A++qF B
 | [],_=>rfl
 | .one k :: A,B=>by simp [qF,zG0 A B]
 | .agg ks :: A,B=>by simp [qF,zG0 A B]
theorem zZ6:∀ (gs:List (Ag C)) (us fl:List Value) (xs:List V),yW gs us fl→xs.length=(qF gs).length→yW (zB1 gs xs) us fl∧zG (zB1 gs xs)=xs
 | [],us,fl,xs,h,hl=>by
  have:xs=[]:=List.length_eq_zero_iff.1 hl
  subst this
  exact ⟨h,rfl⟩
 | .one k :: gs,us,fl,xs,h,hl=>by
  obtain ⟨u,us',fl',rfl,rfl,h3⟩:=h
  cases xs with
  | nil=>simp [qF] at hl
  | cons x xs =>
   obtain ⟨g1,g2⟩:=zZ6 gs us' fl' xs h3 (by simpa [qF] using hl)
   exact ⟨⟨u,us',fl',rfl,rfl,g1⟩,by simp [zB1,zG,g2]⟩
 | .agg ks :: gs,us,fl,xs,h,hl=>by
  obtain ⟨vs,us',fl',rfl,h1,rfl,h3⟩:=h
  simp only [qF,List.length_append] at hl
  obtain ⟨g1,g2⟩:=zZ6 gs us' fl' (xs.drop ks.length) h3 (by simp; omega)
  exact ⟨⟨vs,us',fl',rfl,by simp; omega,rfl,g1⟩,by simp [zB1,zG,g2]⟩
theorem StD.lend (h:StD c e a w D hs S) {k:C} {x:V} {u:Value} (hk:e.lend k=some x) (hu:CRep w D hs e.nx e.ob k u):Rep w (cup D S) x u emp:=by
 cases k with
 | v y =>
  injection hk with hk
  subst hk
  exact Rep.mono (qU _ _) hu
 | ba row =>
  injection hk with hk
  subst hk
  obtain ⟨b,o,h1,h2,h3⟩:=hu
  exact Rep.mono (qU _ _) ⟨b,o,emp,h1,h2,rfl,rfl,h3⟩
 | ref i p =>
  obtain ⟨y,h1,h2⟩:=zbi hk
  split at h2
  case isFalse=>cases h2
  rename_i ha
  injection h2 with h2
  subst h2
  obtain ⟨v,k1,k2⟩:=h.lnode h1
  obtain ⟨u1,g1,_,rfl⟩:=hu.2 v y k1 k2
  obtain ⟨u2,Sx,k3,k4,k5⟩:=h.node k1 k2
  rw [g1] at k3
  injection k3 with k3
  subst k3
  exact Rep.lent y _ Sx k4 (qU _ _) (zZ k5 (yO _ _)) ha
 | part i p n lo hi =>
  obtain ⟨⟨m,rows⟩,h1,rfl⟩:=Option.map_eq_some_iff.1 hk
  obtain ⟨A,cap,g1,g2⟩:=h.rows h1 hu
  obtain ⟨_,hp⟩:=hu
  -- the cut's room
  have hcap:rows.length≤cap:=by
   simp only [Env.rows] at h1
   split at h1
   case h_2=>cases h1
   rename_i n' rs hn
   split at h1
   case isFalse=>cases h1
   injection h1 with h1
   injection h1 with q1 q2
   obtain ⟨v,k1,k2⟩:=h.lnode hn
   obtain ⟨u1,f1,_,⟨A',len,cap0,A2,cap',p1,p2,p3,p4,p5,p6,p7⟩⟩:=hp v _ k1 k2
   rw [g1] at p6
   injection p6 with _ p8 p9
   omega
  have hl:(jY rows).length=rows.length:=by simp [zY0]
  rcases g2 with ⟨rfl | ⟨_,q⟩,rfl⟩ | ⟨b,o',S1,rfl,g3,g4,g5⟩
  case inl.inr=>cases q
  ·-- an empty cut of nil
   simp only [Env.rows] at h1
   split at h1
   case h_2=>cases h1
   rename_i n' rs hn
   split at h1
   case isFalse=>cases h1
   injection h1 with h1
   injection h1 with q1 q2
   obtain ⟨v,k1,k2⟩:=h.lnode hn
   obtain ⟨u1,f1,_,⟨A',len,cap0,A2,cap',p1,p2,p3,p4,p5,p6,p7⟩⟩:=hp v _ k1 k2
   rw [g1] at p6
   injection p6 with p6 p8 p9
   rcases p7 with ⟨_,_,p7⟩ | ⟨_,_,_,_,p7,_⟩
   ·refine .inl ⟨rfl,.inl ?_,rfl⟩
    rw [g1,p9,p7]
    rfl
   ·rw [← p6] at p7
    cases p7
  ·refine .inr ⟨b,o',cap,emp,by rw [hl]; exact g1,by rw [hl]; exact hcap,RepRows.lent m b o' rows 0 S1 g3 (qU _ _) (zZ g4 (yO _ _)),rfl,rfl,by rw [hl]; exact g5⟩
 | addr i p n r j =>
  obtain ⟨y,h1,h2⟩:=zbi hk
  obtain ⟨row,h3,h2⟩:=zbi h2
  split at h2
  case isFalse=>cases h2
  rename_i hj
  injection h2 with h2
  subst h2
  obtain ⟨v,k1,k2⟩:=h.lnode h1
  obtain ⟨u1,g1,_,b,o',g2,g3⟩:=hu.2 v y k1 k2
  obtain ⟨u2,Sx,k3,k4,k5⟩:=h.node k1 k2
  rw [g1] at k3
  injection k3 with k3
  subst k3
  obtain ⟨b2,o2,Sr,G,f1,f2,rfl,_⟩:=k4.row h3
  rw [g2] at f1
  injection f1 with f1
  have eb:b=b2:=by injection f1
  have eo:o'=o2:=by injection f1
  subst eb
  subst eo
  have hS:sub Sr (cup D S):=fun x y q=>.inr (k5 x y (.inl q))
  have hb:=Rep.lent _ _ Sr f2 (qU D S) hS rfl
  obtain ⟨b3,o3,S3,q1,q2,rfl,_,q3⟩:=hb
  have hq:ad b (o'+r * n)=ad b3 o3:=by injection q1 with q1; injection q1
  have eb:b=b3:=by injection hq
  have eo:o'+r * n=o3:=by injection hq
  subst eb
  subst eo
  have hl:(qB row).length=row.length:=by simp [zK4]
  have hd:qB (row.drop j)=(qB row).drop j:=by simp [zK4]
  rw [hd]
  exact ⟨b,o'+r * n+j,emp,g3,RepRow.drop q2 (by omega),rfl,rfl,zZ (qJ0 (by omega)) q3⟩
 | dead=>cases hk
end
end Go.TV
namespace Go.TV
def RepO (w:World) (D:CS):List (Option V)→List Value→CS→Prop
 | [],us,S=>us=[]∧S=emp
 | some x :: os,us,S=>∃ u r S1 S2,us=u :: r∧Rep w D x u S1∧RepO w D os r S2∧dj S1 S2∧S=cup S1 S2
 | none :: os,us,S=>∃ u r,us=u :: r∧RepO w D os r S
section
variable {gG:GG} {c:Ctx gG} {e e':Env} {a:Act} {w:World} {D:CS} {hs:Nat→Value} {S:CS} {X:Cfg} {o:Oper}
theorem StD.own1 {md:List Nat}:∀ (cs:List C) (k:Nat) {e e':Env} {S:CS} (h:StD c e a w D hs S) {os:List (Option V)} {us:List Value},Env.own1 md e k cs=some (os,e')→CsRep w D hs e.nx e.ob cs us →
  ∃ S1 S',RepO w D os us S1∧StD c e' a w D hs S'∧TV.dj S1 S'∧sub S1 S∧sub S' S∧e'.nx=e.nx∧e'.np=e.np∧e'.N=e.N∧(∀ k' u',CRep w D hs e.nx e.ob k' u'→CRep w D hs e'.nx e'.ob k' u') ∧
   os.length=cs.length∧(∀ (j:Nat) (q:C) (u:Value) (x:V),cs[j]? = some q→us[j]? = some u→os[j]? = some (some x)→qG0 w hs q u)∧(∀ j,md.contains (k+j)=true→j < cs.length→∃ x,os[j]? = some (some x))
 | [],k,e,e',S,h,os,us,hk,hu=>by
  injection hk with hk
  injection hk with h1 h2
  subst h1
  subst h2
  exact ⟨emp,S,⟨hu,rfl⟩,h,zW S,fun _ _ q=>q.elim,zD S,rfl,rfl,rfl,fun _ _ q=>q,rfl,fun j q u x hq=>by simp at hq,fun j _ hj=>by simp at hj⟩
 | q :: cs,k,e,e',S,h,os,us,hk,hu=>by
  obtain ⟨u,r,rfl,hu1,hu2⟩:=hu
  simp only [Env.own1] at hk
  split at hk
  ·rename_i hmd
   obtain ⟨⟨x,e1⟩,h1,hk⟩:=zbi hk
   obtain ⟨⟨os',e2⟩,h2,h3⟩:=Option.map_eq_some_iff.1 hk
   simp only [Prod.mk.injEq] at h3
   obtain ⟨h3,h4⟩:=h3
   subst h3
   subst h4
   obtain ⟨S1,S',f1,f2,f3,f4,f5,f6,f7,f8,f9,f10⟩:=h.carve h1 hu1
   obtain ⟨T1,T',g1,g2,g3,g4,g5,g6,g7,g8,g9,g10,g11,g12⟩:=StD.own1 cs (k+1) f2 h2 (CsRep.imp f10 cs r hu2)
   refine ⟨cup S1 T1,T',⟨u,r,S1,T1,rfl,f1,g1,zA0 f3 g4,rfl⟩,g2,qV (zA0 f3 g5) g3,fun b o z=>z.elim (f4 b o) (fun z=>f5 b o (g4 b o z)),zZ g5 f5,g6.trans f6,g7.trans f7,g8.trans f8,
    fun k' u' z=>g9 k' u' (f10 k' u' z),by simp [g10],fun j q' u' x' h1 h2 h3=>?_,fun j hm hj=>?_⟩
   case refine_2 =>
    cases j with
    | zero=>exact ⟨x,rfl⟩
    | succ j =>
     obtain ⟨y,hy⟩:=g12 j (by rw [show k+1+j=k+(j+1) by omega]; exact hm) (by simpa using hj)
     exact ⟨y,by simpa using hy⟩
   cases j with
   | zero =>
    simp at h1 h2
    subst h1
    subst h2
    exact f9
   | succ j=>exact g11 j q' u' x' (by simpa using h1) (by simpa using h2) (by simpa using h3)
  ·rename_i hmd
   obtain ⟨⟨os',e2⟩,h2,h3⟩:=Option.map_eq_some_iff.1 hk
   simp only [Prod.mk.injEq] at h3
   obtain ⟨h3,h4⟩:=h3
   subst h3
   subst h4
   obtain ⟨T1,T',g1,g2,g3,g4,g5,g6,g7,g8,g9,g10,g11,g12⟩:=StD.own1 cs (k+1) h h2 hu2
   refine ⟨T1,T',⟨u,r,rfl,g1⟩,g2,g3,g4,g5,g6,g7,g8,g9,by simp [g10],fun j q' u' x' h1 h2 h3=>?_,fun j hm hj=>?_⟩
   case refine_2 =>
    cases j with
    | zero=>rw [Nat.add_zero] at hm; exact absurd hm hmd
    | succ j =>
     obtain ⟨y,hy⟩:=g12 j (by rw [show k+1+j=k+(j+1) by omega]; exact hm) (by simpa using hj)
     exact ⟨y,by simpa using hy⟩
   cases j with
   | zero=>simp at h3
   | succ j=>exact g11 j q' u' x' (by simpa using h1) (by simpa using h2) (by simpa using h3)
theorem StD.fill (h:StD c e a w D hs S):∀ (os:List (Option V)) (cs:List C) (us:List Value) (xs:List V) (S1:CS) (rd:Nat→Option Value) (k:Nat),e.fill os cs=some xs→RepO w D os us S1→CsRep w D hs e.nx e.ob cs us →
  (∀ j u,us[j]? = some u→rd (k+j)=some u)→RepRow w (cup D S) rd xs k S1∧xs.length=cs.length
 | [],[],us,xs,S1,rd,k,hf,hO,hC,hr=>by
  injection hf with hf
  subst hf
  exact ⟨hO.2,rfl⟩
 | some x :: os,q :: cs,us,xs,S1,rd,k,hf,hO,hC,hr=>by
  obtain ⟨xs',h1,rfl⟩:=Option.map_eq_some_iff.1 hf
  obtain ⟨u,r,T1,T2,rfl,h2,h3,h4,rfl⟩:=hO
  obtain ⟨u',r',he,_,h5⟩:=hC
  injection he with he1 he2
  subst he1
  subst he2
  obtain ⟨g1,g2⟩:=StD.fill h os cs r xs' T2 rd (k+1) h1 h3 h5 (fun j z hj=>by
   have:=hr (j+1) z (by simpa using hj)
   rwa [show k+(j+1)=k+1+j by omega] at this)
  exact ⟨⟨u,T1,T2,by have:=hr 0 u rfl; simpa using this,Rep.mono (qU _ _) h2,g1,h4,rfl⟩,by simp [g2]⟩
 | none :: os,q :: cs,us,xs,S1,rd,k,hf,hO,hC,hr=>by
  simp only [Env.fill] at hf
  obtain ⟨x,h0,hf⟩:=zbi hf
  obtain ⟨xs',h1,rfl⟩:=Option.map_eq_some_iff.1 hf
  obtain ⟨u,r,rfl,h3⟩:=hO
  obtain ⟨u',r',he,h6,h5⟩:=hC
  injection he with he1 he2
  subst he1
  subst he2
  obtain ⟨g1,g2⟩:=StD.fill h os cs r xs' S1 rd (k+1) h1 h3 h5 (fun j z hj=>by
   have:=hr (j+1) z (by simpa using hj)
   rwa [show k+(j+1)=k+1+j by omega] at this)
  exact ⟨⟨u,emp,S1,by have:=hr 0 u rfl; simpa using this,h.lend h0 h6,g1,zW _,(jE _).symm⟩,by simp [g2]⟩
 | [],_ :: _,_,_,_,_,_,hf,_,_,_=>by cases hf
 | some _ :: _,[],_,_,_,_,_,hf,_,_,_=>by cases hf
 | none :: _,[],_,_,_,_,_,hf,_,_,_=>by cases hf
theorem StD.back {cells:List C} {fl:List Value} {D2:CS}:∀ (fin:List (Nat×V)) {e e':Env} {S T:CS} (h:StD c e a w D hs S),Env.back cells fin e=some e'→ObRep w D2 (fun i=>fl.getD i undef) fin T →
  (∀ q ∈ fin,q.2.noBor=true)→TV.dj T S→TV.dj T D→(∀ b o,T b o→c.S0 b o∨c.w0.heap.size≤b)→(∀ q ∈ fin,∀ k,cells[q.1]? = some k→qG0 w hs k (fl.getD q.1 undef))→∃ S',StD c e' a w D hs S'
 | [],e,e',S,T,h,hb,_,_,_,_,_,_=>by
  injection hb with hb
  subst hb
  exact ⟨S,h⟩
 | (i,v) :: fin,e,e',S,T,h,hb,ho,hn,hj,hD,h0,hl=>by
  simp only [Env.back] at hb
  obtain ⟨k,h1,hb⟩:=zbi hb
  obtain ⟨e1,h2,hb⟩:=zbi hb
  obtain ⟨T1,T2,g0,g1,g2,g3,rfl⟩:=ho
  obtain ⟨f1,f2,f3,f4⟩:=h.graft (u:=fl.getD i undef) h2 (hl (i,v) (by simp) k h1) (Rep.free v _ T1 g1 (hn (i,v) (by simp))) (kG hj) (kG hD) (fun b o q=>h0 b o (.inl q))
  exact StD.back fin f1 hb g2 (fun q hq=>hn q (by simp [hq])) (dj_cup (qL g3) (vZ hj)) (vZ hD) (fun b o q=>h0 b o (.inr q)) (fun q hq=>hl q (by simp [hq]))
theorem qI5:∀ (os:List (Option V)) (cs:List C) (j:Nat) (x:V) (k:C),e.deads os cs=true→os[j]? = some (some x)→cs[j]? = some k→e.deadAt k=true
 | [],_,_,_,_,_,h,_=>by simp at h
 | some y :: os,[],j,_,_,_,_,h=>by simp at h
 | none :: os,[],j,_,_,_,_,h=>by simp at h
 | some y :: os,q :: cs,0,x,k,h,h1,h2=>by
  simp only [Env.deads,Bool.and_eq_true] at h
  simp at h2
  subst h2
  exact h.1
 | some y :: os,q :: cs,j+1,x,k,h,h1,h2=>by
  simp only [Env.deads,Bool.and_eq_true] at h
  exact qI5 os cs j x k h.2 (by simpa using h1) (by simpa using h2)
 | none :: os,q :: cs,0,x,k,h,h1,h2=>by simp at h1
 | none :: os,q :: cs,j+1,x,k,h,h1,h2=>by
  simp only [Env.deads] at h
  exact qI5 os cs j x k h (by simpa using h1) (by simpa using h2)
theorem qG9:∀ (as:List (Ag V)) (us fl:List Value),yW as us fl→fl.length=(zG as).length
 | [],us,fl,h=>by rw [h.2]; rfl
 | .one x :: as,us,fl,h=>by obtain ⟨u,us',fl',rfl,rfl,h3⟩:=h; simp [zG,qG9 as us' fl' h3]
 | .agg xs :: as,us,fl,h=>by obtain ⟨vs,us',fl',rfl,hl,rfl,h3⟩:=h; simp [zG,qG9 as us' fl' h3,hl]
theorem resV_flat {rs:List (Ag V)} {u:Value} {fl:List Value} (h:ResV rs u fl):fl.length=(zG rs).length:=by
 unfold ResV at h
 split at h
 ·exact qG9 _ _ _ h
 ·obtain ⟨us,_,h⟩:=h
  exact qG9 _ _ _ h
theorem qC3 {xs:List V} {us:List Value} (hl:us.length=xs.length):yW (xs.map fun x=>(Ag.one (C.v x):Ag C)) us us:=by
 induction xs generalizing us with
 | nil=>rw [List.length_eq_zero_iff.1 hl]; exact ⟨rfl,rfl⟩
 | cons x xs ih =>
  cases us with
  | nil=>simp at hl
  | cons u us=>exact ⟨u,us,us,rfl,rfl,ih (by simpa using hl)⟩
theorem qC0 (xs:List V):qF (xs.map fun x=>(Ag.one (C.v x):Ag C))=xs.map C.v:=by
 induction xs with
 | nil=>rfl
 | cons x xs ih=>simp [qF,ih]
theorem fl_get {fl:List Value} {i:Nat} {u:Value} (h:fl[i]? = some u):fl.getD i undef=u:=by rw [List.getD_eq_getElem?_getD,h]; rfl
theorem StD.callee (h:StD c e a w D hs S) {cf:Operand} {f:Nat} {caps:List V} (hc:e.callee cf=some (f,caps)) :
  ∃ us:List Value,a.eval cf=.func (.func f) #[] us.toArray∧us.length=caps.length∧CsRep w D hs e.nx e.ob (caps.map C.v) us:=by
 unfold Env.callee at hc
 split at hc
 ·injection hc with hc
  injection hc with h1 h2
  subst h1
  subst h2
  exact ⟨[],rfl,rfl,rfl⟩
 ·split at hc
  case h_2=>cases hc
  rename_i t _ f' caps' ht
  injection hc with hc
  injection hc with h1 h2
  subst h1
  subst h2
  have hv:CRep w D hs e.nx e.ob (.v (.fn f' caps')) (a.tmps.getD t undef):=h.sl t _ ht
  obtain ⟨us,h1,h2,h3,_⟩:=hv
  obtain ⟨vs,g1,g2,g3⟩:=ba_rep (hs:=hs) (nx:=e.nx) (ob:=e.ob) caps' _ 0 caps'.length h3 (Nat.le_refl _)
  rw [List.take_length] at g3
  have:vs=us.toList:=by
   apply List.ext_getElem?
   intro i
   by_cases hi:i < vs.length
   ·have:=g2 i _ (List.getElem?_eq_getElem hi)
    rw [Nat.zero_add] at this
    rw [List.getElem?_eq_getElem hi,Array.getElem?_toList]
    exact this.symm
   ·rw [List.getElem?_eq_none (by omega),List.getElem?_eq_none (by simp; omega)]
  subst this
  exact ⟨us.toList,by show a.tmps.getD t undef=_; rw [h1],by simp [h2],g3⟩
 ·cases hc
theorem StD.call {c:Ctx X.G} (h:StD c e a w D hs S) {md:Nat→List Nat} {cf:Operand} {args:Array Operand} {ts:Array TypeId} {f:Nat} {as rs:List (Ag V)} {fin:List (Nat×V)} {cells:List C} {e1:Env}
  (ho:o.op=.call {callee:=.value cf,args:=args,argTypes:=ts}) (h1:zD7 md cf args.toList e=some (f,as,cells,e1)) (hf:Fn X f as rs fin) (hn:zT (zG rs)=true)
  (hfin:fin.all (fun q=>(md f).contains q.1 && q.2.noBor)=true) (h2:zB2 o rs fin cells e1=some e') {next:Act→World→Prop} {Q:Exit→Act→World→Prop} (hnext:∀ a w,St c e' a w→next a w):o.wp X.P a w next Q:=by
 obtain ⟨⟨g,caps⟩,k1,h1⟩:=zbi h1
 obtain ⟨gs,k2,h1⟩:=zbi h1
 obtain ⟨⟨os,e0⟩,k3,h1⟩:=zbi h1
 simp only at h1
 split at h1
 case isFalse=>cases h1
 rename_i hdeads
 obtain ⟨xs,k4,k5⟩:=Option.map_eq_some_iff.1 h1
 simp only [Prod.mk.injEq] at k5
 obtain ⟨e_f,e_as,e_cells,e_e1⟩:=k5
 subst e_f
 subst e_as
 subst e_cells
 subst e_e1
 obtain ⟨uc,c1,c2,c3⟩:=h.callee k1
 obtain ⟨fl1,a1,a2⟩:=h.args args.toList gs k2
 have hA:=zH0 gs (caps.map fun x=>(.one (.v x):Ag C)) _ _ _ _ a2 (qC3 c2)
 have hC:CsRep w D hs e.nx e.ob (qF (gs++caps.map fun x=>(.one (.v x):Ag C))) (fl1++uc):=by
  rw [zG0,qC0]
  exact CsRep.append _ _ _ _ a1 c3
 obtain ⟨S1,S',f1,f2,f3,f4,f5,f6,f7,f8,f9,f10,f11,f12⟩:=StD.own1 _ 0 h k3 hC
 obtain ⟨r1,r2⟩:=f2.fill os _ (fl1++uc) xs S1 (fun j=>(fl1++uc)[j]?) 0 k4 f1 (CsRep.imp f9 _ _ hC) (fun j u hj=>by rw [Nat.zero_add]; exact hj)
 obtain ⟨s1,s2⟩:=zZ6 _ _ _ xs hA r2
 obtain ⟨⟨fn,p1,p2,p3⟩,hcall⟩:=hf
 have hSD:TV.dj S1 D:=yR h.dj f4
 have hS1b:∀ b o,S1 b o→b < w.heap.size:=fun b o q=>h.ob.blt b o (f4 b o q)
 have hS'b:∀ b o,S' b o→b < w.heap.size:=fun b o q=>h.ob.blt b o (f5 b o q)
 have hc:=hcall w (cup D S') S1 _ _ s1 (by rw [s2]; exact r1) (dj_cup hSD f3) (fun b o q=>q.elim (h.Dl b o) (hS'b b o)) (h.glo.mono f4 (fun b o q=>.inl q))
 -- the call is entered
 have hexec:(execOp a.eval o).run X.P w=.ok (.enter g (List.map a.eval args.toList++uc).toArray) w:=by
  have e1:(args.map a.eval)++uc.toArray=(List.map a.eval args.toList++uc).toArray:=by
   apply Array.ext'
   simp
  have hb:fn.body.isNone=false:=by cases q:fn.body <;> simp [q] at p2 ⊢
  simp only [execOp,ho,resolve,c1,Deferred.ofValue,Sem.run_bind,Sem.run_pure,Result.andThen_ok,invoke,callFunc,run_program,p1]
  simp [p3,hb,e1]
 unfold Oper.wp
 rw [hexec]
 show Calls X.P g _ w _
 refine Calls.mono hc (fun en w' hq=>?_)
 obtain ⟨u,fr,D',T1,T2,rfl,q1,q2,q3,q4,q5,q6,q7,q8,q9,q10⟩:=hq
 show next (a.put o.dst u) w'
 have h0:∀ b o,S1 b o→c.S0 b o∨c.w0.heap.size≤b:=fun b o q=>h.Ss b o (f4 b o q)
 have d1:=f2.world' q6 (qL f3) (qL hSD) h0
 have tS:∀ b o,cup T1 T2 b o→S1 b o∨w.heap.size≤b:=q7
 have tdj:TV.dj (cup T1 T2) S':=fun b o z1 z2=>(tS b o z1).elim (fun z=>f3 b o z z2) (fun z=>by have:=hS'b b o z2; omega)
 have tdD:TV.dj (cup T1 T2) D:=fun b o z1 z2=>(tS b o z1).elim (fun z=>hSD b o z z2) (fun z=>by have:=h.Dl b o z2; omega)
 have t0:∀ b o,cup T1 T2 b o→c.S0 b o∨c.w0.heap.size≤b:=fun b o z=>(tS b o z).elim (h0 b o) (fun z=>.inr (Nat.le_trans h.fr.size z))
 have hfl:=resV_flat q1
 have d2:=d1.objs (fr:=fr) (RepRow.free _ _ 0 T1 q2 hn) hfl (kG tdj) (kG tdD) (fun b o z=>t0 b o (.inl z))
 obtain ⟨e2,z1,z2⟩:=zbi h2
 have hrd:∀ i,e0.nx≤i→i < e0.nx+(zG rs).length→(fun j=>fr[j - e0.nx]?) i=some ((fun i=>if e0.nx≤i then fr.getD (i - e0.nx) undef else hs i) i):=fun i m1 m2=>by
  have:i - e0.nx < fr.length:=by omega
  simp only [m1,if_true]
  rw [List.getD_eq_getElem?_getD,List.getElem?_eq_getElem this]
  rfl
 have hxr:RepRow w' D (fun j=>fr[j - e0.nx]?) (zG rs) e0.nx T1:=RepRow.shift _ _ _ 0 e0.nx T1 (RepRow.free _ _ 0 T1 q2 hn) (fun q _=>by
  show fr[e0.nx+q - e0.nx]? = fr[0+q]?
  rw [Nat.add_sub_cancel_left,Nat.zero_add])
 have hgt:∀ j v,fr[j]? = some v→(fun i=>if e0.nx≤i then fr.getD (i - e0.nx) undef else hs i) (e0.nx+j)=v:=fun j v hj=>by
  simp only [Nat.le_add_right,if_true,Nat.add_sub_cancel_left]
  exact fl_get hj
 have hsl:SlRep w' D (fun i=>if e0.nx≤i then fr.getD (i - e0.nx) undef else hs i) (e0.nx+(zG rs).length) (jP (zG rs) e0.nx++e0.ob) (retS rs e0.nx) u:=by
  unfold ResV at q1
  split at q1
  ·rename_i r
   obtain ⟨u1,r1',e3,e4,e5⟩:∃ u1 r1',[u]=u1 :: r1'∧AgRep w' D (fun i=>if e0.nx≤i then fr.getD (i - e0.nx) undef else hs i) (e0.nx+(zG [r]).length) (jP (zG [r]) e0.nx++e0.ob) ((entA [r] e0.nx).headD (.agg [])) u1∧r1'=[]:=by
    have:=qF9 (nx:=e0.nx+(zG [r]).length) (ob:=jP (zG [r]) e0.nx++e0.ob) [r] e0.nx T1 [u] fr _ q1 hxr hrd hgt (Nat.le_refl _)
    cases r with
    | one x=>obtain ⟨u1,r1',w1,w2,w3⟩:=this; exact ⟨u1,r1',w1,w2,w3⟩
    | agg x=>obtain ⟨u1,r1',w1,w2,w3⟩:=this; exact ⟨u1,r1',w1,w2,w3⟩
   injection e3 with e3 _
   subst e3
   cases r <;> exact e4
  ·rename_i hne
   obtain ⟨us,hu,hus⟩:=q1
   have:=qF9 (nx:=e0.nx+(zG rs).length) (ob:=jP (zG rs) e0.nx++e0.ob) rs e0.nx T1 us fr _ hus hxr hrd hgt (Nat.le_refl _)
   have hshape:retS rs e0.nx=.tup (entA rs e0.nx):=by
    unfold retS
    split
    ·rename_i g hg
     exfalso
     cases rs with
     | nil=>cases hg
     | cons r rs' =>
      cases rs' with
      | nil=>exact hne r rfl
      | cons r2 rs''=>cases r <;> cases r2 <;> simp [entA] at hg
    ·rfl
   rw [hshape]
   exact ⟨us,hu,this⟩
 have d3:=d2.putO z1 hsl
 simp only [List.all_eq_true,Bool.and_eq_true] at hfin
 have hL:∀ q ∈ fin,∀ k,(qF (gs++caps.map fun x=>(Ag.one (C.v x):Ag C)))[q.1]? = some k→qG0 w' (fun i=>if e0.nx≤i then fr.getD (i - e0.nx) undef else hs i) k ((fl1++uc).getD q.1 undef):=fun q hq k hk=>by
  have hql:q.1 < (qF (gs++caps.map fun x=>(.one (.v x):Ag C))).length:=(List.getElem?_eq_some_iff.1 hk).1
  obtain ⟨x,hx⟩:=f12 q.1 (by rw [Nat.zero_add]; exact (hfin q hq).1) hql
  obtain ⟨uq,g1,g2⟩:=CsRep.get _ _ q.1 k hC hk
  have hloc:=f11 q.1 k uq x hk g1 hx
  have hdead:=qI5 os _ q.1 x k hdeads hx hk
  rw [fl_get g1]
  cases k with
  | ref i p =>
   simp only [Env.deadAt] at hdead
   split at hdead
   case h_2=>cases hdead
   rename_i hnode
   obtain ⟨v,m1,m2⟩:=f2.lnode hnode
   have hi:i < e0.nx:=f2.id i v m1
   obtain ⟨Z1,Z2,y1,y2,y3,_⟩:=f2.ob.focus e0.ob S' i v m1
   have hS'same:TV.sameOn w w' S':=q6.sameOn (qL f3) hS'b
   have hDsame:TV.sameOn w w' D:=q6.sameOn (qL hSD) h.Dl
   have:=y1.loc_keep m2 hDsame (zQ hS'same (by rw [y2]; exact qU _ _))
   show loc w' (if e0.nx≤i then fr.getD (i - e0.nx) undef else hs i) p=some uq
   rw [if_neg (by omega),this]
   exact hloc
  | _=>trivial
 obtain ⟨S3,d4⟩:=StD.back fin d3 z2 q3 (fun q hq=>(hfin q hq).2) (dj_cup (qL q4) (vZ tdj)) (vZ tdD) (fun b o z=>t0 b o (.inr z)) hL
 exact hnext _ _ ⟨D,_,S3,d4⟩
end
end Go.TV
namespace Go.TV
section
variable {X:Cfg} {Post:Exit→Env→Prop} {e e':Env}
theorem opsV_call {ops:Array Oper} {o:Oper} {l:List Oper} {cf:Operand} {args:Array Operand} {ts:Array TypeId} {f:Nat} {as rs:List (Ag V)} {fin:List (Nat×V)} {cells:List C} {e1:Env}
  (md:Nat→List Nat) (hf:Fn X f as rs fin) (hg:o.guard=none) (ho:o.op=.call {callee:=.value cf,args:=args,argTypes:=ts}) (h1:zD7 md cf args.toList e=some (f,as,cells,e1)) (hn:zT (zG rs)=true)
  (hfin:fin.all (fun q=>(md f).contains q.1 && q.2.noBor)=true) (h2:zB2 o rs fin cells e1=some e') (h:opsV X ops l Post e'):opsV X ops (o :: l) Post e:=fun k a w ⟨D,hs,S,hd⟩ =>
 wpList_plain hg (fun K hK=>hd.call ho h1 hf hn hfin h2 (fun a w hs'=>hK a w (h k a w hs')))
end
def C.ren (os:List (Nat×Nat)):C→C
 | .ref i p=>match lk i os with | some n=>.ref n p | none=>.dead
 | .part i p n lo hi=>match lk i os with | some k=>.part k p n lo hi | none=>.dead
 | .addr i p n r j=>match lk i os with | some k=>.addr k p n r j | none=>.dead
 | x=>x
def shedS (os:List (Nat×Nat)) (sl:List (Nat×Sl)):List Nat→Option (List (Nat×Sl))
 | []=>some []
 | t :: ks=>(lk t sl).bind fun s=>(shedS os sl ks).map fun r=>(t,s.map (C.ren os)) :: r
def shedO (np nx:Nat):List (Nat×Nat)→List (Nat×V)→Option (List (Nat×V))
 | [],_=>some []
 | (i,k) :: os,ob=>(lk i ob).bind fun v=>if k < nx∧(i < np∨k < np→i=k) then (shedO np nx os (zR i ob)).bind fun r=>match lk k r with | none=>some ((k,v) :: r) | some _=>none else none
def Env.shed (e:Env) (ks:List Nat) (os:List (Nat×Nat)) (nx:Nat):Option Env:=
 if e.np≤nx then (shedS os e.sl ks).bind fun sl=>(shedO e.np nx os e.ob).map fun ob=>{N:=e.N,np:=e.np,nx:=nx,sl:=sl,ob:=ob} else none
section
variable {gG:GG} {c:Ctx gG} {e e':Env} {a:Act} {w:World} {D:CS} {hs:Nat→Value} {S:CS} {X:Cfg}
def oldOf (os:List (Nat×Nat)) (k:Nat):Nat:=match os.find? (fun q=>q.2 == k) with | some q=>q.1 | none=>k
theorem lk_delO {α:Type} {i k:Nat}:∀ (l:List (Nat×α)) (v:α),lk k (zR i l)=some v→(k≠i→lk k l=some v)
 | [],_,h,_=>by cases h
 | (j,x) :: r,v,h,hk=>by
  simp only [zR] at h
  split at h
  ·rename_i q
   rw [zL,if_neg (by omega)]
   exact h
  ·rw [zL] at h ⊢
   split
   ·rename_i q; rw [if_pos q] at h; exact h
   ·rename_i q; rw [if_neg q] at h; exact lk_delO r v h hk
theorem shedO_ok {np nx:Nat}:∀ (os:List (Nat×Nat)) (ob ob':List (Nat×V)) (S:CS),shedO np nx os ob=some ob'→ObRep w D hs ob S →
  (∀ k v,lk k ob'=some v→∃ i,lk i ob=some v∧(i,k) ∈ os∧k < nx∧(i < np∨k < np→i=k))∧(∀ i k,(i,k) ∈ os→∃ v,lk k ob'=some v∧lk i ob=some v)∧(∀ i i' k,(i,k) ∈ os→(i',k) ∈ os→i=i') ∧
  ∃ S',sub S' S∧∀ hs':Nat→Value,(∀ i k,(i,k) ∈ os→hs' k=hs i)→ObRep w D hs' ob' S'
 | [],ob,ob',S,h,ho=>by
  injection h with h
  subst h
  exact ⟨fun k v q=>(by cases q),fun i k q=>(by cases q),fun i i' k q=>(by cases q),emp,fun _ _ q=>q.elim,fun _ _=>rfl⟩
 | (i,k) :: os,ob,ob',S,h,ho=>by
  simp only [shedO] at h
  obtain ⟨v,h1,h⟩:=zbi h
  split at h
  case isFalse=>cases h
  rename_i hk
  obtain ⟨r,h2,h⟩:=zbi h
  split at h
  case h_2=>cases h
  rename_i hr
  injection h with h
  subst h
  obtain ⟨S1,G,g1,g2,g3,g4,g5⟩:=ho.focus ob S i v h1
  have hdel:lk i (zR i ob)=none:=ObRep.del ob S ho
  obtain ⟨f1,f2,f3,S',f4,f5⟩:=shedO_ok os (zR i ob) r G h2 g4
  have hne:∀ i' k',(i',k') ∈ os→k'≠k:=fun i' k' q e=>by
   obtain ⟨v',q1,_⟩:=f2 i' k' q
   rw [e,hr] at q1
   cases q1
  have hni:∀ i' v',lk i' (zR i ob)=some v'→i'≠i:=fun i' v' q e=>by rw [e,hdel] at q; cases q
  refine ⟨fun k' v' q=>?_,fun i' k' q=>?_,fun i1 i2 k' q1 q2=>?_,cup S1 S',?_,fun hs' q=>?_⟩
  ·rw [zL] at q
   split at q
   ·rename_i e
    subst e
    injection q with q
    subst q
    exact ⟨i,h1,by simp,hk.1,hk.2⟩
   ·obtain ⟨i',q1,q2,q3,q4⟩:=f1 k' v' q
    exact ⟨i',lk_delO ob v' q1 (hni _ _ q1),by simp [q2],q3,q4⟩
  ·rcases List.mem_cons.1 q with q | q
   ·injection q with e1 e2
    subst e1
    subst e2
    exact ⟨v,by rw [zL,if_pos rfl],h1⟩
   ·obtain ⟨v',q1,q2⟩:=f2 i' k' q
    exact ⟨v',by rw [zL,if_neg (hne i' k' q)]; exact q1,lk_delO ob v' q2 (hni _ _ q2)⟩
  ·rcases List.mem_cons.1 q1 with q1 | q1 <;> rcases List.mem_cons.1 q2 with q2 | q2
   ·injection q1 with a1 a2
    injection q2 with b1 b2
    omega
   ·injection q1 with a1 a2
    exact absurd a2 (hne _ _ q2)
   ·injection q2 with a1 a2
    exact absurd a2 (hne _ _ q1)
   ·exact f3 _ _ _ q1 q2
  ·rw [g2]
   exact fun b o q=>q.elim .inl (fun z=>.inr (f4 b o z))
  ·refine ⟨S1,S',hr,?_,f5 hs' (fun i' k' z=>q i' k' (by simp [z])),fun b o z1 z2=>g3 b o z1 (f4 b o z2),rfl⟩
   rw [q i k (by simp)]
   exact g1
theorem mem_lk {os:List (Nat×Nat)} {i n:Nat} (h:lk i os=some n):(i,n) ∈ os:=by
 induction os with
 | nil=>cases h
 | cons q os ih =>
  obtain ⟨a,b⟩:=q
  rw [zL] at h
  split at h
  ·rename_i e
   injection h with h
   subst e
   subst h
   simp
  ·simp [ih h]
theorem CRep.ren {ob':List (Nat×V)} {hs':Nat→Value} {nx nx':Nat} {ob:List (Nat×V)} {os:List (Nat×Nat)} (h1:∀ i n,(i,n) ∈ os→n < nx'∧hs' n=hs i∧∀ v,lk n ob'=some v→lk i ob=some v) {k:C} {u:Value}
  (h:CRep w D hs nx ob k u):CRep w D hs' nx' ob' (k.ren os) u:=by
 have key:∀ i n p φ,lk i os=some n→Pth w hs ob i p φ→n < nx'∧Pth w hs' ob' n p φ:=fun i n p φ q hp=>by
  obtain ⟨a1,a2,a3⟩:=h1 i n (mem_lk q)
  exact ⟨a1,fun v x q1 q2=>by rw [a2]; exact hp v x (a3 v q1) q2⟩
 cases k with
 | v x=>exact h
 | ref i p =>
  simp only [C.ren]
  split
  ·exact key _ _ _ _ ‹_› h.2
  ·trivial
 | part i p n lo hi =>
  simp only [C.ren]
  split
  ·exact key _ _ _ _ ‹_› h.2
  ·trivial
 | addr i p n r j =>
  simp only [C.ren]
  split
  ·exact key _ _ _ _ ‹_› h.2
  ·trivial
 | ba row=>exact h
 | dead=>trivial
theorem CsRep.ren {ob':List (Nat×V)} {hs':Nat→Value} {nx nx':Nat} {ob:List (Nat×V)} {os:List (Nat×Nat)} (h1:∀ i n,(i,n) ∈ os→n < nx'∧hs' n=hs i∧∀ v,lk n ob'=some v→lk i ob=some v):∀ (ks:List C) (us:List Value),
  CsRep w D hs nx ob ks us→CsRep w D hs' nx' ob' (ks.map (C.ren os)) us
 | [],_,h=>h
 | k :: ks,us,h=>by
  obtain ⟨u,r,e,h2,h3⟩:=h
  exact ⟨u,r,e,CRep.ren h1 h2,CsRep.ren h1 ks r h3⟩
theorem AgRep.ren {ob':List (Nat×V)} {hs':Nat→Value} {nx nx':Nat} {ob:List (Nat×V)} {os:List (Nat×Nat)} (h1:∀ i n,(i,n) ∈ os→n < nx'∧hs' n=hs i∧∀ v,lk n ob'=some v→lk i ob=some v) {g:Ag C} {u:Value}
  (h:AgRep w D hs nx ob g u):AgRep w D hs' nx' ob' (g.map (C.ren os)) u:=by
 cases g with
 | one k=>exact CRep.ren h1 h
 | agg ks=>obtain ⟨us,e,h⟩:=h; exact ⟨us,e,CsRep.ren h1 ks us h⟩
theorem AgsRep.ren {ob':List (Nat×V)} {hs':Nat→Value} {nx nx':Nat} {ob:List (Nat×V)} {os:List (Nat×Nat)} (h1:∀ i n,(i,n) ∈ os→n < nx'∧hs' n=hs i∧∀ v,lk n ob'=some v→lk i ob=some v):∀ (ks:List (Ag C)) (us:List Value),
  AgsRep w D hs nx ob ks us→AgsRep w D hs' nx' ob' (ks.map (Ag.map (C.ren os))) us
 | [],_,h=>h
 | k :: ks,us,h=>by
  obtain ⟨u,r,e,h2,h3⟩:=h
  exact ⟨u,r,e,AgRep.ren h1 h2,AgsRep.ren h1 ks r h3⟩
theorem SlRep.ren {ob':List (Nat×V)} {hs':Nat→Value} {nx nx':Nat} {ob:List (Nat×V)} {os:List (Nat×Nat)} (h1:∀ i n,(i,n) ∈ os→n < nx'∧hs' n=hs i∧∀ v,lk n ob'=some v→lk i ob=some v) {s:Sl} {u:Value}
  (h:SlRep w D hs nx ob s u):SlRep w D hs' nx' ob' (s.map (C.ren os)) u:=by
 cases s with
 | pl g=>exact AgRep.ren h1 h
 | tup gs=>obtain ⟨us,e,h⟩:=h; exact ⟨us,e,AgsRep.ren h1 gs us h⟩
theorem shedS_ok {os:List (Nat×Nat)} {sl:List (Nat×Sl)}:∀ (ks:List Nat) (sl':List (Nat×Sl)),shedS os sl ks=some sl'→∀ t s,lk t sl'=some s→∃ s0,lk t sl=some s0∧s=s0.map (C.ren os)
 | [],sl',h,t,s,q=>by injection h with h; subst h; cases q
 | k :: ks,sl',h,t,s,q=>by
  obtain ⟨s0,h1,h⟩:=zbi h
  obtain ⟨r,h2,rfl⟩:=Option.map_eq_some_iff.1 h
  rw [zL] at q
  split at q
  ·rename_i e
   subst e
   injection q with q
   exact ⟨s0,h1,q.symm⟩
  ·exact shedS_ok ks r h2 t s q
theorem find_old {os:List (Nat×Nat)} (hu:∀ i i' k,(i,k) ∈ os→(i',k) ∈ os→i=i') {i k:Nat} (h:(i,k) ∈ os):oldOf os k=i:=by
 unfold oldOf
 split
 ·rename_i q hq
  have h1:=List.find?_some hq
  have h2:=List.mem_of_find?_eq_some hq
  simp at h1
  subst h1
  exact hu _ _ _ h2 h
 ·rename_i hq
  have:=List.find?_eq_none.1 hq _ h
  simp at this
theorem St.shed {ks:List Nat} {os:List (Nat×Nat)} {nx:Nat} (he:e.shed ks os nx=some e') (h:St c e a w):St c e' a w:=by
 obtain ⟨D,hs,S,h⟩:=h
 unfold Env.shed at he
 split at he
 case isFalse=>cases he
 rename_i hnp
 obtain ⟨sl,h1,he⟩:=zbi he
 obtain ⟨ob,h2,rfl⟩:=Option.map_eq_some_iff.1 he
 obtain ⟨f1,f2,f3,S',f4,f5⟩:=shedO_ok os e.ob ob S h2 h.ob
 have hop:∀ j,j < e.np→oldOf os j=j:=fun j hj=>by
  unfold oldOf
  split
  ·rename_i q hq
   have g1:=List.find?_some hq
   have g2:=List.mem_of_find?_eq_some hq
   simp at g1
   obtain ⟨v,g3,_⟩:=f2 q.1 q.2 g2
   obtain ⟨i,_,g5,_,g7⟩:=f1 _ _ g3
   have:=f3 _ _ _ g5 g2
   subst this
   have:=g7 (.inr (by omega))
   omega
  ·rfl
 refine ⟨D,fun j=>hs (oldOf os j),S',?_⟩
 have hren:∀ i n,(i,n) ∈ os→n < nx∧hs (oldOf os n)=hs i∧∀ v,lk n ob=some v→lk i e.ob=some v:=fun i n q=>by
  obtain ⟨v,g1,g2⟩:=f2 i n q
  obtain ⟨i',g3,g4,g5,_⟩:=f1 n v g1
  exact ⟨g5,by rw [find_old f3 q],fun v' q'=>by rw [g1] at q'; injection q' with q'; rw [← q']; exact g2⟩
 exact {
  ob:=f5 _ (fun i k q=>by show hs (oldOf os k)=hs i; rw [find_old f3 q])
  sl:=fun t s q=>by
   obtain ⟨s0,q1,rfl⟩:=shedS_ok ks sl h1 t s q
   exact SlRep.ren hren (h.sl t s0 q1)
  sz:=h.sz
  df:=h.df
  dj:=fun b o q1 q2=>h.dj b o (f4 b o q1) q2
  Dl:=h.Dl
  id:=fun i v q=>by obtain ⟨_,_,_,g,_⟩:=f1 i v q; exact g
  npx:=hnp
  hp:=fun i hi=>by show hs (oldOf os i)=c.h0 i; rw [hop i hi]; exact h.hp i hi
  fr:=h.fr
  Ss:=fun b o q=>h.Ss b o (f4 b o q)
  D0:=h.D0
  gl:=h.gl
  Ds:=h.Ds}
def Shd (I:Env→Prop):Env→Prop:=fun e=>I e∨∀ (gG:GG) (c:Ctx gG) (a:Act) (w:World),St c e a w→∃ e',I e'∧St c e' a w
theorem Shd.of {I:Env→Prop} (ks:List Nat) (os:List (Nat×Nat)) (nx:Nat) (he:e.shed ks os nx=some e') (h:I e'):Shd I e:=.inr fun _ _ _ _ hs=>⟨e',h,St.shed he hs⟩
theorem Shd.st {I:Env→Prop} (h:Shd I e) (hs:St c e a w):∃ e',I e'∧St c e' a w:=by
 rcases h with h | h
 ·exact ⟨e,h,hs⟩
 ·exact h _ c a w hs
theorem wpV_seqJ {Post:Exit→Env→Prop} {cd d:Code} (J:Env→Prop) (h:wpV X cd (yU (Shd J) Post) e) (h2:∀ e,J e→wpV X d Post e):wpV X (.seq cd d) Post e:=
 wpV_seq (qL2 h fun x e q=>by
  cases x with
  | normal=>exact fun k a w hs=>(Shd.st q hs).elim fun e' z=>h2 e' z.1 k a w z.2
  | _=>exact q)
theorem wpV_loopS {Post:Exit→Env→Prop} {cd:Code} (I:Nat→Env→Prop) {n:Nat} (h0:Shd (I n) e) (h:∀ n e,I n e→wpV X cd (yU (Shd fun e'=>∃ m,m < n∧I m e') Post) e):wpV X (.loop cd) Post e:=by
 refine wpV_loop (fun n e=>Shd (I n) e) h0 fun n e hI=>fun k a w hs=>?_
 obtain ⟨e',h1,h2⟩:=hI.st hs
 refine Code.wp_mono (fun x a w q=>?_) (h n e' h1 k a w h2)
 obtain ⟨e'',q1,q2⟩:=q
 cases x with
 | normal =>
  obtain ⟨e3,⟨m,q3,q4⟩,q5⟩:=Shd.st (I:=fun e'=>∃ m,m < n∧I m e') q1 q2
  exact ⟨e3,⟨m,q3,.inl q4⟩,q5⟩
 | _=>exact ⟨e'',q1,q2⟩
end
end Go.TV
namespace Go.TV
def kdOf:TypeDesc→Option Kd
 | .bool=>some .bool
 | .int k=>some (.int k)
 | .string=>some .string
 | .slice e=>some (.slice e)
 | .pointer e=>some (.ptr e)
 | .struct fs=>some (.struct (fs.toList.map fun f=>(f.offset,f.type)))
 | .func ..=>some .other
 | _=>none
theorem kdOf_ok {u:TypeDesc} {k:Kd} (h:kdOf u=some k):KdOk u k:=by
 cases u <;> simp [kdOf] at h <;> subst h <;> simp [KdOk]
def zOf (n:Nat) (v:Value):Option V:=
 match v with
 | .slice none 0 0=>some (.list true n [])
 | v=>if plain v=true then some (.sc v) else none
theorem zOf_ok {n:Nat} {v:Value} {x:V} (h:zOf n v=some x):zv x=v∧zok x=true:=by
 unfold zOf at h
 split at h
 ·injection h with h; subst h; exact ⟨rfl,rfl⟩
 ·split at h
  ·rename_i q
   injection h with h
   subst h
   exact ⟨rfl,q⟩
  ·cases h
def zsOf:List Value→List Nat→Option (List V)
 | [],_=>some []
 | v :: vs,ns=>(zOf (ns.headD 1) v).bind fun x=>(zsOf vs ns.tail).map fun xs=>x :: xs
theorem zsOf_ok:∀ (vs:List Value) (ns:List Nat) (xs:List V),zsOf vs ns=some xs→vs=xs.map zv∧xs.all zok=true
 | [],_,xs,h=>by injection h with h; subst h; exact ⟨rfl,rfl⟩
 | v :: vs,ns,xs,h=>by
  obtain ⟨x,h1,h⟩:=zbi h
  obtain ⟨ys,h2,rfl⟩:=Option.map_eq_some_iff.1 h
  obtain ⟨g1,g2⟩:=zOf_ok h1
  obtain ⟨g3,g4⟩:=zsOf_ok vs _ ys h2
  exact ⟨by rw [List.map_cons,g1,← g3],by simp [g2]; simpa using g4⟩
def cellNs (P:Program):Nat→Nat→List Nat
 | 0,_=>[]
 | d+1,t=>match P.underlying t with
  | some (.struct fs)=>fs.toList.flatMap fun f=>cellNs P d f.type
  | some (.slice e)=>[match P.info? e with | some i=>i.size | none=>1]
  | _=>[1]
def tyOf (P:Program) (t:Nat):Option TyI:=
 (P.info? t).bind fun i=>(P.underlying t).bind fun u=>(kdOf u).bind fun k=>i.zero.bind fun z=>(zsOf z.cells.toList (cellNs P 9 t)).bind fun l =>
  if l.length=i.size then some ⟨i.size,i.bytes,k,l⟩ else none
theorem tyOf_ok {P:Program} {t:Nat} {d:TyI} (h:tyOf P t=some d):TyOk P t d:=by
 obtain ⟨i,h1,h⟩:=zbi h
 obtain ⟨u,h2,h⟩:=zbi h
 obtain ⟨k,h3,h⟩:=zbi h
 obtain ⟨z,h4,h⟩:=zbi h
 obtain ⟨l,h5,h⟩:=zbi h
 split at h
 case isFalse=>cases h
 rename_i hl
 injection h with h
 subst h
 obtain ⟨g1,g2⟩:=zsOf_ok _ _ _ h5
 exact {inf:=⟨i,h1,rfl,rfl,z,h4,g1⟩,und:=⟨u,h2,kdOf_ok h3⟩,zo:=g2,zl:=hl}
def Cfg.of (P:Program) (h:P.follows .mixedOrders=true):Cfg:={P:=P,T:=tyOf P,hT:=fun _ _ q=>tyOf_ok q,mx:=h}
end Go.TV
namespace Go.TV
def iter {σ ρ:Type} (body:σ→Option (σ⊕ρ)):Nat→σ→Option ρ
 | 0,_=>none
 | n+1,s=>(body s).bind fun | .inl s'=>iter body n s' | .inr r=>some r
open Classical in
noncomputable def zC {σ ρ:Type} (body:σ→Option (σ⊕ρ)) (s:σ):Option ρ:=
 if h:∃ n r,iter body n s=some r then some h.choose_spec.choose else none
theorem iter_mono {σ ρ:Type} {body:σ→Option (σ⊕ρ)}:∀ {n m:Nat} {s:σ} {r:ρ},iter body n s=some r→n≤m→iter body m s=some r
 | 0,_,_,_,h,_=>by cases h
 | n+1,0,_,_,_,h=>by omega
 | n+1,m+1,s,r,h,hm=>by
  simp only [iter] at h ⊢
  obtain ⟨y,h1,h2⟩:=zbi h
  rw [h1,Option.bind_some]
  cases y with
  | inl s'=>exact iter_mono h2 (by omega)
  | inr r'=>exact h2
theorem loopM_iff {σ ρ:Type} {body:σ→Option (σ⊕ρ)} {s:σ} {r:ρ}:zC body s=some r↔∃ n,iter body n s=some r:=by
 unfold zC
 constructor
 ·intro h
  split at h
  ·rename_i hx
   injection h with h
   rw [← h]
   exact ⟨_,hx.choose_spec.choose_spec⟩
  ·cases h
 ·rintro ⟨n,h⟩
  have hx:∃ n r,iter body n s=some r:=⟨n,r,h⟩
  rw [dif_pos hx]
  have h1:=hx.choose_spec.choose_spec
  have h2:=iter_mono h1 (Nat.le_max_left _ n)
  have h3:=iter_mono h (Nat.le_max_right hx.choose n)
  rw [h2] at h3
  exact h3
theorem zJ {σ ρ:Type} (body:σ→Option (σ⊕ρ)) (s:σ):zC body s=(body s).bind fun | .inl s'=>zC body s' | .inr r=>some r:=by
 apply Option.ext
 intro r
 rw [loopM_iff]
 constructor
 ·rintro ⟨n,h⟩
  cases n with
  | zero=>cases h
  | succ n =>
   obtain ⟨y,h1,h2⟩:=zbi h
   rw [h1,Option.bind_some]
   cases y with
   | inl s'=>exact loopM_iff.2 ⟨n,h2⟩
   | inr r'=>exact h2
 ·intro h
  obtain ⟨y,h1,h2⟩:=zbi h
  cases y with
  | inl s' =>
   obtain ⟨n,h3⟩:=loopM_iff.1 h2
   exact ⟨n+1,by simp only [iter]; rw [h1,Option.bind_some]; exact h3⟩
  | inr r'=>exact ⟨1,by simp only [iter]; rw [h1,Option.bind_some]; exact h2⟩
def wk (k:IntKind) (x:Int):Int:=IntKind.wrap k x
def shlI (k:IntKind) (x y:Int):Int:=k.wrap (x * 2 ^ min y.toNat k.bits)
def xL (k:IntKind) (x y:Int):Int:=x / 2 ^ min y.toNat k.bits
def chk (p:Prop) [Decidable p]:Option Unit:=if p then some () else none
def zI {α:Type} (l:List α) (i:Int):Option α:=if i < 0 then none else l[i.toNat]?
def sidx (s:ByteArray) (i:Int):Option Int:=if i < 0 then none else if i.toNat < s.size then some (bt s i.toNat) else none
def sub2 (s:ByteArray) (lo hi:Int):Option ByteArray:=if lo < 0 then none else if hi < 0 then none else if lo.toNat≤hi.toNat∧hi.toNat≤s.size then some (s.extract lo.toNat hi.toNat) else none
def subL (s:ByteArray) (lo:Int):Option ByteArray:=if lo < 0 then none else if lo.toNat≤s.size then some (s.extract lo.toNat s.size) else none
def subH (s:ByteArray) (hi:Int):Option ByteArray:=if hi < 0 then none else if hi.toNat≤s.size then some (s.extract 0 hi.toNat) else none
def cut2 {α:Type} (l:List α) (lo hi:Int):Option (List α):=if lo < 0 then none else if hi < 0 then none else if lo.toNat≤hi.toNat∧hi.toNat≤l.length then some ((l.drop lo.toNat).take (hi.toNat - lo.toNat)) else none
def cutL {α:Type} (l:List α) (lo:Int):Option (List α):=if lo < 0 then none else if lo.toNat≤l.length then some (l.drop lo.toNat) else none
def cutH {α:Type} (l:List α) (hi:Int):Option (List α):=if hi < 0 then none else if hi.toNat≤l.length then some (l.take hi.toNat) else none
def mkl {α:Type} (n m:Int) (z:α):Option (List α):=if 0≤n∧n≤m∧m≤1099511627776 then some (List.replicate n.toNat z) else none
def qE {α:Type} (l m:List α):Option (List α):=if l.length+m.length≤549755813888 then some (l++m) else none
def sapp (s t:ByteArray):Option ByteArray:=if s.size+t.size≤4611686018427387904 then some (s++t) else none
def qX (s:ByteArray):List Int:=s.data.toList.map fun b=>(b.toNat:Int)
theorem chk_f {p:Prop} [Decidable p] {u:Unit} (h:chk p=some u):p:=by
 unfold chk at h
 split at h
 ·assumption
 ·cases h
theorem chkF {p:Prop} [Decidable p] {u:Unit} (h:chk (¬p)=some u):p=False:=eq_false (chk_f h)
theorem geti_f {α:Type} {l:List α} {i:Int} {x:α} (h:zI l i=some x):((i < 0)=False)∧((i.toNat < l.length)=True)∧l[i.toNat]? = some x:=by
 unfold zI at h
 split at h
 ·cases h
 ·rename_i q
  exact ⟨eq_false q,eq_true (List.getElem?_eq_some_iff.1 h).1,h⟩
theorem sidx_f {s:ByteArray} {i x:Int} (h:sidx s i=some x):((i < 0)=False)∧((i.toNat < s.size)=True)∧bt s i.toNat=x:=by
 unfold sidx at h
 split at h
 ·cases h
 ·rename_i q
  split at h
  ·rename_i q2
   injection h with h
   exact ⟨eq_false q,eq_true q2,h⟩
  ·cases h
theorem sub2_f {s t:ByteArray} {lo hi:Int} (h:sub2 s lo hi=some t):((lo < 0)=False)∧((hi < 0)=False)∧((lo.toNat≤hi.toNat∧hi.toNat≤s.size)=True)∧s.extract lo.toNat hi.toNat=t:=by
 unfold sub2 at h
 split at h
 ·cases h
 split at h
 ·cases h
 split at h
 ·injection h with h
  exact ⟨eq_false ‹_›,eq_false ‹_›,eq_true ‹_›,h⟩
 ·cases h
theorem subL_f {s t:ByteArray} {lo:Int} (h:subL s lo=some t):((lo < 0)=False)∧((lo.toNat≤s.size)=True)∧s.extract lo.toNat s.size=t:=by
 unfold subL at h
 split at h
 ·cases h
 split at h
 ·injection h with h
  exact ⟨eq_false ‹_›,eq_true ‹_›,h⟩
 ·cases h
theorem subH_f {s t:ByteArray} {hi:Int} (h:subH s hi=some t):((hi < 0)=False)∧((hi.toNat≤s.size)=True)∧s.extract 0 hi.toNat=t:=by
 unfold subH at h
 split at h
 ·cases h
 split at h
 ·injection h with h
  exact ⟨eq_false ‹_›,eq_true ‹_›,h⟩
 ·cases h
theorem cut2_f {α:Type} {l t:List α} {lo hi:Int} (h:cut2 l lo hi=some t):((lo < 0)=False)∧((hi < 0)=False)∧((lo.toNat≤hi.toNat∧hi.toNat≤l.length)=True)∧(l.drop lo.toNat).take (hi.toNat - lo.toNat)=t:=by
 unfold cut2 at h
 split at h
 ·cases h
 split at h
 ·cases h
 split at h
 ·injection h with h
  exact ⟨eq_false ‹_›,eq_false ‹_›,eq_true ‹_›,h⟩
 ·cases h
theorem cutL_f {α:Type} {l t:List α} {lo:Int} (h:cutL l lo=some t):((lo < 0)=False)∧((lo.toNat≤l.length)=True)∧(l.drop lo.toNat).take (l.length - lo.toNat)=t:=by
 unfold cutL at h
 split at h
 ·cases h
 split at h
 ·injection h with h
  subst h
  exact ⟨eq_false ‹_›,eq_true ‹_›,List.take_of_length_le (by simp)⟩
 ·cases h
theorem cutH_f {α:Type} {l t:List α} {hi:Int} (h:cutH l hi=some t):((hi < 0)=False)∧((hi.toNat≤l.length)=True)∧l.take hi.toNat=t:=by
 unfold cutH at h
 split at h
 ·cases h
 split at h
 ·injection h with h
  exact ⟨eq_false ‹_›,eq_true ‹_›,h⟩
 ·cases h
theorem mkl_f {α:Type} {n m:Int} {z:α} {l:List α} (h:mkl n m z=some l):((0≤n)=True)∧((n≤m)=True)∧((m≤1099511627776)=True)∧List.replicate n.toNat z=l:=by
 unfold mkl at h
 split at h
 ·rename_i q
  injection h with h
  exact ⟨eq_true q.1,eq_true q.2.1,eq_true q.2.2,h⟩
 ·cases h
theorem appn_f {α:Type} {l m t:List α} (h:qE l m=some t):((l.length+m.length≤549755813888)=True)∧l++m=t:=by
 unfold qE at h
 split at h
 ·injection h with h
  exact ⟨eq_true ‹_›,h⟩
 ·cases h
theorem app1_f {α:Type} {l t:List α} {a:α} (h:qE l [a]=some t):((l.length+1≤549755813888)=True)∧l++[a]=t:=appn_f h
theorem app2_f {α:Type} {l t:List α} {a b:α} (h:qE l [a,b]=some t):((l.length+2≤549755813888)=True)∧l++[a,b]=t:=appn_f h
theorem app3_f {α:Type} {l t:List α} {a b c:α} (h:qE l [a,b,c]=some t):((l.length+3≤549755813888)=True)∧l++[a,b,c]=t:=appn_f h
theorem app4_f {α:Type} {l t:List α} {a b c d:α} (h:qE l [a,b,c,d]=some t):((l.length+4≤549755813888)=True)∧l++[a,b,c,d]=t:=appn_f h
theorem sapp_f {s t u:ByteArray} (h:sapp s t=some u):((s.size+t.size≤4611686018427387904)=True)∧s++t=u:=by
 unfold sapp at h
 split at h
 ·injection h with h
  exact ⟨eq_true ‹_›,h⟩
 ·cases h
theorem ifT {α:Type} {b:Bool} {x y:α} (h:b=true):(if b=true then x else y)=x:=if_pos h
theorem ifF {α:Type} {b:Bool} {x y:α} (h:b=false):(if b=true then x else y)=y:=if_neg (by simp [h])
def rK (k:IntKind) (x:Int):List V:=[.sc (.int k x)]
def rB (x:Bool):List V:=[.sc (.bool x)]
def rS (x:ByteArray):List V:=[.sc (.string x)]
def rL {α:Type} (o:Bool) (n:Nat) (r:α→List V) (l:List α):List V:=[.list o n (l.map r)]
theorem zP3 {α:Type} {r:α→List V} (h:∀ x,(r x).all V.alive=true) (l:List α):qY (l.map r)=true:=by
 simp [qY,List.all_map,Function.comp_def,h]
theorem qH {α:Type} (l:List α) (i:Nat) (a:α):(l.set i a)[i]? = (l[i]?).map fun _=>a:=by
 rw [List.getElem?_set]
 simp only [↓reduceIte]
 split
 ·rw [List.getElem?_eq_getElem ‹_›]; rfl
 ·rw [List.getElem?_eq_none (by omega)]; rfl
theorem kO:qY []=true:=rfl
theorem jX (r:List V) (rs:List (List V)):qY (r :: rs)=(r.all V.alive && qY rs):=rfl
theorem kM:zO6 []=true:=rfl
theorem jO (r:List V) (rs:List (List V)):zO6 (r :: rs)=(r.all V.isSc && zO6 rs):=rfl
theorem qO {α:Type} (r:α→List V) (l m:List α):l.map r++m.map r=(l++m).map r:=by rw [List.map_append]
theorem yJ {α:Type} (r:α→List V) (l:List α) (i:Nat) (x:α):(l.map r).set i (r x)=(l.set i x).map r:=by rw [List.map_set]
theorem qJ1 {α:Type} (r:α→List V) (z:α) (n:Nat):List.replicate n (r z)=(List.replicate n z).map r:=by rw [List.map_replicate]
theorem qK (l:List Int):zM8 (l.map (rK .u8))=some l:=by
 induction l with
 | nil=>rfl
 | cons x l ih=>simp only [List.map_cons,rK,zM8] at ih ⊢; rw [ih]; rfl
theorem jG (s:ByteArray):(s.data.toList.map fun b=>[V.sc (.int .u8 b.toNat)])=(qX s).map (rK .u8):=by
 unfold qX
 rw [List.map_map]
 rfl
theorem yH {α:Type} {r r':α→List V} (h:∀ x,qB (r x)=r' x) (l:List α):jY (l.map r)=l.map r':=by
 rw [zY0,List.map_map]
 apply List.map_congr_left
 intro x _
 rw [← h x,zK4]
 rfl
theorem yZ {α:Type} {r:α→List V} (h:∀ x,zT (r x)=true) (l:List α):zP (l.map r)=true:=by
 induction l with
 | nil=>rfl
 | cons x l ih=>simp [zP,h,ih]
theorem bor_rL {α:Type} {o:Bool} {n:Nat} {r r':α→List V} (h:∀ x,qB (r x)=r' x) (l:List α):qB (rL o n r l)=rL false n r' l:=by
 simp only [rL,qB,V.bor]
 rw [yH h]
theorem nb_rL {α:Type} {n:Nat} {r:α→List V} (h:∀ x,zT (r x)=true) (l:List α):zT (rL true n r l)=true:=by
 simp only [rL,zT,V.noBor,yZ h l,Bool.and_true]
theorem wR (k:IntKind) (x y:Int):binI .add k x y=some (.int k (wk k (x+y))):=rfl
theorem wQ (k:IntKind) (x y:Int):binI .sub k x y=some (.int k (wk k (x - y))):=rfl
theorem yB (k:IntKind) (x y:Int):binI .mul k x y=some (.int k (wk k (x * y))):=rfl
theorem wZ (k:IntKind) (x y:Int):binI .quo k x y=if y=0 then none else some (.int k (wk k (x.tdiv y))):=rfl
theorem wP (k:IntKind) (x y:Int):binI .rem k x y=if y=0 then none else some (.int k (x.tmod y)):=rfl
theorem wV (k:IntKind) (x y:Int):binI .and k x y=some (.int k (bits .and k x y)):=rfl
theorem uT (k:IntKind) (x y:Int):binI .or k x y=some (.int k (bits .or k x y)):=rfl
theorem yD (k:IntKind) (x y:Int):binI .xor k x y=some (.int k (bits .xor k x y)):=rfl
theorem jH (k:IntKind) (x y:Int):binI .andNot k x y=some (.int k (bits .andNot k x y)):=rfl
theorem wL (k:IntKind) (x y:Int):binI .eql k x y=some (.bool (x == y)):=rfl
theorem wW (k:IntKind) (x y:Int):binI .neq k x y=some (.bool (x != y)):=rfl
theorem wN (k:IntKind) (x y:Int):binI .lss k x y=some (.bool (decide (x < y))):=rfl
theorem wM (k:IntKind) (x y:Int):binI .leq k x y=some (.bool (decide (x≤y))):=rfl
theorem wU (k:IntKind) (x y:Int):binI .gtr k x y=some (.bool (decide (x > y))):=rfl
theorem wJ (k:IntKind) (x y:Int):binI .geq k x y=some (.bool (decide (x≥y))):=rfl
theorem yA (k:IntKind) (x y:Int):binI .shl k x y=if y < 0 then none else some (.int k (shlI k x y)):=rfl
theorem wK (k:IntKind) (x y:Int):binI .shr k x y=if y < 0 then none else some (.int k (xL k x y)):=rfl
theorem wY (x y:ByteArray):binS .add x y=if x.size+y.size≤4611686018427387904 then some (.string (x++y)) else none:=rfl
theorem wS (x y:ByteArray):binS .eql x y=some (.bool (x.toList == y.toList)):=rfl
theorem yC (x y:ByteArray):binS .neq x y=some (.bool !(x.toList == y.toList)):=rfl
theorem wX (x y:ByteArray):binS .lss x y=some (.bool (Op.bytesLess x.toList y.toList)):=rfl
theorem wI (x y:ByteArray):binS .leq x y=some (.bool (Op.bytesLess x.toList y.toList || x.toList == y.toList)):=rfl
theorem wO (x y:ByteArray):binS .gtr x y=some (.bool !(Op.bytesLess x.toList y.toList || x.toList == y.toList)):=rfl
theorem wT (x y:ByteArray):binS .geq x y=some (.bool !(Op.bytesLess x.toList y.toList)):=rfl
theorem kN (k:IntKind) (x:Int):IntKind.wrap k x=wk k x:=rfl
end Go.TV
namespace Go.TV
def DidP (P:Program) (e:Env) (o:Oper) (a:Act) (w:World) (D:CS) (hs:Nat→Value) (e':Env):Prop:=
 ∃ u s,(∀ w',(execOp a.eval o).run P w'=.ok (.value u) w')∧e.putO o.dst s=some e'∧SlRep w D hs e.nx e.ob s u
section
variable {gG:GG} {c:Ctx gG} {e e':Env} {a:Act} {w:World} {D:CS} {hs:Nat→Value} {S:CS} {X:Cfg} {o:Oper}
theorem StD.didP (h:StD c e a w D hs S) {P:Program} {o:Oper} {s:Sl} {u:Value} {e':Env} (hr:∀ w',(execOp a.eval o).run P w'=.ok (.value u) w') (he:e.putO o.dst s=some e') (hu:SlRep w D hs e.nx e.ob s u) :
  DidP P e o a w D hs e':=⟨u,s,hr,he,hu⟩
theorem DidP.st (h:StD c e a w D hs S) {P:Program} {o:Oper} {e':Env} (hd:DidP P e o a w D hs e'):∃ u,(∀ w',(execOp a.eval o).run P w'=.ok (.value u) w')∧St c e' (a.put o.dst u) w:=by
 obtain ⟨u,s,h1,h2,h3⟩:=hd
 exact ⟨u,h1,D,hs,S,h.putO h2 h3⟩
theorem evMove_pure (h:StD c e a w D hs S) {x:Operand} (ho:o.op=.move x) (he:xD o x e=some e'):DidP X.P e o a w D hs e':=by
 obtain ⟨s,h1,h2⟩:=zbi he
 exact h.didP (fun w=>by simp [execOp,ho]) h2 (h.val h1)
theorem qC9 (h:StD c e a w D hs S) {x:Operand} (ho:o.op=.move x∨o.op=.assign x) (he:xD o x e=some e'):DidP X.P e o a w D hs e':=by
 obtain ⟨s,h1,h2⟩:=zbi he
 exact h.didP (fun w=>by rcases ho with ho | ho <;> simp [execOp,ho]) h2 (h.val h1)
theorem qK3 (h:StD c e a w D hs S) {k x y:Operand} (ho:o.op=.pick k x y) (he:xV o k x y e=some e'):DidP X.P e o a w D hs e':=by
 obtain ⟨s,h1,h2⟩:=zbi he
 obtain ⟨g1,g2⟩:=h.sc h1
 cases s with
 | bool t =>
  simp only at h2
  split at h2
  ·rename_i ht
   subst ht
   obtain ⟨s,h3,h4⟩:=zbi h2
   exact h.didP (fun w=>by simp [execOp,ho,g1,asBool]) h4 (h.val h3)
  ·rename_i ht
   have ht:t=false:=by simpa using ht
   subst ht
   obtain ⟨s,h3,h4⟩:=zbi h2
   exact h.didP (fun w=>by simp [execOp,ho,g1,asBool]) h4 (h.val h3)
 | _=>cases h2
theorem qM4 (h:StD c e a w D hs S) {op:BinOp} {t t':Nat} {x y:Operand} (ho:o.op=.binOp op t x y t') (he:wF X.T o op t x y e=some e'):DidP X.P e o a w D hs e':=by
 obtain ⟨u,h1,h2⟩:=zbi he
 obtain ⟨v,h3,h4⟩:=zbi h2
 obtain ⟨r,h5,h6⟩:=zbi h4
 obtain ⟨g1,_⟩:=h.sc h1
 obtain ⟨g3,_⟩:=h.sc h3
 have hr:∀ w,(do eqGuard op t x y (a.eval x) (a.eval y); binOp op t (a.eval x) (a.eval y):Sem Value).run X.P w=.ok r w:=fun w=>by
  rw [g1,g3]
  unfold uX at h5
  split at h5
  ·split at h5
   ·exact run_binI ‹_› h5
   ·cases h5
  ·exact run_binS h5
  ·split at h5
   ·rename_i hb
    unfold kU at hb
    split at hb
    ·rename_i hT
     exact run_binB (X.hT _ _ hT) rfl h5
    ·cases hb
   ·cases h5
  ·cases h5
 refine h.didP (fun w=>?_) h6 (xT (binV_plain h5))
 have:execOp a.eval o=(do pure (.value (← (do eqGuard op t x y (a.eval x) (a.eval y); binOp op t (a.eval x) (a.eval y):Sem Value)))):=by simp only [execOp,ho]
 rw [this,Sem.run_bind,hr]
 rfl
theorem evUn_pure (h:StD c e a w D hs S) {op:UnOp} {t:Nat} {x:Operand} (ho:o.op=.unOp op t x) (he:zA7 o op x e=some e'):DidP X.P e o a w D hs e':=by
 obtain ⟨u,h1,h2⟩:=zbi he
 obtain ⟨r,h5,h6⟩:=zbi h2
 obtain ⟨g1,_⟩:=h.sc h1
 have k1:=fun w=>(run_un (P:=X.P) (w:=w) h5).1
 have k2:=(run_un (P:=X.P) (w:=w) h5).2
 exact h.didP (fun w=>by simp [execOp,ho,g1,k1]) h6 (xT k2)
theorem qE5 (h:StD c e a w D hs S) {x:Operand} {i:Nat} (ho:o.op=.extract x i) (he:qP o x i e=some e'):DidP X.P e o a w D hs e':=by
 obtain ⟨s,h1,h2⟩:=zbi he
 have hv:=h.val h1
 cases s with
 | tup as =>
  obtain ⟨us,h3,h4⟩:=hv
  obtain ⟨s,h5,h6⟩:=zbi h2
  obtain ⟨u,k1,k2⟩:=AgsRep.get as us i s h4 h5
  refine h.didP (u:=u) (fun w=>?_) h6 k2
  have:(us.toArray)[i]? = some u:=by simpa using k1
  simp [execOp,ho,h3,Instr.extract,this]
 | pl _=>cases h2
theorem qL7 (h:StD c e a w D hs S) {x:Operand} (ho:o.op=.nilCheck x) (he:wH o x e=some e'):DidP X.P e o a w D hs e':=by
 obtain ⟨k,h1,h2⟩:=zbi he
 split at h2
 ·rename_i hs1
  have hv:=h.cl h1
  refine h.didP (u:=a.eval x) (fun w=>?_) h2 hv
  rcases h.sure hs1 hv with ⟨b,o,hu⟩ | ⟨f,us,hu⟩ <;> simp [execOp,ho,hu]
 ·cases h2
theorem zZ2 (h:StD c e a w D hs S) {t f:Nat} {x:Operand} (ho:o.op=.fieldAddr t x f) (he:zX X.T o t x f e=some e'):DidP X.P e o a w D hs e':=by
 obtain ⟨d,h1,h2⟩:=zbi he
 split at h2
 ·rename_i fs hk
  obtain ⟨q,h3,h2⟩:=zbi h2
  obtain ⟨df,h4,h2⟩:=zbi h2
  split at h2
  ·cases h2
  ·rename_i hz
   obtain ⟨k,h5,h2⟩:=zbi h2
   have hv:=h.cl h5
   obtain ⟨FS,hu,hfs⟩:=zF6 (X.hT _ _ h1) hk
   subst hfs
   obtain ⟨F,hF,hq⟩:∃ F,FS[f]? = some F∧(F.offset,F.type)=q:=by
    rw [List.getElem?_map,Array.getElem?_toList] at h3
    obtain ⟨F,k1,k2⟩:=Option.map_eq_some_iff.1 h3
    exact ⟨F,k1,k2⟩
   subst hq
   have run:∀ b o',a.eval x=.pointer (some (ad b o'))→∀ w,(execOp a.eval o).run X.P w=.ok (.value (.pointer (some (ad b (o'+F.offset))))) w:=fun b o' hp w=>by
    simp [execOp,ho,hp,Instr.fieldAt,run_underlying hu,hF,Instr.sureAddr,fieldPlace,zD2 (X.hT _ _ h4),hz,zC0]
   split at h2
   case isFalse=>cases h2
   rename_i hsure
   split at h2
   ·rename_i i p n r j
    obtain ⟨hi,hp⟩:=hv
    simp only [Env.sure,Option.isSome_iff_exists] at hsure
    obtain ⟨y,hy⟩:=hsure
    obtain ⟨v,k1,k2⟩:=zbi hy
    obtain ⟨u1,g1,gh,b,o1,g2,g3⟩:=hp v y k1 k2
    refine h.didP (run b _ g3) h2 ⟨hi,fun v' y' k1' k2'=>?_⟩
    obtain ⟨u2,g1',_,b',o',g2',g3'⟩:=hp v' y' k1' k2'
    rw [g1] at g1'
    injection g1' with g1'
    subst g1'
    exact ⟨u1,g1,gh,b,o1,g2,by rw [Nat.add_assoc]⟩
   ·rename_i i p
    obtain ⟨hi,hp⟩:=hv
    split at h2
    ·rename_i row hx
     obtain ⟨v,k1,k2⟩:=zbi hx
     obtain ⟨u1,g1,gh,rfl⟩:=hp v _ k1 k2
     obtain ⟨u2,Sx,k3,k4,_⟩:=h.node k1 k2
     rw [g1] at k3
     injection k3 with k3
     subst k3
     obtain ⟨b,o1,_,g3,_⟩:=k4
     refine h.didP (run b o1 g3) h2 ⟨hi,fun v' y' k1' k2'=>?_⟩
     rw [k1] at k1'
     injection k1' with k1'
     subst k1'
     exact ⟨_,g1,gh,b,o1,by rw [g3]; rfl,by simp⟩
    ·cases h2
   ·rename_i row
    split at h2
    ·rename_i hl
     obtain ⟨b,o1,g1,g2,g3⟩:=hv
     refine h.didP (run b o1 g1) h2 ⟨b,o1+F.offset,rfl,RepRow.drop g2 hl,?_⟩
     exact zZ (qJ0 hl) g3
    ·cases h2
   ·rename_i row
    split at h2
    ·rename_i hl
     obtain ⟨b,o1,S1,g1,g2,rfl,_,g3⟩:=hv
     refine h.didP (run b o1 g1) h2 ⟨b,o1+F.offset,rfl,RepRow.drop g2 hl,?_⟩
     exact zZ (qJ0 hl) g3
    ·cases h2
   ·cases h2
 ·cases h2
theorem zY7 (h:StD c e a w D hs S) {t:Nat} {x ix:Operand} (ho:o.op=.indexAddr t x ix) (he:zY X.T o t x ix e=some e'):DidP X.P e o a w D hs e':=by
 obtain ⟨d,h1,h2⟩:=zbi he
 split at h2
 case h_2=>cases h2
 rename_i el hk
 obtain ⟨de,h3,h2⟩:=zbi h2
 obtain ⟨z,h4,h2⟩:=zbi h2
 split at h2
 ·cases h2
 rename_i hz
 obtain ⟨k,h5,h2⟩:=zbi h2
 have hv:=h.cl h5
 obtain ⟨kz,hzv⟩:=h.int h4
 have hu:=xC (X.hT _ _ h1) hk
 have hde:=X.hT _ _ h3
 have run:∀ b o' len cap,a.eval x=.slice (some (ad b o')) len cap→z < len→∀ w,(execOp a.eval o).run X.P w=.ok (.value (.pointer (some (ad b (o'+z.toNat * de.size))))) w:=fun b o' len cap hx hl w=>by
  have:=run_ixa (w:=w) (b:=b) (o':=o') (len:=len) (cap:=cap) (k:=kz) hu hde (by omega) hl
  simp [execOp,ho,hx,hzv,this]
 split at h2
 ·rename_i i p
  split at h2
  ·rename_i m rows hn
   split at h2
   ·rename_i hm
    subst hm
    split at h2
    ·rename_i hl
     obtain ⟨v,k1,k2⟩:=h.lnode hn
     obtain ⟨u1,g1,gh,g2⟩:=hv.2 v _ k1 k2
     obtain ⟨u2,Sx,k3,k4,_⟩:=h.node k1 k2
     rw [g1] at k3
     injection k3 with k3
     subst k3
     subst g2
     rcases k4 with ⟨rfl,_,_⟩ | ⟨b,o',cap,S1,k5,k6,_⟩
     ·simp at hl
     ·refine h.didP (run b o' _ cap k5 (by omega)) h2 ⟨hv.1,fun v' y' q1 q2=>?_⟩
      rw [k1] at q1
      injection q1 with q1
      subst q1
      exact ⟨_,g1,gh,b,o',by rw [k5]; rfl,by simp⟩
    ·cases h2
   ·cases h2
  ·cases h2
 ·rename_i i p m lo hi
  split at h2
  ·rename_i m' rows hn
   split at h2
   ·rename_i hm
    obtain ⟨rfl,rfl⟩:=hm
    split at h2
    ·rename_i hl
     obtain ⟨v,k1,k2⟩:=h.lnode hn
     obtain ⟨u1,g1,gh,⟨A,len,cap,A',cap',q1,q2,q3,q4,q5,q6,q7⟩⟩:=hv.2 v _ k1 k2
     rcases q7 with ⟨_,_,q7⟩ | ⟨b,o1,o2,q8,q9,q10⟩
     ·omega
     ·have ho2:=q10 (by omega)
      subst q8
      subst q9
      refine h.didP (run b o2 (hi - lo) cap' q6 (by omega)) h2 ⟨hv.1,fun v' y' r1 r2=>?_⟩
      rw [k1] at r1
      injection r1 with r1
      subst r1
      refine ⟨_,g1,gh,b,o1,by rw [q1]; rfl,?_⟩
      rw [ho2,Nat.add_mul]
      simp [Nat.add_assoc]
    ·cases h2
   ·cases h2
  ·cases h2
 ·rename_i m rows
  split at h2
  ·rename_i hm
   subst hm
   split at h2
   ·rename_i r hr
    rcases hv with ⟨rfl,_,_⟩ | ⟨b,o',cap,S1,k5,k6,k7,rfl,_,k8⟩
    ·simp at hr
    ·have hl:=(List.getElem?_eq_some_iff.1 hr).1
     obtain ⟨r1,r2⟩:=RepRows.get rows 0 z.toNat r k7 hr
     rw [Nat.zero_add] at r2
     refine h.didP (run b o' _ cap k5 (by omega)) h2 ⟨b,_,rfl,r2,?_⟩
     rintro x y ⟨s1,s2,s3⟩
     refine k8 x y ⟨s1,by omega,?_⟩
     have:(z.toNat+1) * de.size≤rows.length * de.size:=Nat.mul_le_mul_right _ hl
     rw [Nat.add_mul,Nat.one_mul] at this
     omega
   ·cases h2
  ·cases h2
 ·cases h2
theorem qJ2 (h:StD c e a w D hs S) {t:Nat} {x ix:Operand} (ho:o.op=.index t x ix) (he:jM X.T o t x ix e=some e'):DidP X.P e o a w D hs e':=by
 obtain ⟨d,h1,h2⟩:=zbi he
 split at h2
 case h_2=>cases h2
 rename_i hk
 obtain ⟨z,h4,h2⟩:=zbi h2
 split at h2
 ·cases h2
 rename_i hz
 obtain ⟨s,h5,h2⟩:=zbi h2
 split at h2
 ·rename_i s
  split at h2
  ·rename_i hl
   obtain ⟨kz,hzv⟩:=h.int h4
   have hu:=run_underlying (qZ (X.hT _ _ h1) hk)
   have hx:=(h.sc h5).1
   refine h.didP (fun w=>?_) h2 (xT rfl)
   have hb:s[z.toNat]? = some (s[z.toNat]'hl):=by simp [hl]
   have hq:((s[z.toNat]'hl).toNat:Int)=bt s z.toNat:=by
    unfold bt
    rw [Array.getD_eq_getD_getElem?,Array.getElem?_eq_getElem hl]
    rfl
   simp [execOp,ho,hx,hzv,Instr.index,asIntOf,hu,show 0≤z by omega,hb,hq]
  ·cases h2
 ·cases h2
theorem qI7 (h:StD c e a w D hs S) {t f:Nat} {x:Operand} (ho:o.op=.field t x f) (he:jK X.T o t x f e=some e'):DidP X.P e o a w D hs e':=by
 obtain ⟨d,h1,h2⟩:=zbi he
 split at h2
 case h_2=>cases h2
 rename_i fs hk
 obtain ⟨q,h3,h2⟩:=zbi h2
 obtain ⟨df,h4,h2⟩:=zbi h2
 obtain ⟨s,h5,h2⟩:=zbi h2
 obtain ⟨FS,hu,hfs⟩:=zF6 (X.hT _ _ h1) hk
 subst hfs
 obtain ⟨F,hF,hq⟩:∃ F,FS[f]? = some F∧(F.offset,F.type)=q:=by
  rw [List.getElem?_map,Array.getElem?_toList] at h3
  obtain ⟨F,k1,k2⟩:=Option.map_eq_some_iff.1 h3
  exact ⟨F,k1,k2⟩
 subst hq
 have hv:=h.val h5
 have hdf:=X.hT _ _ h4
 split at h2
 case h_2=>cases h2
 rename_i cs
 obtain ⟨us,h6,h7⟩:=hv
 have hlen:=h7.length
 split at h2
 ·rename_i fs' hk'
  split at h2
  ·rename_i hl
   refine h.didP (u:=.agg ((us.drop F.offset).take df.size).toArray) (fun w=>?_) h2 ⟨_,rfl,(h7.drop F.offset).take df.size⟩
   have hagg:df.kd.agg=true:=by rw [hk']; rfl
   have hx:us.toArray.extract F.offset (F.offset+df.size)=((us.drop F.offset).take df.size).toArray:=by
    simp [List.extract_eq_take_drop]
   simp [execOp,ho,Instr.field,run_underlying hu,hF,h6,asAgg,part,qE1 hdf,zD2 hdf,hagg,hx]
  ·cases h2
 ·rename_i hk'
  obtain ⟨k,h8,h2⟩:=zbi h2
  obtain ⟨u,g1,g2⟩:=CsRep.get cs us _ k h7 h8
  have hagg:df.kd.agg=false:=by
   cases hd:df.kd <;> simp [Kd.agg]
   rename_i l
   exact hk' l hd
  refine h.didP (u:=u) (fun w=>?_) h2 g2
  have g1':us.toArray[F.offset]? = some u:=by simpa using g1
  have hp:(part F.type us.toArray F.offset).run X.P w=.ok u w:=by
   unfold part
   rw [Sem.run_bind,qE1 hdf,hagg]
   simp only [Result.andThen_ok,Bool.false_eq_true,if_false]
   rw [g1']
   rfl
  simp [execOp,ho,Instr.field,run_underlying hu,hF,h6,asAgg,hp]
theorem qK6 (h:StD c e a w D hs S) {t:Nat} {x:Operand} (ho:o.op=.call {callee:=.builtin .len,args:=#[x],argTypes:=#[t]}) (he:wG X.T o t x e=some e'):DidP X.P e o a w D hs e':=by
 obtain ⟨d,h1,h2⟩:=zbi he
 have ht:=X.hT _ _ h1
 split at h2
 ·rename_i el hk
  obtain ⟨k,h4,h2⟩:=zbi h2
  obtain ⟨⟨n,rows⟩,h5,h6⟩:=zbi h2
  obtain ⟨A,cap,g1,g2⟩:=h.rows h5 (h.cl h4)
  have hu:=run_underlying (xC ht hk)
  refine h.didP (fun w=>?_) h6 (xT rfl)
  simp [execOp,ho,resolve,invoke,builtin,Builtin.len_,g1,hu,goInt]
 ·rename_i hk
  obtain ⟨v,h4,h5⟩:=zbi h2
  split at h5
  ·rename_i v
   have hx:=(h.sc h4).1
   have hu:=run_underlying (qZ ht hk)
   refine h.didP (fun w=>?_) h5 (xT rfl)
   simp [execOp,ho,resolve,invoke,builtin,Builtin.len_,hx,hu,goInt]
  ·cases h5
 ·cases h2
theorem qL5 (h:StD c e a w D hs S) {ts:Array TypeId} {x y:Operand} (ho:o.op=.call {callee:=.builtin .min,args:=#[x,y],argTypes:=ts}) (he:qD o false x y e=some e'):DidP X.P e o a w D hs e':=by
 unfold qD at he
 split at he
 ·rename_i k n k' m h1 h2
  have hx:=(h.sc h1).1
  have hy:=(h.sc h2).1
  refine h.didP (fun w=>?_) he (xT rfl)
  simp [execOp,ho,resolve,invoke,builtin,Builtin.min_,Builtin.min2,hx,hy]
 ·cases he
theorem qM0 (h:StD c e a w D hs S) {ts:Array TypeId} {x y:Operand} (ho:o.op=.call {callee:=.builtin .max,args:=#[x,y],argTypes:=ts}) (he:qD o true x y e=some e'):DidP X.P e o a w D hs e':=by
 unfold qD at he
 split at he
 ·rename_i k n k' m h1 h2
  have hx:=(h.sc h1).1
  have hy:=(h.sc h2).1
  refine h.didP (fun w=>?_) he (xT rfl)
  simp [execOp,ho,resolve,invoke,builtin,Builtin.max_,Builtin.max2,hx,hy]
 ·cases he
end
end Go.TV
namespace Go.TV
def DidQ (P:Program) {gG:GG} (c:Ctx gG) (o:Oper) (a:Act) (w:World) (e':Env):Prop:=
 ∃ u,(∀ w',Frm w w' emp→(execOp a.eval o).run P w'=.ok (.value u) w')∧St c e' (a.put o.dst u) w
def DidR (P:Program) (e:Env) (o:Oper) (a:Act) (w:World) (D:CS) (hs:Nat→Value) (e':Env):Prop:=
 ∃ u s,(∀ w',Frm w w' emp→(execOp a.eval o).run P w'=.ok (.value u) w')∧e.putO o.dst s=some e'∧SlRep w D hs e.nx e.ob s u
theorem DidP.r {P:Program} {o:Oper} {a:Act} {w:World} {e e':Env} {D:CS} {hs:Nat→Value} (h:DidP P e o a w D hs e'):DidR P e o a w D hs e':=by
 obtain ⟨u,s,h1,h2,h3⟩:=h
 exact ⟨u,s,fun w' _=>h1 w',h2,h3⟩
theorem DidR.q {P:Program} {gG:GG} {c:Ctx gG} {o:Oper} {a:Act} {w:World} {e e':Env} {D:CS} {hs:Nat→Value} {S:CS} (h:DidR P e o a w D hs e') (hd:StD c e a w D hs S):DidQ P c o a w e':=by
 obtain ⟨u,s,h1,h2,h3⟩:=h
 exact ⟨u,h1,D,hs,S,hd.putO h2 h3⟩
section
variable {gG:GG} {c:Ctx gG} {e e':Env} {a:Act} {w:World} {D:CS} {hs:Nat→Value} {S:CS} {X:Cfg} {o:Oper}
theorem evAssign_q (h:StD c e a w D hs S) {x:Operand} (ho:o.op=.assign x) (he:jB o x e=some e'):DidQ X.P c o a w e':=by
 obtain ⟨u,w',hr,hst⟩:=evAssign_ok (X:=X) h ho he
 have hr0:∀ w',(execOp a.eval o).run X.P w'=.ok (.value (a.eval x)) w':=fun w'=>by simp [execOp,ho]
 rcases hr with hr | ⟨hr,_⟩
 ·rw [hr0 w] at hr
  injection hr with q1 q2
  injection q1 with q1
  subst q1
  subst q2
  exact ⟨_,fun w' _=>hr0 w',hst⟩
 ·rw [hr0 w] at hr
  injection hr with q1 q2
  cases q1
theorem cell_lt {w:World} {b o:Nat} {u:Value} (h:w.cell? (ad b o)=some u):b < w.heap.size:=block_lt h
theorem evLoad_r (h:StD c e a w D hs S) {t:Nat} {x:Operand} (ho:o.op=.load t x) (he:xU X.T o t x e=some e'):DidR X.P e o a w D hs e':=by
 obtain ⟨d,h1,h2⟩:=zbi he
 obtain ⟨k,h3,h2⟩:=zbi h2
 split at h2
 case isFalse=>cases h2
 obtain ⟨l,h4,h2⟩:=zbi h2
 obtain ⟨b,o',us,g1,g2,g3,g4⟩:=h.behind h4 (h.cl h3)
 have hd:=X.hT _ _ h1
 have g3':∀ w',Frm w w' emp→∀ k y,us[k]? = some y→w'.cell? (ad b (o'+k))=some y:=fun w' hw k y q=>by
  have:=g3 k y q
  rw [(hw.cel b (o'+k) (cell_lt this) (fun z=>z)).1]
  exact this
 split at h2
 ·rename_i fs hk
  have hagg:d.kd.agg=true:=by rw [hk]; rfl
  refine ⟨.agg us.toArray,_,fun w' hw=>?_,h2,⟨us,rfl,g4⟩⟩
  simp [execOp,ho,g1,qI3 hd hagg g2 (g3' w' hw)]
 ·rename_i hk
  have hagg:d.kd.agg=false:=by
   cases hq:d.kd <;> simp [Kd.agg]
   rename_i l
   exact hk l hq
  split at h2
  ·rename_i q
   obtain ⟨u,r,rfl,f1,f2⟩:=g4
   refine ⟨u,_,fun w' hw=>?_,h2,f1⟩
   have hc:w'.cell? (ad b o')=some u:=g3' w' hw 0 u rfl
   simp [execOp,ho,g1,qI4 hd hagg hc]
  ·cases h2
def qF2 (T:Nat→Option TyI) (o:Oper) (src dst:Nat) (x:Operand) (e:Env):Option Env:=
 (T src).bind fun s=>(T dst).bind fun d=>match s.kd,d.kd with
  | .int _,.int k=>(e.int x).bind fun n=>e.putO o.dst (.pl (.one (.v (.sc (.int k (k.wrap n))))))
  | .string,.string=>(e.sc x).bind fun
   | .string v=>e.putO o.dst (.pl (.one (.v (.sc (.string v)))))
   | _=>none
  | _,_=>none
theorem evConv_r (h:StD c e a w D hs S) {src dst:Nat} {x:Operand} (ho:o.op=.convert src dst x) (he:qF2 X.T o src dst x e=some e'):DidR X.P e o a w D hs e':=by
 obtain ⟨s,h1,h2⟩:=zbi he
 obtain ⟨d,h3,h2⟩:=zbi h2
 have hsrc:=X.hT _ _ h1
 have hdst:=X.hT _ _ h3
 split at h2
 ·rename_i k1 k2 hk1 hk2
  obtain ⟨n,h4,h5⟩:=zbi h2
  obtain ⟨kz,hz⟩:=h.int h4
  refine (h.didP (fun w=>?_) h5 (xT rfl)).r
  have e1:=run_underlying (zF1 hsrc hk1) w
  have e2:=run_underlying (zF1 hdst hk2) w
  simp [execOp,ho,hz,convert,e1,e2,Conv.intToInt]
 ·rename_i hk1 hk2
  obtain ⟨v,h4,h5⟩:=zbi h2
  split at h5
  ·rename_i v
   have hx:=(h.sc h4).1
   refine (h.didP (fun w=>?_) h5 (xT rfl)).r
   have e1:=run_underlying (qZ hsrc hk1) w
   have e2:=run_underlying (qZ hdst hk2) w
   simp [execOp,ho,hx,convert,e1,e2]
  ·cases h5
 ·cases h2
def qE9 (T:Nat→Option TyI) (o:Oper) (t:Nat) (x:Operand) (lo hi:Option Operand) (e:Env):Option Env:=
 (T t).bind fun d=>match d.kd with
  | .string=>(e.sc x).bind fun
   | .string s=>(e.cut s.size lo hi none).bind fun q=>e.putO o.dst (.pl (.one (.v (.sc (.string (s.extract q.1 q.2))))))
   | _=>none
  | _=>none
theorem evSliceS_r (h:StD c e a w D hs S) {t:Nat} {x:Operand} {lo hi:Option Operand} (ho:o.op=.slice t x lo hi none) (he:qE9 X.T o t x lo hi e=some e'):DidR X.P e o a w D hs e':=by
 obtain ⟨d,h1,h2⟩:=zbi he
 split at h2
 ·rename_i hk
  obtain ⟨s,h3,h2'⟩:=zbi h2
  split at h2'
  ·rename_i s
   obtain ⟨q,h4,h5⟩:=zbi h2'
   have hx:=(h.sc h3).1
   refine ⟨.string (s.extract q.1 q.2),_,fun w' hw'=>?_,h5,xT rfl⟩
   have h':=h.world' hw' (fun _ _ _ q=>q) (fun _ _ _ q=>q) (fun _ _ q=>q.elim)
   obtain ⟨m,g1,g2,g3,g4,g5,g6⟩:=h'.bounds (P:=X.P) (isSlice:=false) h4 (Nat.le_refl _)
   have hu:=run_underlying (qZ (X.hT _ _ h1) hk) w'
   simp only [Option.map_none] at g1
   simp [execOp,ho,hx,Instr.sliceAt,hu,Instr.slice,g1]
  ·cases h2'
 ·cases h2
theorem evSlice_r (h:StD c e a w D hs S) {t:Nat} {x:Operand} {lo hi:Option Operand} (ho:o.op=.slice t x lo hi none) (he:jS X.T o t x lo hi none e=some e'):DidR X.P e o a w D hs e':=by
 obtain ⟨d,h1,h2⟩:=zbi he
 split at h2
 ·rename_i hk
  refine evSliceS_r h ho ?_
  unfold qE9
  rw [h1]
  simp only [Option.bind_some,hk]
  exact h2
 ·rename_i el hk
  obtain ⟨de,h3,h2⟩:=zbi h2
  obtain ⟨k,h4,h2⟩:=zbi h2
  have hu:=xC (X.hT _ _ h1) hk
  have hde:=X.hT _ _ h3
  have hv:=h.cl h4
  have run:∀ (A:Option Addr) (len cap:Nat) (q:Nat×Nat),a.eval x=.slice A len cap→len≤cap→e.cut len lo hi none=some q →
    ∃ m,(∀ w',Frm w w' emp→(execOp a.eval o).run X.P w'=.ok (.value (.slice (if m=q.1 then A else A.map (·.add (q.1 * de.size))) (q.2 - q.1) (m - q.1))) w')∧q.1≤q.2∧q.2≤len∧q.2≤m∧m≤cap:=fun A len cap q hx hl hq=>by
   obtain ⟨m0,_,g2,g3,g4,g5,g6⟩:=h.bounds (P:=X.P) (isSlice:=true) hq hl
   refine ⟨m0,fun w' hw'=>?_,g2,g3,g4,g5⟩
   have h':=h.world' hw' (fun _ _ _ q=>q) (fun _ _ _ q=>q) (fun _ _ q=>q.elim)
   obtain ⟨m1,k1,_,_,_,_,k6⟩:=h'.bounds (P:=X.P) (isSlice:=true) hq hl
   have hm:m1=m0:=(k6 rfl).trans (g6 rfl).symm
   subst hm
   have:=run_cut (A:=A) hu hde k1
   simp only [Option.map_none] at this
   simp [execOp,ho,hx,this]
  split at h2
  ·rename_i m rows
   split at h2
   case isFalse=>cases h2
   rename_i hm
   subst hm
   obtain ⟨q,h5,h6⟩:=zbi h2
   rcases hv with ⟨rfl,k5,_⟩ | ⟨b,o',cap,S1,k5,k6,k7,rfl,_,k8⟩
   ·obtain ⟨A,hA⟩:=zK8 k5
    obtain ⟨m,r1,r2,r3,r4,r5⟩:=run A 0 0 q hA (Nat.le_refl _) h5
    have:m=0:=by omega
    subst this
    have:q.1=0:=by omega
    have hq2:q.2=0:=by omega
    refine ⟨_,_,r1,h6,.inl ⟨by simp,?_,rfl⟩⟩
    rcases k5 with k5 | ⟨_,A',k5⟩
    ·rw [hA] at k5
     injection k5 with k5
     exact .inl (by simp [this,hq2,k5])
    ·rw [hA] at k5
     injection k5 with k5
     exact .inr ⟨rfl,A',by simp [this,hq2,k5]⟩
   ·obtain ⟨m,r1,r2,r3,r4,r5⟩:=run _ _ cap q k5 k6 h5
    have hlen:((rows.drop q.1).take (q.2 - q.1)).length=q.2 - q.1:=by simp; omega
    by_cases hmq:m=q.1
    ·rw [if_pos hmq] at r1
     refine ⟨_,_,r1,h6,.inr ⟨b,o',m - q.1,emp,by rw [hlen],by rw [hlen]; omega,?_,rfl,rfl,?_⟩⟩
     ·have:(rows.drop q.1).take (q.2 - q.1)=[]:=by rw [← List.length_eq_zero_iff,hlen]; omega
      rw [this]
      rfl
     ·rintro x y ⟨s1,s2,s3⟩
      rw [hlen,show q.2 - q.1=0 by omega] at s3
      omega
    ·rw [if_neg hmq] at r1
     simp only [Option.map_some,zC0] at r1
     refine ⟨_,_,r1,h6,.inr ⟨b,o'+q.1 * de.size,m - q.1,emp,by rw [hlen],by rw [hlen]; omega,?_,rfl,rfl,?_⟩⟩
     ·have:=RepRows.drop q.1 rows 0 k7
      rw [Nat.zero_add] at this
      have:=RepRows.shift q.1 (rows.drop q.1) 0 (by rw [Nat.zero_add]; exact this)
      exact this.take _
     ·rintro x y ⟨s1,s2,s3⟩
      rw [hlen] at s3
      refine k8 x y ⟨s1,by omega,?_⟩
      have:(q.1+(q.2 - q.1)) * de.size≤rows.length * de.size:=Nat.mul_le_mul_right _ (by omega)
      rw [Nat.add_mul] at this
      omega
  ·rename_i i p
   split at h2
   ·rename_i m rows hn
    split at h2
    case isFalse=>cases h2
    rename_i hm
    subst hm
    obtain ⟨q,h5,h6⟩:=zbi h2
    obtain ⟨v,k1,k2⟩:=h.lnode hn
    obtain ⟨u1,g1,gh,g2⟩:=hv.2 v _ k1 k2
    obtain ⟨u2,Sx,k3,k4,_⟩:=h.node k1 k2
    rw [g1] at k3
    injection k3 with k3
    subst k3
    subst g2
    have fin:∀ (A:Option Addr) (cap mm:Nat) (u:Value),a.eval x=.slice A rows.length cap→(A=none→cap=0)→(∀ y,A=some y→∃ b o,y=ad b o)→mm≤cap→q.1≤q.2→q.2≤rows.length→q.2≤mm →
      u=.slice (if mm=q.1 then A else A.map (·.add (q.1 * de.size))) (q.2 - q.1) (mm - q.1)→partV de.size q.1 q.2 (a.eval x) u:=by
     intro A cap mm u hx hA hA' h1 h2 h3 h4 hu'
     refine ⟨A,rows.length,cap,_,mm - q.1,hx,h2,h3,by omega,by omega,hu',?_⟩
     cases A with
     | none =>
      have:=hA rfl
      refine .inl ⟨rfl,by split <;> rfl,by omega⟩
     | some y =>
      obtain ⟨b,o,rfl⟩:=hA' y rfl
      by_cases hq:mm=q.1
      ·exact .inr ⟨b,o,o,rfl,by rw [if_pos hq],fun h0=>by omega⟩
      ·exact .inr ⟨b,o,o+q.1 * de.size,rfl,by rw [if_neg hq]; simp [zC0],fun _=>rfl⟩
    rcases k4 with ⟨rfl,k5',_⟩ | ⟨b,o',cap,S1,k5,k6,_⟩
    ·have k5:=yT k5'
     obtain ⟨mm,r1,r2,r3,r4,r5⟩:=run none 0 0 q k5 (Nat.le_refl _) h5
     refine ⟨_,_,r1,h6,⟨hv.1,fun v' y' q1 q2=>⟨_,g1,gh,fin none 0 mm _ k5 (fun _=>rfl) (fun y hy=>by cases hy) r5 r2 r3 r4 rfl⟩⟩⟩
    ·obtain ⟨mm,r1,r2,r3,r4,r5⟩:=run _ _ cap q k5 k6 h5
     refine ⟨_,_,r1,h6,⟨hv.1,fun v' y' q1 q2=>⟨_,g1,gh,fin _ cap mm _ k5 (fun hh=>by cases hh) (fun y hy=>⟨b,o',by injection hy with hy; exact hy.symm⟩) r5 r2 r3 r4 rfl⟩⟩⟩
   ·cases h2
  ·rename_i i p m l0 h0
   split at h2
   ·rename_i m' rows hn
    split at h2
    case isFalse=>cases h2
    rename_i hm
    obtain ⟨rfl,rfl⟩:=hm
    obtain ⟨q,h5,h6⟩:=zbi h2
    obtain ⟨v,k1,k2⟩:=h.lnode hn
    obtain ⟨u1,g1,gh,⟨A,len,cap,A',cap',q1,q2,q3,q4,q5,q6,q7⟩⟩:=hv.2 v _ k1 k2
    obtain ⟨mm,r1,r2,r3,r4,r5⟩:=run A' _ cap' q q6 (by omega) h5
    refine ⟨_,_,r1,h6,⟨hv.1,fun v' y' s1 s2=>⟨_,g1,gh,A,len,cap,(if mm=q.1 then A' else A'.map (·.add (q.1 * de.size))),mm - q.1,q1,by omega,by omega,by omega,by omega,?_,?_⟩⟩⟩
    ·rw [show l0+q.2 - (l0+q.1)=q.2 - q.1 by omega]
    ·rcases q7 with ⟨rfl,rfl,q7⟩ | ⟨b,o1,o2,q8,q9,q10⟩
     ·exact .inl ⟨rfl,by split <;> rfl,by omega⟩
     ·subst q9
      by_cases hq:mm=q.1
      ·exact .inr ⟨b,o1,o2,q8,by rw [if_pos hq],fun h0=>by omega⟩
      ·refine .inr ⟨b,o1,o2+q.1 * de.size,q8,by rw [if_neg hq]; simp [zC0],fun _=>?_⟩
       rw [q10 (by omega),Nat.add_mul]
       omega
   ·cases h2
  ·cases h2
 ·cases h2
end
def qH6 (T:Nat→Option TyI) (o:Oper) (e:Env):Option Env:=
 match o.op with
 | .move x=>xD o x e
 | .assign x=>jB o x e
 | .pick c x y=>xV o c x y e
 | .binOp op t x y _=>wF T o op t x y e
 | .unOp op _ x=>zA7 o op x e
 | .extract x i=>qP o x i e
 | .nilCheck x=>wH o x e
 | .fieldAddr t x f=>zX T o t x f e
 | .indexAddr t x i=>zY T o t x i e
 | .index t x i=>jM T o t x i e
 | .field t x f=>jK T o t x f e
 | .load t x=>xU T o t x e
 | .convert s d x=>qF2 T o s d x e
 | .slice t x lo hi none=>qE9 T o t x lo hi e
 | .call {callee:=.builtin b,args:=as,argTypes:=ts}=>match b,as.toList,ts.toList with
  | .len,[x],[t]=>wG T o t x e
  | .min,[x,y],_=>qD o false x y e
  | .max,[x,y],_=>qD o true x y e
  | _,_,_=>none
 | _=>none
theorem evQuiet_ok {X:Cfg} {o:Oper} {e e':Env} {gG:GG} {c:Ctx gG} {a:Act} {w:World} {D:CS} {hs:Nat→Value} {S:CS} (h:StD c e a w D hs S) (he:qH6 X.T o e=some e'):DidQ X.P c o a w e':=by
 unfold qH6 at he
 split at he
 ·exact (evMove_pure h ‹_› he).r.q h
 ·exact evAssign_q h ‹_› he
 ·exact (qK3 h ‹_› he).r.q h
 ·exact (qM4 h ‹_› he).r.q h
 ·exact (evUn_pure h ‹_› he).r.q h
 ·exact (qE5 h ‹_› he).r.q h
 ·exact (qL7 h ‹_› he).r.q h
 ·exact (zZ2 h ‹_› he).r.q h
 ·exact (zY7 h ‹_› he).r.q h
 ·exact (qJ2 h ‹_› he).r.q h
 ·exact (qI7 h ‹_› he).r.q h
 ·exact (evLoad_r h ‹_› he).q h
 ·exact (evConv_r h ‹_› he).q h
 ·exact (evSliceS_r h ‹_› he).q h
 ·rename_i b as ts ho
  split at he
  ·rename_i x t h1 h2
   rw [show as = #[x] from Array.ext' h1,show ts = #[t] from Array.ext' h2] at ho
   exact (qK6 h ho he).r.q h
  ·rename_i x y h1
   rw [show as = #[x,y] from Array.ext' h1] at ho
   exact (qL5 h ho he).r.q h
  ·rename_i x y h1
   rw [show as = #[x,y] from Array.ext' h1] at ho
   exact (qM0 h ho he).r.q h
  ·cases he
 ·cases he
def evR (T:Nat→Option TyI) (o:Oper) (e:Env):Option Env:=
 match o.op with
 | .move x=>xD o x e
 | .assign x=>xD o x e
 | .pick c x y=>xV o c x y e
 | .binOp op t x y _=>wF T o op t x y e
 | .unOp op _ x=>zA7 o op x e
 | .extract x i=>qP o x i e
 | .nilCheck x=>wH o x e
 | .fieldAddr t x f=>zX T o t x f e
 | .indexAddr t x i=>zY T o t x i e
 | .index t x i=>jM T o t x i e
 | .field t x f=>jK T o t x f e
 | .load t x=>xU T o t x e
 | .convert s d x=>qF2 T o s d x e
 | .slice t x lo hi none=>jS T o t x lo hi none e
 | .call {callee:=.builtin b,args:=as,argTypes:=ts}=>match b,as.toList,ts.toList with
  | .len,[x],[t]=>wG T o t x e
  | .min,[x,y],_=>qD o false x y e
  | .max,[x,y],_=>qD o true x y e
  | _,_,_=>none
 | _=>none
theorem evR_ok {X:Cfg} {o:Oper} {e e':Env} {gG:GG} {c:Ctx gG} {a:Act} {w:World} {D:CS} {hs:Nat→Value} {S:CS} (h:StD c e a w D hs S) (he:evR X.T o e=some e'):DidR X.P e o a w D hs e':=by
 unfold evR at he
 split at he
 ·exact (qC9 h (.inl ‹_›) he).r
 ·exact (qC9 h (.inr ‹_›) he).r
 ·exact (qK3 h ‹_› he).r
 ·exact (qM4 h ‹_› he).r
 ·exact (evUn_pure h ‹_› he).r
 ·exact (qE5 h ‹_› he).r
 ·exact (qL7 h ‹_› he).r
 ·exact (zZ2 h ‹_› he).r
 ·exact (zY7 h ‹_› he).r
 ·exact (qJ2 h ‹_› he).r
 ·exact (qI7 h ‹_› he).r
 ·exact evLoad_r h ‹_› he
 ·exact evConv_r h ‹_› he
 ·exact evSlice_r h ‹_› he
 ·rename_i b as ts ho
  split at he
  ·rename_i x t h1 h2
   rw [show as = #[x] from Array.ext' h1,show ts = #[t] from Array.ext' h2] at ho
   exact (qK6 h ho he).r
  ·rename_i x y h1
   rw [show as = #[x,y] from Array.ext' h1] at ho
   exact (qL5 h ho he).r
  ·rename_i x y h1
   rw [show as = #[x,y] from Array.ext' h1] at ho
   exact (qM0 h ho he).r
  ·cases he
 ·cases he
theorem St.grow {gG:GG} {c:Ctx gG} {e:Env} {a:Act} {w w':World} (h:St c e a w) (hw:Frm w w' emp):St c e a w':=by
 obtain ⟨D,hs,S,h⟩:=h
 exact ⟨D,hs,S,h.world' hw (fun _ _ _ q=>q) (fun _ _ _ q=>q) (fun _ _ q=>q.elim)⟩
theorem frm_drawn (w:World) (n:Nat):Frm w {w with drawn:=n} emp:=⟨rfl,rfl,rfl,Nat.le_refl _,fun _ _ _=>rfl,fun _ _ _ _=>⟨rfl,rfl,rfl⟩⟩
theorem qD2 {P:Program} {ops:Array Oper} {C:World→Prop} {Q Q':Act→Prop} (h:∀ a,Q a→Q' a):∀ (l:List Oper) (a:Act),wpQuiet P ops C Q l a→wpQuiet P ops C Q' l a
 | [],a,hh=>h a hh
 | o :: l,a,hh=>by
  unfold wpQuiet at hh ⊢
  split
  ·rename_i q
   rw [if_pos q] at hh
   exact Oper.quiet_mono (qD2 h l) hh
  ·rename_i q
   rw [if_neg q] at hh
   exact qD2 h l _ hh
def quV (X:Cfg) (ops:Array Oper) (l:List Oper) (Post:Exit→Env→Prop) (e:Env):Prop:=
 ∀ (k:Ctx X.G) (a:Act) (w:World),St k e a w→wpQuiet X.P ops (fun w'=>Frm w w' emp) (fun a'=>∃ e',Post .normal e'∧St k e' a' w) l a
section
variable {X:Cfg} {Post:Exit→Env→Prop} {e e':Env} {ops:Array Oper} {o oj:Oper} {l:List Oper} {j d:Nat} {want b:Bool}
theorem wpV_quiet {id:Nat} (h:quV X l.toArray l Post e) (hB:Region.lexB .any l.toArray=true):wpV X (.region id l.toArray true) Post e:=fun k a w hs=>by
 have hq:=h k a w hs
 refine wp_region_quiet (C:=fun w'=>Frm w w' emp) X.mx hB (frm_drawn w _) (qD2 (Q:=fun a'=>∃ e',Post .normal e'∧St k e' a' w) (fun a' q w' hw'=>?_) _ _ hq)
 obtain ⟨e',h1,h2⟩:=q
 exact ⟨e',h1,h2.grow hw'⟩
theorem quV_nil (h:Post .normal e):quV X ops [] Post e:=fun k a w hs=>by
 unfold wpQuiet
 exact ⟨e,h,hs⟩
theorem quV_op (hg:o.guard=none) (he:qH6 X.T o e=some e') (h:quV X ops l Post e'):quV X ops (o :: l) Post e:=fun k a w ⟨D,hs,S,hd⟩=>by
 obtain ⟨u,h1,h2⟩:=evQuiet_ok hd he
 have hw:Region.wanted o (yielded ops a.tmps)=true:=by simp [Region.wanted,hg]
 unfold wpQuiet
 rw [if_pos hw]
 exact ⟨u,fun w' hw'=>by unfold Oper.quietAt; rw [h1 w' hw']; exact ⟨rfl,rfl⟩,h k _ w h2⟩
theorem quV_on (hg:o.guard=some (j,want)) (hj:ops[j]? = some oj) (hjd:oj.dst=some d) (hb:e.sc (.tmp d)=some (.bool want)) (h:quV X ops ({o with guard:=none} :: l) Post e):quV X ops (o :: l) Post e:=fun k a w ⟨D,hs,S,hd⟩=>by
 have hw:=hd.wanted hg hj hjd hb
 have:=h k a w ⟨D,hs,S,hd⟩
 have hw':Region.wanted {o with guard:=none} (yielded ops a.tmps)=true:=rfl
 unfold wpQuiet at this ⊢
 rw [if_pos hw'] at this
 rw [hw,if_pos (by simp)]
 exact this
theorem quV_off (hg:o.guard=some (j,want)) (hj:ops[j]? = some oj) (hjd:oj.dst=some d) (hb:e.sc (.tmp d)=some (.bool !want)) (he:e.putO o.dst (.tup [])=some e') (h:quV X ops l Post e'):quV X ops (o :: l) Post e:=fun k a w ⟨D,hs,S,hd⟩=>by
 have hw:=hd.wanted hg hj hjd hb
 unfold wpQuiet
 rw [hw,if_neg (by cases want <;> simp)]
 exact h k _ w ⟨D,hs,S,hd.putO he (u:=undef) ⟨[],rfl,rfl⟩⟩
theorem quV_dead (hg:o.guard=some (j,want)) (hj:ops[j]? = some oj) (hjd:oj.dst=some d) (hb:e.val (.tmp d)=some (.tup [])) (he:e.putO o.dst (.tup [])=some e') (h:quV X ops l Post e'):quV X ops (o :: l) Post e:=fun k a w ⟨D,hs,S,hd⟩=>by
 have hw:=hd.unwanted hg hj hjd hb
 unfold wpQuiet
 rw [hw,if_neg (by simp)]
 exact h k _ w ⟨D,hs,S,hd.putO he (u:=undef) ⟨[],rfl,rfl⟩⟩
end
end Go.TV
namespace Go.TV
def zI2 (cf:Operand) (as:List Operand) (e:Env):Option (Nat×List (Ag V)):=
 (e.callee cf).bind fun q=>(e.args as).bind fun gs=>(e.fill ((qF (gs++q.2.map fun x=>.one (.v x))).map fun _=>none) (qF (gs++q.2.map fun x=>.one (.v x)))).map fun xs=>(q.1,zB1 (gs++q.2.map fun x=>.one (.v x)) xs)
section
variable {gG:GG} {c:Ctx gG} {e e':Env} {a:Act} {w:World} {D:CS} {hs:Nat→Value} {S:CS} {X:Cfg} {o:Oper}
theorem repO_none:∀ (cs:List C) (us:List Value),us.length=cs.length→RepO w D (cs.map fun _=>none) us emp
 | [],us,h=>⟨List.length_eq_zero_iff.1 h,rfl⟩
 | k :: cs,[],h=>by simp at h
 | k :: cs,u :: us,h=>⟨u,us,rfl,repO_none cs us (by simpa using h)⟩
theorem StD.callQ {c:Ctx X.G} (h:StD c e a w D hs S) {cf:Operand} {args:Array Operand} {ts:Array TypeId} {f:Nat} {as:List (Ag V)} {v:Value}
  (ho:o.op=.call {callee:=.value cf,args:=args,argTypes:=ts}) (h1:zI2 cf args.toList e=some (f,as)) (hf:Fn X f as [.one (.sc v)] []):Oper.quietAt X.P o a (fun w'=>Frm w w' emp) w v:=by
 obtain ⟨⟨g,caps⟩,k1,h1⟩:=zbi h1
 obtain ⟨gs,k2,h1⟩:=zbi h1
 obtain ⟨xs,k4,k5⟩:=Option.map_eq_some_iff.1 h1
 simp only [Prod.mk.injEq] at k5
 obtain ⟨e_f,e_as⟩:=k5
 subst e_f
 subst e_as
 obtain ⟨uc,c1,c2,c3⟩:=h.callee k1
 obtain ⟨fl1,a1,a2⟩:=h.args args.toList gs k2
 have hA:=zH0 gs (caps.map fun x=>(.one (.v x):Ag C)) _ _ _ _ a2 (qC3 c2)
 have hC:CsRep w D hs e.nx e.ob (qF (gs++caps.map fun x=>(.one (.v x):Ag C))) (fl1++uc):=by
  rw [zG0,qC0]
  exact CsRep.append _ _ _ _ a1 c3
 obtain ⟨r1,r2⟩:=h.fill _ _ (fl1++uc) xs emp (fun j=>(fl1++uc)[j]?) 0 k4 (repO_none _ _ hC.length) hC (fun j u hj=>by rw [Nat.zero_add]; exact hj)
 obtain ⟨s1,s2⟩:=zZ6 _ _ _ xs hA r2
 obtain ⟨⟨fn,p1,p2,p3⟩,hcall⟩:=hf
 have hc:=hcall w (cup D S) emp _ _ s1 (by rw [s2]; exact r1) (zW _) (fun b o q=>q.elim (h.Dl b o) (h.ob.blt b o)) (h.glo.mono (fun _ _ q=>q.elim) (fun _ _ q=>.inl q))
 have hexec:(execOp a.eval o).run X.P w=.ok (.enter g (List.map a.eval args.toList++uc).toArray) w:=by
  have e1:(args.map a.eval)++uc.toArray=(List.map a.eval args.toList++uc).toArray:=by
   apply Array.ext'
   simp
  have hb:fn.body.isNone=false:=by cases q:fn.body <;> simp [q] at p2 ⊢
  simp only [execOp,ho,resolve,c1,Deferred.ofValue,Sem.run_bind,Sem.run_pure,Result.andThen_ok,invoke,callFunc,run_program,p1]
  simp [p3,hb,e1]
 unfold Oper.quietAt
 rw [hexec]
 refine ⟨rfl,Calls.mono hc (fun en w' hq=>?_)⟩
 obtain ⟨u,fr,D',T1,T2,rfl,q1,q2,q3,q4,q5,q6,q7,q8,q9,q10⟩:=hq
 refine ⟨?_,q6⟩
 obtain ⟨u1,us',fl',e1,e2,e3⟩:=q1
 injection e1 with e1 _
 subst e1
 obtain ⟨u2,T3,T4,g1,g2,_⟩:=q2
 rw [e2] at g1
 injection g1 with g1
 subst g1
 rw [g2.1]
end
theorem quV_call {X:Cfg} {Post:Exit→Env→Prop} {e e':Env} {ops:Array Oper} {o:Oper} {l:List Oper} {cf:Operand} {args:Array Operand} {ts:Array TypeId} {f:Nat} {as:List (Ag V)} {v:Value}
  (hf:Fn X f as [.one (.sc v)] []) (hg:o.guard=none) (ho:o.op=.call {callee:=.value cf,args:=args,argTypes:=ts}) (hp:plain v=true) (h1:zI2 cf args.toList e=some (f,as))
  (h2:e.putO o.dst (.pl (.one (.v (.sc v))))=some e') (h:quV X ops l Post e'):quV X ops (o :: l) Post e:=fun k a w ⟨D,hs,S,hd⟩=>by
 have hw:Region.wanted o (yielded ops a.tmps)=true:=by simp [Region.wanted,hg]
 unfold wpQuiet
 rw [if_pos hw]
 refine ⟨v,fun w' hw'=>?_,h k _ w ⟨D,hs,S,hd.putO h2 (xT hp)⟩⟩
 have hd':=hd.world' hw' (fun _ _ _ q=>q) (fun _ _ _ q=>q) (fun _ _ q=>q.elim)
 have:=hd'.callQ (o:=o) ho h1 hf
 unfold Oper.quietAt at this ⊢
 revert this
 generalize (execOp a.eval o).run X.P w'=r
 intro this
 cases r with
 | ok x w1 =>
  cases x <;> first | exact this | skip
  obtain ⟨q1,q2⟩:=this
  exact ⟨q1,q2.mono fun en w2 ⟨z1,z2⟩=>⟨z1,hw'.trans z2 (fun _ _ q=>q.elim)⟩⟩
 | halt x w1=>exact this
end Go.TV
namespace Go.TV
def RetL (X:Cfg) (res:List ResultVar) (rs:List (Ag V)) (fin:List (Nat×V)):Exit→Env→Prop:=fun x e=>(x=.ret∨x=.normal)∧(zT3 X.T res e).map (fun q=>(q.1,q.2.fin))=some (rs,fin)
theorem Fn.start {X : Cfg} {f : Nat} {fn : Func} {body : Code} {N : Nat} {res : List ResultVar} {as rs : List (Ag V)} {fin : List (Nat × V)} (hf : X.P.funcs[f]? = some fn) (hb : fn.body = some body) (hN : fn.ntmps = N) (hr : fn.results.toList = res) (hn : (fn.name == "runtime.NumGoroutine") = false)
  (hl:as.length≤N) (h:wpV X body (RetL X res rs fin) (entry as N)):Fn X f as rs fin:=by
 subst hN
 subst hr
 refine Fn.intro hf hb hn hl (qL2 h fun x e q=>⟨q.1,?_⟩)
 obtain ⟨z,h1,h2⟩:=Option.map_eq_some_iff.1 q.2
 simp only [Prod.mk.injEq] at h2
 exact ⟨z.2,by rw [h1,← h2.1],h2.2⟩
section
variable {X:Cfg} {Post:Exit→Env→Prop} {e e':Env}
theorem opsV_on {ops:Array Oper} {o oj:Oper} {l:List Oper} {j d:Nat} {want:Bool} (hg:o.guard=some (j,want)) (hj:ops[j]? = some oj) (hjd:oj.dst=some d) (hb:e.sc (.tmp d)=some (.bool want))
  (h:opsV X ops ({o with guard:=none} :: l) Post e):opsV X ops (o :: l) Post e:=
 qH3 hg hj hjd hb (fun _=>h) (fun q=>by cases want <;> cases q)
theorem opsV_off {ops:Array Oper} {o oj:Oper} {l:List Oper} {j d:Nat} {want:Bool} (hg:o.guard=some (j,want)) (hj:ops[j]? = some oj) (hjd:oj.dst=some d) (hb:e.sc (.tmp d)=some (.bool !want))
  (hd:e.putO o.dst (.tup [])=some e') (h:opsV X ops l Post e'):opsV X ops (o :: l) Post e:=
 qH3 hg hj hjd hb (fun q=>by cases want <;> cases q) (fun _=>⟨e',hd,h⟩)
end
def seqV (X:Cfg) (d:Code) (Post:Exit→Env→Prop):Exit→Env→Prop:=yU (wpV X d Post) Post
theorem zY6 {X:Cfg} {c d:Code} {Post:Exit→Env→Prop} {e:Env} (h:wpV X c (seqV X d Post) e):wpV X (.seq c d) Post e:=wpV_seq h
theorem xK (X:Cfg) (d:Code) (Post:Exit→Env→Prop) (e:Env):seqV X d Post .normal e=wpV X d Post e:=rfl
theorem yY (X:Cfg) (d:Code) (Post:Exit→Env→Prop) (e:Env):seqV X d Post .ret e=Post .ret e:=rfl
theorem vS (X:Cfg) (d:Code) (Post:Exit→Env→Prop) (i:Nat) (e:Env):seqV X d Post (.exit i) e=Post (.exit i) e:=rfl
theorem wrap_i64 {x:Int} (h1 : -9223372036854775808≤x) (h2:x < 9223372036854775808):IntKind.wrap .i64 x=x:=by
 simp only [IntKind.wrap,IntKind.bits,IntKind.signed,Bool.true_and,decide_eq_true_eq,Nat.reduceSub,Int.reducePow]
 split
 ·rename_i h; simp at h; omega
 ·rename_i h; simp at h; omega
theorem RetL.of {X:Cfg} {res:List ResultVar} {rs:List (Ag V)} {fin:List (Nat×V)} {x:Exit} {e:Env} (hx:x=.ret∨x=.normal) (h:(zT3 X.T res e).map (fun q=>(q.1,q.2.fin))=some (rs,fin)):RetL X res rs fin x e:=⟨hx,h⟩
theorem out {X:Cfg} {res:List ResultVar} {rs rs':List (Ag V)} {fin fin':List (Nat×V)} {e:Env} (he:rs'=rs) (hf:fin'=fin) (h:(zT3 X.T res e).map (fun q=>(q.1,q.2.fin))=some (rs',fin'):=by
 simp only [zT3,Env.res1,Env.takes,Env.take,Env.node,Env.fin,lk,V.alive,V.get,V.set,V.rowAt,V.setRow,zU,zR,↓reduceIte,eq_self,Option.isSome_some,Option.isSome_none,Option.bind_some,Option.map_some,Nat.reduceEqDiff,Nat.reduceLT,List.filter_cons,List.filter_nil,decide_true,decide_false,Bool.false_eq_true,List.append_nil,List.nil_append] <;> rfl):RetL X res rs fin .ret e:=.of (.inl rfl) (by rw [h,he,hf])
theorem Shd.go {I:Env→Prop} {e e':Env} (ks:List Nat) (os:List (Nat×Nat)) (nx:Nat) (h:I e') (he:e.shed ks os nx=some e':=by
 simp only [Env.shed,shedS,shedO,lk,zR,C.ren,Ag.map,Sl.map,List.map_cons,List.map_nil,↓reduceIte,eq_self,Option.isSome_some,Option.isSome_none,Option.bind_some,Option.map_some,Nat.reduceEqDiff,Nat.reduceLT,Nat.reduceLeDiff,true_or,or_true,or_false,false_or,and_true,true_and,not_true,not_false_eq_true,Bool.false_eq_true,implies_true,imp_self,false_implies,Nat.le_refl] <;> rfl):Shd I e:=.of ks os nx he h
theorem quV_guard {X:Cfg} {Post:Exit→Env→Prop} {e:Env} {ops:Array Oper} {o oj:Oper} {l:List Oper} {j d:Nat} {want b:Bool} (hg:o.guard=some (j,want)) (hj:ops[j]? = some oj) (hjd:oj.dst=some d) (hb:e.sc (.tmp d)=some (.bool b))
  (h1:b=want→quV X ops ({o with guard:=none} :: l) Post e) (h2:b=!want→∃ e',e.putO o.dst (.tup [])=some e'∧quV X ops l Post e'):quV X ops (o :: l) Post e:=by
 by_cases q:b=want
 ·subst q
  exact quV_on hg hj hjd hb (h1 rfl)
 ·have q':b=!want:=by cases b <;> cases want <;> simp_all
  obtain ⟨e',h3,h4⟩:=h2 q'
  subst q'
  exact quV_off hg hj hjd hb h3 h4
theorem wpV_split {X:Cfg} {Post:Exit→Env→Prop} {e:Env} {x:Operand} {b:Bool} {c d:Code} (h1:b=true→wpV X c Post e) (h2:b=false→wpV X d Post e) (hx:e.sc x=some (.bool b):=by (simp only [Env.sc,Env.val,lk,↓reduceIte,Nat.reduceEqDiff]; rfl)):wpV X (.cond x c d) Post e:=wpV_cond hx h1 h2
theorem callQ {X:Cfg} {Post:Exit→Env→Prop} {e e':Env} {ops:Array Oper} {o:Oper} {l:List Oper} {cf:Operand} {args:Array Operand} {ts:Array TypeId} {f:Nat} {as:List (Ag V)} {v:Value}
  (hf:Fn X f as [.one (.sc v)] []) (h:quV X ops l Post e') (hg:o.guard=none:=by rfl) (ho:o.op=.call {callee:=.value cf,args:=args,argTypes:=ts}:=by rfl) (hp:plain v=true:=by rfl)
  (h1:zI2 cf args.toList e=some (f,as):=by
   simp only [zI2,Env.callee,Env.args,qF,Env.lend,Env.fill,zB1,Env.node,Env.val,Env.sc,Env.cl,lk,zU,zR,qN,qJ,plain,Env.putO,Env.put,V.get,V.set,V.rowAt,V.setRow,V.alive,V.bor,qB,jY,zY0,↓reduceIte,eq_self,Option.isSome_some,Option.isSome_none,Option.bind_some,Option.bind_none,Option.map_some,Option.map_none,Bool.false_eq_true,Nat.reduceLT,Nat.reduceLeDiff,Nat.reduceEqDiff,Nat.reduceAdd,Nat.reduceMul,Nat.reduceSub,List.map_cons,List.map_nil,List.map_map,List.length_cons,List.length_nil,List.cons_append,List.nil_append,List.append_nil,List.headD_cons,List.tail_cons,List.contains_nil,List.contains_cons,List.take_zero,List.take_succ_cons,List.drop_zero,List.drop_succ_cons,List.getElem?_cons_zero,List.getElem?_cons_succ,Bool.and_true,Bool.true_and,Function.comp_def]
   rfl)
  (h2:e.putO o.dst (.pl (.one (.v (.sc v))))=some e':=by
   simp only [Env.putO,Env.put,reduceIte,Nat.reduceLT]
   rfl):quV X ops (o :: l) Post e:=quV_call hf hg ho hp h1 h2 h
theorem enter {goal next:Prop} (hn:next) (h:next→goal:=by
 intro hn
 simp only [entry,entS,entC,zS7,V.own,jP,zG,List.length_cons,List.length_nil,Nat.reduceAdd,Bool.false_eq_true,reduceIte,List.cons_append,List.nil_append]
 exact hn):goal:=h hn
end Go.TV
namespace Go.TV
theorem qK8 {P:Program} {ops:Array Oper} {Q Q1:Exit→Act→World→Prop} {l2:List Oper} (hQ:∀ x a w,Q1 x a w→x=.normal∧wpList P ops Q l2 a w):∀ (l1:List Oper) (a:Act) (w:World),wpList P ops Q1 l1 a w→wpList P ops Q (l1++l2) a w
 | [],a,w,h=>(hQ _ _ _ h).2
 | o :: l1,a,w,h=>by
  have ih:=qK8 (P:=P) (ops:=ops) (Q:=Q) (Q1:=Q1) (l2:=l2) hQ l1
  show wpList P ops Q (o :: (l1++l2)) a w
  unfold wpList at h ⊢
  split
  ·rename_i q
   rw [if_pos q] at h
   rcases h with h | ⟨_,a',w',h⟩
   ·refine .inl ?_
    unfold Oper.wp at h ⊢
    generalize (execOp a.eval o).run P w=r at h
    cases r with
    | ok n w' =>
     cases n <;> simp only [Oper.upon] at h ⊢
     case value v=>exact ih _ _ h
     case skip=>exact ih _ _ h
     case defer d=>exact ih _ _ h
     case enter f args =>
      refine Calls.mono h (fun e w'' he=>?_)
      cases e with
      | returned v=>exact ih _ _ he
      | panicked ch=>cases (hQ _ _ _ he).1
      | outgrown=>obtain ⟨_,_,he⟩:=he; cases (hQ _ _ _ he).1
     case row r args=>exact Rows.mono h (fun v w'' he=>ih _ _ he)
    | halt x w'=>cases x <;> simp only [Oper.upon] at h ⊢ <;> cases (hQ _ _ _ h).1
   ·cases (hQ _ _ _ h).1
  ·rename_i q
   rw [if_neg q] at h
   exact ih _ _ h
theorem wpQuiet_app {P:Program} {ops:Array Oper} {C:World→Prop} {Q:Act→Prop} {l2:List Oper}:∀ (l1:List Oper) (a:Act),wpQuiet P ops C (fun a=>wpQuiet P ops C Q l2 a) l1 a→wpQuiet P ops C Q (l1++l2) a
 | [],a,h=>h
 | o :: l1,a,h=>by
  have ih:=wpQuiet_app (P:=P) (ops:=ops) (C:=C) (Q:=Q) (l2:=l2) l1
  show wpQuiet P ops C Q (o :: (l1++l2)) a
  unfold wpQuiet at h ⊢
  split
  ·rename_i q
   rw [if_pos q] at h
   exact Oper.quiet_mono ih h
  ·rename_i q
   rw [if_neg q] at h
   exact ih _ h
section
variable {X:Cfg} {Post:Exit→Env→Prop} {e e':Env} {ops:Array Oper}
theorem opsV_cut {l:List Oper} (n:Nat) (J:Env→Prop) (h:opsV X ops (l.take n) (fun x e=>x=.normal∧Shd J e) e) (h2:∀ e,J e→opsV X ops (l.drop n) Post e):opsV X ops l Post e:=fun k a w hs=>by
 rw [← List.take_append_drop n l]
 refine qK8 (fun x a w q=>?_) _ _ _ (h k a w hs)
 obtain ⟨e',⟨h3,h4⟩,h5⟩:=q
 obtain ⟨e2,h6,h7⟩:=h4.st h5
 exact ⟨h3,h2 e2 h6 k a w h7⟩
theorem quV_cut {l:List Oper} (n:Nat) (J:Env→Prop) (h:quV X ops (l.take n) (fun x e=>x=.normal∧Shd J e) e) (h2:∀ e,J e→quV X ops (l.drop n) Post e):quV X ops l Post e:=fun k a w hs=>by
 rw [← List.take_append_drop n l]
 refine wpQuiet_app _ _ (qD2 (fun a q=>?_) _ _ (h k a w hs))
 obtain ⟨e',⟨h3,h4⟩,h5⟩:=q
 obtain ⟨e2,h6,h7⟩:=h4.st h5
 exact h2 e2 h6 k a w h7
theorem Shd.mono {I J:Env→Prop} (h:Shd I e) (hj:∀ e,I e→J e):Shd J e:=by
 rcases h with h | h
 ·exact .inl (hj e h)
 ·exact .inr fun g c a w hs=>(h g c a w hs).elim fun e' q=>⟨e',hj e' q.1,q.2⟩
theorem wpV_loopM {σ ρ:Type} {body:σ→Option (σ⊕ρ)} {s:σ} {r:ρ} {c:Code} (I:σ→Env→Prop) (hl:zC body s=some r) (h0:Shd (I s) e)
  (hb:∀ s y e,body s=some y→I s e→wpV X c (yU (Shd fun e'=>∃ s',y=.inl s'∧I s' e') (fun ex e'=>∃ r',y=.inr r'∧(r'=r→Post ex e'))) e):wpV X (.loop c) Post e:=by
 obtain ⟨n,hn⟩:=loopM_iff.1 hl
 refine wpV_loopS (fun m e=>∃ s,iter body m s=some r∧I s e) (n:=n) (h0.mono fun e q=>⟨s,hn,q⟩) fun n e ⟨s,hi,hI⟩=>?_
 cases n with
 | zero=>cases hi
 | succ n =>
  obtain ⟨y,h1,h2⟩:=zbi hi
  refine qL2 (hb s y e h1 hI) fun x e' q=>?_
  cases x with
  | normal =>
   show Shd (fun e'=>∃ m,m < n+1∧∃ s,iter body m s=some r∧I s e') e'
   refine Shd.mono (I:=fun e'=>∃ s',y=.inl s'∧I s' e') q fun e'' ⟨s',q1,q2⟩=>?_
   subst q1
   exact ⟨n,Nat.lt_succ_self n,s',h2,q2⟩
  | _ =>
   obtain ⟨r',q1,q2⟩:=q
   subst q1
   injection h2 with h2
   exact q2 h2
end
theorem StD.tell {gG:GG} {c:Ctx gG} {e:Env} {a:Act} {w:World} {D:CS} {hs:Nat→Value} {S:CS} (h:StD c e a w D hs S) {d:Nat} {s:Sl} (hd:SlRep w D hs e.nx e.ob s (a.tmps.getD d undef)):StD c (e.put d s) a w D hs S:=
 {h with
  sl:=fun t s' q=>by
   have q:lk t ((d,s) :: e.sl)=some s':=q
   simp only [lk] at q
   by_cases e1:t=d
   ·rw [if_pos e1] at q
    have q:=zso q
    rw [e1,← q]
    exact hd
   ·rw [if_neg e1] at q
    exact h.sl t s' q}
theorem StD.tellB {gG:GG} {c:Ctx gG} {e:Env} {a:Act} {w:World} {D:CS} {hs:Nat→Value} {S:CS} (h:StD c e a w D hs S) {d:Nat} {b:Bool} (hb:e.sc (.tmp d)=some (.bool b)):StD c (e.put d (.pl (.one (.v (.sc (.bool b)))))) a w D hs S:=
 h.tell (by
  have hv:=(h.sc hb).1
  have hv:a.tmps.getD d undef=.bool b:=hv
  rw [hv]
  exact ⟨rfl,rfl,rfl⟩)
theorem St.tellB {gG:GG} {c:Ctx gG} {e:Env} {a:Act} {w:World} (h:St c e a w) {d:Nat} {b:Bool} (hb:e.sc (.tmp d)=some (.bool b)):St c (e.put d (.pl (.one (.v (.sc (.bool b)))))) a w:=by
 obtain ⟨D,hs,S,h⟩:=h
 exact ⟨D,hs,S,h.tellB hb⟩
theorem sc_put {e:Env} {d:Nat} {v:Value}:(e.put d (.pl (.one (.v (.sc v))))).sc (.tmp d)=some v:=by simp [Env.sc,Env.val,Env.put,lk]
theorem opsV_sp {X:Cfg} {Post:Exit→Env→Prop} {e e1 e2:Env} {ops:Array Oper} {o oj:Oper} {l:List Oper} {j d:Nat} {b want:Bool} (h1:b=want→opsV X ops ({o with guard:=none} :: l) Post e1) (h2:b=!want→opsV X ops l Post e2)
  (hg:o.guard=some (j,want):=by rfl) (hj:ops[j]? = some oj:=by rfl) (hjd:oj.dst=some d:=by rfl) (hb:e.sc (.tmp d)=some (.bool b):=by (simp only [Env.sc,Env.val,lk,reduceIte,Nat.reduceEqDiff]; rfl))
  (he1:e.put d (.pl (.one (.v (.sc (.bool want)))))=e1:=by (simp only [Env.put]; rfl)) (he2:(e.put d (.pl (.one (.v (.sc (.bool !want)))))).putO o.dst (.tup [])=some e2:=by (simp only [Env.putO,Env.put,Bool.not_true,Bool.not_false,reduceIte,Nat.reduceLT]; rfl)):opsV X ops (o :: l) Post e:=fun k a w hs=>by
 have ht:=hs.tellB hb
 by_cases q:b=want
 ·subst q
  exact qH3 hg hj hjd sc_put (fun _=>he1 ▸ h1 rfl) (fun q=>by cases b <;> cases q) k a w ht
 ·have q':b=!want:=by cases b <;> cases want <;> simp_all
  subst q'
  exact qH3 hg hj hjd sc_put (fun q=>by cases want <;> cases q) (fun _=>⟨e2,he2,h2 rfl⟩) k a w ht
theorem quV_sp {X:Cfg} {Post:Exit→Env→Prop} {e e1 e2:Env} {ops:Array Oper} {o oj:Oper} {l:List Oper} {j d:Nat} {b want:Bool} (h1:b=want→quV X ops ({o with guard:=none} :: l) Post e1) (h2:b=!want→quV X ops l Post e2)
  (hg:o.guard=some (j,want):=by rfl) (hj:ops[j]? = some oj:=by rfl) (hjd:oj.dst=some d:=by rfl) (hb:e.sc (.tmp d)=some (.bool b):=by (simp only [Env.sc,Env.val,lk,reduceIte,Nat.reduceEqDiff]; rfl))
  (he1:e.put d (.pl (.one (.v (.sc (.bool want)))))=e1:=by (simp only [Env.put]; rfl)) (he2:(e.put d (.pl (.one (.v (.sc (.bool !want)))))).putO o.dst (.tup [])=some e2:=by (simp only [Env.putO,Env.put,Bool.not_true,Bool.not_false,reduceIte,Nat.reduceLT]; rfl)):quV X ops (o :: l) Post e:=fun k a w hs=>by
 have ht:=hs.tellB hb
 by_cases q:b=want
 ·subst q
  exact quV_guard hg hj hjd sc_put (fun _=>he1 ▸ h1 rfl) (fun q=>by cases b <;> cases q) k a w ht
 ·have q':b=!want:=by cases b <;> cases want <;> simp_all
  subst q'
  exact quV_guard hg hj hjd sc_put (fun q=>by cases want <;> cases q) (fun _=>⟨e2,he2,h2 rfl⟩) k a w ht
section
variable {X:Cfg} {Post:Exit→Env→Prop} {e e':Env} {ops:Array Oper} {o oj:Oper} {l:List Oper} {j d:Nat} {want b:Bool}
end
theorem ops {goal next p:Prop} (hH:p) (hn:next) (h:p→next→goal:=by
 intro hH hn
 repeat (first
  | (refine qF5 (e':=?_) rfl (evOp_ok ?_) ?_
     rotate_left
     focus
      simp only [hH,evOp,evConv,xD,jB,xV,wF,zA7,qP,Env.sure,wH,zX,xU,Env.int,Env.node,zY,jM,jK,Env.bound,Env.cut,jS,V.alive,Env.takes,xM,Ag.cells,uG,Env.newListO,vO,over,Env.solid,Env.solidG,Env.parts,Ty.places,xN,Env.rowsOf,kR,qC,Env.rows,yM,wG,qD,V.isSc,C.killN,Ag.map,Sl.map,qG,Env.place,Env.lay,jZ,C.killA,kM,jO,kO,jX,Env.src,Env.newAt,jI,Env.take,V.get,V.set,V.rowAt,V.setRow,Option.getD_some,List.set_cons_zero,List.set_cons_succ,qH,List.set_set,vP,cellsOf,Env.behind,Env.val,Env.sc,Env.cl,lk,zU,zR,qN,qJ,plain,Env.putO,Env.put,kU,uX,unV,rK,rB,rS,rL,kN,wR,wQ,yB,wZ,wP,wV,uT,yD,jH,wL,wW,wN,wM,wU,wJ,yA,wK,wY,wS,yC,wX,wI,wO,wT,qK,jG,
      ↓reduceIte,eq_self,Option.isSome_some,Option.isSome_none,Option.bind_some,Option.bind_none,Option.map_some,Option.map_none,Bool.false_eq_true,Nat.reduceLT,Nat.reduceLeDiff,Nat.reduceEqDiff,Nat.reduceAdd,Nat.reduceMul,Nat.reduceSub,Int.reduceLT,Int.reduceEq,Int.reduceNeg,List.length_map,List.length_set,List.length_cons,List.length_nil,List.length_append,List.getElem?_map,List.map_cons,List.map_nil,true_or,or_true,or_false,false_or,and_true,true_and,and_self,not_true,not_false_eq_true,reduceCtorEq,List.all_cons,List.all_nil,Bool.and_true,Bool.true_and,ne_eq,List.drop_zero,List.nil_append,List.append_nil,List.singleton_append,List.cons_append,List.flatMap_cons,List.flatMap_nil,List.flatten_cons,List.flatten_nil,List.mapM_cons,List.mapM_nil,Option.pure_def,Option.bind_eq_bind,List.take_zero,List.take_succ_cons,List.drop_succ_cons,List.getElem?_cons_zero,List.getElem?_cons_succ,List.set_cons_zero,List.set_cons_succ,List.headD_cons,List.take_nil,List.drop_nil,Nat.sub_zero,Nat.add_zero,Nat.zero_add,Nat.zero_le,Nat.le_refl,← List.map_append,← List.map_take,← List.map_drop]
      with_reducible rfl)
  | (refine opsV_on rfl rfl rfl ?_ ?_
     ·(simp only [hH,Env.sc,Env.val,lk,reduceIte,Nat.reduceEqDiff]; done))
  | (refine opsV_off (e':=?_) rfl rfl rfl ?_ ?_ ?_
     rotate_left
     focus (simp only [hH,Env.sc,Env.val,lk,reduceIte,Nat.reduceEqDiff,Bool.not_true,Bool.not_false]; done)
     focus (simp only [Env.putO,Env.put,reduceIte,Nat.reduceLT]; rfl))
  | (refine opsV_dead (e':=?_) rfl rfl rfl ?_ ?_ ?_
     rotate_left
     focus (simp only [Env.val,lk,reduceIte,Nat.reduceEqDiff]; done)
     focus (simp only [Env.putO,Env.put,reduceIte,Nat.reduceLT]; rfl))
  | (refine quV_op (e':=?_) rfl ?_ ?_
     rotate_left
     focus
      simp only [hH,qH6,qF2,qE9,xD,jB,xV,wF,zA7,qP,Env.sure,wH,zX,xU,Env.int,Env.node,zY,jM,jK,Env.bound,Env.cut,jS,V.alive,Env.takes,xM,Ag.cells,uG,Env.newListO,vO,over,Env.solid,Env.solidG,Env.parts,Ty.places,xN,Env.rowsOf,kR,qC,Env.rows,yM,wG,qD,V.isSc,C.killN,Ag.map,Sl.map,qG,Env.place,Env.lay,jZ,C.killA,kM,jO,kO,jX,Env.src,Env.newAt,jI,Env.take,V.get,V.set,V.rowAt,V.setRow,Option.getD_some,List.set_cons_zero,List.set_cons_succ,qH,List.set_set,vP,cellsOf,Env.behind,Env.val,Env.sc,Env.cl,lk,zU,zR,qN,qJ,plain,Env.putO,Env.put,kU,uX,unV,rK,rB,rS,rL,kN,wR,wQ,yB,wZ,wP,wV,uT,yD,jH,wL,wW,wN,wM,wU,wJ,yA,wK,wY,wS,yC,wX,wI,wO,wT,qK,jG,
      ↓reduceIte,eq_self,Option.isSome_some,Option.isSome_none,Option.bind_some,Option.bind_none,Option.map_some,Option.map_none,Bool.false_eq_true,Nat.reduceLT,Nat.reduceLeDiff,Nat.reduceEqDiff,Nat.reduceAdd,Nat.reduceMul,Nat.reduceSub,Int.reduceLT,Int.reduceEq,Int.reduceNeg,List.length_map,List.length_set,List.length_cons,List.length_nil,List.length_append,List.getElem?_map,List.map_cons,List.map_nil,true_or,or_true,or_false,false_or,and_true,true_and,and_self,not_true,not_false_eq_true,reduceCtorEq,List.all_cons,List.all_nil,Bool.and_true,Bool.true_and,ne_eq,List.drop_zero,List.nil_append,List.append_nil,List.singleton_append,List.cons_append,List.flatMap_cons,List.flatMap_nil,List.flatten_cons,List.flatten_nil,List.mapM_cons,List.mapM_nil,Option.pure_def,Option.bind_eq_bind,List.take_zero,List.take_succ_cons,List.drop_succ_cons,List.getElem?_cons_zero,List.getElem?_cons_succ,List.set_cons_zero,List.set_cons_succ,List.headD_cons,List.take_nil,List.drop_nil,Nat.sub_zero,Nat.add_zero,Nat.zero_add,Nat.zero_le,Nat.le_refl,← List.map_append,← List.map_take,← List.map_drop]
      with_reducible rfl)
  | (refine quV_on rfl rfl rfl ?_ ?_
     ·(simp only [hH,Env.sc,Env.val,lk,reduceIte,Nat.reduceEqDiff]; done))
  | (refine quV_off (e':=?_) rfl rfl rfl ?_ ?_ ?_
     rotate_left
     focus (simp only [hH,Env.sc,Env.val,lk,reduceIte,Nat.reduceEqDiff,Bool.not_true,Bool.not_false]; done)
     focus (simp only [Env.putO,Env.put,reduceIte,Nat.reduceLT]; rfl))
  | (refine quV_dead (e':=?_) rfl rfl rfl ?_ ?_ ?_
     rotate_left
     focus (simp only [Env.val,lk,reduceIte,Nat.reduceEqDiff]; done)
     focus (simp only [Env.putO,Env.put,reduceIte,Nat.reduceLT]; rfl)))
 exact hn):goal:=h hH hn
theorem opsN {X:Cfg} {Post:Exit→Env→Prop} {e:Env} {arr:Array Oper} {next:Prop} (hn:next) (h:next→Post .normal e:=by
 intro hn
 try simp only [xK,yY,vS,yU,yP,reduceIte,Nat.reduceEqDiff]
 exact hn):opsV X arr [] Post e:=qE4 (h hn)
theorem skipN {X:Cfg} {Post:Exit→Env→Prop} {e:Env} {next:Prop} (hn:next) (h:next→Post .normal e:=by
 intro hn
 try simp only [xK,yY,vS,yU,yP,reduceIte,Nat.reduceEqDiff]
 exact hn):wpV X .skip Post e:=wpV_skip (h hn)
theorem retN {X:Cfg} {Post:Exit→Env→Prop} {e:Env} {next:Prop} (hn:next) (h:next→Post .ret e:=by
 intro hn
 try simp only [xK,yY,vS,yU,yP,reduceIte,Nat.reduceEqDiff]
 exact hn):wpV X .ret Post e:=wpV_ret (h hn)
theorem outG {X:Cfg} {res:List ResultVar} {rs rs':List (Ag V)} {fin fin':List (Nat×V)} {e:Env} {p:Prop} (hH:p) (he:rs'=rs) (hf:fin'=fin) (h:p→(zT3 X.T res e).map (fun q=>(q.1,q.2.fin))=some (rs',fin'):=by
 intro hH
 simp only [hH,zT3,Env.res1,Env.takes,Env.take,Env.node,Env.fin,lk,V.alive,V.get,V.set,V.rowAt,V.setRow,Option.getD_some,List.set_cons_zero,List.set_cons_succ,qH,List.set_set,zU,zR,rK,rB,rS,rL,List.getElem?_map,↓reduceIte,eq_self,Option.isSome_some,Option.isSome_none,Option.bind_some,Option.map_some,Nat.reduceEqDiff,Nat.reduceLT,List.filter_cons,List.filter_nil,decide_true,decide_false,Bool.false_eq_true,List.append_nil,List.nil_append,List.getElem?_cons_zero,List.getElem?_cons_succ] <;> rfl):RetL X res rs fin .ret e:=.of (.inl rfl) (by rw [h hH,he,hf])
theorem enterG {goal next p:Prop} (hH:p) (hn:next) (h:p→next→goal:=by
 intro hH hn
 simp only [entry,entS,entC,zS7,V.own,jP,zG,List.length_cons,List.length_nil,Nat.reduceAdd,Bool.false_eq_true,reduceIte,List.cons_append,List.nil_append]
 exact hn):goal:=h hH hn
end Go.TV
