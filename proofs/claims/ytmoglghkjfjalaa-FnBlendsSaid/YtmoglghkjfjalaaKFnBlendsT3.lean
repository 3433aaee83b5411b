/- Memory told as trees, part 4. -/
import Derived.Test.YtmoglghkjfjalaaKFnBlendsT2
import Derived.WalkKit
import Derived.ProofKit
import Derived.Lib.UnsafeStr
import Derived.Lib.Walk
import Derived.Shelf.RegionOpenPlain
import Derived.Lib.IndexMore
import Derived.Lib.LaidTab
import Derived.Lib.ItoaNum
import Derived.Sort.Grow
import Derived.Deep.Draws
import Derived.Laws.StructEq
import Derived.Test.YtmoglghkjfjalaaKFnBlendsT1
set_option linter.unusedVariables false
set_option linter.unusedSimpArgs false
set_option maxHeartbeats 8000000
set_option maxRecDepth 100000
namespace Go.TV
section
variable {gG:GG} {c:Ctx gG} {e e':Env} {a:Act} {w:World} {D:CS} {hs:Nat→Value} {S:CS} {X:Cfg} {o:Oper}
end
theorem mklR_f {α:Type} (r:α→List V) (c:List V) {n m:Int} {z:α} {l:List α} (hz:r z=c) (h:mkl n m z=some l):((0≤n)=True)∧((n≤m)=True)∧((m≤1099511627776)=True)∧List.replicate n.toNat c=List.map r l:=by
 obtain ⟨h1,h2,h3,h4⟩:=mkl_f h
 exact ⟨h1,h2,h3,by rw [← h4,← hz,rep_rows]⟩
end Go.TV
namespace Go.TV
def Cfg.ofG (P:Program) (h:P.follows .mixedOrders=true) (l:List (Nat×(Obj→Prop))):Cfg:={Cfg.of P h with G:=fun b=>(l.find? fun x=>x.1 == b).map fun x=>x.2}
theorem Cfg.ofG_mem {l:List (Nat×(Obj→Prop))} {b:Nat} {φ:Obj→Prop} (h:((l.find? fun x=>x.1 == b).map fun x=>x.2)=some φ):(b,φ) ∈ l:=by
 cases q:l.find? fun x=>x.1 == b with
 | none=>rw [q] at h; cases h
 | some x =>
  rw [q] at h
  injection h with h
  have h1:=List.mem_of_find?_eq_some q
  have h2:=List.find?_some q
  have h2:x.1=b:=by simpa using h2
  subst h2 h
  exact h1
def isNum (x:Obj):Prop:=∃ cs e k m,x=.cells cs e k∧cs[0]? = some (.int .i64 m)
theorem isNum_cell {w:World} {b:Nat} {x:Obj} (h:w.heap[b]? = some x) (hx:isNum x):∃ m,w.cell? (ad b 0)=some (.int .i64 m):=by
 obtain ⟨cs,e,k,m,rfl,h1⟩:=hx
 refine ⟨m,?_⟩
 unfold World.cell? ad
 simp only [h]
 exact h1
theorem cell_isNum {w:World} {b:Nat} {m:Int} (h:w.cell? (ad b 0)=some (.int .i64 m)):∃ x,w.heap[b]? = some x∧isNum x:=by
 unfold World.cell? ad at h
 simp only at h
 split at h
 ·rename_i cs e k hq
  exact ⟨_,hq,cs,e,k,m,rfl,by simpa using h⟩
 ·cases h
theorem Fn_pureB {X : Cfg} {f : Nat} {s x : ByteArray} {b : Bool} (hex : ∃ fn, X.P.funcs[f]? = some fn ∧ fn.body.isSome = true ∧ (fn.name == "runtime.NumGoroutine") = false)
  (hc:∀ w:World,(∀ g φ,X.G g=some φ→∃ x,w.heap[g]? = some x∧φ x)→Calls X.P f #[.string s,.string x] w fun e w'=>e=.returned (.bool b)∧w'=w) :
  Fn X f [.one (.sc (.string s)),.one (.sc (.string x))] [.one (.sc (.bool b))] []:=by
 refine ⟨hex,fun w D S us fl ha hr hj hD hg=>?_⟩
 obtain ⟨u0,us1,fl1,rfl,rfl,u1,us2,fl2,rfl,rfl,rfl,rfl⟩:=ha
 obtain ⟨y0,S0,S1,hy0,hx0,⟨y1,S2,S3,hy1,hx1,hS3,hd1,rfl⟩,hd0,rfl⟩:=hr
 simp only [List.getElem?_cons_zero,Option.some.injEq] at hy0
 simp only [Nat.zero_add,List.getElem?_cons_succ,List.getElem?_cons_zero,Option.some.injEq] at hy1
 subst hy0 hy1
 obtain ⟨rfl,_,rfl⟩:=hx0
 obtain ⟨rfl,_,rfl⟩:=hx1
 obtain rfl:S3=emp:=hS3
 refine (hc w (fun g φ q=>(hg g φ q).2.2.2)).mono ?_
 rintro en w' ⟨rfl,rfl⟩
 refine ⟨_,[.bool b],D,emp,emp,rfl,⟨_,_,_,rfl,rfl,rfl,rfl⟩,⟨_,emp,emp,rfl,⟨rfl,rfl,rfl⟩,rfl,emp_dj _,(cup_emp emp).symm⟩,rfl,emp_dj _,?_,Frm.refl _ _,?_,zB D,fun _ _ h=>.inl h,hD⟩
 ·rw [emp_cup]
  exact emp_dj _
 ·intro y o q
  rw [emp_cup] at q
  exact q.elim
end Go.TV
namespace Go.TV
section
variable {gG:GG} {c:Ctx gG} {e e':Env} {a:Act} {w:World} {D:CS} {hs:Nat→Value} {S:CS} {X:Cfg} {o:Oper}
end
end Go.TV
namespace Go.TV
section
variable {gG:GG} {c:Ctx gG} {e e':Env} {a:Act} {w:World} {D:CS} {hs:Nat→Value} {S:CS} {X:Cfg} {o:Oper}
theorem RepRow.at {w:World} {D:CS}:∀ (row:List V) (rd:Nat→Option Value) (k:Nat) (S:CS) (j:Nat) (x:V),RepRow w D rd row k S→row[j]? = some x→∃ u Sx,rd (k+j)=some u∧Rep w D x u Sx∧sub Sx S
 | [],_,_,_,j,x,_,h=>by simp at h
 | v :: row,rd,k,S,0,x,h,hx=>by
  obtain ⟨u,S1,S2,h1,h2,h3,h4,rfl⟩:=h
  simp only [List.getElem?_cons_zero,Option.some.injEq] at hx
  subst hx
  exact ⟨u,S1,by simpa using h1,h2,sub_l _ _⟩
 | v :: row,rd,k,S,j+1,x,h,hx=>by
  obtain ⟨u,S1,S2,h1,h2,h3,h4,rfl⟩:=h
  obtain ⟨u',Sx,g1,g2,g3⟩:=RepRow.at row rd (k+1) S2 j x h3 (by simpa using hx)
  exact ⟨u',Sx,by rw [show k+(j+1)=k+1+j by omega]; exact g1,g2,zQ g3 (sub_r _ _)⟩
end
end Go.TV
namespace Go.TV
structure InsRaw (P:Program) (f t el k:Nat):Prop where
 shift:∀ (b off n c i vb voff m vc:Nat) (cs vs:List Value) (w:World),i < n→0 < m→n+m≤c→n+m≤549755813888→vb≠b→cs.length=n * k→vs.length=m * k →
  (∀ j v,cs[j]? = some v→w.cell? ⟨b,off+j,none⟩=some v)→(∀ j,j < (n+m) * k→(w.cell? ⟨b,off+j,none⟩).isSome=true)→(∀ j,j < (n+m) * k→w.frozen? ⟨b,off+j,none⟩=false) →
  (∀ j v,vs[j]? = some v→w.cell? ⟨vb,voff+j,none⟩=some v)→(∀ v ∈ cs,v.oneCell'=true)→(∀ v ∈ vs,v.oneCell'=true) →
  ∀ (tA tB:TypeId) (kA kB:Nat),w.shape? vb=some (tA,kA)→w.shape? b=some (tB,kB)→kB≠0→w.frozen? ⟨vb,voff,none⟩=false→w.frozen? ⟨vb,kA,none⟩=false →
  Calls P f #[.slice (some ⟨b,off,none⟩) n c,.int .i64 i,.slice (some ⟨vb,voff,none⟩) m vc] w fun e w' =>
   e=.returned (.slice (some ⟨b,off,none⟩) (n+m) c)∧w'=(w.drew.setCells b (off+(i+m) * k) (cs.drop (i * k))).setCells b (off+i * k) vs
 last:∀ (A:Option Addr) (n c:Nat) (Av:Option Addr) (m vc:Nat) (w w1:World) (v':Value),0 < m→n≤c→n+m≤549755813888 →
  (∀ ty,(Builtin.append_ #[t,t] ty #[.slice A n c,.slice Av m vc]).run P w=.ok v' w1) →
  Calls P f #[.slice A n c,.int .i64 n,.slice Av m vc] w fun e w'=>e=.returned v'∧w'=w1
 grow:∀ (b off n c i vb voff m vc:Nat) (cs vs:List Value) (w:World) (i0:TypeInfo) (z:Value),P.info? el=some i0→i0.zero=some z→i0.size=k→z.cells.size=k→i0.bytes≤256 →
  i < n→0 < m→n≤c→c < n+m→n+m≤549755813888→cs.length=n * k→vs.length=m * k →
  (∀ j v,cs[j]? = some v→w.cell? ⟨b,off+j,none⟩=some v)→(∀ j v,vs[j]? = some v→w.cell? ⟨vb,voff+j,none⟩=some v)→(∀ v ∈ cs,v.oneCell'=true)→(∀ v ∈ vs,v.oneCell'=true) →
  Calls P f #[.slice (some ⟨b,off,none⟩) n c,.int .i64 i,.slice (some ⟨vb,voff,none⟩) m vc] w fun e w' =>
   e=.returned (.slice (some ⟨w.heap.size,0,none⟩) (n+m) (grownCap w (n+m) c el)) ∧
   w'=(((w.alloc (.cells ((cs.take (i * k)).toArray++Builtin.zeroCells z.cells (n+m - i)++Builtin.zeroCells z.cells (grownCap w (n+m) c el - (n+m))) el)).drew.setCells w.heap.size (i * k) vs).drew).setCells w.heap.size ((i+m) * k) (cs.drop (i * k))
section
variable {gG:GG} {c:Ctx gG} {e e':Env} {a:Act} {w w':World} {D:CS} {hs:Nat→Value} {S:CS} {X:Cfg}
theorem one_of:∀ (r:List V) (rd:Nat→Option Value) (k:Nat) (T:CS) (us:List Value),RepRow w D rd r k T→(∀ x ∈ r,x.alive=true)→us.length=r.length→(∀ j u,us[j]? = some u→rd (k+j)=some u)→∀ u ∈ us,u.oneCell'=true:=by
 intro r
 induction r with
 | nil=>intro rd k T us _ _ hl _ u hu; rw [List.length_eq_zero_iff.1 hl] at hu; simp at hu
 | cons x r ih =>
  intro rd k T us hr ha hl hj u hu
  obtain ⟨u1,T1,T2,g1,g2,g3,g4,g5⟩:=hr
  cases us with
  | nil=>simp at hl
  | cons u2 us =>
   have e:=hj 0 u2 rfl
   rw [Nat.add_zero,g1] at e
   injection e with e
   subst e
   rcases List.mem_cons.1 hu with rfl | hu
   ·exact g2.oneCell (ha x (by simp))
   ·exact ih rd (k+1) T2 us g3 (fun y hy=>ha y (by simp [hy])) (by simpa using hl) (fun j u hj'=>by have:=hj (j+1) u (by simpa using hj'); rwa [show k+(j+1)=k+1+j by omega] at this) u hu
theorem one_rows {rows:List (List V)} (h:qC rows=true) {rd:Nat→Option Value} {T:CS} {us:List Value} (hr:RepRow w D rd rows.flatten 0 T) (hl:us.length=rows.flatten.length) (hj:∀ j u,us[j]? = some u→rd j=some u):∀ u ∈ us,u.oneCell'=true:=
 one_of rows.flatten rd 0 T us hr (fun x hx=>by
  obtain ⟨r,hr,hxr⟩:=List.mem_flatten.1 hx
  simp only [qC,List.all_eq_true] at h
  exact h r hr x hxr) hl (fun j u q=>by rw [Nat.zero_add]; exact hj j u q)
theorem ins_flat {rd rd1 rd2:Nat→Option Value} {rows rows2:List (List V)} {i k:Nat} {T S2:CS} {us1 us2:List Value} (x1:RepRow w D rd1 rows.flatten 0 T) (x3:∀ r ∈ rows,r.length=k) (y1:RepRow w D rd2 rows2.flatten 0 S2) (y3:∀ r ∈ rows2,r.length=k)
  (p1:us1.length=rows.length * k) (p2:∀ j u,us1[j]? = some u→rd1 j=some u) (v1:us2.length=rows2.length * k) (v2:∀ j u,us2[j]? = some u→rd2 j=some u) (hT2:dj T S2) (hi:i≤rows.length)
  (hD:sameOn w w' D) (hT:sameOn w w' T) (hS2:sameOn w w' S2) (hrd:∀ j u,(us1.take (i * k)++us2++us1.drop (i * k))[j]? = some u→rd j=some u) :
  RepRow w' D rd (rows.take i++rows2++rows.drop i).flatten 0 (cup T S2):=by
 have hfl:(rows.take i).flatten.length=i * k:=by rw [flat_len _ (fun r hr=>x3 r (List.mem_of_mem_take hr)),List.length_take]; congr 1; omega
 have hfl2:=flat_len rows2 y3
 have hik:i * k≤us1.length:=by rw [p1]; exact Nat.mul_le_mul_right k hi
 have hdl:(rows.drop i).flatten.length=us1.length - i * k:=by rw [flat_len _ (fun r hr=>x3 r (List.mem_of_mem_drop hr)),List.length_drop,p1,Nat.sub_mul]
 have e:rows.flatten=(rows.take i).flatten++(rows.drop i).flatten:=by rw [← List.flatten_append,List.take_append_drop]
 rw [e] at x1
 obtain ⟨T1,T2,a1,a2,a3,rfl⟩:=RepRow.split _ _ _ _ x1
 rw [Nat.zero_add,hfl] at a2
 have b1:RepRow w' D rd (rows.take i).flatten 0 T1:=RepRow.frame (zB D) hD _ rd1 rd 0 T1 a1 (zN hT (sub_l _ _)) (fun j _ hj=>by
  have hj':j < i * k:=by omega
  obtain ⟨u,hu⟩:∃ u,us1[j]? = some u:=⟨_,List.getElem?_eq_getElem (by omega)⟩
  rw [p2 j u hu]
  refine hrd j u ?_
  rw [List.append_assoc,List.getElem?_append_left (by rw [List.length_take]; omega),List.getElem?_take,if_pos hj']
  exact hu)
 have b2:RepRow w' D rd rows2.flatten (0+(rows.take i).flatten.length) S2:=by
  have:=RepRow.shift _ _ rd 0 (0+(rows.take i).flatten.length) S2 y1 (fun q hq=>by
   obtain ⟨u,hu⟩:∃ u,us2[q]? = some u:=⟨_,List.getElem?_eq_getElem (by omega)⟩
   rw [Nat.zero_add,Nat.zero_add,v2 q u hu,hfl]
   refine hrd _ u ?_
   rw [List.append_assoc,List.getElem?_append_right (by rw [List.length_take]; omega),List.length_take,show i * k+q - min (i * k) us1.length=q by omega,List.getElem?_append_left (by omega)]
   exact hu)
  exact RepRow.frame (zB D) hD _ _ _ _ S2 this hS2 (fun _ _ _=>rfl)
 have b3:RepRow w' D rd (rows.drop i).flatten (0+(rows.take i++rows2).flatten.length) T2:=by
  have:=RepRow.shift _ _ rd (i * k) (0+(rows.take i++rows2).flatten.length) T2 a2 (fun q hq=>by
   obtain ⟨u,hu⟩:∃ u,us1[i * k+q]? = some u:=⟨_,List.getElem?_eq_getElem (by omega)⟩
   rw [p2 _ u hu,Nat.zero_add,List.flatten_append,List.length_append,hfl,hfl2]
   refine hrd _ u ?_
   rw [List.getElem?_append_right (by rw [List.length_append,List.length_take]; omega),List.length_append,List.length_take,List.getElem?_drop,← hu]
   congr 1
   omega)
  exact RepRow.frame (zB D) hD _ _ _ _ T2 this (zN hT (sub_r _ _)) (fun _ _ _=>rfl)
 rw [List.flatten_append]
 have h12:dj T1 S2:=(fun x y q1 q2=>hT2 x y (.inl q1) q2)
 have j1:RepRow w' D rd (rows.take i++rows2).flatten 0 (cup T1 S2):=by
  rw [List.flatten_append]
  exact RepRow.join _ _ 0 T1 S2 b1 b2 h12
 have hset:cup (cup T1 S2) T2=cup (cup T1 T2) S2:=cs_ext fun x y=>by
  simp only [cup]
  constructor
  ·rintro ((q | q) | q)
   ·exact .inl (.inl q)
   ·exact .inr q
   ·exact .inl (.inr q)
  ·rintro ((q | q) | q)
   ·exact .inl (.inl q)
   ·exact .inr q
   ·exact .inl (.inr q)
 rw [← hset]
 exact RepRow.join _ _ 0 _ T2 j1 b3 (zU a3 (fun x y q1 q2=>hT2 x y (.inr q2) q1))
theorem shape_of {b o:Nat} {u:Value} (h:w.cell? (ad b o)=some u):∃ t k,w.shape? b=some (t,k)∧k≠0:=by
 unfold World.cell? at h
 unfold World.shape?
 simp only [ad,Option.isSome_none,Bool.false_eq_true,if_false] at h
 cases q:w.heap[b]? with
 | none=>rw [q] at h; cases h
 | some x =>
  rw [q] at h
  cases x with
  | cells cs t f =>
   refine ⟨t,cs.size,rfl,fun z=>?_⟩
   have hl:=(Array.getElem?_eq_some_iff.1 h).1
   omega
  | _=>cases h
theorem ins_done (h:StD c e a w D hs S) {f t el b2 cap2 t2 i:Nat} {de:TyI} {arr:Array Value} {rows rows2:List (List V)} {ux:Value} {S1 S2:CS} (hR:InsRaw X.P f t el de.size) (ht:X.P.underlying t=some (.slice el)) (hde:TyOk X.P el de)
  (hx:Rep w D (.list true de.size rows) ux S1) (hblk:w.heap[b2]? = some (.cells arr t2 (0,0))) (hy:RepRows w D de.size b2 0 rows2 0 S2) (hvb:∀ o,¬S1 b2 o)
  (h12:TV.dj S1 S2) (h1S:TV.dj S1 S) (h2S:TV.dj S2 S) (h1D:TV.dj S1 D) (h2D:TV.dj S2 D) (h2l:∀ b o,S2 b o→b < w.heap.size)
  (h10:∀ b o,S1 b o→c.S0 b o∨c.w0.heap.size≤b) (h20:∀ b o,S2 b o→c.S0 b o∨c.w0.heap.size≤b) (hsz:de.size≠0) (hby:de.bytes≤256) (hln:rows.length+rows2.length≤549755813888)
  (al1:qC rows=true) (al2:qC rows2=true) (hi:i≤rows.length) (hm:0 < rows2.length) :
  ∃ v w' S3,Calls X.P f #[ux,.int .i64 i,.slice (some (ad b2 0)) rows2.length cap2] w (fun e w1=>e=.returned v∧w1=w')∧hdr v=true∧StD c e a w' D hs S∧Rep w' D (.list true de.size (rows.take i++rows2++rows.drop i)) v S3∧TV.dj S3 S∧TV.dj S3 D∧(∀ b o,S3 b o→c.S0 b o∨c.w0.heap.size≤b):=by
 rcases Nat.lt_or_eq_of_le hi with hlt | heq
 ·rcases hx with ⟨rfl,q,rfl⟩ | ⟨b,o',cap,T,rfl,hc,hrr,hown,hdj,rfl⟩
  ·simp at hlt
  obtain ⟨x1,x2,x3⟩:=RepRows.flat rows 0 T hrr
  rw [Nat.zero_mul] at x1
  obtain ⟨us1,p1,p2⟩:=RepRow.vals _ _ _ x1
  simp only [Nat.zero_add] at p2
  obtain ⟨y1,y2,y3⟩:=RepRows.flat rows2 0 S2 hy
  rw [Nat.zero_mul] at y1
  obtain ⟨us2,v1,v2⟩:=RepRow.vals _ _ _ y1
  simp only [Nat.zero_add] at v2
  have v2':∀ j u,us2[j]? = some u→w.cell? (ad b2 (0+j))=some u:=fun j u q=>by rw [Nat.zero_add]; exact v2 j u q
  have hl1:us1.length=rows.length * de.size:=by rw [p1,x2]
  have hl2:us2.length=rows2.length * de.size:=by rw [v1,y2]
  have one1:=one_rows al1 x1 p1 p2
  have one2:=one_rows al2 y1 v1 v2'
  have hT2:TV.dj T S2:=fun x y q1 q2=>h12 x y (.inr q1) q2
  have hcs:∀ j v,us1[j]? = some v→w.cell? ⟨b,o'+j,none⟩=some v:=fun j v q=>p2 j v q
  have hvs:∀ j v,us2[j]? = some v→w.cell? ⟨b2,0+j,none⟩=some v:=fun j v q=>v2' j v q
  have hdl:(us1.drop (i * de.size)).length=(rows.length - i) * de.size:=by rw [List.length_drop,hl1,Nat.sub_mul]
  have hk1:1≤de.size:=Nat.one_le_iff_ne_zero.2 hsz
  have hikn:i * de.size+de.size≤rows.length * de.size:=by
   have:=Nat.mul_le_mul_right de.size hlt
   rw [Nat.succ_mul] at this
   exact this
  by_cases hroom:rows.length+rows2.length≤cap
  ·have hroomn:rows.length * de.size+rows2.length * de.size≤cap * de.size:=by rw [← Nat.add_mul]; exact Nat.mul_le_mul_right _ hroom
   obtain ⟨tB,kB,sB,nB⟩:=shape_of (hcs 0 _ (List.getElem?_eq_getElem (by omega)))
   have hbb:b2≠b:=fun q=>hvb o' (by subst q; exact .inl ⟨rfl,by omega,by omega⟩)
   have hC:=hR.shift b o' rows.length cap i b2 0 rows2.length cap2 us1 us2 w hlt hm hroom hln hbb hl1 hl2 hcs
    (fun j hj=>by rw [Nat.add_mul] at hj; obtain ⟨z,hz⟩:=(hown j (by omega)).1; exact Option.isSome_iff_exists.2 ⟨z,hz⟩)
    (fun j hj=>by rw [Nat.add_mul] at hj; exact (hown j (by omega)).2) hvs one1 one2 t2 tB arr.size kB (by unfold World.shape?; rw [hblk]) sB nB (by simp [World.frozen?,hblk]) (by simp [World.frozen?,hblk])
   have im:(i+rows2.length) * de.size=i * de.size+rows2.length * de.size:=Nat.add_mul _ _ _
   have hne1:us1.drop (i * de.size)≠[]:=fun q=>by
    have:=congrArg List.length q
    rw [List.length_drop,List.length_nil] at this
    omega
   have hr1:1 * de.size≤rows2.length * de.size:=Nat.mul_le_mul_right _ hm
   have hne2:us2≠[]:=fun q=>by
    rw [q,List.length_nil] at hl2
    omega
   -- the three steps of the world
   have g0:=frm_drew w
   have g1:=frm_set w.drew b (o'+(i+rows2.length) * de.size) _ hne1
   have g2:=frm_set (w.drew.setCells b (o'+(i+rows2.length) * de.size) (us1.drop (i * de.size))) b (o'+i * de.size) us2 hne2
   have in1:TV.sub (rng b (o'+(i+rows2.length) * de.size) (us1.drop (i * de.size)).length) (rng b o' (cap * de.size)):=by
    rintro x y ⟨q1,q2,q3⟩
    rw [List.length_drop] at q3
    exact ⟨q1,by omega,by omega⟩
   have in2:TV.sub (rng b (o'+i * de.size) us2.length) (rng b o' (cap * de.size)):=by
    rintro x y ⟨q1,q2,q3⟩
    exact ⟨q1,by omega,by omega⟩
   have hrS:TV.dj S (rng b o' (cap * de.size)):=fun x y q1 q2=>h1S x y (.inl q2) q1
   have hrD:TV.dj D (rng b o' (cap * de.size)):=fun x y q1 q2=>h1D x y (.inl q2) q1
   have st0:=h.world g0
   have st1:=st0.world' g1 (dj_sub_r hrS in1) (dj_sub_r hrD in1) (fun x y q=>h10 x y (.inl (in1 x y q)))
   have st2:=st1.world' g2 (dj_sub_r hrS in2) (dj_sub_r hrD in2) (fun x y q=>h10 x y (.inl (in2 x y q)))
   have same3:∀ (Z:CS),TV.dj Z (rng b o' (cap * de.size))→(∀ x y,Z x y→x < w.heap.size)→TV.sameOn w ((w.drew.setCells b (o'+(i+rows2.length) * de.size) (us1.drop (i * de.size))).setCells b (o'+i * de.size) us2) Z:=fun Z hz hl=>by
    have s0:=g0.sameOn (dj_emp Z) hl
    have s1:TV.sameOn w.drew (w.drew.setCells b (o'+(i+rows2.length) * de.size) (us1.drop (i * de.size))) Z:=fun x y q=>zX (fun q2=>hz x y q (in1 x y q2))
    have s2:TV.sameOn (w.drew.setCells b (o'+(i+rows2.length) * de.size) (us1.drop (i * de.size))) ((w.drew.setCells b (o'+(i+rows2.length) * de.size) (us1.drop (i * de.size))).setCells b (o'+i * de.size) us2) Z:=fun x y q=>zX (fun q2=>hz x y q (in2 x y q2))
    exact sameOn_trans (sameOn_trans s0 s1) s2
   have hTr:TV.dj T (rng b o' (cap * de.size)):=fun x y q1 q2=>hdj x y q2 q1
   have hS2r:TV.dj S2 (rng b o' (cap * de.size)):=fun x y q1 q2=>h12 x y (.inl q2) q1
   have hTl:∀ x y,T x y→x < w.heap.size:=fun x y q=>RepRows.lt _ _ _ _ _ _ hrr x y q
   have hDl:=h.Dl
   obtain ⟨W,hW⟩:∃ W,W=((w.drew.setCells b (o'+(i+rows2.length) * de.size) (us1.drop (i * de.size))).setCells b (o'+i * de.size) us2):=⟨_,rfl⟩
   rw [← hW] at hC st2 same3
   have hd:∀ k,w.drew.cell? k=w.cell? k:=fun k=>rfl
   have ex0:∀ j,j < cap * de.size→∃ v,w.drew.cell? (ad b (o'+j))=some v:=fun j hj=>(hown j hj).1
   have ex1:∀ j,j < cap * de.size→∃ v,(w.drew.setCells b (o'+(i+rows2.length) * de.size) (us1.drop (i * de.size))).cell? (ad b (o'+j))=some v:=fun j hj=>by
    by_cases z:(i+rows2.length) * de.size≤j∧j < (i+rows2.length) * de.size+(us1.drop (i * de.size)).length
    ·have:=cell_set_in (w:=w.drew) (b:=b) (o:=o'+(i+rows2.length) * de.size) (us:=us1.drop (i * de.size)) (fun k hk=>by rw [Nat.add_assoc]; exact ex0 _ (by rw [List.length_drop] at hk; omega)) (k:=j - (i+rows2.length) * de.size) (List.getElem?_eq_getElem (by omega))
     rw [show o'+(i+rows2.length) * de.size+(j - (i+rows2.length) * de.size)=o'+j by omega] at this
     exact ⟨_,this⟩
    ·rw [(zX (w:=w.drew) (b:=b) (o:=o'+(i+rows2.length) * de.size) (us:=us1.drop (i * de.size)) (b':=b) (o':=o'+j) (by rintro ⟨_,q1,q2⟩; omega)).1]
     exact ex0 j hj
   have ex2:∀ j,j < cap * de.size→∃ v,W.cell? (ad b (o'+j))=some v:=fun j hj=>by
    rw [hW]
    by_cases z:i * de.size≤j∧j < i * de.size+us2.length
    ·have:=cell_set_in (w:=w.drew.setCells b (o'+(i+rows2.length) * de.size) (us1.drop (i * de.size))) (b:=b) (o:=o'+i * de.size) (us:=us2) (fun k hk=>by rw [Nat.add_assoc]; exact ex1 _ (by omega)) (k:=j - i * de.size) (List.getElem?_eq_getElem (by omega))
     rw [show o'+i * de.size+(j - i * de.size)=o'+j by omega] at this
     exact ⟨_,this⟩
    ·rw [(zX (b:=b) (o:=o'+i * de.size) (us:=us2) (b':=b) (o':=o'+j) (by rintro ⟨_,q1,q2⟩; omega)).1]
     exact ex1 j hj
   have fr2:∀ j,W.frozen? (ad b (o'+j))=w.frozen? (ad b (o'+j)):=fun j=>by
    rw [hW,World.frozen?_setCells,World.frozen?_setCells]
    rfl
   have new:∀ j u,(us1.take (i * de.size)++us2++us1.drop (i * de.size))[j]? = some u→W.cell? (ad b (o'+j))=some u:=fun j u q=>by
    rw [hW]
    by_cases z1:j < i * de.size
    ·rw [List.append_assoc,List.getElem?_append_left (by rw [List.length_take]; omega),List.getElem?_take,if_pos z1] at q
     rw [(zX (b:=b) (o:=o'+i * de.size) (us:=us2) (b':=b) (o':=o'+j) (by rintro ⟨_,q1,q2⟩; omega)).1,
      (zX (w:=w.drew) (b:=b) (o:=o'+(i+rows2.length) * de.size) (us:=us1.drop (i * de.size)) (b':=b) (o':=o'+j) (by rintro ⟨_,q1,q2⟩; omega)).1]
     exact p2 j u q
    ·by_cases z2:j < i * de.size+us2.length
     ·rw [List.append_assoc,List.getElem?_append_right (by rw [List.length_take]; omega),List.length_take,List.getElem?_append_left (by omega)] at q
      have:=cell_set_in (w:=w.drew.setCells b (o'+(i+rows2.length) * de.size) (us1.drop (i * de.size))) (b:=b) (o:=o'+i * de.size) (us:=us2) (fun k hk=>by rw [Nat.add_assoc]; exact ex1 _ (by omega)) q
      rw [show o'+i * de.size+(j - min (i * de.size) us1.length)=o'+j by omega] at this
      exact this
     ·rw [List.getElem?_append_right (by rw [List.length_append,List.length_take]; omega),List.length_append,List.length_take] at q
      rw [(zX (b:=b) (o:=o'+i * de.size) (us:=us2) (b':=b) (o':=o'+j) (by rintro ⟨_,q1,q2⟩; omega)).1]
      have:=cell_set_in (w:=w.drew) (b:=b) (o:=o'+(i+rows2.length) * de.size) (us:=us1.drop (i * de.size)) (fun k hk=>by rw [Nat.add_assoc]; exact ex0 _ (by rw [List.length_drop] at hk; omega)) q
      rw [show o'+(i+rows2.length) * de.size+(j - (min (i * de.size) us1.length+us2.length))=o'+j by omega] at this
      exact this
   have hflat:=ins_flat (w':=W) (rd:=fun j=>W.cell? (ad b (o'+j))) x1 x3 y1 y3 hl1 p2 hl2 v2' hT2 hi (same3 D hrD hDl) (same3 T hTr hTl) (same3 S2 hS2r h2l) new
   have hlen:(rows.take i++rows2++rows.drop i).length=rows.length+rows2.length:=by
    simp only [List.length_append,List.length_take,List.length_drop]
    omega
   refine ⟨_,W,cup (rng b o' (cap * de.size)) (cup T S2),hC,rfl,st2,.inr ⟨b,o',cap,cup T S2,by rw [hlen]; rfl,by rw [hlen]; exact hroom,?_,?_,?_,rfl⟩,?_,?_,?_⟩
   ·refine RepRows.of_flat _ 0 _ (by rw [Nat.zero_mul]; exact hflat) (fun r hr=>?_) (fun j _ _=>rfl)
    rcases List.mem_append.1 hr with hr | hr
    ·rcases List.mem_append.1 hr with hr | hr
     ·exact x3 r (List.mem_of_mem_take hr)
     ·exact y3 r hr
    ·exact x3 r (List.mem_of_mem_drop hr)
   ·exact fun j hj=>⟨ex2 j hj,by rw [fr2]; exact (hown j hj).2⟩
   ·exact dj_cup hdj (fun x y q1 q2=>h12 x y (.inl q1) q2)
   ·exact zU (l_dj h1S) (zU (r_dj h1S) h2S)
   ·exact zU (l_dj h1D) (zU (r_dj h1D) h2D)
   ·rintro x y (q | q | q)
    ·exact h10 x y (.inl q)
    ·exact h10 x y (.inr q)
    ·exact h20 x y q
  ·obtain ⟨i0,i1,i2,i3,z,i4,i5⟩:=hde.inf
   have hzs:z.cells.size=de.size:=by
    have:=congrArg List.length i5
    simp [hde.zl] at this
    exact this
   have hC:=hR.grow b o' rows.length cap i b2 0 rows2.length cap2 us1 us2 w i0 z i1 i4 i2 hzs (by rw [i3]; exact hby) hlt hm hc (by omega) hln hl1 hl2 hcs hvs one1 one2
   have hG:=grownCap_ge w (rows.length+rows2.length) cap el
   obtain ⟨G,hGe⟩:∃ G,G=grownCap w (rows.length+rows2.length) cap el:=⟨_,rfl⟩
   rw [← hGe] at hC hG
   obtain ⟨ROW,hROW⟩:∃ ROW:Array Value,ROW=(us1.take (i * de.size)).toArray++Builtin.zeroCells z.cells (rows.length+rows2.length - i)++Builtin.zeroCells z.cells (G - (rows.length+rows2.length)):=⟨_,rfl⟩
   rw [← hROW] at hC
   have im:(i+rows2.length) * de.size=i * de.size+rows2.length * de.size:=Nat.add_mul _ _ _
   have hGn:rows.length * de.size+rows2.length * de.size≤G * de.size:=by rw [← Nat.add_mul]; exact Nat.mul_le_mul_right _ hG
   have hRs:ROW.size=G * de.size:=by
    rw [hROW]
    simp only [Array.size_append,size_zeroCells,hzs,List.size_toArray,List.length_take]
    rw [Nat.min_eq_left (by omega),← Nat.add_mul,← Nat.add_mul]
    congr 1
    omega
   have hRl:∀ j u,(us1.take (i * de.size))[j]? = some u→ROW[j]? = some u:=fun j u q=>by
    have hj:=(List.getElem?_eq_some_iff.1 q).1
    rw [hROW,Array.append_assoc,Array.getElem?_append_left (by simpa using hj)]
    simpa using q
   have hne1:us1.drop (i * de.size)≠[]:=fun q=>by
    have:=congrArg List.length q
    rw [List.length_drop,List.length_nil] at this
    omega
   have hr1:1 * de.size≤rows2.length * de.size:=Nat.mul_le_mul_right _ hm
   have hne2:us2≠[]:=fun q=>by
    rw [q,List.length_nil] at hl2
    omega
   obtain ⟨W0,hW0⟩:∃ W0,W0=(w.alloc (.cells ROW el)).drew:=⟨_,rfl⟩
   rw [← hW0] at hC
   have f0:Frm w W0 emp:=by
    rw [hW0]
    exact (frm_alloc w _).trans (frm_drew _) (fun _ _ q=>q.elim)
   have c0:∀ j,W0.cell? (ad w.heap.size j)=ROW[j]?:=fun j=>by rw [hW0]; exact cell_alloc w ROW el j
   have z0:∀ j,W0.frozen? (ad w.heap.size j)=false:=fun j=>by rw [hW0]; exact frozen_alloc w ROW el j
   have g1:=frm_set W0 w.heap.size (i * de.size) us2 hne2
   have gd:=frm_drew (W0.setCells w.heap.size (i * de.size) us2)
   have g2:=frm_set (W0.setCells w.heap.size (i * de.size) us2).drew w.heap.size ((i+rows2.length) * de.size) _ hne1
   have hnew:∀ (Z:CS),(∀ x y,Z x y→x < w.heap.size)→∀ o n,TV.dj Z (rng w.heap.size o n):=fun Z hz o n x y q1 q2=>by
    have:=hz x y q1
    have:=q2.1
    omega
   have hfs:=h.fr.size
   have st0:=h.world f0
   have st1:=st0.world' g1 (hnew S h.ob.blt _ _) (hnew D h.Dl _ _) (fun x y q=>.inr (by rw [q.1]; exact hfs))
   have st2:=(st1.world gd).world' g2 (hnew S h.ob.blt _ _) (hnew D h.Dl _ _) (fun x y q=>.inr (by rw [q.1]; exact hfs))
   have same3:∀ (Z:CS),(∀ x y,Z x y→x < w.heap.size)→TV.sameOn w ((W0.setCells w.heap.size (i * de.size) us2).drew.setCells w.heap.size ((i+rows2.length) * de.size) (us1.drop (i * de.size))) Z:=fun Z hl=>by
    have s0:=f0.sameOn (dj_emp Z) hl
    have s1:TV.sameOn W0 (W0.setCells w.heap.size (i * de.size) us2) Z:=fun x y q=>zX (fun q2=>hnew Z hl _ _ x y q q2)
    have s2:TV.sameOn (W0.setCells w.heap.size (i * de.size) us2) (W0.setCells w.heap.size (i * de.size) us2).drew Z:=fun x y q=>⟨rfl,rfl,rfl⟩
    have s3:TV.sameOn (W0.setCells w.heap.size (i * de.size) us2).drew ((W0.setCells w.heap.size (i * de.size) us2).drew.setCells w.heap.size ((i+rows2.length) * de.size) (us1.drop (i * de.size))) Z:=fun x y q=>zX (fun q2=>hnew Z hl _ _ x y q q2)
    exact sameOn_trans (sameOn_trans (sameOn_trans s0 s1) s2) s3
   obtain ⟨W,hW⟩:∃ W,W=((W0.setCells w.heap.size (i * de.size) us2).drew.setCells w.heap.size ((i+rows2.length) * de.size) (us1.drop (i * de.size))):=⟨_,rfl⟩
   rw [← hW] at hC st2 same3
   have ex0:∀ j,j < G * de.size→∃ v,W0.cell? (ad w.heap.size j)=some v:=fun j hj=>⟨ROW[j]'(by omega),by rw [c0]; exact Array.getElem?_eq_getElem (by omega)⟩
   have ex1:∀ j,j < G * de.size→∃ v,(W0.setCells w.heap.size (i * de.size) us2).cell? (ad w.heap.size j)=some v:=fun j hj=>by
    by_cases q:i * de.size≤j∧j < i * de.size+us2.length
    ·have:=cell_set_in (w:=W0) (b:=w.heap.size) (o:=i * de.size) (us:=us2) (fun k hk=>ex0 _ (by omega)) (k:=j - i * de.size) (List.getElem?_eq_getElem (by omega))
     rw [show i * de.size+(j - i * de.size)=j by omega] at this
     exact ⟨_,this⟩
    ·rw [(zX (w:=W0) (b:=w.heap.size) (o:=i * de.size) (us:=us2) (b':=w.heap.size) (o':=j) (by rintro ⟨_,q1,q2⟩; omega)).1]
     exact ex0 j hj
   have exd:∀ j,j < G * de.size→∃ v,(W0.setCells w.heap.size (i * de.size) us2).drew.cell? (ad w.heap.size j)=some v:=fun j hj=>ex1 j hj
   have ex2:∀ j,j < G * de.size→∃ v,W.cell? (ad w.heap.size j)=some v:=fun j hj=>by
    rw [hW]
    by_cases q:(i+rows2.length) * de.size≤j∧j < (i+rows2.length) * de.size+(us1.drop (i * de.size)).length
    ·have:=cell_set_in (w:=(W0.setCells w.heap.size (i * de.size) us2).drew) (b:=w.heap.size) (o:=(i+rows2.length) * de.size) (us:=us1.drop (i * de.size)) (fun k hk=>exd _ (by rw [List.length_drop] at hk; omega)) (k:=j - (i+rows2.length) * de.size) (List.getElem?_eq_getElem (by omega))
     rw [show (i+rows2.length) * de.size+(j - (i+rows2.length) * de.size)=j by omega] at this
     exact ⟨_,this⟩
    ·rw [(zX (w:=(W0.setCells w.heap.size (i * de.size) us2).drew) (b:=w.heap.size) (o:=(i+rows2.length) * de.size) (us:=us1.drop (i * de.size)) (b':=w.heap.size) (o':=j) (by rintro ⟨_,q1,q2⟩; omega)).1]
     exact exd j hj
   have fr2:∀ j,W.frozen? (ad w.heap.size j)=false:=fun j=>by
    rw [hW,World.frozen?_setCells]
    show (W0.setCells w.heap.size (i * de.size) us2).frozen? (ad w.heap.size j)=false
    rw [World.frozen?_setCells]
    exact z0 j
   have new:∀ j u,(us1.take (i * de.size)++us2++us1.drop (i * de.size))[j]? = some u→W.cell? (ad w.heap.size j)=some u:=fun j u q=>by
    rw [hW]
    by_cases z1:j < i * de.size
    ·rw [List.append_assoc,List.getElem?_append_left (by rw [List.length_take]; omega)] at q
     rw [(zX (w:=(W0.setCells w.heap.size (i * de.size) us2).drew) (b:=w.heap.size) (o:=(i+rows2.length) * de.size) (us:=us1.drop (i * de.size)) (b':=w.heap.size) (o':=j) (by rintro ⟨_,q1,q2⟩; omega)).1]
     show (W0.setCells w.heap.size (i * de.size) us2).cell? (ad w.heap.size j)=some u
     rw [(zX (w:=W0) (b:=w.heap.size) (o:=i * de.size) (us:=us2) (b':=w.heap.size) (o':=j) (by rintro ⟨_,q1,q2⟩; omega)).1,c0]
     exact hRl j u q
    ·by_cases z2:j < i * de.size+us2.length
     ·rw [List.append_assoc,List.getElem?_append_right (by rw [List.length_take]; omega),List.length_take,List.getElem?_append_left (by omega)] at q
      rw [(zX (w:=(W0.setCells w.heap.size (i * de.size) us2).drew) (b:=w.heap.size) (o:=(i+rows2.length) * de.size) (us:=us1.drop (i * de.size)) (b':=w.heap.size) (o':=j) (by rintro ⟨_,q1,q2⟩; omega)).1]
      show (W0.setCells w.heap.size (i * de.size) us2).cell? (ad w.heap.size j)=some u
      have:=cell_set_in (w:=W0) (b:=w.heap.size) (o:=i * de.size) (us:=us2) (fun k hk=>ex0 _ (by omega)) q
      rw [show i * de.size+(j - min (i * de.size) us1.length)=j by omega] at this
      exact this
     ·rw [List.getElem?_append_right (by rw [List.length_append,List.length_take]; omega),List.length_append,List.length_take] at q
      have:=cell_set_in (w:=(W0.setCells w.heap.size (i * de.size) us2).drew) (b:=w.heap.size) (o:=(i+rows2.length) * de.size) (us:=us1.drop (i * de.size)) (fun k hk=>exd _ (by rw [List.length_drop] at hk; omega)) q
      rw [show (i+rows2.length) * de.size+(j - (min (i * de.size) us1.length+us2.length))=j by omega] at this
      exact this
   have hTl:∀ x y,T x y→x < w.heap.size:=fun x y q=>RepRows.lt _ _ _ _ _ _ hrr x y q
   have hflat:=ins_flat (w':=W) (rd:=fun j=>W.cell? (ad w.heap.size (0+j))) x1 x3 y1 y3 hl1 p2 hl2 v2' hT2 hi (same3 D h.Dl) (same3 T hTl) (same3 S2 h2l) (fun j u q=>by rw [Nat.zero_add]; exact new j u q)
   have hlen:(rows.take i++rows2++rows.drop i).length=rows.length+rows2.length:=by
    simp only [List.length_append,List.length_take,List.length_drop]
    omega
   refine ⟨_,W,cup (rng w.heap.size 0 (G * de.size)) (cup T S2),hC,rfl,st2,.inr ⟨w.heap.size,0,G,cup T S2,by rw [hlen]; rfl,by rw [hlen]; exact hG,?_,?_,?_,rfl⟩,?_,?_,?_⟩
   ·refine RepRows.of_flat _ 0 _ (by rw [Nat.zero_mul]; exact hflat) (fun r hr=>?_) (fun j _ _=>rfl)
    rcases List.mem_append.1 hr with hr | hr
    ·rcases List.mem_append.1 hr with hr | hr
     ·exact x3 r (List.mem_of_mem_take hr)
     ·exact y3 r hr
    ·exact x3 r (List.mem_of_mem_drop hr)
   ·exact fun j hj=>by rw [Nat.zero_add]; exact ⟨ex2 j hj,fr2 j⟩
   ·exact dj_cup (fun x y q1 q2=>by have:=hTl x y q2; have:=q1.1; omega) (fun x y q1 q2=>by have:=h2l x y q2; have:=q1.1; omega)
   ·exact zU (fun x y q1 q2=>by have:=h.ob.blt x y q2; have:=q1.1; omega) (zU (r_dj h1S) h2S)
   ·exact zU (fun x y q1 q2=>by have:=h.Dl x y q2; have:=q1.1; omega) (zU (r_dj h1D) h2D)
   ·rintro x y (q | q | q)
    ·exact .inr (by rw [q.1]; exact hfs)
    ·exact h10 x y (.inr q)
    ·exact h20 x y q
 ·have he:∃ B k,ux=.slice B rows.length k∧rows.length≤k:=by
   rcases hx with ⟨rfl,q,_⟩ | ⟨b,o',cap,T,rfl,hc,_⟩
   ·obtain rfl:=nilish_own q
    exact ⟨_,_,rfl,Nat.le_refl _⟩
   ·exact ⟨_,_,rfl,hc⟩
  obtain ⟨B,k,rfl,hk⟩:=he
  have app:=fun ty=>append_done (X:=X) h (ty:=ty) (t:=t) (u:=t) ht ht hde hx ⟨_,cap2,rfl,.inr ⟨b2,0,rfl,hy⟩⟩ h12 h1S h2S h1D h2D h2l h10 h20 hsz hby hln (fun r hr x hx=>by
   simp only [qC,List.all_eq_true] at al2
   exact al2 r hr x hx)
  obtain ⟨v,w',S3,r1,r2,r3,r4,r5,r6,r7⟩:=app 0
  have hty:∀ ty,(Builtin.append_ #[t,t] ty #[.slice B rows.length k,.slice (some (ad b2 0)) rows2.length cap2]).run X.P w=.ok v w':=fun ty=>r1
  refine ⟨v,w',S3,?_,r2,r3,?_,r5,r6,r7⟩
  ·rw [heq]
   exact hR.last B rows.length k (some (ad b2 0)) rows2.length cap2 w w' v hm hk hln hty
  ·rw [heq,List.take_length,List.drop_length,List.append_nil]
   exact r4
def evIns (T:Nat→Option TyI) (o2:Oper) (t len:Nat) (ps:List (Nat×Operand)) (tx d1:Nat) (ix:Operand) (e:Env):Option Env:=
 (T t).bind fun d=>match d.kd with
  | .slice el=>(T el).bind fun de=>(e.cl (.tmp tx)).bind fun kx=>(e.take kx).bind fun q=>match q.1 with
   | .list true m rows=>(q.2.rowsOf de.size 0 ps).bind fun l=>(q.2.takes l.flatten).bind fun z=>(z.2.putO (some d1) (.pl (.one .dead))).bind fun e4=>(e4.sc ix).bind fun v=>match v with
    | .int .i64 i =>
     if len=ps.length∧len * de.size≤16777216∧m=de.size∧de.size≠0∧de.bytes≤256∧tx≠d1∧d1 < e.N∧qC rows=true∧qC (chunk de.size len z.1)=true∧0 < len∧0≤i∧i≤rows.length∧rows.length+len≤549755813888 then
      e4.newListO o2 de.size (rows.take i.toNat++chunk de.size len z.1++rows.drop i.toNat) else none
    | _=>none
   | _=>none
  | _=>none
theorem opsV_ins {Post:Exit→Env→Prop} {ops:Array Oper} {o1 o2:Oper} {l:List Oper} {f t len el tx d1:Nat} {ps:Array (Nat×Operand)} {ix:Operand} {ts:Array TypeId} {d de:TyI} {fn:Func}
  (hg1:o1.guard=none) (ho1:o1.op=.buildSlice t len ps) (hd1:o1.dst=some d1) (hg2:o2.guard=none) (ho2:o2.op=.call {callee:=.value (.func f),args:=#[.tmp tx,ix,.tmp d1],argTypes:=ts})
  (hf1 : X.P.funcs[f]? = some fn) (hf2 : fn.body.isSome = true) (hf3 : (fn.name == "runtime.NumGoroutine") = false) (ht : X.T t = some d) (hk : d.kd = .slice el) (hte : X.T el = some de) (hR : InsRaw X.P f t el de.size)
  (he:evIns X.T o2 t len ps.toList tx d1 ix e=some e') (h:opsV X ops l Post e'):opsV X ops (o1 :: o2 :: l) Post e:=fun c a w ⟨D,hs,S,hst⟩=>by
 unfold evIns at he
 rw [ht,Option.bind_some] at he
 simp only [hk] at he
 rw [hte,Option.bind_some] at he
 obtain ⟨kx,h1,he⟩:=zbi he
 obtain ⟨⟨tr,e2⟩,h2,he⟩:=zbi he
 simp only at he
 split at he
 case h_2=>cases he
 rename_i m rows
 obtain ⟨lr,h4,he⟩:=zbi he
 obtain ⟨⟨xs,e3⟩,h5,he⟩:=zbi he
 obtain ⟨e4,h6,he⟩:=zbi he
 obtain ⟨v0,h7,hz⟩:=zbi he
 simp only at hz
 split at hz
 case h_2=>cases hz
 rename_i i
 split at hz
 case isFalse=>cases hz
 rename_i hc
 clear he
 obtain ⟨c1,c2,rfl,c3,c4,c5,c6,c7,c8,c9,c10,c11,c12⟩:=hc
 have hd:=X.hT _ _ ht
 have hde:=X.hT _ _ hte
 have hund:=qK hd hk
 obtain ⟨S1,S',g1,g2,g3,g4,g5,g6,g7,g8,g9⟩:=hst.take h2 (hst.cl h1)
 have hu:=run_underlying hund w
 obtain ⟨zz,hz1,hz2⟩:=hde.zero (w:=w)
 obtain ⟨us,q1,q2,q3,q4,q5⟩:=g2.rowsOf ps.toList 0 lr ((Array.range (len * de.size)).map ((if len * de.size=0 then #[] else zz.cells)[· % (if len * de.size=0 then #[] else zz.cells).size]!)) h4 (by rw [Nat.zero_add,← c1]; simp)
 obtain ⟨T,S'',f1,f2,f3,f4,f5,f6,f7,f8,f9,f10,f11⟩:=StD.takes lr.flatten g2 h5 q2
 have hxl:xs.length=len * de.size:=by rw [f2,q3,c1]
 obtain ⟨k1,k2,k3⟩:=chunk_flat de.size len xs hxl
 have hb:(Instr.buildSlice t len (ps.map fun q=>(q.1,a.eval q.2))).run X.P w=.ok (.slice (some (ad w.heap.size 0)) len len) (w.alloc (.cells us.toArray el)):=by
  unfold Instr.buildSlice
  simp only [Sem.run_bind,hu,Result.andThen_ok,run_size hde]
  rw [if_neg (by omega)]
  by_cases hq:len * de.size=0
  ·simp only [hq,if_true,Sem.run_pure,Result.andThen_ok,Sem.run_bind] at q1 ⊢
   have hr0:Array.range 0 = #[]:=rfl
   simp only [Nat.zero_mul,List.take_zero,List.nil_append,hr0,List.map_toArray,List.map_nil] at q1
   simp only [hr0,List.map_toArray,List.map_nil,Array.toList_map]
   rw [q1]
   simp [newRow,newObj,Sem.run,ad]
  ·simp only [hq,if_false,Sem.run_bind,hz1,Result.andThen_ok,Sem.run_pure] at q1 ⊢
   simp only [Nat.zero_mul,List.take_zero,List.nil_append] at q1
   simp [q1,newRow,newObj,Sem.run,ad]
 have hrun1:(execOp a.eval o1).run X.P w=.ok (.value (.slice (some (ad w.heap.size 0)) len len)) (w.alloc (.cells us.toArray el)):=by
  simp only [execOp,ho1,Sem.run_bind]
  rw [hb]
  rfl
 have hf:=frm_alloc w (.cells us.toArray el)
 have st4:StD c e4 (a.put o1.dst (.slice (some (ad w.heap.size 0)) len len)) (w.alloc (.cells us.toArray el)) D hs S'':=(f4.world hf).putO (s:=.pl (.one .dead)) (by rw [hd1]; exact h6) trivial
 have hsz:a.tmps.size=e.N:=hst.sz
 have ev1:(a.put o1.dst (.slice (some (ad w.heap.size 0)) len len)).eval (.tmp tx)=a.eval (.tmp tx):=by
  rw [hd1]
  simp only [Act.eval,Act.put]
  rw [Array.getD_eq_getD_getElem?,Array.getD_eq_getD_getElem?,Array.getElem?_setIfInBounds_ne (fun z=>c5 z.symm)]
 have ev2:(a.put o1.dst (.slice (some (ad w.heap.size 0)) len len)).eval (.tmp d1)=.slice (some (ad w.heap.size 0)) len len:=by
  rw [hd1]
  simp only [Act.eval,Act.put]
  rw [Array.getD_eq_getD_getElem?,Array.getElem?_setIfInBounds_self_of_lt (by omega)]
  rfl
 have ev3:=(st4.sc h7).1
 have hDb:=hst.Dl
 have hS1b:∀ b o,S1 b o→b < w.heap.size:=fun b o q=>hst.ob.blt b o (g4 b o q)
 have hTb:∀ b o,T b o→b < w.heap.size:=fun b o q=>hst.ob.blt b o (g5 b o (f6 b o q))
 have hx1:Rep (w.alloc (.cells us.toArray el)) D (.list true de.size rows) (a.eval (.tmp tx)) S1:=Rep.frame (zB D) (hf.sameOn (dj_emp D) hDb) _ _ _ g1 (hf.sameOn (dj_emp S1) hS1b)
 have hy1:RepRows (w.alloc (.cells us.toArray el)) D de.size w.heap.size 0 (chunk de.size len xs) 0 T:=by
  refine RepRows.of_flat (rd:=fun k=>us[k]?) _ 0 T ?_ k3 (fun j _ hj=>?_)
  ·rw [Nat.zero_mul,k1]
   exact RepRow.frame (zB D) (hf.sameOn (dj_emp D) hDb) _ _ _ 0 T f1 (hf.sameOn (dj_emp T) hTb) (fun j _ hj=>rfl)
  ·rw [Nat.zero_add,cell_alloc]
   simp
 have hblk:(w.alloc (.cells us.toArray el)).heap[w.heap.size]? = some (.cells us.toArray el (0,0)):=by
  show (w.heap.push (.cells us.toArray el))[w.heap.size]? = _
  exact Array.getElem?_push_size
 have hgr:w.heap.size≤(w.alloc (.cells us.toArray el)).heap.size:=hf.size
 have hin:i.toNat≤rows.length:=by omega
 have hie:i=((i.toNat:Nat):Int):=by omega
 obtain ⟨v,w',S3,r1,r2,r3,r4,r5,r6,r7⟩:=ins_done (cap2:=len) (i:=i.toNat) st4 hR hund hde hx1 hblk hy1 (fun o q=>by have:=hS1b _ _ q; omega) (dj_sub_r g3 f6) (dj_sub_r g3 f7) f5
  (dj_sub hst.dj g4) (dj_sub hst.dj (zQ f6 g5)) (fun b o q=>Nat.lt_of_lt_of_le (hTb b o q) hgr) (fun b o q=>hst.Ss b o (g4 b o q)) (fun b o q=>hst.Ss b o (g5 b o (f6 b o q))) c3 c4 (by rw [k2]; exact c12) c7 c8 hin (by rw [k2]; exact c9)
 rw [k2,← hie] at r1
 refine wpList_plain hg1 (fun K hK=>?_)
 unfold Oper.wp
 rw [hrun1]
 show K (a.put o1.dst (.slice (some (ad w.heap.size 0)) len len)) (w.alloc (.cells us.toArray el))
 refine hK _ _ (wpList_plain hg2 (fun K2 hK2=>?_))
 have hexec:(execOp (a.put o1.dst (.slice (some (ad w.heap.size 0)) len len)).eval o2).run X.P (w.alloc (.cells us.toArray el))=.ok (.enter f #[a.eval (.tmp tx),.int .i64 i,.slice (some (ad w.heap.size 0)) len len]) (w.alloc (.cells us.toArray el)):=by
  have hb2:fn.body.isNone=false:=by cases q:fn.body <;> simp [q] at hf2 ⊢
  have hcl:(a.put o1.dst (.slice (some (ad w.heap.size 0)) len len)).eval (.func f)=.func (.func f) #[] #[]:=rfl
  simp only [execOp,ho2,resolve,hcl,Deferred.ofValue,Sem.run_bind,Sem.run_pure,Result.andThen_ok,invoke,callFunc,run_program,hf1,List.map_toArray,List.map_cons,List.map_nil,ev1,ev2,ev3]
  simp [hf3,hb2]
 unfold Oper.wp
 rw [hexec]
 show Calls X.P f _ (w.alloc (.cells us.toArray el)) _
 refine Calls.mono r1 (fun en w2 hq=>?_)
 obtain ⟨rfl,rfl⟩:=hq
 refine hK2 _ _ (h c _ _ ?_)
 have hob:=r3.obj r4 r5 r6 r7
 exact ⟨D,_,_,hob.putO hz (ref_new (by simp) r2)⟩
end
end Go.TV
namespace Go.TV
def ins1 {α:Type} (l:List α) (i:Int) (x:α):Option (List α):=if 0≤i∧i≤(l.length:Int)∧l.length≤549755813887 then some (l.take i.toNat++[x]++l.drop i.toNat) else none
theorem ins1_f {α:Type} {l t:List α} {i:Int} {x:α} (h:ins1 l i x=some t):((0≤i)=True)∧((i≤(l.length:Int))=True)∧((l.length≤549755813887)=True)∧l.take i.toNat++[x]++l.drop i.toNat=t:=by
 unfold ins1 at h
 split at h
 ·rename_i hc
  injection h with h
  exact ⟨eq_true hc.1,eq_true hc.2.1,eq_true hc.2.2,h⟩
 ·cases h
end Go.TV
