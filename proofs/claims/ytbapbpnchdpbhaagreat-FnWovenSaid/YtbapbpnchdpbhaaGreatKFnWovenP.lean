/- The plain laws. -/
import Derived.Test.YtbapbpnchdpbhaaGreatKFnWovenP0
import Derived.Test.YtbapbpnchdpbhaaGreatKFnWovenD
set_option linter.unusedVariables false
set_option linter.unusedSimpArgs false
set_option maxHeartbeats 8000000
set_option maxRecDepth 100000
namespace Go.TV.F
open Go.TV
theorem index_eq {l:List Int} {v:Int} (hl:l.length≤1000000000):kW l v=some (xX (fun x=>v == x) l):=by
 unfold kW
 rw [qL3 l (fun x=>v == x) (fun k x hx hk=>by
  unfold xE
  rw [ifT (by simpa using hk),zD,hx]
  simp only [Option.bind_some,wkS k (by omega)]
  split <;> rfl) (by
  unfold xE
  rw [ifF (by simp)])]
 by_cases q:xX (fun x=>v == x) l = -1
 ·rw [if_pos q,q]
  rfl
 ·rw [if_neg q]
  rfl
theorem fidx_contains {l:List Int} {v:Int}:(0≤xX (fun x=>v == x) l)↔l.contains v=true:=by
 have h1:=qB3 (fun x=>v == x) l
 have h2:=qA7 (fun x=>v == x) l
 rw [List.contains_iff_mem]
 constructor
 ·intro h
  by_cases hm:v ∈ l
  ·exact hm
  ·have:=h1.2 (fun x hx=>by
    rw [beq_eq_false_iff_ne]
    rintro rfl
    exact hm hx)
   omega
 ·intro h
  have:xX (fun x=>v == x) l≠-1:=fun q=>by
   have:=h1.1 q v h
   simp at this
  omega
theorem erase_fidx {v:Int}:∀ {l:List Int},0≤xX (fun x=>v == x) l→l.take (xX (fun x=>v == x) l).toNat++l.drop ((xX (fun x=>v == x) l).toNat+1)=l.erase v
 | [],h=>by simp [xX] at h
 | x :: l,h=>by
  have h2:=qA7 (fun x=>v == x) l
  unfold xX at h ⊢
  by_cases q:(v == x)=true
  ·rw [if_pos q] at h ⊢
   have:v=x:=by simpa using q
   subst this
   simp
  ·rw [if_neg q] at h ⊢
   split at h
   ·omega
   ·rename_i q2
    rw [if_neg q2]
    have hne:(x == v)=false:=by
     have:¬v=x:=by simpa using q
     simpa using fun e=>this e.symm
    have ht:(xX (fun x=>v == x) l+1).toNat=(xX (fun x=>v == x) l).toNat+1:=by omega
    rw [ht,List.take_succ_cons,List.drop_succ_cons,List.cons_append,erase_fidx (by omega),List.erase_cons,hne]
    rfl
theorem delete_eq {l:List Int} {v:Int} (hl:l.length≤1000000000) (h:0≤xX (fun x=>v == x) l):wP l (xX (fun x=>v == x) l) (wk .i64 (xX (fun x=>v == x) l+1))=some (l.erase v):=by
 have h2:=fidx_lt (fun x=>v == x) l
 unfold wP del1
 rw [if_pos (by omega),zQ (by omega) (by omega),if_pos (by omega),show (xX (fun x=>v == x) l+1).toNat=(xX (fun x=>v == x) l).toNat+1 by omega,erase_fidx h]
theorem markI {o:T_impl_walker} {r:T_impl_Rec} (hl:o.dels.length≤1000000) :
  (∃ o',zF6 o r=some o'∧wW o r=some (true,o'))∨(zF6 o r=none∧∃ o',wW o r=some (false,o')):=by
 unfold wW zF6
 rw [index_eq (by omega),Option.bind_some]
 by_cases k2:(r.Kind == 2)=true
 ·rw [if_pos k2,if_pos k2]
  cases ho:o.open_ with
  | true=>exact .inr ⟨rfl,_,rfl⟩
  | false=>exact .inl ⟨_,rfl,rfl⟩
 rw [if_neg k2,if_neg k2]
 by_cases k3:(r.Kind == 3)=true
 ·rw [if_pos k3,if_pos k3,orO,Option.bind_some]
  cases ho:(!o.open_ || o.ins != r.Version) with
  | true=>exact .inr ⟨rfl,_,rfl⟩
  | false=>exact .inl ⟨_,rfl,rfl⟩
 rw [if_neg k3,if_neg k3]
 have hc:=fidx_contains (l:=o.dels) (v:=r.Version)
 by_cases k4:(r.Kind == 4)=true
 ·rw [if_pos k4,if_pos k4]
  by_cases q:o.dels.contains r.Version=true
  ·rw [if_pos q,if_pos (by simpa using hc.2 q)]
   exact .inr ⟨rfl,_,rfl⟩
  ·rw [if_neg q,if_neg (by simp only [decide_eq_true_eq]; exact fun z=>q (hc.1 z)),zJ (by simp; omega)]
   exact .inl ⟨_,rfl,rfl⟩
 rw [if_neg k4,if_neg k4]
 by_cases k5:(r.Kind == 5)=true
 ·rw [if_pos k5,if_pos k5]
  by_cases q:o.dels.contains r.Version=true
  ·have:=hc.2 q
   rw [if_pos q,if_neg (by simp only [decide_eq_true_eq]; omega),delete_eq (by omega) this]
   exact .inl ⟨_,rfl,rfl⟩
  ·have:¬0≤xX (fun x=>r.Version == x) o.dels:=fun z=>q (hc.1 z)
   rw [if_neg q,if_pos (by simp only [decide_eq_true_eq]; omega)]
   exact .inr ⟨rfl,_,rfl⟩
 rw [if_neg k5,if_neg k5]
 by_cases k1:(r.Kind == 1)=true
 ·rw [if_pos k1,if_pos k1]
  cases ho:o.open_ with
  | true =>
   rw [if_pos rfl]
   refine .inl ⟨_,rfl,?_⟩
   rw [← ho]
  | false=>exact .inr ⟨rfl,_,rfl⟩
 rw [if_neg k1,if_neg k1]
 exact .inr ⟨rfl,_,rfl⟩
theorem markP_len {o o':T_impl_walker} {r:T_impl_Rec} (h:zF6 o r=some o'):o'.dels.length≤o.dels.length+1:=by
 unfold zF6 at h
 have he:(o.dels.erase r.Version).length≤o.dels.length:=List.length_erase_le
 repeat' split at h
 all_goals first
  | (injection h with h; subst h; (try dsimp only); (try simp only [List.length_append,List.length_singleton]); omega)
  | cases h
def FI (n k:Nat) (s:Fst):Prop:=s.o.dels.length≤k∧s.bs.length≤k∧s.born.length=n∧(∀ v,0≤s.born.getD v 0∧s.born.getD v 0≤k)∧∀ b ∈ s.bs,b.Dels.length≤k
noncomputable def frI (g:List (List Int)) (list:List T_impl_Rec):T_impl_Weave×Bool:=
 if (gOk g && decide (list.length≤4000))=true then fromR (fun s=>if (wOk ⟨g,s.bs⟩ && eqQ (xF ⟨g,s.bs⟩) list)=true then (⟨g,s.bs⟩,true) else w00) w00 (uF (xP g.length) list ⟨⟨false,0,[]⟩,List.replicate g.length 0,[]⟩) else w00
theorem sortI_len (l:List Int):(sortI l).length=l.length:=List.length_mergeSort l
theorem fromI_loop {g:List (List Int)} (hg:g.length≤40) {list:List T_impl_Rec} (hl:list.length≤4000) :
  zB (fun (s':Int×(List T_impl_Body)×Bool×Int×(List Int)×(List Int))=>wJ g list s'.1 s'.2.1 s'.2.2.1 s'.2.2.2.1 s'.2.2.2.2.1 s'.2.2.2.2.2) (0,[],false,0,[],List.replicate g.length 0) =
   some (fromR (fun s=>.inr s.bs) (.inl w00) (uF (xP g.length) list ⟨⟨false,0,[]⟩,List.replicate g.length 0,[]⟩))∧∀ s,uF (xP g.length) list ⟨⟨false,0,[]⟩,List.replicate g.length 0,[]⟩=some s→FI g.length list.length s:=by
 change zB _ (((0:Nat):Int),([]:List T_impl_Body),false,(0:Int),([]:List Int),List.replicate g.length (0:Int))=_∧_
 refine run_loop (body:=fun (s':Int×(List T_impl_Body)×Bool×Int×(List Int)×(List Int))=>wJ g list s'.1 s'.2.1 s'.2.2.1 s'.2.2.2.1 s'.2.2.2.2.1 s'.2.2.2.2.2) (fun k (s:Fst)=>((k:Int),s.bs,s.o.open_,s.o.ins,s.o.dels,s.born)) list (xP g.length) (FI g.length) (.inl w00) (fun s=>.inr s.bs) ⟨⟨false,0,[]⟩,List.replicate g.length 0,[]⟩
  ⟨by simp,by simp,by simp,fun v=>by rw [List.getD_eq_getElem?_getD,List.getElem?_replicate]; split <;> simp,fun b hb=>by cases hb⟩ (fun k r s hr hk hI=>?_) (fun s hI=>?_)
 ·obtain ⟨i1,i2,i3,i4,i5⟩:=hI
  simp only [wJ]
  rw [ifT (by simpa using hk),zD,hr,Option.bind_some]
  have hmk:∀ z,z=wW s.o r→wW (T_impl_walker.mk s.o.open_ s.o.ins s.o.dels) (T_impl_Rec.mk r.Kind r.Version r.Line)=z:=fun z e=>e.symm
  rcases markI (o:=s.o) (r:=r) (by omega) with ⟨o',h1,h2⟩ | ⟨h1,o',h2⟩
  ·have hlen:=markP_len h1
   rw [hmk _ h2.symm,Option.bind_some,if_neg (by simp)]
   simp only
   by_cases k1:(r.Kind == 1)=true
   ·have kn:(r.Kind != 1)=false:=by simp only [bne,k1,Bool.not_true]
    rw [if_neg (by rw [kn]; simp),qQ6 (by omega) (by omega),Option.bind_some]
    cases q:(decide (0≤o'.ins) && decide (o'.ins < (g.length:Int))) with
    | false =>
     right
     refine ⟨?_,rfl⟩
     unfold xP
     rw [h1,Option.bind_some,if_pos k1,q]
     rfl
    | true =>
     left
     have q':=q
     simp only [Bool.and_eq_true,decide_eq_true_eq] at q'
     have hb:zF s.born o'.ins=some (s.born.getD o'.ins.toNat 0):=by rw [zC1 q'.1 (by omega),qZ (by omega)]
     have hv:=i4 o'.ins.toNat
     refine ⟨⟨o',s.born.set o'.ins.toNat (s.born.getD o'.ins.toNat 0+1),s.bs++[⟨r.Line,o'.ins,s.born.getD o'.ins.toNat 0,sortI o'.dels⟩]⟩,?_,?_,?_⟩
     ·unfold xP
      rw [h1,Option.bind_some,if_pos k1,q,if_pos rfl]
     ·have hsv:zN9 o'.dels=some o'.dels:=rfl
      have hso:zF4 o'.dels=some (sortI o'.dels):=by unfold zF4; rw [if_pos (by omega)]; rfl
      rw [if_neg (by simp),hb,Option.bind_some,hsv,Option.bind_some,hso,Option.bind_some,zJ (by simp; omega),Option.bind_some,Option.bind_some,zQ (x:=s.born.getD o'.ins.toNat 0+1) (by omega) (by omega),wkS k (by omega)]
     ·refine ⟨by show o'.dels.length≤_; omega,by show (s.bs++[_]).length≤_; rw [List.length_append,List.length_singleton]; omega,by show (s.born.set _ _).length=_; rw [List.length_set]; exact i3,fun v=>?_,fun b hb=>?_⟩
      ·show 0≤(s.born.set o'.ins.toNat (s.born.getD o'.ins.toNat 0+1)).getD v 0∧(s.born.set o'.ins.toNat (s.born.getD o'.ins.toNat 0+1)).getD v 0≤((k+1:Nat):Int)
       rw [qL5]
       have h1:=i4 v
       split <;> omega
      ·rcases List.mem_append.1 hb with hb | hb
       ·have:=i5 b hb
        omega
       ·obtain rfl:=List.mem_singleton.1 hb
        show (sortI o'.dels).length≤_
        rw [sortI_len]
        omega
   ·left
    have kn:(r.Kind != 1)=true:=by simp only [bne]; cases z:(r.Kind == 1) <;> simp_all
    refine ⟨⟨o',s.born,s.bs⟩,?_,?_,?_⟩
    ·unfold xP
     rw [h1,Option.bind_some,if_neg k1]
    ·rw [if_pos kn,wkS k (by omega)]
    ·exact ⟨by show o'.dels.length≤_; omega,by show s.bs.length≤_; omega,i3,fun v=>⟨(i4 v).1,by have:=(i4 v).2; show s.born.getD v 0≤_; omega⟩,fun b hb=>by have:=i5 b hb; omega⟩
  ·right
   rw [hmk _ h2.symm,Option.bind_some,if_pos (by simp)]
   refine ⟨?_,rfl⟩
   unfold xP
   rw [h1]
   rfl
 ·simp only [wJ]
  rw [ifF (by simp)]
theorem fromI_eq {g:List (List Int)} (hl0:g.length≤10000000) {list:List T_impl_Rec} (hl:list.length≤1000000000):zB5 g list=some (frI g list):=by
 unfold zB5 frI
 rw [graphOkI_eq hl0,Option.bind_some]
 have h1:decide ((list.length:Int) > 4000)=!decide (list.length≤4000):=by
  by_cases q:list.length≤4000
  ·simp [q]; omega
  ·simp [q]; omega
 rw [h1,orO,Option.bind_some]
 cases hd:decide (list.length≤4000) with
 | false =>
  cases hg:gOk g <;> rfl
 | true =>
  cases hg:gOk g with
  | false=>rfl
  | true =>
   have hd':=of_decide_eq_true hd
   have hgl:=jH hg
   rw [if_neg (by simp),if_pos (by rfl),copyGraphI (by omega) (gOk_rows hg),Option.bind_some,qD7 (by omega) (by omega),Option.bind_some,show (g.length:Int).toNat=g.length by omega]
   obtain ⟨h2,h3⟩:=fromI_loop hgl hd'
   rw [h2,Option.bind_some]
   cases hr:uF (xP g.length) list ⟨⟨false,0,[]⟩,List.replicate g.length 0,[]⟩ with
   | none=>rfl
   | some s =>
    obtain ⟨i1,i2,i3,i4,i5⟩:=h3 s hr
    show zB4 list g s.bs=some (if (wOk ⟨g,s.bs⟩ && eqQ (xF ⟨g,s.bs⟩) list)=true then (⟨g,s.bs⟩,true) else w00)
    have hsm:delsSm ⟨g,s.bs⟩:=⟨by show s.bs.length≤_; omega,fun b hb=>by have:=i5 b hb; omega⟩
    unfold zB4
    rw [weaveOkI (w:=⟨g,s.bs⟩) (by show g.length≤_; omega) hsm.ok,Option.bind_some]
    cases hw:wOk ⟨g,s.bs⟩ with
    | false=>rfl
    | true =>
     rw [if_neg (by simp),recordsI hsm,Option.bind_some]
     have hlen:(xF ⟨g,s.bs⟩).length≤1000000000:=by
      have h5:=goR_len s.bs (-1) []
      have h6:zE6 s.bs≤s.bs.length * 4000:=sumOf_leK (fun b hb=>by have:=i5 b hb; omega)
      have h7:s.bs.length * 4000≤4000 * 4000:=Nat.mul_le_mul_right _ (by omega)
      show (goR (-1) [] s.bs).length≤_
      simp only [List.length_nil] at h5
      omega
     rw [equalI_eq hlen,Option.bind_some]
     cases eqQ (xF ⟨g,s.bs⟩) list <;> rfl
theorem frI_right {w:T_impl_Weave} (h:WR w) (hn:(xF w).length≤4000):frI w.Parents (xF w)=(w,true):=by
 unfold frI
 rw [if_pos (by rw [h.g]; simpa using hn)]
 obtain ⟨s,h1,h2,_⟩:=goR_run (g:=w.Parents) w.Bodies c0 (-1) [] ⟨false,0,[]⟩ (List.replicate w.Parents.length 0) [] h.o ⟨rfl,fun q=>by omega,List.nodup_nil,fun x=>Iff.rfl⟩ List.nodup_nil (by simp) (fun v hv=>by
  rw [List.getD_eq_getElem?_getD,List.getElem?_replicate,if_pos hv]
  rfl)
 have h1':uF (xP w.Parents.length) (xF w) ⟨⟨false,0,[]⟩,List.replicate w.Parents.length 0,[]⟩=some s:=h1
 rw [h1']
 show (if (wOk ⟨w.Parents,s.bs⟩ && eqQ (xF ⟨w.Parents,s.bs⟩) (xF w))=true then ((⟨w.Parents,s.bs⟩:T_impl_Weave),true) else w00)=_
 rw [h2,List.nil_append,show (⟨w.Parents,w.Bodies⟩:T_impl_Weave)=w from rfl,wOk_iff.2 h,eqQ_iff.2 rfl]
 rfl
end Go.TV.F
namespace Go.TV.F
open Go.TV
structure Kst where
 o:T_impl_walker
 out:List ByteArray
end Go.TV.F
namespace Go.TV.F
open Go.TV
theorem qR1 {l:List Int} (hl:l.length≤1000000000):zJ3 l l=some true:=by
 unfold zJ3
 rw [ifF (by simp),all_loopL (body:=fun (s':Int)=>zC2 l l s') (bad:=false) l (fun _=>true) (fun k x hx hk=>by
  simp only [zC2]
  rw [ifT (by simpa using hk),zD,hx,Option.bind_some,Option.bind_some,ifF (by simp),wkS k (by omega)]
  rfl) (by
  simp only [zC2]
  rw [ifF (by simp)]),if_pos (List.all_eq_true.2 (fun _ _=>rfl))]
 rfl
theorem WR.dlen {w:T_impl_Weave} (h:WR w):∀ b ∈ w.Bodies,b.Dels.length≤40:=fun b hb=>by
 have hst:=zW7 h.o b hb
 have hgl:=jH h.g
 have hrise:jW b.Dels w.Parents.length=true:=by
  unfold stat at hst
  simp only [Bool.and_eq_true] at hst
  exact hst.1.2
 have:=qP7 (n:=w.Parents.length) hrise
 omega
theorem WR.dsm {w:T_impl_Weave} (h:WR w):delsSm w:=⟨by have:=h.n; omega,fun b hb=>by have:=h.dlen b hb; omega⟩
theorem sameWeave_self {w:T_impl_Weave} (h:WR w):zG8 w w=some true:=by
 have hn:=h.n
 have hgl:=jH h.g
 unfold zG8
 rw [ifF (by simp),Option.bind_some,ifF (by simp),all_loopL (body:=fun (s':Int)=>zA8 w w s') (bad:=false) w.Parents (fun _=>true) (fun k x hx hk=>by
  simp only [zA8]
  have:=gOk_rows h.g x (List.mem_of_getElem? hx)
  rw [ifT (by simpa using hk),zD,hx,Option.bind_some,Option.bind_some,qR1 (by omega),Option.bind_some,ifF (by simp),wkS k (by omega)]
  rfl) (by
  simp only [zA8]
  rw [ifF (by simp)]),if_pos (List.all_eq_true.2 (fun _ _=>rfl)),Option.bind_some]
 show zF2 w w=_
 unfold zF2
 rw [all_loopL (body:=fun (s':Int)=>zA7 w w s') (bad:=false) w.Bodies (fun _=>true) (fun k x hx hk=>by
  simp only [zA7]
  have:=h.dlen x (List.mem_of_getElem? hx)
  rw [ifT (by simpa using hk),zD,hx]
  simp only [Option.bind_some]
  rw [qR1 (by omega),wkS k (by omega)]
  simp) (by
  simp only [zA7]
  rw [ifF (by simp)]),if_pos (List.all_eq_true.2 (fun _ _=>rfl))]
 rfl
theorem FromR {w:T_impl_Weave} (h:WR w) (hn:(xF w).length≤4000):zB5 w.Parents (xF w)=some (w,true):=by
 have hgl:=jH h.g
 rw [fromI_eq (by omega) (by omega),frI_right h hn]
end Go.TV.F
namespace Go.TV.F
open Go.TV
theorem qR8 {σ τ ρ κ:Type} {f:σ→Option (σ⊕ρ)} {g:τ→Option (τ⊕κ)} (R:σ→τ→Prop) (m:σ→Nat) (Q:ρ→κ→Prop) {s:σ} {t:τ} (h0:R s t)
  (h:∀ s t,R s t→(∃ s' t',f s=some (.inl s')∧g t=some (.inl t')∧R s' t'∧m s' < m s)∨∃ r r',f s=some (.inr r)∧g t=some (.inr r')∧Q r r') :
  ∃ r r',zB f s=some r∧zB g t=some r'∧Q r r':=by
 have key:∀ n s t,R s t→m s=n→∃ r r',zB f s=some r∧zB g t=some r'∧Q r r':=by
  intro n
  induction n using Nat.strongRecOn with
  | _ n ih =>
   intro s t hs hm
   rw [zX f,zX g]
   rcases h s t hs with ⟨s',t',h1,h2,h3,h4⟩ | ⟨r,r',h1,h2,h3⟩
   ·rw [h1,h2]
    exact ih (m s') (by omega) s' t' h3 rfl
   ·rw [h1,h2]
    exact ⟨r,r',rfl,rfl,h3⟩
 exact key _ s t h0 rfl
theorem and32 {a b:Nat} (ha:a < 2 ^ 32) (hb:b < 2 ^ 32):bits .and .u32 a b=((a &&& b:Nat):Int):=(bits_nat .u32 32 (by decide) (fun n h0 h1=>wku32 h0 (by simpa using h1)) a b ha hb).1
theorem qO9 (a b:Nat):((a:Int)).tmod (b:Int)=((a % b:Nat):Int):=by
 rw [Int.tmod_eq_emod_of_nonneg (by omega)]
 rfl
theorem tdiv_nat (a b:Nat):((a:Int)).tdiv (b:Int)=((a / b:Nat):Int):=by
 rw [Int.tdiv_eq_ediv_of_nonneg (by omega)]
 rfl
theorem shr32_1 (a:Nat):vO .u32 (a:Int) 1=((a / 2:Nat):Int):=by
 unfold vO
 simp [IntKind.bits]
def zT8 (x:Int):Prop:=0≤x∧x < 4294967296
theorem sum_l2 {x k:Int} (hx:zT8 x):yQ x k=xN x k:=by
 obtain ⟨n,rfl⟩:∃ n:Nat,x=n:=⟨x.toNat,by have:=hx.1; omega⟩
 have hn:n < 2 ^ 32:=by have:=hx.2; omega
 unfold yQ xN
 have e1:bits .and .u32 (n:Int) 1=((n:Int)).tmod 2:=by
  rw [show ((1:Int))=((1:Nat):Int) from rfl,and32 hn (by decide),show ((2:Int))=((2:Nat):Int) from rfl,qO9,Nat.and_one_is_mod]
 have e2:wk .u32 (((n:Int)).tdiv 2)=vO .u32 (n:Int) 1:=by
  rw [shr32_1,show ((2:Int))=((2:Nat):Int) from rfl,tdiv_nat,wku32 (by omega) (by omega)]
 rw [e1,e2]
theorem w32_xor (x y:Int):zT8 (bits .xor .u32 x y):=by
 unfold zT8
 show 0≤wk .u32 _∧wk .u32 _ < _
 rw [wku32_mod]
 omega
theorem w32_shr {x:Int} (hx:zT8 x):zT8 (vO .u32 x 1):=by
 obtain ⟨n,rfl⟩:∃ n:Nat,x=n:=⟨x.toNat,by have:=hx.1; omega⟩
 have:=hx.2
 rw [shr32_1]
 constructor <;> omega
theorem sum_inner {x:Int} (hx:zT8 x):∃ r,zB (fun (s':Int×Int)=>yQ s'.1 s'.2) (x,0)=some r∧zB (fun (s':Int×Int)=>xN s'.1 s'.2) (x,0)=some r∧zT8 r:=by
 obtain ⟨r,r',h1,h2,h3,h4⟩:=qR8 (f:=fun (s':Int×Int)=>yQ s'.1 s'.2) (g:=fun (s':Int×Int)=>xN s'.1 s'.2) (fun s t=>s=t∧zT8 s.1∧0≤s.2∧s.2≤8) (fun s=>(8 - s.2).toNat) (fun r r'=>r=r'∧zT8 r)
  (s:=(x,0)) (t:=(x,0)) ⟨rfl,hx,by simp,by simp⟩ (fun s t hs=>by
  obtain ⟨v,k⟩:=s
  obtain ⟨rfl,hv,h0,h8⟩:=hs
  simp only at hv h0 h8 ⊢
  rw [← sum_l2 hv]
  unfold yQ
  by_cases q:k < 8
  ·rw [ifT (by simpa using q),zQ (x:=k+1) (by omega) (by omega)]
   split
   ·exact .inl ⟨_,_,rfl,rfl,⟨rfl,w32_xor _ _,by simp only; omega,by simp only; omega⟩,by simp only; omega⟩
   ·exact .inl ⟨_,_,rfl,rfl,⟨rfl,w32_shr hv,by simp only; omega,by simp only; omega⟩,by simp only; omega⟩
  ·rw [ifF (by simpa using q)]
   exact .inr ⟨_,_,rfl,rfl,rfl,hv⟩)
 subst h3
 exact ⟨r,h1,h2,h4⟩
theorem sidx_in {s:ByteArray} {k:Nat} (h:k < s.size):∃ b:Nat,sidx s (k:Int)=some (b:Int)∧b < 256:=by
 unfold sidx
 rw [if_neg (by omega),Int.toNat_natCast,if_pos h]
 exact ⟨_,rfl,UInt8.toNat_lt _⟩
theorem sumMore_eq {x:Int} (hx:zT8 x) {text:ByteArray} (ht:text.size≤1000000000):∃ r,zV0 x text=some r∧zP0 x text=some r∧zT8 r:=by
 unfold zV0 zP0
 obtain ⟨r,r',h1,h2,h3,h4⟩:=qR8 (f:=fun (s':Int×Int)=>zL2 text s'.1 s'.2) (g:=fun (s':Int×Int)=>kG text s'.1 s'.2) (fun s t=>s=t∧zT8 s.1∧0≤s.2∧s.2≤text.size) (fun s=>(text.size - s.2).toNat) (fun r r'=>r=r'∧zT8 r)
  (s:=(x,0)) (t:=(x,0)) ⟨rfl,hx,by simp,by simp⟩ (fun s t hs=>by
  obtain ⟨v,k⟩:=s
  obtain ⟨rfl,hv,h0,h8⟩:=hs
  simp only at hv h0 h8 ⊢
  obtain ⟨k,rfl⟩:∃ n:Nat,k=n:=⟨k.toNat,by omega⟩
  unfold zL2 kG
  by_cases q:k < text.size
  ·rw [ifT (by simpa using q),ifT (by simpa using q)]
   obtain ⟨b,hb,_⟩:=sidx_in q
   rw [hb,Option.bind_some,Option.bind_some]
   obtain ⟨z,g1,g2,g3⟩:=sum_inner (w32_xor v (wk .u32 (b:Int)))
   rw [g1,g2,Option.bind_some,Option.bind_some]
   unfold zT6 zK3
   rw [zQ (by omega) (by omega)]
   exact .inl ⟨_,_,rfl,rfl,⟨rfl,g3,by simp only; omega,by simp only; omega⟩,by simp only; omega⟩
  ·rw [ifF (by simpa using q),ifF (by simpa using q)]
   exact .inr ⟨_,_,rfl,rfl,rfl,hv⟩)
 subst h3
 rw [h1,h2]
 exact ⟨r,rfl,rfl,h4⟩
theorem sumOf_eq {text:ByteArray} (ht:text.size≤1000000000):∃ r,zP5 text=some r∧wN text=some r∧zT8 r:=by
 obtain ⟨r,h1,h2,h3⟩:=sumMore_eq (x:=4294967295) ⟨by decide,by decide⟩ ht
 refine ⟨r,?_,?_,h3⟩
 ·unfold zP5
  rw [h1]
  rfl
 ·unfold wN
  rw [h2]
  rfl
end Go.TV.F
namespace Go.TV.F
open Go.TV
theorem subL_in {s:ByteArray} {lo:Int} (h0:0≤lo) (h:lo≤s.size):subL s lo=some (s.extract lo.toNat s.size):=by
 unfold subL
 rw [if_neg (by omega),if_pos (by omega)]
theorem subH_in {s:ByteArray} {hi:Int} (h0:0≤hi) (h:hi≤s.size):subH s hi=some (s.extract 0 hi.toNat):=by
 unfold subH
 rw [if_neg (by omega),if_pos (by omega)]
theorem sub2_in {s:ByteArray} {lo hi:Int} (h0:0≤lo) (h1:lo≤hi) (h:hi≤s.size):sub2 s lo hi=some (s.extract lo.toNat hi.toNat):=by
 unfold sub2
 rw [if_neg (by omega),if_neg (by omega),if_pos (by omega)]
theorem unsealed_eq {text:ByteArray} (ht:text.size≤1000000000):∃ t ok,zI6 text=some (t,ok)∧zY6 text=some (t,ok)∧t.size≤60000:=by
 unfold zI6 zY6
 rw [zQ (x:=(text.size:Int) - 4) (by omega) (by omega)]
 by_cases q:(text.size:Int) - 4 < 0
 ·rw [ifT (by simpa using q)]
  exact ⟨_,_,rfl,rfl,by decide⟩
 rw [ifF (by simpa using q)]
 simp only [Option.bind_some]
 by_cases q2:(text.size:Int) - 4 > 60000
 ·have q2':decide ((text.size:Int) - 4 > 60000)=true:=by simpa using q2
  rw [q2']
  exact ⟨_,_,rfl,rfl,by decide⟩
 have q2':decide ((text.size:Int) - 4 > 60000)=false:=by simpa using q2
 rw [q2']
 simp only [Bool.false_eq_true,if_false]
 rw [subL_in (by omega) (by omega),subH_in (by omega) (by omega)]
 simp only [Option.bind_some]
 have hsz:(text.extract 0 ((text.size:Int) - 4).toNat).size≤60000:=by
  rw [ByteArray.size_extract]
  omega
 obtain ⟨r,h1,h2,h3⟩:=sumOf_eq (text:=text.extract 0 ((text.size:Int) - 4).toNat) (by omega)
 unfold uX uW
 rw [h1,h2]
 simp only [Option.bind_some]
 generalize mkS _=u
 generalize text.extract ((text.size:Int) - 4).toNat text.size=v
 have e:(!(u.toList == v.toList))=(!(v.toList == u.toList)):=by
  rw [Bool.beq_comm]
 rw [e]
 split
 ·exact ⟨_,_,rfl,rfl,by decide⟩
 ·exact ⟨_,_,rfl,rfl,hsz⟩
end Go.TV.F
namespace Go.TV.F
open Go.TV
def kK (n:Nat):List Nat:=if h:n≤127 then [n] else (n % 128+128) :: kK (n / 128)
termination_by n
decreasing_by omega
def yV:List Nat→Nat
 | []=>0
 | c :: l=>c % 128+128 * yV l
theorem qA8 {n:Nat} (h:n≤127):kK n=[n]:=by rw [kK,dif_pos h]
theorem qJ2 {n:Nat} (h:¬n≤127):kK n=(n % 128+128) :: kK (n / 128):=by rw [kK,dif_neg h]
theorem valL_enc:∀ n:Nat,yV (kK n)=n:=by
 intro n
 induction n using Nat.strongRecOn with
 | _ n ih =>
  by_cases h:n≤127
  ·rw [qA8 h]
   simp only [yV]
   omega
  ·rw [qJ2 h,yV,ih (n / 128) (by omega)]
   omega
theorem valL_snoc (l:List Nat) (c:Nat):yV (l++[c])=yV l+c % 128 * 128 ^ l.length:=by
 induction l with
 | nil=>simp [yV]
 | cons x l ih =>
  rw [List.cons_append,yV,ih,yV,List.length_cons,Nat.pow_succ,Nat.mul_add]
  have:128 * (c % 128 * 128 ^ l.length)=c % 128 * (128 ^ l.length * 128):=by
   rw [Nat.mul_comm,Nat.mul_assoc]
  omega
theorem valL_lt (l:List Nat):yV l < 128 ^ l.length:=by
 induction l with
 | nil=>simp [yV]
 | cons x l ih =>
  rw [yV,List.length_cons,Nat.pow_succ]
  omega
theorem enc_last0:∀ (n:Nat) (l:List Nat),kK n=l++[0]→l=[]:=by
 intro n
 induction n using Nat.strongRecOn with
 | _ n ih =>
  intro l h
  by_cases q:n≤127
  ·rw [qA8 q] at h
   cases l with
   | nil=>rfl
   | cons x l =>
    have:=congrArg List.length h
    simp at this
  ·rw [qJ2 q] at h
   cases l with
   | nil=>rfl
   | cons x l =>
    rw [List.cons_append] at h
    injection h with h1 h2
    have e:=ih (n / 128) (by omega) l h2
    subst e
    have:=congrArg yV h2
    rw [valL_enc] at this
    simp only [List.nil_append,yV] at this
    omega
theorem encL_byte:∀ (n:Nat) (x:Nat),x ∈ kK n→x < 256:=by
 intro n
 induction n using Nat.strongRecOn with
 | _ n ih =>
  intro x hx
  by_cases q:n≤127
  ·rw [qA8 q] at hx
   simp at hx
   omega
  ·rw [qJ2 q] at hx
   rcases List.mem_cons.1 hx with rfl | h
   ·omega
   ·exact ih (n / 128) (by omega) x h
end Go.TV.F
namespace Go.TV.F
open Go.TV
def encS (n:Nat):ByteArray:=mkS ((kK n).map fun x:Nat=>(x:Int))
theorem qB2 (n:Nat):nb (encS n)=kK n:=nb_mkS (encL_byte n)
end Go.TV.F
namespace Go.TV.F
open Go.TV
end Go.TV.F
namespace Go.TV.F
open Go.TV
def seg (text:ByteArray) (a b:Nat):List Nat:=((nb text).drop a).take (b - a)
theorem seg_self (text:ByteArray) (a:Nat):seg text a a=[]:=by simp [seg]
theorem seg_app {text:ByteArray} {a b c:Nat} (h1:a≤b) (h2:b≤c):seg text a b++seg text b c=seg text a c:=by
 unfold seg
 rw [show c - a=(b - a)+(c - b) by omega,List.take_add,List.drop_drop]
 congr 3
 omega
structure Sim (text:ByteArray) (s:T_impl_scanner) (c:T_spec_l08Cur):Prop where
 st:s.text=text
 ct:c.text=text
 bad:s.bad=c.bad
 at_:∃ a b:Nat,s.at_=a∧c.at_=b∧a≤text.size∧b≤text.size∧(s.bad=false→a=b)
def Rd (text:ByteArray) (s s':T_impl_scanner) (l:List Nat):Prop:=∃ a b:Nat,s.at_=a∧s'.at_=b∧a≤b∧b≤text.size∧seg text a b=l
theorem Rd.trans {text:ByteArray} {s1 s2 s3:T_impl_scanner} {l m:List Nat} (h:Rd text s1 s2 l) (k:Rd text s2 s3 m):Rd text s1 s3 (l++m):=by
 obtain ⟨a,b,h1,h2,h3,h4,h5⟩:=h
 obtain ⟨b',c,k1,k2,k3,k4,k5⟩:=k
 have:b=b':=by omega
 subst this
 exact ⟨a,c,h1,k2,by omega,k4,by rw [← seg_app h3 k3,h5,k5]⟩
theorem Rd.refl {text:ByteArray} {s:T_impl_scanner} {a:Nat} (h:s.at_=a) (h2:a≤text.size):Rd text s s []:=⟨a,a,h,h,Nat.le_refl _,h2,seg_self text a⟩
section
variable {text:ByteArray} (ht:text.size≤60000)
end
end Go.TV.F
namespace Go.TV.F
open Go.TV
end Go.TV.F
namespace Go.TV.F
open Go.TV
theorem loopM_inv {σ ρ:Type} {f:σ→Option (σ⊕ρ)} (I:σ→Prop) (m:σ→Nat) (Q:ρ→Prop) {s:σ} (h0:I s)
  (h:∀ s,I s→(∃ s',f s=some (.inl s')∧I s'∧m s' < m s)∨∃ r,f s=some (.inr r)∧Q r):∃ r,zB f s=some r∧Q r:=by
 have key:∀ n s,I s→m s=n→∃ r,zB f s=some r∧Q r:=by
  intro n
  induction n using Nat.strongRecOn with
  | _ n ih =>
   intro s hs hm
   rw [zX f]
   rcases h s hs with ⟨s',h1,h2,h3⟩ | ⟨r,h1,h2⟩
   ·rw [h1]
    exact ih (m s') (by omega) s' h2 rfl
   ·rw [h1]
    exact ⟨r,rfl,h2⟩
 exact key _ s h0 rfl
def BB:Nat:=1000000000000000
end Go.TV.F
namespace Go.TV.F
open Go.TV
theorem qG4 (s:ByteArray):ByteArray.mk #[]++s=s:=by
 apply ByteArray.ext
 rw [ByteArray.data_append]
 simp
theorem app_empty (s:ByteArray):s++ByteArray.mk #[]=s:=by
 apply ByteArray.ext
 rw [ByteArray.data_append]
 simp
theorem app_assoc (s t u:ByteArray):s++t++u=s++(t++u):=by
 apply ByteArray.ext
 simp only [ByteArray.data_append,Array.append_assoc]
def cat:List ByteArray→ByteArray
 | []=>ByteArray.mk #[]
 | s :: l=>s++cat l
theorem cat_app (l m:List ByteArray):cat (l++m)=cat l++cat m:=by
 induction l with
 | nil=>simp [cat,qG4]
 | cons s l ih=>simp [cat,ih,app_assoc]
theorem cat_one (s:ByteArray):cat [s]=s:=by simp [cat,app_empty]
theorem qA1 {l:List ByteArray} {M:Nat} (h:∀ x ∈ l,x.size≤M):(cat l).size≤l.length * M:=by
 induction l with
 | nil=>exact Nat.zero_le _
 | cons s l ih =>
  have h1:=h s (by simp)
  have h2:=ih (fun x hx=>h x (by simp [hx]))
  simp only [cat,ByteArray.size_append,List.length_cons,Nat.add_mul]
  omega
theorem cat_take {α:Type} {l:List α} {f:α→ByteArray} {k:Nat} (hk:k < l.length):cat ((l.take (k+1)).map f)=cat ((l.take k).map f)++f l[k]:=by
 rw [List.take_add_one,List.getElem?_eq_getElem hk,List.map_append,cat_app]
 simp only [Option.toList_some,List.map_cons,List.map_nil,cat_one]
theorem qN5 {α:Type} {l:List α} {f:α→ByteArray} {M:Nat} {body:Int×ByteArray→Option ((Int×ByteArray)⊕ByteArray)} {b0:ByteArray} (hb:b0.size+l.length * M≤400000000) (hf:∀ x ∈ l,(f x).size≤M)
  (hs:∀ (i:Nat) (x:α) (b:ByteArray),l[i]? = some x→x ∈ l→b.size+M≤400000000→body ((i:Int),b)=some (.inl (((i+1:Nat):Int),b++f x)))
  (he:∀ b:ByteArray,body ((l.length:Int),b)=some (.inr b)):zB body (0,b0)=some (b0++cat (l.map f)):=by
 have h0:(0,b0)=((((0:Nat):Int),b0++cat ((l.take 0).map f)):Int×ByteArray):=by simp [cat,app_empty]
 rw [h0]
 refine zC8 (fun k=>((k:Int),b0++cat ((l.take k).map f))) l.length (fun k hk=>?_) (by rw [he,List.take_length])
 have hsz:(cat ((l.take k).map f)).size≤k * M:=by
  have:=qA1 (l:=(l.take k).map f) (M:=M) (fun x hx=>by
   obtain ⟨y,hy,rfl⟩:=List.mem_map.1 hx
   exact hf y (List.mem_of_mem_take hy))
  rw [List.length_map,List.length_take,Nat.min_eq_left (by omega)] at this
  exact this
 have hkM:(k+1) * M≤l.length * M:=Nat.mul_le_mul_right _ hk
 rw [Nat.add_mul,Nat.one_mul] at hkM
 rw [hs k l[k] _ (List.getElem?_eq_getElem hk) (List.getElem_mem hk) (by rw [ByteArray.size_append]; omega),cat_take hk,app_assoc]
theorem encL_len5:∀ (k n:Nat),n < 128 ^ (k+1)→(kK n).length≤k+1
 | 0,n,h=>by rw [qA8 (by simpa using Nat.le_of_lt_succ h)]; simp
 | k+1,n,h=>by
  by_cases q:n≤127
  ·rw [qA8 q]
   simp
  ·rw [qJ2 q]
   have:=encL_len5 k (n / 128) (by rw [Nat.pow_succ] at h; exact Nat.div_lt_of_lt_mul (by rw [Nat.mul_comm]; exact h))
   simp
   exact this
theorem zA9 {n:Nat} (h:n≤1000000000):(encS n).size≤5:=by
 rw [← xL,qB2]
 exact encL_len5 4 n (by omega)
theorem var_loopI:∀ (n:Nat) (out:List Int),out.length+n≤68719476736→∃ (c:Int) (o:List Int),zB (fun (s':Int×(List Int))=>zL3 s'.1 s'.2) ((n:Int),out)=some (c,o)∧0≤c∧c≤127∧o++[c]=out++(kK n).map (fun x:Nat=>(x:Int))∧o.length≤68719476736:=by
 intro n
 induction n using Nat.strongRecOn with
 | _ n ih =>
  intro out h
  rw [zX]
  simp only [zL3]
  by_cases q:n≤127
  ·rw [ifF (by simp; omega)]
   refine ⟨_,_,rfl,by omega,by omega,?_,by omega⟩
   rw [qA8 q]
   rfl
  ·rw [ifT (by simp; omega),show (128:Int)=((128:Nat):Int) from rfl,qO9,tdiv_nat,zQ (x:=((128:Nat):Int)+((n % 128:Nat):Int)) (by omega) (by omega),wku8 (by omega) (by omega),zJ (by simp; omega)]
   simp only [Option.bind_some,List.append_eq]
   rw [zQ (x:=((n / 128:Nat):Int)) (by omega) (by omega)]
   obtain ⟨c,o,h1,h2,h3,h4,h5⟩:=ih (n / 128) (by omega) (out++[((128:Nat):Int)+((n % 128:Nat):Int)]) (by simp; omega)
   refine ⟨c,o,h1,h2,h3,?_,h5⟩
   rw [h4,qJ2 q]
   simp
   omega
theorem zW6 {n:Nat} (h:n≤34359738368):yY (n:Int)=some (encS n):=by
 unfold yY
 obtain ⟨c,o,h1,h2,h3,h4,h5⟩:=var_loopI n [] (by simp; omega)
 rw [h1]
 simp only [Option.bind_some]
 unfold zS7
 rw [wku8 h2 (by omega),zJ (by simp; omega),Option.bind_some,h4]
 rfl
def shS (s:ByteArray):ByteArray:=encS s.size++s
theorem shS_size {s:ByteArray} (h:s.size≤1000000000):(shS s).size≤5+s.size:=by
 have:=zA9 h
 unfold shS
 rw [ByteArray.size_append]
 omega
theorem shortI_eq {s:ByteArray} (h:s.size≤1000000000):zN8 s=some (shS s):=by
 have:=zA9 h
 unfold zN8
 rw [zW6 (by omega),Option.bind_some,qB1 (by omega)]
 rfl
theorem qF9 {b x:ByteArray} (h:b.size+x.size≤549755813888):zP b x=some (b++x):=by
 unfold zP
 rw [if_pos h]
end Go.TV.F
namespace Go.TV.F
open Go.TV
def At (text:ByteArray) (a:Nat) (l:List Nat):Prop:=a≤text.size∧∃ r,(nb text).drop a=l++r
theorem At.len {text:ByteArray} {a:Nat} {l:List Nat} (h:At text a l):a+l.length≤text.size:=by
 obtain ⟨h0,r,h⟩:=h
 have:=congrArg List.length h
 rw [List.length_drop,List.length_append,xL] at this
 omega
theorem At.app {text:ByteArray} {a:Nat} {l m:List Nat} (h:At text a (l++m)):At text a l∧At text (a+l.length) m:=by
 have hl:=h.len
 rw [List.length_append] at hl
 obtain ⟨h0,r,h⟩:=h
 refine ⟨⟨h0,m++r,by rw [h,List.append_assoc]⟩,by omega,r,?_⟩
 rw [← List.drop_drop,h,List.append_assoc,List.drop_left]
theorem At.get {text:ByteArray} {a:Nat} {l:List Nat} (h:At text a l) {k:Nat} (hk:k < l.length):(nb text)[a+k]? = some l[k]:=by
 obtain ⟨h0,r,h⟩:=h
 rw [← List.getElem?_drop,h,List.getElem?_append_left hk,List.getElem?_eq_getElem hk]
theorem At.take {text:ByteArray} {a:Nat} {l:List Nat} (h:At text a l):nb (text.extract a (a+l.length))=l:=by
 obtain ⟨h0,r,h⟩:=h
 rw [qE4,h,Nat.add_sub_cancel_left,List.take_left]
theorem encL_split:∀ n:Nat,∃ l c,kK n=l++[c]∧c < 128∧(∀ x ∈ l,128≤x∧x < 256)∧(c=0→l=[]):=by
 intro n
 have hx:∃ l c,kK n=l++[c]∧c < 128∧(∀ x ∈ l,128≤x∧x < 256):=by
  induction n using Nat.strongRecOn with
  | _ n ih =>
   by_cases q:n≤127
   ·exact ⟨[],n,by rw [qA8 q]; rfl,by omega,fun x hx=>by cases hx⟩
   ·obtain ⟨l,c,h1,h2,h3⟩:=ih (n / 128) (by omega)
    refine ⟨(n % 128+128) :: l,c,by rw [qJ2 q,h1]; rfl,h2,fun x hx=>?_⟩
    rcases List.mem_cons.1 hx with rfl | hx
    ·omega
    ·exact h3 x hx
 obtain ⟨l,c,h1,h2,h3⟩:=hx
 refine ⟨l,c,h1,h2,h3,fun h0=>?_⟩
 subst h0
 exact enc_last0 n l h1
theorem readVar_run {text:ByteArray} (ht:text.size≤1000000000) {a n:Nat} (hn:n≤1000000000) (h:At text a (kK n)):zV1 text (a:Int)=some ((n:Int),((a+(kK n).length:Nat):Int),true):=by
 obtain ⟨l,c,he,hc,hl,h0⟩:=encL_split n
 have h5:(kK n).length≤5:=encL_len5 4 n (by omega)
 have hv:n=yV (l++[c]):=by rw [← he,valL_enc]
 have hlen:=h.len
 have hl4:l.length≤4:=by rw [he] at h5; simp at h5; exact h5
 have hll:(kK n).length=l.length+1:=by rw [he]; simp
 have hgl:∀ k (hk:k < l.length),(nb text)[a+k]? = some l[k]:=fun k hk=>by
  rw [h.get (by omega)]
  simp only [he,List.getElem_append_left hk]
 have hgc:(nb text)[a+l.length]? = some c:=by
  rw [h.get (by omega)]
  simp only [he,List.getElem_concat_length]
 unfold zV1
 rw [ifF (by simp)]
 simp only [Option.bind_some]
 rw [ifF (by simp; omega)]
 have step:∀ k,k≤l.length→∀ b,(nb text)[a+k]? = some b→∃ M,M=b % 128 * 128 ^ k∧M≤127 * 268435456∧yV (l.take k)+M≤34359738368∧yN text (a:Int) ((yV (l.take k):Nat):Int) ((128 ^ k:Nat):Int) (k:Int)=(if b≥128 then some (.inl (((yV (l.take k)+M:Nat):Int),((128 ^ (k+1):Nat):Int),((k+1:Nat):Int))) else if (b=0∧k > 0)∨yV (l.take k)+M > 1000000000 then some (.inr (.inl (0,0,false))) else some (.inr (.inl (((yV (l.take k)+M:Nat):Int),((a+(k+1):Nat):Int),true)))):=fun k hk b hb=>by
  have hpw:128 ^ k≤128 ^ 4:=Nat.pow_le_pow_right (by omega) (by omega)
  have hpw':128 ^ k≤268435456:=by simpa using hpw
  have hval:=valL_lt (l.take k)
  rw [List.length_take,Nat.min_eq_left hk] at hval
  have hmul:b % 128 * 128 ^ k≤127 * 268435456:=Nat.mul_le_mul (by omega) hpw'
  obtain ⟨M,hM⟩:∃ M,M=b % 128 * 128 ^ k:=⟨_,rfl⟩
  rw [← hM] at hmul
  refine ⟨M,hM,hmul,by omega,?_⟩
  have hks:a+k < text.size:=by have:=(List.getElem?_eq_some_iff.1 hb).1; rw [xL] at this; exact this
  obtain ⟨b',g1,g2,g3⟩:=sidx_nb hks
  have:b'=b:=by rw [hb] at g2; exact (zso g2).symm
  subst this
  unfold yN
  have e1:wk .i64 ((a:Int)+(k:Int))=((a+k:Nat):Int):=by rw [zQ (by omega) (by omega)]; omega
  have hbw:wk .i64 (b':Int)=(b':Int):=zQ (by omega) (by omega)
  have e3:wk .i64 (((b':Int)).tmod 128 * ((128 ^ k:Nat):Int))=(M:Int):=by
   rw [show (128:Int)=((128:Nat):Int) from rfl,qO9,← Int.natCast_mul,← hM,zQ (by omega) (by omega)]
  have e4:wk .i64 (((yV (l.take k):Nat):Int)+(M:Int))=((yV (l.take k)+M:Nat):Int):=by
   rw [zQ (by omega) (by omega)]
   omega
  have e5:wk .i64 (((128 ^ k:Nat):Int) * 128)=((128 ^ (k+1):Nat):Int):=by
   rw [zQ (by omega) (by omega),Nat.pow_succ]
   omega
  have e6:wk .i64 ((k:Int)+1)=((k+1:Nat):Int):=by rw [zQ (by omega) (by omega)]; omega
  have e7:wk .i64 (((a+k:Nat):Int)+1)=((a+(k+1):Nat):Int):=by rw [zQ (by omega) (by omega)]; omega
  rw [e1]
  have c1:(if decide ((k:Int) < 5)=true then some (decide (((a+k:Nat):Int) < (text.size:Int))) else some false)=some true:=by
   rw [ifT (by simp; omega)]
   congr 1
   simp
   omega
  rw [c1]
  simp only [Option.bind_some,if_true,g1,hbw,e3,e4,e5,e6,e7]
  by_cases qb:b'≥128
  ·rw [ifT (decide_eq_true (by omega)),if_pos qb]
  ·rw [ifF (decide_eq_false (by omega)),if_neg qb]
   have d2:(if ((b':Int) == 0)=true then some (decide ((k:Int) > 0)) else some false)=some (decide (b'=0∧k > 0)):=by
    by_cases qz:b'=0
    ·rw [ifT (by simp [qz]),show decide (b'=0∧k > 0)=decide ((k:Int) > 0) from by simp [qz]]
    ·rw [ifF (by simpa using qz)]
     simp [qz]
   rw [d2]
   simp only [Option.bind_some,orO]
   by_cases q1:b'=0∧k > 0
   ·rw [if_pos (c:=b'=0∧k > 0∨yV (l.take k)+M > 1000000000) (.inl q1),decide_eq_true q1]
    rfl
   ·rw [decide_eq_false q1,Bool.false_or]
    by_cases q2:yV (l.take k)+M > 1000000000
    ·rw [if_pos (c:=b'=0∧k > 0∨yV (l.take k)+M > 1000000000) (.inr q2),ifT (decide_eq_true (by omega))]
    ·rw [if_neg (c:=b'=0∧k > 0∨yV (l.take k)+M > 1000000000) (fun h=>h.elim q1 q2),ifF (decide_eq_false (by omega))]
 have run:=zC8 (body:=fun (s':Int×Int×Int)=>yN text (a:Int) s'.1 s'.2.1 s'.2.2) (r:=(.inl ((n:Int),((a+(kK n).length:Nat):Int),true):(Int×Int×Bool)⊕Unit)) (fun k=>(((yV (l.take k):Nat):Int),((128 ^ k:Nat):Int),(k:Int))) l.length (fun k hk=>by
  obtain ⟨M,hM,_,_,hs⟩:=step k (by omega) _ (hgl k hk)
  have h8:=(hl _ (List.getElem_mem hk)).1
  show yN text a _ _ _=_
  rw [hs,if_pos h8]
  have:yV (l.take (k+1))=yV (l.take k)+M:=by
   rw [List.take_add_one,List.getElem?_eq_getElem hk]
   simp only [Option.toList_some]
   rw [valL_snoc,hM,List.length_take,Nat.min_eq_left (by omega)]
  rw [this]) (by
  obtain ⟨M,hM,_,_,hs⟩:=step l.length (by omega) _ hgc
  show yN text a _ _ _=_
  have hvn:yV (l.take l.length)+M=n:=by
   rw [hv,valL_snoc,hM,List.take_length]
  rw [hs,if_neg (by omega),hvn,if_neg,hll]
  rintro (⟨q1,q2⟩ | q)
  ·have:=h0 q1
   subst this
   simp at q2
  ·omega)
 have e0:(((yV (l.take 0):Nat):Int),((128 ^ 0:Nat):Int),((0:Nat):Int))=((0:Int),(1:Int),(0:Int)):=by simp [yV]
 simp only [e0] at run
 rw [run]
 rfl
theorem qI4 {t:ByteArray} (ht:t.size≤60000) {a n:Nat} (hn:n≤1000000000) (h:At t a (kK n)):jY ⟨t,a,false⟩=some ((n:Int),⟨t,((a+(kK n).length:Nat):Int),false⟩):=by
 unfold jY
 simp only [readVar_run (by omega) hn h,Option.bind_some,Bool.false_eq_true,if_false,Bool.not_true]
theorem count_run {t:ByteArray} (ht:t.size≤60000) {a n most:Nat} (hn:n≤most) (hm:most≤1000000000) (h:At t a (kK n)):wU ⟨t,a,false⟩ (most:Int)=some ((n:Int),⟨t,((a+(kK n).length:Nat):Int),false⟩):=by
 unfold wU
 simp only [qI4 ht (by omega) h,Option.bind_some]
 rw [ifF (decide_eq_false (by omega))]
theorem qO8 {t:ByteArray} (ht:t.size≤60000) {a n:Nat} (h:a+n≤t.size):xA ⟨t,a,false⟩ (n:Int)=some (t.extract a (a+n),⟨t,((a+n:Nat):Int),false⟩):=by
 unfold xA
 have e1:wk .i64 ((t.size:Int) - (a:Int))=((t.size - a:Nat):Int):=by rw [zQ (by omega) (by omega)]; omega
 have d:decide ((n:Int) > ((t.size - a:Nat):Int))=false:=decide_eq_false (by omega)
 have e2:wk .i64 ((a:Int)+(n:Int))=((a+n:Nat):Int):=by rw [zQ (by omega) (by omega)]; omega
 have e3:wk .i64 (((a+n:Nat):Int) - (n:Int))=(a:Int):=by rw [zQ (by omega) (by omega)]; omega
 simp only [e1,d,e2,e3,Bool.false_eq_true,if_false,Option.bind_some]
 rw [sub2_in (by omega) (by omega) (by omega)]
 rfl
theorem mark_run {t mark:ByteArray} (ht:t.size≤60000) {a:Nat} (h:At t a (nb mark)):zF3 ⟨t,a,false⟩ mark=some ⟨t,((a+mark.size:Nat):Int),false⟩:=by
 have hl:=h.len
 have hx:=h.take
 rw [xL] at hl hx
 unfold zF3
 simp only [qO8 ht hl,Option.bind_some]
 rw [beq_nb,hx]
 simp
theorem short_run {t s:ByteArray} (ht:t.size≤60000) {a:Nat} (hs:s.size≤60000) (h:At t a (kK s.size++nb s)):zD8 ⟨t,a,false⟩=some (s,⟨t,((a+(kK s.size++nb s).length:Nat):Int),false⟩):=by
 obtain ⟨h1,h2⟩:=h.app
 have hl:=h2.len
 have hx:=h2.take
 rw [xL] at hl hx
 unfold zD8
 simp only [qI4 ht (by omega) h1,Option.bind_some]
 rw [ifF (decide_eq_false (by omega))]
 unfold uM
 simp only [qO8 ht hl,Option.bind_some]
 rw [nb_inj hx,List.length_append,xL,Nat.add_assoc]
theorem items_run {t:ByteArray} {α:Type} {I:T_impl_scanner→Option (α×T_impl_scanner)} (enc:α→List Nat) (l:List α)
  (hit:∀ (a:Nat) (x:α),x ∈ l→At t a (enc x)→I ⟨t,a,false⟩=some (x,⟨t,((a+(enc x).length:Nat):Int),false⟩))
  {f:Int×ByteArray×Int×Bool×List α→Option ((Int×ByteArray×Int×Bool×List α)⊕(ByteArray×Int×Bool×List α))}
  (hf:∀ (k:Nat) (x:α) (a a':Nat) (out:List α),k < l.length→out.length=k→I ⟨t,a,false⟩=some (x,⟨t,a',false⟩)→l[k]? = some x→f ((k:Int),t,a,false,out)=some (.inl (((k+1:Nat):Int),t,a',false,out++[x])))
  (hf0:∀ (a:Nat),f ((l.length:Int),t,a,false,l)=some (.inr (t,a,false,l)))
  {a:Nat} (h:At t a (l.map enc).flatten):zB f (0,t,a,false,[])=some (t,((a+(l.map enc).flatten.length:Nat):Int),false,l):=by
 have key:∀ (m pre:List α) (a:Nat),l=pre++m→At t a (m.map enc).flatten→zB f ((pre.length:Int),t,a,false,pre)=some (t,((a+(m.map enc).flatten.length:Nat):Int),false,l):=by
  intro m
  induction m with
  | nil =>
   intro pre a hl _
   rw [List.append_nil] at hl
   subst hl
   rw [zX,hf0]
   simp
  | cons x m ih =>
   intro pre a hl hat
   rw [List.map_cons,List.flatten_cons] at hat
   obtain ⟨h1,h2⟩:=hat.app
   rw [zX,hf pre.length x a (a+(enc x).length) pre (by rw [hl]; simp) rfl (hit a x (by rw [hl]; simp) h1) (by rw [hl]; simp)]
   simp only [Option.bind_some]
   have:=ih (pre++[x]) (a+(enc x).length) (by rw [hl]; simp) h2
   rw [List.length_append] at this
   refine this.trans ?_
   rw [List.map_cons,List.flatten_cons,List.length_append,Nat.add_assoc]
 exact key l [] a rfl h
end Go.TV.F
namespace Go.TV.F
open Go.TV
end Go.TV.F
set_option maxRecDepth 100000
namespace Go.TV.F
open Go.TV
def e0:ByteArray:=ByteArray.mk #[]
end Go.TV.F
namespace Go.TV.F
open Go.TV
theorem four_eq {s:ByteArray} (hs:s.size≤1000000000):∃ u:ByteArray,u.size=4∧(∀ t,wN s=some t→uW t=some u)∧(∃ t,wN s=some t∧uW t=some u∧uX s=some u):=by
 obtain ⟨r,h1,h2,h3⟩:=sumOf_eq (text:=s) hs
 refine ⟨mkS [(wk .u8 (vO .u32 r 24)),(wk .u8 (vO .u32 r 16)),(wk .u8 (vO .u32 r 8)),(wk .u8 r)],?_,?_,r,h2,rfl,?_⟩
 ·rw [qF2]
  rfl
 ·intro t ht
  rw [h2] at ht
  injection ht with ht
  subst ht
  rfl
 ·unfold uX
  rw [h1]
  rfl
theorem sealedS_eq {s:ByteArray}:zG4 s=if s.size > 60000 then some (ByteArray.mk #[],false) else (wN s).bind fun x9=>(uW x9).bind fun x10=>some (s++x10,true):=by
 unfold zG4
 by_cases q:s.size > 60000
 ·rw [ifT (by simp; omega),if_pos q]
 ·rw [ifF (by simp; omega),if_neg q]
  obtain ⟨u,h1,h2,t,h3,h4,_⟩:=four_eq (s:=s) (by omega)
  simp only [h3,h4,Option.bind_some]
  rw [qB1 (by omega)]
  rfl
theorem unsealed2 {text:ByteArray} (ht:text.size≤1000000000):∃ t ok,zI6 text=some (t,ok)∧zY6 text=some (t,ok)∧t.size≤60000∧(ok=true→zG4 t=some (text,true))∧(∀ s,zG4 s=some (text,true)→s=t∧ok=true):=by
 obtain ⟨t,ok,h1,h2,h3⟩:=unsealed_eq ht
 have hs:=h2
 unfold zY6 at hs
 rw [zQ (x:=(text.size:Int) - 4) (by omega) (by omega)] at hs
 have back:∀ s,zG4 s=some (text,true)→∃ u:ByteArray,s.size≤60000∧u.size=4∧text=s++u∧∃ x,wN s=some x∧uW x=some u:=by
  intro s h
  rw [sealedS_eq] at h
  by_cases q:s.size > 60000
  ·rw [if_pos q] at h
   injection h with h
   injection h with _ h
   cases h
  ·rw [if_neg q] at h
   obtain ⟨u,g1,g2,x,g3,g4,_⟩:=four_eq (s:=s) (by omega)
   rw [g3,Option.bind_some,g4,Option.bind_some] at h
   injection h with h
   injection h with h _
   exact ⟨u,by omega,g1,h.symm,x,g3,g4⟩
 refine ⟨t,ok,h1,h2,h3,?_,?_⟩
 ·intro hok
  subst hok
  by_cases q:(text.size:Int) - 4 < 0
  ·rw [ifT (by simpa using q)] at hs
   simp at hs
  rw [ifF (by simpa using q)] at hs
  simp only [Option.bind_some] at hs
  by_cases q2:(text.size:Int) - 4 > 60000
  ·rw [decide_eq_true q2] at hs
   simp at hs
  rw [decide_eq_false q2] at hs
  simp only [Bool.false_eq_true,if_false] at hs
  rw [subL_in (by omega) (by omega),subH_in (by omega) (by omega)] at hs
  simp only [Option.bind_some] at hs
  have hsz:(text.extract 0 ((text.size:Int) - 4).toNat).size=text.size - 4:=by
   rw [ByteArray.size_extract]
   omega
  obtain ⟨u,g1,g2,x,g3,g4,_⟩:=four_eq (s:=text.extract 0 ((text.size:Int) - 4).toNat) (by omega)
  rw [g3,Option.bind_some,g4] at hs
  simp only [Option.bind_some] at hs
  cases e:(!((text.extract ((text.size:Int) - 4).toNat text.size).toList == u.toList)) with
  | true =>
   rw [e] at hs
   simp at hs
  | false =>
   rw [e] at hs
   simp only [Bool.false_eq_true,if_false,Option.some.injEq,Prod.mk.injEq,and_true] at hs
   subst hs
   rw [sealedS_eq,if_neg (by omega),g3,Option.bind_some,g4,Option.bind_some]
   congr 2
   apply nb_inj
   rw [beq_nb] at e
   have e':nb (text.extract ((text.size:Int) - 4).toNat text.size)=nb u:=by simpa using e
   rw [yO,← e',qE4,qE4]
   have hl:=xL text
   have hk:((text.size:Int) - 4).toNat=text.size - 4:=by omega
   rw [hk,Nat.sub_zero,List.drop_zero,List.take_of_length_le (l:=(nb text).drop (text.size - 4)) (by rw [List.length_drop]; omega),List.take_append_drop]
 ·intro s h
  obtain ⟨u,g1,g2,rfl,x,g3,g4⟩:=back s h
  have hsu:(s++u).size=s.size+4:=by rw [ByteArray.size_append,g2]
  have ex1:(s++u).extract 0 (((s++u).size:Int) - 4).toNat=s:=by
   apply nb_inj
   rw [qE4,yO,List.drop_zero,Nat.sub_zero,show (((s++u).size:Int) - 4).toNat=(nb s).length by rw [xL]; omega,List.take_left]
  have ex2:(s++u).extract (((s++u).size:Int) - 4).toNat (s++u).size=u:=by
   apply nb_inj
   have hu:=xL u
   have hs':=xL s
   rw [qE4,yO,show (((s++u).size:Int) - 4).toNat=(nb s).length by rw [xL]; omega,List.drop_left,List.take_of_length_le (by omega)]
  rw [ifF (by simp; omega)] at hs
  simp only [Option.bind_some] at hs
  rw [decide_eq_false (by omega)] at hs
  simp only [Bool.false_eq_true,if_false] at hs
  rw [subL_in (by omega) (by omega),subH_in (by omega) (by omega)] at hs
  simp only [Option.bind_some,ex1,ex2,g3,g4,beq_self_eq_true,Bool.not_true,Bool.false_eq_true,if_false,Option.some.injEq,Prod.mk.injEq] at hs
  exact ⟨hs.1,hs.2.symm⟩
end Go.TV.F
namespace Go.TV.F
open Go.TV
end Go.TV.F
namespace Go.TV.F
open Go.TV
theorem zY3 {a b:Nat} (ha:a < 4294967296) (hb:b < 4294967296):bits .xor .u32 a b=((a ^^^ b:Nat):Int)∧a ^^^ b < 4294967296:=by
 have ha':a % 2 ^ IntKind.u32.bits=a:=Nat.mod_eq_of_lt ha
 have hb':b % 2 ^ IntKind.u32.bits=b:=Nat.mod_eq_of_lt hb
 have hx:a ^^^ b < 2 ^ 32:=Nat.xor_lt_two_pow ha hb
 refine ⟨?_,hx⟩
 simp only [bits,BitVec.ofInt_natCast,BitVec.toNat_xor,BitVec.toNat_ofNat,ha',hb']
 have hx':a ^^^ b < 4294967296:=hx
 exact wku32 (x:=((a ^^^ b:Nat):Int)) (by omega) (by omega)
def bitS (x:Nat):Nat:=if x % 2=1 then (x / 2) ^^^ 3558460437 else x / 2
def bitN:Nat→Nat→Nat
 | 0,x=>x
 | n+1,x=>bitN n (bitS x)
def byteS (x b:Nat):Nat:=bitN 8 (x ^^^ b)
def crcF (x:Nat) (l:List Nat):Nat:=l.foldl byteS x
def crc (l:List Nat):Nat:=crcF 4294967295 l
theorem bitS_lt {x:Nat} (h:x < 4294967296):bitS x < 4294967296:=by
 unfold bitS
 split
 ·exact (zY3 (a:=x / 2) (b:=3558460437) (by omega) (by decide)).2
 ·omega
theorem bitN_lt:∀ (n:Nat) {x:Nat},x < 4294967296→bitN n x < 4294967296
 | 0,_,h=>h
 | n+1,_,h=>bitN_lt n (bitS_lt h)
theorem qK7 {x b:Nat} (h:x < 4294967296) (hb:b < 256):byteS x b < 4294967296:=bitN_lt 8 (zY3 h (by omega)).2
theorem crcF_lt:∀ (l:List Nat) {x:Nat},x < 4294967296→(∀ b ∈ l,b < 256)→crcF x l < 4294967296
 | [],_,h,_=>h
 | b :: l,_,h,hl=>crcF_lt l (qK7 h (hl b (by simp))) (fun c hc=>hl c (by simp [hc]))
theorem bitS_top {x:Nat} (h:x < 4294967296):(bitS x).testBit 31=decide (x % 2=1):=by
 unfold bitS
 have hz:(x / 2).testBit 31=false:=Nat.testBit_lt_two_pow (by omega)
 split
 ·rename_i h1
  rw [Nat.testBit_xor,hz,decide_eq_true h1]
  decide
 ·rename_i h1
  rw [hz,decide_eq_false h1]
theorem bitS_inj {x y:Nat} (hx:x < 4294967296) (hy:y < 4294967296) (h:bitS x=bitS y):x=y:=by
 have h1:=bitS_top hx
 rw [h,bitS_top hy,decide_eq_decide] at h1
 unfold bitS at h
 by_cases q:x % 2=1
 ·rw [if_pos q,if_pos (h1.2 q)] at h
  have:=congrArg (fun z=>z ^^^ 3558460437) h
  simp only [Nat.xor_assoc,Nat.xor_self,Nat.xor_zero] at this
  have:=h1.2 q
  omega
 ·have q2:¬y % 2=1:=fun r=>q (h1.1 r)
  rw [if_neg q,if_neg q2] at h
  omega
theorem bitN_inj:∀ (n:Nat) {x y:Nat},x < 4294967296→y < 4294967296→bitN n x=bitN n y→x=y
 | 0,_,_,_,_,h=>h
 | n+1,_,_,hx,hy,h=>bitS_inj hx hy (bitN_inj n (bitS_lt hx) (bitS_lt hy) h)
theorem qR7 {a b c:Nat} (h:a ^^^ c=b ^^^ c):a=b:=by
 have:=congrArg (fun z=>z ^^^ c) h
 simpa only [Nat.xor_assoc,Nat.xor_self,Nat.xor_zero] using this
theorem qQ9 {a b c:Nat} (h:c ^^^ a=c ^^^ b):a=b:=by
 rw [Nat.xor_comm c,Nat.xor_comm c] at h
 exact qR7 h
theorem crcF_inj:∀ (l:List Nat) {x y:Nat},x < 4294967296→y < 4294967296→(∀ b ∈ l,b < 256)→crcF x l=crcF y l→x=y
 | [],_,_,_,_,_,h=>h
 | b :: l,x,y,hx,hy,hl,h=>by
  have hb:=hl b (by simp)
  have:=crcF_inj l (qK7 hx hb) (qK7 hy hb) (fun c hc=>hl c (by simp [hc])) h
  exact qR7 (bitN_inj 8 (zY3 hx (by omega)).2 (zY3 hy (by omega)).2 this)
theorem crcF_app (x:Nat) (l m:List Nat):crcF x (l++m)=crcF (crcF x l) m:=by unfold crcF; rw [List.foldl_append]
theorem crc_turn {l m:List Nat} {a b:Nat} (hl:∀ x ∈ l,x < 256) (hm:∀ x ∈ m,x < 256) (ha:a < 256) (hb:b < 256) (h:crc (l++a :: m)=crc (l++b :: m)):a=b:=by
 unfold crc at h
 rw [crcF_app,crcF_app] at h
 have h0:=crcF_lt l (x:=4294967295) (by decide) hl
 have:=crcF_inj m (qK7 h0 ha) (qK7 h0 hb) hm h
 exact qQ9 (bitN_inj 8 (zY3 h0 (by omega)).2 (zY3 h0 (by omega)).2 this)
theorem sumInner_eq {x:Nat} (hx:x < 4294967296):zB (fun (s':Int×Int)=>xN s'.1 s'.2) ((x:Int),0)=some ((bitN 8 x:Nat):Int):=by
 have key:∀ (m k x:Nat),k+m=8→x < 4294967296→zB (fun (s':Int×Int)=>xN s'.1 s'.2) ((x:Int),(k:Int))=some ((bitN m x:Nat):Int):=by
  intro m
  induction m with
  | zero =>
   intro k x hk hx
   rw [zX]
   simp only [xN]
   rw [ifF (by simp; omega)]
   rfl
  | succ m ih =>
   intro k x hk hx
   rw [zX]
   have ed:wk .u32 ((x:Int).tdiv 2)=((x / 2:Nat):Int):=by
    rw [show ((2:Int))=((2:Nat):Int) from rfl,tdiv_nat,wku32 (by omega) (by omega)]
   have et:((x:Int).tmod 2 == 1)=decide (x % 2=1):=by
    rw [show ((2:Int))=((2:Nat):Int) from rfl,qO9,Bool.eq_iff_iff]
    simp
    omega
   simp only [xN]
   rw [ifT (by simp; omega),et,ed,wkS k (by omega)]
   by_cases q:x % 2=1
   ·rw [ifT (decide_eq_true q),show (3558460437:Int)=((3558460437:Nat):Int) from rfl,(zY3 (a:=x / 2) (b:=3558460437) (by omega) (by decide)).1]
    refine (ih (k+1) ((x / 2) ^^^ 3558460437) (by omega) (zY3 (a:=x / 2) (b:=3558460437) (by omega) (by decide)).2).trans ?_
    rw [bitN,bitS,if_pos q]
   ·rw [ifF (decide_eq_false q)]
    refine (ih (k+1) (x / 2) (by omega) (by omega)).trans ?_
    rw [bitN,bitS,if_neg q]
 exact key 8 0 x rfl hx
theorem sumS_eq {s:ByteArray} (hs:s.size≤1000000000):wN s=some ((crc (nb s):Nat):Int):=by
 unfold wN zP0
 have hl:=xL s
 have hbyte:∀ k,∀ b ∈ (nb s).take k,b < 256:=fun k b hb=>nb_lt (List.mem_of_mem_take hb)
 have:=zC8 (body:=fun (s':Int×Int)=>kG s s'.1 s'.2) (r:=((crc (nb s):Nat):Int)) (fun k=>(((crc ((nb s).take k):Nat):Int),(k:Int))) s.size (fun k hk=>by
  obtain ⟨b,h1,h2,h3⟩:=sidx_nb hk
  show kG s _ _=_
  unfold kG
  have hc:crc ((nb s).take k) < 4294967296:=crcF_lt _ (by decide) (hbyte k)
  rw [ifT (by simpa using hk),h1,Option.bind_some,wku32 (by omega) (by omega),(zY3 hc (show b < 4294967296 by omega)).1,sumInner_eq (zY3 hc (by omega)).2,Option.bind_some]
  unfold zK3
  rw [wkS k (by omega)]
  have:crc ((nb s).take (k+1))=bitN 8 (crc ((nb s).take k) ^^^ b):=by
   rw [List.take_add_one,h2]
   unfold crc
   rw [crcF_app]
   rfl
  rw [this]) (by
  show kG s _ _=_
  unfold kG
  rw [ifF (by simp),← hl,List.take_length])
 have e:(((crc ((nb s).take 0):Nat):Int),((0:Nat):Int))=((4294967295:Int),(0:Int)):=by simp [crc,crcF]
 rw [e] at this
 rw [this]
 rfl
def four (x:Nat):List Nat:=[x / 16777216 % 256,x / 65536 % 256,x / 256 % 256,x % 256]
theorem four_inj {x y:Nat} (hx:x < 4294967296) (hy:y < 4294967296) (h:four x=four y):x=y:=by
 unfold four at h
 simp only [List.cons.injEq,and_true] at h
 omega
def sum4 (l:List Nat):List Nat:=four (crc l)
theorem fourS_eq {x:Nat}:∃ u:ByteArray,uW (x:Int)=some u∧nb u=four x:=by
 refine ⟨_,rfl,?_⟩
 have e:∀ j:Nat,j≤24→wk .u8 (vO .u32 (x:Int) (j:Int))=((x / 2 ^ j % 256:Nat):Int):=fun j hj=>by
  unfold vO
  simp only [IntKind.bits,Int.toNat_natCast]
  rw [Nat.min_eq_left (by omega),wku8_mod,show ((2:Int) ^ j)=((2 ^ j:Nat):Int) by simp,← Int.natCast_ediv]
  omega
 have e1:=e 24 (by omega)
 have e2:=e 16 (by omega)
 have e3:=e 8 (by omega)
 have e4:wk .u8 (x:Int)=((x % 256:Nat):Int):=by rw [wku8_mod]; omega
 have r:[wk .u8 (vO .u32 (x:Int) 24),wk .u8 (vO .u32 (x:Int) 16),wk .u8 (vO .u32 (x:Int) 8),wk .u8 (x:Int)]=(four x).map fun z:Nat=>(z:Int):=by
  rw [show (24:Int)=((24:Nat):Int) from rfl,show (16:Int)=((16:Nat):Int) from rfl,show (8:Int)=((8:Nat):Int) from rfl,e1,e2,e3,e4]
  rfl
 rw [r]
 exact nb_mkS (fun z hz=>by unfold four at hz; simp at hz; omega)
end Go.TV.F
namespace Go.TV.F
open Go.TV
theorem turned {E E':List Nat} {i r:Nat} (hE:∀ x ∈ E,x < 256) (hi:i < (E++sum4 E).length) (hr:r < 256) (hne:(E++sum4 E)[i]?≠some r) (h:E'++sum4 E'=(E++sum4 E).set i r):False:=by
 have h4:∀ l,(sum4 l).length=4:=fun l=>rfl
 have hlen:=congrArg List.length h
 rw [List.length_set,List.length_append,List.length_append,h4,h4] at hlen
 have hl:E'.length=E.length:=by omega
 by_cases q:i < E.length
 ·rw [List.set_append_left _ _ q] at h
  obtain ⟨h1,h2⟩:=List.append_inj h (by simpa using hl)
  subst h1
  rw [List.getElem?_append_left q,List.getElem?_eq_getElem q] at hne
  have e1:E=E.take i++E[i] :: E.drop (i+1):=by
   rw [← List.drop_eq_getElem_cons q,List.take_append_drop]
  have e2:E.set i r=E.take i++r :: E.drop (i+1):=by
   rw [List.set_eq_take_append_cons_drop,if_pos q]
  have hc:crc (E.set i r)=crc E:=by
   refine four_inj ?_ ?_ h2
   ·exact crcF_lt _ (by decide) (fun x hx=>by
     rcases List.mem_or_eq_of_mem_set hx with hx | rfl
     ·exact hE x hx
     ·exact hr)
   ·exact crcF_lt _ (by decide) hE
  rw [e2] at hc
  conv at hc=>rhs; rw [e1]
  have:=crc_turn (fun x hx=>hE x (List.mem_of_mem_take hx)) (fun x hx=>hE x (List.mem_of_mem_drop hx)) hr (hE _ (List.getElem_mem q)) hc
  exact hne (by rw [this])
 ·rw [List.set_append_right _ _ (by omega)] at h
  obtain ⟨h1,h2⟩:=List.append_inj h hl
  subst h1
  have h5:(sum4 E')[i - E'.length]? = some r:=by
   rw [h2,List.getElem?_set_self]
   rw [List.length_append,h4] at hi
   rw [h4]
   omega
  rw [List.getElem?_append_right (by omega)] at hne
  exact hne h5
end Go.TV.F
set_option maxRecDepth 100000
namespace Go.TV.F
open Go.TV
theorem l01Below_mid {b:List Int} {c:T_spec_l01Cur} {n:Int} (hb:b.length≤1000000000) (h:xD b c) (h1:256 < n) (h2:n≤1000000000):∃ x c',jL c n=some (x,c')∧0≤x∧x < n∧xD b c':=by
 unfold jL
 rw [ifF (by simp; omega),ifF (by simp; omega)]
 obtain ⟨x1,c1,g1,a1,b1,h1⟩:=zX0 hb h
 rw [show (T_spec_l01Cur.mk c.b c.i c.h)=c from rfl,g1,Option.bind_some]
 obtain ⟨x2,c2,g2,a2,b2,h2⟩:=zX0 hb h1
 rw [show (T_spec_l01Cur.mk c1.b c1.i c1.h)=c1 from rfl,g2,Option.bind_some]
 obtain ⟨x3,c3,g3,a3,b3,h3⟩:=zX0 hb h2
 rw [show (T_spec_l01Cur.mk c2.b c2.i c2.h)=c2 from rfl,g3,Option.bind_some]
 obtain ⟨x4,c4,g4,a4,b4,h4⟩:=zX0 hb h3
 rw [show (T_spec_l01Cur.mk c3.b c3.i c3.h)=c3 from rfl,g4,Option.bind_some,chk_in (by omega)]
 simp only [Option.bind_some]
 rw [zQ (x:=x1 * 16777216) (by omega) (by omega),zQ (x:=x2 * 65536) (by omega) (by omega),zQ (x:=x1 * 16777216+x2 * 65536) (by omega) (by omega),zQ (x:=x3 * 256) (by omega) (by omega),zQ (x:=x1 * 16777216+x2 * 65536+x3 * 256) (by omega) (by omega),zQ (x:=x1 * 16777216+x2 * 65536+x3 * 256+x4) (by omega) (by omega)]
 have:=qI1 (x:=x1 * 16777216+x2 * 65536+x3 * 256+x4) (n:=n) (by omega) (by omega)
 exact ⟨_,_,rfl,this.1,this.2,h4⟩
theorem drawPlaces_okN {b:List Int} (hb:b.length≤1000000000):∃ l,zK2 b=some l∧l.length=12∧∀ x ∈ l,0≤x∧x≤1000000:=by
 unfold zK2
 obtain ⟨c,h1,hc⟩:=l01New_ok hb
 rw [h1,Option.bind_some]
 obtain ⟨x0,c0,h2,_,_,hc0⟩:=zX0 hb hc
 rw [show (T_spec_l01Cur.mk c.b c.i c.h)=c from rfl,h2,Option.bind_some]
 obtain ⟨r,h3,h4⟩:=loopM_inv (f:=fun (s':Int×(List Int)×Int×Int×(List Int))=>yE s'.1 s'.2.1 s'.2.2.1 s'.2.2.2.1 s'.2.2.2.2)
  (fun s=>s.1=s.2.2.2.2.length∧s.2.2.2.2.length≤12∧xD b ⟨s.2.1,s.2.2.1,s.2.2.2.1⟩∧∀ x ∈ s.2.2.2.2,0≤x∧x≤1000000) (fun s=>12 - s.2.2.2.2.length)
  (fun r=>r.length=12∧∀ x ∈ r,0≤x∧x≤1000000) (s:=(0,c0.b,c0.i,c0.h,[])) ⟨rfl,by simp,hc0,fun _ h=>by cases h⟩ (fun s hs=>by
  obtain ⟨v,cb,ci,ch,out⟩:=s
  obtain ⟨hv,hl,hc,hp⟩:=hs
  simp only at hv hl hc hp
  subst hv
  show (∃ s',yE _ cb ci ch out=_∧_)∨∃ r,yE _ cb ci ch out=_∧_
  unfold yE
  by_cases q:out.length < 12
  ·rw [ifT (by simp; omega)]
   obtain ⟨x,c',g1,g2,g3,g4⟩:=l01Below_mid (n:=10000) hb hc (by omega) (by omega)
   rw [g1,Option.bind_some,zJ (by simp; omega),Option.bind_some,zQ (by omega) (by omega)]
   refine .inl ⟨_,rfl,⟨by simp,by simp; omega,g4,fun y hy=>?_⟩,by simp; omega⟩
   rcases List.mem_append.1 hy with hy | hy
   ·exact hp y hy
   ·simp at hy
    subst hy
    exact ⟨g2,by omega⟩
  ·rw [ifF (by simp; omega)]
   exact .inr ⟨_,rfl,by omega,hp⟩)
 rw [h3]
 exact ⟨r,rfl,h4⟩
theorem bytesL_nb (s:ByteArray):qX s=(nb s).map fun x:Nat=>(x:Int):=by
 unfold qX nb
 rw [List.map_map]
 rfl
theorem turn_byte {b v:Nat} (hb:b < 256) (hv:v < 256) (h0:v≠0):∃ r:Nat,bits .xor .u8 (b:Int) (v:Int)=(r:Int)∧r < 256∧r≠b:=by
 have ha':b % 2 ^ IntKind.u8.bits=b:=Nat.mod_eq_of_lt hb
 have hb':v % 2 ^ IntKind.u8.bits=v:=Nat.mod_eq_of_lt hv
 have hx:b ^^^ v < 2 ^ 8:=Nat.xor_lt_two_pow hb hv
 have hx':b ^^^ v < 256:=hx
 refine ⟨b ^^^ v,?_,hx',fun h=>h0 ?_⟩
 ·simp only [bits,BitVec.ofInt_natCast,BitVec.toNat_xor,BitVec.toNat_ofNat,ha',hb']
  exact wku8 (x:=((b ^^^ v:Nat):Int)) (by omega) (by omega)
 ·have:b ^^^ v=b ^^^ 0:=by rw [Nat.xor_zero]; exact h
  exact qQ9 this
end Go.TV.F
namespace Go.TV.F
open Go.TV
theorem e0size:(ByteArray.mk #[]).size=0:=rfl
theorem mkS_bytesL (s:ByteArray):mkS (qX s)=s:=by
 apply ByteArray.ext
 apply Array.ext'
 unfold mkS qX
 simp only [List.map_map]
 have:((fun n:Int=>UInt8.ofNat n.toNat) ∘ fun b:UInt8=>(b.toNat:Int))=id:=by
  funext b
  simp
 rw [this,List.map_id]
theorem bytesL_app (s t:ByteArray):qX (s++t)=qX s++qX t:=by
 unfold qX
 rw [ByteArray.data_append,Array.toList_append,List.map_append]
theorem qI2 (s:ByteArray):(qX s).length=s.size:=by simp [qX]
def inR (n:Int) (a b:Int):Bool:=decide (a≤n) && decide (n≤b)
theorem inRangeI_eq (n a b:Int):wZ n a b=some (inR n a b):=by
 unfold wZ inR
 by_cases h:a≤n
 ·rw [ifT (by simpa using h),decide_eq_true h]
  rfl
 ·rw [ifF (by simpa using h),decide_eq_false h]
  rfl
def okP (n:Int):Bool:=inR n 0 1000000000
def prS (l:List Int):ByteArray:=encS l.length++cat (l.map fun n=>encS n.toNat)
theorem okP_parts {n:Int} (h:okP n=true):0≤n∧n≤1000000000:=by
 unfold okP inR at h
 simpa using h
theorem prS_size {l:List Int} (h1:l.length≤4) (h2:l.all okP=true):(prS l).size≤25:=by
 rw [List.all_eq_true] at h2
 have:=qA1 (l:=l.map fun n=>encS n.toNat) (M:=5) (fun x hx=>by
  obtain ⟨s,hs,rfl⟩:=List.mem_map.1 hx
  have:=okP_parts (h2 s hs)
  exact zA9 (by omega))
 rw [List.length_map] at this
 have a3:=zA9 (n:=l.length) (by omega)
 unfold prS
 rw [ByteArray.size_append]
 omega
theorem listTextI_eq {l:List Int} (h1:l.length≤4) (h2:l.all okP=true):zR6 l=some (prS l):=by
 rw [List.all_eq_true] at h2
 have a3:=zA9 (n:=l.length) (by omega)
 unfold zR6
 rw [zW6 (by omega),Option.bind_some,qF9 (by rw [e0size]; omega),Option.bind_some,qG4]
 have:=qN5 (body:=fun (s':Int×ByteArray)=>yD l s'.1 s'.2) (l:=l) (f:=fun n=>encS n.toNat) (M:=5) (b0:=encS l.length) (by omega) (fun n hn=>by
  have:=okP_parts (h2 n hn)
  exact zA9 (by omega)) (fun i n b hi hn hb=>by
  have hlt:=(List.getElem?_eq_some_iff.1 hi).1
  have hp:=okP_parts (h2 n hn)
  have a5:=zA9 (n:=n.toNat) (by omega)
  show yD l i b=_
  unfold yD
  have e:n=((n.toNat:Nat):Int):=by omega
  rw [ifT (by simpa using hlt),zD,hi,Option.bind_some]
  conv=>lhs; rw [e]
  rw [zW6 (by omega),Option.bind_some,qF9 (by omega),Option.bind_some,wkS i (by omega)]) (fun b=>by
  show yD l l.length b=_
  unfold yD
  rw [ifF (by simp)])
 rw [this,Option.bind_some]
 rfl
def fail:ByteArray×Bool:=(ByteArray.mk #[],false)
end Go.TV.F
namespace Go.TV.F
open Go.TV
end Go.TV.F
namespace Go.TV.F
open Go.TV
end Go.TV.F
namespace Go.TV.F
open Go.TV
theorem nb_cat:∀ l:List ByteArray,nb (cat l)=(l.map nb).flatten
 | []=>rfl
 | s :: l=>by rw [cat,yO,nb_cat l]; rfl
theorem nb_shS (s:ByteArray):nb (shS s)=kK s.size++nb s:=by
 unfold shS
 rw [yO,qB2]
theorem qM8 {α:Type} (l:List α) (f:α→ByteArray):((l.map f).map nb).flatten=(l.map fun x=>nb (f x)).flatten:=by rw [List.map_map]; rfl
theorem nb_byte {b:Nat} (h:b < 256):nb (mkS [(b:Int)])=[b]:=by
 have:=nb_mkS (l:=[b]) (fun x hx=>by simp at hx; omega)
 exact this
end Go.TV.F
namespace Go.TV.F
open Go.TV
def s4 (t:ByteArray):ByteArray:=mkS ((four (crc (nb t))).map fun z:Nat=>(z:Int))
theorem four_lt (x:Nat):∀ z ∈ four x,z < 256:=fun z hz=>by
 unfold four at hz
 simp at hz
 omega
theorem nb_s4 (t:ByteArray):nb (s4 t)=four (crc (nb t)):=nb_mkS (four_lt _)
theorem qJ1 (t:ByteArray):(s4 t).size=4:=by
 rw [← xL,nb_s4]
 rfl
theorem s4_all {t:ByteArray} (ht:t.size≤1000000000):uX t=some (s4 t)∧zP5 t=some ((crc (nb t):Nat):Int)∧wN t=some ((crc (nb t):Nat):Int)∧uW ((crc (nb t):Nat):Int)=some (s4 t):=by
 obtain ⟨u,g1,g2,x,g3,g4,g5⟩:=four_eq (s:=t) ht
 have hs:=sumS_eq ht
 rw [g3] at hs
 simp only [Option.some.injEq] at hs
 subst hs
 obtain ⟨v,k1,k2⟩:=fourS_eq (x:=crc (nb t))
 have hu:u=s4 t:=by
  rw [g4] at k1
  simp only [Option.some.injEq] at k1
  subst k1
  exact nb_inj (by rw [k2,nb_s4])
 subst hu
 obtain ⟨r,h1,h2,_⟩:=sumOf_eq (text:=t) ht
 rw [g3] at h2
 simp only [Option.some.injEq] at h2
 subst h2
 exact ⟨g5,h1,g3,g4⟩
def jl (l:List ByteArray):ByteArray:=cat (l.map fun x=>x++ByteArray.mk #[10])
theorem nl_size:(ByteArray.mk #[10]).size=1:=rfl
theorem jl_size {l:List ByteArray} (hx:∀ x ∈ l,x.size≤60):(jl l).size≤l.length * 61:=by
 have:=qA1 (l:=l.map fun x=>x++ByteArray.mk #[10]) (M:=61) (fun y hy=>by
  obtain ⟨x,hx',rfl⟩:=List.mem_map.1 hy
  have:=hx x hx'
  rw [ByteArray.size_append,nl_size]
  omega)
 rwa [List.length_map] at this
theorem joinI_eq {l:List ByteArray} (hl:l.length≤1000) (hx:∀ x ∈ l,x.size≤60):zH0 l=some (jl l):=by
 unfold zH0
 have:=qN5 (body:=fun (s':Int×ByteArray)=>wH l s'.1 s'.2) (l:=l) (f:=fun x=>x++ByteArray.mk #[10]) (M:=61) (b0:=ByteArray.mk #[]) (by rw [e0size]; omega) (fun x hx'=>by
  have:=hx x hx'
  rw [ByteArray.size_append,nl_size]
  omega) (fun i x b hi hx' hb=>by
  have hlt:=(List.getElem?_eq_some_iff.1 hi).1
  have:=hx x hx'
  show wH l i b=_
  unfold wH
  rw [ifT (by simpa using hlt),zD,hi,Option.bind_some,qB1 (by rw [nl_size]; omega),Option.bind_some,qF9 (by rw [ByteArray.size_append,nl_size]; omega),Option.bind_some,wkS i (by omega)]) (fun b=>by
  show wH l l.length b=_
  unfold wH
  rw [ifF (by simp)])
 rw [this,Option.bind_some,qG4]
 rfl
theorem accL_loop {α:Type} {l:List α} {f:α→ByteArray} {M:Nat} {body:Int×List Int→Option ((Int×List Int)⊕List Int)} {b0:ByteArray} (hb:b0.size+l.length * M≤400000000) (hf:∀ x ∈ l,(f x).size≤M)
  (hs:∀ (i:Nat) (x:α) (b:ByteArray),l[i]? = some x→x ∈ l→b.size+M≤400000000→body ((i:Int),qX b)=some (.inl (((i+1:Nat):Int),qX (b++f x))))
  (he:∀ b:ByteArray,body ((l.length:Int),qX b)=some (.inr (qX b))):zB body (0,qX b0)=some (qX (b0++cat (l.map f))):=by
 have h0:(0,qX b0)=((((0:Nat):Int),qX (b0++cat ((l.take 0).map f))):Int×List Int):=by simp [cat,app_empty]
 rw [h0]
 refine zC8 (fun k=>((k:Int),qX (b0++cat ((l.take k).map f)))) l.length (fun k hk=>?_) (by rw [he,List.take_length])
 have hsz:(cat ((l.take k).map f)).size≤k * M:=by
  have:=qA1 (l:=(l.take k).map f) (M:=M) (fun x hx=>by
   obtain ⟨y,hy,rfl⟩:=List.mem_map.1 hx
   exact hf y (List.mem_of_mem_take hy))
  rw [List.length_map,List.length_take,Nat.min_eq_left (by omega)] at this
  exact this
 have hkM:(k+1) * M≤l.length * M:=Nat.mul_le_mul_right _ hk
 rw [Nat.add_mul,Nat.one_mul] at hkM
 rw [hs k l[k] _ (List.getElem?_eq_getElem hk) (List.getElem_mem hk) (by rw [ByteArray.size_append]; omega),cat_take hk,app_assoc]
theorem bytesL_nl (x:ByteArray):qX x++[10]=qX (x++ByteArray.mk #[10]):=by
 rw [bytesL_app]
 rfl
theorem bytesL_0:qX (ByteArray.mk #[])=[]:=rfl
theorem joinS_eq {l:List ByteArray} (hl:l.length≤80) (hx:∀ x ∈ l,qK x=true):zO7 l=some (jl l,true):=by
 have h60:∀ x ∈ l,x.size≤60:=fun x hx'=>by
  have:=hx x hx'
  unfold qK at this
  simp only [Bool.and_eq_true,decide_eq_true_eq] at this
  exact this.1
 unfold zO7
 rw [linesOkS_eq (fun x hx'=>by have:=h60 x hx'; omega) (by omega),Option.bind_some,show (decide (l.length≤80) && l.all qK)=true by rw [decide_eq_true hl,List.all_eq_true.2 hx]; rfl,if_neg (by simp)]
 have:=accL_loop (body:=fun (s':Int×(List Int))=>wG l s'.1 s'.2) (l:=l) (f:=fun x=>x++ByteArray.mk #[10]) (M:=61) (b0:=ByteArray.mk #[]) (by rw [e0size]; omega) (fun x hx'=>by
  have:=h60 x hx'
  rw [ByteArray.size_append,nl_size]
  omega) (fun i x b hi hx' hb=>by
  have hlt:=(List.getElem?_eq_some_iff.1 hi).1
  have:=h60 x hx'
  show wG l i (qX b)=_
  unfold wG
  rw [ifT (by simpa using hlt),zD,hi,Option.bind_some,zJ (by rw [qI2,qI2]; omega),Option.bind_some,zJ (by rw [List.length_append,qI2,qI2,List.length_singleton]; omega),Option.bind_some,wkS i (by omega),List.append_assoc,bytesL_nl,← bytesL_app]) (fun b=>by
  show wG l l.length (qX b)=_
  unfold wG
  rw [ifF (by simp)])
 rw [bytesL_0,qG4] at this
 rw [this,Option.bind_some]
 unfold zM5
 rw [mkS_bytesL]
 rfl
theorem txt_ok {w:T_impl_Weave} (h:WR w) (v:Nat):∀ x ∈ txt w v,qK x=true:=fun x hx=>by
 unfold txt at hx
 obtain ⟨b,hb,rfl⟩:=List.mem_map.1 hx
 exact h.line (List.mem_filter.1 hb).1
theorem txt_80 {w:T_impl_Weave} (h:WR w) {v:Nat} (hv:v < w.Parents.length):(txt w v).length≤80:=by
 have:=h.p v hv
 rw [← txt_eq]
 unfold zA5
 rw [List.length_map]
 exact this
theorem qK4 {x:ByteArray} (h:qK x=true):x.size≤60:=by
 unfold qK at h
 simp only [Bool.and_eq_true,decide_eq_true_eq] at h
 exact h.1
theorem jl_txt {w:T_impl_Weave} (h:WR w) (v:Nat):(jl (txt w v)).size≤300 * 61:=by
 have h1:=jl_size (l:=txt w v) (fun x hx=>qK4 (txt_ok h v x hx))
 have h2:=txt_len h v
 have:(txt w v).length * 61≤300 * 61:=Nat.mul_le_mul_right _ h2
 omega
def verB (w:T_impl_Weave) (v:Nat):ByteArray:=prS (w.Parents.getD v [])++s4 (jl (txt w v))
def zE8 (r:T_impl_Rec):ByteArray:=mkS [wk .u8 r.Kind]++(if (r.Kind == 1)=true then shS r.Line else encS r.Version.toNat)
def twB:ByteArray:=ByteArray.mk #[84,87,49]
def wB (w:T_impl_Weave):ByteArray:=twB++encS w.Parents.length++cat ((List.range w.Parents.length).map (verB w))++encS (xF w).length++cat ((xF w).map zE8)
def recOk (r:T_impl_Rec):Prop:=(r.Kind=1∧r.Version=0∧r.Line.size≤60)∨((r.Kind=2∨r.Kind=3∨r.Kind=4∨r.Kind=5)∧0≤r.Version∧r.Version≤40∧r.Line=eB)
theorem mk4_ok {i j:Int} {d e:List Int} (hi:i≤40) (hj:j≤40) (hd:∀ x ∈ d,0≤x∧x≤40) (he:∀ x ∈ e,0≤x∧x≤40):∀ r ∈ mk4 i d j e,recOk r:=fun r hr=>by
 unfold mk4 mDE mIE mI mD at hr
 simp only [List.mem_append,List.mem_map,List.mem_filter,List.mem_reverse] at hr
 rcases hr with ((⟨x,hx,rfl⟩ | hr) | hr) | ⟨x,hx,rfl⟩
 ·exact .inr ⟨.inr (.inr (.inr rfl)),(hd x hx.1).1,(hd x hx.1).2,rfl⟩
 ·split at hr
  ·rename_i q
   obtain rfl:=List.mem_singleton.1 hr
   simp only [Bool.and_eq_true,decide_eq_true_eq] at q
   exact .inr ⟨.inr (.inl rfl),q.2,hi,rfl⟩
  ·cases hr
 ·split at hr
  ·rename_i q
   obtain rfl:=List.mem_singleton.1 hr
   simp only [Bool.and_eq_true,decide_eq_true_eq] at q
   exact .inr ⟨.inl rfl,q.2,hj,rfl⟩
  ·cases hr
 ·exact .inr ⟨.inr (.inr (.inl rfl)),(he x hx.1).1,(he x hx.1).2,rfl⟩
theorem goR_ok {g:List (List Int)} (hg:g.length≤40):∀ (bs:List T_impl_Body) (i:Int) (d:List Int),(∀ b ∈ bs,stat g b=true)→i≤40→(∀ x ∈ d,0≤x∧x≤40)→∀ r ∈ goR i d bs,recOk r
 | [],i,d,_,hi,hd=>by
  unfold goR
  exact mk4_ok hi (by omega) hd (fun x hx=>by cases hx)
 | b :: bs,i,d,hb,hi,hd=>by
  have hst:=hb b (by simp)
  obtain ⟨i0,i1⟩:=zZ7 hst
  have hl:=hst
  unfold stat at hl
  simp only [Bool.and_eq_true] at hl
  have hde:∀ x ∈ b.Dels,0≤x∧x≤40:=fun x hx=>by have:=wX hl.1.2 hx; omega
  intro r hr
  rw [qQ7,List.mem_append,List.mem_cons] at hr
  rcases hr with hr | rfl | hr
  ·exact mk4_ok hi (by omega) hd hde r hr
  ·exact .inl ⟨rfl,rfl,qK4 hl.1.1.1⟩
  ·exact goR_ok hg bs b.Ins b.Dels (fun x hx=>hb x (by simp [hx])) (by omega) hde r hr
theorem recW_ok {w:T_impl_Weave} (h:WR w):∀ r ∈ xF w,recOk r:=goR_ok (jH h.g) w.Bodies (-1) [] (fun b hb=>zW7 h.o b hb) (by omega) (fun x hx=>by cases hx)
theorem recE_size {r:T_impl_Rec} (h:recOk r):(zE8 r).size≤66:=by
 unfold zE8
 rw [ByteArray.size_append,qF2,List.length_singleton]
 rcases h with ⟨h1,h2,h3⟩ | ⟨h1,h2,h3,h4⟩
 ·rw [h1,if_pos (by rfl)]
  have:=shS_size (s:=r.Line) (by omega)
  omega
 ·have:(r.Kind == 1)=false:=by rcases h1 with h | h | h | h <;> rw [h] <;> rfl
  rw [this,if_neg (by simp)]
  have:=zA9 (n:=r.Version.toNat) (by omega)
  omega
theorem recTextI {r:T_impl_Rec} (h:recOk r):zU8 (T_impl_Rec.mk r.Kind r.Version r.Line)=some (zE8 r):=by
 unfold zU8 zE8
 rcases h with ⟨h1,h2,h3⟩ | ⟨h1,h2,h3,h4⟩
 ·simp only [h1]
  rw [if_pos (by rfl),if_pos (by rfl),shortI_eq (by omega),Option.bind_some]
  have:=shS_size (s:=r.Line) (by omega)
  rw [qB1 (by rw [qF2,List.length_singleton]; omega)]
  rfl
 ·have hk:(r.Kind == 1)=false:=by rcases h1 with h | h | h | h <;> rw [h] <;> rfl
  simp only [hk]
  rw [if_neg (by simp),if_neg (by simp)]
  have e:r.Version=((r.Version.toNat:Nat):Int):=by omega
  have:=zA9 (n:=r.Version.toNat) (by omega)
  conv=>lhs; rw [e]
  rw [zW6 (by omega),Option.bind_some,qB1 (by rw [qF2,List.length_singleton]; omega)]
  rfl
theorem qM7 {w:T_impl_Weave} (h:WR w) {v:Nat} (hv:v < w.Parents.length):(w.Parents.getD v []).length≤4∧(w.Parents.getD v []).all okP=true∧∀ x ∈ w.Parents.getD v [],0≤x∧x≤40:=by
 have hg:=zU2 h.g hv
 have hgl:=jH h.g
 have e:w.Parents.getD v []=w.Parents[v]:=qZ hv
 rw [e]
 have hb:∀ x ∈ w.Parents[v],0≤x∧x≤40:=fun x hx=>by have:=wX hg.2 hx; omega
 refine ⟨hg.1,List.all_eq_true.2 (fun x hx=>?_),hb⟩
 have:=hb x hx
 unfold okP inR
 simp
 omega
theorem verB_size {w:T_impl_Weave} (h:WR w) {v:Nat} (hv:v < w.Parents.length):(verB w v).size≤29:=by
 obtain ⟨h1,h2,_⟩:=qM7 h hv
 have:=prS_size h1 h2
 unfold verB
 rw [ByteArray.size_append,qJ1]
 omega
def sealT (t:ByteArray):ByteArray×Bool:=if t.size > 60000 then (ByteArray.mk #[],false) else (t++s4 t,true)
theorem sealI {t:ByteArray} (ht:t.size≤1000000000):zX8 t=some (sealT t)∧zG4 t=some (sealT t):=by
 obtain ⟨g1,g2,g3,g4⟩:=s4_all ht
 have hs:=qJ1 t
 unfold zX8 zG4 sealT
 by_cases q:t.size > 60000
 ·rw [if_pos q,ifT (decide_eq_true (by omega)),ifT (decide_eq_true (by omega))]
  exact ⟨rfl,rfl⟩
 ·rw [if_neg q,ifF (decide_eq_false (by omega)),ifF (decide_eq_false (by omega)),g1,g3,Option.bind_some,Option.bind_some,g4,Option.bind_some,qB1 (by omega)]
  exact ⟨rfl,rfl⟩
theorem wB_parts {w:T_impl_Weave} (h:WR w) (hn:(xF w).length≤4000):(twB++encS w.Parents.length).size≤8∧(cat ((List.range w.Parents.length).map (verB w))).size≤40 * 29∧(encS (xF w).length).size≤5∧(cat ((xF w).map zE8)).size≤4000 * 66:=by
 have hgl:=jH h.g
 have a1:=zA9 (n:=w.Parents.length) (by omega)
 have a2:=zA9 (n:=(xF w).length) (by omega)
 have e3:twB.size=3:=rfl
 refine ⟨by rw [ByteArray.size_append]; omega,?_,a2,?_⟩
 ·have:=qA1 (l:=(List.range w.Parents.length).map (verB w)) (M:=29) (fun x hx=>by
   obtain ⟨v,hv,rfl⟩:=List.mem_map.1 hx
   exact verB_size h (List.mem_range.1 hv))
  rw [List.length_map,List.length_range] at this
  have h2:w.Parents.length * 29≤40 * 29:=Nat.mul_le_mul_right _ hgl
  omega
 ·have:=qA1 (l:=(xF w).map zE8) (M:=66) (fun x hx=>by
   obtain ⟨r,hr,rfl⟩:=List.mem_map.1 hx
   exact recE_size (recW_ok h r hr))
  rw [List.length_map] at this
  have h2:(xF w).length * 66≤4000 * 66:=Nat.mul_le_mul_right _ hn
  omega
theorem wB_size {w:T_impl_Weave} (h:WR w) (hn:(xF w).length≤4000):(wB w).size≤300000:=by
 obtain ⟨a1,a2,a3,a4⟩:=wB_parts h hn
 unfold wB
 rw [ByteArray.size_append,ByteArray.size_append,ByteArray.size_append]
 omega
noncomputable def wTxt (w:T_impl_Weave):ByteArray×Bool:=if (xF w).length > 4000 then (ByteArray.mk #[],false) else sealT (wB w)
theorem weaveTextI {w:T_impl_Weave} (h:WR w):uL w=some (wTxt w):=by
 have hgl:=jH h.g
 unfold uL wTxt
 have e1:zO5 (T_impl_Weave.mk w.Parents w.Bodies)=some (recB w):=RecordsI (w:=w) (by omega) h.dsm
 rw [e1,Option.bind_some]
 unfold recB
 rw [if_pos (wOk_iff.2 h)]
 by_cases hn:(xF w).length > 4000
 ·rw [if_pos hn,if_pos hn]
  rfl
 rw [if_neg hn,if_neg hn]
 have hn':(xF w).length≤4000:=by omega
 obtain ⟨p1,p2,p3,p4⟩:=wB_parts h hn'
 have e3:(ByteArray.mk #[84,87,49]).size=3:=rfl
 have a1:=zA9 (n:=w.Parents.length) (by omega)
 simp only [Bool.not_true,Bool.false_eq_true,if_false]
 rw [zW6 (by omega),Option.bind_some,qB1 (by omega),Option.bind_some,qF9 (by rw [e0size,ByteArray.size_append]; omega),Option.bind_some,qG4]
 have l2:=qN5 (body:=fun (s':Int×ByteArray)=>xY w s'.1 s'.2) (l:=List.range w.Parents.length) (f:=verB w) (M:=29) (b0:=twB++encS w.Parents.length) (by rw [List.length_range]; omega) (fun v hv=>verB_size h (List.mem_range.1 hv)) (fun i v b hi hv hb=>by
  have hv':=List.mem_range.1 hv
  have hvi:v=i:=by
   have hlt:=(List.getElem?_eq_some_iff.1 hi).1
   rw [List.length_range] at hlt
   rw [List.getElem?_range hlt] at hi
   exact (zso hi).symm
  subst hvi
  obtain ⟨k1,k2,k3⟩:=qM7 h hv'
  have e:w.Parents.getD v []=w.Parents[v]:=qZ hv'
  have hp:=prS_size k1 k2
  have hz:=verB_size h hv'
  have hs:=qJ1 (jl (txt w v))
  have hj:=jl_txt h v
  have ht:=txt_len h v
  show xY w (v:Int) b=_
  unfold xY
  have e5:kM (T_impl_Weave.mk w.Parents w.Bodies) (v:Int)=some (txt w v):=by have:=weaveExtract h (v:=(v:Int)) (by omega) (by omega); rwa [Int.toNat_natCast] at this
  rw [ifT (by simpa using hv'),zD,List.getElem?_eq_getElem hv',Option.bind_some,← e,listTextI_eq k1 k2,Option.bind_some,e5,Option.bind_some,joinI_eq (by omega) (fun x hx=>qK4 (txt_ok h v x hx)),Option.bind_some,(s4_all (t:=jl (txt w v)) (by omega)).1,Option.bind_some,qB1 (by omega),Option.bind_some]
  rw [show prS (w.Parents.getD v [])++s4 (jl (txt w v))=verB w v from rfl,qF9 (by omega),Option.bind_some,wkS v (by omega)]) (fun b=>by
  show xY w _ b=_
  unfold xY
  rw [List.length_range,ifF (by simp)])
 have l2':zB (fun (s':Int×ByteArray)=>xY w s'.1 s'.2) (0,ByteArray.mk #[84,87,49]++encS w.Parents.length)=_:=l2
 rw [l2',Option.bind_some]
 unfold zL9
 simp only
 rw [zW6 (by omega),Option.bind_some,qF9 (by rw [ByteArray.size_append]; omega),Option.bind_some]
 have l1:=qN5 (body:=fun (s':Int×ByteArray)=>wE (xF w,true) s'.1 s'.2) (l:=xF w) (f:=zE8) (M:=66) (b0:=twB++encS w.Parents.length++cat ((List.range w.Parents.length).map (verB w))++encS (xF w).length) (by rw [ByteArray.size_append,ByteArray.size_append]; omega) (fun r hr=>recE_size (recW_ok h r hr)) (fun i r b hi hr hb=>by
  have hlt:=(List.getElem?_eq_some_iff.1 hi).1
  have hrk:=recW_ok h r hr
  have hz:=recE_size hrk
  show wE (xF w,true) i b=_
  unfold wE
  rw [ifT (by simpa using hlt)]
  simp only
  rw [zD,hi,Option.bind_some,recTextI hrk,Option.bind_some,qF9 (by omega),Option.bind_some,wkS i (by omega)]) (fun b=>by
  show wE (xF w,true) _ b=_
  unfold wE
  rw [ifF (by simp)])
 rw [l1,Option.bind_some]
 have hz:=wB_size h hn'
 show zF5 (wB w)=_
 unfold zF5 wA
 rw [Option.bind_some,(sealI (t:=wB w) (by omega)).1,Option.bind_some]
end Go.TV.F
namespace Go.TV.F
open Go.TV
theorem bl_tr:∀ {a b c:List UInt8},Op.bytesLess a b=true→Op.bytesLess b c=true→Op.bytesLess a c=true
 | [],[],_,h,_=>by simp [Op.bytesLess] at h
 | [],b :: y,[],_,h=>by simp [Op.bytesLess] at h
 | [],b :: y,c :: z,_,_=>by simp [Op.bytesLess]
 | a :: x,[],_,h,_=>by simp [Op.bytesLess] at h
 | a :: x,b :: y,[],_,h=>by simp [Op.bytesLess] at h
 | a :: x,b :: y,c :: z,h1,h2=>by
  have ih:=@bl_tr x y z
  simp only [Op.bytesLess,Bool.or_eq_true,decide_eq_true_eq,Bool.and_eq_true,beq_iff_eq] at h1 h2 ⊢
  rcases h1 with h1 | ⟨e1,h1⟩
  ·rcases h2 with h2 | ⟨e2,h2⟩
   ·left
    have g1:a.toNat < b.toNat:=h1
    have g2:b.toNat < c.toNat:=h2
    exact (show a.toNat < c.toNat by omega)
   ·left
    rw [← e2]
    exact h1
  ·rcases h2 with h2 | ⟨e2,h2⟩
   ·left
    rw [e1]
    exact h2
   ·right
    exact ⟨e1.trans e2,ih h1 h2⟩
def pLt (a b:T_impl_Name):Prop:=Op.bytesLess a.Path.toList b.Path.toList=true
def iNe (a b:T_impl_Name):Prop:=a.Id≠b.Id
structure NmOk (l:List T_impl_Name):Prop where
 s:l.Pairwise pLt
 i:l.Pairwise iNe
 p:∀ n ∈ l,pathB n.Path=true
theorem mem_putN {n y:T_impl_Name}:∀ {l:List T_impl_Name},y ∈ zG1 n l↔y=n∨(y ∈ l∧y.Id≠n.Id)
 | []=>by simp [zG1]
 | x :: l=>by
  have ih:=mem_putN (n:=n) (y:=y) (l:=l)
  unfold zG1
  cases q1:(x.Id == n.Id) with
  | true =>
   have hx:x.Id=n.Id:=by simpa using q1
   rw [if_pos rfl,ih,List.mem_cons]
   constructor
   ·rintro (h | ⟨h1,h2⟩)
    ·exact .inl h
    ·exact .inr ⟨.inr h1,h2⟩
   ·rintro (h | ⟨rfl | h1,h2⟩)
    ·exact .inl h
    ·exact absurd hx h2
    ·exact .inr ⟨h1,h2⟩
  | false =>
   have hx:x.Id≠n.Id:=by simpa using q1
   rw [if_neg (by simp)]
   cases q2:Op.bytesLess n.Path.toList x.Path.toList with
   | true =>
    rw [if_pos rfl]
    simp only [List.mem_cons,List.mem_filter,Bool.not_eq_true',beq_eq_false_iff_ne]
    constructor
    ·rintro (h | rfl | ⟨h1,h2⟩)
     ·exact .inl h
     ·exact .inr ⟨.inl rfl,hx⟩
     ·exact .inr ⟨.inr h1,h2⟩
    ·rintro (h | ⟨rfl | h1,h2⟩)
     ·exact .inl h
     ·exact .inr (.inl rfl)
     ·exact .inr (.inr ⟨h1,h2⟩)
   | false =>
    rw [if_neg (by simp),List.mem_cons,ih,List.mem_cons]
    constructor
    ·rintro (rfl | h | ⟨h1,h2⟩)
     ·exact .inr ⟨.inl rfl,hx⟩
     ·exact .inl h
     ·exact .inr ⟨.inr h1,h2⟩
    ·rintro (h | ⟨rfl | h1,h2⟩)
     ·exact .inr (.inl h)
     ·exact .inl rfl
     ·exact .inr (.inr ⟨h1,h2⟩)
theorem putN_sorted {n:T_impl_Name}:∀ {l:List T_impl_Name},l.Pairwise pLt→(∀ y ∈ l,y.Id≠n.Id→y.Path.toList≠n.Path.toList)→(zG1 n l).Pairwise pLt
 | [],_,_=>by simp [zG1]
 | x :: l,h,hne=>by
  have ih:=putN_sorted (n:=n) (l:=l) (List.pairwise_cons.1 h).2 (fun y hy=>hne y (List.mem_cons_of_mem _ hy))
  have hx0:=(List.pairwise_cons.1 h).1
  unfold zG1
  cases q1:(x.Id == n.Id) with
  | true=>rw [if_pos rfl]; exact ih
  | false =>
   have hx:x.Id≠n.Id:=by simpa using q1
   rw [if_neg (by simp)]
   cases q2:Op.bytesLess n.Path.toList x.Path.toList with
   | true =>
    rw [if_pos rfl]
    refine List.pairwise_cons.2 ⟨fun y hy=>?_,List.pairwise_cons.2 ⟨fun y hy=>hx0 y (List.mem_filter.1 hy).1,List.Pairwise.filter _ (List.pairwise_cons.1 h).2⟩⟩
    rcases List.mem_cons.1 hy with rfl | hy
    ·exact q2
    ·exact bl_tr q2 (hx0 y (List.mem_filter.1 hy).1)
   | false =>
    rw [if_neg (by simp)]
    refine List.pairwise_cons.2 ⟨fun y hy=>?_,ih⟩
    rcases mem_putN.1 hy with rfl | ⟨hy,_⟩
    ·have:=bl_tri x.Path.toList y.Path.toList
     rw [q2,Bool.not_false,Bool.or_eq_true] at this
     rcases this with h1 | h1
     ·exact h1
     ·exact absurd (by simpa using h1) (hne x (by simp) hx)
    ·exact hx0 y hy
theorem putN_ids {n:T_impl_Name}:∀ {l:List T_impl_Name},l.Pairwise iNe→(zG1 n l).Pairwise iNe
 | [],_=>by simp [zG1]
 | x :: l,h=>by
  have ih:=putN_ids (n:=n) (l:=l) (List.pairwise_cons.1 h).2
  have hx0:=(List.pairwise_cons.1 h).1
  unfold zG1
  cases q1:(x.Id == n.Id) with
  | true=>rw [if_pos rfl]; exact ih
  | false =>
   have hx:x.Id≠n.Id:=by simpa using q1
   rw [if_neg (by simp)]
   cases q2:Op.bytesLess n.Path.toList x.Path.toList with
   | true =>
    rw [if_pos rfl]
    refine List.pairwise_cons.2 ⟨fun y hy=>?_,List.pairwise_cons.2 ⟨fun y hy=>hx0 y (List.mem_filter.1 hy).1,List.Pairwise.filter _ (List.pairwise_cons.1 h).2⟩⟩
    rcases List.mem_cons.1 hy with rfl | hy
    ·exact fun e=>hx e.symm
    ·have:=(List.mem_filter.1 hy).2
     simp only [Bool.not_eq_true',beq_eq_false_iff_ne] at this
     exact fun e=>this e.symm
   | false =>
    rw [if_neg (by simp)]
    refine List.pairwise_cons.2 ⟨fun y hy=>?_,ih⟩
    rcases mem_putN.1 hy with rfl | ⟨hy,_⟩
    ·exact hx
    ·exact hx0 y hy
theorem NmOk.nil:NmOk []:=⟨List.Pairwise.nil,List.Pairwise.nil,fun _ h=>by cases h⟩
theorem qQ0 {l:List T_impl_Name} {p:ByteArray} (h:kV l p < 0):∀ y ∈ l,y.Path.toList≠p.toList:=fun y hy=>by
 have h0:=qA7 (fun n:T_impl_Name=>n.Path.toList == p.toList) l
 unfold kV at h
 have:=(qB3 (fun n:T_impl_Name=>n.Path.toList == p.toList) l).1 (by omega) y hy
 simpa using this
theorem NmOk.put {l:List T_impl_Name} (h:NmOk l) {n:T_impl_Name} (hp:pathB n.Path=true) (hn:∀ y ∈ l,y.Id≠n.Id→y.Path.toList≠n.Path.toList):NmOk (zG1 n l):=
 ⟨putN_sorted h.s hn,putN_ids h.i,fun y hy=>by
  rcases mem_putN.1 hy with rfl | ⟨hy,_⟩
  ·exact hp
  ·exact h.p y hy⟩
theorem namesB_iff {l:List T_impl_Name}:zV3 l=true↔l.length≤12∧NmOk l∧∀ n ∈ l,0≤n.Id∧n.Id≤11∧0≤n.Version∧n.Version≤39:=by
 constructor
 ·intro h
  have hs:∀ (d i:Nat) (hi:i+d+1 < l.length),pLt (l[i]'(by omega)) (l[i+d+1]'hi):=by
   intro d
   induction d with
   | zero =>
    intro i hi
    have:=qL9 h (k:=i+1) hi
    unfold nameAt at this
    rw [qZ hi,qZ (show i+1 - 1 < l.length by omega)] at this
    simp only [Bool.and_eq_true,Bool.or_eq_true,beq_iff_eq] at this
    rcases this.1.1.1.2 with q | q
    ·omega
    ·exact (show Op.bytesLess _ _=true by simpa using q)
   | succ d ih =>
    intro i hi
    refine bl_tr (ih i (by omega)) ?_
    have:=qL9 h (k:=i+(d+1)+1) hi
    unfold nameAt at this
    rw [qZ hi,qZ (show i+(d+1)+1 - 1 < l.length by omega)] at this
    simp only [Bool.and_eq_true,Bool.or_eq_true,beq_iff_eq] at this
    rcases this.1.1.1.2 with q | q
    ·omega
    ·have e:i+(d+1)+1 - 1=i+d+1:=by omega
     simpa [e] using q
  refine ⟨namesB_len h,⟨List.pairwise_iff_getElem.2 fun i j hi hj hij=>?_,List.pairwise_iff_getElem.2 fun i j hi hj hij=>?_,fun n hn=>(qM0 h hn).2.2.2.2⟩,fun n hn=>?_⟩
  ·have:=hs (j - i - 1) i (by omega)
   have e:i+(j - i - 1)+1=j:=by omega
   simpa [e] using this
  ·have:=qL9 h hj
   unfold nameAt at this
   simp only [Bool.and_eq_true,List.all_eq_true] at this
   have:=this.2 i (List.mem_range.2 hij)
   rw [qZ hi,qZ hj] at this
   simpa [iNe] using this
  ·have:=qM0 h hn
   exact ⟨this.1,this.2.1,this.2.2.1,this.2.2.2.1⟩
 ·rintro ⟨h1,h2,h3⟩
  unfold zV3
  rw [Bool.and_eq_true,decide_eq_true_eq,List.all_eq_true]
  refine ⟨h1,fun k hk=>?_⟩
  have hk:=List.mem_range.1 hk
  have hm:=List.getElem_mem hk
  obtain ⟨a1,a2,a3,a4⟩:=h3 _ hm
  unfold nameAt
  rw [qZ hk]
  simp only [Bool.and_eq_true,decide_eq_true_eq,Bool.or_eq_true,beq_iff_eq,List.all_eq_true]
  refine ⟨⟨⟨⟨h2.p _ hm,?_⟩,a1,a2⟩,a3,a4⟩,fun j hj=>?_⟩
  ·by_cases q:k=0
   ·exact .inl q
   ·right
    rw [qZ (show k - 1 < l.length by omega)]
    exact List.pairwise_iff_getElem.1 h2.s (k - 1) k (by omega) hk (by omega)
  ·have hj:=List.mem_range.1 hj
   rw [qZ (show j < l.length by omega)]
   have:=List.pairwise_iff_getElem.1 h2.i j k (by omega) hk hj
   simpa [iNe] using this
end Go.TV.F
namespace Go.TV.F
open Go.TV
theorem withN_le (x:Int):∀ l:List Int,(withN l x).length≤l.length+1
 | []=>by simp [withN]
 | y :: l=>by
  have ih:=withN_le x l
  unfold withN at *
  simp only [List.length_append,List.length_singleton,List.length_cons,List.filter_cons] at *
  by_cases h1:y < x
  ·have h2:¬y > x:=by omega
   simp only [h1,h2,decide_true,decide_false,if_true,Bool.false_eq_true,if_false,List.length_cons]
   omega
  ·by_cases h2:y > x
   ·simp only [h1,h2,decide_true,decide_false,if_true,Bool.false_eq_true,if_false,List.length_cons]
    omega
   ·simp only [h1,h2,decide_false,Bool.false_eq_true,if_false]
    omega
theorem mem_withN {l:List Int} {x y:Int} (h:y ∈ withN l x):y=x∨y ∈ l:=by
 unfold withN at h
 simp only [List.mem_append,List.mem_filter,List.mem_singleton] at h
 rcases h with (h | h) | h
 ·exact .inr h.1
 ·exact .inl h
 ·exact .inr h.1
theorem ofS_le {l:List T_impl_Commit} {id:Int} {out:List Int} {p:Int}:(ofS l id out p).length≤out.length+1:=by
 unfold ofS
 split
 ·omega
 ·refine Nat.le_trans (withN_le _ _) ?_
  have:=List.length_filter_le (fun x=>x != ((l.getD p.toNat bC).Names.getD (idN (l.getD p.toNat bC).Names id).toNat bN).Version) out
  omega
theorem ofN_le {l:List T_impl_Commit} {ps:List Int} {id:Int}:(ofN l ps id).length≤ps.length:=by
 have key:∀ (ps:List Int) (out:List Int),(ps.foldl (ofS l id) out).length≤out.length+ps.length:=by
  intro ps
  induction ps with
  | nil=>intro out; simp
  | cons p ps ih =>
   intro out
   rw [List.foldl_cons,List.length_cons]
   have:=ih (ofS l id out p)
   have:=ofS_le (l:=l) (id:=id) (out:=out) (p:=p)
   omega
 simpa [ofN] using key ps []
theorem idN_name {l:List T_impl_Name} {id:Int} (h:¬idN l id < 0):l.getD (idN l id).toNat bN ∈ l∧(l.getD (idN l id).toNat bN).Id=id:=by
 obtain ⟨h0,h1⟩:=idN_in h
 rw [qZ h1]
 refine ⟨List.getElem_mem h1,?_⟩
 have:=(qL8 (fun n:T_impl_Name=>n.Id == id) l (idN l id).toNat).1 (by unfold idN at *; omega)
 obtain ⟨h2,h3,_⟩:=this
 simpa using h3
theorem mem_ofN {l:List T_impl_Commit} {ps:List Int} {id v:Int} (h:v ∈ ofN l ps id):∃ p ∈ ps,∃ n ∈ (l.getD p.toNat bC).Names,n.Id=id∧n.Version=v:=by
 have key:∀ (ps:List Int) (out:List Int),v ∈ ps.foldl (ofS l id) out→v ∈ out∨∃ p ∈ ps,∃ n ∈ (l.getD p.toNat bC).Names,n.Id=id∧n.Version=v:=by
  intro ps
  induction ps with
  | nil=>intro out h; exact .inl h
  | cons p ps ih =>
   intro out h
   rw [List.foldl_cons] at h
   rcases ih _ h with h | ⟨p',h1,h2⟩
   ·unfold ofS at h
    split at h
    ·exact .inl h
    ·rename_i q
     rcases mem_withN h with h | h
     ·obtain ⟨g1,g2⟩:=idN_name q
      exact .inr ⟨p,by simp,_,g1,g2,h.symm⟩
     ·exact .inl (List.mem_filter.1 h).1
   ·exact .inr ⟨p',List.mem_cons_of_mem _ h1,h2⟩
 rcases key ps [] h with h | h
 ·cases h
 ·exact h
def pathS (l:List T_impl_Commit) (id:Int) (p:Int) (acc:ByteArray):ByteArray:=
 if idN (l.getD p.toNat bC).Names id < 0 then acc else ((l.getD p.toNat bC).Names.getD (idN (l.getD p.toNat bC).Names id).toNat bN).Path
def pathOf (l:List T_impl_Commit) (ps:List Int) (id:Int):ByteArray:=ps.foldr (pathS l id) (ByteArray.mk #[])
theorem pathOf_eq {l:List T_impl_Commit} (h:CsR l) {ps:List Int} (hp:∀ p ∈ ps,0≤p∧p.toNat < l.length) (hl:ps.length≤1000000) (id:Int) :
  zB (fun (s':ByteArray×Int)=>zJ8 l ps id s'.1 s'.2) ((ByteArray.mk #[]),(ps.length:Int) - 1)=some (pathOf l ps id):=by
 have run:∀ (m:Nat) (acc:ByteArray),m≤ps.length→zB (fun (s':ByteArray×Int)=>zJ8 l ps id s'.1 s'.2) (acc,(m:Int) - 1)=some ((ps.take m).foldr (pathS l id) acc):=by
  intro m
  induction m with
  | zero =>
   intro acc _
   rw [zX]
   simp only [zJ8]
   rw [ifF (by simp)]
   rfl
  | succ m ih =>
   intro acc hm
   have em:((m+1:Nat):Int) - 1=(m:Int):=by omega
   have hk:ps[m]? = some ps[m]:=List.getElem?_eq_getElem (by omega)
   obtain ⟨p0,p1⟩:=hp ps[m] (List.getElem_mem (by omega))
   have hn:=h.n (l.getD ps[m].toNat bC) (by rw [qZ p1]; exact List.getElem_mem p1)
   have et:(ps.take (m+1)).foldr (pathS l id) acc=(ps.take m).foldr (pathS l id) (pathS l id ps[m] acc):=by
    rw [List.take_add_one,hk,List.foldr_append]
    rfl
   rw [et,zX]
   simp only [zJ8]
   rw [em,ifT (by simp),zD,hk,Option.bind_some,geti_D (d:=bC) p0 p1,Option.bind_some,idS_eq (by omega),Option.bind_some,zQ (by omega) (by omega)]
   unfold pathS
   by_cases q:idN (l.getD ps[m].toNat bC).Names id < 0
   ·rw [ifF (decide_eq_false (by omega)),if_pos q]
    exact ih acc (by omega)
   ·obtain ⟨g1,g2⟩:=idN_in q
    rw [ifT (decide_eq_true (by omega)),if_neg q,geti_D (d:=bN) g1 g2,Option.bind_some]
    exact ih _ (by omega)
 have:=run ps.length (ByteArray.mk #[]) (Nat.le_refl _)
 rw [List.take_length] at this
 exact this
theorem pathOf_in {l:List T_impl_Commit} {ps:List Int} {id:Int} (h:ofN l ps id≠[]):∃ p ∈ ps,∃ n ∈ (l.getD p.toNat bC).Names,n.Id=id∧n.Path=pathOf l ps id:=by
 have hsome:∃ p ∈ ps,¬idN (l.getD p.toNat bC).Names id < 0:=by
  obtain ⟨v,hv⟩:=List.exists_mem_of_ne_nil _ h
  obtain ⟨p,hp,n,hn,e1,_⟩:=mem_ofN hv
  refine ⟨p,hp,fun q=>?_⟩
  have h0:=qA7 (fun n:T_impl_Name=>n.Id == id) (l.getD p.toNat bC).Names
  have:=(qB3 (fun n:T_impl_Name=>n.Id == id) (l.getD p.toNat bC).Names).1 (by unfold idN at q; omega) n hn
  simp [e1] at this
 have key:∀ (ps:List Int),(∃ p ∈ ps,¬idN (l.getD p.toNat bC).Names id < 0)→∃ p ∈ ps,∃ n ∈ (l.getD p.toNat bC).Names,n.Id=id∧n.Path=ps.foldr (pathS l id) (ByteArray.mk #[]):=by
  intro ps
  induction ps with
  | nil=>rintro ⟨p,hp,_⟩; cases hp
  | cons q ps ih =>
   intro hs
   rw [List.foldr_cons]
   by_cases e:idN (l.getD q.toNat bC).Names id < 0
   ·have:∃ p ∈ ps,¬idN (l.getD p.toNat bC).Names id < 0:=by
     obtain ⟨p,hp,hq⟩:=hs
     rcases List.mem_cons.1 hp with rfl | hp
     ·exact absurd e hq
     ·exact ⟨p,hp,hq⟩
    obtain ⟨p,hp,n,hn,e1,e2⟩:=ih this
    refine ⟨p,List.mem_cons_of_mem _ hp,n,hn,e1,?_⟩
    rw [e2]
    unfold pathS
    rw [if_pos e]
   ·obtain ⟨g1,g2⟩:=idN_name e
    refine ⟨q,by simp,_,g1,g2,?_⟩
    unfold pathS
    rw [if_neg e]
 exact key ps hsome
end Go.TV.F
namespace Go.TV.F
open Go.TV
theorem inv_loop {σ ρ:Type} {body:Int×σ→Option ((Int×σ)⊕ρ)} (n:Nat) (I:Nat→σ→Prop) (Q:ρ→Prop) (s0:σ) (h0:I 0 s0)
  (hs:∀ (k:Nat) (s:σ),k < n→I k s→(∃ s',body ((k:Int),s)=some (.inl (((k+1:Nat):Int),s'))∧I (k+1) s')∨∃ r,body ((k:Int),s)=some (.inr r)∧Q r)
  (he:∀ s,I n s→∃ r,body ((n:Int),s)=some (.inr r)∧Q r):∃ r,zB body (0,s0)=some r∧Q r:=by
 have key:∀ (m k:Nat) (s:σ),k+m=n→I k s→∃ r,zB body ((k:Int),s)=some r∧Q r:=by
  intro m
  induction m with
  | zero =>
   intro k s hk hI
   have:k=n:=by omega
   subst this
   obtain ⟨r,h1,h2⟩:=he s hI
   refine ⟨r,?_,h2⟩
   rw [zX,h1]
   rfl
  | succ m ih =>
   intro k s hk hI
   rcases hs k s (by omega) hI with ⟨s',h1,h2⟩ | ⟨r,h1,h2⟩
   ·obtain ⟨r,h3,h4⟩:=ih (k+1) s' (by omega) h2
    refine ⟨r,?_,h4⟩
    rw [zX,h1]
    exact h3
   ·refine ⟨r,?_,h2⟩
    rw [zX,h1]
    rfl
 exact key n 0 s0 (by omega) h0
def bW:T_impl_Weave:=⟨[],[]⟩
theorem cm_name {s:T_impl_Store} (h:yL s=true) {p:Int} (p1:p.toNat < s.Commits.length) {n:T_impl_Name} (hn:n ∈ (s.Commits.getD p.toNat bC).Names) :
  0≤n.Id∧n.Id.toNat < s.Files.length∧0≤n.Version∧n.Version < ((s.Files.getD n.Id.toNat bW).Parents.length:Int)∧pathB n.Path=true:=by
 have hc:=(qH1 h).2
 have hm:s.Commits.getD p.toNat bC ∈ s.Commits:=by rw [qZ p1]; exact List.getElem_mem p1
 unfold zQ2 at hc
 simp only [Bool.and_eq_true,List.all_eq_true] at hc
 have hb:=hc.2 _ hm
 unfold commitB at hb
 simp only [Bool.and_eq_true,List.all_eq_true] at hb
 obtain ⟨a1,a2,a3,a4,a5⟩:=qM0 hb.1.2 hn
 have hi:=hb.2 n hn
 unfold nameIn at hi
 simp only [Bool.not_eq_true',Bool.or_eq_false_iff,decide_eq_false_iff_not] at hi
 obtain ⟨h1,h2⟩:=hi
 have hl:(zR1 s).length=s.Files.length:=by unfold zR1; simp
 have hk:n.Id.toNat < s.Files.length:=by omega
 refine ⟨a1,hk,a3,?_,a5⟩
 have e:(zR1 s).getD n.Id.toNat 0=((s.Files.getD n.Id.toNat bW).Parents.length:Int):=by
  rw [qZ (by omega),qZ hk]
  unfold zR1
  rw [List.getElem_map]
 rw [e] at h2
 omega
theorem qO4 (n:T_impl_Name):∀ l:List T_impl_Name,(zG1 n l).length≤l.length+1
 | []=>by simp [zG1]
 | x :: l=>by
  have ih:=qO4 n l
  have hf:=List.length_filter_le (fun y:T_impl_Name=>!(y.Id == n.Id)) l
  unfold zG1
  split
  ·simp only [List.length_cons]; omega
  ·split
   ·simp only [List.length_cons]; omega
   ·simp only [List.length_cons]; omega
def nmIn (s:T_impl_Store) (n:T_impl_Name):Prop:=0≤n.Id∧n.Id.toNat < s.Files.length∧0≤n.Version∧n.Version < ((s.Files.getD n.Id.toNat bW).Parents.length:Int)
structure BaseOk (s:T_impl_Store) (names:List T_impl_Name) (opn:List Int):Prop where
 n:NmOk names
 i:∀ n ∈ names,nmIn s n
 o:∀ x ∈ opn,0≤x∧x.toNat < s.Files.length
 ln:names.length≤12
 lo:opn.length≤1000
theorem base_ok {s:T_impl_Store} (h:yL s=true) {ps:List Int} (hp:∀ p ∈ ps,0≤p∧p.toNat < s.Commits.length) (hl:ps.length≤4) :
  ∃ names opn code,qC1 s.Commits (s.Files.map fun w=>w.Parents) ps=some (names,opn,code)∧BaseOk s names opn:=by
 have hR:=(qH1 h).1
 have h12:=storeB_len h
 have hgl:(s.Files.map fun w=>w.Parents).length=s.Files.length:=by simp
 have hpl:∀ id:Int,(ofN s.Commits ps id).length≤ps.length:=fun id=>ofN_le
 have hloop:=inv_loop (body:=fun (s':Int×(List T_impl_Name)×(List Int))=>zS5 s.Commits (s.Files.map fun w=>w.Parents) ps s'.1 s'.2.1 s'.2.2) s.Files.length
  (fun k st=>NmOk st.1∧(∀ n ∈ st.1,nmIn s n∧n.Id < k)∧(∀ x ∈ st.2,0≤x∧x.toNat < s.Files.length)∧st.1.length≤k∧st.2.length≤4 * k)
  (fun r=>match r with | .inl c=>BaseOk s c.1 c.2.1 | .inr q=>BaseOk s q.1 q.2) ([],[]) ⟨NmOk.nil,fun n hn=>(by simp at hn),fun x hx=>(by simp at hx),by simp,by simp⟩ (fun k st hk hI=>by
  obtain ⟨names,opn⟩:=st
  obtain ⟨i1,i2,i3,i4,i5⟩:=hI
  simp only at i1 i2 i3 i4 i5
  have hpk:=hpl (k:Int)
  simp only [zS5]
  rw [ifT (by simpa using hk),of_eq hR hp hl,Option.bind_some]
  by_cases q:ofN s.Commits ps k=[]
  ·left
   refine ⟨(names,opn),?_,i1,fun n hn=>⟨(i2 n hn).1,by have:=(i2 n hn).2; omega⟩,i3,by simp only; omega,by simp only; omega⟩
   rw [q,ifT (by rfl)]
   unfold zT1
   rw [wkS k (by omega)]
  ·have hne:0 < (ofN s.Commits ps k).length:=List.length_pos_iff.2 q
   rw [ifF (by simp; omega),zQ (x:=(ps.length:Int) - 1) (by omega) (by omega),pathOf_eq hR hp (by omega),Option.bind_some]
   obtain ⟨p,hpp,m,hm,e1,e2⟩:=pathOf_in q
   have hpb:=(cm_name h (hp p hpp).2 hm).2.2.2.2
   rw [e2] at hpb
   have hver:∀ v ∈ ofN s.Commits ps k,0≤v∧v < ((s.Files.getD k bW).Parents.length:Int):=fun v hv=>by
    obtain ⟨p,hpp,n,hn,e3,e4⟩:=mem_ofN hv
    have:=cm_name h (hp p hpp).2 hn
    rw [e3,e4] at this
    simpa using ⟨this.2.2.1,this.2.2.2.1⟩
   have hW:WR (s.Files.getD k bW):=by rw [qZ hk]; exact qM9 h (List.getElem_mem hk)
   unfold qL4
   rw [zQ (by omega) (by omega)]
   obtain ⟨x,hx⟩:∃ x,(ofN s.Commits ps k)[(ofN s.Commits ps k).length - 1]? = some x:=⟨_,List.getElem?_eq_getElem (by omega)⟩
   have hxv:=hver x (List.mem_of_getElem? hx)
   have e5:((ofN s.Commits ps k).length:Int) - 1=(((ofN s.Commits ps k).length - 1:Nat):Int):=by omega
   have e6:(s.Files.map fun w=>w.Parents)[k]? = some (s.Files.getD k bW).Parents:=by rw [List.getElem?_map,qZ hk,List.getElem?_eq_getElem hk]; rfl
   rw [e5,zD,hx,Option.bind_some,zD,e6,Option.bind_some,qA9 hW.g (by simp),Option.bind_some]
   have hsl:=setL_len (s.Files.getD k bW).Parents [x]
   obtain ⟨o2,g1,g2,g3⟩:=inv_loop (body:=fun (s':Int×(List Int))=>zT3 k (ofN s.Commits ps k) (uZ (s.Files.getD k bW).Parents [x]) s'.1 s'.2) (ofN s.Commits ps k).length
    (fun j o=>(∀ x ∈ o,0≤x∧x.toNat < s.Files.length)∧o.length≤opn.length+j) (fun o=>(∀ x ∈ o,0≤x∧x.toNat < s.Files.length)∧o.length≤opn.length+(ofN s.Commits ps k).length) opn ⟨i3,by omega⟩ (fun j o hj hI=>by
    left
    have hy:(ofN s.Commits ps k)[j]? = some (ofN s.Commits ps k)[j]:=List.getElem?_eq_getElem hj
    obtain ⟨v0,v1⟩:=hver _ (List.getElem_mem hj)
    have hf:=List.length_filter_le (fun y=>y != (k:Int)) o
    simp only [zT3]
    rw [ifT (by simpa using hj),zD,hy,Option.bind_some,geti_D (d:=false) v0 (by omega),Option.bind_some,qR0 (by omega),wkS j (by omega)]
    cases hb:(uZ (s.Files.getD k bW).Parents [x]).getD ((ofN s.Commits ps k)[j]).toNat false with
    | true=>exact ⟨o,by rw [ifF (by rfl)],hI.1,by omega⟩
    | false =>
     refine ⟨withN (o.filter fun y=>y != (k:Int)) k,?_,fun y hy=>?_,?_⟩
     ·rw [ifT (by rfl),Option.bind_some,with_eq (by omega),Option.bind_some]
     ·rcases mem_withN hy with rfl | hy
      ·exact ⟨by omega,by omega⟩
      ·exact hI.1 y (List.mem_filter.1 hy).1
     ·have:=withN_le (k:Int) (o.filter fun y=>y != (k:Int))
      omega) (fun o hI=>⟨o,by
    simp only [zT3]
    rw [ifF (by simp)],hI⟩)
   rw [g1,Option.bind_some]
   unfold qM3
   rw [pAtS_eq (by omega),Option.bind_some]
   by_cases q3:kV names (pathOf s.Commits ps k) < 0
   ·left
    refine ⟨(zG1 ⟨pathOf s.Commits ps k,k,x⟩ names,o2),?_,i1.put hpb (fun y hy _=>qQ0 q3 y hy),fun n hn=>?_,g2,?_,?_⟩
    ·rw [ifF (decide_eq_false (by omega)),put_eq (by omega),Option.bind_some]
     unfold zT1
     rw [wkS k (by omega)]
    ·rcases mem_putN.1 hn with rfl | ⟨hn,_⟩
     ·exact ⟨⟨by simp only; omega,by simpa using hk,hxv.1,by simpa using hxv.2⟩,by simp only; omega⟩
     ·exact ⟨(i2 n hn).1,by have:=(i2 n hn).2; omega⟩
    ·have:=qO4 ⟨pathOf s.Commits ps k,k,x⟩ names
     simp only
     omega
    ·simp only
     omega
   ·right
    refine ⟨.inl ([],[],3),?_,NmOk.nil,fun n hn=>(by simp at hn),fun x hx=>(by simp at hx),by simp,by simp⟩
    rw [ifT (decide_eq_true (by omega))]) (fun st hI=>by
  obtain ⟨names,opn⟩:=st
  obtain ⟨i1,i2,i3,i4,i5⟩:=hI
  simp only at i1 i2 i3 i4 i5
  refine ⟨.inr (names,opn),?_,i1,fun n hn=>(i2 n hn).1,i3,by simp only; omega,by simp only; omega⟩
  simp only [zS5]
  rw [ifF (by simp)])
 obtain ⟨r,h1,h2⟩:=hloop
 unfold qC1
 rw [h1,Option.bind_some]
 cases r with
 | inl c=>exact ⟨c.1,c.2.1,c.2.2,rfl,h2⟩
 | inr q=>exact ⟨q.1,q.2,0,rfl,h2⟩
end Go.TV.F
namespace Go.TV.F
open Go.TV
def nmPl (s:T_impl_Store) (files:Int) (n:T_impl_Name):Prop:=0≤n.Id∧n.Id < files∧(n.Id < (s.Files.length:Int)→0≤n.Version∧n.Version < ((s.Files.getD n.Id.toNat bW).Parents.length:Int))∧(¬n.Id < (s.Files.length:Int)→n.Version=0)
structure PlanOk (s:T_impl_Store) (chs:List T_impl_Change) (k:Nat) (names:List T_impl_Name) (lines:List Int) (files:Int):Prop where
 n:NmOk names
 i:∀ n ∈ names,nmPl s files n
 ll:(lines.length:Int)=files
 f0:(s.Files.length:Int)≤files
 f1:files≤s.Files.length+k
 le:∀ x ∈ lines,x < 0∨(0≤x∧∃ c,chs[x.toNat]? = some c∧c.Kind≤2)
 nw:∀ (j:Nat) (hj:j < lines.length),s.Files.length≤j→0≤lines[j]
 ln:names.length≤12+k
theorem NmOk.sub {l m:List T_impl_Name} (h:NmOk l) (hs:m.Sublist l):NmOk m:=⟨h.s.sublist hs,h.i.sublist hs,fun n hn=>h.p n (hs.subset hn)⟩
theorem pathN_mem {l:List T_impl_Name} {p:ByteArray} (h:¬kV l p < 0):l.getD (kV l p).toNat bN ∈ l∧(l.getD (kV l p).toNat bN).Path.toList=p.toList:=by
 obtain ⟨h0,h1⟩:=pathN_in h
 rw [qZ h1]
 refine ⟨List.getElem_mem h1,?_⟩
 have:=(qL8 (fun n:T_impl_Name=>n.Path.toList == p.toList) l (kV l p).toNat).1 (by unfold kV at *; omega)
 obtain ⟨h2,h3,_⟩:=this
 simpa using h3
end Go.TV.F
namespace Go.TV.F
open Go.TV
def foldO {σ:Type} (f:Nat→σ→Option σ):Nat→σ→Option σ
 | 0,s=>some s
 | n+1,s=>(foldO f n s).bind (f n)
structure ChSm (chs:List T_impl_Change):Prop where
 l:chs.length≤1000000
 p:∀ c ∈ chs,c.Path.size≤1000000000∧c.To.size≤1000000000
 n:∀ c ∈ chs,c.Lines.length≤1000000
 s:∀ c ∈ chs,∀ x ∈ c.Lines,x.size≤1000000000
def bCh:T_impl_Change:=⟨0,ByteArray.mk #[],ByteArray.mk #[],[]⟩
def planStep (chs:List T_impl_Change) (k:Nat) (p:List T_impl_Name×List Int×Int):Option (List T_impl_Name×List Int×Int):=
 let x:=chs.getD k bCh
 if ((!pathB x.Path || (x.Kind == 4 && !pathB x.To)) || (decide (kV p.1 x.Path≥0) == (x.Kind == 1)))=true then none
 else if x.Kind=1 then some (zG1 ⟨x.Path,p.2.2,0⟩ p.1,p.2.1++[(k:Int)],p.2.2+1)
 else if x.Kind=2 then
  (if 0≤p.2.1.getD (p.1.getD (kV p.1 x.Path).toNat bN).Id.toNat 0 then none else some (p.1,p.2.1.set (p.1.getD (kV p.1 x.Path).toNat bN).Id.toNat (k:Int),p.2.2))
 else if x.Kind=3 then some (p.1.take (kV p.1 x.Path).toNat++p.1.drop ((kV p.1 x.Path).toNat+1),p.2.1,p.2.2)
 else if x.Kind=4 then
  (if 0≤kV p.1 x.To then none else some (zG1 ⟨x.To,(p.1.getD (kV p.1 x.Path).toNat bN).Id,(p.1.getD (kV p.1 x.Path).toNat bN).Version⟩ p.1,p.2.1,p.2.2))
 else some p
theorem nmPl.mono {s:T_impl_Store} {f g:Int} {n:T_impl_Name} (h:nmPl s f n) (hg:f≤g):nmPl s g n:=⟨h.1,by have:=h.2.1; omega,h.2.2⟩
theorem PlanOk.step {s:T_impl_Store} {chs:List T_impl_Change} {k:Nat} {p q:List T_impl_Name×List Int×Int} (h:PlanOk s chs k p.1 p.2.1 p.2.2) (hk:k < chs.length) (e:planStep chs k p=some q):PlanOk s chs (k+1) q.1 q.2.1 q.2.2:=by
 have hx:chs[k]? = some (chs.getD k bCh):=by rw [qZ hk]; exact List.getElem?_eq_getElem hk
 unfold planStep at e
 simp only at e
 split at e
 ·cases e
 rename_i q0
 simp only [Bool.or_eq_true,not_or,Bool.and_eq_true,Bool.not_eq_true',not_and,Bool.not_eq_false] at q0
 obtain ⟨⟨a1,a2⟩,a3⟩:=q0
 have h0:=h.f0
 have h1:=h.f1
 have hll:=h.ll
 have hln:=h.ln
 split at e
 ·rename_i k1
  injection e with e
  subst e
  have q1:kV p.1 (chs.getD k bCh).Path < 0:=by
   rw [k1] at a3
   simpa using a3
  refine ⟨h.n.put a1 (fun y hy _=>qQ0 q1 y hy),fun n hn=>?_,by simp; omega,by simp only; omega,by simp only; omega,fun x hx2=>?_,fun j hj hj2=>?_,?_⟩
  ·rcases mem_putN.1 hn with rfl | ⟨hn,_⟩
   ·exact ⟨by simp only; omega,by simp only; omega,fun z=>by simp only at z; omega,fun _=>rfl⟩
   ·exact (h.i n hn).mono (by simp only; omega)
  ·rcases List.mem_append.1 hx2 with hx2 | hx2
   ·exact h.le x hx2
   ·right
    rw [List.mem_singleton.1 hx2]
    exact ⟨by omega,chs.getD k bCh,by rw [Int.toNat_natCast]; exact hx,by omega⟩
  ·rw [List.getElem_append]
   split
   ·exact h.nw j _ hj2
   ·rw [List.getElem_singleton]
    omega
  ·have:=qO4 ⟨(chs.getD k bCh).Path,p.2.2,0⟩ p.1
   simp only
   omega
 ·rename_i k1
  have q1:¬kV p.1 (chs.getD k bCh).Path < 0:=by
   intro q
   apply a3
   have:(decide (kV p.1 (chs.getD k bCh).Path≥0))=false:=decide_eq_false (by omega)
   rw [this]
   simpa using k1
  obtain ⟨m1,m2⟩:=pathN_mem q1
  have hm:=h.i _ m1
  split at e
  ·rename_i k2
   split at e
   ·cases e
   ·rename_i q2
    injection e with e
    subst e
    refine ⟨h.n,fun n hn=>h.i n hn,by simpa using hll,h0,by simp only; omega,fun x hx2=>?_,fun j hj hj2=>?_,by simp only; omega⟩
    ·rcases List.mem_or_eq_of_mem_set hx2 with hx2 | rfl
     ·exact h.le x hx2
     ·exact .inr ⟨by omega,chs.getD k bCh,by rw [Int.toNat_natCast]; exact hx,by omega⟩
    ·rw [List.getElem_set]
     split
     ·omega
     ·exact h.nw j (by simpa using hj) hj2
  ·split at e
   ·injection e with e
    subst e
    have hsub:(p.1.take (kV p.1 (chs.getD k bCh).Path).toNat++p.1.drop ((kV p.1 (chs.getD k bCh).Path).toNat+1)).Sublist p.1:=by
     conv=>rhs; rw [← List.take_append_drop (kV p.1 (chs.getD k bCh).Path).toNat p.1]
     exact List.Sublist.append_left (List.drop_sublist_drop_left _ (by omega)) _
    refine ⟨h.n.sub hsub,fun n hn=>h.i n (hsub.subset hn),hll,h0,by simp only; omega,h.le,h.nw,?_⟩
    have:=hsub.length_le
    simp only
    omega
   ·split at e
    ·rename_i k4
     split at e
     ·cases e
     ·rename_i q2
      injection e with e
      subst e
      refine ⟨h.n.put (by simpa using a2 (by simpa using k4)) (fun y hy _=>qQ0 (show kV p.1 (chs.getD k bCh).To < 0 by omega) y hy),fun n hn=>?_,hll,h0,by simp only; omega,h.le,h.nw,?_⟩
      ·rcases mem_putN.1 hn with rfl | ⟨hn,_⟩
       ·exact hm
       ·exact h.i n hn
      ·have:=qO4 ⟨(chs.getD k bCh).To,(p.1.getD (kV p.1 (chs.getD k bCh).Path).toNat bN).Id,(p.1.getD (kV p.1 (chs.getD k bCh).Path).toNat bN).Version⟩ p.1
       simp only
       omega
    ·injection e with e
     subst e
     exact ⟨h.n,h.i,hll,h0,by omega,h.le,h.nw,by omega⟩
def kindB (c:T_impl_Change):Bool:=decide (1≤c.Kind) && decide (c.Kind≤4)
def planF (chs:List T_impl_Change) (p:List T_impl_Name×List Int×Int):Option (List T_impl_Name×List Int×Int):=
 if chs.length > 8 then none else if chs.all kindB=true then foldO (planStep chs) chs.length p else none
theorem foldO_inv {σ:Type} {f:Nat→σ→Option σ} (I:Nat→σ→Prop) (N:Nat) (hs:∀ k s s',k < N→I k s→f k s=some s'→I (k+1) s'):∀ (n:Nat) (s s':σ),n≤N→I 0 s→foldO f n s=some s'→I n s'
 | 0,s,s',_,h0,e=>by
  injection e with e
  subst e
  exact h0
 | n+1,s,s',hn,h0,e=>by
  unfold foldO at e
  cases q:foldO f n s with
  | none=>rw [q] at e; cases e
  | some t =>
   rw [q] at e
   exact hs n t s' (by omega) (foldO_inv I N hs n s t (by omega) h0 q) e
theorem planF_ok {s:T_impl_Store} {chs:List T_impl_Change} {p q:List T_impl_Name×List Int×Int} (h:PlanOk s chs 0 p.1 p.2.1 p.2.2) (e:planF chs p=some q):PlanOk s chs chs.length q.1 q.2.1 q.2.2∧chs.length≤8:=by
 unfold planF at e
 split at e
 ·cases e
 ·split at e
  ·exact ⟨foldO_inv (fun k p=>PlanOk s chs k p.1 p.2.1 p.2.2) chs.length (fun k p q hk h e=>h.step hk e) chs.length p q (Nat.le_refl _) h e,by omega⟩
  ·cases e
end Go.TV.F
namespace Go.TV.F
open Go.TV
def lns (l:List ByteArray):Bool:=decide (l.length≤80) && l.all qK
def setV (l:List T_impl_Name) (id v:Int):List T_impl_Name:=
 if idN l id < 0 then l else l.set (idN l id).toNat ⟨(l.getD (idN l id).toNat bN).Path,(l.getD (idN l id).toNat bN).Id,v⟩
theorem setV_map (l:List T_impl_Name) (id v:Int):(setV l id v).map (fun n=>(n.Path,n.Id))=l.map fun n=>(n.Path,n.Id):=by
 unfold setV
 split
 ·rfl
 ·rename_i q
  obtain ⟨g1,g2⟩:=idN_in q
  rw [List.map_set]
  have e:((l.getD (idN l id).toNat bN).Path,(l.getD (idN l id).toNat bN).Id)=(l.map fun n=>(n.Path,n.Id))[(idN l id).toNat]'(by simpa using g2):=by
   rw [List.getElem_map,qZ g2]
  show (l.map fun n=>(n.Path,n.Id)).set (idN l id).toNat ((l.getD (idN l id).toNat bN).Path,(l.getD (idN l id).toNat bN).Id)=_
  rw [e,List.set_getElem_self]
theorem NmOk.ofMap {l m:List T_impl_Name} (h:NmOk l) (e:m.map (fun n=>(n.Path,n.Id))=l.map fun n=>(n.Path,n.Id)):NmOk m:=by
 have h1:=h.s
 have h2:=h.i
 refine ⟨?_,?_,fun n hn=>?_⟩
 ·have a:(l.map fun n=>(n.Path,n.Id)).Pairwise (fun x y=>Op.bytesLess x.1.toList y.1.toList=true):=List.pairwise_map.2 h1
  rw [← e] at a
  exact (List.pairwise_map (f:=fun n:T_impl_Name=>(n.Path,n.Id))).1 a
 ·have a:(l.map fun n=>(n.Path,n.Id)).Pairwise (fun x y=>x.2≠y.2):=List.pairwise_map.2 h2
  rw [← e] at a
  exact (List.pairwise_map (f:=fun n:T_impl_Name=>(n.Path,n.Id))).1 a
 ·have:(n.Path,n.Id) ∈ m.map fun n=>(n.Path,n.Id):=List.mem_map.2 ⟨n,hn,rfl⟩
  rw [e] at this
  obtain ⟨y,hy,e2⟩:=List.mem_map.1 this
  injection e2 with e2 _
  rw [← e2]
  exact h.p y hy
theorem setV_len (l:List T_impl_Name) (id v:Int):(setV l id v).length=l.length:=by
 have:=congrArg List.length (setV_map l id v)
 simpa using this
theorem mem_setV {l:List T_impl_Name} {id v:Int} {n:T_impl_Name} (h:n ∈ setV l id v):n ∈ l∨(n.Id=id∧n.Version=v):=by
 unfold setV at h
 split at h
 ·exact .inl h
 ·rename_i q
  rcases List.mem_or_eq_of_mem_set h with h | rfl
  ·exact .inl h
  ·exact .inr ⟨(idN_name q).2,rfl⟩
theorem addAll_v {w:T_impl_Weave} {p:List Int} {lines:List ByteArray} (h0:(xB w p lines).2.2=0):(xB w p lines).2.1=w.Parents.length:=by
 unfold xB at h0 ⊢
 split at h0
 ·rename_i q1
  rw [if_pos q1]
  split at h0
  ·rename_i q2
   rw [if_pos q2]
   split at h0
   ·cases h0
   ·rename_i q3
    rw [if_neg q3]
    unfold addR at h0 ⊢
    simp only at h0 ⊢
    split at h0
    ·cases h0
    ·rename_i q4
     rw [if_neg q4]
  ·cases h0
 ·cases h0
noncomputable def qQ3 (s:T_impl_Store) (ps:List Int) (chs:List T_impl_Change) (lines:List Int) (id:Nat) (p:List T_impl_Name×List T_impl_Weave):Option (List T_impl_Name×List T_impl_Weave):=
 if lines.getD id 0 < 0 then some p
 else
  if (xB (if id < s.Files.length then s.Files.getD id bW else w0) (if id < s.Files.length then ofN s.Commits ps id else []) (chs.getD (lines.getD id 0).toNat bCh).Lines).2.2=0 then
   some (setV p.1 id (xB (if id < s.Files.length then s.Files.getD id bW else w0) (if id < s.Files.length then ofN s.Commits ps id else []) (chs.getD (lines.getD id 0).toNat bCh).Lines).2.1,
    if id < s.Files.length then p.2.set id (xB (if id < s.Files.length then s.Files.getD id bW else w0) (if id < s.Files.length then ofN s.Commits ps id else []) (chs.getD (lines.getD id 0).toNat bCh).Lines).1
    else p.2++[(xB (if id < s.Files.length then s.Files.getD id bW else w0) (if id < s.Files.length then ofN s.Commits ps id else []) (chs.getD (lines.getD id 0).toNat bCh).Lines).1])
  else none
structure FileI (s:T_impl_Store) (files:Int) (k:Nat) (names:List T_impl_Name) (out:List T_impl_Weave):Prop where
 ol:out.length=max s.Files.length k
 wr:∀ w ∈ out,WR w∧0 < w.Parents.length
 ge:∀ j,j < s.Files.length→(s.Files.getD j bW).Parents.length≤(out.getD j bW).Parents.length
 st:∀ j,k≤j→j < s.Files.length→out.getD j bW=s.Files.getD j bW
 n:NmOk names
 i:∀ n ∈ names,0≤n.Id∧n.Id < files∧0≤n.Version∧(n.Id.toNat < out.length→n.Version < ((out.getD n.Id.toNat bW).Parents.length:Int))∧(out.length≤n.Id.toNat→n.Version=0)
 ln:names.length≤20
theorem storeB_nz {s:T_impl_Store} (h:yL s=true) {w:T_impl_Weave} (hw:w ∈ s.Files):0 < w.Parents.length:=by
 unfold yL at h
 simp only [Bool.and_eq_true,List.all_eq_true] at h
 have:=h.1.2 w hw
 unfold fileB at this
 simp only [Bool.and_eq_true,Bool.not_eq_true',beq_eq_false_iff_ne] at this
 omega
theorem FileI.start {s:T_impl_Store} (h:yL s=true) {chs:List T_impl_Change} {p:List T_impl_Name×List Int×Int} (hp:PlanOk s chs chs.length p.1 p.2.1 p.2.2) (h8:chs.length≤8):FileI s p.2.2 0 p.1 s.Files:=by
 refine ⟨by omega,fun w hw=>⟨qM9 h hw,storeB_nz h hw⟩,fun j _=>Nat.le_refl _,fun j _ _=>rfl,hp.n,fun n hn=>?_,by have:=hp.ln; omega⟩
 obtain ⟨a1,a2,a3,a4⟩:=hp.i n hn
 refine ⟨a1,a2,?_,fun z=>(a3 (by omega)).2,fun z=>a4 (by omega)⟩
 by_cases q:n.Id < (s.Files.length:Int)
 ·exact (a3 q).1
 ·rw [a4 q]
  omega
theorem FileI.step {s:T_impl_Store} (h:yL s=true) {ps:List Int} {chs:List T_impl_Change} {p:List T_impl_Name×List Int×Int} (hp:PlanOk s chs chs.length p.1 p.2.1 p.2.2) {k:Nat} (hk:(k:Int) < p.2.2) {st q:List T_impl_Name×List T_impl_Weave} (hI:FileI s p.2.2 k st.1 st.2) (e:qQ3 s ps chs p.2.1 k st=some q):FileI s p.2.2 (k+1) q.1 q.2:=by
 have hll:=hp.ll
 have hkl:k < p.2.1.length:=by omega
 have hol:=hI.ol
 unfold qQ3 at e
 split at e
 ·rename_i q0
  injection e with e
  subst e
  have hks:k < s.Files.length:=by
   rcases Nat.lt_or_ge k s.Files.length with z | z
   ·exact z
   ·have:=hp.nw k hkl z
    rw [qZ hkl] at q0
    omega
  exact ⟨by omega,hI.wr,hI.ge,fun j hj hjs=>hI.st j (by omega) hjs,hI.n,hI.i,hI.ln⟩
 ·rename_i q0
  by_cases q2:k < s.Files.length
  ·simp only [if_pos q2] at e
   split at e
   ·rename_i q1
    injection e with e
    subst e
    have hm:s.Files.getD k bW ∈ s.Files:=by rw [qZ q2]; exact List.getElem_mem q2
    obtain ⟨a1,a2⟩:=addAll_ok (qM9 h hm) q1
    have a3:=addAll_v q1
    have hko:k < st.2.length:=by omega
    have eo:∀ j,(st.2.set k (xB (s.Files.getD k bW) (ofN s.Commits ps ↑k) (chs.getD (p.2.1.getD k 0).toNat bCh).Lines).1).getD j bW=if j=k then (xB (s.Files.getD k bW) (ofN s.Commits ps ↑k) (chs.getD (p.2.1.getD k 0).toNat bCh).Lines).1 else st.2.getD j bW:=by
     intro j
     rw [List.getD_eq_getElem?_getD,List.getElem?_set,List.getD_eq_getElem?_getD]
     by_cases z:j=k
     ·subst z
      simp [hko]
     ·have z2:¬k=j:=fun z3=>z z3.symm
      simp [z,z2]
    have hst:=hI.st k (Nat.le_refl _) q2
    refine ⟨by rw [List.length_set]; omega,fun w hw=>?_,fun j hj=>?_,fun j hj hjs=>?_,hI.n.ofMap (setV_map _ _ _),fun n hn=>?_,by rw [setV_len]; exact hI.ln⟩
    ·rcases List.mem_or_eq_of_mem_set hw with hw | rfl
     ·exact hI.wr w hw
     ·exact ⟨a1,by rw [a2,List.length_append,List.length_singleton]; omega⟩
    ·rw [eo]
     split
     ·rename_i z
      subst z
      rw [a2,List.length_append]
      omega
     ·exact hI.ge j hj
    ·rw [eo,if_neg (by omega)]
     exact hI.st j (by omega) hjs
    ·rcases mem_setV hn with hn | ⟨e1,e2⟩
     ·obtain ⟨b1,b2,b3,b4,b5⟩:=hI.i n hn
      refine ⟨b1,b2,b3,fun z=>?_,fun z=>b5 (by rw [List.length_set] at z; exact z)⟩
      rw [List.length_set] at z
      have:=b4 z
      rw [eo]
      split
      ·rename_i y
       rw [y,hst] at this
       rw [a2,List.length_append]
       omega
      ·exact this
     ·refine ⟨by omega,by omega,by omega,fun z=>?_,fun z=>?_⟩
      ·have:n.Id.toNat=k:=by omega
       rw [eo,if_pos this,a2,List.length_append,List.length_singleton,e2,a3]
       omega
      ·rw [List.length_set] at z
       omega
   ·cases e
  ·simp only [if_neg q2] at e
   split at e
   ·rename_i q1
    injection e with e
    subst e
    obtain ⟨a1,a2⟩:=addAll_ok w0_ok q1
    have a3:=addAll_v q1
    have a4:(xB w0 [] (chs.getD (p.2.1.getD k 0).toNat bCh).Lines).1.Parents.length=1:=by rw [a2]; rfl
    have a5:(xB w0 [] (chs.getD (p.2.1.getD k 0).toNat bCh).Lines).2.1=0:=by rw [a3]; rfl
    have hkk:st.2.length=k:=by omega
    have eo:∀ j,(st.2++[(xB w0 [] (chs.getD (p.2.1.getD k 0).toNat bCh).Lines).1]).getD j bW=if j=k then (xB w0 [] (chs.getD (p.2.1.getD k 0).toNat bCh).Lines).1 else st.2.getD j bW:=by
     intro j
     by_cases z:j=k
     ·rw [if_pos z,List.getD_eq_getElem?_getD,List.getElem?_append_right (by omega),show j - st.2.length=0 by omega]
      rfl
     ·rw [if_neg z]
      by_cases z2:j < st.2.length
      ·rw [List.getD_eq_getElem?_getD,List.getElem?_append_left z2,List.getD_eq_getElem?_getD]
      ·rw [List.getD_eq_getElem?_getD,List.getElem?_append_right (by omega),List.getElem?_eq_none (by rw [List.length_singleton]; omega),List.getD_eq_getElem?_getD,List.getElem?_eq_none (show st.2.length≤j by omega)]
    refine ⟨by rw [List.length_append,List.length_singleton]; omega,fun w hw=>?_,fun j hj=>?_,fun j hj hjs=>by omega,hI.n.ofMap (setV_map _ _ _),fun n hn=>?_,by rw [setV_len]; exact hI.ln⟩
    ·rcases List.mem_append.1 hw with hw | hw
     ·exact hI.wr w hw
     ·rw [List.mem_singleton.1 hw]
      exact ⟨a1,by omega⟩
    ·rw [eo,if_neg (by omega)]
     exact hI.ge j hj
    ·rcases mem_setV hn with hn | ⟨e1,e2⟩
     ·obtain ⟨b1,b2,b3,b4,b5⟩:=hI.i n hn
      refine ⟨b1,b2,b3,fun z=>?_,fun z=>b5 (by rw [List.length_append,List.length_singleton] at z; omega)⟩
      rw [List.length_append,List.length_singleton] at z
      rw [eo]
      split
      ·rename_i y
       rw [b5 (by omega),a4]
       omega
      ·exact b4 (by omega)
     ·refine ⟨by omega,by omega,by omega,fun z=>?_,fun z=>?_⟩
      ·have:n.Id.toNat=k:=by omega
       rw [eo,if_pos this,e2,a5,a4]
       omega
      ·rw [List.length_append,List.length_singleton] at z
       omega
   ·cases e
noncomputable def qG8 (s:T_impl_Store) (ps:List Int):List T_impl_Name×List Int×Int:=(qC1 s.Commits (s.Files.map fun w=>w.Parents) ps).getD ([],[],0)
noncomputable def planOf (s:T_impl_Store) (ps:List Int) (chs:List T_impl_Change):Option (List T_impl_Name×List Int×Int):=
 if (qG8 s ps).2.2=0 then planF chs ((qG8 s ps).1,List.replicate s.Files.length (-1),s.Files.length) else none
def linesB2 (c:T_impl_Change):Bool:=!decide (c.Kind≤2) || lns c.Lines
def openB (p:List T_impl_Name×List Int×Int) (x:Int):Bool:=!(decide (p.2.1.getD x.toNat 0 < 0) && decide (0≤idN p.1 x))
noncomputable def commitF (s:T_impl_Store) (ps:List Int) (note:ByteArray) (chs:List T_impl_Change):T_impl_Store×Int×Int:=
 if (decide (ps.length≤4) && jW ps s.Commits.length)=true then
  if noteB note=true then
   match planOf s ps chs with
   | none=>(⟨[],[]⟩,0,4)
   | some p =>
    if chs.all linesB2=true then
     if (qG8 s ps).2.1.all (openB p)=true then
      if p.2.2 > 12∨s.Commits.length=40 then (⟨[],[]⟩,0,7)
      else match foldO (qQ3 s ps chs p.2.1) p.2.2.toNat (p.1,s.Files) with
       | none=>(⟨[],[]⟩,0,7)
       | some q=>(⟨s.Commits++[⟨ps,note,q.1⟩],q.2⟩,s.Commits.length,0)
     else (⟨[],[]⟩,0,6)
    else (⟨[],[]⟩,0,5)
  else (⟨[],[]⟩,0,3)
 else (⟨[],[]⟩,0,2)
theorem base_is {s:T_impl_Store} (h:yL s=true) {ps:List Int} (hp:ps.length≤4) (hr:jW ps s.Commits.length=true) :
  qC1 s.Commits (s.Files.map fun w=>w.Parents) ps=some (qG8 s ps)∧BaseOk s (qG8 s ps).1 (qG8 s ps).2.1:=by
 obtain ⟨n,o,c,e,hb⟩:=base_ok h (ps:=ps) (fun p hp=>by have:=wX hr hp; omega) hp
 unfold qG8
 rw [e]
 exact ⟨rfl,hb⟩
theorem BaseOk.plan {s:T_impl_Store} {n:List T_impl_Name} {o:List Int} (h:BaseOk s n o) (chs:List T_impl_Change):PlanOk s chs 0 n (List.replicate s.Files.length (-1)) s.Files.length:=by
 refine ⟨h.n,fun n hn=>?_,by simp,Int.le_refl _,by omega,fun x hx=>.inl ?_,fun j hj hj2=>by simp at hj; omega,by have:=h.ln; omega⟩
 ·obtain ⟨a1,a2,a3,a4⟩:=h.i n hn
  exact ⟨a1,by omega,fun _=>⟨a3,a4⟩,fun z=>by omega⟩
 ·rw [List.eq_of_mem_replicate hx]
  decide
theorem planOf_ok {s:T_impl_Store} (h:yL s=true) {ps:List Int} (hp:ps.length≤4) (hr:jW ps s.Commits.length=true) {chs:List T_impl_Change} {p:List T_impl_Name×List Int×Int} (e:planOf s ps chs=some p):PlanOk s chs chs.length p.1 p.2.1 p.2.2∧chs.length≤8:=by
 unfold planOf at e
 split at e
 ·exact planF_ok ((base_is h hp hr).2.plan chs) e
 ·cases e
end Go.TV.F
namespace Go.TV.F
open Go.TV
theorem commitB_of {s:T_impl_Store} (h:yL s=true) {c:T_impl_Commit} (hc:c ∈ s.Commits):noteB c.Note=true∧zV3 c.Names=true∧∀ n ∈ c.Names,nameIn (zR1 s) n=true:=by
 have h2:=(qH1 h).2
 unfold zQ2 at h2
 simp only [Bool.and_eq_true,List.all_eq_true] at h2
 have hb:=h2.2 _ hc
 unfold commitB at hb
 simp only [Bool.and_eq_true,List.all_eq_true] at hb
 exact ⟨hb.1.1,hb.1.2,hb.2⟩
theorem storeB_len40 {s:T_impl_Store} (h:yL s=true):s.Commits.length≤40:=by
 have h2:=(qH1 h).2
 unfold zQ2 at h2
 simp only [Bool.and_eq_true,List.all_eq_true,decide_eq_true_eq] at h2
 exact h2.1.1.1.1
theorem storeB_g {s:T_impl_Store} (h:yL s=true):gOk (qG6 s.Commits)=true:=by
 have h2:=(qH1 h).2
 unfold zQ2 at h2
 simp only [Bool.and_eq_true,List.all_eq_true,decide_eq_true_eq] at h2
 exact h2.1.1.2
theorem storeB_mk {cs:List T_impl_Commit} {fs:List T_impl_Weave} (hf:fs.length≤12) (hw:∀ w ∈ fs,WR w∧0 < w.Parents.length) (hg:gOk (qG6 cs)=true) (hl:cs.length≤40)
  (hc:∀ c ∈ cs,noteB c.Note=true∧zV3 c.Names=true∧∀ n ∈ c.Names,n.Id.toNat < fs.length∧n.Version < ((fs.getD n.Id.toNat bW).Parents.length:Int)):yL ⟨cs,fs⟩=true:=by
 unfold yL
 simp only [Bool.and_eq_true,List.all_eq_true,decide_eq_true_eq]
 refine ⟨⟨hf,fun w hw'=>?_⟩,?_⟩
 ·obtain ⟨h1,h2⟩:=hw w hw'
  unfold fileB
  simp only [Bool.and_eq_true,Bool.not_eq_true',beq_eq_false_iff_ne]
  exact ⟨by omega,wOk_iff.2 h1⟩
 ·unfold zQ2
  have hs:(zR1 ⟨cs,fs⟩).length=fs.length:=by unfold zR1; simp
  simp only [Bool.and_eq_true,List.all_eq_true,decide_eq_true_eq]
  refine ⟨⟨⟨⟨hl,by omega⟩,hg⟩,fun n hn=>?_⟩,fun c hc'=>?_⟩
  ·unfold zR1 at hn
   obtain ⟨w,hw',rfl⟩:=List.mem_map.1 hn
   have:=jH (hw w hw').1.g
   exact ⟨by omega,by omega⟩
  ·obtain ⟨h1,h2,h3⟩:=hc c hc'
   unfold commitB
   simp only [Bool.and_eq_true,List.all_eq_true]
   refine ⟨⟨h1,h2⟩,fun n hn=>?_⟩
   obtain ⟨g1,g2⟩:=h3 n hn
   have g0:=(qM0 h2 hn).1
   unfold nameIn
   simp only [Bool.not_eq_true',Bool.or_eq_false_iff,decide_eq_false_iff_not]
   refine ⟨by omega,?_⟩
   have e:(zR1 ⟨cs,fs⟩).getD n.Id.toNat 0=((fs.getD n.Id.toNat bW).Parents.length:Int):=by
    rw [qZ (by omega),qZ g1]
    unfold zR1
    rw [List.getElem_map]
   rw [e]
   omega
structure Made (s:T_impl_Store) (ps:List Int) (note:ByteArray) (chs:List T_impl_Change) (p:List T_impl_Name×List Int×Int) (q:List T_impl_Name×List T_impl_Weave):Prop where
 l:ps.length≤4
 r:jW ps s.Commits.length=true
 nt:noteB note=true
 pl:planOf s ps chs=some p
 ln:chs.all linesB2=true
 op:(qG8 s ps).2.1.all (openB p)=true
 fl:¬(p.2.2 > 12∨s.Commits.length=40)
 fo:foldO (qQ3 s ps chs p.2.1) p.2.2.toNat (p.1,s.Files)=some q
 is:commitF s ps note chs=((⟨s.Commits++[⟨ps,note,q.1⟩],q.2⟩:T_impl_Store),(s.Commits.length:Int),(0:Int))
theorem Made.files {s:T_impl_Store} (h:yL s=true) {ps:List Int} {note:ByteArray} {chs:List T_impl_Change} {p:List T_impl_Name×List Int×Int} {q:List T_impl_Name×List T_impl_Weave} (m:Made s ps note chs p q):FileI s p.2.2 p.2.2.toNat q.1 q.2:=by
 obtain ⟨h1,h2⟩:=planOf_ok h m.l m.r m.pl
 exact foldO_inv (fun k st=>FileI s p.2.2 k st.1 st.2) p.2.2.toNat (fun k st q hk hI e=>hI.step h h1 (by omega) e) _ (p.1,s.Files) _ (Nat.le_refl _) (FileI.start h h1 h2) m.fo
theorem nd_len:∀ (n:Nat) (l:List Nat),l.Nodup→(∀ x ∈ l,x < n)→l.length≤n
 | 0,l,_,h=>by
  cases l with
  | nil=>simp
  | cons x l=>exact absurd (h x (by simp)) (by omega)
 | n+1,l,hd,h=>by
  by_cases q:n ∈ l
  ·have:=nd_len n (l.erase n) (hd.erase n) (fun x hx=>by
    obtain ⟨h1,h2⟩:=(List.Nodup.mem_erase_iff hd).1 hx
    have:=h x h2
    omega)
   rw [List.length_erase_of_mem q] at this
   omega
  ·have:=nd_len n l hd (fun x hx=>by
    have:=h x hx
    have:x≠n:=fun e=>q (e ▸ hx)
    omega)
   omega
theorem nm_len {l:List T_impl_Name} (h:NmOk l) {f:Int} (hf:f≤12) (hi:∀ n ∈ l,0≤n.Id∧n.Id < f):l.length≤12:=by
 have hnd:(l.map fun n=>n.Id.toNat).Nodup:=by
  refine List.pairwise_map.2 (List.Pairwise.imp_of_mem ?_ h.i)
  intro a b ha hb hab e
  have h1:=hi a ha
  have h2:=hi b hb
  exact hab (by omega)
 have hs:(l.map fun n=>n.Id.toNat) ⊆ List.range 12:=by
  intro x hx
  obtain ⟨n,hn,rfl⟩:=List.mem_map.1 hx
  have:=hi n hn
  exact List.mem_range.2 (by omega)
 have:=nd_len 12 _ hnd (fun x hx=>List.mem_range.1 (hs hx))
 simpa using this
theorem Made.right {s:T_impl_Store} (h:yL s=true) {ps:List Int} {note:ByteArray} {chs:List T_impl_Change} {p:List T_impl_Name×List Int×Int} {q:List T_impl_Name×List T_impl_Weave} (m:Made s ps note chs p q):yL ⟨s.Commits++[⟨ps,note,q.1⟩],q.2⟩=true:=by
 have hF:=m.files h
 obtain ⟨h1,h2⟩:=planOf_ok h m.l m.r m.pl
 have h40:=storeB_len40 h
 have hfl:=m.fl
 have h0:=h1.f0
 have hol:=hF.ol
 have hlen:q.2.length=p.2.2.toNat:=by omega
 refine storeB_mk (by omega) hF.wr ?_ (by rw [List.length_append,List.length_singleton]; omega) (fun c hc=>?_)
 ·unfold qG6
  rw [List.map_append]
  have hgl:(s.Commits.map fun c=>c.Parents).length=s.Commits.length:=by simp
  exact gOk_app (storeB_g h) (by show (s.Commits.map fun c=>c.Parents).length≠40; omega) m.l (by show jW ps ((s.Commits.map fun c=>c.Parents).length:Int)=true; rw [hgl]; exact m.r)
 ·rcases List.mem_append.1 hc with hc | hc
  ·obtain ⟨g1,g2,g3⟩:=commitB_of h hc
   refine ⟨g1,g2,fun n hn=>?_⟩
   obtain ⟨k,hk,e⟩:=List.getElem_of_mem hc
   have:=cm_name h (p:=(k:Int)) (by simpa using hk) (n:=n) (by rw [Int.toNat_natCast,qZ hk,e]; exact hn)
   have hge:=hF.ge n.Id.toNat this.2.1
   exact ⟨by omega,by omega⟩
  ·rw [List.mem_singleton.1 hc]
   have hi:=hF.i
   have hnl:=nm_len hF.n (f:=p.2.2) (by omega) (fun n hn=>⟨(hi n hn).1,(hi n hn).2.1⟩)
   refine ⟨m.nt,namesB_iff.2 ⟨hnl,hF.n,fun n hn=>?_⟩,fun n hn=>?_⟩
   ·obtain ⟨a1,a2,a3,a4,a5⟩:=hi n hn
    have a4:=a4 (by omega)
    have hw:=(hF.wr (q.2.getD n.Id.toNat bW) (by rw [qZ (by omega)]; exact List.getElem_mem (by omega))).1
    have:=jH hw.g
    exact ⟨a1,by omega,a3,by omega⟩
   ·obtain ⟨a1,a2,a3,a4,a5⟩:=hi n hn
    exact ⟨by omega,a4 (by omega)⟩
end Go.TV.F
namespace Go.TV.F
open Go.TV
def smLn (l:List ByteArray):Prop:=l.length≤1000∧∀ x ∈ l,x.size≤100
def smCh (c:T_impl_Change):Prop:=c.Path.size≤100∧c.To.size≤100∧smLn c.Lines
theorem ChSm.of {l:List T_impl_Change} (h:l.length≤1000000) (hs:∀ c ∈ l,smCh c):ChSm l:=
 ⟨h,fun c hc=>by obtain ⟨h1,h2,_⟩:=hs c hc; omega,fun c hc=>by have:=(hs c hc).2.2.1; omega,fun c hc x hx=>by have:=(hs c hc).2.2.2 x hx; omega⟩
end Go.TV.F
namespace Go.TV.F
open Go.TV
theorem all_inl {γ:Type} {body:Int→Option (Int⊕(γ⊕Unit))} (n:Nat) (hs:∀ k,k < n→body (k:Int)=some (.inl ((k+1:Nat):Int))) (he:body (n:Int)=some (.inr (.inr ()))):zB body 0=some (.inr ()):=
 zC8 (body:=body) (fun k=>(k:Int)) n hs he
end Go.TV.F
namespace Go.TV.F
open Go.TV
theorem items_runX {t:ByteArray} {α:Type} {I:T_impl_scanner→Option (α×T_impl_scanner)} (E:Nat→List Nat) (l:List α)
  (hit:∀ (k a:Nat) (x:α),l[k]? = some x→At t a (E k)→I ⟨t,a,false⟩=some (x,⟨t,((a+(E k).length:Nat):Int),false⟩))
  {f:Int×ByteArray×Int×Bool×List α→Option ((Int×ByteArray×Int×Bool×List α)⊕(ByteArray×Int×Bool×List α))}
  (hf:∀ (k:Nat) (x:α) (a a':Nat) (out:List α),k < l.length→out.length=k→I ⟨t,a,false⟩=some (x,⟨t,a',false⟩)→l[k]? = some x→f ((k:Int),t,a,false,out)=some (.inl (((k+1:Nat):Int),t,a',false,out++[x])))
  (hf0:∀ (a:Nat),f ((l.length:Int),t,a,false,l)=some (.inr (t,a,false,l)))
  {a:Nat} (h:At t a ((List.range l.length).map E).flatten):zB f (0,t,a,false,[])=some (t,((a+((List.range l.length).map E).flatten.length:Nat):Int),false,l):=by
 have key:∀ (m pre:List α) (a:Nat),l=pre++m→At t a ((List.range' pre.length m.length).map E).flatten→zB f ((pre.length:Int),t,a,false,pre)=some (t,((a+((List.range' pre.length m.length).map E).flatten.length:Nat):Int),false,l):=by
  intro m
  induction m with
  | nil =>
   intro pre a hl _
   rw [List.append_nil] at hl
   subst hl
   rw [zX,hf0]
   simp
  | cons x m ih =>
   intro pre a hl hat
   rw [List.length_cons,List.range'_succ,List.map_cons,List.flatten_cons] at hat
   obtain ⟨h1,h2⟩:=hat.app
   have hx:l[pre.length]? = some x:=by rw [hl]; simp
   rw [zX,hf pre.length x a (a+(E pre.length).length) pre (by rw [hl]; simp) rfl (hit pre.length a x hx h1) hx]
   simp only [Option.bind_some]
   have:=ih (pre++[x]) (a+(E pre.length).length) (by rw [hl]; simp) (by rw [List.length_append,List.length_singleton]; exact h2)
   rw [List.length_append] at this
   refine this.trans ?_
   have e:List.range' pre.length (x :: m).length=pre.length :: List.range' (pre.length+1) m.length:=by rw [List.length_cons,List.range'_succ]
   rw [e,List.map_cons,List.flatten_cons,List.length_append,List.length_singleton,Nat.add_assoc]
 have:=key l [] a rfl (by rw [List.length_nil,← List.range_eq_range']; exact h)
 rw [List.length_nil,← List.range_eq_range'] at this
 exact this
theorem octet_run {t:ByteArray} (ht:t.size≤60000) {a b:Nat} (h:At t a [b]):zD6 ⟨t,a,false⟩=some ((b:Int),⟨t,((a+1:Nat):Int),false⟩):=by
 have hl:=h.len
 simp only [List.length_singleton] at hl
 have hx:=h.take
 simp only [List.length_singleton] at hx
 unfold zD6
 have h1:=qO8 ht (a:=a) (n:=1) (by omega)
 have e1:((1:Nat):Int)=1:=rfl
 rw [e1] at h1
 rw [show T_impl_scanner.mk t (a:Int) false=(⟨t,a,false⟩:T_impl_scanner) from rfl]
 simp only [h1,Option.bind_some]
 have hne:((t.extract a (a+1)).toList == (ByteArray.mk #[]).toList)=false:=by
  rw [beq_nb,hx]
  rfl
 have hsz:(t.extract a (a+1)).size=1:=by rw [← xL,hx]; rfl
 rw [ifF hne]
 obtain ⟨b',g1,g2,g3⟩:=sidx_nb (s:=t.extract a (a+1)) (k:=0) (by omega)
 rw [hx] at g2
 simp only [List.getElem?_cons_zero,Option.some.injEq] at g2
 subst g2
 have e0:((0:Nat):Int)=0:=rfl
 rw [e0] at g1
 rw [g1,Option.bind_some,zQ (by omega) (by omega)]
theorem numbers_run {t:ByteArray} (ht:t.size≤60000) {l:List Int} (h4:l.length≤4) (hx:∀ x ∈ l,0≤x∧x≤40) {a:Nat} (h:At t a (nb (prS l))):kZ ⟨t,a,false⟩ 4=some (l,⟨t,((a+(nb (prS l)).length:Nat):Int),false⟩):=by
 have hnb:nb (prS l)=kK l.length++(l.map fun x=>kK x.toNat).flatten:=by
  unfold prS
  rw [yO,qB2,nb_cat,qM8]
  congr 2
  exact List.map_congr_left (fun x _=>qB2 _)
 rw [hnb] at h ⊢
 obtain ⟨h1,h2⟩:=h.app
 unfold kZ
 have c1:=count_run ht (most:=4) h4 (by omega) h1
 have e4:((4:Nat):Int)=4:=rfl
 rw [e4] at c1
 rw [show T_impl_scanner.mk t (a:Int) false=(⟨t,a,false⟩:T_impl_scanner) from rfl,c1]
 simp only [Option.bind_some]
 have r:=items_run (t:=t) (I:=jY) (fun x:Int=>kK x.toNat) l (fun a x hx' hat=>by
  have:=hx x hx'
  have q:=qI4 ht (n:=x.toNat) (by omega) hat
  rw [show ((x.toNat:Nat):Int)=x by omega] at q
  exact q)
  (f:=fun (s':Int×ByteArray×Int×Bool×(List Int))=>kN ((l.length:Int),⟨t,((a+(kK l.length).length:Nat):Int),false⟩) s'.1 s'.2.1 s'.2.2.1 s'.2.2.2.1 s'.2.2.2.2)
  (fun k x a a' out hk ho hI hx=>by
   simp only [kN]
   rw [ifT (by simpa using hk),hI]
   simp only [Option.bind_some]
   rw [zJ (by simp; omega),Option.bind_some,wkS k (by omega)])
  (fun a=>by
   simp only [kN]
   rw [ifF (by simp)]) h2
 rw [r]
 simp only [Option.bind_some,zB1]
 rw [List.length_append,Nat.add_assoc]
theorem nb_recE {r:T_impl_Rec} (h:recOk r):nb (zE8 r)=r.Kind.toNat :: (if (r.Kind == 1)=true then kK r.Line.size++nb r.Line else kK r.Version.toNat):=by
 unfold zE8
 have hk:∃ k:Nat,r.Kind=k∧k < 256:=by
  rcases h with ⟨h1,_⟩ | ⟨h1 | h1 | h1 | h1,_⟩
  ·exact ⟨1,h1,by omega⟩
  ·exact ⟨2,h1,by omega⟩
  ·exact ⟨3,h1,by omega⟩
  ·exact ⟨4,h1,by omega⟩
  ·exact ⟨5,h1,by omega⟩
 obtain ⟨k,hk,hk2⟩:=hk
 rw [yO,hk,wku8 (by omega) (by omega),nb_byte hk2,Int.toNat_natCast]
 rw [List.singleton_append]
 congr 1
 split
 ·exact nb_shS _
 ·exact qB2 _
theorem rec_run {t:ByteArray} (ht:t.size≤60000) {r:T_impl_Rec} (hr:recOk r) {a:Nat} (h:At t a (nb (zE8 r))):zC7 ⟨t,a,false⟩=some (r,⟨t,((a+(nb (zE8 r)).length:Nat):Int),false⟩):=by
 rw [nb_recE hr] at h ⊢
 rw [← List.singleton_append] at h ⊢
 obtain ⟨h1,h2⟩:=h.app
 rw [List.length_append,List.length_singleton] at *
 have o1:=octet_run ht h1
 unfold zC7
 rw [show T_impl_scanner.mk t (a:Int) false=(⟨t,a,false⟩:T_impl_scanner) from rfl]
 simp only [o1,Option.bind_some,inRangeI_eq]
 rcases hr with ⟨k1,k2,k3⟩ | ⟨k1,k2,k3,k4⟩
 ·rw [k1,if_pos (by rfl)] at h2
  have s1:=short_run ht (s:=r.Line) (by omega) h2
  have hin:inR ((r.Kind.toNat:Nat):Int) 1 5=true:=by rw [k1]; rfl
  have hk3:((r.Kind.toNat:Nat):Int)=r.Kind:=by rw [k1]; rfl
  have hk:(r.Kind == 1)=true:=by rw [k1]; rfl
  rw [hin,if_neg (by simp),hk3,hk,if_pos rfl,if_pos rfl]
  simp only [s1,Option.bind_some]
  cases r
  simp only at k1 k2
  subst k1
  subst k2
  simp only [Nat.add_assoc]
 ·have hk:(r.Kind == 1)=false:=by rcases k1 with h | h | h | h <;> rw [h] <;> rfl
  have hk2:inR ((r.Kind.toNat:Nat):Int) 1 5=true:=by rcases k1 with h | h | h | h <;> rw [h] <;> rfl
  have hk3:((r.Kind.toNat:Nat):Int)=r.Kind:=by rcases k1 with h | h | h | h <;> rw [h] <;> rfl
  rw [hk,if_neg (by simp)] at h2
  have s1:=qI4 ht (n:=r.Version.toNat) (by omega) h2
  have hv:((r.Version.toNat:Nat):Int)=r.Version:=by omega
  rw [hv] at s1
  rw [hk2,if_neg (by simp),hk3,hk,if_neg (by simp),if_neg (by simp)]
  simp only [s1,Option.bind_some]
  cases r
  simp only at k4 k2 ⊢
  subst k4
  simp only [Nat.add_assoc]
theorem nb_verB (w:T_impl_Weave) (v:Nat):nb (verB w v)=nb (prS (w.Parents.getD v []))++sum4 (nb (jl (txt w v))):=by
 unfold verB
 rw [yO,nb_s4]
 rfl
theorem nb_wB (w:T_impl_Weave):nb (wB w)=nb twB++(kK w.Parents.length++(((List.range w.Parents.length).map fun v=>nb (verB w v)).flatten++(kK (xF w).length++((xF w).map fun r=>nb (zE8 r)).flatten))):=by
 unfold wB
 rw [yO,yO,yO,yO,qB2,qB2,nb_cat,nb_cat,qM8,qM8]
 simp only [List.append_assoc]
theorem readWeave_back {w:T_impl_Weave} (h:WR w) (hn:(xF w).length≤4000) (hsz:(wB w).size≤60000):uQ (wB w++s4 (wB w))=some (w,0):=by
 have hgl:=jH h.g
 have hs4:=qJ1 (wB w)
 have htw:twB.size=3:=rfl
 have hsum:(wB w++s4 (wB w)).size=(wB w).size+4:=by rw [ByteArray.size_append,hs4]
 have h3:3≤(wB w).size:=by
  rw [← xL,nb_wB,List.length_append,xL]
  omega
 have hseal:zG4 (wB w)=some (wB w++s4 (wB w),true):=by
  rw [(sealI (t:=wB w) (by omega)).2]
  unfold sealT
  rw [if_neg (by omega)]
 obtain ⟨t,ok,u1,u2,u3,u4,u5⟩:=unsealed2 (text:=wB w++s4 (wB w)) (by omega)
 obtain ⟨rfl,rfl⟩:=u5 _ hseal
 have hat:At (wB w) 0 (nb (wB w)):=⟨by omega,[],by simp⟩
 have hnl:=xL (wB w)
 rw [nb_wB] at hat hnl
 obtain ⟨b1,b2⟩:=hat.app
 obtain ⟨b3,b4⟩:=b2.app
 obtain ⟨b5,b6⟩:=b4.app
 obtain ⟨b7,b8⟩:=b6.app
 simp only [List.length_append] at hnl
 unfold uQ
 rw [hsum,ifF (decide_eq_false (by omega)),decide_eq_false (by omega),Option.bind_some,ifF rfl,u1]
 simp only [Option.bind_some,Bool.not_true,Bool.false_eq_true,if_false]
 have m1:=mark_run u3 b1
 have e0:((0:Nat):Int)=0:=rfl
 rw [e0] at m1
 rw [show ByteArray.mk #[84,87,49]=twB from rfl,m1]
 simp only [Option.bind_some]
 rw [show (nb twB).length=twB.size from xL _] at b3 b5 b7 b8
 have c1:=count_run u3 (most:=40) hgl (by omega) b3
 rw [show ((40:Nat):Int)=40 from rfl] at c1
 rw [c1]
 simp only [Option.bind_some]
 -- the versions
 have r1:=items_runX (t:=wB w) (I:=fun s=>(kZ s 4).bind fun x=>(xA x.2 4).bind fun y=>some (x.1,y.2)) (fun v=>nb (verB w v)) w.Parents (fun k a x hx hat'=>by
  have hk:=(List.getElem?_eq_some_iff.1 hx).1
  have hxd:w.Parents.getD k []=x:=getD_some hx
  rw [nb_verB,hxd] at hat' ⊢
  obtain ⟨g1,g2⟩:=hat'.app
  obtain ⟨q1,q2,q3⟩:=qM7 h hk
  rw [hxd] at q1 q2 q3
  have n1:=numbers_run u3 q1 q3 g1
  have hl:=g2.len
  have h4:(sum4 (nb (jl (txt w k)))).length=4:=rfl
  rw [h4] at hl
  have t1:=qO8 u3 (a:=a+(nb (prS x)).length) (n:=4) hl
  rw [show ((4:Nat):Int)=4 from rfl] at t1
  simp only [n1,t1,Option.bind_some]
  rw [List.length_append,h4,Nat.add_assoc])
  (f:=fun (s':Int×ByteArray×Int×Bool×(List (List Int)))=>zA6 ((w.Parents.length:Int),⟨wB w,((0+twB.size+(kK w.Parents.length).length:Nat):Int),false⟩) s'.1 s'.2.1 s'.2.2.1 s'.2.2.2.1 s'.2.2.2.2)
  (fun k x a a' out hk ho hI hx=>by
   simp only [zA6]
   rw [ifT (by simpa using hk)]
   obtain ⟨p,hp,hI⟩:=zbi hI
   obtain ⟨y,hy,hI⟩:=zbi hI
   injection hI with hI
   injection hI with hI1 hI2
   subst hI1
   have hp':kZ (T_impl_scanner.mk (wB w) (a:Int) false) 4=some p:=hp
   have hy':xA (T_impl_scanner.mk p.2.text p.2.at_ p.2.bad) 4=some y:=hy
   rw [hp',Option.bind_some,zJ (by simp; omega),Option.bind_some,hy',Option.bind_some,wkS k (by omega),hI2])
  (fun a=>by
   simp only [zA6]
   rw [ifF (by simp)]) b5
 rw [r1]
 simp only [Option.bind_some]
 unfold zM1
 have c2:=count_run u3 (most:=4000) hn (by omega) b7
 rw [show ((4000:Nat):Int)=4000 from rfl] at c2
 rw [c2]
 simp only [Option.bind_some]
 have r2:=items_run (t:=wB w) (I:=zC7) (fun r=>nb (zE8 r)) (xF w) (fun a r hr hat'=>rec_run u3 (recW_ok h r hr) hat')
  (f:=fun (s':Int×ByteArray×Int×Bool×(List T_impl_Rec))=>zA3 (((xF w).length:Int),⟨wB w,((0+twB.size+(kK w.Parents.length).length+((List.range w.Parents.length).map fun v=>nb (verB w v)).flatten.length+(kK (xF w).length).length:Nat):Int),false⟩) s'.1 s'.2.1 s'.2.2.1 s'.2.2.2.1 s'.2.2.2.2)
  (fun k x a a' out hk ho hI hx=>by
   simp only [zA3]
   rw [ifT (by simpa using hk),ifF rfl,hI]
   simp only [Option.bind_some]
   rw [zJ (by simp; omega),Option.bind_some,wkS k (by omega)])
  (fun a=>by
   simp only [zA3]
   rw [ifF (by simp)]) b8
 rw [r2]
 simp only [Option.bind_some]
 unfold zM0 zM2
 have hend:0+twB.size+(kK w.Parents.length).length+((List.range w.Parents.length).map fun v=>nb (verB w v)).flatten.length+(kK (xF w).length).length+((xF w).map fun r=>nb (zE8 r)).flatten.length=(wB w).size:=by
  rw [← hnl,xL]
  omega
 rw [hend]
 have hwt:uL (T_impl_Weave.mk w.Parents w.Bodies)=some (wB w++s4 (wB w),true):=by
  have:=weaveTextI h
  unfold wTxt at this
  rw [if_neg (by omega)] at this
  unfold sealT at this
  rw [if_neg (by omega)] at this
  exact this
 simp only [Bool.not_false,if_true,beq_self_eq_true,Bool.not_true,Bool.false_eq_true,if_false,Option.bind_some,FromR h hn,hwt]
theorem encL_1 {n:Nat} (h:n≤127):(encS n).size=1:=by
 rw [← xL,qB2,qA8 h]
 rfl
theorem cat_mk4 {i j:Int} {d e:List Int} (hi:i≤40) (hj:j≤40) (hd:∀ x ∈ d,0≤x∧x≤40) (he:∀ x ∈ e,0≤x∧x≤40):(cat ((mk4 i d j e).map zE8)).size≤(mk4 i d j e).length * 2:=by
 have:=qA1 (l:=(mk4 i d j e).map zE8) (M:=2) (fun x hx=>by
  obtain ⟨r,hr,rfl⟩:=List.mem_map.1 hx
  have hk:=mk4_kind r hr
  have ho:=mk4_ok hi hj hd he r hr
  unfold zE8
  rw [hk,if_neg (by simp),ByteArray.size_append,qF2,List.length_singleton]
  rcases ho with ⟨h1,_⟩ | ⟨_,h2,h3,_⟩
  ·rw [h1] at hk
   cases hk
  ·rw [encL_1 (by omega)]
   omega)
 rwa [List.length_map] at this
theorem cat_goR {g:List (List Int)} (hg:g.length≤40):∀ (bs:List T_impl_Body) (i:Int) (d:List Int),(∀ b ∈ bs,stat g b=true)→i≤40→(∀ x ∈ d,0≤x∧x≤40)→(cat ((goR i d bs).map zE8)).size≤(goR i d bs).length * 2+bs.length * 60
 | [],i,d,_,hi,hd=>by
  unfold goR
  have:=cat_mk4 (j:=-1) (e:=[]) hi (by omega) hd (fun x hx=>by cases hx)
  omega
 | b :: bs,i,d,hb,hi,hd=>by
  have hst:=hb b (by simp)
  obtain ⟨i0,i1⟩:=zZ7 hst
  have hl:=hst
  unfold stat at hl
  simp only [Bool.and_eq_true] at hl
  have hde:∀ x ∈ b.Dels,0≤x∧x≤40:=fun x hx=>by have:=wX hl.1.2 hx; omega
  have ih:=cat_goR hg bs b.Ins b.Dels (fun x hx=>hb x (by simp [hx])) (by omega) hde
  have h1:=cat_mk4 (j:=b.Ins) (e:=b.Dels) hi (by omega) hd hde
  have h60:=qK4 hl.1.1.1
  have h2:(zE8 ⟨1,0,b.Line⟩).size≤62:=by
   unfold zE8 shS
   simp only [beq_self_eq_true,if_true]
   rw [ByteArray.size_append,qF2,List.length_singleton,ByteArray.size_append,encL_1 (by omega)]
   omega
  rw [qQ7,List.map_append,List.map_cons,cat_app,ByteArray.size_append,List.length_append,List.length_cons,List.length_cons]
  have e:cat (zE8 ⟨1,0,b.Line⟩ :: (goR b.Ins b.Dels bs).map zE8)=zE8 ⟨1,0,b.Line⟩++cat ((goR b.Ins b.Dels bs).map zE8):=rfl
  rw [e,ByteArray.size_append]
  omega
theorem wB_small {w:T_impl_Weave} (h:WR w) (hn:(xF w).length≤3800):(wB w).size≤60000:=by
 have hgl:=jH h.g
 have hb:=h.n
 obtain ⟨p1,p2,p3,p4⟩:=wB_parts h (by omega)
 have:=cat_goR hgl w.Bodies (-1) [] (fun b hb=>zW7 h.o b hb) (by omega) (fun x hx=>by cases hx)
 have e:goR (-1) [] w.Bodies=xF w:=rfl
 rw [e] at this
 unfold wB
 rw [ByteArray.size_append,ByteArray.size_append,ByteArray.size_append]
 omega
theorem weave_turned {w:T_impl_Weave} {t:ByteArray} {i r:Nat} (hsz:(wB w).size≤60000) (hi:i < (wB w++s4 (wB w)).size) (hr:r < 256) (hne:(nb (wB w++s4 (wB w)))[i]?≠some r) (ht:nb t=(nb (wB w++s4 (wB w))).set i r):∃ x,uQ t=some (x,2):=by
 have hs4:=qJ1 (wB w)
 have htw:twB.size=3:=rfl
 have h3:3≤(wB w).size:=by
  rw [← xL,nb_wB,List.length_append,xL]
  omega
 have hlt:t.size=(wB w).size+4:=by rw [← xL,ht,List.length_set,xL,ByteArray.size_append,hs4]
 obtain ⟨t',ok,u1,u2,u3,u4,u5⟩:=unsealed2 (text:=t) (by omega)
 unfold uQ
 rw [hlt,ifF (decide_eq_false (by omega)),decide_eq_false (by omega),Option.bind_some,ifF rfl,u1]
 simp only [Option.bind_some]
 cases ok with
 | false=>exact ⟨_,rfl⟩
 | true =>
  exfalso
  have h1:=u4 rfl
  rw [(sealI (t:=t') (by omega)).2] at h1
  unfold sealT at h1
  rw [if_neg (by omega)] at h1
  injection h1 with h1
  injection h1 with h1 _
  have h2:nb t=nb t'++sum4 (nb t'):=by rw [← h1,yO,nb_s4]; rfl
  have h3:nb (wB w++s4 (wB w))=nb (wB w)++sum4 (nb (wB w)):=by rw [yO,nb_s4]; rfl
  rw [h3] at ht hne
  rw [ht] at h2
  exact turned (E:=nb (wB w)) (fun x hx=>nb_lt hx) (by rw [← h3,xL]; exact hi) hr hne h2.symm
theorem versionSumI {w:T_impl_Weave} (h:WR w) {v:Nat} (hv:v < w.Parents.length):zE3 w (v:Int)=some (((crc (nb (jl (txt w v))):Nat):Int),0):=by
 have ht:=txt_len h v
 have hj:=jl_txt h v
 have e1:zN4 (T_impl_Weave.mk w.Parents w.Bodies) (v:Int)=some (txt w v,0):=by have:=extractI (w:=w) h (v:=(v:Int)) (by omega) (by omega); rwa [Int.toNat_natCast] at this
 unfold zE3
 rw [e1]
 simp only [Option.bind_some,bne_self_eq_false,Bool.false_eq_true,if_false]
 rw [joinI_eq (by omega) (fun x hx=>qK4 (txt_ok h v x hx)),Option.bind_some,(s4_all (t:=jl (txt w v)) (by omega)).2.1,Option.bind_some]
theorem fnWoven_true {code:List Int} (hb:code.length≤140737488351232):laws_FnWoven code=some true:=by
 unfold laws_FnWoven
 by_cases q:code.length > 1048576
 ·rw [big_yes q]
  rfl
 rw [big_no q]
 obtain ⟨w,x,y,e1,h,hr,hp13,hp,hx,hy⟩:=drawPair_few (b:=code) (by omega)
 have hgl:=jH h.g
 have hsz:=wB_small h hr
 have hs4:=qJ1 (wB w)
 have htw:twB.size=3:=rfl
 have h3:3≤(wB w).size:=by
  rw [← xL,nb_wB,List.length_append,xL]
  omega
 have hsum:(wB w++s4 (wB w)).size=(wB w).size+4:=by rw [ByteArray.size_append,hs4]
 have e2:uL (T_impl_Weave.mk w.Parents w.Bodies)=some (wB w++s4 (wB w),true):=by
  have:=weaveTextI h
  unfold wTxt at this
  rw [if_neg (by omega)] at this
  unfold sealT at this
  rw [if_neg (by omega)] at this
  exact this
 have e3:=readWeave_back h (by omega) hsz
 have e4:zG8 (T_impl_Weave.mk w.Parents w.Bodies) (T_impl_Weave.mk w.Parents w.Bodies)=some true:=sameWeave_self (w:=w) h
 have hsl:(nb (wB w++s4 (wB w))).length=(wB w++s4 (wB w)).size:=xL _
 generalize hS:wB w++s4 (wB w)=S at *
 rw [Option.bind_some,if_neg (by simp),e1,Option.bind_some]
 simp only [e2,e3,e4,Option.bind_some,Bool.not_true,Bool.false_eq_true,if_false,bne_self_eq_false]
 rw [ifF (decide_eq_false (by omega))]
 obtain ⟨p,p1,p2,p3⟩:=drawPlaces_okN (b:=code) (by omega)
 rw [p1]
 simp only [Option.bind_some]
 obtain ⟨q0,a0,f0⟩:∃ x,zF p 0=some x∧(0≤x∧x≤1000000):=⟨p[0],by rw [show (0:Int)=((0:Nat):Int) from rfl,zD,List.getElem?_eq_getElem (by omega)],p3 _ (List.getElem_mem _)⟩
 obtain ⟨q1,a1,f1⟩:∃ x,zF p 1=some x∧(0≤x∧x≤1000000):=⟨p[1],by rw [show (1:Int)=((1:Nat):Int) from rfl,zD,List.getElem?_eq_getElem (by omega)],p3 _ (List.getElem_mem _)⟩
 have hbl:((qX S).length:Int)=(S.size:Int):=by rw [bytesL_nb,List.length_map,hsl]
 rw [a0,a1,hbl]
 simp only [Option.bind_some]
 rw [chk_in (by omega),Option.bind_some]
 obtain ⟨i,hi,hi2⟩:∃ i:Nat,q0.tmod (S.size:Int)=i∧i < S.size:=by
  have:=qI1 (x:=q0) (n:=(S.size:Int)) f0.1 (by omega)
  exact ⟨(q0.tmod (S.size:Int)).toNat,by omega,by omega⟩
 obtain ⟨v,hv,hv1,hv2⟩:∃ v:Nat,wk .u8 (wk .i64 (1+q1.tmod 255))=v∧v < 256∧v≠0:=by
  have:=qI1 (x:=q1) (n:=255) f1.1 (by omega)
  rw [zQ (by omega) (by omega),wku8 (by omega) (by omega)]
  exact ⟨(1+q1.tmod 255).toNat,by omega,by omega,by omega⟩
 rw [hi,hv]
 have hg:zF (qX S) (i:Int)=some (((nb S)[i]'(by omega):Nat):Int):=by
  rw [zD,bytesL_nb,List.getElem?_map,List.getElem?_eq_getElem (by omega)]
  rfl
 rw [hg,Option.bind_some]
 obtain ⟨r,r1,r2,r3⟩:=turn_byte (b:=(nb S)[i]'(by omega)) (v:=v) (nb_lt (List.getElem_mem _)) hv1 hv2
 rw [r1,Int.toNat_natCast]
 have hset:(qX S).set i (r:Int)=((nb S).set i r).map fun x:Nat=>(x:Int):=by
  rw [bytesL_nb,List.map_set]
 have hnb:nb (mkS ((qX S).set i (r:Int)))=(nb S).set i r:=by
  rw [hset]
  exact nb_mkS (fun x hx=>by
   rcases List.mem_or_eq_of_mem_set hx with hx | rfl
   ·exact nb_lt hx
   ·exact r2)
 obtain ⟨a,ha⟩:=weave_turned (w:=w) (t:=mkS ((qX S).set i (r:Int))) (i:=i) (r:=r) hsz (by rw [hS]; exact hi2) r2 (by rw [hS,List.getElem?_eq_getElem (by omega)]; simp; omega) (by rw [hS]; exact hnb)
 rw [ha]
 simp only [Option.bind_some]
 have hloop:=all_inl (body:=fun (s':Int)=>zE1 (w,x,y) s') (γ:=Bool) w.Parents.length (fun k hk=>by
  have ht80:=txt_80 h hk
  have hj:=jl_txt h k
  have b1:zO4 (T_impl_Weave.mk w.Parents w.Bodies) (k:Int)=some (txt w k,0):=by have:=extractS (w:=w) h (v:=(k:Int)) (by omega) (by omega); rwa [Int.toNat_natCast] at this
  have b2:zE3 (T_impl_Weave.mk w.Parents w.Bodies) (k:Int)=_:=versionSumI (w:=w) h hk
  simp only [zE1]
  rw [ifT (by simpa using hk),b1]
  simp only [Option.bind_some]
  rw [joinS_eq ht80 (txt_ok h k)]
  simp only [Option.bind_some]
  rw [b2]
  simp only [Option.bind_some,bne_self_eq_false,Bool.false_eq_true,if_false]
  rw [(s4_all (t:=jl (txt w k)) (by omega)).2.2.1]
  simp only [Option.bind_some,bne_self_eq_false,Bool.false_eq_true,if_false]
  rw [wkS k (by omega)]) (by
  simp only [zE1]
  rw [ifF (by simp)])
 rw [hloop]
 rfl
end Go.TV.F
