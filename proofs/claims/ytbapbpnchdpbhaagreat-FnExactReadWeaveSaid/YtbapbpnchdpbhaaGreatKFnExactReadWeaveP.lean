/- The plain laws. -/
import Derived.Test.YtbapbpnchdpbhaaGreatKFnExactReadWeaveP0
import Derived.Test.YtbapbpnchdpbhaaGreatKFnExactReadWeaveD
set_option linter.unusedVariables false
set_option linter.unusedSimpArgs false
set_option maxHeartbeats 8000000
set_option maxRecDepth 100000
namespace Go.TV.F
open Go.TV
theorem zX7 {a b:Nat} (ha:a < 4294967296) (hb:b < 4294967296):bits .xor .u32 a b=((a ^^^ b:Nat):Int)∧a ^^^ b < 4294967296:=by
 have ha':a % 2 ^ IntKind.u32.bits=a:=Nat.mod_eq_of_lt ha
 have hb':b % 2 ^ IntKind.u32.bits=b:=Nat.mod_eq_of_lt hb
 have hx:a ^^^ b < 2 ^ 32:=Nat.xor_lt_two_pow ha hb
 refine ⟨?_,hx⟩
 simp only [bits,BitVec.ofInt_natCast,BitVec.toNat_xor,BitVec.toNat_ofNat,ha',hb']
 have hx':a ^^^ b < 4294967296:=hx
 exact wku32 (x:=((a ^^^ b:Nat):Int)) (by omega) (by omega)
def bitS (x:Nat):Nat:=if x % 2=1 then (x / 2) ^^^ 3558460437 else x / 2
def bitN:Nat→Nat→Nat
 | 0,x=>x
 | n+1,x=>bitN n (bitS x)
def byteS (x b:Nat):Nat:=bitN 8 (x ^^^ b)
def crcF (x:Nat) (l:List Nat):Nat:=l.foldl byteS x
def crc (l:List Nat):Nat:=crcF 4294967295 l
theorem bitS_lt {x:Nat} (h:x < 4294967296):bitS x < 4294967296:=by
 unfold bitS
 split
 ·exact (zX7 (a:=x / 2) (b:=3558460437) (by omega) (by decide)).2
 ·omega
theorem bitN_lt:∀ (n:Nat) {x:Nat},x < 4294967296→bitN n x < 4294967296
 | 0,_,h=>h
 | n+1,_,h=>bitN_lt n (bitS_lt h)
theorem qI2 {x b:Nat} (h:x < 4294967296) (hb:b < 256):byteS x b < 4294967296:=bitN_lt 8 (zX7 h (by omega)).2
theorem crcF_lt:∀ (l:List Nat) {x:Nat},x < 4294967296→(∀ b ∈ l,b < 256)→crcF x l < 4294967296
 | [],_,h,_=>h
 | b :: l,_,h,hl=>crcF_lt l (qI2 h (hl b (by simp))) (fun c hc=>hl c (by simp [hc]))
theorem bitS_top {x:Nat} (h:x < 4294967296):(bitS x).testBit 31=decide (x % 2=1):=by
 unfold bitS
 have hz:(x / 2).testBit 31=false:=Nat.testBit_lt_two_pow (by omega)
 split
 ·rename_i h1
  rw [Nat.testBit_xor,hz,decide_eq_true h1]
  decide
 ·rename_i h1
  rw [hz,decide_eq_false h1]
theorem bitS_inj {x y:Nat} (hx:x < 4294967296) (hy:y < 4294967296) (h:bitS x=bitS y):x=y:=by
 have h1:=bitS_top hx
 rw [h,bitS_top hy,decide_eq_decide] at h1
 unfold bitS at h
 by_cases q:x % 2=1
 ·rw [if_pos q,if_pos (h1.2 q)] at h
  have:=congrArg (fun z=>z ^^^ 3558460437) h
  simp only [Nat.xor_assoc,Nat.xor_self,Nat.xor_zero] at this
  have:=h1.2 q
  omega
 ·have q2:¬y % 2=1:=fun r=>q (h1.1 r)
  rw [if_neg q,if_neg q2] at h
  omega
theorem bitN_inj:∀ (n:Nat) {x y:Nat},x < 4294967296→y < 4294967296→bitN n x=bitN n y→x=y
 | 0,_,_,_,_,h=>h
 | n+1,_,_,hx,hy,h=>bitS_inj hx hy (bitN_inj n (bitS_lt hx) (bitS_lt hy) h)
theorem qM8 {a b c:Nat} (h:a ^^^ c=b ^^^ c):a=b:=by
 have:=congrArg (fun z=>z ^^^ c) h
 simpa only [Nat.xor_assoc,Nat.xor_self,Nat.xor_zero] using this
theorem xor_inj_right {a b c:Nat} (h:c ^^^ a=c ^^^ b):a=b:=by
 rw [Nat.xor_comm c,Nat.xor_comm c] at h
 exact qM8 h
theorem crcF_inj:∀ (l:List Nat) {x y:Nat},x < 4294967296→y < 4294967296→(∀ b ∈ l,b < 256)→crcF x l=crcF y l→x=y
 | [],_,_,_,_,_,h=>h
 | b :: l,x,y,hx,hy,hl,h=>by
  have hb:=hl b (by simp)
  have:=crcF_inj l (qI2 hx hb) (qI2 hy hb) (fun c hc=>hl c (by simp [hc])) h
  exact qM8 (bitN_inj 8 (zX7 hx (by omega)).2 (zX7 hy (by omega)).2 this)
theorem crcF_app (x:Nat) (l m:List Nat):crcF x (l++m)=crcF (crcF x l) m:=by unfold crcF; rw [List.foldl_append]
theorem crc_turn {l m:List Nat} {a b:Nat} (hl:∀ x ∈ l,x < 256) (hm:∀ x ∈ m,x < 256) (ha:a < 256) (hb:b < 256) (h:crc (l++a :: m)=crc (l++b :: m)):a=b:=by
 unfold crc at h
 rw [crcF_app,crcF_app] at h
 have h0:=crcF_lt l (x:=4294967295) (by decide) hl
 have:=crcF_inj m (qI2 h0 ha) (qI2 h0 hb) hm h
 exact xor_inj_right (bitN_inj 8 (zX7 h0 (by omega)).2 (zX7 h0 (by omega)).2 this)
theorem sumInner_eq {x:Nat} (hx:x < 4294967296):zC (fun (s':Int×Int)=>xE s'.1 s'.2) ((x:Int),0)=some ((bitN 8 x:Nat):Int):=by
 have key:∀ (m k x:Nat),k+m=8→x < 4294967296→zC (fun (s':Int×Int)=>xE s'.1 s'.2) ((x:Int),(k:Int))=some ((bitN m x:Nat):Int):=by
  intro m
  induction m with
  | zero =>
   intro k x hk hx
   rw [zJ]
   simp only [xE]
   rw [ifF (by simp; omega)]
   rfl
  | succ m ih =>
   intro k x hk hx
   rw [zJ]
   have ed:wk .u32 ((x:Int).tdiv 2)=((x / 2:Nat):Int):=by
    rw [show ((2:Int))=((2:Nat):Int) from rfl,qL6,wku32 (by omega) (by omega)]
   have et:((x:Int).tmod 2 == 1)=decide (x % 2=1):=by
    rw [show ((2:Int))=((2:Nat):Int) from rfl,qI9,Bool.eq_iff_iff]
    simp
    omega
   simp only [xE]
   rw [ifT (by simp; omega),et,ed,wkS k (by omega)]
   by_cases q:x % 2=1
   ·rw [ifT (decide_eq_true q),show (3558460437:Int)=((3558460437:Nat):Int) from rfl,(zX7 (a:=x / 2) (b:=3558460437) (by omega) (by decide)).1]
    refine (ih (k+1) ((x / 2) ^^^ 3558460437) (by omega) (zX7 (a:=x / 2) (b:=3558460437) (by omega) (by decide)).2).trans ?_
    rw [bitN,bitS,if_pos q]
   ·rw [ifF (decide_eq_false q)]
    refine (ih (k+1) (x / 2) (by omega) (by omega)).trans ?_
    rw [bitN,bitS,if_neg q]
 exact key 8 0 x rfl hx
theorem sumS_eq {s:ByteArray} (hs:s.size≤1000000000):vL s=some ((crc (nb s):Nat):Int):=by
 unfold vL zO8
 have hl:=zQ9 s
 have hbyte:∀ k,∀ b ∈ (nb s).take k,b < 256:=fun k b hb=>nb_lt (List.mem_of_mem_take hb)
 have:=uW (body:=fun (s':Int×Int)=>xY s s'.1 s'.2) (r:=((crc (nb s):Nat):Int)) (fun k=>(((crc ((nb s).take k):Nat):Int),(k:Int))) s.size (fun k hk=>by
  obtain ⟨b,h1,h2,h3⟩:=sidx_nb hk
  show xY s _ _=_
  unfold xY
  have hc:crc ((nb s).take k) < 4294967296:=crcF_lt _ (by decide) (hbyte k)
  rw [ifT (by simpa using hk),h1,Option.bind_some,wku32 (by omega) (by omega),(zX7 hc (show b < 4294967296 by omega)).1,sumInner_eq (zX7 hc (by omega)).2,Option.bind_some]
  unfold zK0
  rw [wkS k (by omega)]
  have:crc ((nb s).take (k+1))=bitN 8 (crc ((nb s).take k) ^^^ b):=by
   rw [List.take_add_one,h2]
   unfold crc
   rw [crcF_app]
   rfl
  rw [this]) (by
  show xY s _ _=_
  unfold xY
  rw [ifF (by simp),← hl,List.take_length])
 have e:(((crc ((nb s).take 0):Nat):Int),((0:Nat):Int))=((4294967295:Int),(0:Int)):=by simp [crc,crcF]
 rw [e] at this
 rw [this]
 rfl
def four (x:Nat):List Nat:=[x / 16777216 % 256,x / 65536 % 256,x / 256 % 256,x % 256]
theorem four_inj {x y:Nat} (hx:x < 4294967296) (hy:y < 4294967296) (h:four x=four y):x=y:=by
 unfold four at h
 simp only [List.cons.injEq,and_true] at h
 omega
def sum4 (l:List Nat):List Nat:=four (crc l)
theorem fourS_eq {x:Nat}:∃ u:ByteArray,kT (x:Int)=some u∧nb u=four x:=by
 refine ⟨_,rfl,?_⟩
 have e:∀ j:Nat,j≤24→wk .u8 (xL .u32 (x:Int) (j:Int))=((x / 2 ^ j % 256:Nat):Int):=fun j hj=>by
  unfold xL
  simp only [IntKind.bits,Int.toNat_natCast]
  rw [Nat.min_eq_left (by omega),wku8_mod,show ((2:Int) ^ j)=((2 ^ j:Nat):Int) by simp,← Int.natCast_ediv]
  omega
 have e1:=e 24 (by omega)
 have e2:=e 16 (by omega)
 have e3:=e 8 (by omega)
 have e4:wk .u8 (x:Int)=((x % 256:Nat):Int):=by rw [wku8_mod]; omega
 have r:[wk .u8 (xL .u32 (x:Int) 24),wk .u8 (xL .u32 (x:Int) 16),wk .u8 (xL .u32 (x:Int) 8),wk .u8 (x:Int)]=(four x).map fun z:Nat=>(z:Int):=by
  rw [show (24:Int)=((24:Nat):Int) from rfl,show (16:Int)=((16:Nat):Int) from rfl,show (8:Int)=((8:Nat):Int) from rfl,e1,e2,e3,e4]
  rfl
 rw [r]
 exact nb_mkS (fun z hz=>by unfold four at hz; simp at hz; omega)
end Go.TV.F
namespace Go.TV.F
open Go.TV
theorem turned {E E':List Nat} {i r:Nat} (hE:∀ x ∈ E,x < 256) (hi:i < (E++sum4 E).length) (hr:r < 256) (hne:(E++sum4 E)[i]?≠some r) (h:E'++sum4 E'=(E++sum4 E).set i r):False:=by
 have h4:∀ l,(sum4 l).length=4:=fun l=>rfl
 have hlen:=congrArg List.length h
 rw [List.length_set,List.length_append,List.length_append,h4,h4] at hlen
 have hl:E'.length=E.length:=by omega
 by_cases q:i < E.length
 ·rw [List.set_append_left _ _ q] at h
  obtain ⟨h1,h2⟩:=List.append_inj h (by simpa using hl)
  subst h1
  rw [List.getElem?_append_left q,List.getElem?_eq_getElem q] at hne
  have e1:E=E.take i++E[i] :: E.drop (i+1):=by
   rw [← List.drop_eq_getElem_cons q,List.take_append_drop]
  have e2:E.set i r=E.take i++r :: E.drop (i+1):=by
   rw [List.set_eq_take_append_cons_drop,if_pos q]
  have hc:crc (E.set i r)=crc E:=by
   refine four_inj ?_ ?_ h2
   ·exact crcF_lt _ (by decide) (fun x hx=>by
     rcases List.mem_or_eq_of_mem_set hx with hx | rfl
     ·exact hE x hx
     ·exact hr)
   ·exact crcF_lt _ (by decide) hE
  rw [e2] at hc
  conv at hc=>rhs; rw [e1]
  have:=crc_turn (fun x hx=>hE x (List.mem_of_mem_take hx)) (fun x hx=>hE x (List.mem_of_mem_drop hx)) hr (hE _ (List.getElem_mem q)) hc
  exact hne (by rw [this])
 ·rw [List.set_append_right _ _ (by omega)] at h
  obtain ⟨h1,h2⟩:=List.append_inj h hl
  subst h1
  have h5:(sum4 E')[i - E'.length]? = some r:=by
   rw [h2,List.getElem?_set_self]
   rw [List.length_append,h4] at hi
   rw [h4]
   omega
  rw [List.getElem?_append_right (by omega)] at hne
  exact hne h5
end Go.TV.F
set_option maxRecDepth 100000
namespace Go.TV.F
open Go.TV
end Go.TV.F
namespace Go.TV.F
open Go.TV
theorem e0size:(ByteArray.mk #[]).size=0:=rfl
theorem mkS_bytesL (s:ByteArray):mkS (qX s)=s:=by
 apply ByteArray.ext
 apply Array.ext'
 unfold mkS qX
 simp only [List.map_map]
 have:((fun n:Int=>UInt8.ofNat n.toNat) ∘ fun b:UInt8=>(b.toNat:Int))=id:=by
  funext b
  simp
 rw [this,List.map_id]
theorem zW6 (s t:ByteArray):qX (s++t)=qX s++qX t:=by
 unfold qX
 rw [ByteArray.data_append,Array.toList_append,List.map_append]
theorem yV (s:ByteArray):(qX s).length=s.size:=by simp [qX]
def inR (n:Int) (a b:Int):Bool:=decide (a≤n) && decide (n≤b)
theorem inRangeI_eq (n a b:Int):vR n a b=some (inR n a b):=by
 unfold vR inR
 by_cases h:a≤n
 ·rw [ifT (by simpa using h),decide_eq_true h]
  rfl
 ·rw [ifF (by simpa using h),decide_eq_false h]
  rfl
theorem inRangeS_eq (n a b:Int):xS n a b=some (inR n a b):=by
 unfold xS inR
 by_cases h:a≤n
 ·rw [ifT (by simpa using h),decide_eq_true h]
  rfl
 ·rw [ifF (by simpa using h),decide_eq_false h]
  rfl
def okP (n:Int):Bool:=inR n 0 1000000000
def prS (l:List Int):ByteArray:=zA4 l.length++cat (l.map fun n=>zA4 n.toNat)
theorem okP_parts {n:Int} (h:okP n=true):0≤n∧n≤1000000000:=by
 unfold okP inR at h
 simpa using h
theorem prS_size {l:List Int} (h1:l.length≤4) (h2:l.all okP=true):(prS l).size≤25:=by
 rw [List.all_eq_true] at h2
 have:=zZ4 (l:=l.map fun n=>zA4 n.toNat) (M:=5) (fun x hx=>by
  obtain ⟨s,hs,rfl⟩:=List.mem_map.1 hx
  have:=okP_parts (h2 s hs)
  exact xO (by omega))
 rw [List.length_map] at this
 have a3:=xO (n:=l.length) (by omega)
 unfold prS
 rw [ByteArray.size_append]
 omega
theorem listTextI_eq {l:List Int} (h1:l.length≤4) (h2:l.all okP=true):zR2 l=some (prS l):=by
 rw [List.all_eq_true] at h2
 have a3:=xO (n:=l.length) (by omega)
 unfold zR2
 rw [zW2 (by omega),Option.bind_some,qE2 (by rw [e0size]; omega),Option.bind_some,qF8]
 have:=qK5 (body:=fun (s':Int×ByteArray)=>vW l s'.1 s'.2) (l:=l) (f:=fun n=>zA4 n.toNat) (M:=5) (b0:=zA4 l.length) (by omega) (fun n hn=>by
  have:=okP_parts (h2 n hn)
  exact xO (by omega)) (fun i n b hi hn hb=>by
  have hlt:=(List.getElem?_eq_some_iff.1 hi).1
  have hp:=okP_parts (h2 n hn)
  have a5:=xO (n:=n.toNat) (by omega)
  show vW l i b=_
  unfold vW
  have e:n=((n.toNat:Nat):Int):=by omega
  rw [ifT (by simpa using hlt),zF,hi,Option.bind_some]
  conv=>lhs; rw [e]
  rw [zW2 (by omega),Option.bind_some,qE2 (by omega),Option.bind_some,wkS i (by omega)]) (fun b=>by
  show vW l l.length b=_
  unfold vW
  rw [ifF (by simp)])
 rw [this,Option.bind_some]
 rfl
def fail:ByteArray×Bool:=(ByteArray.mk #[],false)
end Go.TV.F
namespace Go.TV.F
open Go.TV
end Go.TV.F
namespace Go.TV.F
open Go.TV
end Go.TV.F
namespace Go.TV.F
open Go.TV
theorem octet_sim {text:ByteArray} (ht:text.size≤60000) {s:T_impl_scanner} {c:T_spec_l08Cur} (h:Sim text s c):∃ (b:Nat) (t:ByteArray) (s':T_impl_scanner) (c':T_spec_l08Cur),zB4 s=some ((b:Int),s')∧jC c 1=some (t,c')∧(if (!c'.bad)=true then (sidx t 0).bind fun x94=>some (wk .i64 x94) else some 0)=some (b:Int)∧b < 256∧Sim text s' c' ∧
  (s'.bad=false→s.bad=false∧Rd text s s' [b]):=by
 obtain ⟨t,s',c',h1,h2,h3,h4,h5,h6,h7⟩:=take_sim ht h (n:=1) (by omega)
 have e1:((1:Nat):Int)=1:=rfl
 rw [e1] at h1 h2
 unfold zB4
 rw [show T_impl_scanner.mk s.text s.at_ s.bad=s from rfl,h1]
 simp only [Option.bind_some]
 have n0:nb (ByteArray.mk #[])=[]:=rfl
 by_cases q:s'.bad=true
 ·skip
  have hcb:c'.bad=true:=by rw [← h3.bad,q]
  have ht0:t=ByteArray.mk #[]:=by
   obtain ⟨a,b,q1,q2,q3,q4,q5⟩:=h.at_
   by_cases hr:1+a≤text.size
   ·cases hs:s.bad with
    | true=>exact h5 hs
    | false =>
     have:=(h6 a q1 hr hs).1
     rw [q] at this
     cases this
   ·exact (h7 a q1 hr).1
  subst ht0
  refine ⟨0,_,s',c',?_,h2,?_,by omega,h3,fun h=>by rw [q] at h; cases h⟩
  ·rw [ifT (by simp)]
   rfl
  ·rw [hcb]
   rfl
 ·have q:s'.bad=false:=by simpa using q
  have hcb:c'.bad=false:=by rw [← h3.bad,q]
  obtain ⟨k1,k2,k3⟩:=h4 q
  obtain ⟨b,g1,g2,g3⟩:=sidx_nb (s:=t) (k:=0) (by omega)
  have e0:((0:Nat):Int)=0:=rfl
  rw [e0] at g1
  have hnb:nb t=[b]:=by
   have hl:=zQ9 t
   rw [k2] at hl
   match hn:nb t,hl with
   | [x],_ =>
    rw [hn] at g2
    simp at g2
    rw [g2]
  refine ⟨b,t,s',c',?_,h2,?_,g3,h3,fun _=>⟨k1,hnb ▸ k3⟩⟩
  ·rw [ifF (by rw [beq_nb,n0,hnb]; simp),g1]
   simp only [Option.bind_some]
   rw [qM (by omega) (by omega)]
  ·rw [hcb]
   simp only [Bool.not_false,if_true,g1,Option.bind_some]
   rw [qM (by omega) (by omega)]
end Go.TV.F
namespace Go.TV.F
open Go.TV
def s4 (t:ByteArray):ByteArray:=mkS ((four (crc (nb t))).map fun z:Nat=>(z:Int))
theorem four_lt (x:Nat):∀ z ∈ four x,z < 256:=fun z hz=>by
 unfold four at hz
 simp at hz
 omega
theorem nb_s4 (t:ByteArray):nb (s4 t)=four (crc (nb t)):=nb_mkS (four_lt _)
theorem s4_size (t:ByteArray):(s4 t).size=4:=by
 rw [← zQ9,nb_s4]
 rfl
theorem s4_all {t:ByteArray} (ht:t.size≤1000000000):uJ t=some (s4 t)∧zW0 t=some ((crc (nb t):Nat):Int)∧vL t=some ((crc (nb t):Nat):Int)∧kT ((crc (nb t):Nat):Int)=some (s4 t):=by
 obtain ⟨u,g1,g2,x,g3,g4,g5⟩:=four_eq (s:=t) ht
 have hs:=sumS_eq ht
 rw [g3] at hs
 simp only [Option.some.injEq] at hs
 subst hs
 obtain ⟨v,k1,k2⟩:=fourS_eq (x:=crc (nb t))
 have hu:u=s4 t:=by
  rw [g4] at k1
  simp only [Option.some.injEq] at k1
  subst k1
  exact nb_inj (by rw [k2,nb_s4])
 subst hu
 obtain ⟨r,h1,h2,_⟩:=sumOf_eq (text:=t) ht
 rw [g3] at h2
 simp only [Option.some.injEq] at h2
 subst h2
 exact ⟨g5,h1,g3,g4⟩
def jl (l:List ByteArray):ByteArray:=cat (l.map fun x=>x++ByteArray.mk #[10])
theorem nl_size:(ByteArray.mk #[10]).size=1:=rfl
theorem jl_size {l:List ByteArray} (hx:∀ x ∈ l,x.size≤60):(jl l).size≤l.length * 61:=by
 have:=zZ4 (l:=l.map fun x=>x++ByteArray.mk #[10]) (M:=61) (fun y hy=>by
  obtain ⟨x,hx',rfl⟩:=List.mem_map.1 hy
  have:=hx x hx'
  rw [ByteArray.size_append,nl_size]
  omega)
 rwa [List.length_map] at this
theorem joinI_eq {l:List ByteArray} (hl:l.length≤1000) (hx:∀ x ∈ l,x.size≤60):zO2 l=some (jl l):=by
 unfold zO2
 have:=qK5 (body:=fun (s':Int×ByteArray)=>vC l s'.1 s'.2) (l:=l) (f:=fun x=>x++ByteArray.mk #[10]) (M:=61) (b0:=ByteArray.mk #[]) (by rw [e0size]; omega) (fun x hx'=>by
  have:=hx x hx'
  rw [ByteArray.size_append,nl_size]
  omega) (fun i x b hi hx' hb=>by
  have hlt:=(List.getElem?_eq_some_iff.1 hi).1
  have:=hx x hx'
  show vC l i b=_
  unfold vC
  rw [ifT (by simpa using hlt),zF,hi,Option.bind_some,uL (by rw [nl_size]; omega),Option.bind_some,qE2 (by rw [ByteArray.size_append,nl_size]; omega),Option.bind_some,wkS i (by omega)]) (fun b=>by
  show vC l l.length b=_
  unfold vC
  rw [ifF (by simp)])
 rw [this,Option.bind_some,qF8]
 rfl
theorem accL_loop {α:Type} {l:List α} {f:α→ByteArray} {M:Nat} {body:Int×List Int→Option ((Int×List Int)⊕List Int)} {b0:ByteArray} (hb:b0.size+l.length * M≤400000000) (hf:∀ x ∈ l,(f x).size≤M)
  (hs:∀ (i:Nat) (x:α) (b:ByteArray),l[i]? = some x→x ∈ l→b.size+M≤400000000→body ((i:Int),qX b)=some (.inl (((i+1:Nat):Int),qX (b++f x))))
  (he:∀ b:ByteArray,body ((l.length:Int),qX b)=some (.inr (qX b))):zC body (0,qX b0)=some (qX (b0++cat (l.map f))):=by
 have h0:(0,qX b0)=((((0:Nat):Int),qX (b0++cat ((l.take 0).map f))):Int×List Int):=by simp [cat,qJ6]
 rw [h0]
 refine uW (fun k=>((k:Int),qX (b0++cat ((l.take k).map f)))) l.length (fun k hk=>?_) (by rw [he,List.take_length])
 have hsz:(cat ((l.take k).map f)).size≤k * M:=by
  have:=zZ4 (l:=(l.take k).map f) (M:=M) (fun x hx=>by
   obtain ⟨y,hy,rfl⟩:=List.mem_map.1 hx
   exact hf y (List.mem_of_mem_take hy))
  rw [List.length_map,List.length_take,Nat.min_eq_left (by omega)] at this
  exact this
 have hkM:(k+1) * M≤l.length * M:=Nat.mul_le_mul_right _ hk
 rw [Nat.add_mul,Nat.one_mul] at hkM
 rw [hs k l[k] _ (List.getElem?_eq_getElem hk) (List.getElem_mem hk) (by rw [ByteArray.size_append]; omega),cat_take hk,qJ7]
theorem bytesL_nl (x:ByteArray):qX x++[10]=qX (x++ByteArray.mk #[10]):=by
 rw [zW6]
 rfl
theorem bytesL_0:qX (ByteArray.mk #[])=[]:=rfl
theorem joinS_eq {l:List ByteArray} (hl:l.length≤80) (hx:∀ x ∈ l,uQ x=true):zN3 l=some (jl l,true):=by
 have h60:∀ x ∈ l,x.size≤60:=fun x hx'=>by
  have:=hx x hx'
  unfold uQ at this
  simp only [Bool.and_eq_true,decide_eq_true_eq] at this
  exact this.1
 unfold zN3
 rw [linesOkS_eq (fun x hx'=>by have:=h60 x hx'; omega) (by omega),Option.bind_some,show (decide (l.length≤80) && l.all uQ)=true by rw [decide_eq_true hl,List.all_eq_true.2 hx]; rfl,if_neg (by simp)]
 have:=accL_loop (body:=fun (s':Int×(List Int))=>vE l s'.1 s'.2) (l:=l) (f:=fun x=>x++ByteArray.mk #[10]) (M:=61) (b0:=ByteArray.mk #[]) (by rw [e0size]; omega) (fun x hx'=>by
  have:=h60 x hx'
  rw [ByteArray.size_append,nl_size]
  omega) (fun i x b hi hx' hb=>by
  have hlt:=(List.getElem?_eq_some_iff.1 hi).1
  have:=h60 x hx'
  show vE l i (qX b)=_
  unfold vE
  rw [ifT (by simpa using hlt),zF,hi,Option.bind_some,zK (by rw [yV,yV]; omega),Option.bind_some,zK (by rw [List.length_append,yV,yV,List.length_singleton]; omega),Option.bind_some,wkS i (by omega),List.append_assoc,bytesL_nl,← zW6]) (fun b=>by
  show vE l l.length (qX b)=_
  unfold vE
  rw [ifF (by simp)])
 rw [bytesL_0,qF8] at this
 rw [this,Option.bind_some]
 unfold zM2
 rw [mkS_bytesL]
 rfl
theorem txt_ok {w:T_impl_Weave} (h:WR w) (v:Nat):∀ x ∈ txt w v,uQ x=true:=fun x hx=>by
 unfold txt at hx
 obtain ⟨b,hb,rfl⟩:=List.mem_map.1 hx
 exact h.line (List.mem_filter.1 hb).1
theorem txt_80 {w:T_impl_Weave} (h:WR w) {v:Nat} (hv:v < w.Parents.length):(txt w v).length≤80:=by
 have:=h.p v hv
 rw [← txt_eq]
 unfold qE0
 rw [List.length_map]
 exact this
theorem lineB_60 {x:ByteArray} (h:uQ x=true):x.size≤60:=by
 unfold uQ at h
 simp only [Bool.and_eq_true,decide_eq_true_eq] at h
 exact h.1
theorem jl_txt {w:T_impl_Weave} (h:WR w) (v:Nat):(jl (txt w v)).size≤300 * 61:=by
 have h1:=jl_size (l:=txt w v) (fun x hx=>lineB_60 (txt_ok h v x hx))
 have h2:=txt_len h v
 have:(txt w v).length * 61≤300 * 61:=Nat.mul_le_mul_right _ h2
 omega
def verB (w:T_impl_Weave) (v:Nat):ByteArray:=prS (w.Parents.getD v [])++s4 (jl (txt w v))
def recE (r:T_impl_Rec):ByteArray:=mkS [wk .u8 r.Kind]++(if (r.Kind == 1)=true then shS r.Line else zA4 r.Version.toNat)
def twB:ByteArray:=ByteArray.mk #[84,87,49]
def wB (w:T_impl_Weave):ByteArray:=twB++zA4 w.Parents.length++cat ((List.range w.Parents.length).map (verB w))++zA4 (jD w).length++cat ((jD w).map recE)
def recOk (r:T_impl_Rec):Prop:=(r.Kind=1∧r.Version=0∧r.Line.size≤60)∨((r.Kind=2∨r.Kind=3∨r.Kind=4∨r.Kind=5)∧0≤r.Version∧r.Version≤40∧r.Line=eB)
theorem mk4_ok {i j:Int} {d e:List Int} (hi:i≤40) (hj:j≤40) (hd:∀ x ∈ d,0≤x∧x≤40) (he:∀ x ∈ e,0≤x∧x≤40):∀ r ∈ mk4 i d j e,recOk r:=fun r hr=>by
 unfold mk4 mDE mIE mI mD at hr
 simp only [List.mem_append,List.mem_map,List.mem_filter,List.mem_reverse] at hr
 rcases hr with ((⟨x,hx,rfl⟩ | hr) | hr) | ⟨x,hx,rfl⟩
 ·exact .inr ⟨.inr (.inr (.inr rfl)),(hd x hx.1).1,(hd x hx.1).2,rfl⟩
 ·split at hr
  ·rename_i q
   obtain rfl:=List.mem_singleton.1 hr
   simp only [Bool.and_eq_true,decide_eq_true_eq] at q
   exact .inr ⟨.inr (.inl rfl),q.2,hi,rfl⟩
  ·cases hr
 ·split at hr
  ·rename_i q
   obtain rfl:=List.mem_singleton.1 hr
   simp only [Bool.and_eq_true,decide_eq_true_eq] at q
   exact .inr ⟨.inl rfl,q.2,hj,rfl⟩
  ·cases hr
 ·exact .inr ⟨.inr (.inr (.inl rfl)),(he x hx.1).1,(he x hx.1).2,rfl⟩
theorem goR_ok {g:List (List Int)} (hg:g.length≤40):∀ (bs:List T_impl_Body) (i:Int) (d:List Int),(∀ b ∈ bs,stat g b=true)→i≤40→(∀ x ∈ d,0≤x∧x≤40)→∀ r ∈ goR i d bs,recOk r
 | [],i,d,_,hi,hd=>by
  unfold goR
  exact mk4_ok hi (by omega) hd (fun x hx=>by cases hx)
 | b :: bs,i,d,hb,hi,hd=>by
  have hst:=hb b (by simp)
  obtain ⟨i0,i1⟩:=qK9 hst
  have hl:=hst
  unfold stat at hl
  simp only [Bool.and_eq_true] at hl
  have hde:∀ x ∈ b.Dels,0≤x∧x≤40:=fun x hx=>by have:=qD6 hl.1.2 hx; omega
  intro r hr
  rw [goR_cons,List.mem_append,List.mem_cons] at hr
  rcases hr with hr | rfl | hr
  ·exact mk4_ok hi (by omega) hd hde r hr
  ·exact .inl ⟨rfl,rfl,lineB_60 hl.1.1.1⟩
  ·exact goR_ok hg bs b.Ins b.Dels (fun x hx=>hb x (by simp [hx])) (by omega) hde r hr
theorem recW_ok {w:T_impl_Weave} (h:WR w):∀ r ∈ jD w,recOk r:=goR_ok (kV h.g) w.Bodies (-1) [] (fun b hb=>qH8 h.o b hb) (by omega) (fun x hx=>by cases hx)
theorem qG1 {r:T_impl_Rec} (h:recOk r):(recE r).size≤66:=by
 unfold recE
 rw [ByteArray.size_append,qF3,List.length_singleton]
 rcases h with ⟨h1,h2,h3⟩ | ⟨h1,h2,h3,h4⟩
 ·rw [h1,if_pos (by rfl)]
  have:=shS_size (s:=r.Line) (by omega)
  omega
 ·have:(r.Kind == 1)=false:=by rcases h1 with h | h | h | h <;> rw [h] <;> rfl
  rw [this,if_neg (by simp)]
  have:=xO (n:=r.Version.toNat) (by omega)
  omega
theorem recTextI {r:T_impl_Rec} (h:recOk r):zT7 (T_impl_Rec.mk r.Kind r.Version r.Line)=some (recE r):=by
 unfold zT7 recE
 rcases h with ⟨h1,h2,h3⟩ | ⟨h1,h2,h3,h4⟩
 ·simp only [h1]
  rw [if_pos (by rfl),if_pos (by rfl),shortI_eq (by omega),Option.bind_some]
  have:=shS_size (s:=r.Line) (by omega)
  rw [uL (by rw [qF3,List.length_singleton]; omega)]
  rfl
 ·have hk:(r.Kind == 1)=false:=by rcases h1 with h | h | h | h <;> rw [h] <;> rfl
  simp only [hk]
  rw [if_neg (by simp),if_neg (by simp)]
  have e:r.Version=((r.Version.toNat:Nat):Int):=by omega
  have:=xO (n:=r.Version.toNat) (by omega)
  conv=>lhs; rw [e]
  rw [zW2 (by omega),Option.bind_some,uL (by rw [qF3,List.length_singleton]; omega)]
  rfl
theorem qK2 {w:T_impl_Weave} (h:WR w) {v:Nat} (hv:v < w.Parents.length):(w.Parents.getD v []).length≤4∧(w.Parents.getD v []).all okP=true∧∀ x ∈ w.Parents.getD v [],0≤x∧x≤40:=by
 have hg:=zX6 h.g hv
 have hgl:=kV h.g
 have e:w.Parents.getD v []=w.Parents[v]:=getD_in hv
 rw [e]
 have hb:∀ x ∈ w.Parents[v],0≤x∧x≤40:=fun x hx=>by have:=qD6 hg.2 hx; omega
 refine ⟨hg.1,List.all_eq_true.2 (fun x hx=>?_),hb⟩
 have:=hb x hx
 unfold okP inR
 simp
 omega
theorem qG3 {w:T_impl_Weave} (h:WR w) {v:Nat} (hv:v < w.Parents.length):(verB w v).size≤29:=by
 obtain ⟨h1,h2,_⟩:=qK2 h hv
 have:=prS_size h1 h2
 unfold verB
 rw [ByteArray.size_append,s4_size]
 omega
def sealT (t:ByteArray):ByteArray×Bool:=if t.size > 60000 then (ByteArray.mk #[],false) else (t++s4 t,true)
theorem sealI {t:ByteArray} (ht:t.size≤1000000000):zY3 t=some (sealT t)∧uH t=some (sealT t):=by
 obtain ⟨g1,g2,g3,g4⟩:=s4_all ht
 have hs:=s4_size t
 unfold zY3 uH sealT
 by_cases q:t.size > 60000
 ·rw [if_pos q,ifT (decide_eq_true (by omega)),ifT (decide_eq_true (by omega))]
  exact ⟨rfl,rfl⟩
 ·rw [if_neg q,ifF (decide_eq_false (by omega)),ifF (decide_eq_false (by omega)),g1,g3,Option.bind_some,Option.bind_some,g4,Option.bind_some,uL (by omega)]
  exact ⟨rfl,rfl⟩
theorem wB_parts {w:T_impl_Weave} (h:WR w) (hn:(jD w).length≤4000):(twB++zA4 w.Parents.length).size≤8∧(cat ((List.range w.Parents.length).map (verB w))).size≤40 * 29∧(zA4 (jD w).length).size≤5∧(cat ((jD w).map recE)).size≤4000 * 66:=by
 have hgl:=kV h.g
 have a1:=xO (n:=w.Parents.length) (by omega)
 have a2:=xO (n:=(jD w).length) (by omega)
 have e3:twB.size=3:=rfl
 refine ⟨by rw [ByteArray.size_append]; omega,?_,a2,?_⟩
 ·have:=zZ4 (l:=(List.range w.Parents.length).map (verB w)) (M:=29) (fun x hx=>by
   obtain ⟨v,hv,rfl⟩:=List.mem_map.1 hx
   exact qG3 h (List.mem_range.1 hv))
  rw [List.length_map,List.length_range] at this
  have h2:w.Parents.length * 29≤40 * 29:=Nat.mul_le_mul_right _ hgl
  omega
 ·have:=zZ4 (l:=(jD w).map recE) (M:=66) (fun x hx=>by
   obtain ⟨r,hr,rfl⟩:=List.mem_map.1 hx
   exact qG1 (recW_ok h r hr))
  rw [List.length_map] at this
  have h2:(jD w).length * 66≤4000 * 66:=Nat.mul_le_mul_right _ hn
  omega
theorem wB_size {w:T_impl_Weave} (h:WR w) (hn:(jD w).length≤4000):(wB w).size≤300000:=by
 obtain ⟨a1,a2,a3,a4⟩:=wB_parts h hn
 unfold wB
 rw [ByteArray.size_append,ByteArray.size_append,ByteArray.size_append]
 omega
noncomputable def wTxt (w:T_impl_Weave):ByteArray×Bool:=if (jD w).length > 4000 then (ByteArray.mk #[],false) else sealT (wB w)
theorem weaveTextI {w:T_impl_Weave} (h:WR w):zF4 w=some (wTxt w):=by
 have hgl:=kV h.g
 unfold zF4 wTxt
 have e1:zN0 (T_impl_Weave.mk w.Parents w.Bodies)=some (recB w):=RecordsI (w:=w) (by omega) h.dsm
 rw [e1,Option.bind_some]
 unfold recB
 rw [if_pos (wOk_iff.2 h)]
 by_cases hn:(jD w).length > 4000
 ·rw [if_pos hn,if_pos hn]
  rfl
 rw [if_neg hn,if_neg hn]
 have hn':(jD w).length≤4000:=by omega
 obtain ⟨p1,p2,p3,p4⟩:=wB_parts h hn'
 have e3:(ByteArray.mk #[84,87,49]).size=3:=rfl
 have a1:=xO (n:=w.Parents.length) (by omega)
 simp only [Bool.not_true,Bool.false_eq_true,if_false]
 rw [zW2 (by omega),Option.bind_some,uL (by omega),Option.bind_some,qE2 (by rw [e0size,ByteArray.size_append]; omega),Option.bind_some,qF8]
 have l2:=qK5 (body:=fun (s':Int×ByteArray)=>xQ w s'.1 s'.2) (l:=List.range w.Parents.length) (f:=verB w) (M:=29) (b0:=twB++zA4 w.Parents.length) (by rw [List.length_range]; omega) (fun v hv=>qG3 h (List.mem_range.1 hv)) (fun i v b hi hv hb=>by
  have hv':=List.mem_range.1 hv
  have hvi:v=i:=by
   have hlt:=(List.getElem?_eq_some_iff.1 hi).1
   rw [List.length_range] at hlt
   rw [List.getElem?_range hlt] at hi
   exact (zso hi).symm
  subst hvi
  obtain ⟨k1,k2,k3⟩:=qK2 h hv'
  have e:w.Parents.getD v []=w.Parents[v]:=getD_in hv'
  have hp:=prS_size k1 k2
  have hz:=qG3 h hv'
  have hs:=s4_size (jl (txt w v))
  have hj:=jl_txt h v
  have ht:=txt_len h v
  show xQ w (v:Int) b=_
  unfold xQ
  have e5:uF (T_impl_Weave.mk w.Parents w.Bodies) (v:Int)=some (txt w v):=by have:=weaveExtract h (v:=(v:Int)) (by omega) (by omega); rwa [Int.toNat_natCast] at this
  rw [ifT (by simpa using hv'),zF,List.getElem?_eq_getElem hv',Option.bind_some,← e,listTextI_eq k1 k2,Option.bind_some,e5,Option.bind_some,joinI_eq (by omega) (fun x hx=>lineB_60 (txt_ok h v x hx)),Option.bind_some,(s4_all (t:=jl (txt w v)) (by omega)).1,Option.bind_some,uL (by omega),Option.bind_some]
  rw [show prS (w.Parents.getD v [])++s4 (jl (txt w v))=verB w v from rfl,qE2 (by omega),Option.bind_some,wkS v (by omega)]) (fun b=>by
  show xQ w _ b=_
  unfold xQ
  rw [List.length_range,ifF (by simp)])
 have l2':zC (fun (s':Int×ByteArray)=>xQ w s'.1 s'.2) (0,ByteArray.mk #[84,87,49]++zA4 w.Parents.length)=_:=l2
 rw [l2',Option.bind_some]
 unfold zM1
 simp only
 rw [zW2 (by omega),Option.bind_some,qE2 (by rw [ByteArray.size_append]; omega),Option.bind_some]
 have l1:=qK5 (body:=fun (s':Int×ByteArray)=>vI (jD w,true) s'.1 s'.2) (l:=jD w) (f:=recE) (M:=66) (b0:=twB++zA4 w.Parents.length++cat ((List.range w.Parents.length).map (verB w))++zA4 (jD w).length) (by rw [ByteArray.size_append,ByteArray.size_append]; omega) (fun r hr=>qG1 (recW_ok h r hr)) (fun i r b hi hr hb=>by
  have hlt:=(List.getElem?_eq_some_iff.1 hi).1
  have hrk:=recW_ok h r hr
  have hz:=qG1 hrk
  show vI (jD w,true) i b=_
  unfold vI
  rw [ifT (by simpa using hlt)]
  simp only
  rw [zF,hi,Option.bind_some,recTextI hrk,Option.bind_some,qE2 (by omega),Option.bind_some,wkS i (by omega)]) (fun b=>by
  show vI (jD w,true) _ b=_
  unfold vI
  rw [ifF (by simp)])
 rw [l1,Option.bind_some]
 have hz:=wB_size h hn'
 show zE2 (wB w)=_
 unfold zE2 kW
 rw [Option.bind_some,(sealI (t:=wB w) (by omega)).1,Option.bind_some]
end Go.TV.F
namespace Go.TV.F
open Go.TV
theorem items_simN {text:ByteArray} {α:Type} {I:T_impl_scanner→Option (α×T_impl_scanner)} {G:T_spec_l08Cur→Option (α×T_spec_l08Cur)} (P P2:α→Prop)
  (hit:∀ s c,Sim text s c→∃ x s' y c',I s=some (x,s')∧G c=some (y,c')∧Sim text s' c'∧P2 y∧(s'.bad=false→x=y∧P x∧s.bad=false))
  {n:Nat} {f:Int×ByteArray×Int×Bool×List α→Option ((Int×ByteArray×Int×Bool×List α)⊕(ByteArray×Int×Bool×List α))} {g:Int×ByteArray×Int×Bool×List α→Option ((Int×ByteArray×Int×Bool×List α)⊕(ByteArray×Int×Bool×List α))}
  (hf:∀ (k:Nat) (t:ByteArray) (a:Int) (b:Bool) (out:List α),k < n→out.length=k→f ((k:Int),t,a,b,out)=(I ⟨t,a,b⟩).bind fun r=>some (.inl (((k+1:Nat):Int),r.2.text,r.2.at_,r.2.bad,out++[r.1])))
  (hf0:∀ (t:ByteArray) (a:Int) (b:Bool) (out:List α),f ((n:Int),t,a,b,out)=some (.inr (t,a,b,out)))
  (hg:∀ (k:Nat) (t:ByteArray) (a:Int) (out:List α),k < n→out.length=k→g ((k:Int),t,a,false,out)=(G ⟨t,a,false⟩).bind fun r=>some (.inl (((k+1:Nat):Int),r.2.text,r.2.at_,r.2.bad,out++[r.1])))
  (hg0:∀ (k:Nat) (t:ByteArray) (a:Int) (out:List α),k≤n→g ((k:Int),t,a,true,out)=some (.inr (t,a,true,out)))
  (hg1:∀ (t:ByteArray) (a:Int) (b:Bool) (out:List α),g ((n:Int),t,a,b,out)=some (.inr (t,a,b,out)))
  {s:T_impl_scanner} {c:T_spec_l08Cur} (h:Sim text s c) :
  ∃ s' l c' l',zC f (0,s.text,s.at_,s.bad,[])=some (s'.text,s'.at_,s'.bad,l)∧zC g (0,c.text,c.at_,c.bad,[])=some (c'.text,c'.at_,c'.bad,l')∧Sim text s' c'∧l'.length≤n∧(∀ y ∈ l',P2 y) ∧
   (s'.bad=false→l=l'∧s.bad=false∧l.length=n∧(∀ x ∈ l,P x)):=by
 have badrun:∀ (m k:Nat) (s:T_impl_scanner) (out:List α),k+m=n→out.length=k→s.bad=true→(∃ c,Sim text s c)→∃ s' l,zC f ((k:Int),s.text,s.at_,s.bad,out)=some (s'.text,s'.at_,s'.bad,l)∧s'.bad=true∧∃ c',Sim text s' c':=by
  intro m
  induction m with
  | zero =>
   intro k s out hk ho hb hc
   have:k=n:=by omega
   subst this
   rw [zJ,hf0]
   exact ⟨s,out,rfl,hb,hc⟩
  | succ m ih =>
   intro k s out hk ho hb ⟨c,hc⟩
   obtain ⟨x,s',y,c',h1,h2,h3,_,h4⟩:=hit s c hc
   have hb':s'.bad=true:=by
    cases q:s'.bad with
    | true=>rfl
    | false =>
     have:=(h4 q).2.2
     rw [hb] at this
     cases this
   rw [zJ,hf k _ _ _ _ (by omega) ho,show T_impl_scanner.mk s.text s.at_ s.bad=s from rfl,h1]
   simp only [Option.bind_some]
   exact ih (k+1) s' (out++[x]) (by omega) (by simp [ho]) hb' ⟨c',h3⟩
 have simBad:∀ {s1:T_impl_scanner} {c1 c2:T_spec_l08Cur} {s2:T_impl_scanner},Sim text s1 c1→Sim text s2 c2→s1.bad=true→s2.bad=true→Sim text s1 c2:=by
  intro s1 c1 c2 s2 h1 h2 b1 b2
  obtain ⟨a1,b1',q1,q2,q3,q4,q5⟩:=h1.at_
  obtain ⟨a2,b2',r1,r2,r3,r4,r5⟩:=h2.at_
  exact ⟨h1.st,h2.ct,by rw [b1,← h2.bad,b2],a1,b2',q1,r2,q3,r4,fun h=>by rw [b1] at h; cases h⟩
 have main:∀ (m k:Nat) (s:T_impl_scanner) (c:T_spec_l08Cur) (out:List α),k+m=n→out.length=k→Sim text s c→s.bad=false→(∀ x ∈ out,P x)→(∀ x ∈ out,P2 x)→∃ s' l c' l',zC f ((k:Int),s.text,s.at_,s.bad,out)=some (s'.text,s'.at_,s'.bad,l)∧zC g ((k:Int),c.text,c.at_,c.bad,out)=some (c'.text,c'.at_,c'.bad,l')∧Sim text s' c'∧l'.length≤n∧(∀ y ∈ l',P2 y) ∧
   (s'.bad=false→l=l'∧l.length=n∧(∀ x ∈ l,P x)):=by
  intro m
  induction m with
  | zero =>
   intro k s c out hk ho hs hb hP hP2
   have:k=n:=by omega
   subst this
   rw [zJ,hf0,zJ,hg1]
   obtain ⟨a1,b1',q1,q2,q3,q4,q5⟩:=hs.at_
   exact ⟨s,out,c,out,rfl,rfl,hs,by omega,hP2,fun _=>⟨rfl,ho,hP⟩⟩
  | succ m ih =>
   intro k s c out hk ho hs hb hP hP2
   have hcb:c.bad=false:=by rw [← hs.bad,hb]
   obtain ⟨x,s',y,c',h1,h2,h3,hy2,h4⟩:=hit s c hs
   have hP2':∀ z ∈ out++[y],P2 z:=fun z hz=>by
    rcases List.mem_append.1 hz with hz | hz
    ·exact hP2 z hz
    ·simp at hz
     subst hz
     exact hy2
   rw [zJ,hf k _ _ _ _ (by omega) ho,show T_impl_scanner.mk s.text s.at_ s.bad=s from rfl,h1]
   rw [zJ,hcb,hg k _ _ _ (by omega) ho,show T_spec_l08Cur.mk c.text c.at_ false=c from by cases c with | mk t a b=>simp only at hcb; rw [hcb],h2]
   simp only [Option.bind_some]
   cases q:s'.bad with
   | true =>
    have hcb':c'.bad=true:=by rw [← h3.bad,q]
    obtain ⟨s2,l,g1,g2,c2,g3⟩:=badrun m (k+1) s' (out++[x]) (by omega) (by simp [ho]) q ⟨c',h3⟩
    rw [q] at g1
    rw [g1,hcb',zJ,hg0 (k+1) _ _ _ (by omega)]
    refine ⟨s2,l,c',out++[y],rfl,by rw [hcb']; rfl,simBad g3 h3 g2 q,by simp; omega,hP2',fun h=>?_⟩
    rw [g2] at h
    cases h
   | false =>
    obtain ⟨rfl,hPx,_⟩:=h4 q
    obtain ⟨s2,l,c2,l2,g1,g2,g3,g5,g6,g4⟩:=ih (k+1) s' c' (out++[x]) (by omega) (by simp [ho]) h3 q (fun z hz=>by
     rcases List.mem_append.1 hz with hz | hz
     ·exact hP z hz
     ·simp at hz
      subst hz
      exact hPx) hP2'
    rw [q] at g1
    rw [g1,g2]
    exact ⟨s2,l,c2,l2,rfl,rfl,g3,g5,g6,g4⟩
 cases hb:s.bad with
 | true =>
  have hcb:c.bad=true:=by rw [← h.bad,hb]
  obtain ⟨s',l,h1,h2,c',h3⟩:=badrun n 0 s [] (by omega) rfl hb ⟨c,h⟩
  rw [hb] at h1
  have:=hg0 0 c.text c.at_ [] (by omega)
  refine ⟨s',l,c,[],h1,?_,simBad h3 h h2 hb,by simp,(fun _ h=>by cases h),fun q=>?_⟩
  ·rw [hcb,zJ]
   have e:((0:Nat):Int)=0:=rfl
   rw [e] at this
   rw [this]
   rfl
  ·rw [h2] at q
   cases q
 | false =>
  obtain ⟨s',l,c',l',h1,h2,h3,h5,h6,h4⟩:=main n 0 s c [] (by omega) rfl h hb (fun _ h=>by cases h) (fun _ h=>by cases h)
  rw [hb] at h1
  refine ⟨s',l,c',l',h1,h2,h3,h5,h6,fun q=>?_⟩
  obtain ⟨k1,k2,k3⟩:=h4 q
  exact ⟨k1,rfl,k2,k3⟩
theorem numbersW_sim {text:ByteArray} (ht:text.size≤60000) {s:T_impl_scanner} {c:T_spec_l08Cur} (h:Sim text s c):∃ (n:Nat) (l l':List Int) (s':T_impl_scanner) (c1 c':T_spec_l08Cur),kS s 4=some (l,s')∧jF c 4=some ((n:Int),c1) ∧
  zC (fun (s':Int×ByteArray×Int×Bool×(List Int))=>jV ((n:Int),c1) s'.1 s'.2.1 s'.2.2.1 s'.2.2.2.1 s'.2.2.2.2) (0,c1.text,c1.at_,c1.bad,[])=some (c'.text,c'.at_,c'.bad,l')∧Sim text s' c' ∧
  (s'.bad=false→l=l'∧s.bad=false∧l.length≤4∧(∀ x ∈ l,0≤x)∧Rd text s s' (zB6 l.length++(l.map fun x=>zB6 x.toNat).flatten)):=by
 unfold kS
 obtain ⟨n,s1,c1,h1,h2,h3,h4,h5⟩:=qJ8 ht h (most:=4) (by omega)
 have e4:((4:Nat):Int)=4:=rfl
 rw [e4] at h1 h2
 rw [show T_impl_scanner.mk s.text s.at_ s.bad=s from rfl,h1,h2]
 simp only [Option.bind_some]
 obtain ⟨s',l,c',l',g1,g2,g3,_,_,g4⟩:=items_sim (text:=text) (I:=qA) (G:=fun c=>jF c 1000000000) (fun x:Int=>zB6 x.toNat) (fun x=>0≤x) (fun _=>True) (n:=n)
  (f:=fun (s':Int×ByteArray×Int×Bool×(List Int))=>kK ((n:Int),s1) s'.1 s'.2.1 s'.2.2.1 s'.2.2.2.1 s'.2.2.2.2)
  (g:=fun (s':Int×ByteArray×Int×Bool×(List Int))=>jV ((n:Int),c1) s'.1 s'.2.1 s'.2.2.1 s'.2.2.2.1 s'.2.2.2.2)
  (fun s c hs=>by
   obtain ⟨x,s',c',q1,q2,q3,q4,q5⟩:=number_sim ht hs
   exact ⟨_,s',_,c',q1,q2,q3,trivial,fun hb=>⟨rfl,by omega,(q5 hb).1,by simpa using (q5 hb).2⟩⟩)
  (fun k t a b out hk ho=>by
   simp only [kK]
   rw [ifT (by simpa using hk)]
   congr 1
   funext r
   rw [zK (by simp; omega),Option.bind_some,wkS k (by omega)])
  (fun t a b out=>by
   simp only [kK]
   rw [ifF (by simp)])
  (fun k t a out hk ho=>by
   simp only [jV]
   rw [ifT (by simpa using hk)]
   simp only [Option.bind_some,Bool.not_false,if_true]
   congr 1
   funext r
   rw [zK (by simp; omega),Option.bind_some,wkS k (by omega)])
  (fun k t a out hk=>by
   simp only [jV]
   by_cases q:k < n
   ·rw [ifT (by simpa using q)]
    simp only [Option.bind_some,Bool.not_true,Bool.false_eq_true,if_false]
   ·rw [ifF (by simpa using q)]
    simp only [Option.bind_some,Bool.false_eq_true,if_false])
  (fun t a b out=>by
   simp only [jV]
   rw [ifF (by simp)]
   simp only [Option.bind_some,Bool.false_eq_true,if_false])
  h3
 rw [g1]
 simp only [Option.bind_some,uR]
 refine ⟨n,l,l',s',c1,c',rfl,rfl,g2,g3,fun hb=>?_⟩
 obtain ⟨k1,k2,k3,k4,k5⟩:=g4 hb
 exact ⟨k1,(h5 k2).1,by omega,k4,by rw [k3]; exact (h5 k2).2.trans k5⟩
theorem shortTextS {s:ByteArray} (h:s.size≤60000):zM7 s=some (shS s,true):=by
 have:=xO (n:=s.size) (by omega)
 unfold zM7
 rw [ifF (decide_eq_false (by omega)),zV0 (by omega),Option.bind_some,uL (by omega)]
 rfl
theorem sumOfW {w:T_impl_Weave} (h:WR w) {v:Nat} (hv:v < w.Parents.length):zS0 w (v:Int)=some ((crc (nb (jl (txt w v))):Nat):Int):=by
 have hj:=jl_txt h v
 unfold zS0
 have e1:zO1 (T_impl_Weave.mk w.Parents w.Bodies) (v:Int)=some (txt w v):=by have:=textS (w:=w) h (v:=(v:Int)) (by omega) (by omega); rwa [Int.toNat_natCast] at this
 rw [e1,Option.bind_some,joinS_eq (txt_80 h hv) (txt_ok h v),Option.bind_some]
 simp only
 rw [(s4_all (t:=jl (txt w v)) (by omega)).2.2.1]
 rfl
theorem weaveTextS {w:T_impl_Weave} (h:WR w):zP7 w=some (wTxt w):=by
 have hgl:=kV h.g
 unfold zP7 wTxt
 have e1:zG5 (T_impl_Weave.mk w.Parents w.Bodies)=some (recB w):=RecordsS (w:=w) (by omega) h.dsm (fun b hb=>by have:=h.lsz b hb; omega)
 rw [e1,Option.bind_some]
 unfold recB
 rw [if_pos (wOk_iff.2 h)]
 by_cases hn:(jD w).length > 4000
 ·rw [if_pos hn,if_pos hn]
  rfl
 rw [if_neg hn,if_neg hn]
 have hn':(jD w).length≤4000:=by omega
 obtain ⟨p1,p2,p3,p4⟩:=wB_parts h hn'
 have e3:(ByteArray.mk #[84,87,49]).size=3:=rfl
 have a1:=xO (n:=w.Parents.length) (by omega)
 simp only [Bool.not_true,Bool.false_eq_true,if_false]
 rw [zV0 (by omega),Option.bind_some,uL (by omega),Option.bind_some]
 have l2:=accL_loop (body:=fun (s':Int×(List Int))=>xR w s'.1 s'.2) (l:=List.range w.Parents.length) (f:=verB w) (M:=29) (b0:=twB++zA4 w.Parents.length) (by rw [List.length_range]; omega) (fun v hv=>qG3 h (List.mem_range.1 hv)) (fun i v b hi hv hb=>by
  have hv':=List.mem_range.1 hv
  have hvi:v=i:=by
   have hlt:=(List.getElem?_eq_some_iff.1 hi).1
   rw [List.length_range] at hlt
   rw [List.getElem?_range hlt] at hi
   exact (zso hi).symm
  subst hvi
  obtain ⟨k1,k2,k3⟩:=qK2 h hv'
  have e:w.Parents.getD v []=w.Parents[v]:=getD_in hv'
  have hp:=prS_size k1 k2
  have hz:=qG3 h hv'
  have hs:=s4_size (jl (txt w v))
  have hj:=jl_txt h v
  have hx:w.Parents[v]? = some (w.Parents.getD v []):=by rw [List.getElem?_eq_getElem hv',e]
  have a2:=xO (n:=(w.Parents.getD v []).length) (by omega)
  show xR w (v:Int) (qX b)=_
  unfold xR
  rw [ifT (by simpa using hv'),zF,hx,Option.bind_some,zV0 (by omega),Option.bind_some]
  have l3:=acc_loop2 (body:=fun (s':ByteArray×Int)=>vA w v s'.1 s'.2) (l:=w.Parents.getD v []) (f:=fun n=>zA4 n.toNat) (M:=5) (b0:=zA4 (w.Parents.getD v []).length) (by omega) (fun n hn=>by have:=k3 n hn; exact xO (by omega)) (fun k n b hk hn hb=>by
   have hlt:=(List.getElem?_eq_some_iff.1 hk).1
   have h3:=k3 n hn
   have a5:=xO (n:=n.toNat) (by omega)
   show vA w v b k=_
   unfold vA
   have en:n=((n.toNat:Nat):Int):=by omega
   rw [zF,hx,Option.bind_some,ifT (by simpa using hlt),zF,hk,Option.bind_some]
   conv=>lhs; rw [en]
   rw [zV0 (by omega),Option.bind_some,uL (by omega),Option.bind_some,wkS k (by omega)]) (fun b=>by
   show vA w v b _=_
   unfold vA
   rw [zF,hx,Option.bind_some,ifF (by simp)])
  rw [l3,Option.bind_some]
  show zD9 w v (qX b) (prS (w.Parents.getD v []))=_
  unfold zD9 zL9
  have e6:zS0 (T_impl_Weave.mk w.Parents w.Bodies) (v:Int)=_:=sumOfW (w:=w) h hv'
  rw [e6,Option.bind_some,(s4_all (t:=jl (txt w v)) (by omega)).2.2.2,Option.bind_some,uL (by omega),Option.bind_some]
  rw [show prS (w.Parents.getD v [])++s4 (jl (txt w v))=verB w v from rfl,zK (by rw [yV,yV]; omega),Option.bind_some,wkS v (by omega),← zW6]) (fun b=>by
  show xR w _ (qX b)=_
  unfold xR
  rw [List.length_range,ifF (by simp)])
 have l2':zC (fun (s':Int×(List Int))=>xR w s'.1 s'.2) (0,qX (ByteArray.mk #[84,87,49]++zA4 w.Parents.length))=_:=l2
 rw [l2',Option.bind_some]
 unfold zL6
 simp only
 rw [zV0 (by omega),Option.bind_some,zK (by rw [yV,yV,ByteArray.size_append]; omega),Option.bind_some,← zW6]
 have l1:=accL_loop (body:=fun (s':Int×(List Int))=>vH (jD w,true) s'.1 s'.2) (l:=jD w) (f:=recE) (M:=66) (b0:=twB++zA4 w.Parents.length++cat ((List.range w.Parents.length).map (verB w))++zA4 (jD w).length) (by rw [ByteArray.size_append,ByteArray.size_append]; omega) (fun r hr=>qG1 (recW_ok h r hr)) (fun i r b hi hr hb=>by
  have hlt:=(List.getElem?_eq_some_iff.1 hi).1
  have hrk:=recW_ok h r hr
  have hz:=qG1 hrk
  show vH (jD w,true) i (qX b)=_
  unfold vH
  rw [ifT (by simpa using hlt)]
  simp only
  rw [zF,hi,Option.bind_some]
  rcases hrk with ⟨c1,c2,c3⟩ | ⟨c1,c2,c3,c4⟩
  ·have hk:(r.Kind == 1)=true:=by rw [c1]; rfl
   have hE:mkS [wk .u8 r.Kind]++shS r.Line=recE r:=by unfold recE; rw [if_pos hk]
   have:=shS_size (s:=r.Line) (by omega)
   rw [if_pos hk,shortTextS (by omega),Option.bind_some]
   simp only
   rw [uL (by rw [qF3,List.length_singleton]; omega),Option.bind_some,hE,zK (by rw [yV,yV]; omega),Option.bind_some,wkS i (by omega),← zW6]
  ·have hk:(r.Kind == 1)=false:=by rcases c1 with h | h | h | h <;> rw [h] <;> rfl
   have hE:mkS [wk .u8 r.Kind]++zA4 r.Version.toNat=recE r:=by unfold recE; rw [hk]; rfl
   have en:r.Version=((r.Version.toNat:Nat):Int):=by omega
   have a5:=xO (n:=r.Version.toNat) (by omega)
   have ev:wE r.Version=some (zA4 r.Version.toNat):=by
    conv=>lhs; rw [en]
    exact zV0 (by omega)
   rw [if_neg (by rw [hk]; simp),ev,Option.bind_some]
   rw [uL (by rw [qF3,List.length_singleton]; omega),Option.bind_some,hE,zK (by rw [yV,yV]; omega),Option.bind_some,wkS i (by omega),← zW6]) (fun b=>by
  show vH (jD w,true) _ (qX b)=_
  unfold vH
  rw [ifF (by simp)])
 rw [l1,Option.bind_some]
 have hz:=wB_size h hn'
 show zD8 (qX (wB w))=_
 unfold zD8
 rw [mkS_bytesL,(sealI (t:=wB w) (by omega)).2,Option.bind_some]
noncomputable def implVer (s:T_impl_scanner):Option (List Int×T_impl_scanner):=(kS s 4).bind fun x=>(zS x.2 4).bind fun y=>some (x.1,y.2)
noncomputable def specVer (c:T_spec_l08Cur):Option (List Int×T_spec_l08Cur):=(jF c 4).bind fun v=>(zC (fun (s':Int×ByteArray×Int×Bool×(List Int))=>jV v s'.1 s'.2.1 s'.2.2.1 s'.2.2.2.1 s'.2.2.2.2) (0,v.2.text,v.2.at_,v.2.bad,[])).bind fun p=>(jC ⟨p.1,p.2.1,p.2.2.1⟩ 4).bind fun y=>some (p.2.2.2,y.2)
theorem ver_sim {text:ByteArray} (ht:text.size≤60000) {s:T_impl_scanner} {c:T_spec_l08Cur} (h:Sim text s c):∃ x s' y c',implVer s=some (x,s')∧specVer c=some (y,c')∧Sim text s' c'∧True∧(s'.bad=false→x=y∧True∧s.bad=false):=by
 obtain ⟨n,l,l',s1,c1,c2,h1,h2,h3,h4,h5⟩:=numbersW_sim ht h
 obtain ⟨t,s2,c3,g1,g2,g3,g4,_⟩:=take_sim ht h4 (n:=4) (by omega)
 have e4:((4:Nat):Int)=4:=rfl
 rw [e4] at g1 g2
 refine ⟨l,s2,l',c3,?_,?_,g3,trivial,fun hb=>?_⟩
 ·unfold implVer
  simp only [h1,g1,Option.bind_some]
 ·unfold specVer
  simp only [h2,h3,g2,Option.bind_some]
 ·have k1:=(g4 hb).1
  have k2:=h5 k1
  exact ⟨k2.1,trivial,k2.2.1⟩
theorem vers_sim {text:ByteArray} (ht:text.size≤60000) {s:T_impl_scanner} {c:T_spec_l08Cur} (h:Sim text s c):∃ (n:Nat) (s1 s':T_impl_scanner) (c1 c':T_spec_l08Cur) (l l':List (List Int)),kH s 40=some ((n:Int),s1)∧jF c 40=some ((n:Int),c1) ∧
  zC (fun (s':Int×ByteArray×Int×Bool×(List (List Int)))=>yG ((n:Int),s1) s'.1 s'.2.1 s'.2.2.1 s'.2.2.2.1 s'.2.2.2.2) (0,s1.text,s1.at_,s1.bad,[])=some (s'.text,s'.at_,s'.bad,l) ∧
  zC (fun (s':Int×ByteArray×Int×Bool×(List (List Int)))=>kZ ((n:Int),c1) s'.1 s'.2.1 s'.2.2.1 s'.2.2.2.1 s'.2.2.2.2) (0,c1.text,c1.at_,c1.bad,[])=some (c'.text,c'.at_,c'.bad,l')∧Sim text s' c' ∧
  (s'.bad=false→l=l'∧s.bad=false∧l.length≤40):=by
 obtain ⟨n,s1,c1,h1,h2,h3,h4,h5⟩:=qJ8 ht h (most:=40) (by omega)
 have e4:((40:Nat):Int)=40:=rfl
 rw [e4] at h1 h2
 obtain ⟨s',l,c',l',g1,g2,g3,_,_,g4⟩:=items_simN (text:=text) (I:=implVer) (G:=specVer) (fun _=>True) (fun _=>True) (n:=n)
  (f:=fun (s':Int×ByteArray×Int×Bool×(List (List Int)))=>yG ((n:Int),s1) s'.1 s'.2.1 s'.2.2.1 s'.2.2.2.1 s'.2.2.2.2)
  (g:=fun (s':Int×ByteArray×Int×Bool×(List (List Int)))=>kZ ((n:Int),c1) s'.1 s'.2.1 s'.2.2.1 s'.2.2.2.1 s'.2.2.2.2)
  (fun s c hs=>ver_sim ht hs)
  (fun k t a b out hk ho=>by
   simp only [yG,implVer]
   rw [ifT (by simpa using hk)]
   cases kS ⟨t,a,b⟩ 4 with
   | none=>rfl
   | some x =>
    simp only [Option.bind_some]
    rw [zK (by simp; omega),Option.bind_some,show T_impl_scanner.mk x.2.text x.2.at_ x.2.bad=x.2 from rfl]
    cases zS x.2 4 with
    | none=>rfl
    | some y =>
     simp only [Option.bind_some]
     rw [wkS k (by omega)])
  (fun t a b out=>by
   simp only [yG]
   rw [ifF (by simp)])
  (fun k t a out hk ho=>by
   simp only [kZ,specVer]
   rw [ifT (by simpa using hk)]
   simp only [Option.bind_some,Bool.not_false,if_true]
   cases jF ⟨t,a,false⟩ 4 with
   | none=>rfl
   | some x =>
    simp only [Option.bind_some]
    cases zC (fun (s':Int×ByteArray×Int×Bool×(List Int))=>jV x s'.1 s'.2.1 s'.2.2.1 s'.2.2.2.1 s'.2.2.2.2) (0,x.2.text,x.2.at_,x.2.bad,[]) with
    | none=>rfl
    | some y =>
     simp only [Option.bind_some,zM0,zL7]
     rw [zK (by simp; omega),Option.bind_some]
     cases jC ⟨y.1,y.2.1,y.2.2.1⟩ 4 with
     | none=>rfl
     | some z =>
      simp only [Option.bind_some]
      rw [wkS k (by omega)])
  (fun k t a out hk=>by
   simp only [kZ]
   by_cases q:k < n
   ·rw [ifT (by simpa using q)]
    simp only [Option.bind_some,Bool.not_true,Bool.false_eq_true,if_false]
   ·rw [ifF (by simpa using q)]
    simp only [Option.bind_some,Bool.false_eq_true,if_false])
  (fun t a b out=>by
   simp only [kZ]
   rw [ifF (by simp)]
   simp only [Option.bind_some,Bool.false_eq_true,if_false])
  h3
 refine ⟨n,s1,s',c1,c',l,l',h1,h2,g1,g2,g3,fun hb=>?_⟩
 obtain ⟨k1,k2,k3,_⟩:=g4 hb
 exact ⟨k1,(h5 k2).1,by omega⟩
theorem rec_sim {text:ByteArray} (ht:text.size≤60000) {s:T_impl_scanner} {c:T_spec_l08Cur} (h:Sim text s c) (hs:s.bad=false) {n k:Nat} (hk:k < n) (hn:n≤4000) {x88:T_spec_l08Cur} {out:List T_impl_Rec} (ho:out.length=k):∃ x s',zG2 s=some (x,s')∧x.Line.size≤60000 ∧
  ((s'.bad=true∧∃ (t':ByteArray) (a':Int) (o':List T_impl_Rec),jU ((n:Int),x88) (k:Int) c.text c.at_ c.bad out=some (.inl (((k+1:Nat):Int),t',a',true,o'))) ∨
    (s'.bad=false∧∃ c',Sim text s' c'∧jU ((n:Int),x88) (k:Int) c.text c.at_ c.bad out=some (.inl (((k+1:Nat):Int),c'.text,c'.at_,c'.bad,out++[x])))):=by
 obtain ⟨b,t,s1,c1,h1,h2,h3,h4,h5,h6⟩:=octet_sim ht h
 have hcb:c.bad=false:=by rw [← h.bad,hs]
 have hc:c=⟨c.text,c.at_,c.bad⟩:=rfl
 unfold zG2
 rw [show T_impl_scanner.mk s.text s.at_ s.bad=s from rfl,h1]
 have hlt:decide ((k:Int) < (n:Int))=true:=by simpa using hk
 simp only [Option.bind_some,inRangeI_eq,jU,hlt,hcb,if_true,Bool.not_false]
 rw [show T_spec_l08Cur.mk c.text c.at_ false=c by rw [hc,hcb],h2]
 simp only [Option.bind_some]
 cases q:s1.bad with
 | true =>
  have hc1:c1.bad=true:=by rw [← h5.bad,q]
  have hb0:(b:Int)=0:=by
   rw [hc1] at h3
   simpa using h3.symm
  refine ⟨⟨(b:Int),0,ByteArray.mk #[]⟩,⟨s1.text,s1.at_,true⟩,?_,Nat.zero_le _,.inl ⟨rfl,c1.text,c1.at_,out,?_⟩⟩
  ·rw [hb0]
   rfl
  ·rw [hc1]
   simp only [if_true,Option.bind_some]
   rw [wkS k (by omega)]
 | false =>
  have hc1:c1.bad=false:=by rw [← h5.bad,q]
  rw [hc1] at h3
  simp only [Bool.not_false,if_true] at h3
  obtain ⟨z,z1,z2⟩:=zbi h3
  injection z2 with z2
  rw [hc1,z1]
  simp only [Bool.false_eq_true,if_false,Option.bind_some,z2,inRangeS_eq]
  cases hr:inR (b:Int) 1 5 with
  | false =>
   refine ⟨⟨(b:Int),0,ByteArray.mk #[]⟩,⟨s1.text,s1.at_,true⟩,rfl,Nat.zero_le _,.inl ⟨rfl,c1.text,c1.at_,out,?_⟩⟩
   simp only [Bool.not_false,if_true]
   rw [wkS k (by omega)]
  | true =>
   simp only [Bool.not_true,Bool.false_eq_true,if_false]
   by_cases hb1:((b:Int) == 1)=true
   ·obtain ⟨u,s2,c2,g1,g2,g3,g4,g5⟩:=short_sim ht h5
    rw [if_pos hb1,if_pos hb1,show T_impl_scanner.mk s1.text s1.at_ false=s1 by rw [← q],g1,show T_spec_l08Cur.mk c1.text c1.at_ false=c1 by rw [← hc1],g2]
    simp only [Option.bind_some]
    rw [zK (by simp; omega),Option.bind_some,wkS k (by omega)]
    refine ⟨⟨(b:Int),0,u⟩,s2,rfl,g4,?_⟩
    cases q2:s2.bad with
    | true =>
     have:c2.bad=true:=by rw [← g3.bad,q2]
     exact .inl ⟨rfl,c2.text,c2.at_,_,by rw [this]⟩
    | false=>exact .inr ⟨rfl,c2,g3,rfl⟩
   ·obtain ⟨m,s2,c2,g1,g2,g3,g4,g5⟩:=number_sim ht h5
    rw [if_neg hb1,if_neg hb1,show T_impl_scanner.mk s1.text s1.at_ false=s1 by rw [← q],g1,show T_spec_l08Cur.mk c1.text c1.at_ false=c1 by rw [← hc1],g2]
    simp only [Option.bind_some]
    rw [zK (by simp; omega),Option.bind_some,wkS k (by omega)]
    refine ⟨⟨(b:Int),m,ByteArray.mk #[]⟩,s2,rfl,Nat.zero_le _,?_⟩
    cases q2:s2.bad with
    | true =>
     have:c2.bad=true:=by rw [← g3.bad,q2]
     exact .inl ⟨rfl,c2.text,c2.at_,_,by rw [this]⟩
    | false=>exact .inr ⟨rfl,c2,g3,rfl⟩
theorem recs_sim {text:ByteArray} (ht:text.size≤60000) {n:Nat} (hn:n≤4000) {x44:T_impl_scanner} {x88:T_spec_l08Cur}:∀ (m k:Nat) (s:T_impl_scanner) (c:T_spec_l08Cur) (out out':List T_impl_Rec),k+m=n→Sim text s c→(s.bad=false→out=out'∧out.length=k∧∀ x ∈ out,x.Line.size≤60000) →
  ∃ (s':T_impl_scanner) (c':T_spec_l08Cur) (l l':List T_impl_Rec),
   zC (fun (s':Int×ByteArray×Int×Bool×(List T_impl_Rec))=>xP ((n:Int),x44) s'.1 s'.2.1 s'.2.2.1 s'.2.2.2.1 s'.2.2.2.2) ((k:Int),s.text,s.at_,s.bad,out)=some (s'.text,s'.at_,s'.bad,l) ∧
   zC (fun (s':Int×ByteArray×Int×Bool×(List T_impl_Rec))=>jU ((n:Int),x88) s'.1 s'.2.1 s'.2.2.1 s'.2.2.2.1 s'.2.2.2.2) ((k:Int),c.text,c.at_,c.bad,out')=some (c'.text,c'.at_,c'.bad,l')∧s'.bad=c'.bad∧(s.bad=true→s'.bad=true) ∧
   (s'.bad=false→Sim text s' c'∧l=l'∧l.length≤4000∧∀ x ∈ l,x.Line.size≤60000):=by
 have badS:∀ (k:Nat) (t:ByteArray) (a:Int) (o:List T_impl_Rec),zC (fun (s':Int×ByteArray×Int×Bool×(List T_impl_Rec))=>jU ((n:Int),x88) s'.1 s'.2.1 s'.2.2.1 s'.2.2.2.1 s'.2.2.2.2) ((k:Int),t,a,true,o)=some (t,a,true,o):=fun k t a o=>by
  rw [zJ]
  simp only [jU]
  cases decide ((k:Int) < (n:Int)) <;> rfl
 have badI:∀ (k:Nat) (t:ByteArray) (a:Int) (o:List T_impl_Rec),zC (fun (s':Int×ByteArray×Int×Bool×(List T_impl_Rec))=>xP ((n:Int),x44) s'.1 s'.2.1 s'.2.2.1 s'.2.2.2.1 s'.2.2.2.2) ((k:Int),t,a,true,o)=some (t,a,true,o):=fun k t a o=>by
  rw [zJ]
  simp only [xP]
  cases decide ((k:Int) < (n:Int)) <;> rfl
 intro m
 induction m with
 | zero =>
  intro k s c out out' hk h ho
  have:k=n:=by omega
  subst this
  refine ⟨s,c,out,out',?_,?_,h.bad,fun q=>q,fun hb=>?_⟩
  ·rw [zJ]
   simp only [xP]
   rw [ifF (by simp)]
   rfl
  ·rw [zJ]
   simp only [jU]
   rw [ifF (by simp)]
   simp only [Option.bind_some,Bool.false_eq_true,if_false]
  ·obtain ⟨h1,h2,h3⟩:=ho hb
   exact ⟨h,h1,by omega,h3⟩
 | succ m ih =>
  intro k s c out out' hk h ho
  cases hb:s.bad with
  | true =>
   have hcb:c.bad=true:=by rw [← h.bad,hb]
   exact ⟨⟨s.text,s.at_,true⟩,⟨c.text,c.at_,true⟩,out,out',badI _ _ _ _,by rw [hcb]; exact badS _ _ _ _,rfl,fun _=>rfl,fun q=>by cases q⟩
  | false =>
   obtain ⟨h1,h2,h3⟩:=ho hb
   subst h1
   obtain ⟨x,s',g1,g2,g3⟩:=rec_sim ht h hb (n:=n) (k:=k) (by omega) hn (x88:=x88) h2
   have hstep:xP ((n:Int),x44) (k:Int) s.text s.at_ false out=some (.inl (((k+1:Nat):Int),s'.text,s'.at_,s'.bad,out++[x])):=by
    simp only [xP]
    rw [ifT (by simp; omega),ifF rfl,show T_impl_scanner.mk s.text s.at_ false=s by rw [← hb],g1]
    simp only [Option.bind_some]
    rw [zK (by simp; omega),Option.bind_some,wkS k (by omega)]
   rw [zJ,hstep,zJ]
   rcases g3 with ⟨q,t',a',o',g4⟩ | ⟨q,c',g4,g5⟩
   ·rw [g4]
    simp only [Option.bind_some]
    rw [q,badI,badS]
    exact ⟨⟨s'.text,s'.at_,true⟩,⟨t',a',true⟩,_,_,rfl,rfl,rfl,fun _=>rfl,fun z=>by cases z⟩
   ·rw [g5]
    simp only [Option.bind_some]
    obtain ⟨s2,c2,l,l',k1,k2,k3,k4,k5⟩:=ih (k+1) s' c' (out++[x]) (out++[x]) (by omega) g4 (fun _=>⟨rfl,by rw [List.length_append,h2]; rfl,fun y hy=>by
     rcases List.mem_append.1 hy with hy | hy
     ·exact h3 y hy
     ·obtain rfl:=List.mem_singleton.1 hy
      exact g2⟩)
    exact ⟨s2,c2,l,l',k1,k2,k3,(fun z=>by cases z),k5⟩
theorem frI_WR (g:List (List Int)) (list:List T_impl_Rec):WR (frI g list).1:=by
 cases h:(frI g list).2 with
 | true=>exact (frI_true h).1
 | false =>
  rw [frI_false h]
  exact w0_ok
theorem readWeave_eq {text:ByteArray} (ht:text.size≤1000000000):∃ w code,zF7 text=some (w,code)∧zN9 text=some (w,code)∧WR w∧(code=0→zF4 w=some (text,true))∧(code≠0→w=⟨[],[]⟩):=by
 unfold zF7 zN9
 rw [orO,Option.bind_some,Option.bind_some]
 cases hz:(decide ((text.size:Int) < 7) || decide ((text.size:Int) > 60004)) with
 | true=>exact ⟨_,_,rfl,rfl,w0_ok,(fun h=>by cases h),fun _=>rfl⟩
 | false =>
  obtain ⟨t,ok,u1,u2,u3,u4,u5⟩:=unsealed2 ht
  rw [if_neg (by simp),if_neg (by simp),u1,u2,Option.bind_some,Option.bind_some]
  cases ok with
  | false=>exact ⟨_,_,rfl,rfl,w0_ok,(fun h=>by cases h),fun _=>rfl⟩
  | true =>
   have hs:Sim t ⟨t,0,false⟩ ⟨t,0,false⟩:=⟨rfl,rfl,rfl,0,0,rfl,rfl,by omega,by omega,fun _=>rfl⟩
   obtain ⟨s1,u,c1,g1,g2,⟨c1',g3⟩,g4,g5⟩:=mark_sim u3 hs (ByteArray.mk #[84,87,49]) (by decide) (by decide)
   have g2':jC ⟨t,0,false⟩ 3=some (u,c1):=g2
   simp only [Bool.not_true,Bool.false_eq_true,if_false]
   rw [g1,g2',Option.bind_some,Option.bind_some]
   cases q:(!(u.toList == (ByteArray.mk #[84,87,49]).toList)) with
   | true =>
    obtain ⟨n,s2,s3,c2,c3,l,l',v1,v2,v3,v4,v5,v6⟩:=vers_sim u3 g3
    have hb3:s3.bad=true:=by
     cases r:s3.bad with
     | true=>rfl
     | false =>
      have:=(v6 r).2.1
      rw [g5 q] at this
      cases this
    rw [show T_impl_scanner.mk s1.text s1.at_ s1.bad=s1 from rfl,v1]
    simp only [Option.bind_some]
    rw [v3]
    simp only [Option.bind_some,if_true]
    unfold zE0
    obtain ⟨n2,s4,c4,w1,w2,w3,w4,w5⟩:=qJ8 u3 v5 (most:=4000) (by omega)
    rw [show ((4000:Nat):Int)=4000 from rfl] at w1
    rw [show T_impl_scanner.mk s3.text s3.at_ s3.bad=s3 from rfl,w1]
    simp only [Option.bind_some]
    have hb4:s4.bad=true:=by
     cases r:s4.bad with
     | true=>rfl
     | false =>
      have:=(w5 r).1
      rw [hb3] at this
      cases this
    obtain ⟨s5,c5,m1,m2,r1,r2,r3,r4,r5⟩:=recs_sim u3 (n:=n2) (by omega) (x44:=s4) (x88:=c4) n2 0 s4 c4 [] [] (by omega) w3 (fun z=>by rw [hb4] at z; cases z)
    have e0:((0:Nat):Int)=0:=rfl
    rw [e0] at r1
    rw [r1]
    simp only [Option.bind_some]
    unfold zE1 zE3
    rw [r4 hb4]
    exact ⟨_,_,rfl,rfl,w0_ok,(fun h=>by cases h),fun _=>rfl⟩
   | false =>
    simp only [Bool.false_eq_true,if_false]
    obtain ⟨n,s2,s3,c2,c3,l,l',v1,v2,v3,v4,v5,v6⟩:=vers_sim u3 (g4 q).1
    rw [show T_impl_scanner.mk s1.text s1.at_ s1.bad=s1 from rfl,v1,show T_spec_l08Cur.mk c1.text c1.at_ c1.bad=c1 from rfl,v2]
    simp only [Option.bind_some]
    rw [v3,v4]
    simp only [Option.bind_some]
    unfold zE0 zL5
    obtain ⟨n2,s4,c4,w1,w2,w3,w4,w5⟩:=qJ8 u3 v5 (most:=4000) (by omega)
    rw [show ((4000:Nat):Int)=4000 from rfl] at w1 w2
    rw [show T_impl_scanner.mk s3.text s3.at_ s3.bad=s3 from rfl,w1,show T_spec_l08Cur.mk c3.text c3.at_ c3.bad=c3 from rfl,w2]
    simp only [Option.bind_some]
    obtain ⟨s5,c5,m1,m2,r1,r2,r3,r4,r5⟩:=recs_sim u3 (n:=n2) (by omega) (x44:=s4) (x88:=c4) n2 0 s4 c4 [] [] (by omega) w3 (fun z=>⟨rfl,rfl,fun x hx=>by cases hx⟩)
    have e0:((0:Nat):Int)=0:=rfl
    rw [e0] at r1 r2
    rw [r1,r2]
    simp only [Option.bind_some]
    unfold zE1 zL8 zE3
    simp only [orO,Option.bind_some]
    cases hb:s5.bad with
    | true =>
     rw [← r3,hb]
     exact ⟨_,_,rfl,rfl,w0_ok,(fun h=>by cases h),fun _=>rfl⟩
    | false =>
     obtain ⟨k1,k2,k3,k4⟩:=r5 hb
     subst k2
     have hb4:s4.bad=false:=by
      cases z:s4.bad with
      | false=>rfl
      | true =>
       have:=r4 z
       rw [hb] at this
       cases this
     have hb3:=(w5 hb4).1
     obtain ⟨j1,j2,j3⟩:=v6 hb3
     subst j1
     obtain ⟨a,b,z1,z2,z3,z4,z5⟩:=k1.at_
     have hab:=z5 hb
     subst hab
     rw [← r3,hb,k1.st,z1,z2]
     simp only [Bool.not_false,if_true,Option.bind_some,Bool.false_or]
     have e1:((a:Int) != (t.size:Int))=!((a:Int) == (t.size:Int)):=rfl
     rw [e1]
     cases hat:((a:Int) == (t.size:Int)) with
     | false=>exact ⟨_,_,rfl,rfl,w0_ok,(fun h=>by cases h),fun _=>rfl⟩
     | true =>
      simp only [Bool.not_true,Bool.false_eq_true,if_false]
      rw [fromI_eq (by omega) (by omega),fromS_eq (by omega) (by omega) (fun x hx=>by have:=k4 x hx; omega),← fr_same]
      simp only [Option.bind_some]
      have hWR:=frI_WR l m1
      have eI:=weaveTextI hWR
      have eS:=weaveTextS hWR
      rw [show T_impl_Weave.mk (frI l m1).1.Parents (frI l m1).1.Bodies=(frI l m1).1 from rfl,eI,eS]
      simp only [Option.bind_some]
      cases hc:((!(frI l m1).2 || !(wTxt (frI l m1).1).2) || !((wTxt (frI l m1).1).1.toList == text.toList)) with
      | true =>
       simp only [if_true]
       exact ⟨_,_,rfl,rfl,w0_ok,(fun h=>by cases h),fun _=>rfl⟩
      | false =>
       simp only [Bool.false_eq_true,if_false]
       refine ⟨_,_,rfl,rfl,hWR,fun _=>?_,fun h=>absurd rfl h⟩
       simp only [Bool.or_eq_false_iff,Bool.not_eq_false'] at hc
       rw [eI]
       have e2:=hc.2
       rw [beq_nb] at e2
       have e3:(wTxt (frI l m1).1).1=text:=nb_inj (by simpa using e2)
       exact congrArg some (Prod.ext e3 hc.1.2)
end Go.TV.F
namespace Go.TV.F
open Go.TV
theorem markText_total {k:Nat} (h:k≤1000000000):∃ t,uN (k:Int)=some t:=by
 unfold uN
 by_cases q:k=0
 ·subst q
  exact ⟨_,rfl⟩
 rw [ifF (by simp; omega)]
 obtain ⟨r,h1,h2⟩:=loopK1 (f:=fun (s':Int×ByteArray)=>zH2 s'.1 s'.2) (fun s=>∃ n:Nat,s.1=n∧n+s.2.size≤1000000000) (fun s=>s.1.toNat) (fun r=>r.size≤1000000000)
  (s:=((k:Int),ByteArray.mk #[])) ⟨k,rfl,h⟩ (fun s hs=>by
  obtain ⟨n,h1,h2⟩:=hs
  obtain ⟨x,out⟩:=s
  simp only at h1 h2 ⊢
  subst h1
  unfold zH2
  by_cases q:n=0
  ·rw [ifF (by simp; omega)]
   exact .inr ⟨_,rfl,by omega⟩
  ·rw [ifT (by simp; omega)]
   generalize hz:mkS [wk .u8 (wk .i64 (48+((n:Int)).tmod 10))]=z
   have hzs:z.size=1:=by rw [← hz,mkSK]; rfl
   rw [uL (by omega),Option.bind_some,show (10:Int)=((10:Nat):Int) from rfl,tdivK,qM (by omega) (by omega)]
   refine .inl ⟨_,rfl,⟨n / 10,rfl,?_⟩,?_⟩
   ·simp only [ByteArray.size_append]
    omega
   ·simp only
    omega)
 rw [h1,Option.bind_some]
 unfold zQ5
 rw [uL (by have:(ByteArray.mk #[109]).size=1:=rfl; omega)]
 exact ⟨_,rfl⟩
noncomputable def mT (k:Int):ByteArray:=(uN k).getD (ByteArray.mk #[])
theorem zR6 {k:Int} (h0:0≤k) (h:k≤1000000000):uN k=some (mT k):=by
 obtain ⟨n,rfl⟩:∃ n:Nat,k=n:=⟨k.toNat,by omega⟩
 obtain ⟨t,ht⟩:=markText_total (k:=n) (by omega)
 unfold mT
 rw [ht]
 rfl
def zG9 (a:List Int):Nat:=a.length
def zR3 (a:List Int):Nat:=kQ (fun _=>1) a
noncomputable def zO3 (a:List Int) (k:Int):List Int:=mkL (fun _=>1) (fun _ k=>k) a k
theorem eq_IntS {a:List Int} (h:zG9 a≤1000000000):zR9 a a=some true:=by
 have hl:a.length≤1000000000:=by unfold zG9 at h; omega
 unfold zR9
 rw [ifF (by simp)]
 have:=eq_loop (body:=fun s'=>zF2 a a s') (r:=.inr ()) a.length (fun i hi=>by
  unfold zF2
  rw [ifT (by simpa using hi),zF,List.getElem?_eq_getElem hi,Option.bind_some,Option.bind_some]
  rw [ifF (by simp),qM (by omega) (by omega)]
  rfl) (by
  unfold zF2
  rw [ifF (by simp)])
 rw [this]
 rfl
theorem mark_IntS {a:List Int} {k:Int} (h1:1≤k) (h2:k+zR3 a≤1000000000) (h3:zG9 a≤1000000000):zI3 a k=some (k+zR3 a,zO3 a k):=by
 have hl:a.length≤1000000000:=by unfold zG9 at h3; omega
 unfold zI3
 have:=mark_loop (body:=fun (s':Int×Int×(List Int))=>wC s'.1 s'.2.1 s'.2.2) (fun _=>1) (fun _ k=>k) a k 1000000000 h1 h2 (fun k i x l hi hx hl2 hk hB=>by
  have hlt:i < l.length:=(List.getElem?_eq_some_iff.1 hi).1
  show wC k i l=_
  unfold wC
  rw [ifT (by simp; omega)]
  simp (disch:=first | omega | (simp only; omega)) only [zR6,qM,zF,gset,hi,Option.bind_some,List.set_set,Int.toNat_natCast]
  refine inl3 ?_ (by omega) rfl
  rfl) (fun k l hl2=>by
  show wC k a.length l=_
  unfold wC
  rw [ifF (by simp; omega)])
 rw [this]
 rfl
theorem held_IntS {a:List Int} {k:Int} (h1:1≤k) (h2:k+zR3 a≤1000000000) (h3:zG9 a≤1000000000):zJ0 (zO3 a k) k=some (k+zR3 a):=by
 have hl:a.length≤1000000000:=by unfold zG9 at h3; omega
 unfold zJ0
 have:=held_loop (body:=fun (s':Int×Int)=>vV (zO3 a k) s'.1 s'.2) (r:=.inr) (fun _=>1) (fun _ k=>k) a k 1000000000 h1 h2 (fun q i x hi hlt hx hk hB=>by
  have hi:(zO3 a k)[i]? = some (q):=hi
  have hml:(zO3 a k).length=a.length:=qD7 _ _ _ _
  show vV (zO3 a k) q i=_
  unfold vV
  rw [ifT (by rw [hml]; simpa using hlt)]
  simp (disch:=omega) only [zF,hi,Option.bind_some,zR6,qM,bne_self_eq_false,BEq.rfl,Bool.not_true,Bool.false_eq_true,if_false,ltF]
  refine inl2 ?_ (by omega)
  rfl) (fun q=>by
  have hml:(zO3 a k).length=a.length:=qD7 _ _ _ _
  show vV (zO3 a k) q a.length=_
  unfold vV
  rw [ifF (by rw [hml]; simp)])
 rw [this]
 rfl
def zI6 (a:List (List Int)):Nat:=a.length+kQ zG9 a
def zP8 (a:List (List Int)):Nat:=kQ zR3 a
noncomputable def zR8 (a:List (List Int)) (k:Int):List (List Int):=mkL zR3 zO3 a k
theorem eq_IntSS {a:List (List Int)} (h:zI6 a≤1000000000):zV2 a a=some true:=by
 have hl:a.length≤1000000000:=by unfold zI6 at h; omega
 unfold zV2
 rw [ifF (by simp)]
 have:=eq_loop (body:=fun s'=>zC8 a a s') (r:=.inr ()) a.length (fun i hi=>by
  have hw:zG9 a[i]≤1000000000:=by have:=qA4 (w:=zG9) (List.getElem_mem hi); unfold zI6 at h; omega
  unfold zC8
  rw [ifT (by simpa using hi),zF,List.getElem?_eq_getElem hi,Option.bind_some,Option.bind_some]
  rw [eq_IntS hw,Option.bind_some]
  rw [ifF (by simp),qM (by omega) (by omega)]
  rfl) (by
  unfold zC8
  rw [ifF (by simp)])
 rw [this]
 rfl
theorem mark_IntSS {a:List (List Int)} {k:Int} (h1:1≤k) (h2:k+zP8 a≤1000000000) (h3:zI6 a≤1000000000):zO5 a k=some (k+zP8 a,zR8 a k):=by
 have hl:a.length≤1000000000:=by unfold zI6 at h3; omega
 unfold zO5
 have:=mark_loop (body:=fun (s':Int×Int×(List (List Int)))=>vD s'.1 s'.2.1 s'.2.2) zR3 zO3 a k 1000000000 h1 h2 (fun k i x l hi hx hl2 hk hB=>by
  have hlt:i < l.length:=(List.getElem?_eq_some_iff.1 hi).1
  have hz:zG9 x≤1000000000:=by have:=qA4 (w:=zG9) hx; unfold zI6 at h3; omega
  show vD k i l=_
  unfold vD
  rw [ifT (by simp; omega)]
  simp (disch:=first | omega | (simp only; omega)) only [zR6,qM,zF,gset,hi,Option.bind_some,List.set_set,Int.toNat_natCast,mark_IntS]
  refine inl3 ?_ (by omega) rfl
  rfl) (fun k l hl2=>by
  show vD k a.length l=_
  unfold vD
  rw [ifF (by simp; omega)])
 rw [this]
 rfl
theorem held_IntSS {a:List (List Int)} {k:Int} (h1:1≤k) (h2:k+zP8 a≤1000000000) (h3:zI6 a≤1000000000):zO7 (zR8 a k) k=some (k+zP8 a):=by
 have hl:a.length≤1000000000:=by unfold zI6 at h3; omega
 unfold zO7
 have:=held_loop (body:=fun (s':Int×Int)=>vG (zR8 a k) s'.1 s'.2) (r:=.inr) zR3 zO3 a k 1000000000 h1 h2 (fun q i x hi hlt hx hk hB=>by
  have hi:(zR8 a k)[i]? = some (zO3 x q):=hi
  have hml:(zR8 a k).length=a.length:=qD7 _ _ _ _
  have hz:zG9 x≤1000000000:=by have:=qA4 (w:=zG9) hx; unfold zI6 at h3; omega
  show vG (zR8 a k) q i=_
  unfold vG
  rw [ifT (by rw [hml]; simpa using hlt)]
  simp (disch:=omega) only [zF,hi,Option.bind_some,zR6,qM,bne_self_eq_false,BEq.rfl,Bool.not_true,Bool.false_eq_true,if_false,ltF,held_IntS]
  refine inl2 ?_ (by omega)
  rfl) (fun q=>by
  have hml:(zR8 a k).length=a.length:=qD7 _ _ _ _
  show vG (zR8 a k) q a.length=_
  unfold vG
  rw [ifF (by rw [hml]; simp)])
 rw [this]
 rfl
def zR1 (a:T_impl_Body):Nat:=zG9 a.Dels
def zY2 (a:T_impl_Body):Nat:=1+1+1+zR3 a.Dels
noncomputable def m_Body (a:T_impl_Body) (k:Int):T_impl_Body:=⟨mT (k),k+1,k+1+1,zO3 a.Dels (k+1+1+1)⟩
theorem eq_Body {a:T_impl_Body} (h:zR1 a≤1000000000):zX5 a a=some true:=by
 unfold zR1 at h
 unfold zX5
 simp only [eq_IntS (a:=a.Dels) (by omega),Option.bind_some,Bool.not_true,Bool.false_eq_true,if_false,bne_self_eq_false,BEq.rfl]
def zI5 (a:List T_impl_Body):Nat:=a.length+kQ zR1 a
def zW1 (a:List T_impl_Body):Nat:=kQ zY2 a
noncomputable def zR7 (a:List T_impl_Body) (k:Int):List T_impl_Body:=mkL zY2 m_Body a k
theorem eq_BodyS {a:List T_impl_Body} (h:zI5 a≤1000000000):zU4 a a=some true:=by
 have hl:a.length≤1000000000:=by unfold zI5 at h; omega
 unfold zU4
 rw [ifF (by simp)]
 have:=eq_loop (body:=fun s'=>zC9 a a s') (r:=.inr ()) a.length (fun i hi=>by
  have hw:zR1 a[i]≤1000000000:=by have:=qA4 (w:=zR1) (List.getElem_mem hi); unfold zI5 at h; omega
  unfold zC9
  rw [ifT (by simpa using hi),zF,List.getElem?_eq_getElem hi,Option.bind_some,Option.bind_some]
  rw [eq_Body hw,Option.bind_some]
  rw [ifF (by simp),qM (by omega) (by omega)]
  rfl) (by
  unfold zC9
  rw [ifF (by simp)])
 rw [this]
 rfl
theorem mark_BodyS {a:List T_impl_Body} {k:Int} (h1:1≤k) (h2:k+zW1 a≤1000000000) (h3:zI5 a≤1000000000):zN2 a k=some (k+zW1 a,zR7 a k):=by
 have hl:a.length≤1000000000:=by unfold zI5 at h3; omega
 unfold zN2
 have:=mark_loop (body:=fun (s':Int×Int×(List T_impl_Body))=>vB s'.1 s'.2.1 s'.2.2) zY2 m_Body a k 1000000000 h1 h2 (fun k i x l hi hx hl2 hk hB=>by
  have hlt:i < l.length:=(List.getElem?_eq_some_iff.1 hi).1
  have hz:zR1 x≤1000000000:=by have:=qA4 (w:=zR1) hx; unfold zI5 at h3; omega
  unfold zR1 at hz
  simp only [zY2,Int.natCast_add,Int.natCast_one,Int.cast_ofNat_Int] at hB
  show vB k i l=_
  unfold vB
  rw [ifT (by simp; omega)]
  simp (disch:=first | omega | (simp only; omega)) only [zR6,qM,zF,gset,hi,Option.bind_some,List.set_set,Int.toNat_natCast,mark_IntS]
  refine inl3 ?_ (by omega) rfl
  simp only [zY2,Int.natCast_add,Int.natCast_one]; omega) (fun k l hl2=>by
  show vB k a.length l=_
  unfold vB
  rw [ifF (by simp; omega)])
 rw [this]
 rfl
theorem held_BodyS {a:List T_impl_Body} {k:Int} (h1:1≤k) (h2:k+zW1 a≤1000000000) (h3:zI5 a≤1000000000):zO0 (zR7 a k) k=some (k+zW1 a):=by
 have hl:a.length≤1000000000:=by unfold zI5 at h3; omega
 unfold zO0
 have:=held_loop (body:=fun (s':Int×Int)=>vF (zR7 a k) s'.1 s'.2) (r:=.inr) zY2 m_Body a k 1000000000 h1 h2 (fun q i x hi hlt hx hk hB=>by
  have hi:(zR7 a k)[i]? = some (m_Body x q):=hi
  have hml:(zR7 a k).length=a.length:=qD7 _ _ _ _
  have hz:zR1 x≤1000000000:=by have:=qA4 (w:=zR1) hx; unfold zI5 at h3; omega
  unfold zR1 at hz
  simp only [zY2,Int.natCast_add,Int.natCast_one] at hB
  show vF (zR7 a k) q i=_
  unfold vF
  rw [ifT (by rw [hml]; simpa using hlt)]
  simp (disch:=omega) only [zF,hi,Option.bind_some,zR6,qM,bne_self_eq_false,BEq.rfl,Bool.not_true,Bool.false_eq_true,if_false,ltF,m_Body,held_IntS]
  refine inl2 ?_ (by omega)
  simp only [zY2,Int.natCast_add,Int.natCast_one]; omega) (fun q=>by
  have hml:(zR7 a k).length=a.length:=qD7 _ _ _ _
  show vF (zR7 a k) q a.length=_
  unfold vF
  rw [ifF (by rw [hml]; simp)])
 rw [this]
 rfl
def z_Weave (a:T_impl_Weave):Nat:=zI6 a.Parents+zI5 a.Bodies
theorem eq_Weave {a:T_impl_Weave} (h:z_Weave a≤1000000000):zG6 a a=some true:=by
 unfold z_Weave at h
 unfold zG6
 simp only [eq_IntSS (a:=a.Parents) (by omega),eq_BodyS (a:=a.Bodies) (by omega),Option.bind_some,Bool.not_true,Bool.false_eq_true,if_false,bne_self_eq_false,BEq.rfl]
end Go.TV.F
namespace Go.TV.F
open Go.TV
theorem small_weave {w:T_impl_Weave} (h:WR w):zI6 w.Parents≤1000∧zP8 w.Parents≤1000∧zI5 w.Bodies≤1000000000 - 10000∧zW1 w.Bodies≤1000000000 - 10000:=by
 have hl:=kV h.g
 have hp:∀ p ∈ w.Parents,p.length≤4:=fun p hp=>by
  obtain ⟨i,hi,rfl⟩:=List.getElem_of_mem hp
  exact (zX6 h.g hi).1
 have a1:=qA3 (w:=zG9) (B:=4) (a:=w.Parents) hp
 have a2:=qA3 (w:=zR3) (B:=4) (a:=w.Parents) (fun p q=>by unfold zR3; rw [sumK1]; exact hp p q)
 have m1:w.Parents.length * 4≤40 * 4:=Nat.mul_le_mul_right _ hl
 have hd:∀ b ∈ w.Bodies,b.Dels.length≤1000000:=fun b hb=>by have:=h.dlen b hb; omega
 have b1:=qA3 (w:=zR1) (B:=1000000) (a:=w.Bodies) (fun b q=>hd b q)
 have b2:=qA3 (w:=zY2) (B:=1000003) (a:=w.Bodies) (fun b q=>by have:=hd b q; unfold zY2 zR3; rw [sumK1]; omega)
 have m2:w.Bodies.length * 1000000≤300 * 1000000:=Nat.mul_le_mul_right _ h.n
 have m3:w.Bodies.length * 1000003≤300 * 1000003:=Nat.mul_le_mul_right _ h.n
 have hn:=h.n
 refine ⟨by unfold zI6; omega,by unfold zP8; omega,by unfold zI5; omega,by unfold zW1; omega⟩
theorem readWeave_law (text:ByteArray):laws_FnExactReadWeave text=some true:=by
 unfold laws_FnExactReadWeave
 by_cases q:text.size > 1048576
 ·rw [ifT (decide_eq_true (by omega))]
 rw [ifF (decide_eq_false (by omega))]
 obtain ⟨w,code,h1,h2,hw,_⟩:=readWeave_eq (text:=text) (by omega)
 obtain ⟨g1,g2,g3,g4⟩:=small_weave hw
 have he:zG6 ⟨w.Parents,w.Bodies⟩ ⟨w.Parents,w.Bodies⟩=some true:=eq_Weave (a:=w) (by unfold z_Weave; omega)
 have hm:zJ3 ⟨w.Parents,w.Bodies⟩ 1=some ((1:Int)+(zP8 w.Parents:Int)+(zW1 w.Bodies:Int),zR8 w.Parents 1,zR7 w.Bodies (1+zP8 w.Parents)):=by
  unfold zJ3
  dsimp only
  rw [mark_IntSS (by omega) (by omega) (by omega),Option.bind_some,mark_BodyS (by omega) (by omega) (by omega),Option.bind_some]
 have hh:zF3 ⟨zR8 w.Parents 1,zR7 w.Bodies (1+zP8 w.Parents)⟩ 1=some ((1:Int)+(zP8 w.Parents:Int)+(zW1 w.Bodies:Int)):=by
  unfold zF3
  simp only []
  rw [held_IntSS (by omega) (by omega) (by omega),Option.bind_some,ifF (decide_eq_false (by omega)),held_BodyS (by omega) (by omega) (by omega),Option.bind_some,ifF (decide_eq_false (by omega))]
 have d1:decide ((1:Int)+zP8 w.Parents+zW1 w.Bodies < 0)=false:=decide_eq_false (by omega)
 simp only [h1,h2,he,hm,hh,d1,Option.bind_some,Bool.not_true,Bool.false_eq_true,if_false,bne_self_eq_false]
end Go.TV.F
