/- Walks. -/
import Derived.Test.YthfhiepgdeghpaaKFnLivesE
import Derived.Test.YthfhiepgdeghpaaKFnLivesW0
import Derived.Test.YthfhiepgdeghpaaKFnLivesW1
set_option linter.unusedVariables false
set_option linter.unusedSimpArgs false
set_option maxHeartbeats 8000000
set_option maxRecDepth 100000
namespace Go.TV.KFnLives
attribute [local irreducible] anyV wpV opsV Does thenV blockV RetL quV seqV
open Go.Proofs.Try Go.TV.F
theorem W_spec_l06Add (w:T_impl_Weave) (parents:List Int) (lines:List ByteArray) (r':T_impl_Weave×Int×Int) (h0':spec_l06Add w parents lines=some r'):Fn X 164 [.agg [.list false 1 (List.map (rL false 1 (rK .i64)) w.Parents),.list false 4 (List.map (zA false) w.Bodies)],.one (.list false 1 (List.map (rK .i64) parents)),.one (.list false 1 (List.map rS lines))] [.agg [.list true 1 (List.map (rL true 1 (rK .i64)) r'.1.Parents),.list true 4 (List.map (zA true) r'.1.Bodies)],.one (.sc (.int .i64 r'.2.1)),.one (.sc (.int .i64 r'.2.2))] []:=by
 have H':=And.intro t3 (And.intro t4 (And.intro t9 (And.intro t38 (And.intro t39 (And.intro t41 (And.intro t44 (And.intro t50 (And.intro t55 (And.intro t154 (And.intro t220 (And.intro R_Li64 (And.intro R_Ls (And.intro qD (And.intro R_b (And.intro R_i64 (R_s))))))))))))))))
 unfold spec_l06Add at h0'
 refine Fn.start (fn:=f164) (N:=197) (res:=[.cell 6 41,.tmp 7,.tmp 8]) rfl rfl rfl rfl rfl (by simp) ?_
 refine zW H' ?_
 refine zC ?_
 refine zB ?_
 refine ops H' ?_
 refine zE ?_
 refine zC ?_
 refine zC ?_
 refine zB ?_
 refine ops H' ?_
 obtain ⟨x25,hy',h0'⟩:=zbi h0'
 refine zO H' (fun _=>[]) (W_spec_l06Parents _ _ _ hy') ?_
 refine ops H' ?_
 refine zE ?_
 refine zH (fun hc'=>?_) (fun hc'=>?_)
 ·replace h0':=(ifT hc').symm.trans h0'
  refine zC ?_
  refine zB ?_
  refine ops H' ?_
  refine zE ?_
  refine retN ?_
  obtain rfl:=zso h0'
  exact outC H' rfl rfl
 ·replace h0':=(ifF hc').symm.trans h0'
  refine zR ?_
  refine zC ?_
  refine zC ?_
  refine zB ?_
  refine ops H' ?_
  obtain ⟨x29,hy',h0'⟩:=zbi h0'
  refine zO H' (fun _=>[]) (W_spec_LinesOk _ _ hy') ?_
  refine ops H' ?_
  refine zE ?_
  refine zH (fun hc'=>?_) (fun hc'=>?_)
  ·replace h0':=(ifT hc').symm.trans h0'
   refine zC ?_
   refine zB ?_
   refine ops H' ?_
   refine zE ?_
   refine retN ?_
   obtain rfl:=zso h0'
   exact outC H' rfl rfl
  ·replace h0':=(ifF hc').symm.trans h0'
   refine zR ?_
   refine zC ?_
   refine zB ?_
   refine ops H' ?_
   refine zE ?_
   refine zC ?_
   refine zC ?_
   refine zB ?_
   refine ops H' ?_
   refine zE ?_
   refine zH (fun hc'=>?_) (fun hc'=>?_)
   ·replace h0':=(ifT hc').symm.trans h0'
    refine zC ?_
    refine zB ?_
    refine ops H' ?_
    refine zE ?_
    refine retN ?_
    obtain rfl:=zso h0'
    exact outC H' rfl rfl
   ·replace h0':=(ifF hc').symm.trans h0'
    refine zR ?_
    refine zC ?_
    refine zB ?_
    refine ops H' ?_
    obtain ⟨x40,hy',h0'⟩:=zbi h0'
    refine zO H' (fun _=>[]) (W_spec_l06Seen _ _ _ hy') ?_
    refine ops H' ?_
    refine zE ?_
    refine zC ?_
    refine zB ?_
    refine ops H' ?_
    obtain ⟨x43,hy',h0'⟩:=zbi h0'
    refine zO H' (fun _=>[]) (W_spec_l06Lines _ _ _ hy') ?_
    refine ops H' ?_
    obtain ⟨x45,hy',h0'⟩:=zbi h0'
    refine zO H' (fun _=>[]) (W_spec_Align _ _ _ hy') ?_
    refine ops H' ?_
    refine zE ?_
    refine zC ?_
    refine zB ?_
    obtain ⟨x50,hv',h0'⟩:=zbi h0'
    have H':=And.intro (mklR_f (rL true 1 rS) [.list true 1 []] (by rfl) hv') H'
    refine ops H' ?_
    refine zE ?_
    refine zC ?_
    refine zB ?_
    obtain ⟨x54,hv',h0'⟩:=zbi h0'
    have H':=And.intro (mkl_f hv') H'
    refine ops H' ?_
    refine zE ?_
    refine zC ?_
    refine zB ?_
    refine ops H' ?_
    refine zE ?_
    refine zU (fun e'=>∃ behind stays,spec_l06Add_j1 w parents behind stays=some r'∧e'=⟨197,4,8,[(1,.pl (.one (.v (.list false 1 (List.map (rK .i64) parents))))),(3,.pl (.one (.ref 4 []))),(6,.pl (.one (.ref 5 []))),(9,.pl (.one (.v (.sc (.int .i64 (w.Parents.length:Int)))))),(12,.pl (.one (.ref 6 []))),(13,.pl (.one (.ref 7 [])))],[(4,.box true [.list false 1 (List.map (rL false 1 (rK .i64)) w.Parents),.list false 4 (List.map (zA false) w.Bodies)]),(5,.box true [.list true 1 (List.map (rL true 1 (rK .i64)) []),.list true 4 (List.map (zA true) [])]),(6,.list true 1 (List.map (rL true 1 rS) behind)),(7,.list true 1 (List.map rB stays))]⟩) ?_ ?_
    ·refine zC ?_
     refine zB ?_
     refine ops H' ?_
     refine zE ?_
     obtain ⟨p_3,hl',h0'⟩:=zbi h0'
     refine zJ ?_
     refine zX (fun s' e'=>∃ at_ i_1 behind_1 stays_1,s'=(at_,i_1,behind_1,stays_1)∧e'=⟨197,4,10,[(1,.pl (.one (.v (.list false 1 (List.map (rK .i64) parents))))),(2,.pl (.one (.v (.list false 1 (List.map rS lines))))),(3,.pl (.one (.ref 4 []))),(6,.pl (.one (.ref 5 []))),(9,.pl (.one (.v (.sc (.int .i64 (w.Parents.length:Int)))))),(10,.pl (.one (.ref 6 []))),(11,.pl (.one (.ref 7 []))),(12,.pl (.one (.ref 8 []))),(13,.pl (.one (.ref 9 []))),(14,.pl (.one (.v (.sc (.int .i64 at_))))),(15,.pl (.one (.v (.sc (.int .i64 i_1)))))],[(4,.box true [.list false 1 (List.map (rL false 1 (rK .i64)) w.Parents),.list false 4 (List.map (zA false) w.Bodies)]),(5,.box true [.list true 1 (List.map (rL true 1 (rK .i64)) []),.list true 4 (List.map (zA true) [])]),(6,.list true 1 (List.map (rK .i64) x40)),(7,.list true 1 (List.map (rK .i64) x45)),(8,.list true 1 (List.map (rL true 1 rS) behind_1)),(9,.list true 1 (List.map rB stays_1))]⟩) hl' (shd [1,2,3,6,9,10,11,12,13,14,15] [(4,4),(5,5),(8,6),(10,7),(11,8),(12,9)] 10 ⟨_,_,_,_,rfl,rfl⟩) ?_
     rintro s' y1' e' h1' ⟨at_,i_1,behind_1,stays_1,rfl,rfl⟩
     replace h1':spec_l06Add_l4 lines x40 x45 at_ i_1 behind_1 stays_1=some y1':=h1'
     unfold spec_l06Add_l4 at h1'
     refine zC ?_
     refine zC ?_
     refine zB ?_
     refine ops H' ?_
     refine zE ?_
     refine zH (fun hc'=>?_) (fun hc'=>?_)
     ·replace h1':=(ifT hc').symm.trans h1'
      refine zR ?_
      refine zC ?_
      refine zJ ?_
      refine zC ?_
      refine zB ?_
      obtain ⟨x_5,hv',h1'⟩:=zbi h1'
      have H':=And.intro (zP hv') H'
      refine ops H' ?_
      refine zE ?_
      refine zH (fun hc'=>?_) (fun hc'=>?_)
      ·replace h1':=(ifT hc').symm.trans h1'
       refine zC ?_
       refine zB ?_
       obtain ⟨x_6,hv',h1'⟩:=zbi h1'
       have H':=And.intro (zP hv') H'
       refine ops H' ?_
       refine zE ?_
       refine zB ?_
       obtain ⟨x_7,hv',h1'⟩:=zbi h1'
       have H':=And.intro (zP hv') H'
       refine ops H' ?_
       refine zE ?_
       refine zB ?_
       refine ops H' ?_
       refine zE ?_
       obtain rfl:=zso h1'
       exact shd [1,2,3,6,9,10,11,12,13,14,15] [(4,4),(5,5),(6,6),(7,7),(8,8),(9,9)] 10 ⟨_,rfl,_,_,_,_,rfl,rfl⟩
      ·replace h1':=(ifF hc').symm.trans h1'
       obtain ⟨x_8,hv',h1'⟩:=zbi h1'
       have H':=And.intro (zP hv') H'
       obtain ⟨x_9,hv',h1'⟩:=zbi h1'
       have H':=And.intro (zP hv') H'
       obtain ⟨l_8,hv',h1'⟩:=zbi h1'
       have H':=And.intro (app1_f hv') H'
       refine wpV_J (fun e'=>e'=⟨197,4,10,[(1,.pl (.one (.v (.list false 1 (List.map (rK .i64) parents))))),(2,.pl (.one (.v (.list false 1 (List.map rS lines))))),(3,.pl (.one (.ref 4 []))),(6,.pl (.one (.ref 5 []))),(9,.pl (.one (.v (.sc (.int .i64 (w.Parents.length:Int)))))),(10,.pl (.one (.ref 6 []))),(11,.pl (.one (.ref 7 []))),(12,.pl (.one (.ref 8 []))),(13,.pl (.one (.ref 9 []))),(14,.pl (.one (.v (.sc (.int .i64 at_))))),(15,.pl (.one (.v (.sc (.int .i64 i_1)))))],[(4,.box true [.list false 1 (List.map (rL false 1 (rK .i64)) w.Parents),.list false 4 (List.map (zA false) w.Bodies)]),(5,.box true [.list true 1 (List.map (rL true 1 (rK .i64)) []),.list true 4 (List.map (zA true) [])]),(6,.list true 1 (List.map (rK .i64) x40)),(7,.list true 1 (List.map (rK .i64) x45)),(8,.list true 1 (List.map (rL true 1 rS) (behind_1.set at_.toNat l_8))),(9,.list true 1 (List.map rB stays_1))]⟩) ?_ ?_
       ·refine regAnyF [(9,87,.pl (.one (.v (.sc (.string x_9)))))] ?_
        refine (?_:zK X ?o0 _ _ ?P0 _)
        have d0':zK X ?o0 [0,1,2,3,4,5,6,7,8,9,10,11,12,13] [] ?P0 ⟨197,4,10,[(1,.pl (.one (.v (.list false 1 (List.map (rK .i64) parents))))),(2,.pl (.one (.v (.list false 1 (List.map rS lines))))),(3,.pl (.one (.ref 4 []))),(6,.pl (.one (.ref 5 []))),(9,.pl (.one (.v (.sc (.int .i64 (w.Parents.length:Int)))))),(10,.pl (.one (.ref 6 []))),(11,.pl (.one (.ref 7 []))),(12,.pl (.one (.ref 8 []))),(13,.pl (.one (.ref 9 []))),(14,.pl (.one (.v (.sc (.int .i64 at_))))),(15,.pl (.one (.v (.sc (.int .i64 i_1)))))],[(4,.box true [.list false 1 (List.map (rL false 1 (rK .i64)) w.Parents),.list false 4 (List.map (zA false) w.Bodies)]),(5,.box true [.list true 1 (List.map (rL true 1 (rK .i64)) []),.list true 4 (List.map (zA true) [])]),(6,.list true 1 (List.map (rK .i64) x40)),(7,.list true 1 (List.map (rK .i64) x45)),(8,.list true 1 (List.map (rL true 1 rS) (behind_1.set at_.toNat l_8))),(9,.list true 1 (List.map rB stays_1))]⟩:=by
         refine fend (e2:=⟨197,4,10,[(1,.pl (.one (.v (.list false 1 (List.map (rK .i64) parents))))),(2,.pl (.one (.v (.list false 1 (List.map rS lines))))),(3,.pl (.one (.ref 4 []))),(6,.pl (.one (.ref 5 []))),(9,.pl (.one (.v (.sc (.int .i64 (w.Parents.length:Int)))))),(10,.pl (.one (.ref 6 []))),(11,.pl (.one (.ref 7 []))),(12,.pl (.one (.ref 8 []))),(13,.pl (.one (.ref 9 []))),(14,.pl (.one (.v (.sc (.int .i64 at_))))),(15,.pl (.one (.v (.sc (.int .i64 i_1)))))],[(4,.box true [.list false 1 (List.map (rL false 1 (rK .i64)) w.Parents),.list false 4 (List.map (zA false) w.Bodies)]),(5,.box true [.list true 1 (List.map (rL true 1 (rK .i64)) []),.list true 4 (List.map (zA true) [])]),(6,.list true 1 (List.map (rK .i64) x40)),(7,.list true 1 (List.map (rK .i64) x45)),(8,.list true 1 (List.map (rL true 1 rS) (behind_1.set at_.toNat l_8))),(9,.list true 1 (List.map rB stays_1))]⟩) [] [] [] [] trivial ⟨rfl,shd [1,2,3,6,9,10,11,12,13,14,15] [(4,4),(5,5),(6,6),(7,7),(8,8),(9,9)] 10 rfl⟩
        have d1':zK X ?o0 [0,1,2,3,4,5,6,7,8,9,10,11,12] [] ?P0 ⟨197,4,11,[(1,.pl (.one (.v (.list false 1 (List.map (rK .i64) parents))))),(2,.pl (.one (.v (.list false 1 (List.map rS lines))))),(3,.pl (.one (.ref 4 []))),(6,.pl (.one (.ref 5 []))),(9,.pl (.one (.v (.sc (.int .i64 (w.Parents.length:Int)))))),(10,.pl (.one (.ref 6 []))),(11,.pl (.one (.ref 7 []))),(12,.pl (.one (.ref 8 []))),(13,.pl (.one (.ref 9 []))),(14,.pl (.one (.v (.sc (.int .i64 at_))))),(15,.pl (.one (.v (.sc (.int .i64 i_1))))),(89,.pl (.one (.ref 10 []))),(90,.pl (.one (.addr 8 [] 1 at_.toNat 0)))],[(4,.box true [.list false 1 (List.map (rL false 1 (rK .i64)) w.Parents),.list false 4 (List.map (zA false) w.Bodies)]),(5,.box true [.list true 1 (List.map (rL true 1 (rK .i64)) []),.list true 4 (List.map (zA true) [])]),(6,.list true 1 (List.map (rK .i64) x40)),(7,.list true 1 (List.map (rK .i64) x45)),(8,.list true 1 (List.set (List.map (rL true 1 rS) behind_1) at_.toNat [.dead])),(9,.list true 1 (List.map rB stays_1)),(10,.list true 1 (List.map rS l_8))]⟩:=by
         refine zL [] [.m 13 [] [0,1,2,3,4,5,6,7,8,9,10,11,12,13] []] [] [(13,false,[],[0,1,2,3,4,5,6,7,8,9,10,11,12,13])] ⟨?_,trivial⟩
         ·refine zM ⟨197,4,11,[(1,.pl (.one (.v (.list false 1 (List.map (rK .i64) parents))))),(2,.pl (.one (.v (.list false 1 (List.map rS lines))))),(3,.pl (.one (.ref 4 []))),(6,.pl (.one (.ref 5 []))),(9,.pl (.one (.v (.sc (.int .i64 (w.Parents.length:Int)))))),(10,.pl (.one (.ref 6 []))),(11,.pl (.one (.ref 7 []))),(12,.pl (.one (.ref 8 []))),(13,.pl (.one (.ref 9 []))),(14,.pl (.one (.v (.sc (.int .i64 at_))))),(15,.pl (.one (.v (.sc (.int .i64 i_1))))),(89,.pl (.one (.ref 10 []))),(90,.pl (.one (.addr 8 [] 1 at_.toNat 0)))],[(4,.box true [.list false 1 (List.map (rL false 1 (rK .i64)) w.Parents),.list false 4 (List.map (zA false) w.Bodies)]),(5,.box true [.list true 1 (List.map (rL true 1 (rK .i64)) []),.list true 4 (List.map (zA true) [])]),(6,.list true 1 (List.map (rK .i64) x40)),(7,.list true 1 (List.map (rK .i64) x45)),(8,.list true 1 (List.set (List.map (rL true 1 rS) behind_1) at_.toNat [.dead])),(9,.list true 1 (List.map rB stays_1)),(10,.list true 1 (List.map rS l_8))]⟩ ?_
          refine ops H' ?_
          refine zD ⟨rfl,.inl ⟨rfl,?_⟩⟩
          exact zF [1,2,3,6,9,10,11,12,13,14,15] [(4,4),(5,5),(6,6),(7,7),(8,8),(9,9)] 10 d0'
        have d2':zK X ?o0 [0,1,2,3,4,5,6,7,8,9,10,11] [] ?P0 ⟨197,4,11,[(1,.pl (.one (.v (.list false 1 (List.map (rK .i64) parents))))),(2,.pl (.one (.v (.list false 1 (List.map rS lines))))),(3,.pl (.one (.ref 4 []))),(6,.pl (.one (.ref 5 []))),(9,.pl (.one (.v (.sc (.int .i64 (w.Parents.length:Int)))))),(10,.pl (.one (.ref 6 []))),(11,.pl (.one (.ref 7 []))),(12,.pl (.one (.ref 8 []))),(13,.pl (.one (.ref 9 []))),(14,.pl (.one (.v (.sc (.int .i64 at_))))),(15,.pl (.one (.v (.sc (.int .i64 i_1))))),(78,.pl (.one (.ref 8 []))),(79,.pl (.one (.v (.sc (.int .i64 at_))))),(89,.pl (.one (.ref 10 [])))],[(4,.box true [.list false 1 (List.map (rL false 1 (rK .i64)) w.Parents),.list false 4 (List.map (zA false) w.Bodies)]),(5,.box true [.list true 1 (List.map (rL true 1 (rK .i64)) []),.list true 4 (List.map (zA true) [])]),(6,.list true 1 (List.map (rK .i64) x40)),(7,.list true 1 (List.map (rK .i64) x45)),(8,.list true 1 (List.set (List.map (rL true 1 rS) behind_1) at_.toNat [.dead])),(9,.list true 1 (List.map rB stays_1)),(10,.list true 1 (List.map rS l_8))]⟩:=by
         refine zL [] [.m 12 [] [0,1,2,3,4,5,6,7,8,9,10,11,12] []] [] [(12,false,[],[0,1,2,3,4,5,6,7,8,9,10,11,12])] ⟨?_,trivial⟩
         ·refine zM ⟨197,4,11,[(1,.pl (.one (.v (.list false 1 (List.map (rK .i64) parents))))),(2,.pl (.one (.v (.list false 1 (List.map rS lines))))),(3,.pl (.one (.ref 4 []))),(6,.pl (.one (.ref 5 []))),(9,.pl (.one (.v (.sc (.int .i64 (w.Parents.length:Int)))))),(10,.pl (.one (.ref 6 []))),(11,.pl (.one (.ref 7 []))),(12,.pl (.one (.ref 8 []))),(13,.pl (.one (.ref 9 []))),(14,.pl (.one (.v (.sc (.int .i64 at_))))),(15,.pl (.one (.v (.sc (.int .i64 i_1))))),(78,.pl (.one (.ref 8 []))),(79,.pl (.one (.v (.sc (.int .i64 at_))))),(89,.pl (.one (.ref 10 [])))],[(4,.box true [.list false 1 (List.map (rL false 1 (rK .i64)) w.Parents),.list false 4 (List.map (zA false) w.Bodies)]),(5,.box true [.list true 1 (List.map (rL true 1 (rK .i64)) []),.list true 4 (List.map (zA true) [])]),(6,.list true 1 (List.map (rK .i64) x40)),(7,.list true 1 (List.map (rK .i64) x45)),(8,.list true 1 (List.set (List.map (rL true 1 rS) behind_1) at_.toNat [.dead])),(9,.list true 1 (List.map rB stays_1)),(10,.list true 1 (List.map rS l_8))]⟩ ?_
          refine ops H' ?_
          refine zD ⟨rfl,.inl ⟨rfl,?_⟩⟩
          exact zF [1,2,3,6,9,10,11,12,13,14,15,89,90] [(4,4),(5,5),(6,6),(7,7),(8,8),(9,9),(10,10)] 11 d1'
        have d3':zK X ?o0 [0,1,2,3,4,5,6,7,8,9,10] [] ?P0 ⟨197,4,11,[(1,.pl (.one (.v (.list false 1 (List.map (rK .i64) parents))))),(2,.pl (.one (.v (.list false 1 (List.map rS lines))))),(3,.pl (.one (.ref 4 []))),(6,.pl (.one (.ref 5 []))),(9,.pl (.one (.v (.sc (.int .i64 (w.Parents.length:Int)))))),(10,.pl (.one (.ref 6 []))),(11,.pl (.one (.ref 7 []))),(12,.pl (.one (.ref 8 []))),(13,.pl (.one (.ref 9 []))),(14,.pl (.one (.v (.sc (.int .i64 at_))))),(15,.pl (.one (.v (.sc (.int .i64 i_1))))),(78,.pl (.one (.ref 8 []))),(79,.pl (.one (.v (.sc (.int .i64 at_))))),(83,.pl (.one (.ref 8 [(1,at_.toNat,0)]))),(88,.pl (.one (.ref 10 [])))],[(4,.box true [.list false 1 (List.map (rL false 1 (rK .i64)) w.Parents),.list false 4 (List.map (zA false) w.Bodies)]),(5,.box true [.list true 1 (List.map (rL true 1 (rK .i64)) []),.list true 4 (List.map (zA true) [])]),(6,.list true 1 (List.map (rK .i64) x40)),(7,.list true 1 (List.map (rK .i64) x45)),(8,.list true 1 (List.map (rL true 1 rS) behind_1)),(9,.list true 1 (List.map rB stays_1)),(10,.list true 1 (List.map rS [x_9]))]⟩:=by
         refine zL [] [.m 11 [] [0,1,2,3,4,5,6,7,8,9,10,11] []] [] [(11,false,[],[0,1,2,3,4,5,6,7,8,9,10,11])] ⟨?_,trivial⟩
         ·refine zM ⟨197,4,11,[(1,.pl (.one (.v (.list false 1 (List.map (rK .i64) parents))))),(2,.pl (.one (.v (.list false 1 (List.map rS lines))))),(3,.pl (.one (.ref 4 []))),(6,.pl (.one (.ref 5 []))),(9,.pl (.one (.v (.sc (.int .i64 (w.Parents.length:Int)))))),(10,.pl (.one (.ref 6 []))),(11,.pl (.one (.ref 7 []))),(12,.pl (.one (.ref 8 []))),(13,.pl (.one (.ref 9 []))),(14,.pl (.one (.v (.sc (.int .i64 at_))))),(15,.pl (.one (.v (.sc (.int .i64 i_1))))),(78,.pl (.one (.ref 8 []))),(79,.pl (.one (.v (.sc (.int .i64 at_))))),(83,.pl (.one (.ref 8 [(1,at_.toNat,0)]))),(88,.pl (.one (.ref 10 [])))],[(4,.box true [.list false 1 (List.map (rL false 1 (rK .i64)) w.Parents),.list false 4 (List.map (zA false) w.Bodies)]),(5,.box true [.list true 1 (List.map (rL true 1 (rK .i64)) []),.list true 4 (List.map (zA true) [])]),(6,.list true 1 (List.map (rK .i64) x40)),(7,.list true 1 (List.map (rK .i64) x45)),(8,.list true 1 (List.map (rL true 1 rS) behind_1)),(9,.list true 1 (List.map rB stays_1)),(10,.list true 1 (List.map rS [x_9]))]⟩ ?_
          refine ops H' ?_
          refine zD ⟨rfl,.inl ⟨rfl,?_⟩⟩
          exact zF [1,2,3,6,9,10,11,12,13,14,15,78,79,89] [(4,4),(5,5),(6,6),(7,7),(8,8),(9,9),(11,10)] 11 d2'
        have d4':zK X ?o0 [0,1,2,3,4,5,6,7,8] [(9,87,.pl (.one (.v (.sc (.string x_9)))))] ?P0 ⟨197,4,10,[(1,.pl (.one (.v (.list false 1 (List.map (rK .i64) parents))))),(2,.pl (.one (.v (.list false 1 (List.map rS lines))))),(3,.pl (.one (.ref 4 []))),(6,.pl (.one (.ref 5 []))),(9,.pl (.one (.v (.sc (.int .i64 (w.Parents.length:Int)))))),(10,.pl (.one (.ref 6 []))),(11,.pl (.one (.ref 7 []))),(12,.pl (.one (.ref 8 []))),(13,.pl (.one (.ref 9 []))),(14,.pl (.one (.v (.sc (.int .i64 at_))))),(15,.pl (.one (.v (.sc (.int .i64 i_1))))),(78,.pl (.one (.ref 8 []))),(79,.pl (.one (.v (.sc (.int .i64 at_))))),(83,.pl (.one (.ref 8 [(1,at_.toNat,0)]))),(86,.pl (.one (.ba [.sc (.string x_9)])))],[(4,.box true [.list false 1 (List.map (rL false 1 (rK .i64)) w.Parents),.list false 4 (List.map (zA false) w.Bodies)]),(5,.box true [.list true 1 (List.map (rL true 1 (rK .i64)) []),.list true 4 (List.map (zA true) [])]),(6,.list true 1 (List.map (rK .i64) x40)),(7,.list true 1 (List.map (rK .i64) x45)),(8,.list true 1 (List.map (rL true 1 rS) behind_1)),(9,.list true 1 (List.map rB stays_1))]⟩:=by
         refine zL [9] [.q 9 87 (.pl (.one (.v (.sc (.string x_9))))) [],.m 10 [9] [0,1,2,3,4,5,6,7,8,9,10] []] [(9,87)] [(9,true,[],[]),(10,false,[9],[0,1,2,3,4,5,6,7,8,9,10])] ⟨?_,?_,trivial⟩
         ·refine zG 0 ⟨197,4,10,[(1,.pl (.one (.v (.list false 1 (List.map (rK .i64) parents))))),(2,.pl (.one (.v (.list false 1 (List.map rS lines))))),(3,.pl (.one (.ref 4 []))),(6,.pl (.one (.ref 5 []))),(9,.pl (.one (.v (.sc (.int .i64 (w.Parents.length:Int)))))),(10,.pl (.one (.ref 6 []))),(11,.pl (.one (.ref 7 []))),(12,.pl (.one (.ref 8 []))),(13,.pl (.one (.ref 9 []))),(14,.pl (.one (.v (.sc (.int .i64 at_))))),(15,.pl (.one (.v (.sc (.int .i64 i_1))))),(78,.pl (.one (.ref 8 []))),(79,.pl (.one (.v (.sc (.int .i64 at_))))),(83,.pl (.one (.ref 8 [(1,at_.toNat,0)]))),(86,.pl (.one (.ba [.sc (.string x_9)])))],[(4,.box true [.list false 1 (List.map (rL false 1 (rK .i64)) w.Parents),.list false 4 (List.map (zA false) w.Bodies)]),(5,.box true [.list true 1 (List.map (rL true 1 (rK .i64)) []),.list true 4 (List.map (zA true) [])]),(6,.list true 1 (List.map (rK .i64) x40)),(7,.list true 1 (List.map (rK .i64) x45)),(8,.list true 1 (List.map (rL true 1 rS) behind_1)),(9,.list true 1 (List.map rB stays_1))]⟩ ?_
          refine ops H' ?_
          refine zD ⟨rfl,shd [87,1,2,3,6,9,10,11,12,13,14,15,78,79,83,86] [(4,4),(5,5),(6,6),(7,7),(8,8),(9,9)] 10 rfl⟩
         ·refine zM ⟨197,4,10,[(87,.pl (.one (.v (.sc (.string x_9))))),(1,.pl (.one (.v (.list false 1 (List.map (rK .i64) parents))))),(2,.pl (.one (.v (.list false 1 (List.map rS lines))))),(3,.pl (.one (.ref 4 []))),(6,.pl (.one (.ref 5 []))),(9,.pl (.one (.v (.sc (.int .i64 (w.Parents.length:Int)))))),(10,.pl (.one (.ref 6 []))),(11,.pl (.one (.ref 7 []))),(12,.pl (.one (.ref 8 []))),(13,.pl (.one (.ref 9 []))),(14,.pl (.one (.v (.sc (.int .i64 at_))))),(15,.pl (.one (.v (.sc (.int .i64 i_1))))),(78,.pl (.one (.ref 8 []))),(79,.pl (.one (.v (.sc (.int .i64 at_))))),(83,.pl (.one (.ref 8 [(1,at_.toNat,0)]))),(86,.pl (.one (.ba [.sc (.string x_9)])))],[(4,.box true [.list false 1 (List.map (rL false 1 (rK .i64)) w.Parents),.list false 4 (List.map (zA false) w.Bodies)]),(5,.box true [.list true 1 (List.map (rL true 1 (rK .i64)) []),.list true 4 (List.map (zA true) [])]),(6,.list true 1 (List.map (rK .i64) x40)),(7,.list true 1 (List.map (rK .i64) x45)),(8,.list true 1 (List.map (rL true 1 rS) behind_1)),(9,.list true 1 (List.map rB stays_1))]⟩ ?_
          refine ops H' ?_
          refine zD ⟨rfl,.inl ⟨rfl,?_⟩⟩
          exact zF [1,2,3,6,9,10,11,12,13,14,15,78,79,83,88] [(4,4),(5,5),(6,6),(7,7),(8,8),(9,9),(10,10)] 11 d3'
        have d5':zK X ?o0 [0,1,2,3,4,6,7,8,9,10] [] ?P0 ⟨197,4,11,[(1,.pl (.one (.v (.list false 1 (List.map (rK .i64) parents))))),(2,.pl (.one (.v (.list false 1 (List.map rS lines))))),(3,.pl (.one (.ref 4 []))),(6,.pl (.one (.ref 5 []))),(9,.pl (.one (.v (.sc (.int .i64 (w.Parents.length:Int)))))),(10,.pl (.one (.ref 6 []))),(11,.pl (.one (.ref 7 []))),(12,.pl (.one (.ref 8 []))),(13,.pl (.one (.ref 9 []))),(14,.pl (.one (.v (.sc (.int .i64 at_))))),(15,.pl (.one (.v (.sc (.int .i64 i_1))))),(78,.pl (.one (.ref 8 []))),(79,.pl (.one (.v (.sc (.int .i64 at_))))),(82,.pl (.one (.addr 8 [] 1 at_.toNat 0))),(88,.pl (.one (.ref 10 [])))],[(4,.box true [.list false 1 (List.map (rL false 1 (rK .i64)) w.Parents),.list false 4 (List.map (zA false) w.Bodies)]),(5,.box true [.list true 1 (List.map (rL true 1 (rK .i64)) []),.list true 4 (List.map (zA true) [])]),(6,.list true 1 (List.map (rK .i64) x40)),(7,.list true 1 (List.map (rK .i64) x45)),(8,.list true 1 (List.map (rL true 1 rS) behind_1)),(9,.list true 1 (List.map rB stays_1)),(10,.list true 1 (List.map rS [x_9]))]⟩:=by
         refine zL [] [.m 5 [] [0,1,2,3,4,5,6,7,8,9,10] []] [] [(5,false,[],[0,1,2,3,4,5,6,7,8,9,10])] ⟨?_,trivial⟩
         ·refine zM ⟨197,4,11,[(1,.pl (.one (.v (.list false 1 (List.map (rK .i64) parents))))),(2,.pl (.one (.v (.list false 1 (List.map rS lines))))),(3,.pl (.one (.ref 4 []))),(6,.pl (.one (.ref 5 []))),(9,.pl (.one (.v (.sc (.int .i64 (w.Parents.length:Int)))))),(10,.pl (.one (.ref 6 []))),(11,.pl (.one (.ref 7 []))),(12,.pl (.one (.ref 8 []))),(13,.pl (.one (.ref 9 []))),(14,.pl (.one (.v (.sc (.int .i64 at_))))),(15,.pl (.one (.v (.sc (.int .i64 i_1))))),(78,.pl (.one (.ref 8 []))),(79,.pl (.one (.v (.sc (.int .i64 at_))))),(82,.pl (.one (.addr 8 [] 1 at_.toNat 0))),(88,.pl (.one (.ref 10 [])))],[(4,.box true [.list false 1 (List.map (rL false 1 (rK .i64)) w.Parents),.list false 4 (List.map (zA false) w.Bodies)]),(5,.box true [.list true 1 (List.map (rL true 1 (rK .i64)) []),.list true 4 (List.map (zA true) [])]),(6,.list true 1 (List.map (rK .i64) x40)),(7,.list true 1 (List.map (rK .i64) x45)),(8,.list true 1 (List.map (rL true 1 rS) behind_1)),(9,.list true 1 (List.map rB stays_1)),(10,.list true 1 (List.map rS [x_9]))]⟩ ?_
          refine ops H' ?_
          refine zD ⟨rfl,.inl ⟨rfl,?_⟩⟩
          exact zF [1,2,3,6,9,10,11,12,13,14,15,78,79,83,88] [(4,4),(5,5),(6,6),(7,7),(8,8),(9,9),(10,10)] 11 d3'
        have d6':zK X ?o0 [0,1,2,3,4,6,7,8] [(9,87,.pl (.one (.v (.sc (.string x_9)))))] ?P0 ⟨197,4,10,[(1,.pl (.one (.v (.list false 1 (List.map (rK .i64) parents))))),(2,.pl (.one (.v (.list false 1 (List.map rS lines))))),(3,.pl (.one (.ref 4 []))),(6,.pl (.one (.ref 5 []))),(9,.pl (.one (.v (.sc (.int .i64 (w.Parents.length:Int)))))),(10,.pl (.one (.ref 6 []))),(11,.pl (.one (.ref 7 []))),(12,.pl (.one (.ref 8 []))),(13,.pl (.one (.ref 9 []))),(14,.pl (.one (.v (.sc (.int .i64 at_))))),(15,.pl (.one (.v (.sc (.int .i64 i_1))))),(78,.pl (.one (.ref 8 []))),(79,.pl (.one (.v (.sc (.int .i64 at_))))),(82,.pl (.one (.addr 8 [] 1 at_.toNat 0))),(86,.pl (.one (.ba [.sc (.string x_9)])))],[(4,.box true [.list false 1 (List.map (rL false 1 (rK .i64)) w.Parents),.list false 4 (List.map (zA false) w.Bodies)]),(5,.box true [.list true 1 (List.map (rL true 1 (rK .i64)) []),.list true 4 (List.map (zA true) [])]),(6,.list true 1 (List.map (rK .i64) x40)),(7,.list true 1 (List.map (rK .i64) x45)),(8,.list true 1 (List.map (rL true 1 rS) behind_1)),(9,.list true 1 (List.map rB stays_1))]⟩:=by
         refine zL [9] [.q 9 87 (.pl (.one (.v (.sc (.string x_9))))) [],.m 5 [] [0,1,2,3,4,5,6,7,8] [(9,87,.pl (.one (.v (.sc (.string x_9)))))],.m 10 [9] [0,1,2,3,4,6,7,8,9,10] []] [(9,87)] [(9,true,[],[]),(5,false,[],[0,1,2,3,4,5,6,7,8]),(10,false,[9],[0,1,2,3,4,6,7,8,9,10])] ⟨?_,?_,?_,trivial⟩
         ·refine zG 0 ⟨197,4,10,[(1,.pl (.one (.v (.list false 1 (List.map (rK .i64) parents))))),(2,.pl (.one (.v (.list false 1 (List.map rS lines))))),(3,.pl (.one (.ref 4 []))),(6,.pl (.one (.ref 5 []))),(9,.pl (.one (.v (.sc (.int .i64 (w.Parents.length:Int)))))),(10,.pl (.one (.ref 6 []))),(11,.pl (.one (.ref 7 []))),(12,.pl (.one (.ref 8 []))),(13,.pl (.one (.ref 9 []))),(14,.pl (.one (.v (.sc (.int .i64 at_))))),(15,.pl (.one (.v (.sc (.int .i64 i_1))))),(78,.pl (.one (.ref 8 []))),(79,.pl (.one (.v (.sc (.int .i64 at_))))),(82,.pl (.one (.addr 8 [] 1 at_.toNat 0))),(86,.pl (.one (.ba [.sc (.string x_9)])))],[(4,.box true [.list false 1 (List.map (rL false 1 (rK .i64)) w.Parents),.list false 4 (List.map (zA false) w.Bodies)]),(5,.box true [.list true 1 (List.map (rL true 1 (rK .i64)) []),.list true 4 (List.map (zA true) [])]),(6,.list true 1 (List.map (rK .i64) x40)),(7,.list true 1 (List.map (rK .i64) x45)),(8,.list true 1 (List.map (rL true 1 rS) behind_1)),(9,.list true 1 (List.map rB stays_1))]⟩ ?_
          refine ops H' ?_
          refine zD ⟨rfl,shd [87,1,2,3,6,9,10,11,12,13,14,15,78,79,82,86] [(4,4),(5,5),(6,6),(7,7),(8,8),(9,9)] 10 rfl⟩
         ·refine zM ⟨197,4,10,[(1,.pl (.one (.v (.list false 1 (List.map (rK .i64) parents))))),(2,.pl (.one (.v (.list false 1 (List.map rS lines))))),(3,.pl (.one (.ref 4 []))),(6,.pl (.one (.ref 5 []))),(9,.pl (.one (.v (.sc (.int .i64 (w.Parents.length:Int)))))),(10,.pl (.one (.ref 6 []))),(11,.pl (.one (.ref 7 []))),(12,.pl (.one (.ref 8 []))),(13,.pl (.one (.ref 9 []))),(14,.pl (.one (.v (.sc (.int .i64 at_))))),(15,.pl (.one (.v (.sc (.int .i64 i_1))))),(78,.pl (.one (.ref 8 []))),(79,.pl (.one (.v (.sc (.int .i64 at_))))),(82,.pl (.one (.addr 8 [] 1 at_.toNat 0))),(86,.pl (.one (.ba [.sc (.string x_9)])))],[(4,.box true [.list false 1 (List.map (rL false 1 (rK .i64)) w.Parents),.list false 4 (List.map (zA false) w.Bodies)]),(5,.box true [.list true 1 (List.map (rL true 1 (rK .i64)) []),.list true 4 (List.map (zA true) [])]),(6,.list true 1 (List.map (rK .i64) x40)),(7,.list true 1 (List.map (rK .i64) x45)),(8,.list true 1 (List.map (rL true 1 rS) behind_1)),(9,.list true 1 (List.map rB stays_1))]⟩ ?_
          refine ops H' ?_
          refine zD ⟨rfl,.inl ⟨rfl,?_⟩⟩
          exact zF [1,2,3,6,9,10,11,12,13,14,15,78,79,83,86] [(4,4),(5,5),(6,6),(7,7),(8,8),(9,9)] 10 d4'
         ·refine zM ⟨197,4,10,[(87,.pl (.one (.v (.sc (.string x_9))))),(1,.pl (.one (.v (.list false 1 (List.map (rK .i64) parents))))),(2,.pl (.one (.v (.list false 1 (List.map rS lines))))),(3,.pl (.one (.ref 4 []))),(6,.pl (.one (.ref 5 []))),(9,.pl (.one (.v (.sc (.int .i64 (w.Parents.length:Int)))))),(10,.pl (.one (.ref 6 []))),(11,.pl (.one (.ref 7 []))),(12,.pl (.one (.ref 8 []))),(13,.pl (.one (.ref 9 []))),(14,.pl (.one (.v (.sc (.int .i64 at_))))),(15,.pl (.one (.v (.sc (.int .i64 i_1))))),(78,.pl (.one (.ref 8 []))),(79,.pl (.one (.v (.sc (.int .i64 at_))))),(82,.pl (.one (.addr 8 [] 1 at_.toNat 0))),(86,.pl (.one (.ba [.sc (.string x_9)])))],[(4,.box true [.list false 1 (List.map (rL false 1 (rK .i64)) w.Parents),.list false 4 (List.map (zA false) w.Bodies)]),(5,.box true [.list true 1 (List.map (rL true 1 (rK .i64)) []),.list true 4 (List.map (zA true) [])]),(6,.list true 1 (List.map (rK .i64) x40)),(7,.list true 1 (List.map (rK .i64) x45)),(8,.list true 1 (List.map (rL true 1 rS) behind_1)),(9,.list true 1 (List.map rB stays_1))]⟩ ?_
          refine ops H' ?_
          refine zD ⟨rfl,.inl ⟨rfl,?_⟩⟩
          exact zF [1,2,3,6,9,10,11,12,13,14,15,78,79,82,88] [(4,4),(5,5),(6,6),(7,7),(8,8),(9,9),(10,10)] 11 d5'
        refine fpure H' 0 [0] [(9,87)] ?_
        refine fpure H' 1 [0,1] [(9,87)] ?_
        refine fpure H' 2 [0,1,2] [(9,87)] ?_
        refine fpure H' 3 [0,1,2,3] [(9,87)] ?_
        refine fpure H' 4 [0,1,2,3,4] [(9,87)] ?_
        refine fpure H' 6 [0,1,2,3,4,6] [(9,87)] ?_
        refine fpure H' 7 [0,1,2,3,4,6,7] [(9,87)] ?_
        refine fpure H' 8 [0,1,2,3,4,6,7,8] [(9,87)] ?_
        exact zF [1,2,3,6,9,10,11,12,13,14,15,78,79,82,86] [(4,4),(5,5),(6,6),(7,7),(8,8),(9,9)] 10 d6'
       ·rintro e' rfl
        refine contN ?_
        refine zB ?_
        refine ops H' ?_
        refine zE ?_
        obtain rfl:=zso h1'
        exact shd [1,2,3,6,9,10,11,12,13,14,15] [(4,4),(5,5),(6,6),(7,7),(8,8),(9,9)] 10 ⟨_,rfl,_,_,_,_,rfl,rfl⟩
     ·replace h1':=(ifF hc').symm.trans h1'
      refine exitN ?_
      obtain rfl:=zso h1'
      refine ⟨_,rfl,fun hr'=>?_⟩
      subst hr'
      exact shd [1,3,6,9,12,13] [(4,4),(5,5),(8,6),(9,7)] 8 ⟨_,_,h0',rfl⟩
    ·rintro e' ⟨behind,stays,h0',rfl⟩
     unfold spec_l06Add_j1 at h0'
     refine zC ?_
     refine zB ?_
     refine ops H' ?_
     refine zE ?_
     refine zU (fun e'=>∃ out_,spec_l06Add_j2 w parents behind stays out_=some r'∧e'=⟨197,4,9,[(1,.pl (.one (.v (.list false 1 (List.map (rK .i64) parents))))),(3,.pl (.one (.ref 4 []))),(6,.pl (.one (.ref 5 []))),(9,.pl (.one (.v (.sc (.int .i64 (w.Parents.length:Int)))))),(12,.pl (.one (.ref 6 []))),(13,.pl (.one (.ref 7 []))),(16,.pl (.one (.ref 8 [])))],[(4,.box true [.list false 1 (List.map (rL false 1 (rK .i64)) w.Parents),.list false 4 (List.map (zA false) w.Bodies)]),(5,.box true [.list true 1 (List.map (rL true 1 (rK .i64)) []),.list true 4 (List.map (zA true) [])]),(6,.list true 1 (List.map (rL true 1 rS) behind)),(7,.list true 1 (List.map rB stays)),(8,.box true [.list true 1 (List.map (rL true 1 (rK .i64)) out_),.list true 4 (List.map (zA true) [])])]⟩) ?_ ?_
     ·refine zC ?_
      refine zB ?_
      refine ops H' ?_
      refine zE ?_
      obtain ⟨p_2,hl',h0'⟩:=zbi h0'
      refine zJ ?_
      refine zX (fun s' e'=>∃ k_1 out__6,s'=(k_1,out__6)∧e'=⟨197,4,9,[(1,.pl (.one (.v (.list false 1 (List.map (rK .i64) parents))))),(3,.pl (.one (.ref 4 []))),(6,.pl (.one (.ref 5 []))),(9,.pl (.one (.v (.sc (.int .i64 (w.Parents.length:Int)))))),(12,.pl (.one (.ref 6 []))),(13,.pl (.one (.ref 7 []))),(16,.pl (.one (.ref 8 []))),(17,.pl (.one (.v (.sc (.int .i64 k_1)))))],[(4,.box true [.list false 1 (List.map (rL false 1 (rK .i64)) w.Parents),.list false 4 (List.map (zA false) w.Bodies)]),(5,.box true [.list true 1 (List.map (rL true 1 (rK .i64)) []),.list true 4 (List.map (zA true) [])]),(6,.list true 1 (List.map (rL true 1 rS) behind)),(7,.list true 1 (List.map rB stays)),(8,.box true [.list true 1 (List.map (rL true 1 (rK .i64)) out__6),.list true 4 (List.map (zA true) [])])]⟩) hl' (shd [1,3,6,9,12,13,16,17] [(4,4),(5,5),(6,6),(7,7),(8,8)] 9 ⟨_,_,rfl,rfl⟩) ?_
      rintro s' y1' e' h1' ⟨k_1,out__6,rfl,rfl⟩
      replace h1':spec_l06Add_l3 w k_1 out__6=some y1':=h1'
      unfold spec_l06Add_l3 at h1'
      refine zC ?_
      refine zC ?_
      refine zB ?_
      refine ops H' ?_
      refine zE ?_
      refine zH (fun hc'=>?_) (fun hc'=>?_)
      ·replace h1':=(ifT hc').symm.trans h1'
       refine zR ?_
       refine zC ?_
       refine zJ ?_
       obtain ⟨x_4,hv',h1'⟩:=zbi h1'
       have H':=And.intro (zP hv') H'
       obtain ⟨l_6,hv',h1'⟩:=zbi h1'
       have H':=And.intro (appz_f (rK .i64) hv') H'
       obtain ⟨l_7,hv',h1'⟩:=zbi h1'
       have H':=And.intro (app1_f hv') H'
       refine wpV_J (fun e'=>e'=⟨197,4,9,[(1,.pl (.one (.v (.list false 1 (List.map (rK .i64) parents))))),(3,.pl (.one (.ref 4 []))),(6,.pl (.one (.ref 5 []))),(9,.pl (.one (.v (.sc (.int .i64 (w.Parents.length:Int)))))),(12,.pl (.one (.ref 6 []))),(13,.pl (.one (.ref 7 []))),(16,.pl (.one (.ref 8 []))),(17,.pl (.one (.v (.sc (.int .i64 k_1)))))],[(4,.box true [.list false 1 (List.map (rL false 1 (rK .i64)) w.Parents),.list false 4 (List.map (zA false) w.Bodies)]),(5,.box true [.list true 1 (List.map (rL true 1 (rK .i64)) []),.list true 4 (List.map (zA true) [])]),(6,.list true 1 (List.map (rL true 1 rS) behind)),(7,.list true 1 (List.map rB stays)),(8,.box true [.list true 1 (List.map (rL true 1 (rK .i64)) l_7),.list true 4 (List.map (zA true) [])])]⟩) ?_ ?_
       ·refine regAnyF [(4,101,.pl (.one (.v (.list false 1 (List.map (rL false 1 (rK .i64)) w.Parents))))),(6,103,.pl (.one (.ba [.list false 1 (List.map (rK .i64) x_4)]))),(7,104,.pl (.one (.v (.list false 1 (List.map (rK .i64) x_4)))))] ?_
        refine (?_:zK X ?o1 _ _ ?P1 _)
        have d7':zK X ?o1 [0,1,2,3,4,5,6,7,8,9,10,11,12] [] ?P1 ⟨197,4,9,[(1,.pl (.one (.v (.list false 1 (List.map (rK .i64) parents))))),(3,.pl (.one (.ref 4 []))),(6,.pl (.one (.ref 5 []))),(9,.pl (.one (.v (.sc (.int .i64 (w.Parents.length:Int)))))),(12,.pl (.one (.ref 6 []))),(13,.pl (.one (.ref 7 []))),(16,.pl (.one (.ref 8 []))),(17,.pl (.one (.v (.sc (.int .i64 k_1)))))],[(4,.box true [.list false 1 (List.map (rL false 1 (rK .i64)) w.Parents),.list false 4 (List.map (zA false) w.Bodies)]),(5,.box true [.list true 1 (List.map (rL true 1 (rK .i64)) []),.list true 4 (List.map (zA true) [])]),(6,.list true 1 (List.map (rL true 1 rS) behind)),(7,.list true 1 (List.map rB stays)),(8,.box true [.list true 1 (List.map (rL true 1 (rK .i64)) l_7),.list true 4 (List.map (zA true) [])])]⟩:=by
         refine fend (e2:=⟨197,4,9,[(1,.pl (.one (.v (.list false 1 (List.map (rK .i64) parents))))),(3,.pl (.one (.ref 4 []))),(6,.pl (.one (.ref 5 []))),(9,.pl (.one (.v (.sc (.int .i64 (w.Parents.length:Int)))))),(12,.pl (.one (.ref 6 []))),(13,.pl (.one (.ref 7 []))),(16,.pl (.one (.ref 8 []))),(17,.pl (.one (.v (.sc (.int .i64 k_1)))))],[(4,.box true [.list false 1 (List.map (rL false 1 (rK .i64)) w.Parents),.list false 4 (List.map (zA false) w.Bodies)]),(5,.box true [.list true 1 (List.map (rL true 1 (rK .i64)) []),.list true 4 (List.map (zA true) [])]),(6,.list true 1 (List.map (rL true 1 rS) behind)),(7,.list true 1 (List.map rB stays)),(8,.box true [.list true 1 (List.map (rL true 1 (rK .i64)) l_7),.list true 4 (List.map (zA true) [])])]⟩) [] [] [] [] trivial ⟨rfl,shd [1,3,6,9,12,13,16,17] [(4,4),(5,5),(6,6),(7,7),(8,8)] 9 rfl⟩
        have d8':zK X ?o1 [0,1,2,3,4,5,6,7,8,9,10,11] [] ?P1 ⟨197,4,10,[(1,.pl (.one (.v (.list false 1 (List.map (rK .i64) parents))))),(3,.pl (.one (.ref 4 []))),(6,.pl (.one (.ref 5 []))),(9,.pl (.one (.v (.sc (.int .i64 (w.Parents.length:Int)))))),(12,.pl (.one (.ref 6 []))),(13,.pl (.one (.ref 7 []))),(16,.pl (.one (.ref 8 []))),(17,.pl (.one (.v (.sc (.int .i64 k_1))))),(107,.pl (.one (.ref 9 []))),(108,.pl (.one (.addr 8 [] 0 0 0)))],[(4,.box true [.list false 1 (List.map (rL false 1 (rK .i64)) w.Parents),.list false 4 (List.map (zA false) w.Bodies)]),(5,.box true [.list true 1 (List.map (rL true 1 (rK .i64)) []),.list true 4 (List.map (zA true) [])]),(6,.list true 1 (List.map (rL true 1 rS) behind)),(7,.list true 1 (List.map rB stays)),(8,.box true [.dead,.list true 4 (List.map (zA true) [])]),(9,.list true 1 (List.map (rL true 1 (rK .i64)) l_7))]⟩:=by
         refine zL [] [.m 12 [] [0,1,2,3,4,5,6,7,8,9,10,11,12] []] [] [(12,false,[],[0,1,2,3,4,5,6,7,8,9,10,11,12])] ⟨?_,trivial⟩
         ·refine zM ⟨197,4,10,[(1,.pl (.one (.v (.list false 1 (List.map (rK .i64) parents))))),(3,.pl (.one (.ref 4 []))),(6,.pl (.one (.ref 5 []))),(9,.pl (.one (.v (.sc (.int .i64 (w.Parents.length:Int)))))),(12,.pl (.one (.ref 6 []))),(13,.pl (.one (.ref 7 []))),(16,.pl (.one (.ref 8 []))),(17,.pl (.one (.v (.sc (.int .i64 k_1))))),(107,.pl (.one (.ref 9 []))),(108,.pl (.one (.addr 8 [] 0 0 0)))],[(4,.box true [.list false 1 (List.map (rL false 1 (rK .i64)) w.Parents),.list false 4 (List.map (zA false) w.Bodies)]),(5,.box true [.list true 1 (List.map (rL true 1 (rK .i64)) []),.list true 4 (List.map (zA true) [])]),(6,.list true 1 (List.map (rL true 1 rS) behind)),(7,.list true 1 (List.map rB stays)),(8,.box true [.dead,.list true 4 (List.map (zA true) [])]),(9,.list true 1 (List.map (rL true 1 (rK .i64)) l_7))]⟩ ?_
          refine ops H' ?_
          refine zD ⟨rfl,.inl ⟨rfl,?_⟩⟩
          exact zF [1,3,6,9,12,13,16,17] [(4,4),(5,5),(6,6),(7,7),(8,8)] 9 d7'
        have d9':zK X ?o1 [0,1,2,3,4,5,6,7,8,9,10] [] ?P1 ⟨197,4,10,[(1,.pl (.one (.v (.list false 1 (List.map (rK .i64) parents))))),(3,.pl (.one (.ref 4 []))),(6,.pl (.one (.ref 5 []))),(9,.pl (.one (.v (.sc (.int .i64 (w.Parents.length:Int)))))),(12,.pl (.one (.ref 6 []))),(13,.pl (.one (.ref 7 []))),(16,.pl (.one (.ref 8 []))),(17,.pl (.one (.v (.sc (.int .i64 k_1))))),(107,.pl (.one (.ref 9 [])))],[(4,.box true [.list false 1 (List.map (rL false 1 (rK .i64)) w.Parents),.list false 4 (List.map (zA false) w.Bodies)]),(5,.box true [.list true 1 (List.map (rL true 1 (rK .i64)) []),.list true 4 (List.map (zA true) [])]),(6,.list true 1 (List.map (rL true 1 rS) behind)),(7,.list true 1 (List.map rB stays)),(8,.box true [.dead,.list true 4 (List.map (zA true) [])]),(9,.list true 1 (List.map (rL true 1 (rK .i64)) l_7))]⟩:=by
         refine zL [] [.m 11 [] [0,1,2,3,4,5,6,7,8,9,10,11] []] [] [(11,false,[],[0,1,2,3,4,5,6,7,8,9,10,11])] ⟨?_,trivial⟩
         ·refine zM ⟨197,4,10,[(1,.pl (.one (.v (.list false 1 (List.map (rK .i64) parents))))),(3,.pl (.one (.ref 4 []))),(6,.pl (.one (.ref 5 []))),(9,.pl (.one (.v (.sc (.int .i64 (w.Parents.length:Int)))))),(12,.pl (.one (.ref 6 []))),(13,.pl (.one (.ref 7 []))),(16,.pl (.one (.ref 8 []))),(17,.pl (.one (.v (.sc (.int .i64 k_1))))),(107,.pl (.one (.ref 9 [])))],[(4,.box true [.list false 1 (List.map (rL false 1 (rK .i64)) w.Parents),.list false 4 (List.map (zA false) w.Bodies)]),(5,.box true [.list true 1 (List.map (rL true 1 (rK .i64)) []),.list true 4 (List.map (zA true) [])]),(6,.list true 1 (List.map (rL true 1 rS) behind)),(7,.list true 1 (List.map rB stays)),(8,.box true [.dead,.list true 4 (List.map (zA true) [])]),(9,.list true 1 (List.map (rL true 1 (rK .i64)) l_7))]⟩ ?_
          refine ops H' ?_
          refine zD ⟨rfl,.inl ⟨rfl,?_⟩⟩
          exact zF [1,3,6,9,12,13,16,17,107,108] [(4,4),(5,5),(6,6),(7,7),(8,8),(9,9)] 10 d8'
        have d10':zK X ?o1 [0,1,2,3,4,5,6,7,8,9] [] ?P1 ⟨197,4,10,[(1,.pl (.one (.v (.list false 1 (List.map (rK .i64) parents))))),(3,.pl (.one (.ref 4 []))),(6,.pl (.one (.ref 5 []))),(9,.pl (.one (.v (.sc (.int .i64 (w.Parents.length:Int)))))),(12,.pl (.one (.ref 6 []))),(13,.pl (.one (.ref 7 []))),(16,.pl (.one (.ref 8 []))),(17,.pl (.one (.v (.sc (.int .i64 k_1))))),(98,.pl (.one (.ref 8 [(0,0,0)]))),(106,.pl (.one (.ref 9 [])))],[(4,.box true [.list false 1 (List.map (rL false 1 (rK .i64)) w.Parents),.list false 4 (List.map (zA false) w.Bodies)]),(5,.box true [.list true 1 (List.map (rL true 1 (rK .i64)) []),.list true 4 (List.map (zA true) [])]),(6,.list true 1 (List.map (rL true 1 rS) behind)),(7,.list true 1 (List.map rB stays)),(8,.box true [.list true 1 (List.map (rL true 1 (rK .i64)) out__6),.list true 4 (List.map (zA true) [])]),(9,.list true 1 (List.map (rL true 1 (rK .i64)) [l_6]))]⟩:=by
         refine zL [] [.m 10 [] [0,1,2,3,4,5,6,7,8,9,10] []] [] [(10,false,[],[0,1,2,3,4,5,6,7,8,9,10])] ⟨?_,trivial⟩
         ·refine zM ⟨197,4,10,[(1,.pl (.one (.v (.list false 1 (List.map (rK .i64) parents))))),(3,.pl (.one (.ref 4 []))),(6,.pl (.one (.ref 5 []))),(9,.pl (.one (.v (.sc (.int .i64 (w.Parents.length:Int)))))),(12,.pl (.one (.ref 6 []))),(13,.pl (.one (.ref 7 []))),(16,.pl (.one (.ref 8 []))),(17,.pl (.one (.v (.sc (.int .i64 k_1))))),(98,.pl (.one (.ref 8 [(0,0,0)]))),(106,.pl (.one (.ref 9 [])))],[(4,.box true [.list false 1 (List.map (rL false 1 (rK .i64)) w.Parents),.list false 4 (List.map (zA false) w.Bodies)]),(5,.box true [.list true 1 (List.map (rL true 1 (rK .i64)) []),.list true 4 (List.map (zA true) [])]),(6,.list true 1 (List.map (rL true 1 rS) behind)),(7,.list true 1 (List.map rB stays)),(8,.box true [.list true 1 (List.map (rL true 1 (rK .i64)) out__6),.list true 4 (List.map (zA true) [])]),(9,.list true 1 (List.map (rL true 1 (rK .i64)) [l_6]))]⟩ ?_
          refine ops H' ?_
          refine zD ⟨rfl,.inl ⟨rfl,?_⟩⟩
          exact zF [1,3,6,9,12,13,16,17,107] [(4,4),(5,5),(6,6),(7,7),(8,8),(10,9)] 10 d9'
        have d11':zK X ?o1 [0,1,2,3,4,5,6,7,8] [] ?P1 ⟨197,4,10,[(1,.pl (.one (.v (.list false 1 (List.map (rK .i64) parents))))),(3,.pl (.one (.ref 4 []))),(6,.pl (.one (.ref 5 []))),(9,.pl (.one (.v (.sc (.int .i64 (w.Parents.length:Int)))))),(12,.pl (.one (.ref 6 []))),(13,.pl (.one (.ref 7 []))),(16,.pl (.one (.ref 8 []))),(17,.pl (.one (.v (.sc (.int .i64 k_1))))),(98,.pl (.one (.ref 8 [(0,0,0)]))),(105,.pl (.one (.ref 9 [])))],[(4,.box true [.list false 1 (List.map (rL false 1 (rK .i64)) w.Parents),.list false 4 (List.map (zA false) w.Bodies)]),(5,.box true [.list true 1 (List.map (rL true 1 (rK .i64)) []),.list true 4 (List.map (zA true) [])]),(6,.list true 1 (List.map (rL true 1 rS) behind)),(7,.list true 1 (List.map rB stays)),(8,.box true [.list true 1 (List.map (rL true 1 (rK .i64)) out__6),.list true 4 (List.map (zA true) [])]),(9,.list true 1 (List.map (rK .i64) l_6))]⟩:=by
         refine zL [] [.m 9 [] [0,1,2,3,4,5,6,7,8,9] []] [] [(9,false,[],[0,1,2,3,4,5,6,7,8,9])] ⟨?_,trivial⟩
         ·refine zM ⟨197,4,10,[(1,.pl (.one (.v (.list false 1 (List.map (rK .i64) parents))))),(3,.pl (.one (.ref 4 []))),(6,.pl (.one (.ref 5 []))),(9,.pl (.one (.v (.sc (.int .i64 (w.Parents.length:Int)))))),(12,.pl (.one (.ref 6 []))),(13,.pl (.one (.ref 7 []))),(16,.pl (.one (.ref 8 []))),(17,.pl (.one (.v (.sc (.int .i64 k_1))))),(98,.pl (.one (.ref 8 [(0,0,0)]))),(105,.pl (.one (.ref 9 [])))],[(4,.box true [.list false 1 (List.map (rL false 1 (rK .i64)) w.Parents),.list false 4 (List.map (zA false) w.Bodies)]),(5,.box true [.list true 1 (List.map (rL true 1 (rK .i64)) []),.list true 4 (List.map (zA true) [])]),(6,.list true 1 (List.map (rL true 1 rS) behind)),(7,.list true 1 (List.map rB stays)),(8,.box true [.list true 1 (List.map (rL true 1 (rK .i64)) out__6),.list true 4 (List.map (zA true) [])]),(9,.list true 1 (List.map (rK .i64) l_6))]⟩ ?_
          refine ops H' ?_
          refine zD ⟨rfl,.inl ⟨rfl,?_⟩⟩
          exact zF [1,3,6,9,12,13,16,17,98,106] [(4,4),(5,5),(6,6),(7,7),(8,8),(10,9)] 10 d10'
        have d12':zK X ?o1 [0,1,2,3,5] [(4,101,.pl (.one (.v (.list false 1 (List.map (rL false 1 (rK .i64)) w.Parents))))),(6,103,.pl (.one (.ba [.list false 1 (List.map (rK .i64) x_4)]))),(7,104,.pl (.one (.v (.list false 1 (List.map (rK .i64) x_4)))))] ?P1 ⟨197,4,10,[(1,.pl (.one (.v (.list false 1 (List.map (rK .i64) parents))))),(3,.pl (.one (.ref 4 []))),(6,.pl (.one (.ref 5 []))),(9,.pl (.one (.v (.sc (.int .i64 (w.Parents.length:Int)))))),(12,.pl (.one (.ref 6 []))),(13,.pl (.one (.ref 7 []))),(16,.pl (.one (.ref 8 []))),(17,.pl (.one (.v (.sc (.int .i64 k_1))))),(98,.pl (.one (.ref 8 [(0,0,0)]))),(99,.pl (.one (.ref 9 []))),(100,.pl (.one (.addr 4 [] 0 0 0))),(102,.pl (.one (.v (.sc (.int .i64 k_1)))))],[(4,.box true [.list false 1 (List.map (rL false 1 (rK .i64)) w.Parents),.list false 4 (List.map (zA false) w.Bodies)]),(5,.box true [.list true 1 (List.map (rL true 1 (rK .i64)) []),.list true 4 (List.map (zA true) [])]),(6,.list true 1 (List.map (rL true 1 rS) behind)),(7,.list true 1 (List.map rB stays)),(8,.box true [.list true 1 (List.map (rL true 1 (rK .i64)) out__6),.list true 4 (List.map (zA true) [])]),(9,.list true 1 (List.map (rK .i64) []))]⟩:=by
         refine zL [4,6,7] [.q 4 101 (.pl (.one (.v (.list false 1 (List.map (rL false 1 (rK .i64)) w.Parents))))) [],.q 6 103 (.pl (.one (.ba [.list false 1 (List.map (rK .i64) x_4)]))) [4],.q 7 104 (.pl (.one (.v (.list false 1 (List.map (rK .i64) x_4))))) [6],.m 8 [7,6,4] [0,1,2,3,4,5,6,7,8] []] [(4,101),(6,103),(7,104)] [(4,true,[],[]),(6,true,[4],[]),(7,true,[6],[]),(8,false,[7,6,4],[0,1,2,3,4,5,6,7,8])] ⟨?_,?_,?_,?_,trivial⟩
         ·refine zG 0 ⟨197,4,10,[(1,.pl (.one (.v (.list false 1 (List.map (rK .i64) parents))))),(3,.pl (.one (.ref 4 []))),(6,.pl (.one (.ref 5 []))),(9,.pl (.one (.v (.sc (.int .i64 (w.Parents.length:Int)))))),(12,.pl (.one (.ref 6 []))),(13,.pl (.one (.ref 7 []))),(16,.pl (.one (.ref 8 []))),(17,.pl (.one (.v (.sc (.int .i64 k_1))))),(98,.pl (.one (.ref 8 [(0,0,0)]))),(99,.pl (.one (.ref 9 []))),(100,.pl (.one (.addr 4 [] 0 0 0))),(102,.pl (.one (.v (.sc (.int .i64 k_1)))))],[(4,.box true [.list false 1 (List.map (rL false 1 (rK .i64)) w.Parents),.list false 4 (List.map (zA false) w.Bodies)]),(5,.box true [.list true 1 (List.map (rL true 1 (rK .i64)) []),.list true 4 (List.map (zA true) [])]),(6,.list true 1 (List.map (rL true 1 rS) behind)),(7,.list true 1 (List.map rB stays)),(8,.box true [.list true 1 (List.map (rL true 1 (rK .i64)) out__6),.list true 4 (List.map (zA true) [])]),(9,.list true 1 (List.map (rK .i64) []))]⟩ ?_
          refine ops H' ?_
          refine zD ⟨rfl,shd [101,1,3,6,9,12,13,16,17,98,99,100,102] [(4,4),(5,5),(6,6),(7,7),(8,8),(9,9)] 10 rfl⟩
         ·refine zG 1 ⟨197,4,10,[(101,.pl (.one (.v (.list false 1 (List.map (rL false 1 (rK .i64)) w.Parents))))),(1,.pl (.one (.v (.list false 1 (List.map (rK .i64) parents))))),(3,.pl (.one (.ref 4 []))),(6,.pl (.one (.ref 5 []))),(9,.pl (.one (.v (.sc (.int .i64 (w.Parents.length:Int)))))),(12,.pl (.one (.ref 6 []))),(13,.pl (.one (.ref 7 []))),(16,.pl (.one (.ref 8 []))),(17,.pl (.one (.v (.sc (.int .i64 k_1))))),(98,.pl (.one (.ref 8 [(0,0,0)]))),(99,.pl (.one (.ref 9 []))),(100,.pl (.one (.addr 4 [] 0 0 0))),(102,.pl (.one (.v (.sc (.int .i64 k_1)))))],[(4,.box true [.list false 1 (List.map (rL false 1 (rK .i64)) w.Parents),.list false 4 (List.map (zA false) w.Bodies)]),(5,.box true [.list true 1 (List.map (rL true 1 (rK .i64)) []),.list true 4 (List.map (zA true) [])]),(6,.list true 1 (List.map (rL true 1 rS) behind)),(7,.list true 1 (List.map rB stays)),(8,.box true [.list true 1 (List.map (rL true 1 (rK .i64)) out__6),.list true 4 (List.map (zA true) [])]),(9,.list true 1 (List.map (rK .i64) []))]⟩ ?_
          refine ops H' ?_
          refine zD ⟨rfl,shd [103,1,3,6,9,12,13,16,17,98,99,100,102] [(4,4),(5,5),(6,6),(7,7),(8,8),(9,9)] 10 rfl⟩
         ·refine zG 2 ⟨197,4,10,[(103,.pl (.one (.ba [.list false 1 (List.map (rK .i64) x_4)]))),(1,.pl (.one (.v (.list false 1 (List.map (rK .i64) parents))))),(3,.pl (.one (.ref 4 []))),(6,.pl (.one (.ref 5 []))),(9,.pl (.one (.v (.sc (.int .i64 (w.Parents.length:Int)))))),(12,.pl (.one (.ref 6 []))),(13,.pl (.one (.ref 7 []))),(16,.pl (.one (.ref 8 []))),(17,.pl (.one (.v (.sc (.int .i64 k_1))))),(98,.pl (.one (.ref 8 [(0,0,0)]))),(99,.pl (.one (.ref 9 []))),(100,.pl (.one (.addr 4 [] 0 0 0))),(102,.pl (.one (.v (.sc (.int .i64 k_1)))))],[(4,.box true [.list false 1 (List.map (rL false 1 (rK .i64)) w.Parents),.list false 4 (List.map (zA false) w.Bodies)]),(5,.box true [.list true 1 (List.map (rL true 1 (rK .i64)) []),.list true 4 (List.map (zA true) [])]),(6,.list true 1 (List.map (rL true 1 rS) behind)),(7,.list true 1 (List.map rB stays)),(8,.box true [.list true 1 (List.map (rL true 1 (rK .i64)) out__6),.list true 4 (List.map (zA true) [])]),(9,.list true 1 (List.map (rK .i64) []))]⟩ ?_
          refine ops H' ?_
          refine zD ⟨rfl,shd [104,1,3,6,9,12,13,16,17,98,99,100,102] [(4,4),(5,5),(6,6),(7,7),(8,8),(9,9)] 10 rfl⟩
         ·refine zM ⟨197,4,10,[(101,.pl (.one (.v (.list false 1 (List.map (rL false 1 (rK .i64)) w.Parents))))),(103,.pl (.one (.ba [.list false 1 (List.map (rK .i64) x_4)]))),(104,.pl (.one (.v (.list false 1 (List.map (rK .i64) x_4))))),(1,.pl (.one (.v (.list false 1 (List.map (rK .i64) parents))))),(3,.pl (.one (.ref 4 []))),(6,.pl (.one (.ref 5 []))),(9,.pl (.one (.v (.sc (.int .i64 (w.Parents.length:Int)))))),(12,.pl (.one (.ref 6 []))),(13,.pl (.one (.ref 7 []))),(16,.pl (.one (.ref 8 []))),(17,.pl (.one (.v (.sc (.int .i64 k_1))))),(98,.pl (.one (.ref 8 [(0,0,0)]))),(99,.pl (.one (.ref 9 []))),(100,.pl (.one (.addr 4 [] 0 0 0))),(102,.pl (.one (.v (.sc (.int .i64 k_1)))))],[(4,.box true [.list false 1 (List.map (rL false 1 (rK .i64)) w.Parents),.list false 4 (List.map (zA false) w.Bodies)]),(5,.box true [.list true 1 (List.map (rL true 1 (rK .i64)) []),.list true 4 (List.map (zA true) [])]),(6,.list true 1 (List.map (rL true 1 rS) behind)),(7,.list true 1 (List.map rB stays)),(8,.box true [.list true 1 (List.map (rL true 1 (rK .i64)) out__6),.list true 4 (List.map (zA true) [])]),(9,.list true 1 (List.map (rK .i64) []))]⟩ ?_
          refine ops H' ?_
          refine zD ⟨rfl,.inl ⟨rfl,?_⟩⟩
          exact zF [1,3,6,9,12,13,16,17,98,105] [(4,4),(5,5),(6,6),(7,7),(8,8),(9,9)] 10 d11'
        have d13':zK X ?o1 [0,1,3,5] [(4,101,.pl (.one (.v (.list false 1 (List.map (rL false 1 (rK .i64)) w.Parents))))),(6,103,.pl (.one (.ba [.list false 1 (List.map (rK .i64) x_4)]))),(7,104,.pl (.one (.v (.list false 1 (List.map (rK .i64) x_4)))))] ?P1 ⟨197,4,9,[(1,.pl (.one (.v (.list false 1 (List.map (rK .i64) parents))))),(3,.pl (.one (.ref 4 []))),(6,.pl (.one (.ref 5 []))),(9,.pl (.one (.v (.sc (.int .i64 (w.Parents.length:Int)))))),(12,.pl (.one (.ref 6 []))),(13,.pl (.one (.ref 7 []))),(16,.pl (.one (.ref 8 []))),(17,.pl (.one (.v (.sc (.int .i64 k_1))))),(98,.pl (.one (.ref 8 [(0,0,0)]))),(100,.pl (.one (.addr 4 [] 0 0 0))),(102,.pl (.one (.v (.sc (.int .i64 k_1)))))],[(4,.box true [.list false 1 (List.map (rL false 1 (rK .i64)) w.Parents),.list false 4 (List.map (zA false) w.Bodies)]),(5,.box true [.list true 1 (List.map (rL true 1 (rK .i64)) []),.list true 4 (List.map (zA true) [])]),(6,.list true 1 (List.map (rL true 1 rS) behind)),(7,.list true 1 (List.map rB stays)),(8,.box true [.list true 1 (List.map (rL true 1 (rK .i64)) out__6),.list true 4 (List.map (zA true) [])])]⟩:=by
         refine zL [4,6,7] [.q 4 101 (.pl (.one (.v (.list false 1 (List.map (rL false 1 (rK .i64)) w.Parents))))) [],.q 6 103 (.pl (.one (.ba [.list false 1 (List.map (rK .i64) x_4)]))) [4],.q 7 104 (.pl (.one (.v (.list false 1 (List.map (rK .i64) x_4))))) [6],.m 2 [] [0,1,2,3,5] [(4,101,.pl (.one (.v (.list false 1 (List.map (rL false 1 (rK .i64)) w.Parents))))),(6,103,.pl (.one (.ba [.list false 1 (List.map (rK .i64) x_4)]))),(7,104,.pl (.one (.v (.list false 1 (List.map (rK .i64) x_4)))))]] [(4,101),(6,103),(7,104)] [(4,true,[],[]),(6,true,[4],[]),(7,true,[6],[]),(2,false,[],[0,1,2,3,5])] ⟨?_,?_,?_,?_,trivial⟩
         ·refine zG 0 ⟨197,4,9,[(1,.pl (.one (.v (.list false 1 (List.map (rK .i64) parents))))),(3,.pl (.one (.ref 4 []))),(6,.pl (.one (.ref 5 []))),(9,.pl (.one (.v (.sc (.int .i64 (w.Parents.length:Int)))))),(12,.pl (.one (.ref 6 []))),(13,.pl (.one (.ref 7 []))),(16,.pl (.one (.ref 8 []))),(17,.pl (.one (.v (.sc (.int .i64 k_1))))),(98,.pl (.one (.ref 8 [(0,0,0)]))),(100,.pl (.one (.addr 4 [] 0 0 0))),(102,.pl (.one (.v (.sc (.int .i64 k_1)))))],[(4,.box true [.list false 1 (List.map (rL false 1 (rK .i64)) w.Parents),.list false 4 (List.map (zA false) w.Bodies)]),(5,.box true [.list true 1 (List.map (rL true 1 (rK .i64)) []),.list true 4 (List.map (zA true) [])]),(6,.list true 1 (List.map (rL true 1 rS) behind)),(7,.list true 1 (List.map rB stays)),(8,.box true [.list true 1 (List.map (rL true 1 (rK .i64)) out__6),.list true 4 (List.map (zA true) [])])]⟩ ?_
          refine ops H' ?_
          refine zD ⟨rfl,shd [101,1,3,6,9,12,13,16,17,98,100,102] [(4,4),(5,5),(6,6),(7,7),(8,8)] 9 rfl⟩
         ·refine zG 1 ⟨197,4,9,[(101,.pl (.one (.v (.list false 1 (List.map (rL false 1 (rK .i64)) w.Parents))))),(1,.pl (.one (.v (.list false 1 (List.map (rK .i64) parents))))),(3,.pl (.one (.ref 4 []))),(6,.pl (.one (.ref 5 []))),(9,.pl (.one (.v (.sc (.int .i64 (w.Parents.length:Int)))))),(12,.pl (.one (.ref 6 []))),(13,.pl (.one (.ref 7 []))),(16,.pl (.one (.ref 8 []))),(17,.pl (.one (.v (.sc (.int .i64 k_1))))),(98,.pl (.one (.ref 8 [(0,0,0)]))),(100,.pl (.one (.addr 4 [] 0 0 0))),(102,.pl (.one (.v (.sc (.int .i64 k_1)))))],[(4,.box true [.list false 1 (List.map (rL false 1 (rK .i64)) w.Parents),.list false 4 (List.map (zA false) w.Bodies)]),(5,.box true [.list true 1 (List.map (rL true 1 (rK .i64)) []),.list true 4 (List.map (zA true) [])]),(6,.list true 1 (List.map (rL true 1 rS) behind)),(7,.list true 1 (List.map rB stays)),(8,.box true [.list true 1 (List.map (rL true 1 (rK .i64)) out__6),.list true 4 (List.map (zA true) [])])]⟩ ?_
          refine ops H' ?_
          refine zD ⟨rfl,shd [103,1,3,6,9,12,13,16,17,98,100,102] [(4,4),(5,5),(6,6),(7,7),(8,8)] 9 rfl⟩
         ·refine zG 2 ⟨197,4,9,[(103,.pl (.one (.ba [.list false 1 (List.map (rK .i64) x_4)]))),(1,.pl (.one (.v (.list false 1 (List.map (rK .i64) parents))))),(3,.pl (.one (.ref 4 []))),(6,.pl (.one (.ref 5 []))),(9,.pl (.one (.v (.sc (.int .i64 (w.Parents.length:Int)))))),(12,.pl (.one (.ref 6 []))),(13,.pl (.one (.ref 7 []))),(16,.pl (.one (.ref 8 []))),(17,.pl (.one (.v (.sc (.int .i64 k_1))))),(98,.pl (.one (.ref 8 [(0,0,0)]))),(100,.pl (.one (.addr 4 [] 0 0 0))),(102,.pl (.one (.v (.sc (.int .i64 k_1)))))],[(4,.box true [.list false 1 (List.map (rL false 1 (rK .i64)) w.Parents),.list false 4 (List.map (zA false) w.Bodies)]),(5,.box true [.list true 1 (List.map (rL true 1 (rK .i64)) []),.list true 4 (List.map (zA true) [])]),(6,.list true 1 (List.map (rL true 1 rS) behind)),(7,.list true 1 (List.map rB stays)),(8,.box true [.list true 1 (List.map (rL true 1 (rK .i64)) out__6),.list true 4 (List.map (zA true) [])])]⟩ ?_
          refine ops H' ?_
          refine zD ⟨rfl,shd [104,1,3,6,9,12,13,16,17,98,100,102] [(4,4),(5,5),(6,6),(7,7),(8,8)] 9 rfl⟩
         ·refine zM ⟨197,4,9,[(1,.pl (.one (.v (.list false 1 (List.map (rK .i64) parents))))),(3,.pl (.one (.ref 4 []))),(6,.pl (.one (.ref 5 []))),(9,.pl (.one (.v (.sc (.int .i64 (w.Parents.length:Int)))))),(12,.pl (.one (.ref 6 []))),(13,.pl (.one (.ref 7 []))),(16,.pl (.one (.ref 8 []))),(17,.pl (.one (.v (.sc (.int .i64 k_1))))),(98,.pl (.one (.ref 8 [(0,0,0)]))),(100,.pl (.one (.addr 4 [] 0 0 0))),(102,.pl (.one (.v (.sc (.int .i64 k_1)))))],[(4,.box true [.list false 1 (List.map (rL false 1 (rK .i64)) w.Parents),.list false 4 (List.map (zA false) w.Bodies)]),(5,.box true [.list true 1 (List.map (rL true 1 (rK .i64)) []),.list true 4 (List.map (zA true) [])]),(6,.list true 1 (List.map (rL true 1 rS) behind)),(7,.list true 1 (List.map rB stays)),(8,.box true [.list true 1 (List.map (rL true 1 (rK .i64)) out__6),.list true 4 (List.map (zA true) [])])]⟩ ?_
          refine ops H' ?_
          refine zD ⟨rfl,.inl ⟨rfl,?_⟩⟩
          exact zF [1,3,6,9,12,13,16,17,98,99,100,102] [(4,4),(5,5),(6,6),(7,7),(8,8),(9,9)] 10 d12'
        have d14':zK X ?o1 [0,2,3,4,5,6,7,8,9] [] ?P1 ⟨197,4,10,[(1,.pl (.one (.v (.list false 1 (List.map (rK .i64) parents))))),(3,.pl (.one (.ref 4 []))),(6,.pl (.one (.ref 5 []))),(9,.pl (.one (.v (.sc (.int .i64 (w.Parents.length:Int)))))),(12,.pl (.one (.ref 6 []))),(13,.pl (.one (.ref 7 []))),(16,.pl (.one (.ref 8 []))),(17,.pl (.one (.v (.sc (.int .i64 k_1))))),(97,.pl (.one (.addr 8 [] 0 0 0))),(106,.pl (.one (.ref 9 [])))],[(4,.box true [.list false 1 (List.map (rL false 1 (rK .i64)) w.Parents),.list false 4 (List.map (zA false) w.Bodies)]),(5,.box true [.list true 1 (List.map (rL true 1 (rK .i64)) []),.list true 4 (List.map (zA true) [])]),(6,.list true 1 (List.map (rL true 1 rS) behind)),(7,.list true 1 (List.map rB stays)),(8,.box true [.list true 1 (List.map (rL true 1 (rK .i64)) out__6),.list true 4 (List.map (zA true) [])]),(9,.list true 1 (List.map (rL true 1 (rK .i64)) [l_6]))]⟩:=by
         refine zL [] [.m 1 [] [0,1,2,3,4,5,6,7,8,9] []] [] [(1,false,[],[0,1,2,3,4,5,6,7,8,9])] ⟨?_,trivial⟩
         ·refine zM ⟨197,4,10,[(1,.pl (.one (.v (.list false 1 (List.map (rK .i64) parents))))),(3,.pl (.one (.ref 4 []))),(6,.pl (.one (.ref 5 []))),(9,.pl (.one (.v (.sc (.int .i64 (w.Parents.length:Int)))))),(12,.pl (.one (.ref 6 []))),(13,.pl (.one (.ref 7 []))),(16,.pl (.one (.ref 8 []))),(17,.pl (.one (.v (.sc (.int .i64 k_1))))),(97,.pl (.one (.addr 8 [] 0 0 0))),(106,.pl (.one (.ref 9 [])))],[(4,.box true [.list false 1 (List.map (rL false 1 (rK .i64)) w.Parents),.list false 4 (List.map (zA false) w.Bodies)]),(5,.box true [.list true 1 (List.map (rL true 1 (rK .i64)) []),.list true 4 (List.map (zA true) [])]),(6,.list true 1 (List.map (rL true 1 rS) behind)),(7,.list true 1 (List.map rB stays)),(8,.box true [.list true 1 (List.map (rL true 1 (rK .i64)) out__6),.list true 4 (List.map (zA true) [])]),(9,.list true 1 (List.map (rL true 1 (rK .i64)) [l_6]))]⟩ ?_
          refine ops H' ?_
          refine zD ⟨rfl,.inl ⟨rfl,?_⟩⟩
          exact zF [1,3,6,9,12,13,16,17,98,106] [(4,4),(5,5),(6,6),(7,7),(8,8),(9,9)] 10 d10'
        have d15':zK X ?o1 [0,2,3,4,5,6,7,8] [] ?P1 ⟨197,4,10,[(1,.pl (.one (.v (.list false 1 (List.map (rK .i64) parents))))),(3,.pl (.one (.ref 4 []))),(6,.pl (.one (.ref 5 []))),(9,.pl (.one (.v (.sc (.int .i64 (w.Parents.length:Int)))))),(12,.pl (.one (.ref 6 []))),(13,.pl (.one (.ref 7 []))),(16,.pl (.one (.ref 8 []))),(17,.pl (.one (.v (.sc (.int .i64 k_1))))),(97,.pl (.one (.addr 8 [] 0 0 0))),(105,.pl (.one (.ref 9 [])))],[(4,.box true [.list false 1 (List.map (rL false 1 (rK .i64)) w.Parents),.list false 4 (List.map (zA false) w.Bodies)]),(5,.box true [.list true 1 (List.map (rL true 1 (rK .i64)) []),.list true 4 (List.map (zA true) [])]),(6,.list true 1 (List.map (rL true 1 rS) behind)),(7,.list true 1 (List.map rB stays)),(8,.box true [.list true 1 (List.map (rL true 1 (rK .i64)) out__6),.list true 4 (List.map (zA true) [])]),(9,.list true 1 (List.map (rK .i64) l_6))]⟩:=by
         refine zL [] [.m 1 [] [0,1,2,3,4,5,6,7,8] [],.m 9 [] [0,2,3,4,5,6,7,8,9] []] [] [(1,false,[],[0,1,2,3,4,5,6,7,8]),(9,false,[],[0,2,3,4,5,6,7,8,9])] ⟨?_,?_,trivial⟩
         ·refine zM ⟨197,4,10,[(1,.pl (.one (.v (.list false 1 (List.map (rK .i64) parents))))),(3,.pl (.one (.ref 4 []))),(6,.pl (.one (.ref 5 []))),(9,.pl (.one (.v (.sc (.int .i64 (w.Parents.length:Int)))))),(12,.pl (.one (.ref 6 []))),(13,.pl (.one (.ref 7 []))),(16,.pl (.one (.ref 8 []))),(17,.pl (.one (.v (.sc (.int .i64 k_1))))),(97,.pl (.one (.addr 8 [] 0 0 0))),(105,.pl (.one (.ref 9 [])))],[(4,.box true [.list false 1 (List.map (rL false 1 (rK .i64)) w.Parents),.list false 4 (List.map (zA false) w.Bodies)]),(5,.box true [.list true 1 (List.map (rL true 1 (rK .i64)) []),.list true 4 (List.map (zA true) [])]),(6,.list true 1 (List.map (rL true 1 rS) behind)),(7,.list true 1 (List.map rB stays)),(8,.box true [.list true 1 (List.map (rL true 1 (rK .i64)) out__6),.list true 4 (List.map (zA true) [])]),(9,.list true 1 (List.map (rK .i64) l_6))]⟩ ?_
          refine ops H' ?_
          refine zD ⟨rfl,.inl ⟨rfl,?_⟩⟩
          exact zF [1,3,6,9,12,13,16,17,98,105] [(4,4),(5,5),(6,6),(7,7),(8,8),(9,9)] 10 d11'
         ·refine zM ⟨197,4,10,[(1,.pl (.one (.v (.list false 1 (List.map (rK .i64) parents))))),(3,.pl (.one (.ref 4 []))),(6,.pl (.one (.ref 5 []))),(9,.pl (.one (.v (.sc (.int .i64 (w.Parents.length:Int)))))),(12,.pl (.one (.ref 6 []))),(13,.pl (.one (.ref 7 []))),(16,.pl (.one (.ref 8 []))),(17,.pl (.one (.v (.sc (.int .i64 k_1))))),(97,.pl (.one (.addr 8 [] 0 0 0))),(105,.pl (.one (.ref 9 [])))],[(4,.box true [.list false 1 (List.map (rL false 1 (rK .i64)) w.Parents),.list false 4 (List.map (zA false) w.Bodies)]),(5,.box true [.list true 1 (List.map (rL true 1 (rK .i64)) []),.list true 4 (List.map (zA true) [])]),(6,.list true 1 (List.map (rL true 1 rS) behind)),(7,.list true 1 (List.map rB stays)),(8,.box true [.list true 1 (List.map (rL true 1 (rK .i64)) out__6),.list true 4 (List.map (zA true) [])]),(9,.list true 1 (List.map (rK .i64) l_6))]⟩ ?_
          refine ops H' ?_
          refine zD ⟨rfl,.inl ⟨rfl,?_⟩⟩
          exact zF [1,3,6,9,12,13,16,17,97,106] [(4,4),(5,5),(6,6),(7,7),(8,8),(10,9)] 10 d14'
        have d16':zK X ?o1 [0,2,3,5] [(4,101,.pl (.one (.v (.list false 1 (List.map (rL false 1 (rK .i64)) w.Parents))))),(6,103,.pl (.one (.ba [.list false 1 (List.map (rK .i64) x_4)]))),(7,104,.pl (.one (.v (.list false 1 (List.map (rK .i64) x_4)))))] ?P1 ⟨197,4,10,[(1,.pl (.one (.v (.list false 1 (List.map (rK .i64) parents))))),(3,.pl (.one (.ref 4 []))),(6,.pl (.one (.ref 5 []))),(9,.pl (.one (.v (.sc (.int .i64 (w.Parents.length:Int)))))),(12,.pl (.one (.ref 6 []))),(13,.pl (.one (.ref 7 []))),(16,.pl (.one (.ref 8 []))),(17,.pl (.one (.v (.sc (.int .i64 k_1))))),(97,.pl (.one (.addr 8 [] 0 0 0))),(99,.pl (.one (.ref 9 []))),(100,.pl (.one (.addr 4 [] 0 0 0))),(102,.pl (.one (.v (.sc (.int .i64 k_1)))))],[(4,.box true [.list false 1 (List.map (rL false 1 (rK .i64)) w.Parents),.list false 4 (List.map (zA false) w.Bodies)]),(5,.box true [.list true 1 (List.map (rL true 1 (rK .i64)) []),.list true 4 (List.map (zA true) [])]),(6,.list true 1 (List.map (rL true 1 rS) behind)),(7,.list true 1 (List.map rB stays)),(8,.box true [.list true 1 (List.map (rL true 1 (rK .i64)) out__6),.list true 4 (List.map (zA true) [])]),(9,.list true 1 (List.map (rK .i64) []))]⟩:=by
         refine zL [4,6,7] [.q 4 101 (.pl (.one (.v (.list false 1 (List.map (rL false 1 (rK .i64)) w.Parents))))) [],.q 6 103 (.pl (.one (.ba [.list false 1 (List.map (rK .i64) x_4)]))) [4],.q 7 104 (.pl (.one (.v (.list false 1 (List.map (rK .i64) x_4))))) [6],.m 1 [] [0,1,2,3,5] [(4,101,.pl (.one (.v (.list false 1 (List.map (rL false 1 (rK .i64)) w.Parents))))),(6,103,.pl (.one (.ba [.list false 1 (List.map (rK .i64) x_4)]))),(7,104,.pl (.one (.v (.list false 1 (List.map (rK .i64) x_4)))))],.m 8 [7,6,4] [0,2,3,4,5,6,7,8] []] [(4,101),(6,103),(7,104)] [(4,true,[],[]),(6,true,[4],[]),(7,true,[6],[]),(1,false,[],[0,1,2,3,5]),(8,false,[7,6,4],[0,2,3,4,5,6,7,8])] ⟨?_,?_,?_,?_,?_,trivial⟩
         ·refine zG 0 ⟨197,4,10,[(1,.pl (.one (.v (.list false 1 (List.map (rK .i64) parents))))),(3,.pl (.one (.ref 4 []))),(6,.pl (.one (.ref 5 []))),(9,.pl (.one (.v (.sc (.int .i64 (w.Parents.length:Int)))))),(12,.pl (.one (.ref 6 []))),(13,.pl (.one (.ref 7 []))),(16,.pl (.one (.ref 8 []))),(17,.pl (.one (.v (.sc (.int .i64 k_1))))),(97,.pl (.one (.addr 8 [] 0 0 0))),(99,.pl (.one (.ref 9 []))),(100,.pl (.one (.addr 4 [] 0 0 0))),(102,.pl (.one (.v (.sc (.int .i64 k_1)))))],[(4,.box true [.list false 1 (List.map (rL false 1 (rK .i64)) w.Parents),.list false 4 (List.map (zA false) w.Bodies)]),(5,.box true [.list true 1 (List.map (rL true 1 (rK .i64)) []),.list true 4 (List.map (zA true) [])]),(6,.list true 1 (List.map (rL true 1 rS) behind)),(7,.list true 1 (List.map rB stays)),(8,.box true [.list true 1 (List.map (rL true 1 (rK .i64)) out__6),.list true 4 (List.map (zA true) [])]),(9,.list true 1 (List.map (rK .i64) []))]⟩ ?_
          refine ops H' ?_
          refine zD ⟨rfl,shd [101,1,3,6,9,12,13,16,17,97,99,100,102] [(4,4),(5,5),(6,6),(7,7),(8,8),(9,9)] 10 rfl⟩
         ·refine zG 1 ⟨197,4,10,[(101,.pl (.one (.v (.list false 1 (List.map (rL false 1 (rK .i64)) w.Parents))))),(1,.pl (.one (.v (.list false 1 (List.map (rK .i64) parents))))),(3,.pl (.one (.ref 4 []))),(6,.pl (.one (.ref 5 []))),(9,.pl (.one (.v (.sc (.int .i64 (w.Parents.length:Int)))))),(12,.pl (.one (.ref 6 []))),(13,.pl (.one (.ref 7 []))),(16,.pl (.one (.ref 8 []))),(17,.pl (.one (.v (.sc (.int .i64 k_1))))),(97,.pl (.one (.addr 8 [] 0 0 0))),(99,.pl (.one (.ref 9 []))),(100,.pl (.one (.addr 4 [] 0 0 0))),(102,.pl (.one (.v (.sc (.int .i64 k_1)))))],[(4,.box true [.list false 1 (List.map (rL false 1 (rK .i64)) w.Parents),.list false 4 (List.map (zA false) w.Bodies)]),(5,.box true [.list true 1 (List.map (rL true 1 (rK .i64)) []),.list true 4 (List.map (zA true) [])]),(6,.list true 1 (List.map (rL true 1 rS) behind)),(7,.list true 1 (List.map rB stays)),(8,.box true [.list true 1 (List.map (rL true 1 (rK .i64)) out__6),.list true 4 (List.map (zA true) [])]),(9,.list true 1 (List.map (rK .i64) []))]⟩ ?_
          refine ops H' ?_
          refine zD ⟨rfl,shd [103,1,3,6,9,12,13,16,17,97,99,100,102] [(4,4),(5,5),(6,6),(7,7),(8,8),(9,9)] 10 rfl⟩
         ·refine zG 2 ⟨197,4,10,[(103,.pl (.one (.ba [.list false 1 (List.map (rK .i64) x_4)]))),(1,.pl (.one (.v (.list false 1 (List.map (rK .i64) parents))))),(3,.pl (.one (.ref 4 []))),(6,.pl (.one (.ref 5 []))),(9,.pl (.one (.v (.sc (.int .i64 (w.Parents.length:Int)))))),(12,.pl (.one (.ref 6 []))),(13,.pl (.one (.ref 7 []))),(16,.pl (.one (.ref 8 []))),(17,.pl (.one (.v (.sc (.int .i64 k_1))))),(97,.pl (.one (.addr 8 [] 0 0 0))),(99,.pl (.one (.ref 9 []))),(100,.pl (.one (.addr 4 [] 0 0 0))),(102,.pl (.one (.v (.sc (.int .i64 k_1)))))],[(4,.box true [.list false 1 (List.map (rL false 1 (rK .i64)) w.Parents),.list false 4 (List.map (zA false) w.Bodies)]),(5,.box true [.list true 1 (List.map (rL true 1 (rK .i64)) []),.list true 4 (List.map (zA true) [])]),(6,.list true 1 (List.map (rL true 1 rS) behind)),(7,.list true 1 (List.map rB stays)),(8,.box true [.list true 1 (List.map (rL true 1 (rK .i64)) out__6),.list true 4 (List.map (zA true) [])]),(9,.list true 1 (List.map (rK .i64) []))]⟩ ?_
          refine ops H' ?_
          refine zD ⟨rfl,shd [104,1,3,6,9,12,13,16,17,97,99,100,102] [(4,4),(5,5),(6,6),(7,7),(8,8),(9,9)] 10 rfl⟩
         ·refine zM ⟨197,4,10,[(1,.pl (.one (.v (.list false 1 (List.map (rK .i64) parents))))),(3,.pl (.one (.ref 4 []))),(6,.pl (.one (.ref 5 []))),(9,.pl (.one (.v (.sc (.int .i64 (w.Parents.length:Int)))))),(12,.pl (.one (.ref 6 []))),(13,.pl (.one (.ref 7 []))),(16,.pl (.one (.ref 8 []))),(17,.pl (.one (.v (.sc (.int .i64 k_1))))),(97,.pl (.one (.addr 8 [] 0 0 0))),(99,.pl (.one (.ref 9 []))),(100,.pl (.one (.addr 4 [] 0 0 0))),(102,.pl (.one (.v (.sc (.int .i64 k_1)))))],[(4,.box true [.list false 1 (List.map (rL false 1 (rK .i64)) w.Parents),.list false 4 (List.map (zA false) w.Bodies)]),(5,.box true [.list true 1 (List.map (rL true 1 (rK .i64)) []),.list true 4 (List.map (zA true) [])]),(6,.list true 1 (List.map (rL true 1 rS) behind)),(7,.list true 1 (List.map rB stays)),(8,.box true [.list true 1 (List.map (rL true 1 (rK .i64)) out__6),.list true 4 (List.map (zA true) [])]),(9,.list true 1 (List.map (rK .i64) []))]⟩ ?_
          refine ops H' ?_
          refine zD ⟨rfl,.inl ⟨rfl,?_⟩⟩
          exact zF [1,3,6,9,12,13,16,17,98,99,100,102] [(4,4),(5,5),(6,6),(7,7),(8,8),(9,9)] 10 d12'
         ·refine zM ⟨197,4,10,[(101,.pl (.one (.v (.list false 1 (List.map (rL false 1 (rK .i64)) w.Parents))))),(103,.pl (.one (.ba [.list false 1 (List.map (rK .i64) x_4)]))),(104,.pl (.one (.v (.list false 1 (List.map (rK .i64) x_4))))),(1,.pl (.one (.v (.list false 1 (List.map (rK .i64) parents))))),(3,.pl (.one (.ref 4 []))),(6,.pl (.one (.ref 5 []))),(9,.pl (.one (.v (.sc (.int .i64 (w.Parents.length:Int)))))),(12,.pl (.one (.ref 6 []))),(13,.pl (.one (.ref 7 []))),(16,.pl (.one (.ref 8 []))),(17,.pl (.one (.v (.sc (.int .i64 k_1))))),(97,.pl (.one (.addr 8 [] 0 0 0))),(99,.pl (.one (.ref 9 []))),(100,.pl (.one (.addr 4 [] 0 0 0))),(102,.pl (.one (.v (.sc (.int .i64 k_1)))))],[(4,.box true [.list false 1 (List.map (rL false 1 (rK .i64)) w.Parents),.list false 4 (List.map (zA false) w.Bodies)]),(5,.box true [.list true 1 (List.map (rL true 1 (rK .i64)) []),.list true 4 (List.map (zA true) [])]),(6,.list true 1 (List.map (rL true 1 rS) behind)),(7,.list true 1 (List.map rB stays)),(8,.box true [.list true 1 (List.map (rL true 1 (rK .i64)) out__6),.list true 4 (List.map (zA true) [])]),(9,.list true 1 (List.map (rK .i64) []))]⟩ ?_
          refine ops H' ?_
          refine zD ⟨rfl,.inl ⟨rfl,?_⟩⟩
          exact zF [1,3,6,9,12,13,16,17,97,105] [(4,4),(5,5),(6,6),(7,7),(8,8),(9,9)] 10 d15'
        have d17':zK X ?o1 [0,3,5] [(4,101,.pl (.one (.v (.list false 1 (List.map (rL false 1 (rK .i64)) w.Parents))))),(6,103,.pl (.one (.ba [.list false 1 (List.map (rK .i64) x_4)]))),(7,104,.pl (.one (.v (.list false 1 (List.map (rK .i64) x_4)))))] ?P1 ⟨197,4,9,[(1,.pl (.one (.v (.list false 1 (List.map (rK .i64) parents))))),(3,.pl (.one (.ref 4 []))),(6,.pl (.one (.ref 5 []))),(9,.pl (.one (.v (.sc (.int .i64 (w.Parents.length:Int)))))),(12,.pl (.one (.ref 6 []))),(13,.pl (.one (.ref 7 []))),(16,.pl (.one (.ref 8 []))),(17,.pl (.one (.v (.sc (.int .i64 k_1))))),(97,.pl (.one (.addr 8 [] 0 0 0))),(100,.pl (.one (.addr 4 [] 0 0 0))),(102,.pl (.one (.v (.sc (.int .i64 k_1)))))],[(4,.box true [.list false 1 (List.map (rL false 1 (rK .i64)) w.Parents),.list false 4 (List.map (zA false) w.Bodies)]),(5,.box true [.list true 1 (List.map (rL true 1 (rK .i64)) []),.list true 4 (List.map (zA true) [])]),(6,.list true 1 (List.map (rL true 1 rS) behind)),(7,.list true 1 (List.map rB stays)),(8,.box true [.list true 1 (List.map (rL true 1 (rK .i64)) out__6),.list true 4 (List.map (zA true) [])])]⟩:=by
         refine zL [4,6,7] [.q 4 101 (.pl (.one (.v (.list false 1 (List.map (rL false 1 (rK .i64)) w.Parents))))) [],.q 6 103 (.pl (.one (.ba [.list false 1 (List.map (rK .i64) x_4)]))) [4],.q 7 104 (.pl (.one (.v (.list false 1 (List.map (rK .i64) x_4))))) [6],.m 1 [] [0,1,3,5] [(4,101,.pl (.one (.v (.list false 1 (List.map (rL false 1 (rK .i64)) w.Parents))))),(6,103,.pl (.one (.ba [.list false 1 (List.map (rK .i64) x_4)]))),(7,104,.pl (.one (.v (.list false 1 (List.map (rK .i64) x_4)))))],.m 2 [] [0,2,3,5] [(4,101,.pl (.one (.v (.list false 1 (List.map (rL false 1 (rK .i64)) w.Parents))))),(6,103,.pl (.one (.ba [.list false 1 (List.map (rK .i64) x_4)]))),(7,104,.pl (.one (.v (.list false 1 (List.map (rK .i64) x_4)))))]] [(4,101),(6,103),(7,104)] [(4,true,[],[]),(6,true,[4],[]),(7,true,[6],[]),(1,false,[],[0,1,3,5]),(2,false,[],[0,2,3,5])] ⟨?_,?_,?_,?_,?_,trivial⟩
         ·refine zG 0 ⟨197,4,9,[(1,.pl (.one (.v (.list false 1 (List.map (rK .i64) parents))))),(3,.pl (.one (.ref 4 []))),(6,.pl (.one (.ref 5 []))),(9,.pl (.one (.v (.sc (.int .i64 (w.Parents.length:Int)))))),(12,.pl (.one (.ref 6 []))),(13,.pl (.one (.ref 7 []))),(16,.pl (.one (.ref 8 []))),(17,.pl (.one (.v (.sc (.int .i64 k_1))))),(97,.pl (.one (.addr 8 [] 0 0 0))),(100,.pl (.one (.addr 4 [] 0 0 0))),(102,.pl (.one (.v (.sc (.int .i64 k_1)))))],[(4,.box true [.list false 1 (List.map (rL false 1 (rK .i64)) w.Parents),.list false 4 (List.map (zA false) w.Bodies)]),(5,.box true [.list true 1 (List.map (rL true 1 (rK .i64)) []),.list true 4 (List.map (zA true) [])]),(6,.list true 1 (List.map (rL true 1 rS) behind)),(7,.list true 1 (List.map rB stays)),(8,.box true [.list true 1 (List.map (rL true 1 (rK .i64)) out__6),.list true 4 (List.map (zA true) [])])]⟩ ?_
          refine ops H' ?_
          refine zD ⟨rfl,shd [101,1,3,6,9,12,13,16,17,97,100,102] [(4,4),(5,5),(6,6),(7,7),(8,8)] 9 rfl⟩
         ·refine zG 1 ⟨197,4,9,[(101,.pl (.one (.v (.list false 1 (List.map (rL false 1 (rK .i64)) w.Parents))))),(1,.pl (.one (.v (.list false 1 (List.map (rK .i64) parents))))),(3,.pl (.one (.ref 4 []))),(6,.pl (.one (.ref 5 []))),(9,.pl (.one (.v (.sc (.int .i64 (w.Parents.length:Int)))))),(12,.pl (.one (.ref 6 []))),(13,.pl (.one (.ref 7 []))),(16,.pl (.one (.ref 8 []))),(17,.pl (.one (.v (.sc (.int .i64 k_1))))),(97,.pl (.one (.addr 8 [] 0 0 0))),(100,.pl (.one (.addr 4 [] 0 0 0))),(102,.pl (.one (.v (.sc (.int .i64 k_1)))))],[(4,.box true [.list false 1 (List.map (rL false 1 (rK .i64)) w.Parents),.list false 4 (List.map (zA false) w.Bodies)]),(5,.box true [.list true 1 (List.map (rL true 1 (rK .i64)) []),.list true 4 (List.map (zA true) [])]),(6,.list true 1 (List.map (rL true 1 rS) behind)),(7,.list true 1 (List.map rB stays)),(8,.box true [.list true 1 (List.map (rL true 1 (rK .i64)) out__6),.list true 4 (List.map (zA true) [])])]⟩ ?_
          refine ops H' ?_
          refine zD ⟨rfl,shd [103,1,3,6,9,12,13,16,17,97,100,102] [(4,4),(5,5),(6,6),(7,7),(8,8)] 9 rfl⟩
         ·refine zG 2 ⟨197,4,9,[(103,.pl (.one (.ba [.list false 1 (List.map (rK .i64) x_4)]))),(1,.pl (.one (.v (.list false 1 (List.map (rK .i64) parents))))),(3,.pl (.one (.ref 4 []))),(6,.pl (.one (.ref 5 []))),(9,.pl (.one (.v (.sc (.int .i64 (w.Parents.length:Int)))))),(12,.pl (.one (.ref 6 []))),(13,.pl (.one (.ref 7 []))),(16,.pl (.one (.ref 8 []))),(17,.pl (.one (.v (.sc (.int .i64 k_1))))),(97,.pl (.one (.addr 8 [] 0 0 0))),(100,.pl (.one (.addr 4 [] 0 0 0))),(102,.pl (.one (.v (.sc (.int .i64 k_1)))))],[(4,.box true [.list false 1 (List.map (rL false 1 (rK .i64)) w.Parents),.list false 4 (List.map (zA false) w.Bodies)]),(5,.box true [.list true 1 (List.map (rL true 1 (rK .i64)) []),.list true 4 (List.map (zA true) [])]),(6,.list true 1 (List.map (rL true 1 rS) behind)),(7,.list true 1 (List.map rB stays)),(8,.box true [.list true 1 (List.map (rL true 1 (rK .i64)) out__6),.list true 4 (List.map (zA true) [])])]⟩ ?_
          refine ops H' ?_
          refine zD ⟨rfl,shd [104,1,3,6,9,12,13,16,17,97,100,102] [(4,4),(5,5),(6,6),(7,7),(8,8)] 9 rfl⟩
         ·refine zM ⟨197,4,9,[(1,.pl (.one (.v (.list false 1 (List.map (rK .i64) parents))))),(3,.pl (.one (.ref 4 []))),(6,.pl (.one (.ref 5 []))),(9,.pl (.one (.v (.sc (.int .i64 (w.Parents.length:Int)))))),(12,.pl (.one (.ref 6 []))),(13,.pl (.one (.ref 7 []))),(16,.pl (.one (.ref 8 []))),(17,.pl (.one (.v (.sc (.int .i64 k_1))))),(97,.pl (.one (.addr 8 [] 0 0 0))),(100,.pl (.one (.addr 4 [] 0 0 0))),(102,.pl (.one (.v (.sc (.int .i64 k_1)))))],[(4,.box true [.list false 1 (List.map (rL false 1 (rK .i64)) w.Parents),.list false 4 (List.map (zA false) w.Bodies)]),(5,.box true [.list true 1 (List.map (rL true 1 (rK .i64)) []),.list true 4 (List.map (zA true) [])]),(6,.list true 1 (List.map (rL true 1 rS) behind)),(7,.list true 1 (List.map rB stays)),(8,.box true [.list true 1 (List.map (rL true 1 (rK .i64)) out__6),.list true 4 (List.map (zA true) [])])]⟩ ?_
          refine ops H' ?_
          refine zD ⟨rfl,.inl ⟨rfl,?_⟩⟩
          exact zF [1,3,6,9,12,13,16,17,98,100,102] [(4,4),(5,5),(6,6),(7,7),(8,8)] 9 d13'
         ·refine zM ⟨197,4,9,[(1,.pl (.one (.v (.list false 1 (List.map (rK .i64) parents))))),(3,.pl (.one (.ref 4 []))),(6,.pl (.one (.ref 5 []))),(9,.pl (.one (.v (.sc (.int .i64 (w.Parents.length:Int)))))),(12,.pl (.one (.ref 6 []))),(13,.pl (.one (.ref 7 []))),(16,.pl (.one (.ref 8 []))),(17,.pl (.one (.v (.sc (.int .i64 k_1))))),(97,.pl (.one (.addr 8 [] 0 0 0))),(100,.pl (.one (.addr 4 [] 0 0 0))),(102,.pl (.one (.v (.sc (.int .i64 k_1)))))],[(4,.box true [.list false 1 (List.map (rL false 1 (rK .i64)) w.Parents),.list false 4 (List.map (zA false) w.Bodies)]),(5,.box true [.list true 1 (List.map (rL true 1 (rK .i64)) []),.list true 4 (List.map (zA true) [])]),(6,.list true 1 (List.map (rL true 1 rS) behind)),(7,.list true 1 (List.map rB stays)),(8,.box true [.list true 1 (List.map (rL true 1 (rK .i64)) out__6),.list true 4 (List.map (zA true) [])])]⟩ ?_
          refine ops H' ?_
          refine zD ⟨rfl,.inl ⟨rfl,?_⟩⟩
          exact zF [1,3,6,9,12,13,16,17,97,99,100,102] [(4,4),(5,5),(6,6),(7,7),(8,8),(9,9)] 10 d16'
        refine fpure H' 0 [0] [(4,101),(6,103),(7,104)] ?_
        refine fpure H' 3 [0,3] [(4,101),(6,103),(7,104)] ?_
        refine fpure H' 5 [0,3,5] [(4,101),(6,103),(7,104)] ?_
        exact zF [1,3,6,9,12,13,16,17,97,100,102] [(4,4),(5,5),(6,6),(7,7),(8,8)] 9 d17'
       ·rintro e' rfl
        refine contN ?_
        refine zB ?_
        refine ops H' ?_
        refine zE ?_
        obtain rfl:=zso h1'
        exact shd [1,3,6,9,12,13,16,17] [(4,4),(5,5),(6,6),(7,7),(8,8)] 9 ⟨_,rfl,_,_,rfl,rfl⟩
      ·replace h1':=(ifF hc').symm.trans h1'
       refine exitN ?_
       obtain rfl:=zso h1'
       refine ⟨_,rfl,fun hr'=>?_⟩
       subst hr'
       exact shd [1,3,6,9,12,13,16] [(4,4),(5,5),(6,6),(7,7),(8,8)] 9 ⟨_,h0',rfl⟩
     ·rintro e' ⟨out_,h0',rfl⟩
      unfold spec_l06Add_j2 at h0'
      refine zC ?_
      obtain ⟨l,hv',h0'⟩:=zbi h0'
      have H':=And.intro (appz_f (rK .i64) hv') H'
      obtain ⟨l_1,hv',h0'⟩:=zbi h0'
      have H':=And.intro (app1_f hv') H'
      refine wpV_J (fun e'=>e'=⟨197,4,9,[(1,.pl (.one (.v (.list false 1 (List.map (rK .i64) parents))))),(3,.pl (.one (.ref 4 []))),(6,.pl (.one (.ref 5 []))),(9,.pl (.one (.v (.sc (.int .i64 (w.Parents.length:Int)))))),(12,.pl (.one (.ref 6 []))),(13,.pl (.one (.ref 7 []))),(16,.pl (.one (.ref 8 [])))],[(4,.box true [.list false 1 (List.map (rL false 1 (rK .i64)) w.Parents),.list false 4 (List.map (zA false) w.Bodies)]),(5,.box true [.list true 1 (List.map (rL true 1 (rK .i64)) []),.list true 4 (List.map (zA true) [])]),(6,.list true 1 (List.map (rL true 1 rS) behind)),(7,.list true 1 (List.map rB stays)),(8,.box true [.list true 1 (List.map (rL true 1 (rK .i64)) l_1),.list true 4 (List.map (zA true) [])])]⟩) ?_ ?_
      ·refine regAnyF [] ?_
       refine (?_:zK X ?o2 _ _ ?P2 _)
       have d18':zK X ?o2 [0,1,2,3,4,5,6,7,8] [] ?P2 ⟨197,4,9,[(1,.pl (.one (.v (.list false 1 (List.map (rK .i64) parents))))),(3,.pl (.one (.ref 4 []))),(6,.pl (.one (.ref 5 []))),(9,.pl (.one (.v (.sc (.int .i64 (w.Parents.length:Int)))))),(12,.pl (.one (.ref 6 []))),(13,.pl (.one (.ref 7 []))),(16,.pl (.one (.ref 8 [])))],[(4,.box true [.list false 1 (List.map (rL false 1 (rK .i64)) w.Parents),.list false 4 (List.map (zA false) w.Bodies)]),(5,.box true [.list true 1 (List.map (rL true 1 (rK .i64)) []),.list true 4 (List.map (zA true) [])]),(6,.list true 1 (List.map (rL true 1 rS) behind)),(7,.list true 1 (List.map rB stays)),(8,.box true [.list true 1 (List.map (rL true 1 (rK .i64)) l_1),.list true 4 (List.map (zA true) [])])]⟩:=by
        refine fend (e2:=⟨197,4,9,[(1,.pl (.one (.v (.list false 1 (List.map (rK .i64) parents))))),(3,.pl (.one (.ref 4 []))),(6,.pl (.one (.ref 5 []))),(9,.pl (.one (.v (.sc (.int .i64 (w.Parents.length:Int)))))),(12,.pl (.one (.ref 6 []))),(13,.pl (.one (.ref 7 []))),(16,.pl (.one (.ref 8 [])))],[(4,.box true [.list false 1 (List.map (rL false 1 (rK .i64)) w.Parents),.list false 4 (List.map (zA false) w.Bodies)]),(5,.box true [.list true 1 (List.map (rL true 1 (rK .i64)) []),.list true 4 (List.map (zA true) [])]),(6,.list true 1 (List.map (rL true 1 rS) behind)),(7,.list true 1 (List.map rB stays)),(8,.box true [.list true 1 (List.map (rL true 1 (rK .i64)) l_1),.list true 4 (List.map (zA true) [])])]⟩) [] [] [] [] trivial ⟨rfl,shd [1,3,6,9,12,13,16] [(4,4),(5,5),(6,6),(7,7),(8,8)] 9 rfl⟩
       have d19':zK X ?o2 [0,1,2,3,4,5,6,7] [] ?P2 ⟨197,4,10,[(1,.pl (.one (.v (.list false 1 (List.map (rK .i64) parents))))),(3,.pl (.one (.ref 4 []))),(6,.pl (.one (.ref 5 []))),(9,.pl (.one (.v (.sc (.int .i64 (w.Parents.length:Int)))))),(12,.pl (.one (.ref 6 []))),(13,.pl (.one (.ref 7 []))),(16,.pl (.one (.ref 8 []))),(115,.pl (.one (.ref 9 []))),(116,.pl (.one (.addr 8 [] 0 0 0)))],[(4,.box true [.list false 1 (List.map (rL false 1 (rK .i64)) w.Parents),.list false 4 (List.map (zA false) w.Bodies)]),(5,.box true [.list true 1 (List.map (rL true 1 (rK .i64)) []),.list true 4 (List.map (zA true) [])]),(6,.list true 1 (List.map (rL true 1 rS) behind)),(7,.list true 1 (List.map rB stays)),(8,.box true [.dead,.list true 4 (List.map (zA true) [])]),(9,.list true 1 (List.map (rL true 1 (rK .i64)) l_1))]⟩:=by
        refine zL [] [.m 8 [] [0,1,2,3,4,5,6,7,8] []] [] [(8,false,[],[0,1,2,3,4,5,6,7,8])] ⟨?_,trivial⟩
        ·refine zM ⟨197,4,10,[(1,.pl (.one (.v (.list false 1 (List.map (rK .i64) parents))))),(3,.pl (.one (.ref 4 []))),(6,.pl (.one (.ref 5 []))),(9,.pl (.one (.v (.sc (.int .i64 (w.Parents.length:Int)))))),(12,.pl (.one (.ref 6 []))),(13,.pl (.one (.ref 7 []))),(16,.pl (.one (.ref 8 []))),(115,.pl (.one (.ref 9 []))),(116,.pl (.one (.addr 8 [] 0 0 0)))],[(4,.box true [.list false 1 (List.map (rL false 1 (rK .i64)) w.Parents),.list false 4 (List.map (zA false) w.Bodies)]),(5,.box true [.list true 1 (List.map (rL true 1 (rK .i64)) []),.list true 4 (List.map (zA true) [])]),(6,.list true 1 (List.map (rL true 1 rS) behind)),(7,.list true 1 (List.map rB stays)),(8,.box true [.dead,.list true 4 (List.map (zA true) [])]),(9,.list true 1 (List.map (rL true 1 (rK .i64)) l_1))]⟩ ?_
         refine ops H' ?_
         refine zD ⟨rfl,.inl ⟨rfl,?_⟩⟩
         exact zF [1,3,6,9,12,13,16] [(4,4),(5,5),(6,6),(7,7),(8,8)] 9 d18'
       have d20':zK X ?o2 [0,1,2,3,4,5,6] [] ?P2 ⟨197,4,10,[(1,.pl (.one (.v (.list false 1 (List.map (rK .i64) parents))))),(3,.pl (.one (.ref 4 []))),(6,.pl (.one (.ref 5 []))),(9,.pl (.one (.v (.sc (.int .i64 (w.Parents.length:Int)))))),(12,.pl (.one (.ref 6 []))),(13,.pl (.one (.ref 7 []))),(16,.pl (.one (.ref 8 []))),(115,.pl (.one (.ref 9 [])))],[(4,.box true [.list false 1 (List.map (rL false 1 (rK .i64)) w.Parents),.list false 4 (List.map (zA false) w.Bodies)]),(5,.box true [.list true 1 (List.map (rL true 1 (rK .i64)) []),.list true 4 (List.map (zA true) [])]),(6,.list true 1 (List.map (rL true 1 rS) behind)),(7,.list true 1 (List.map rB stays)),(8,.box true [.dead,.list true 4 (List.map (zA true) [])]),(9,.list true 1 (List.map (rL true 1 (rK .i64)) l_1))]⟩:=by
        refine zL [] [.m 7 [] [0,1,2,3,4,5,6,7] []] [] [(7,false,[],[0,1,2,3,4,5,6,7])] ⟨?_,trivial⟩
        ·refine zM ⟨197,4,10,[(1,.pl (.one (.v (.list false 1 (List.map (rK .i64) parents))))),(3,.pl (.one (.ref 4 []))),(6,.pl (.one (.ref 5 []))),(9,.pl (.one (.v (.sc (.int .i64 (w.Parents.length:Int)))))),(12,.pl (.one (.ref 6 []))),(13,.pl (.one (.ref 7 []))),(16,.pl (.one (.ref 8 []))),(115,.pl (.one (.ref 9 [])))],[(4,.box true [.list false 1 (List.map (rL false 1 (rK .i64)) w.Parents),.list false 4 (List.map (zA false) w.Bodies)]),(5,.box true [.list true 1 (List.map (rL true 1 (rK .i64)) []),.list true 4 (List.map (zA true) [])]),(6,.list true 1 (List.map (rL true 1 rS) behind)),(7,.list true 1 (List.map rB stays)),(8,.box true [.dead,.list true 4 (List.map (zA true) [])]),(9,.list true 1 (List.map (rL true 1 (rK .i64)) l_1))]⟩ ?_
         refine ops H' ?_
         refine zD ⟨rfl,.inl ⟨rfl,?_⟩⟩
         exact zF [1,3,6,9,12,13,16,115,116] [(4,4),(5,5),(6,6),(7,7),(8,8),(9,9)] 10 d19'
       have d21':zK X ?o2 [0,1,2,3,4,5] [] ?P2 ⟨197,4,10,[(1,.pl (.one (.v (.list false 1 (List.map (rK .i64) parents))))),(3,.pl (.one (.ref 4 []))),(6,.pl (.one (.ref 5 []))),(9,.pl (.one (.v (.sc (.int .i64 (w.Parents.length:Int)))))),(12,.pl (.one (.ref 6 []))),(13,.pl (.one (.ref 7 []))),(16,.pl (.one (.ref 8 []))),(110,.pl (.one (.ref 8 [(0,0,0)]))),(114,.pl (.one (.ref 9 [])))],[(4,.box true [.list false 1 (List.map (rL false 1 (rK .i64)) w.Parents),.list false 4 (List.map (zA false) w.Bodies)]),(5,.box true [.list true 1 (List.map (rL true 1 (rK .i64)) []),.list true 4 (List.map (zA true) [])]),(6,.list true 1 (List.map (rL true 1 rS) behind)),(7,.list true 1 (List.map rB stays)),(8,.box true [.list true 1 (List.map (rL true 1 (rK .i64)) out_),.list true 4 (List.map (zA true) [])]),(9,.list true 1 (List.map (rL true 1 (rK .i64)) [l]))]⟩:=by
        refine zL [] [.m 6 [] [0,1,2,3,4,5,6] []] [] [(6,false,[],[0,1,2,3,4,5,6])] ⟨?_,trivial⟩
        ·refine zM ⟨197,4,10,[(1,.pl (.one (.v (.list false 1 (List.map (rK .i64) parents))))),(3,.pl (.one (.ref 4 []))),(6,.pl (.one (.ref 5 []))),(9,.pl (.one (.v (.sc (.int .i64 (w.Parents.length:Int)))))),(12,.pl (.one (.ref 6 []))),(13,.pl (.one (.ref 7 []))),(16,.pl (.one (.ref 8 []))),(110,.pl (.one (.ref 8 [(0,0,0)]))),(114,.pl (.one (.ref 9 [])))],[(4,.box true [.list false 1 (List.map (rL false 1 (rK .i64)) w.Parents),.list false 4 (List.map (zA false) w.Bodies)]),(5,.box true [.list true 1 (List.map (rL true 1 (rK .i64)) []),.list true 4 (List.map (zA true) [])]),(6,.list true 1 (List.map (rL true 1 rS) behind)),(7,.list true 1 (List.map rB stays)),(8,.box true [.list true 1 (List.map (rL true 1 (rK .i64)) out_),.list true 4 (List.map (zA true) [])]),(9,.list true 1 (List.map (rL true 1 (rK .i64)) [l]))]⟩ ?_
         refine ops H' ?_
         refine zD ⟨rfl,.inl ⟨rfl,?_⟩⟩
         exact zF [1,3,6,9,12,13,16,115] [(4,4),(5,5),(6,6),(7,7),(8,8),(10,9)] 10 d20'
       have d22':zK X ?o2 [0,1,2,3,4] [] ?P2 ⟨197,4,10,[(1,.pl (.one (.v (.list false 1 (List.map (rK .i64) parents))))),(3,.pl (.one (.ref 4 []))),(6,.pl (.one (.ref 5 []))),(9,.pl (.one (.v (.sc (.int .i64 (w.Parents.length:Int)))))),(12,.pl (.one (.ref 6 []))),(13,.pl (.one (.ref 7 []))),(16,.pl (.one (.ref 8 []))),(110,.pl (.one (.ref 8 [(0,0,0)]))),(113,.pl (.one (.ref 9 [])))],[(4,.box true [.list false 1 (List.map (rL false 1 (rK .i64)) w.Parents),.list false 4 (List.map (zA false) w.Bodies)]),(5,.box true [.list true 1 (List.map (rL true 1 (rK .i64)) []),.list true 4 (List.map (zA true) [])]),(6,.list true 1 (List.map (rL true 1 rS) behind)),(7,.list true 1 (List.map rB stays)),(8,.box true [.list true 1 (List.map (rL true 1 (rK .i64)) out_),.list true 4 (List.map (zA true) [])]),(9,.list true 1 (List.map (rK .i64) l))]⟩:=by
        refine zL [] [.m 5 [] [0,1,2,3,4,5] []] [] [(5,false,[],[0,1,2,3,4,5])] ⟨?_,trivial⟩
        ·refine zM ⟨197,4,10,[(1,.pl (.one (.v (.list false 1 (List.map (rK .i64) parents))))),(3,.pl (.one (.ref 4 []))),(6,.pl (.one (.ref 5 []))),(9,.pl (.one (.v (.sc (.int .i64 (w.Parents.length:Int)))))),(12,.pl (.one (.ref 6 []))),(13,.pl (.one (.ref 7 []))),(16,.pl (.one (.ref 8 []))),(110,.pl (.one (.ref 8 [(0,0,0)]))),(113,.pl (.one (.ref 9 [])))],[(4,.box true [.list false 1 (List.map (rL false 1 (rK .i64)) w.Parents),.list false 4 (List.map (zA false) w.Bodies)]),(5,.box true [.list true 1 (List.map (rL true 1 (rK .i64)) []),.list true 4 (List.map (zA true) [])]),(6,.list true 1 (List.map (rL true 1 rS) behind)),(7,.list true 1 (List.map rB stays)),(8,.box true [.list true 1 (List.map (rL true 1 (rK .i64)) out_),.list true 4 (List.map (zA true) [])]),(9,.list true 1 (List.map (rK .i64) l))]⟩ ?_
         refine ops H' ?_
         refine zD ⟨rfl,.inl ⟨rfl,?_⟩⟩
         exact zF [1,3,6,9,12,13,16,110,114] [(4,4),(5,5),(6,6),(7,7),(8,8),(10,9)] 10 d21'
       have d23':zK X ?o2 [0,1,2,3] [] ?P2 ⟨197,4,10,[(1,.pl (.one (.v (.list false 1 (List.map (rK .i64) parents))))),(3,.pl (.one (.ref 4 []))),(6,.pl (.one (.ref 5 []))),(9,.pl (.one (.v (.sc (.int .i64 (w.Parents.length:Int)))))),(12,.pl (.one (.ref 6 []))),(13,.pl (.one (.ref 7 []))),(16,.pl (.one (.ref 8 []))),(110,.pl (.one (.ref 8 [(0,0,0)]))),(111,.pl (.one (.ref 9 []))),(112,.pl (.one (.v (.list false 1 (List.map (rK .i64) parents)))))],[(4,.box true [.list false 1 (List.map (rL false 1 (rK .i64)) w.Parents),.list false 4 (List.map (zA false) w.Bodies)]),(5,.box true [.list true 1 (List.map (rL true 1 (rK .i64)) []),.list true 4 (List.map (zA true) [])]),(6,.list true 1 (List.map (rL true 1 rS) behind)),(7,.list true 1 (List.map rB stays)),(8,.box true [.list true 1 (List.map (rL true 1 (rK .i64)) out_),.list true 4 (List.map (zA true) [])]),(9,.list true 1 (List.map (rK .i64) []))]⟩:=by
        refine zL [] [.m 4 [] [0,1,2,3,4] []] [] [(4,false,[],[0,1,2,3,4])] ⟨?_,trivial⟩
        ·refine zM ⟨197,4,10,[(1,.pl (.one (.v (.list false 1 (List.map (rK .i64) parents))))),(3,.pl (.one (.ref 4 []))),(6,.pl (.one (.ref 5 []))),(9,.pl (.one (.v (.sc (.int .i64 (w.Parents.length:Int)))))),(12,.pl (.one (.ref 6 []))),(13,.pl (.one (.ref 7 []))),(16,.pl (.one (.ref 8 []))),(110,.pl (.one (.ref 8 [(0,0,0)]))),(111,.pl (.one (.ref 9 []))),(112,.pl (.one (.v (.list false 1 (List.map (rK .i64) parents)))))],[(4,.box true [.list false 1 (List.map (rL false 1 (rK .i64)) w.Parents),.list false 4 (List.map (zA false) w.Bodies)]),(5,.box true [.list true 1 (List.map (rL true 1 (rK .i64)) []),.list true 4 (List.map (zA true) [])]),(6,.list true 1 (List.map (rL true 1 rS) behind)),(7,.list true 1 (List.map rB stays)),(8,.box true [.list true 1 (List.map (rL true 1 (rK .i64)) out_),.list true 4 (List.map (zA true) [])]),(9,.list true 1 (List.map (rK .i64) []))]⟩ ?_
         refine ops H' ?_
         refine zD ⟨rfl,.inl ⟨rfl,?_⟩⟩
         exact zF [1,3,6,9,12,13,16,110,113] [(4,4),(5,5),(6,6),(7,7),(8,8),(9,9)] 10 d22'
       have d24':zK X ?o2 [0,1,3] [] ?P2 ⟨197,4,9,[(1,.pl (.one (.v (.list false 1 (List.map (rK .i64) parents))))),(3,.pl (.one (.ref 4 []))),(6,.pl (.one (.ref 5 []))),(9,.pl (.one (.v (.sc (.int .i64 (w.Parents.length:Int)))))),(12,.pl (.one (.ref 6 []))),(13,.pl (.one (.ref 7 []))),(16,.pl (.one (.ref 8 []))),(110,.pl (.one (.ref 8 [(0,0,0)]))),(112,.pl (.one (.v (.list false 1 (List.map (rK .i64) parents)))))],[(4,.box true [.list false 1 (List.map (rL false 1 (rK .i64)) w.Parents),.list false 4 (List.map (zA false) w.Bodies)]),(5,.box true [.list true 1 (List.map (rL true 1 (rK .i64)) []),.list true 4 (List.map (zA true) [])]),(6,.list true 1 (List.map (rL true 1 rS) behind)),(7,.list true 1 (List.map rB stays)),(8,.box true [.list true 1 (List.map (rL true 1 (rK .i64)) out_),.list true 4 (List.map (zA true) [])])]⟩:=by
        refine zL [] [.m 2 [] [0,1,2,3] []] [] [(2,false,[],[0,1,2,3])] ⟨?_,trivial⟩
        ·refine zM ⟨197,4,9,[(1,.pl (.one (.v (.list false 1 (List.map (rK .i64) parents))))),(3,.pl (.one (.ref 4 []))),(6,.pl (.one (.ref 5 []))),(9,.pl (.one (.v (.sc (.int .i64 (w.Parents.length:Int)))))),(12,.pl (.one (.ref 6 []))),(13,.pl (.one (.ref 7 []))),(16,.pl (.one (.ref 8 []))),(110,.pl (.one (.ref 8 [(0,0,0)]))),(112,.pl (.one (.v (.list false 1 (List.map (rK .i64) parents)))))],[(4,.box true [.list false 1 (List.map (rL false 1 (rK .i64)) w.Parents),.list false 4 (List.map (zA false) w.Bodies)]),(5,.box true [.list true 1 (List.map (rL true 1 (rK .i64)) []),.list true 4 (List.map (zA true) [])]),(6,.list true 1 (List.map (rL true 1 rS) behind)),(7,.list true 1 (List.map rB stays)),(8,.box true [.list true 1 (List.map (rL true 1 (rK .i64)) out_),.list true 4 (List.map (zA true) [])])]⟩ ?_
         refine ops H' ?_
         refine zD ⟨rfl,.inl ⟨rfl,?_⟩⟩
         exact zF [1,3,6,9,12,13,16,110,111,112] [(4,4),(5,5),(6,6),(7,7),(8,8),(9,9)] 10 d23'
       have d25':zK X ?o2 [0,2,3,4,5] [] ?P2 ⟨197,4,10,[(1,.pl (.one (.v (.list false 1 (List.map (rK .i64) parents))))),(3,.pl (.one (.ref 4 []))),(6,.pl (.one (.ref 5 []))),(9,.pl (.one (.v (.sc (.int .i64 (w.Parents.length:Int)))))),(12,.pl (.one (.ref 6 []))),(13,.pl (.one (.ref 7 []))),(16,.pl (.one (.ref 8 []))),(109,.pl (.one (.addr 8 [] 0 0 0))),(114,.pl (.one (.ref 9 [])))],[(4,.box true [.list false 1 (List.map (rL false 1 (rK .i64)) w.Parents),.list false 4 (List.map (zA false) w.Bodies)]),(5,.box true [.list true 1 (List.map (rL true 1 (rK .i64)) []),.list true 4 (List.map (zA true) [])]),(6,.list true 1 (List.map (rL true 1 rS) behind)),(7,.list true 1 (List.map rB stays)),(8,.box true [.list true 1 (List.map (rL true 1 (rK .i64)) out_),.list true 4 (List.map (zA true) [])]),(9,.list true 1 (List.map (rL true 1 (rK .i64)) [l]))]⟩:=by
        refine zL [] [.m 1 [] [0,1,2,3,4,5] []] [] [(1,false,[],[0,1,2,3,4,5])] ⟨?_,trivial⟩
        ·refine zM ⟨197,4,10,[(1,.pl (.one (.v (.list false 1 (List.map (rK .i64) parents))))),(3,.pl (.one (.ref 4 []))),(6,.pl (.one (.ref 5 []))),(9,.pl (.one (.v (.sc (.int .i64 (w.Parents.length:Int)))))),(12,.pl (.one (.ref 6 []))),(13,.pl (.one (.ref 7 []))),(16,.pl (.one (.ref 8 []))),(109,.pl (.one (.addr 8 [] 0 0 0))),(114,.pl (.one (.ref 9 [])))],[(4,.box true [.list false 1 (List.map (rL false 1 (rK .i64)) w.Parents),.list false 4 (List.map (zA false) w.Bodies)]),(5,.box true [.list true 1 (List.map (rL true 1 (rK .i64)) []),.list true 4 (List.map (zA true) [])]),(6,.list true 1 (List.map (rL true 1 rS) behind)),(7,.list true 1 (List.map rB stays)),(8,.box true [.list true 1 (List.map (rL true 1 (rK .i64)) out_),.list true 4 (List.map (zA true) [])]),(9,.list true 1 (List.map (rL true 1 (rK .i64)) [l]))]⟩ ?_
         refine ops H' ?_
         refine zD ⟨rfl,.inl ⟨rfl,?_⟩⟩
         exact zF [1,3,6,9,12,13,16,110,114] [(4,4),(5,5),(6,6),(7,7),(8,8),(9,9)] 10 d21'
       have d26':zK X ?o2 [0,2,3,4] [] ?P2 ⟨197,4,10,[(1,.pl (.one (.v (.list false 1 (List.map (rK .i64) parents))))),(3,.pl (.one (.ref 4 []))),(6,.pl (.one (.ref 5 []))),(9,.pl (.one (.v (.sc (.int .i64 (w.Parents.length:Int)))))),(12,.pl (.one (.ref 6 []))),(13,.pl (.one (.ref 7 []))),(16,.pl (.one (.ref 8 []))),(109,.pl (.one (.addr 8 [] 0 0 0))),(113,.pl (.one (.ref 9 [])))],[(4,.box true [.list false 1 (List.map (rL false 1 (rK .i64)) w.Parents),.list false 4 (List.map (zA false) w.Bodies)]),(5,.box true [.list true 1 (List.map (rL true 1 (rK .i64)) []),.list true 4 (List.map (zA true) [])]),(6,.list true 1 (List.map (rL true 1 rS) behind)),(7,.list true 1 (List.map rB stays)),(8,.box true [.list true 1 (List.map (rL true 1 (rK .i64)) out_),.list true 4 (List.map (zA true) [])]),(9,.list true 1 (List.map (rK .i64) l))]⟩:=by
        refine zL [] [.m 1 [] [0,1,2,3,4] [],.m 5 [] [0,2,3,4,5] []] [] [(1,false,[],[0,1,2,3,4]),(5,false,[],[0,2,3,4,5])] ⟨?_,?_,trivial⟩
        ·refine zM ⟨197,4,10,[(1,.pl (.one (.v (.list false 1 (List.map (rK .i64) parents))))),(3,.pl (.one (.ref 4 []))),(6,.pl (.one (.ref 5 []))),(9,.pl (.one (.v (.sc (.int .i64 (w.Parents.length:Int)))))),(12,.pl (.one (.ref 6 []))),(13,.pl (.one (.ref 7 []))),(16,.pl (.one (.ref 8 []))),(109,.pl (.one (.addr 8 [] 0 0 0))),(113,.pl (.one (.ref 9 [])))],[(4,.box true [.list false 1 (List.map (rL false 1 (rK .i64)) w.Parents),.list false 4 (List.map (zA false) w.Bodies)]),(5,.box true [.list true 1 (List.map (rL true 1 (rK .i64)) []),.list true 4 (List.map (zA true) [])]),(6,.list true 1 (List.map (rL true 1 rS) behind)),(7,.list true 1 (List.map rB stays)),(8,.box true [.list true 1 (List.map (rL true 1 (rK .i64)) out_),.list true 4 (List.map (zA true) [])]),(9,.list true 1 (List.map (rK .i64) l))]⟩ ?_
         refine ops H' ?_
         refine zD ⟨rfl,.inl ⟨rfl,?_⟩⟩
         exact zF [1,3,6,9,12,13,16,110,113] [(4,4),(5,5),(6,6),(7,7),(8,8),(9,9)] 10 d22'
        ·refine zM ⟨197,4,10,[(1,.pl (.one (.v (.list false 1 (List.map (rK .i64) parents))))),(3,.pl (.one (.ref 4 []))),(6,.pl (.one (.ref 5 []))),(9,.pl (.one (.v (.sc (.int .i64 (w.Parents.length:Int)))))),(12,.pl (.one (.ref 6 []))),(13,.pl (.one (.ref 7 []))),(16,.pl (.one (.ref 8 []))),(109,.pl (.one (.addr 8 [] 0 0 0))),(113,.pl (.one (.ref 9 [])))],[(4,.box true [.list false 1 (List.map (rL false 1 (rK .i64)) w.Parents),.list false 4 (List.map (zA false) w.Bodies)]),(5,.box true [.list true 1 (List.map (rL true 1 (rK .i64)) []),.list true 4 (List.map (zA true) [])]),(6,.list true 1 (List.map (rL true 1 rS) behind)),(7,.list true 1 (List.map rB stays)),(8,.box true [.list true 1 (List.map (rL true 1 (rK .i64)) out_),.list true 4 (List.map (zA true) [])]),(9,.list true 1 (List.map (rK .i64) l))]⟩ ?_
         refine ops H' ?_
         refine zD ⟨rfl,.inl ⟨rfl,?_⟩⟩
         exact zF [1,3,6,9,12,13,16,109,114] [(4,4),(5,5),(6,6),(7,7),(8,8),(10,9)] 10 d25'
       have d27':zK X ?o2 [0,2,3] [] ?P2 ⟨197,4,10,[(1,.pl (.one (.v (.list false 1 (List.map (rK .i64) parents))))),(3,.pl (.one (.ref 4 []))),(6,.pl (.one (.ref 5 []))),(9,.pl (.one (.v (.sc (.int .i64 (w.Parents.length:Int)))))),(12,.pl (.one (.ref 6 []))),(13,.pl (.one (.ref 7 []))),(16,.pl (.one (.ref 8 []))),(109,.pl (.one (.addr 8 [] 0 0 0))),(111,.pl (.one (.ref 9 []))),(112,.pl (.one (.v (.list false 1 (List.map (rK .i64) parents)))))],[(4,.box true [.list false 1 (List.map (rL false 1 (rK .i64)) w.Parents),.list false 4 (List.map (zA false) w.Bodies)]),(5,.box true [.list true 1 (List.map (rL true 1 (rK .i64)) []),.list true 4 (List.map (zA true) [])]),(6,.list true 1 (List.map (rL true 1 rS) behind)),(7,.list true 1 (List.map rB stays)),(8,.box true [.list true 1 (List.map (rL true 1 (rK .i64)) out_),.list true 4 (List.map (zA true) [])]),(9,.list true 1 (List.map (rK .i64) []))]⟩:=by
        refine zL [] [.m 1 [] [0,1,2,3] [],.m 4 [] [0,2,3,4] []] [] [(1,false,[],[0,1,2,3]),(4,false,[],[0,2,3,4])] ⟨?_,?_,trivial⟩
        ·refine zM ⟨197,4,10,[(1,.pl (.one (.v (.list false 1 (List.map (rK .i64) parents))))),(3,.pl (.one (.ref 4 []))),(6,.pl (.one (.ref 5 []))),(9,.pl (.one (.v (.sc (.int .i64 (w.Parents.length:Int)))))),(12,.pl (.one (.ref 6 []))),(13,.pl (.one (.ref 7 []))),(16,.pl (.one (.ref 8 []))),(109,.pl (.one (.addr 8 [] 0 0 0))),(111,.pl (.one (.ref 9 []))),(112,.pl (.one (.v (.list false 1 (List.map (rK .i64) parents)))))],[(4,.box true [.list false 1 (List.map (rL false 1 (rK .i64)) w.Parents),.list false 4 (List.map (zA false) w.Bodies)]),(5,.box true [.list true 1 (List.map (rL true 1 (rK .i64)) []),.list true 4 (List.map (zA true) [])]),(6,.list true 1 (List.map (rL true 1 rS) behind)),(7,.list true 1 (List.map rB stays)),(8,.box true [.list true 1 (List.map (rL true 1 (rK .i64)) out_),.list true 4 (List.map (zA true) [])]),(9,.list true 1 (List.map (rK .i64) []))]⟩ ?_
         refine ops H' ?_
         refine zD ⟨rfl,.inl ⟨rfl,?_⟩⟩
         exact zF [1,3,6,9,12,13,16,110,111,112] [(4,4),(5,5),(6,6),(7,7),(8,8),(9,9)] 10 d23'
        ·refine zM ⟨197,4,10,[(1,.pl (.one (.v (.list false 1 (List.map (rK .i64) parents))))),(3,.pl (.one (.ref 4 []))),(6,.pl (.one (.ref 5 []))),(9,.pl (.one (.v (.sc (.int .i64 (w.Parents.length:Int)))))),(12,.pl (.one (.ref 6 []))),(13,.pl (.one (.ref 7 []))),(16,.pl (.one (.ref 8 []))),(109,.pl (.one (.addr 8 [] 0 0 0))),(111,.pl (.one (.ref 9 []))),(112,.pl (.one (.v (.list false 1 (List.map (rK .i64) parents)))))],[(4,.box true [.list false 1 (List.map (rL false 1 (rK .i64)) w.Parents),.list false 4 (List.map (zA false) w.Bodies)]),(5,.box true [.list true 1 (List.map (rL true 1 (rK .i64)) []),.list true 4 (List.map (zA true) [])]),(6,.list true 1 (List.map (rL true 1 rS) behind)),(7,.list true 1 (List.map rB stays)),(8,.box true [.list true 1 (List.map (rL true 1 (rK .i64)) out_),.list true 4 (List.map (zA true) [])]),(9,.list true 1 (List.map (rK .i64) []))]⟩ ?_
         refine ops H' ?_
         refine zD ⟨rfl,.inl ⟨rfl,?_⟩⟩
         exact zF [1,3,6,9,12,13,16,109,113] [(4,4),(5,5),(6,6),(7,7),(8,8),(9,9)] 10 d26'
       have d28':zK X ?o2 [0,3] [] ?P2 ⟨197,4,9,[(1,.pl (.one (.v (.list false 1 (List.map (rK .i64) parents))))),(3,.pl (.one (.ref 4 []))),(6,.pl (.one (.ref 5 []))),(9,.pl (.one (.v (.sc (.int .i64 (w.Parents.length:Int)))))),(12,.pl (.one (.ref 6 []))),(13,.pl (.one (.ref 7 []))),(16,.pl (.one (.ref 8 []))),(109,.pl (.one (.addr 8 [] 0 0 0))),(112,.pl (.one (.v (.list false 1 (List.map (rK .i64) parents)))))],[(4,.box true [.list false 1 (List.map (rL false 1 (rK .i64)) w.Parents),.list false 4 (List.map (zA false) w.Bodies)]),(5,.box true [.list true 1 (List.map (rL true 1 (rK .i64)) []),.list true 4 (List.map (zA true) [])]),(6,.list true 1 (List.map (rL true 1 rS) behind)),(7,.list true 1 (List.map rB stays)),(8,.box true [.list true 1 (List.map (rL true 1 (rK .i64)) out_),.list true 4 (List.map (zA true) [])])]⟩:=by
        refine zL [] [.m 1 [] [0,1,3] [],.m 2 [] [0,2,3] []] [] [(1,false,[],[0,1,3]),(2,false,[],[0,2,3])] ⟨?_,?_,trivial⟩
        ·refine zM ⟨197,4,9,[(1,.pl (.one (.v (.list false 1 (List.map (rK .i64) parents))))),(3,.pl (.one (.ref 4 []))),(6,.pl (.one (.ref 5 []))),(9,.pl (.one (.v (.sc (.int .i64 (w.Parents.length:Int)))))),(12,.pl (.one (.ref 6 []))),(13,.pl (.one (.ref 7 []))),(16,.pl (.one (.ref 8 []))),(109,.pl (.one (.addr 8 [] 0 0 0))),(112,.pl (.one (.v (.list false 1 (List.map (rK .i64) parents)))))],[(4,.box true [.list false 1 (List.map (rL false 1 (rK .i64)) w.Parents),.list false 4 (List.map (zA false) w.Bodies)]),(5,.box true [.list true 1 (List.map (rL true 1 (rK .i64)) []),.list true 4 (List.map (zA true) [])]),(6,.list true 1 (List.map (rL true 1 rS) behind)),(7,.list true 1 (List.map rB stays)),(8,.box true [.list true 1 (List.map (rL true 1 (rK .i64)) out_),.list true 4 (List.map (zA true) [])])]⟩ ?_
         refine ops H' ?_
         refine zD ⟨rfl,.inl ⟨rfl,?_⟩⟩
         exact zF [1,3,6,9,12,13,16,110,112] [(4,4),(5,5),(6,6),(7,7),(8,8)] 9 d24'
        ·refine zM ⟨197,4,9,[(1,.pl (.one (.v (.list false 1 (List.map (rK .i64) parents))))),(3,.pl (.one (.ref 4 []))),(6,.pl (.one (.ref 5 []))),(9,.pl (.one (.v (.sc (.int .i64 (w.Parents.length:Int)))))),(12,.pl (.one (.ref 6 []))),(13,.pl (.one (.ref 7 []))),(16,.pl (.one (.ref 8 []))),(109,.pl (.one (.addr 8 [] 0 0 0))),(112,.pl (.one (.v (.list false 1 (List.map (rK .i64) parents)))))],[(4,.box true [.list false 1 (List.map (rL false 1 (rK .i64)) w.Parents),.list false 4 (List.map (zA false) w.Bodies)]),(5,.box true [.list true 1 (List.map (rL true 1 (rK .i64)) []),.list true 4 (List.map (zA true) [])]),(6,.list true 1 (List.map (rL true 1 rS) behind)),(7,.list true 1 (List.map rB stays)),(8,.box true [.list true 1 (List.map (rL true 1 (rK .i64)) out_),.list true 4 (List.map (zA true) [])])]⟩ ?_
         refine ops H' ?_
         refine zD ⟨rfl,.inl ⟨rfl,?_⟩⟩
         exact zF [1,3,6,9,12,13,16,109,111,112] [(4,4),(5,5),(6,6),(7,7),(8,8),(9,9)] 10 d27'
       refine fpure H' 0 [0] [] ?_
       refine fpure H' 3 [0,3] [] ?_
       exact zF [1,3,6,9,12,13,16,109,112] [(4,4),(5,5),(6,6),(7,7),(8,8)] 9 d28'
      ·rintro e' rfl
       refine contN ?_
       refine zC ?_
       refine zB ?_
       refine ops H' ?_
       obtain ⟨x120,hy',h0'⟩:=zbi h0'
       refine zO H' (fun _=>[]) (W_spec_l05Set _ _ _ hy') ?_
       refine ops H' ?_
       refine zE ?_
       refine zC ?_
       refine zB ?_
       refine ops H' ?_
       refine zE ?_
       refine zU (fun e'=>∃ out__1,spec_l06Add_j3 w l_1 out__1=some r'∧e'=⟨197,4,6,[(6,.pl (.one (.ref 4 []))),(9,.pl (.one (.v (.sc (.int .i64 (w.Parents.length:Int)))))),(16,.pl (.one (.ref 5 [])))],[(4,.box true [.list true 1 (List.map (rL true 1 (rK .i64)) []),.list true 4 (List.map (zA true) [])]),(5,.box true [.list true 1 (List.map (rL true 1 (rK .i64)) l_1),.list true 4 (List.map (zA true) out__1)])]⟩) ?_ ?_
       ·refine zC ?_
        refine zB ?_
        refine ops H' ?_
        refine zE ?_
        obtain ⟨p,hl',h0'⟩:=zbi h0'
        refine zJ ?_
        refine zX (fun s' e'=>∃ ord i out__2,s'=(ord,i,out__2)∧e'=⟨197,4,10,[(3,.pl (.one (.ref 4 []))),(6,.pl (.one (.ref 5 []))),(9,.pl (.one (.v (.sc (.int .i64 (w.Parents.length:Int)))))),(12,.pl (.one (.ref 6 []))),(13,.pl (.one (.ref 7 []))),(16,.pl (.one (.ref 8 []))),(18,.pl (.one (.ref 9 []))),(19,.pl (.one (.v (.sc (.int .i64 ord))))),(20,.pl (.one (.v (.sc (.int .i64 i)))))],[(4,.box true [.list false 1 (List.map (rL false 1 (rK .i64)) w.Parents),.list false 4 (List.map (zA false) w.Bodies)]),(5,.box true [.list true 1 (List.map (rL true 1 (rK .i64)) []),.list true 4 (List.map (zA true) [])]),(6,.list true 1 (List.map (rL true 1 rS) behind)),(7,.list true 1 (List.map rB stays)),(8,.box true [.list true 1 (List.map (rL true 1 (rK .i64)) l_1),.list true 4 (List.map (zA true) out__2)]),(9,.list true 1 (List.map rB x120))]⟩) hl' (shd [3,6,9,12,13,16,18,19,20] [(4,4),(5,5),(6,6),(7,7),(8,8),(9,9)] 10 ⟨_,_,_,rfl,rfl⟩) ?_
        rintro s' y1' e' h1' ⟨ord,i,out__2,rfl,rfl⟩
        replace h1':qH w behind stays x120 ord i out__2=some y1':=h1'
        unfold qH at h1'
        refine zC ?_
        refine zC ?_
        refine zB ?_
        refine ops H' ?_
        refine zE ?_
        refine zH (fun hc'=>?_) (fun hc'=>?_)
        ·replace h1':=(ifT hc').symm.trans h1'
         refine zR ?_
         refine zU (fun e'=>∃ ord_1 out__3,spec_l06Add_j4 i ord_1 out__3=some y1'∧e'=⟨197,4,10,[(3,.pl (.one (.ref 4 []))),(6,.pl (.one (.ref 5 []))),(9,.pl (.one (.v (.sc (.int .i64 (w.Parents.length:Int)))))),(12,.pl (.one (.ref 6 []))),(13,.pl (.one (.ref 7 []))),(16,.pl (.one (.ref 8 []))),(18,.pl (.one (.ref 9 []))),(19,.pl (.one (.v (.sc (.int .i64 ord_1))))),(20,.pl (.one (.v (.sc (.int .i64 i)))))],[(4,.box true [.list false 1 (List.map (rL false 1 (rK .i64)) w.Parents),.list false 4 (List.map (zA false) w.Bodies)]),(5,.box true [.list true 1 (List.map (rL true 1 (rK .i64)) []),.list true 4 (List.map (zA true) [])]),(6,.list true 1 (List.map (rL true 1 rS) behind)),(7,.list true 1 (List.map rB stays)),(8,.box true [.list true 1 (List.map (rL true 1 (rK .i64)) l_1),.list true 4 (List.map (zA true) out__3)]),(9,.list true 1 (List.map rB x120))]⟩) ?_ ?_
         ·refine zJ ?_
          refine zU (fun e'=>∃ out__4,spec_l06Add_j5 w behind ord i out__4=some y1'∧e'=⟨197,4,10,[(3,.pl (.one (.ref 4 []))),(6,.pl (.one (.ref 5 []))),(9,.pl (.one (.v (.sc (.int .i64 (w.Parents.length:Int)))))),(12,.pl (.one (.ref 6 []))),(13,.pl (.one (.ref 7 []))),(16,.pl (.one (.ref 8 []))),(18,.pl (.one (.ref 9 []))),(19,.pl (.one (.v (.sc (.int .i64 ord))))),(20,.pl (.one (.v (.sc (.int .i64 i)))))],[(4,.box true [.list false 1 (List.map (rL false 1 (rK .i64)) w.Parents),.list false 4 (List.map (zA false) w.Bodies)]),(5,.box true [.list true 1 (List.map (rL true 1 (rK .i64)) []),.list true 4 (List.map (zA true) [])]),(6,.list true 1 (List.map (rL true 1 rS) behind)),(7,.list true 1 (List.map rB stays)),(8,.box true [.list true 1 (List.map (rL true 1 (rK .i64)) l_1),.list true 4 (List.map (zA true) out__4)]),(9,.list true 1 (List.map rB x120))]⟩) ?_ ?_
          ·refine zC ?_
           refine zB ?_
           refine ops H' ?_
           refine zE ?_
           refine zH (fun hc'=>?_) (fun hc'=>?_)
           ·replace h1':=(ifT hc').symm.trans h1'
            refine zC ?_
            refine zB ?_
            obtain ⟨x_2,hv',h1'⟩:=zbi h1'
            have H':=And.intro (zP hv') H'
            refine ops H' ?_
            refine zE ?_
            refine zC ?_
            refine zB ?_
            obtain ⟨l_3,hv',h1'⟩:=zbi h1'
            have H':=And.intro (appz_f (rK .i64) hv') H'
            refine ops H' ?_
            refine zE ?_
            refine zU (fun e'=>∃ b,spec_l06Add_j6 w behind ord i out__2 x_2 b=some y1'∧e'=⟨197,4,11,[(3,.pl (.one (.ref 4 []))),(6,.pl (.one (.ref 5 []))),(9,.pl (.one (.v (.sc (.int .i64 (w.Parents.length:Int)))))),(12,.pl (.one (.ref 6 []))),(13,.pl (.one (.ref 7 []))),(16,.pl (.one (.ref 8 []))),(18,.pl (.one (.ref 9 []))),(19,.pl (.one (.v (.sc (.int .i64 ord))))),(20,.pl (.one (.v (.sc (.int .i64 i))))),(21,.pl (.one (.ref 10 [])))],[(4,.box true [.list false 1 (List.map (rL false 1 (rK .i64)) w.Parents),.list false 4 (List.map (zA false) w.Bodies)]),(5,.box true [.list true 1 (List.map (rL true 1 (rK .i64)) []),.list true 4 (List.map (zA true) [])]),(6,.list true 1 (List.map (rL true 1 rS) behind)),(7,.list true 1 (List.map rB stays)),(8,.box true [.list true 1 (List.map (rL true 1 (rK .i64)) l_1),.list true 4 (List.map (zA true) out__2)]),(9,.list true 1 (List.map rB x120)),(10,.box true [.sc (.string x_2.Line),.sc (.int .i64 x_2.Ins),.sc (.int .i64 x_2.Ord),.list true 1 (List.map (rK .i64) b)])]⟩) ?_ ?_
            ·refine zC ?_
             refine zB ?_
             obtain ⟨x_3,hv',h1'⟩:=zbi h1'
             have H':=And.intro (zP hv') H'
             refine ops H' ?_
             obtain ⟨b_1,gh1',h1'⟩:=zbi h1'
             refine qG 4 (fun e'=>e'=⟨197,4,11,[(3,.pl (.one (.ref 4 []))),(6,.pl (.one (.ref 5 []))),(9,.pl (.one (.v (.sc (.int .i64 (w.Parents.length:Int)))))),(12,.pl (.one (.ref 6 []))),(13,.pl (.one (.ref 7 []))),(16,.pl (.one (.ref 8 []))),(18,.pl (.one (.ref 9 []))),(19,.pl (.one (.v (.sc (.int .i64 ord))))),(20,.pl (.one (.v (.sc (.int .i64 i))))),(21,.pl (.one (.ref 10 []))),(151,.pl (.one (.v (.sc (.bool b_1)))))],[(4,.box true [.list false 1 (List.map (rL false 1 (rK .i64)) w.Parents),.list false 4 (List.map (zA false) w.Bodies)]),(5,.box true [.list true 1 (List.map (rL true 1 (rK .i64)) []),.list true 4 (List.map (zA true) [])]),(6,.list true 1 (List.map (rL true 1 rS) behind)),(7,.list true 1 (List.map rB stays)),(8,.box true [.list true 1 (List.map (rL true 1 (rK .i64)) l_1),.list true 4 (List.map (zA true) out__2)]),(9,.list true 1 (List.map rB x120)),(10,.box true [.sc (.string x_2.Line),.sc (.int .i64 x_2.Ins),.sc (.int .i64 x_2.Ord),.list true 1 (List.map (rK .i64) l_3)])]⟩) ?_ ?_
             ·simp only [List.take_succ_cons,List.take_zero]
              refine opsV_sp (fun hc'=>?_) (fun hc'=>?_)
              ·replace gh1':=(ifT hc').symm.trans gh1'
               refine ops H' ?_
               obtain ⟨x150,hy',gh1'⟩:=zbi gh1'
               refine zO H' (fun _=>[]) (W_spec_l06Live _ _ _ hy') ?_
               refine ops H' ?_
               obtain rfl:=zso gh1'
               refine zD ?_
               exact ⟨rfl,shd [3,6,9,12,13,16,18,19,20,21,151] [(4,4),(5,5),(6,6),(7,7),(8,8),(9,9),(10,10)] 11 rfl⟩
              ·replace gh1':=(ifF hc').symm.trans gh1'
               refine ops H' ?_
               obtain rfl:=zso gh1'
               refine zD ?_
               exact ⟨rfl,shd [3,6,9,12,13,16,18,19,20,21,151] [(4,4),(5,5),(6,6),(7,7),(8,8),(9,9),(10,10)] 11 rfl⟩
             ·rintro e' rfl
              simp only [List.drop_succ_cons,List.drop_zero]
              refine zE ?_
              refine zH (fun hc'=>?_) (fun hc'=>?_)
              ·replace h1':=(ifT hc').symm.trans h1'
               refine zB ?_
               obtain ⟨l_5,hv',h1'⟩:=zbi h1'
               have H':=And.intro (app1_f hv') H'
               refine ops H' ?_
               refine zE ?_
               exact shd [3,6,9,12,13,16,18,19,20,21] [(4,4),(5,5),(6,6),(7,7),(8,8),(9,9),(10,10)] 11 ⟨_,h1',rfl⟩
              ·replace h1':=(ifF hc').symm.trans h1'
               refine zR ?_
               exact shd [3,6,9,12,13,16,18,19,20,21] [(4,4),(5,5),(6,6),(7,7),(8,8),(9,9),(10,10)] 11 ⟨_,h1',rfl⟩
            ·rintro e' ⟨b,h1',rfl⟩
             unfold spec_l06Add_j6 at h1'
             refine zB ?_
             obtain ⟨l_4,hv',h1'⟩:=zbi h1'
             have H':=And.intro (app1_f hv') H'
             refine ops H' ?_
             refine zE ?_
             exact shd [3,6,9,12,13,16,18,19,20] [(4,4),(5,5),(6,6),(7,7),(8,8),(9,9)] 10 ⟨_,h1',rfl⟩
           ·replace h1':=(ifF hc').symm.trans h1'
            refine zR ?_
            exact shd [3,6,9,12,13,16,18,19,20] [(4,4),(5,5),(6,6),(7,7),(8,8),(9,9)] 10 ⟨_,h1',rfl⟩
          ·rintro e' ⟨out__4,h1',rfl⟩
           unfold spec_l06Add_j5 at h1'
           refine zC ?_
           refine zB ?_
           refine ops H' ?_
           refine zE ?_
           obtain ⟨p_1,hl',h1'⟩:=zbi h1'
           refine zJ ?_
           refine zX (fun s' e'=>∃ ord_2 k out__5,s'=(ord_2,k,out__5)∧e'=⟨197,4,10,[(3,.pl (.one (.ref 4 []))),(6,.pl (.one (.ref 5 []))),(9,.pl (.one (.v (.sc (.int .i64 (w.Parents.length:Int)))))),(12,.pl (.one (.ref 6 []))),(13,.pl (.one (.ref 7 []))),(16,.pl (.one (.ref 8 []))),(18,.pl (.one (.ref 9 []))),(19,.pl (.one (.v (.sc (.int .i64 ord_2))))),(20,.pl (.one (.v (.sc (.int .i64 i))))),(22,.pl (.one (.v (.sc (.int .i64 k)))))],[(4,.box true [.list false 1 (List.map (rL false 1 (rK .i64)) w.Parents),.list false 4 (List.map (zA false) w.Bodies)]),(5,.box true [.list true 1 (List.map (rL true 1 (rK .i64)) []),.list true 4 (List.map (zA true) [])]),(6,.list true 1 (List.map (rL true 1 rS) behind)),(7,.list true 1 (List.map rB stays)),(8,.box true [.list true 1 (List.map (rL true 1 (rK .i64)) l_1),.list true 4 (List.map (zA true) out__5)]),(9,.list true 1 (List.map rB x120))]⟩) hl' (shd [3,6,9,12,13,16,18,19,20,22] [(4,4),(5,5),(6,6),(7,7),(8,8),(9,9)] 10 ⟨_,_,_,rfl,rfl⟩) ?_
           rintro s' y2' e' h2' ⟨ord_2,k,out__5,rfl,rfl⟩
           replace h2':spec_l06Add_l2 w behind i ord_2 k out__5=some y2':=h2'
           unfold spec_l06Add_l2 at h2'
           refine zC ?_
           refine zC ?_
           refine zB ?_
           obtain ⟨x,hv',h2'⟩:=zbi h2'
           have H':=And.intro (zP hv') H'
           refine ops H' ?_
           refine zE ?_
           refine zH (fun hc'=>?_) (fun hc'=>?_)
           ·replace h2':=(ifT hc').symm.trans h2'
            refine zR ?_
            refine zC ?_
            refine zJ ?_
            refine zC ?_
            obtain ⟨x_1,hv',h2'⟩:=zbi h2'
            have H':=And.intro (zP hv') H'
            obtain ⟨l_2,hv',h2'⟩:=zbi h2'
            have H':=And.intro (app1_f hv') H'
            refine wpV_J (fun e'=>e'=⟨197,4,10,[(3,.pl (.one (.ref 4 []))),(6,.pl (.one (.ref 5 []))),(9,.pl (.one (.v (.sc (.int .i64 (w.Parents.length:Int)))))),(12,.pl (.one (.ref 6 []))),(13,.pl (.one (.ref 7 []))),(16,.pl (.one (.ref 8 []))),(18,.pl (.one (.ref 9 []))),(19,.pl (.one (.v (.sc (.int .i64 ord_2))))),(20,.pl (.one (.v (.sc (.int .i64 i))))),(22,.pl (.one (.v (.sc (.int .i64 k)))))],[(4,.box true [.list false 1 (List.map (rL false 1 (rK .i64)) w.Parents),.list false 4 (List.map (zA false) w.Bodies)]),(5,.box true [.list true 1 (List.map (rL true 1 (rK .i64)) []),.list true 4 (List.map (zA true) [])]),(6,.list true 1 (List.map (rL true 1 rS) behind)),(7,.list true 1 (List.map rB stays)),(8,.box true [.list true 1 (List.map (rL true 1 (rK .i64)) l_1),.list true 4 (List.map (zA true) l_2)]),(9,.list true 1 (List.map rB x120))]⟩) ?_ ?_
            ·refine regAnyF [(8,181,.pl (.one (.v (.sc (.string x_1))))),(11,184,.pl (.agg [.v (.sc (.string x_1)),.v (.sc (.int .i64 (w.Parents.length:Int))),.v (.sc (.int .i64 ord_2)),.v (.list true 1 (List.map (rK .i64) []))]))] ?_
             refine (?_:zK X ?o3 _ _ ?P3 _)
             have d29':zK X ?o3 [0,1,2,3,4,5,6,7,8,9,10,11,12,13,14,15] [] ?P3 ⟨197,4,10,[(3,.pl (.one (.ref 4 []))),(6,.pl (.one (.ref 5 []))),(9,.pl (.one (.v (.sc (.int .i64 (w.Parents.length:Int)))))),(12,.pl (.one (.ref 6 []))),(13,.pl (.one (.ref 7 []))),(16,.pl (.one (.ref 8 []))),(18,.pl (.one (.ref 9 []))),(19,.pl (.one (.v (.sc (.int .i64 ord_2))))),(20,.pl (.one (.v (.sc (.int .i64 i))))),(22,.pl (.one (.v (.sc (.int .i64 k)))))],[(4,.box true [.list false 1 (List.map (rL false 1 (rK .i64)) w.Parents),.list false 4 (List.map (zA false) w.Bodies)]),(5,.box true [.list true 1 (List.map (rL true 1 (rK .i64)) []),.list true 4 (List.map (zA true) [])]),(6,.list true 1 (List.map (rL true 1 rS) behind)),(7,.list true 1 (List.map rB stays)),(8,.box true [.list true 1 (List.map (rL true 1 (rK .i64)) l_1),.list true 4 (List.map (zA true) l_2)]),(9,.list true 1 (List.map rB x120))]⟩:=by
              refine fend (e2:=⟨197,4,10,[(3,.pl (.one (.ref 4 []))),(6,.pl (.one (.ref 5 []))),(9,.pl (.one (.v (.sc (.int .i64 (w.Parents.length:Int)))))),(12,.pl (.one (.ref 6 []))),(13,.pl (.one (.ref 7 []))),(16,.pl (.one (.ref 8 []))),(18,.pl (.one (.ref 9 []))),(19,.pl (.one (.v (.sc (.int .i64 ord_2))))),(20,.pl (.one (.v (.sc (.int .i64 i))))),(22,.pl (.one (.v (.sc (.int .i64 k)))))],[(4,.box true [.list false 1 (List.map (rL false 1 (rK .i64)) w.Parents),.list false 4 (List.map (zA false) w.Bodies)]),(5,.box true [.list true 1 (List.map (rL true 1 (rK .i64)) []),.list true 4 (List.map (zA true) [])]),(6,.list true 1 (List.map (rL true 1 rS) behind)),(7,.list true 1 (List.map rB stays)),(8,.box true [.list true 1 (List.map (rL true 1 (rK .i64)) l_1),.list true 4 (List.map (zA true) l_2)]),(9,.list true 1 (List.map rB x120))]⟩) [] [] [] [] trivial ⟨rfl,shd [3,6,9,12,13,16,18,19,20,22] [(4,4),(5,5),(6,6),(7,7),(8,8),(9,9)] 10 rfl⟩
             have d30':zK X ?o3 [0,1,2,3,4,5,6,7,8,9,10,11,12,13,14] [] ?P3 ⟨197,4,11,[(3,.pl (.one (.ref 4 []))),(6,.pl (.one (.ref 5 []))),(9,.pl (.one (.v (.sc (.int .i64 (w.Parents.length:Int)))))),(12,.pl (.one (.ref 6 []))),(13,.pl (.one (.ref 7 []))),(16,.pl (.one (.ref 8 []))),(18,.pl (.one (.ref 9 []))),(19,.pl (.one (.v (.sc (.int .i64 ord_2))))),(20,.pl (.one (.v (.sc (.int .i64 i))))),(22,.pl (.one (.v (.sc (.int .i64 k))))),(186,.pl (.one (.ref 10 []))),(187,.pl (.one (.addr 8 [] 0 0 1)))],[(4,.box true [.list false 1 (List.map (rL false 1 (rK .i64)) w.Parents),.list false 4 (List.map (zA false) w.Bodies)]),(5,.box true [.list true 1 (List.map (rL true 1 (rK .i64)) []),.list true 4 (List.map (zA true) [])]),(6,.list true 1 (List.map (rL true 1 rS) behind)),(7,.list true 1 (List.map rB stays)),(8,.box true [.list true 1 (List.map (rL true 1 (rK .i64)) l_1),.dead]),(9,.list true 1 (List.map rB x120)),(10,.list true 4 (List.map (zA true) l_2))]⟩:=by
              refine zL [] [.m 15 [] [0,1,2,3,4,5,6,7,8,9,10,11,12,13,14,15] []] [] [(15,false,[],[0,1,2,3,4,5,6,7,8,9,10,11,12,13,14,15])] ⟨?_,trivial⟩
              ·refine zM ⟨197,4,11,[(3,.pl (.one (.ref 4 []))),(6,.pl (.one (.ref 5 []))),(9,.pl (.one (.v (.sc (.int .i64 (w.Parents.length:Int)))))),(12,.pl (.one (.ref 6 []))),(13,.pl (.one (.ref 7 []))),(16,.pl (.one (.ref 8 []))),(18,.pl (.one (.ref 9 []))),(19,.pl (.one (.v (.sc (.int .i64 ord_2))))),(20,.pl (.one (.v (.sc (.int .i64 i))))),(22,.pl (.one (.v (.sc (.int .i64 k))))),(186,.pl (.one (.ref 10 []))),(187,.pl (.one (.addr 8 [] 0 0 1)))],[(4,.box true [.list false 1 (List.map (rL false 1 (rK .i64)) w.Parents),.list false 4 (List.map (zA false) w.Bodies)]),(5,.box true [.list true 1 (List.map (rL true 1 (rK .i64)) []),.list true 4 (List.map (zA true) [])]),(6,.list true 1 (List.map (rL true 1 rS) behind)),(7,.list true 1 (List.map rB stays)),(8,.box true [.list true 1 (List.map (rL true 1 (rK .i64)) l_1),.dead]),(9,.list true 1 (List.map rB x120)),(10,.list true 4 (List.map (zA true) l_2))]⟩ ?_
               refine ops H' ?_
               refine zD ⟨rfl,.inl ⟨rfl,?_⟩⟩
               exact zF [3,6,9,12,13,16,18,19,20,22] [(4,4),(5,5),(6,6),(7,7),(8,8),(9,9)] 10 d29'
             have d31':zK X ?o3 [0,1,2,3,4,5,6,7,8,9,10,11,12,13] [] ?P3 ⟨197,4,11,[(3,.pl (.one (.ref 4 []))),(6,.pl (.one (.ref 5 []))),(9,.pl (.one (.v (.sc (.int .i64 (w.Parents.length:Int)))))),(12,.pl (.one (.ref 6 []))),(13,.pl (.one (.ref 7 []))),(16,.pl (.one (.ref 8 []))),(18,.pl (.one (.ref 9 []))),(19,.pl (.one (.v (.sc (.int .i64 ord_2))))),(20,.pl (.one (.v (.sc (.int .i64 i))))),(22,.pl (.one (.v (.sc (.int .i64 k))))),(186,.pl (.one (.ref 10 [])))],[(4,.box true [.list false 1 (List.map (rL false 1 (rK .i64)) w.Parents),.list false 4 (List.map (zA false) w.Bodies)]),(5,.box true [.list true 1 (List.map (rL true 1 (rK .i64)) []),.list true 4 (List.map (zA true) [])]),(6,.list true 1 (List.map (rL true 1 rS) behind)),(7,.list true 1 (List.map rB stays)),(8,.box true [.list true 1 (List.map (rL true 1 (rK .i64)) l_1),.dead]),(9,.list true 1 (List.map rB x120)),(10,.list true 4 (List.map (zA true) l_2))]⟩:=by
              refine zL [] [.m 14 [] [0,1,2,3,4,5,6,7,8,9,10,11,12,13,14] []] [] [(14,false,[],[0,1,2,3,4,5,6,7,8,9,10,11,12,13,14])] ⟨?_,trivial⟩
              ·refine zM ⟨197,4,11,[(3,.pl (.one (.ref 4 []))),(6,.pl (.one (.ref 5 []))),(9,.pl (.one (.v (.sc (.int .i64 (w.Parents.length:Int)))))),(12,.pl (.one (.ref 6 []))),(13,.pl (.one (.ref 7 []))),(16,.pl (.one (.ref 8 []))),(18,.pl (.one (.ref 9 []))),(19,.pl (.one (.v (.sc (.int .i64 ord_2))))),(20,.pl (.one (.v (.sc (.int .i64 i))))),(22,.pl (.one (.v (.sc (.int .i64 k))))),(186,.pl (.one (.ref 10 [])))],[(4,.box true [.list false 1 (List.map (rL false 1 (rK .i64)) w.Parents),.list false 4 (List.map (zA false) w.Bodies)]),(5,.box true [.list true 1 (List.map (rL true 1 (rK .i64)) []),.list true 4 (List.map (zA true) [])]),(6,.list true 1 (List.map (rL true 1 rS) behind)),(7,.list true 1 (List.map rB stays)),(8,.box true [.list true 1 (List.map (rL true 1 (rK .i64)) l_1),.dead]),(9,.list true 1 (List.map rB x120)),(10,.list true 4 (List.map (zA true) l_2))]⟩ ?_
               refine ops H' ?_
               refine zD ⟨rfl,.inl ⟨rfl,?_⟩⟩
               exact zF [3,6,9,12,13,16,18,19,20,22,186,187] [(4,4),(5,5),(6,6),(7,7),(8,8),(9,9),(10,10)] 11 d30'
             have d32':zK X ?o3 [0,1,2,3,4,5,6,7,8,9,10,11,12] [] ?P3 ⟨197,4,11,[(3,.pl (.one (.ref 4 []))),(6,.pl (.one (.ref 5 []))),(9,.pl (.one (.v (.sc (.int .i64 (w.Parents.length:Int)))))),(12,.pl (.one (.ref 6 []))),(13,.pl (.one (.ref 7 []))),(16,.pl (.one (.ref 8 []))),(18,.pl (.one (.ref 9 []))),(19,.pl (.one (.v (.sc (.int .i64 ord_2))))),(20,.pl (.one (.v (.sc (.int .i64 i))))),(22,.pl (.one (.v (.sc (.int .i64 k))))),(174,.pl (.one (.ref 8 [(0,0,1)]))),(185,.pl (.one (.ref 10 [])))],[(4,.box true [.list false 1 (List.map (rL false 1 (rK .i64)) w.Parents),.list false 4 (List.map (zA false) w.Bodies)]),(5,.box true [.list true 1 (List.map (rL true 1 (rK .i64)) []),.list true 4 (List.map (zA true) [])]),(6,.list true 1 (List.map (rL true 1 rS) behind)),(7,.list true 1 (List.map rB stays)),(8,.box true [.list true 1 (List.map (rL true 1 (rK .i64)) l_1),.list true 4 (List.map (zA true) out__5)]),(9,.list true 1 (List.map rB x120)),(10,.list true 4 (List.map (zA true) [(T_impl_Body.mk x_1 (w.Parents.length:Int) ord_2 [])]))]⟩:=by
              refine zL [] [.m 13 [] [0,1,2,3,4,5,6,7,8,9,10,11,12,13] []] [] [(13,false,[],[0,1,2,3,4,5,6,7,8,9,10,11,12,13])] ⟨?_,trivial⟩
              ·refine zM ⟨197,4,11,[(3,.pl (.one (.ref 4 []))),(6,.pl (.one (.ref 5 []))),(9,.pl (.one (.v (.sc (.int .i64 (w.Parents.length:Int)))))),(12,.pl (.one (.ref 6 []))),(13,.pl (.one (.ref 7 []))),(16,.pl (.one (.ref 8 []))),(18,.pl (.one (.ref 9 []))),(19,.pl (.one (.v (.sc (.int .i64 ord_2))))),(20,.pl (.one (.v (.sc (.int .i64 i))))),(22,.pl (.one (.v (.sc (.int .i64 k))))),(174,.pl (.one (.ref 8 [(0,0,1)]))),(185,.pl (.one (.ref 10 [])))],[(4,.box true [.list false 1 (List.map (rL false 1 (rK .i64)) w.Parents),.list false 4 (List.map (zA false) w.Bodies)]),(5,.box true [.list true 1 (List.map (rL true 1 (rK .i64)) []),.list true 4 (List.map (zA true) [])]),(6,.list true 1 (List.map (rL true 1 rS) behind)),(7,.list true 1 (List.map rB stays)),(8,.box true [.list true 1 (List.map (rL true 1 (rK .i64)) l_1),.list true 4 (List.map (zA true) out__5)]),(9,.list true 1 (List.map rB x120)),(10,.list true 4 (List.map (zA true) [(T_impl_Body.mk x_1 (w.Parents.length:Int) ord_2 [])]))]⟩ ?_
               refine ops H' ?_
               refine zD ⟨rfl,.inl ⟨rfl,?_⟩⟩
               exact zF [3,6,9,12,13,16,18,19,20,22,186] [(4,4),(5,5),(6,6),(7,7),(8,8),(9,9),(11,10)] 11 d31'
             have d33':zK X ?o3 [0,1,2,3,4,5,6,7,9,10] [(8,181,.pl (.one (.v (.sc (.string x_1))))),(11,184,.pl (.agg [.v (.sc (.string x_1)),.v (.sc (.int .i64 (w.Parents.length:Int))),.v (.sc (.int .i64 ord_2)),.v (.list true 1 (List.map (rK .i64) []))]))] ?P3 ⟨197,4,10,[(3,.pl (.one (.ref 4 []))),(6,.pl (.one (.ref 5 []))),(9,.pl (.one (.v (.sc (.int .i64 (w.Parents.length:Int)))))),(12,.pl (.one (.ref 6 []))),(13,.pl (.one (.ref 7 []))),(16,.pl (.one (.ref 8 []))),(18,.pl (.one (.ref 9 []))),(19,.pl (.one (.v (.sc (.int .i64 ord_2))))),(20,.pl (.one (.v (.sc (.int .i64 i))))),(22,.pl (.one (.v (.sc (.int .i64 k))))),(174,.pl (.one (.ref 8 [(0,0,1)]))),(180,.pl (.one (.addr 6 [(1,i.toNat,0)] 1 k.toNat 0))),(182,.pl (.one (.v (.sc (.int .i64 (w.Parents.length:Int)))))),(183,.pl (.one (.v (.sc (.int .i64 ord_2)))))],[(4,.box true [.list false 1 (List.map (rL false 1 (rK .i64)) w.Parents),.list false 4 (List.map (zA false) w.Bodies)]),(5,.box true [.list true 1 (List.map (rL true 1 (rK .i64)) []),.list true 4 (List.map (zA true) [])]),(6,.list true 1 (List.map (rL true 1 rS) behind)),(7,.list true 1 (List.map rB stays)),(8,.box true [.list true 1 (List.map (rL true 1 (rK .i64)) l_1),.list true 4 (List.map (zA true) out__5)]),(9,.list true 1 (List.map rB x120))]⟩:=by
              refine zL [8,11] [.q 8 181 (.pl (.one (.v (.sc (.string x_1))))) [],.q 11 184 (.pl (.agg [.v (.sc (.string x_1)),.v (.sc (.int .i64 (w.Parents.length:Int))),.v (.sc (.int .i64 ord_2)),.v (.list true 1 (List.map (rK .i64) []))])) [8],.m 12 [11,8] [0,1,2,3,4,5,6,7,8,9,10,11,12] []] [(8,181),(11,184)] [(8,true,[],[]),(11,true,[8],[]),(12,false,[11,8],[0,1,2,3,4,5,6,7,8,9,10,11,12])] ⟨?_,?_,?_,trivial⟩
              ·refine zG 0 ⟨197,4,10,[(3,.pl (.one (.ref 4 []))),(6,.pl (.one (.ref 5 []))),(9,.pl (.one (.v (.sc (.int .i64 (w.Parents.length:Int)))))),(12,.pl (.one (.ref 6 []))),(13,.pl (.one (.ref 7 []))),(16,.pl (.one (.ref 8 []))),(18,.pl (.one (.ref 9 []))),(19,.pl (.one (.v (.sc (.int .i64 ord_2))))),(20,.pl (.one (.v (.sc (.int .i64 i))))),(22,.pl (.one (.v (.sc (.int .i64 k))))),(174,.pl (.one (.ref 8 [(0,0,1)]))),(180,.pl (.one (.addr 6 [(1,i.toNat,0)] 1 k.toNat 0))),(182,.pl (.one (.v (.sc (.int .i64 (w.Parents.length:Int)))))),(183,.pl (.one (.v (.sc (.int .i64 ord_2)))))],[(4,.box true [.list false 1 (List.map (rL false 1 (rK .i64)) w.Parents),.list false 4 (List.map (zA false) w.Bodies)]),(5,.box true [.list true 1 (List.map (rL true 1 (rK .i64)) []),.list true 4 (List.map (zA true) [])]),(6,.list true 1 (List.map (rL true 1 rS) behind)),(7,.list true 1 (List.map rB stays)),(8,.box true [.list true 1 (List.map (rL true 1 (rK .i64)) l_1),.list true 4 (List.map (zA true) out__5)]),(9,.list true 1 (List.map rB x120))]⟩ ?_
               refine ops H' ?_
               refine zD ⟨rfl,shd [181,3,6,9,12,13,16,18,19,20,22,174,180,182,183] [(4,4),(5,5),(6,6),(7,7),(8,8),(9,9)] 10 rfl⟩
              ·refine zG 1 ⟨197,4,10,[(181,.pl (.one (.v (.sc (.string x_1))))),(3,.pl (.one (.ref 4 []))),(6,.pl (.one (.ref 5 []))),(9,.pl (.one (.v (.sc (.int .i64 (w.Parents.length:Int)))))),(12,.pl (.one (.ref 6 []))),(13,.pl (.one (.ref 7 []))),(16,.pl (.one (.ref 8 []))),(18,.pl (.one (.ref 9 []))),(19,.pl (.one (.v (.sc (.int .i64 ord_2))))),(20,.pl (.one (.v (.sc (.int .i64 i))))),(22,.pl (.one (.v (.sc (.int .i64 k))))),(174,.pl (.one (.ref 8 [(0,0,1)]))),(180,.pl (.one (.addr 6 [(1,i.toNat,0)] 1 k.toNat 0))),(182,.pl (.one (.v (.sc (.int .i64 (w.Parents.length:Int)))))),(183,.pl (.one (.v (.sc (.int .i64 ord_2)))))],[(4,.box true [.list false 1 (List.map (rL false 1 (rK .i64)) w.Parents),.list false 4 (List.map (zA false) w.Bodies)]),(5,.box true [.list true 1 (List.map (rL true 1 (rK .i64)) []),.list true 4 (List.map (zA true) [])]),(6,.list true 1 (List.map (rL true 1 rS) behind)),(7,.list true 1 (List.map rB stays)),(8,.box true [.list true 1 (List.map (rL true 1 (rK .i64)) l_1),.list true 4 (List.map (zA true) out__5)]),(9,.list true 1 (List.map rB x120))]⟩ ?_
               refine ops H' ?_
               refine zD ⟨rfl,shd [184,3,6,9,12,13,16,18,19,20,22,174,180,182,183] [(4,4),(5,5),(6,6),(7,7),(8,8),(9,9)] 10 rfl⟩
              ·refine zM ⟨197,4,10,[(181,.pl (.one (.v (.sc (.string x_1))))),(184,.pl (.agg [.v (.sc (.string x_1)),.v (.sc (.int .i64 (w.Parents.length:Int))),.v (.sc (.int .i64 ord_2)),.v (.list true 1 (List.map (rK .i64) []))])),(3,.pl (.one (.ref 4 []))),(6,.pl (.one (.ref 5 []))),(9,.pl (.one (.v (.sc (.int .i64 (w.Parents.length:Int)))))),(12,.pl (.one (.ref 6 []))),(13,.pl (.one (.ref 7 []))),(16,.pl (.one (.ref 8 []))),(18,.pl (.one (.ref 9 []))),(19,.pl (.one (.v (.sc (.int .i64 ord_2))))),(20,.pl (.one (.v (.sc (.int .i64 i))))),(22,.pl (.one (.v (.sc (.int .i64 k))))),(174,.pl (.one (.ref 8 [(0,0,1)]))),(180,.pl (.one (.addr 6 [(1,i.toNat,0)] 1 k.toNat 0))),(182,.pl (.one (.v (.sc (.int .i64 (w.Parents.length:Int)))))),(183,.pl (.one (.v (.sc (.int .i64 ord_2)))))],[(4,.box true [.list false 1 (List.map (rL false 1 (rK .i64)) w.Parents),.list false 4 (List.map (zA false) w.Bodies)]),(5,.box true [.list true 1 (List.map (rL true 1 (rK .i64)) []),.list true 4 (List.map (zA true) [])]),(6,.list true 1 (List.map (rL true 1 rS) behind)),(7,.list true 1 (List.map rB stays)),(8,.box true [.list true 1 (List.map (rL true 1 (rK .i64)) l_1),.list true 4 (List.map (zA true) out__5)]),(9,.list true 1 (List.map rB x120))]⟩ ?_
               refine ops H' ?_
               refine zD ⟨rfl,.inl ⟨rfl,?_⟩⟩
               exact zF [3,6,9,12,13,16,18,19,20,22,174,185] [(4,4),(5,5),(6,6),(7,7),(8,8),(9,9),(10,10)] 11 d32'
             have d34':zK X ?o3 [0,1,2,3,4,5,6,9,10] [(8,181,.pl (.one (.v (.sc (.string x_1))))),(11,184,.pl (.agg [.v (.sc (.string x_1)),.v (.sc (.int .i64 (w.Parents.length:Int))),.v (.sc (.int .i64 ord_2)),.v (.list true 1 (List.map (rK .i64) []))]))] ?P3 ⟨197,4,10,[(3,.pl (.one (.ref 4 []))),(6,.pl (.one (.ref 5 []))),(9,.pl (.one (.v (.sc (.int .i64 (w.Parents.length:Int)))))),(12,.pl (.one (.ref 6 []))),(13,.pl (.one (.ref 7 []))),(16,.pl (.one (.ref 8 []))),(18,.pl (.one (.ref 9 []))),(19,.pl (.one (.v (.sc (.int .i64 ord_2))))),(20,.pl (.one (.v (.sc (.int .i64 i))))),(22,.pl (.one (.v (.sc (.int .i64 k))))),(174,.pl (.one (.ref 8 [(0,0,1)]))),(178,.pl (.one (.ref 6 [(1,i.toNat,0)]))),(179,.pl (.one (.v (.sc (.int .i64 k))))),(182,.pl (.one (.v (.sc (.int .i64 (w.Parents.length:Int)))))),(183,.pl (.one (.v (.sc (.int .i64 ord_2)))))],[(4,.box true [.list false 1 (List.map (rL false 1 (rK .i64)) w.Parents),.list false 4 (List.map (zA false) w.Bodies)]),(5,.box true [.list true 1 (List.map (rL true 1 (rK .i64)) []),.list true 4 (List.map (zA true) [])]),(6,.list true 1 (List.map (rL true 1 rS) behind)),(7,.list true 1 (List.map rB stays)),(8,.box true [.list true 1 (List.map (rL true 1 (rK .i64)) l_1),.list true 4 (List.map (zA true) out__5)]),(9,.list true 1 (List.map rB x120))]⟩:=by
              refine zL [] [.m 7 [] [0,1,2,3,4,5,6,7,9,10] [(8,181,.pl (.one (.v (.sc (.string x_1))))),(11,184,.pl (.agg [.v (.sc (.string x_1)),.v (.sc (.int .i64 (w.Parents.length:Int))),.v (.sc (.int .i64 ord_2)),.v (.list true 1 (List.map (rK .i64) []))]))]] [(8,181),(11,184)] [(7,false,[],[0,1,2,3,4,5,6,7,9,10])] ⟨?_,trivial⟩
              ·refine zM ⟨197,4,10,[(3,.pl (.one (.ref 4 []))),(6,.pl (.one (.ref 5 []))),(9,.pl (.one (.v (.sc (.int .i64 (w.Parents.length:Int)))))),(12,.pl (.one (.ref 6 []))),(13,.pl (.one (.ref 7 []))),(16,.pl (.one (.ref 8 []))),(18,.pl (.one (.ref 9 []))),(19,.pl (.one (.v (.sc (.int .i64 ord_2))))),(20,.pl (.one (.v (.sc (.int .i64 i))))),(22,.pl (.one (.v (.sc (.int .i64 k))))),(174,.pl (.one (.ref 8 [(0,0,1)]))),(178,.pl (.one (.ref 6 [(1,i.toNat,0)]))),(179,.pl (.one (.v (.sc (.int .i64 k))))),(182,.pl (.one (.v (.sc (.int .i64 (w.Parents.length:Int)))))),(183,.pl (.one (.v (.sc (.int .i64 ord_2)))))],[(4,.box true [.list false 1 (List.map (rL false 1 (rK .i64)) w.Parents),.list false 4 (List.map (zA false) w.Bodies)]),(5,.box true [.list true 1 (List.map (rL true 1 (rK .i64)) []),.list true 4 (List.map (zA true) [])]),(6,.list true 1 (List.map (rL true 1 rS) behind)),(7,.list true 1 (List.map rB stays)),(8,.box true [.list true 1 (List.map (rL true 1 (rK .i64)) l_1),.list true 4 (List.map (zA true) out__5)]),(9,.list true 1 (List.map rB x120))]⟩ ?_
               refine ops H' ?_
               refine zD ⟨rfl,.inl ⟨rfl,?_⟩⟩
               exact zF [3,6,9,12,13,16,18,19,20,22,174,180,182,183] [(4,4),(5,5),(6,6),(7,7),(8,8),(9,9)] 10 d33'
             have d35':zK X ?o3 [0,1,2,3,4,6,9,10] [(8,181,.pl (.one (.v (.sc (.string x_1))))),(11,184,.pl (.agg [.v (.sc (.string x_1)),.v (.sc (.int .i64 (w.Parents.length:Int))),.v (.sc (.int .i64 ord_2)),.v (.list true 1 (List.map (rK .i64) []))]))] ?P3 ⟨197,4,10,[(3,.pl (.one (.ref 4 []))),(6,.pl (.one (.ref 5 []))),(9,.pl (.one (.v (.sc (.int .i64 (w.Parents.length:Int)))))),(12,.pl (.one (.ref 6 []))),(13,.pl (.one (.ref 7 []))),(16,.pl (.one (.ref 8 []))),(18,.pl (.one (.ref 9 []))),(19,.pl (.one (.v (.sc (.int .i64 ord_2))))),(20,.pl (.one (.v (.sc (.int .i64 i))))),(22,.pl (.one (.v (.sc (.int .i64 k))))),(174,.pl (.one (.ref 8 [(0,0,1)]))),(177,.pl (.one (.addr 6 [] 1 i.toNat 0))),(179,.pl (.one (.v (.sc (.int .i64 k))))),(182,.pl (.one (.v (.sc (.int .i64 (w.Parents.length:Int)))))),(183,.pl (.one (.v (.sc (.int .i64 ord_2)))))],[(4,.box true [.list false 1 (List.map (rL false 1 (rK .i64)) w.Parents),.list false 4 (List.map (zA false) w.Bodies)]),(5,.box true [.list true 1 (List.map (rL true 1 (rK .i64)) []),.list true 4 (List.map (zA true) [])]),(6,.list true 1 (List.map (rL true 1 rS) behind)),(7,.list true 1 (List.map rB stays)),(8,.box true [.list true 1 (List.map (rL true 1 (rK .i64)) l_1),.list true 4 (List.map (zA true) out__5)]),(9,.list true 1 (List.map rB x120))]⟩:=by
              refine zL [] [.m 5 [] [0,1,2,3,4,5,6,9,10] [(8,181,.pl (.one (.v (.sc (.string x_1))))),(11,184,.pl (.agg [.v (.sc (.string x_1)),.v (.sc (.int .i64 (w.Parents.length:Int))),.v (.sc (.int .i64 ord_2)),.v (.list true 1 (List.map (rK .i64) []))]))]] [(8,181),(11,184)] [(5,false,[],[0,1,2,3,4,5,6,9,10])] ⟨?_,trivial⟩
              ·refine zM ⟨197,4,10,[(3,.pl (.one (.ref 4 []))),(6,.pl (.one (.ref 5 []))),(9,.pl (.one (.v (.sc (.int .i64 (w.Parents.length:Int)))))),(12,.pl (.one (.ref 6 []))),(13,.pl (.one (.ref 7 []))),(16,.pl (.one (.ref 8 []))),(18,.pl (.one (.ref 9 []))),(19,.pl (.one (.v (.sc (.int .i64 ord_2))))),(20,.pl (.one (.v (.sc (.int .i64 i))))),(22,.pl (.one (.v (.sc (.int .i64 k))))),(174,.pl (.one (.ref 8 [(0,0,1)]))),(177,.pl (.one (.addr 6 [] 1 i.toNat 0))),(179,.pl (.one (.v (.sc (.int .i64 k))))),(182,.pl (.one (.v (.sc (.int .i64 (w.Parents.length:Int)))))),(183,.pl (.one (.v (.sc (.int .i64 ord_2)))))],[(4,.box true [.list false 1 (List.map (rL false 1 (rK .i64)) w.Parents),.list false 4 (List.map (zA false) w.Bodies)]),(5,.box true [.list true 1 (List.map (rL true 1 (rK .i64)) []),.list true 4 (List.map (zA true) [])]),(6,.list true 1 (List.map (rL true 1 rS) behind)),(7,.list true 1 (List.map rB stays)),(8,.box true [.list true 1 (List.map (rL true 1 (rK .i64)) l_1),.list true 4 (List.map (zA true) out__5)]),(9,.list true 1 (List.map rB x120))]⟩ ?_
               refine ops H' ?_
               refine zD ⟨rfl,.inl ⟨rfl,?_⟩⟩
               exact zF [3,6,9,12,13,16,18,19,20,22,174,178,179,182,183] [(4,4),(5,5),(6,6),(7,7),(8,8),(9,9)] 10 d34'
             have d36':zK X ?o3 [0,2,3,4,5,6,7,8,9,10,11,12] [] ?P3 ⟨197,4,11,[(3,.pl (.one (.ref 4 []))),(6,.pl (.one (.ref 5 []))),(9,.pl (.one (.v (.sc (.int .i64 (w.Parents.length:Int)))))),(12,.pl (.one (.ref 6 []))),(13,.pl (.one (.ref 7 []))),(16,.pl (.one (.ref 8 []))),(18,.pl (.one (.ref 9 []))),(19,.pl (.one (.v (.sc (.int .i64 ord_2))))),(20,.pl (.one (.v (.sc (.int .i64 i))))),(22,.pl (.one (.v (.sc (.int .i64 k))))),(173,.pl (.one (.addr 8 [] 0 0 1))),(185,.pl (.one (.ref 10 [])))],[(4,.box true [.list false 1 (List.map (rL false 1 (rK .i64)) w.Parents),.list false 4 (List.map (zA false) w.Bodies)]),(5,.box true [.list true 1 (List.map (rL true 1 (rK .i64)) []),.list true 4 (List.map (zA true) [])]),(6,.list true 1 (List.map (rL true 1 rS) behind)),(7,.list true 1 (List.map rB stays)),(8,.box true [.list true 1 (List.map (rL true 1 (rK .i64)) l_1),.list true 4 (List.map (zA true) out__5)]),(9,.list true 1 (List.map rB x120)),(10,.list true 4 (List.map (zA true) [(T_impl_Body.mk x_1 (w.Parents.length:Int) ord_2 [])]))]⟩:=by
              refine zL [] [.m 1 [] [0,1,2,3,4,5,6,7,8,9,10,11,12] []] [] [(1,false,[],[0,1,2,3,4,5,6,7,8,9,10,11,12])] ⟨?_,trivial⟩
              ·refine zM ⟨197,4,11,[(3,.pl (.one (.ref 4 []))),(6,.pl (.one (.ref 5 []))),(9,.pl (.one (.v (.sc (.int .i64 (w.Parents.length:Int)))))),(12,.pl (.one (.ref 6 []))),(13,.pl (.one (.ref 7 []))),(16,.pl (.one (.ref 8 []))),(18,.pl (.one (.ref 9 []))),(19,.pl (.one (.v (.sc (.int .i64 ord_2))))),(20,.pl (.one (.v (.sc (.int .i64 i))))),(22,.pl (.one (.v (.sc (.int .i64 k))))),(173,.pl (.one (.addr 8 [] 0 0 1))),(185,.pl (.one (.ref 10 [])))],[(4,.box true [.list false 1 (List.map (rL false 1 (rK .i64)) w.Parents),.list false 4 (List.map (zA false) w.Bodies)]),(5,.box true [.list true 1 (List.map (rL true 1 (rK .i64)) []),.list true 4 (List.map (zA true) [])]),(6,.list true 1 (List.map (rL true 1 rS) behind)),(7,.list true 1 (List.map rB stays)),(8,.box true [.list true 1 (List.map (rL true 1 (rK .i64)) l_1),.list true 4 (List.map (zA true) out__5)]),(9,.list true 1 (List.map rB x120)),(10,.list true 4 (List.map (zA true) [(T_impl_Body.mk x_1 (w.Parents.length:Int) ord_2 [])]))]⟩ ?_
               refine ops H' ?_
               refine zD ⟨rfl,.inl ⟨rfl,?_⟩⟩
               exact zF [3,6,9,12,13,16,18,19,20,22,174,185] [(4,4),(5,5),(6,6),(7,7),(8,8),(9,9),(10,10)] 11 d32'
             have d37':zK X ?o3 [0,2,3,4,5,6,7,9,10] [(8,181,.pl (.one (.v (.sc (.string x_1))))),(11,184,.pl (.agg [.v (.sc (.string x_1)),.v (.sc (.int .i64 (w.Parents.length:Int))),.v (.sc (.int .i64 ord_2)),.v (.list true 1 (List.map (rK .i64) []))]))] ?P3 ⟨197,4,10,[(3,.pl (.one (.ref 4 []))),(6,.pl (.one (.ref 5 []))),(9,.pl (.one (.v (.sc (.int .i64 (w.Parents.length:Int)))))),(12,.pl (.one (.ref 6 []))),(13,.pl (.one (.ref 7 []))),(16,.pl (.one (.ref 8 []))),(18,.pl (.one (.ref 9 []))),(19,.pl (.one (.v (.sc (.int .i64 ord_2))))),(20,.pl (.one (.v (.sc (.int .i64 i))))),(22,.pl (.one (.v (.sc (.int .i64 k))))),(173,.pl (.one (.addr 8 [] 0 0 1))),(180,.pl (.one (.addr 6 [(1,i.toNat,0)] 1 k.toNat 0))),(182,.pl (.one (.v (.sc (.int .i64 (w.Parents.length:Int)))))),(183,.pl (.one (.v (.sc (.int .i64 ord_2)))))],[(4,.box true [.list false 1 (List.map (rL false 1 (rK .i64)) w.Parents),.list false 4 (List.map (zA false) w.Bodies)]),(5,.box true [.list true 1 (List.map (rL true 1 (rK .i64)) []),.list true 4 (List.map (zA true) [])]),(6,.list true 1 (List.map (rL true 1 rS) behind)),(7,.list true 1 (List.map rB stays)),(8,.box true [.list true 1 (List.map (rL true 1 (rK .i64)) l_1),.list true 4 (List.map (zA true) out__5)]),(9,.list true 1 (List.map rB x120))]⟩:=by
              refine zL [8,11] [.q 8 181 (.pl (.one (.v (.sc (.string x_1))))) [],.q 11 184 (.pl (.agg [.v (.sc (.string x_1)),.v (.sc (.int .i64 (w.Parents.length:Int))),.v (.sc (.int .i64 ord_2)),.v (.list true 1 (List.map (rK .i64) []))])) [8],.m 1 [] [0,1,2,3,4,5,6,7,9,10] [(8,181,.pl (.one (.v (.sc (.string x_1))))),(11,184,.pl (.agg [.v (.sc (.string x_1)),.v (.sc (.int .i64 (w.Parents.length:Int))),.v (.sc (.int .i64 ord_2)),.v (.list true 1 (List.map (rK .i64) []))]))],.m 12 [11,8] [0,2,3,4,5,6,7,8,9,10,11,12] []] [(8,181),(11,184)] [(8,true,[],[]),(11,true,[8],[]),(1,false,[],[0,1,2,3,4,5,6,7,9,10]),(12,false,[11,8],[0,2,3,4,5,6,7,8,9,10,11,12])] ⟨?_,?_,?_,?_,trivial⟩
              ·refine zG 0 ⟨197,4,10,[(3,.pl (.one (.ref 4 []))),(6,.pl (.one (.ref 5 []))),(9,.pl (.one (.v (.sc (.int .i64 (w.Parents.length:Int)))))),(12,.pl (.one (.ref 6 []))),(13,.pl (.one (.ref 7 []))),(16,.pl (.one (.ref 8 []))),(18,.pl (.one (.ref 9 []))),(19,.pl (.one (.v (.sc (.int .i64 ord_2))))),(20,.pl (.one (.v (.sc (.int .i64 i))))),(22,.pl (.one (.v (.sc (.int .i64 k))))),(173,.pl (.one (.addr 8 [] 0 0 1))),(180,.pl (.one (.addr 6 [(1,i.toNat,0)] 1 k.toNat 0))),(182,.pl (.one (.v (.sc (.int .i64 (w.Parents.length:Int)))))),(183,.pl (.one (.v (.sc (.int .i64 ord_2)))))],[(4,.box true [.list false 1 (List.map (rL false 1 (rK .i64)) w.Parents),.list false 4 (List.map (zA false) w.Bodies)]),(5,.box true [.list true 1 (List.map (rL true 1 (rK .i64)) []),.list true 4 (List.map (zA true) [])]),(6,.list true 1 (List.map (rL true 1 rS) behind)),(7,.list true 1 (List.map rB stays)),(8,.box true [.list true 1 (List.map (rL true 1 (rK .i64)) l_1),.list true 4 (List.map (zA true) out__5)]),(9,.list true 1 (List.map rB x120))]⟩ ?_
               refine ops H' ?_
               refine zD ⟨rfl,shd [181,3,6,9,12,13,16,18,19,20,22,173,180,182,183] [(4,4),(5,5),(6,6),(7,7),(8,8),(9,9)] 10 rfl⟩
              ·refine zG 1 ⟨197,4,10,[(181,.pl (.one (.v (.sc (.string x_1))))),(3,.pl (.one (.ref 4 []))),(6,.pl (.one (.ref 5 []))),(9,.pl (.one (.v (.sc (.int .i64 (w.Parents.length:Int)))))),(12,.pl (.one (.ref 6 []))),(13,.pl (.one (.ref 7 []))),(16,.pl (.one (.ref 8 []))),(18,.pl (.one (.ref 9 []))),(19,.pl (.one (.v (.sc (.int .i64 ord_2))))),(20,.pl (.one (.v (.sc (.int .i64 i))))),(22,.pl (.one (.v (.sc (.int .i64 k))))),(173,.pl (.one (.addr 8 [] 0 0 1))),(180,.pl (.one (.addr 6 [(1,i.toNat,0)] 1 k.toNat 0))),(182,.pl (.one (.v (.sc (.int .i64 (w.Parents.length:Int)))))),(183,.pl (.one (.v (.sc (.int .i64 ord_2)))))],[(4,.box true [.list false 1 (List.map (rL false 1 (rK .i64)) w.Parents),.list false 4 (List.map (zA false) w.Bodies)]),(5,.box true [.list true 1 (List.map (rL true 1 (rK .i64)) []),.list true 4 (List.map (zA true) [])]),(6,.list true 1 (List.map (rL true 1 rS) behind)),(7,.list true 1 (List.map rB stays)),(8,.box true [.list true 1 (List.map (rL true 1 (rK .i64)) l_1),.list true 4 (List.map (zA true) out__5)]),(9,.list true 1 (List.map rB x120))]⟩ ?_
               refine ops H' ?_
               refine zD ⟨rfl,shd [184,3,6,9,12,13,16,18,19,20,22,173,180,182,183] [(4,4),(5,5),(6,6),(7,7),(8,8),(9,9)] 10 rfl⟩
              ·refine zM ⟨197,4,10,[(3,.pl (.one (.ref 4 []))),(6,.pl (.one (.ref 5 []))),(9,.pl (.one (.v (.sc (.int .i64 (w.Parents.length:Int)))))),(12,.pl (.one (.ref 6 []))),(13,.pl (.one (.ref 7 []))),(16,.pl (.one (.ref 8 []))),(18,.pl (.one (.ref 9 []))),(19,.pl (.one (.v (.sc (.int .i64 ord_2))))),(20,.pl (.one (.v (.sc (.int .i64 i))))),(22,.pl (.one (.v (.sc (.int .i64 k))))),(173,.pl (.one (.addr 8 [] 0 0 1))),(180,.pl (.one (.addr 6 [(1,i.toNat,0)] 1 k.toNat 0))),(182,.pl (.one (.v (.sc (.int .i64 (w.Parents.length:Int)))))),(183,.pl (.one (.v (.sc (.int .i64 ord_2)))))],[(4,.box true [.list false 1 (List.map (rL false 1 (rK .i64)) w.Parents),.list false 4 (List.map (zA false) w.Bodies)]),(5,.box true [.list true 1 (List.map (rL true 1 (rK .i64)) []),.list true 4 (List.map (zA true) [])]),(6,.list true 1 (List.map (rL true 1 rS) behind)),(7,.list true 1 (List.map rB stays)),(8,.box true [.list true 1 (List.map (rL true 1 (rK .i64)) l_1),.list true 4 (List.map (zA true) out__5)]),(9,.list true 1 (List.map rB x120))]⟩ ?_
               refine ops H' ?_
               refine zD ⟨rfl,.inl ⟨rfl,?_⟩⟩
               exact zF [3,6,9,12,13,16,18,19,20,22,174,180,182,183] [(4,4),(5,5),(6,6),(7,7),(8,8),(9,9)] 10 d33'
              ·refine zM ⟨197,4,10,[(181,.pl (.one (.v (.sc (.string x_1))))),(184,.pl (.agg [.v (.sc (.string x_1)),.v (.sc (.int .i64 (w.Parents.length:Int))),.v (.sc (.int .i64 ord_2)),.v (.list true 1 (List.map (rK .i64) []))])),(3,.pl (.one (.ref 4 []))),(6,.pl (.one (.ref 5 []))),(9,.pl (.one (.v (.sc (.int .i64 (w.Parents.length:Int)))))),(12,.pl (.one (.ref 6 []))),(13,.pl (.one (.ref 7 []))),(16,.pl (.one (.ref 8 []))),(18,.pl (.one (.ref 9 []))),(19,.pl (.one (.v (.sc (.int .i64 ord_2))))),(20,.pl (.one (.v (.sc (.int .i64 i))))),(22,.pl (.one (.v (.sc (.int .i64 k))))),(173,.pl (.one (.addr 8 [] 0 0 1))),(180,.pl (.one (.addr 6 [(1,i.toNat,0)] 1 k.toNat 0))),(182,.pl (.one (.v (.sc (.int .i64 (w.Parents.length:Int)))))),(183,.pl (.one (.v (.sc (.int .i64 ord_2)))))],[(4,.box true [.list false 1 (List.map (rL false 1 (rK .i64)) w.Parents),.list false 4 (List.map (zA false) w.Bodies)]),(5,.box true [.list true 1 (List.map (rL true 1 (rK .i64)) []),.list true 4 (List.map (zA true) [])]),(6,.list true 1 (List.map (rL true 1 rS) behind)),(7,.list true 1 (List.map rB stays)),(8,.box true [.list true 1 (List.map (rL true 1 (rK .i64)) l_1),.list true 4 (List.map (zA true) out__5)]),(9,.list true 1 (List.map rB x120))]⟩ ?_
               refine ops H' ?_
               refine zD ⟨rfl,.inl ⟨rfl,?_⟩⟩
               exact zF [3,6,9,12,13,16,18,19,20,22,173,185] [(4,4),(5,5),(6,6),(7,7),(8,8),(9,9),(10,10)] 11 d36'
             have d38':zK X ?o3 [0,2,3,4,5,6,9,10] [(8,181,.pl (.one (.v (.sc (.string x_1))))),(11,184,.pl (.agg [.v (.sc (.string x_1)),.v (.sc (.int .i64 (w.Parents.length:Int))),.v (.sc (.int .i64 ord_2)),.v (.list true 1 (List.map (rK .i64) []))]))] ?P3 ⟨197,4,10,[(3,.pl (.one (.ref 4 []))),(6,.pl (.one (.ref 5 []))),(9,.pl (.one (.v (.sc (.int .i64 (w.Parents.length:Int)))))),(12,.pl (.one (.ref 6 []))),(13,.pl (.one (.ref 7 []))),(16,.pl (.one (.ref 8 []))),(18,.pl (.one (.ref 9 []))),(19,.pl (.one (.v (.sc (.int .i64 ord_2))))),(20,.pl (.one (.v (.sc (.int .i64 i))))),(22,.pl (.one (.v (.sc (.int .i64 k))))),(173,.pl (.one (.addr 8 [] 0 0 1))),(178,.pl (.one (.ref 6 [(1,i.toNat,0)]))),(179,.pl (.one (.v (.sc (.int .i64 k))))),(182,.pl (.one (.v (.sc (.int .i64 (w.Parents.length:Int)))))),(183,.pl (.one (.v (.sc (.int .i64 ord_2)))))],[(4,.box true [.list false 1 (List.map (rL false 1 (rK .i64)) w.Parents),.list false 4 (List.map (zA false) w.Bodies)]),(5,.box true [.list true 1 (List.map (rL true 1 (rK .i64)) []),.list true 4 (List.map (zA true) [])]),(6,.list true 1 (List.map (rL true 1 rS) behind)),(7,.list true 1 (List.map rB stays)),(8,.box true [.list true 1 (List.map (rL true 1 (rK .i64)) l_1),.list true 4 (List.map (zA true) out__5)]),(9,.list true 1 (List.map rB x120))]⟩:=by
              refine zL [] [.m 1 [] [0,1,2,3,4,5,6,9,10] [(8,181,.pl (.one (.v (.sc (.string x_1))))),(11,184,.pl (.agg [.v (.sc (.string x_1)),.v (.sc (.int .i64 (w.Parents.length:Int))),.v (.sc (.int .i64 ord_2)),.v (.list true 1 (List.map (rK .i64) []))]))],.m 7 [] [0,2,3,4,5,6,7,9,10] [(8,181,.pl (.one (.v (.sc (.string x_1))))),(11,184,.pl (.agg [.v (.sc (.string x_1)),.v (.sc (.int .i64 (w.Parents.length:Int))),.v (.sc (.int .i64 ord_2)),.v (.list true 1 (List.map (rK .i64) []))]))]] [(8,181),(11,184)] [(1,false,[],[0,1,2,3,4,5,6,9,10]),(7,false,[],[0,2,3,4,5,6,7,9,10])] ⟨?_,?_,trivial⟩
              ·refine zM ⟨197,4,10,[(3,.pl (.one (.ref 4 []))),(6,.pl (.one (.ref 5 []))),(9,.pl (.one (.v (.sc (.int .i64 (w.Parents.length:Int)))))),(12,.pl (.one (.ref 6 []))),(13,.pl (.one (.ref 7 []))),(16,.pl (.one (.ref 8 []))),(18,.pl (.one (.ref 9 []))),(19,.pl (.one (.v (.sc (.int .i64 ord_2))))),(20,.pl (.one (.v (.sc (.int .i64 i))))),(22,.pl (.one (.v (.sc (.int .i64 k))))),(173,.pl (.one (.addr 8 [] 0 0 1))),(178,.pl (.one (.ref 6 [(1,i.toNat,0)]))),(179,.pl (.one (.v (.sc (.int .i64 k))))),(182,.pl (.one (.v (.sc (.int .i64 (w.Parents.length:Int)))))),(183,.pl (.one (.v (.sc (.int .i64 ord_2)))))],[(4,.box true [.list false 1 (List.map (rL false 1 (rK .i64)) w.Parents),.list false 4 (List.map (zA false) w.Bodies)]),(5,.box true [.list true 1 (List.map (rL true 1 (rK .i64)) []),.list true 4 (List.map (zA true) [])]),(6,.list true 1 (List.map (rL true 1 rS) behind)),(7,.list true 1 (List.map rB stays)),(8,.box true [.list true 1 (List.map (rL true 1 (rK .i64)) l_1),.list true 4 (List.map (zA true) out__5)]),(9,.list true 1 (List.map rB x120))]⟩ ?_
               refine ops H' ?_
               refine zD ⟨rfl,.inl ⟨rfl,?_⟩⟩
               exact zF [3,6,9,12,13,16,18,19,20,22,174,178,179,182,183] [(4,4),(5,5),(6,6),(7,7),(8,8),(9,9)] 10 d34'
              ·refine zM ⟨197,4,10,[(3,.pl (.one (.ref 4 []))),(6,.pl (.one (.ref 5 []))),(9,.pl (.one (.v (.sc (.int .i64 (w.Parents.length:Int)))))),(12,.pl (.one (.ref 6 []))),(13,.pl (.one (.ref 7 []))),(16,.pl (.one (.ref 8 []))),(18,.pl (.one (.ref 9 []))),(19,.pl (.one (.v (.sc (.int .i64 ord_2))))),(20,.pl (.one (.v (.sc (.int .i64 i))))),(22,.pl (.one (.v (.sc (.int .i64 k))))),(173,.pl (.one (.addr 8 [] 0 0 1))),(178,.pl (.one (.ref 6 [(1,i.toNat,0)]))),(179,.pl (.one (.v (.sc (.int .i64 k))))),(182,.pl (.one (.v (.sc (.int .i64 (w.Parents.length:Int)))))),(183,.pl (.one (.v (.sc (.int .i64 ord_2)))))],[(4,.box true [.list false 1 (List.map (rL false 1 (rK .i64)) w.Parents),.list false 4 (List.map (zA false) w.Bodies)]),(5,.box true [.list true 1 (List.map (rL true 1 (rK .i64)) []),.list true 4 (List.map (zA true) [])]),(6,.list true 1 (List.map (rL true 1 rS) behind)),(7,.list true 1 (List.map rB stays)),(8,.box true [.list true 1 (List.map (rL true 1 (rK .i64)) l_1),.list true 4 (List.map (zA true) out__5)]),(9,.list true 1 (List.map rB x120))]⟩ ?_
               refine ops H' ?_
               refine zD ⟨rfl,.inl ⟨rfl,?_⟩⟩
               exact zF [3,6,9,12,13,16,18,19,20,22,173,180,182,183] [(4,4),(5,5),(6,6),(7,7),(8,8),(9,9)] 10 d37'
             have d39':zK X ?o3 [0,2,3,4,6,9,10] [(8,181,.pl (.one (.v (.sc (.string x_1))))),(11,184,.pl (.agg [.v (.sc (.string x_1)),.v (.sc (.int .i64 (w.Parents.length:Int))),.v (.sc (.int .i64 ord_2)),.v (.list true 1 (List.map (rK .i64) []))]))] ?P3 ⟨197,4,10,[(3,.pl (.one (.ref 4 []))),(6,.pl (.one (.ref 5 []))),(9,.pl (.one (.v (.sc (.int .i64 (w.Parents.length:Int)))))),(12,.pl (.one (.ref 6 []))),(13,.pl (.one (.ref 7 []))),(16,.pl (.one (.ref 8 []))),(18,.pl (.one (.ref 9 []))),(19,.pl (.one (.v (.sc (.int .i64 ord_2))))),(20,.pl (.one (.v (.sc (.int .i64 i))))),(22,.pl (.one (.v (.sc (.int .i64 k))))),(173,.pl (.one (.addr 8 [] 0 0 1))),(177,.pl (.one (.addr 6 [] 1 i.toNat 0))),(179,.pl (.one (.v (.sc (.int .i64 k))))),(182,.pl (.one (.v (.sc (.int .i64 (w.Parents.length:Int)))))),(183,.pl (.one (.v (.sc (.int .i64 ord_2)))))],[(4,.box true [.list false 1 (List.map (rL false 1 (rK .i64)) w.Parents),.list false 4 (List.map (zA false) w.Bodies)]),(5,.box true [.list true 1 (List.map (rL true 1 (rK .i64)) []),.list true 4 (List.map (zA true) [])]),(6,.list true 1 (List.map (rL true 1 rS) behind)),(7,.list true 1 (List.map rB stays)),(8,.box true [.list true 1 (List.map (rL true 1 (rK .i64)) l_1),.list true 4 (List.map (zA true) out__5)]),(9,.list true 1 (List.map rB x120))]⟩:=by
              refine zL [] [.m 1 [] [0,1,2,3,4,6,9,10] [(8,181,.pl (.one (.v (.sc (.string x_1))))),(11,184,.pl (.agg [.v (.sc (.string x_1)),.v (.sc (.int .i64 (w.Parents.length:Int))),.v (.sc (.int .i64 ord_2)),.v (.list true 1 (List.map (rK .i64) []))]))],.m 5 [] [0,2,3,4,5,6,9,10] [(8,181,.pl (.one (.v (.sc (.string x_1))))),(11,184,.pl (.agg [.v (.sc (.string x_1)),.v (.sc (.int .i64 (w.Parents.length:Int))),.v (.sc (.int .i64 ord_2)),.v (.list true 1 (List.map (rK .i64) []))]))]] [(8,181),(11,184)] [(1,false,[],[0,1,2,3,4,6,9,10]),(5,false,[],[0,2,3,4,5,6,9,10])] ⟨?_,?_,trivial⟩
              ·refine zM ⟨197,4,10,[(3,.pl (.one (.ref 4 []))),(6,.pl (.one (.ref 5 []))),(9,.pl (.one (.v (.sc (.int .i64 (w.Parents.length:Int)))))),(12,.pl (.one (.ref 6 []))),(13,.pl (.one (.ref 7 []))),(16,.pl (.one (.ref 8 []))),(18,.pl (.one (.ref 9 []))),(19,.pl (.one (.v (.sc (.int .i64 ord_2))))),(20,.pl (.one (.v (.sc (.int .i64 i))))),(22,.pl (.one (.v (.sc (.int .i64 k))))),(173,.pl (.one (.addr 8 [] 0 0 1))),(177,.pl (.one (.addr 6 [] 1 i.toNat 0))),(179,.pl (.one (.v (.sc (.int .i64 k))))),(182,.pl (.one (.v (.sc (.int .i64 (w.Parents.length:Int)))))),(183,.pl (.one (.v (.sc (.int .i64 ord_2)))))],[(4,.box true [.list false 1 (List.map (rL false 1 (rK .i64)) w.Parents),.list false 4 (List.map (zA false) w.Bodies)]),(5,.box true [.list true 1 (List.map (rL true 1 (rK .i64)) []),.list true 4 (List.map (zA true) [])]),(6,.list true 1 (List.map (rL true 1 rS) behind)),(7,.list true 1 (List.map rB stays)),(8,.box true [.list true 1 (List.map (rL true 1 (rK .i64)) l_1),.list true 4 (List.map (zA true) out__5)]),(9,.list true 1 (List.map rB x120))]⟩ ?_
               refine ops H' ?_
               refine zD ⟨rfl,.inl ⟨rfl,?_⟩⟩
               exact zF [3,6,9,12,13,16,18,19,20,22,174,177,179,182,183] [(4,4),(5,5),(6,6),(7,7),(8,8),(9,9)] 10 d35'
              ·refine zM ⟨197,4,10,[(3,.pl (.one (.ref 4 []))),(6,.pl (.one (.ref 5 []))),(9,.pl (.one (.v (.sc (.int .i64 (w.Parents.length:Int)))))),(12,.pl (.one (.ref 6 []))),(13,.pl (.one (.ref 7 []))),(16,.pl (.one (.ref 8 []))),(18,.pl (.one (.ref 9 []))),(19,.pl (.one (.v (.sc (.int .i64 ord_2))))),(20,.pl (.one (.v (.sc (.int .i64 i))))),(22,.pl (.one (.v (.sc (.int .i64 k))))),(173,.pl (.one (.addr 8 [] 0 0 1))),(177,.pl (.one (.addr 6 [] 1 i.toNat 0))),(179,.pl (.one (.v (.sc (.int .i64 k))))),(182,.pl (.one (.v (.sc (.int .i64 (w.Parents.length:Int)))))),(183,.pl (.one (.v (.sc (.int .i64 ord_2)))))],[(4,.box true [.list false 1 (List.map (rL false 1 (rK .i64)) w.Parents),.list false 4 (List.map (zA false) w.Bodies)]),(5,.box true [.list true 1 (List.map (rL true 1 (rK .i64)) []),.list true 4 (List.map (zA true) [])]),(6,.list true 1 (List.map (rL true 1 rS) behind)),(7,.list true 1 (List.map rB stays)),(8,.box true [.list true 1 (List.map (rL true 1 (rK .i64)) l_1),.list true 4 (List.map (zA true) out__5)]),(9,.list true 1 (List.map rB x120))]⟩ ?_
               refine ops H' ?_
               refine zD ⟨rfl,.inl ⟨rfl,?_⟩⟩
               exact zF [3,6,9,12,13,16,18,19,20,22,173,178,179,182,183] [(4,4),(5,5),(6,6),(7,7),(8,8),(9,9)] 10 d38'
             refine fpure H' 0 [0] [(8,181),(11,184)] ?_
             refine fpure H' 2 [0,2] [(8,181),(11,184)] ?_
             refine fpure H' 3 [0,2,3] [(8,181),(11,184)] ?_
             refine fpure H' 4 [0,2,3,4] [(8,181),(11,184)] ?_
             refine fpure H' 6 [0,2,3,4,6] [(8,181),(11,184)] ?_
             refine fpure H' 9 [0,2,3,4,6,9] [(8,181),(11,184)] ?_
             refine fpure H' 10 [0,2,3,4,6,9,10] [(8,181),(11,184)] ?_
             exact zF [3,6,9,12,13,16,18,19,20,22,173,177,179,182,183] [(4,4),(5,5),(6,6),(7,7),(8,8),(9,9)] 10 d39'
            ·rintro e' rfl
             refine contN ?_
             refine zB ?_
             refine ops H' ?_
             refine zE ?_
             refine zB ?_
             refine ops H' ?_
             refine zE ?_
             obtain rfl:=zso h2'
             exact shd [3,6,9,12,13,16,18,19,20,22] [(4,4),(5,5),(6,6),(7,7),(8,8),(9,9)] 10 ⟨_,rfl,_,_,_,rfl,rfl⟩
           ·replace h2':=(ifF hc').symm.trans h2'
            refine exitN ?_
            obtain rfl:=zso h2'
            refine ⟨_,rfl,fun hr'=>?_⟩
            subst hr'
            exact shd [3,6,9,12,13,16,18,19,20] [(4,4),(5,5),(6,6),(7,7),(8,8),(9,9)] 10 ⟨_,_,h1',rfl⟩
         ·rintro e' ⟨ord_1,out__3,h1',rfl⟩
          unfold spec_l06Add_j4 at h1'
          refine zB ?_
          refine ops H' ?_
          refine zE ?_
          obtain rfl:=zso h1'
          exact shd [3,6,9,12,13,16,18,19,20] [(4,4),(5,5),(6,6),(7,7),(8,8),(9,9)] 10 ⟨_,rfl,_,_,_,rfl,rfl⟩
        ·replace h1':=(ifF hc').symm.trans h1'
         refine exitN ?_
         obtain rfl:=zso h1'
         refine ⟨_,rfl,fun hr'=>?_⟩
         subst hr'
         exact shd [6,9,16] [(5,4),(8,5)] 6 ⟨_,h0',rfl⟩
       ·rintro e' ⟨out__1,h0',rfl⟩
        unfold spec_l06Add_j3 at h0'
        refine zC ?_
        refine zC ?_
        refine zB ?_
        refine ops H' ?_
        refine zE ?_
        refine zH (fun hc'=>?_) (fun hc'=>?_)
        ·replace h0':=(ifT hc').symm.trans h0'
         refine zC ?_
         refine zB ?_
         refine ops H' ?_
         refine zE ?_
         refine retN ?_
         obtain rfl:=zso h0'
         exact outC H' rfl rfl
        ·replace h0':=(ifF hc').symm.trans h0'
         refine zR ?_
         refine zC ?_
         refine zB ?_
         refine ops H' ?_
         refine zE ?_
         refine retN ?_
         obtain rfl:=zso h0'
         exact outC H' rfl rfl
end Go.TV.KFnLives
