/- The law WireCutsDoNotMatter holds for every input of bulk up to the given bound: it returns true and leaves its arguments as they were. Written by program. -/
import Derived.Test.YtjjgjalfelnclaaGreatDoorKWireCutsDoNotMatter6
set_option linter.unusedVariables false
set_option linter.unusedSimpArgs false
set_option maxRecDepth 100000
set_option maxHeartbeats 40000000
namespace Go.Proofs.YtjjgjalfelnclaaGreatDoor
open Go.RowKit Go.Proofs.Tryz
theorem vpa(a0:zua)(a1:Str)(a2:Int)(a3:Int)(a4:Bool)(a5:List Int)(a6:Int)(r:(List zua) × (List Int) × zqa)(hr:z5a a0 a1 a2 a3 a4 a5 a6=some r):Run prog 7 [.agg (zN0 a0),.s a1,.i a2,.i a3,.bo a4,.l cI a5,.i a6] (.tup [.l zua.pc r.1,.l cI r.2.1,.agg [.i r.2.2.Code,.i r.2.2.Index]]):=by
 unfold z5a at hr;refine rfx (fn:=Tryz.f7) func7 fun g0 hg=>?_
 refine clx tk 12 hr (Yoa _ _ _) fun v1 _ hr=>?_
 refine clx tk 13 hr (zwa _) fun v3 _ hr=>?_
 refine ax tk 2 33 hr (fun hr=>?_) fun hr=>?_
 .refine mdq tk 1 [] [14,15,16] .nil ?_ mixed;exact kx tk 3 hr
 refine clx tk 7 hr (zmb _ _ _) fun v6 _ hr=>?_
 refine clx tk 16 hr (zwa _) fun v8 _ hr=>?_
 refine ax tk 3 43 hr (fun hr=>?_) fun hr=>?_
 .refine mdq tk 1 [] [14,15,16] .nil ?_ mixed;exact kx tk 4 hr
 refine rn tk 3 rfl<|wn tk rfl rfl rfl ?_;refine ax tk 4 47 hr (fun hr=>?_) fun hr=>?_
 .refine clx tk 2 hr (zea _ _) fun v12 _ hr=>?_
  exact kx tk 8 hr
 refine iq tk 3 100000 [5,6,16,17,19,20] (fn:=f19) ⟨func19,rfl,by kernel_rfl⟩ fun T1 ds1=>?_
 refine ctq tk 9 hr [] [199999,100005,100006,100016,100017,100019,100020,20,19,17,16] (fun j14=>[(7,.i j14)]) (fun _=>[]) (fun j14 hr jump2=>?_) (fun j14 hr=>?_)
 .refine iq tk 0 200000 [] (fn:=f37) ⟨func37,rfl,by kernel_rfl⟩ fun T2 ds2=>?_
  refine rn tk 9 rfl<|wn tk rfl rfl rfl ?_;refine aq2 tk 4 hr [0,1,7] [299999,199999,100005,100006,100016,100017,100019,100020,20,19,17,16] (fun s15=>[(8,.i s15)]) (fun _=>[]) (.exit 0) [] [299999,199999,100005,100006,100016,100017,100019,100020,20,19,17,16] (fun _=>[]) (fun _=>[]) .ret [] [299999,199999,100005,100006,100016,100017,100019,100020,20,19,17,16] (fun b17=>[(4,.i b17)]) (fun _=>[]) (fun s15 x19 hr=>?_) (fun b16 hr=>?_) (fun b17 hr=>?_)
  .unfold qOa at hr;refine ax tk 6 9 hr (fun hr=>?_) fun hr=>?_
   .refine rn tk 15 rfl ?_;obtain ⟨v21,h22,hr⟩:=zaa hr;refine wi tk h22 rfl rfl rfl rfl rfl ?_;refine iq tk 1 400000 [0,1,5,7,8] (fn:=f20) ⟨func20,rfl,by kernel_rfl⟩ fun T4 ds4=>?_
    refine jq tk 5 hr [] [499999,400000,400001,400007,400008,400005,299999,199999,100005,100006,100016,100017,100019,100020,20,19,17,16] (fun j23=>[(2,.bo j23)]) (fun _=>[]) (fun j23 hr=>?_) (fun j23 hr=>?_)
    .refine bx tk 4 5 hr (fun c24 hr=>?_) fun c24 hr=>?_
     .exact jx tk 5 hr
     exact jx tk 5 hr
    refine ieq tk 1 (hO ?_);refine ax tk 2 16 hr (fun hr=>?_) fun hr=>?_
    .exact ox tk 9 hr
    exact cx tk 7 hr
   exact ox tk 2 hr
  .refine ieq tk 8 ?_;cases hr;exact jump2 _ _ rfl rfl
  refine ieq tk 2 ?_;cases hr;exact jump2 _ _ rfl rfl
 refine ieq tk 5 (hO ?_);refine ax tk 3 52 hr (fun hr=>?_) fun hr=>?_
 .refine clx tk 2 hr (zea _ _) fun v27 _ hr=>?_
  exact kx tk 8 hr
 refine jq tk 0 hr [5,6,16,17,19,20] [20,19,17,16] (fun j29=>[(56,.bo j29)]) (fun _=>[]) (fun j29 hr=>?_) (fun j29 hr=>?_)
 .refine bx tk 4 59 hr (fun c30 hr=>?_) fun c30 hr=>?_
  .exact jx tk 5 hr
  exact jx tk 5 hr
 refine ax tk 0 56 hr (fun hr=>?_) fun hr=>?_
 .refine clx tk 2 hr (zea _ _) fun v32 _ hr=>?_
  exact kx tk 8 hr
 refine rn tk 8 rfl<|wo (Qma (k:=67) 90006000 rfl rfl rfl rfl rfl) rfl<|rn tk 1 rfl ?_;refine kJa 90006030 (o:=90006000) (j:=29) 5 1 rfl rfl rfl rfl (hO ?_);refine kJa 90006031 (o:=90006000) (j:=30) 5 1 rfl rfl rfl rfl (hO ?_);refine kJa 90006032 (o:=90006000) (j:=31) 30 5 rfl rfl rfl rfl (hO ?_);refine rn tk 6 rfl<|wz zra.pc ([v6.2.1]:List zra) tk rfl rfl (fun _=>rfl) rfl rfl rfl ?_;refine csx tk 0 hr (y6a _ _) fun v34 _ hr=>?_
 refine aq1 tk 11 hr [5,16,21] [16] (fun s36=>[(22,.i s36.1),(23,.i s36.2.1)]) (fun s36=>zma.sto s36.2.2) (.exit 1) [16,21] [16] (fun _=>[]) (fun b37=>zma.sto b37) (fun s36 x38 hr=>?_) (fun b37 hr=>?_)
 .unfold kya at hr;refine jq tk 1 hr [5,16,21,22,23] [90006000,90006030,90006031,90006032,16] (fun j39=>[(88,.bo j39)]) (fun _=>[]) (fun j39 hr=>?_) (fun j39 hr=>?_)
  .refine dq tk 0 10 [] [(4,.i ((s36.2.2.down.length:Int))),(9,.i ((s36.2.2.up.length:Int)))] .nil (.cons rfl rfl (kua (kmb (F:=cU) rfl rfl zja.u)) (.cons rfl rfl (kua (kmb (F:=cU) rfl rfl zja.u)) .nil)) ?_ mixed;refine bx tk 3 85 hr (fun c40 hr=>?_) fun c40 hr=>?_
   .exact jx tk 4 hr
   exact jx tk 4 hr
  refine ax tk 0 88 hr (fun hr=>?_) fun hr=>?_
  .refine jq tk 2 hr [5,16,21,22] [16] (fun j42=>[(23,.i j42.1)]) (fun j42=>zma.sto j42.2) (fun j42 hr=>?_) (fun j42 hr=>?_)
   .refine jq tk 6 hr [5,16,21,22,23] [90006000,90006030,90006031,90006032,16] (fun j43=>[(24,.i j43)]) (fun _=>[]) (fun j43 hr=>?_) (fun j43 hr=>?_)
    .refine rn tk 3 rfl<|wn tk rfl rfl rfl ?_;refine ax tk 3 93 hr (fun hr=>?_) fun hr=>?_
     .refine rn tk 4 rfl<|wn tk rfl rfl rfl ?_;obtain ⟨v45,h46,hr⟩:=zaa hr;refine wq (ev_irem rfl rfl (nz_spec h46)) rfl rfl rfl ?_;obtain ⟨v47,h48,hr⟩:=zaa hr;refine wi tk h48 rfl rfl rfl rfl rfl ?_;exact jx tk 3 hr
     exact jx tk 1 hr
    refine jq tk 0 hr [5,16,21,22,23] [90006000,90006030,90006031,90006032,16] (fun j49=>[(24,.i j49)]) (fun _=>[]) (fun j49 hr=>?_) (fun j49 hr=>?_)
    .refine jq tk 0 hr [5,16,21,22,23,24] [90006000,90006030,90006031,90006032,16] (fun j50=>[(111,.bo j50)]) (fun _=>[]) (fun j50 hr=>?_) (fun j50 hr=>?_)
     .refine bx tk 4 103 hr (fun c51 hr=>?_) fun c51 hr=>?_
      .refine bx tk 3 106 hr (fun c52 hr=>?_) fun c52 hr=>?_
       .exact jx tk 6 hr
       exact jx tk 6 hr
      exact jx tk 9 hr
     refine ax tk 0 111 hr (fun hr=>?_) fun hr=>?_
     .exact jx tk 4 hr
     exact jx tk 1 hr
    refine csx tk 4 hr (Qha s36.2.2 j49) fun v54 _ hr=>?_
    refine ax tk 9 117 hr (fun hr=>?_) fun hr=>?_
    .exact jx tk 7 hr
    exact jx tk 2 hr
   exact cx tk 5 hr
  exact ox tk 2 hr
 refine jq tk 2 hr [16,21] [16] (fun _=>[]) (fun j57=>zma.sto j57) (fun j57 hr=>?_) (fun j57 hr=>?_)
 .refine ax tk 10 126 hr (fun hr=>?_) fun hr=>?_
  .refine clx tk 6 hr (Yna _) fun v59 _ hr=>?_
   exact jx tk 7 hr
  exact jx tk 1 hr
 refine rn tk 1 rfl ?_;obtain ⟨v61,h62,hr⟩:=zaa hr;refine mdq tk 0 [(9,.agg [.i v61.Code,.i v61.Index])] [14,15,16] (.cons rfl rfl (fun _ _=>(zVa (zya v61 h62) rfl)) .nil) ?_ mixed;refine rn tk 1 rfl ?_;refine qTa (d:=14) (F:=zua.pc) (l:=j57.mails) rfl rfl (hC ?_);exact kx tk 1 hr
theorem Kta(r:Bool)(hr:wRa=some r):Run prog 9 [] (.bo r):=by
 unfold wRa at hr;refine rfx (fn:=f9) func9 fun g0 hg=>?_
 refine rn tk 7 rfl<|wz cS ([([97,64,121]:Str)]:List Str) tk rfl rfl (fun _=>rfl) rfl rfl rfl ?_;refine clx tk 0 hr (K8a _) fun v1 _ hr=>?_
 refine clx tk 0 hr (vpa _ _ _ _ _ _ _) fun v3 _ hr=>?_
 refine rn tk 12 rfl<|wz cS ([([97,64,121]:Str)]:List Str) tk rfl rfl (fun _=>rfl) rfl rfl rfl ?_;refine clx tk 0 hr (K8a _) fun v5 _ hr=>?_
 refine wz cI ([1]:List Int) tk rfl rfl (fun _=>rfl) rfl rfl rfl ?_;refine clx tk 0 hr (vpa _ _ _ _ _ _ _) fun v7 _ hr=>?_
 refine rn tk 12 rfl<|wz cS ([([97,64,121]:Str)]:List Str) tk rfl rfl (fun _=>rfl) rfl rfl rfl ?_;refine clx tk 0 hr (K8a _) fun v9 _ hr=>?_
 refine wz cI ([0]:List Int) tk rfl rfl (fun _=>rfl) rfl rfl rfl ?_;refine clx tk 0 hr (vpa _ _ _ _ _ _ _) fun v11 _ hr=>?_
 refine jq tk 10 hr [] [] (fun j13=>[(0,.bo j13)]) (fun _=>[]) (fun j13 hr=>?_) (fun j13 hr=>?_)
 .refine jma ((v3.2.2.Code==0)) (fun c14=>?_) (fun c14=>?_)
  .replace hr:=ztb c14 hr
   refine jma ((v7.2.2.Code==0)) (fun c15=>?_) (fun c15=>?_)
   .replace hr:=ztb c15 hr
    obtain ⟨v16,h17,hr⟩:=zaa hr;refine jma ((wna [(v11.2.2.Code==v16.Code),(v11.2.2.Index==v16.Index)])) (fun c18=>?_) (fun c18=>?_)
    .replace hr:=ztb c18 hr
     refine jma (((v3.1.length:Int)==1)) (fun c19=>?_) (fun c19=>?_)
     .replace hr:=ztb c19 hr
      obtain ⟨v20,h21,hr⟩:=zaa hr;refine jma v20 (fun c22=>?_) (fun c22=>?_)
      .replace hr:=ztb c22 hr
       refine jma (((v7.1.length:Int)==0)) (fun c23=>?_) (fun c23=>?_)
       .replace hr:=ztb c23 hr
        refine dq tk 0 31 [(36,true),(41,true),(46,true),(51,true),(56,true),(61,true)] [(10,.agg [.i v16.Code,.i v16.Index]),(11,.bo ((wna [(v11.2.2.Code==v16.Code),(v11.2.2.Index==v16.Index)]))),(15,.i ((v3.1.length:Int))),(20,.l cI (([1]:List Int))),(21,.bo v20),(25,.i ((v7.1.length:Int))),(30,.l cI (([2]:List Int)))] (.cons rfl c14 (.cons rfl c15 (.cons rfl c18 (.cons rfl c19 (.cons rfl c22 (.cons rfl c23 .nil)))))) (.cons rfl rfl (zVa (Wfa 3 ((-25)) v16 h17) rfl) (.cons rfl rfl (kua (jsa rfl rfl kPa w1a (.int rfl (by decide) kQa (.int rfl (by decide) kQa .nil)))) (.cons rfl rfl (kua (yua (f:=zua.pc) rfl kda.u)) (.cons rfl rfl (wja (F:=cI) (l:=([1]:List Int)) q3a kQa rfl (fun _=>rfl) rfl rfl) (.cons rfl rfl (zVa (ZSa v3.2.1 (([1]:List Int)) v20 h21) rfl) (.cons rfl rfl (kua (yua (f:=zua.pc) rfl kda.u)) (.cons rfl rfl (wja (F:=cI) (l:=([2]:List Int)) q3a kQa rfl (fun _=>rfl) rfl rfl) .nil))))))) ?_ mixed;refine kn 61 c23 rfl ?_;obtain ⟨v24,h25,hr⟩:=zaa hr;refine ug rfl rfl rfl<|cl (ZSa _ _ _ h25) rfl rfl ?_;exact jx tk 3 hr
       replace hr:=zub c23 hr
       refine dq tk 0 31 [(36,true),(41,true),(46,true),(51,true),(56,true),(61,false)] [(10,.agg [.i v16.Code,.i v16.Index]),(11,.bo ((wna [(v11.2.2.Code==v16.Code),(v11.2.2.Index==v16.Index)]))),(15,.i ((v3.1.length:Int))),(20,.l cI (([1]:List Int))),(21,.bo v20),(25,.i ((v7.1.length:Int)))] (.cons rfl c14 (.cons rfl c15 (.cons rfl c18 (.cons rfl c19 (.cons rfl c22 (.cons rfl c23 .nil)))))) (.cons rfl rfl (zVa (Wfa 3 ((-25)) v16 h17) rfl) (.cons rfl rfl (kua (jsa rfl rfl kPa w1a (.int rfl (by decide) kQa (.int rfl (by decide) kQa .nil)))) (.cons rfl rfl (kua (yua (f:=zua.pc) rfl kda.u)) (.cons rfl rfl (wja (F:=cI) (l:=([1]:List Int)) q3a kQa rfl (fun _=>rfl) rfl rfl) (.cons rfl rfl (zVa (ZSa v3.2.1 (([1]:List Int)) v20 h21) rfl) (.cons rfl rfl (kua (yua (f:=zua.pc) rfl kda.u)) .nil)))))) ?_ mixed;refine kn 61 c23 rfl ?_;exact jx tk 4 hr
      replace hr:=zub c22 hr
      refine dq tk 0 31 [(36,true),(41,true),(46,true),(51,true),(56,false)] [(10,.agg [.i v16.Code,.i v16.Index]),(11,.bo ((wna [(v11.2.2.Code==v16.Code),(v11.2.2.Index==v16.Index)]))),(15,.i ((v3.1.length:Int))),(20,.l cI (([1]:List Int))),(21,.bo v20)] (.cons rfl c14 (.cons rfl c15 (.cons rfl c18 (.cons rfl c19 (.cons rfl c22 .nil))))) (.cons rfl rfl (zVa (Wfa 3 ((-25)) v16 h17) rfl) (.cons rfl rfl (kua (jsa rfl rfl kPa w1a (.int rfl (by decide) kQa (.int rfl (by decide) kQa .nil)))) (.cons rfl rfl (kua (yua (f:=zua.pc) rfl kda.u)) (.cons rfl rfl (wja (F:=cI) (l:=([1]:List Int)) q3a kQa rfl (fun _=>rfl) rfl rfl) (.cons rfl rfl (zVa (ZSa v3.2.1 (([1]:List Int)) v20 h21) rfl) .nil))))) ?_ mixed;exact jx tk 4 hr
     replace hr:=zub c19 hr
     refine dq tk 0 31 [(36,true),(41,true),(46,true),(51,false)] [(10,.agg [.i v16.Code,.i v16.Index]),(11,.bo ((wna [(v11.2.2.Code==v16.Code),(v11.2.2.Index==v16.Index)]))),(15,.i ((v3.1.length:Int)))] (.cons rfl c14 (.cons rfl c15 (.cons rfl c18 (.cons rfl c19 .nil)))) (.cons rfl rfl (zVa (Wfa 3 ((-25)) v16 h17) rfl) (.cons rfl rfl (kua (jsa rfl rfl kPa w1a (.int rfl (by decide) kQa (.int rfl (by decide) kQa .nil)))) (.cons rfl rfl (kua (yua (f:=zua.pc) rfl kda.u)) .nil))) ?_ mixed;exact jx tk 4 hr
    replace hr:=zub c18 hr
    refine dq tk 0 31 [(36,true),(41,true),(46,false)] [(10,.agg [.i v16.Code,.i v16.Index]),(11,.bo ((wna [(v11.2.2.Code==v16.Code),(v11.2.2.Index==v16.Index)])))] (.cons rfl c14 (.cons rfl c15 (.cons rfl c18 .nil))) (.cons rfl rfl (zVa (Wfa 3 ((-25)) v16 h17) rfl) (.cons rfl rfl (kua (jsa rfl rfl kPa w1a (.int rfl (by decide) kQa (.int rfl (by decide) kQa .nil)))) .nil)) ?_ mixed;exact jx tk 4 hr
   replace hr:=zub c15 hr
   refine dq tk 0 31 [(36,true),(41,false)] [] (.cons rfl c14 (.cons rfl c15 .nil)) .nil ?_ mixed;exact jx tk 4 hr
  replace hr:=zub c14 hr
  refine dq tk 0 31 [(36,false)] [] (.cons rfl c14 .nil) .nil ?_ mixed;exact jx tk 4 hr
 exact kx tk 1 hr
theorem WYa(a0:zta)(a1:zta)(r:Bool)(hr:w4a a0 a1=some r):Run prog 13 [.agg [.l zga.pc a0.Fields,.l cU a0.Body],.agg [.l zga.pc a1.Fields,.l cU a1.Body]] (.bo r):=by
 unfold w4a at hr;refine rfx (fn:=f13) func13 fun g0 hg=>?_
 refine jq tk 8 hr [2,3] [3,2] (fun j1=>[(21,.bo j1)]) (fun _=>[]) (fun j1 hr=>?_) (fun j1 hr=>?_)
 .refine rn tk 3 rfl<|wn tk rfl rfl rfl<|rn tk 2 rfl<|wn tk rfl rfl rfl ?_;refine bx tk 2 13 hr (fun c2 hr=>?_) fun c2 hr=>?_
  .exact jx tk 9 hr
  refine rn tk 2 rfl<|ug rfl rfl rfl<|wb tk rfl rfl rfl<|rn tk 2 rfl<|ug rfl rfl rfl<|wb tk rfl rfl rfl ?_;exact jx tk 3 hr
 refine ax tk 0 21 hr (fun hr=>?_) fun hr=>?_
 .exact kx tk 7 hr
 refine aq2 tk 9 hr [2,3] [3,2] (fun s4=>[(5,.i s4)]) (fun _=>[]) (.exit 0) [] [] (fun _=>[]) (fun _=>[]) .ret [] [] (fun b6=>[(4,.bo b6)]) (fun _=>[]) (fun s4 x8 hr=>?_) (fun b5 hr=>?_) (fun b6 hr=>?_)
 .unfold wEa at hr;refine rn tk 6 rfl<|wn tk rfl rfl rfl ?_;refine ax tk 3 26 hr (fun hr=>?_) fun hr=>?_
  .refine rn tk 5 rfl ?_;obtain ⟨v10,h11,hr⟩:=zaa hr;obtain ⟨v12,h13,hr⟩:=zaa hr;refine mdq tk 0 [(3,.ep [pS v10.Name,pS v10.Value]),(8,.ep [pS v12.Name,pS v12.Value]),(10,.bo ((!(wna [(v10.Name==v12.Name),(v10.Value==v12.Value)]))))] [2,3,5,39] (.cons rfl rfl (t0 (kua (Kza (f:=zga.pc) rfl rfl qVa vXa rfl h11))) (.cons rfl rfl (t0 (kua (Kza (f:=zga.pc) rfl rfl qVa vXa rfl h13))) (.cons rfl rfl (t0 (kua (Vca rfl rfl vXa kHb (.str rfl (by decide) zGa (.str rfl (by decide) zGa .nil))))) .nil))) ?_ mixed;refine ax tk 1 39 hr (fun hr=>?_) fun hr=>?_
   .exact ox tk 8 hr
   exact cx tk 8 hr
  exact ox tk 2 hr
 .exact kx tk 8 hr
 exact kx tk 2 hr
theorem zob(a0:zua)(a1:zua)(r:Bool)(hr:ZGa a0 a1=some r):Run prog 14 [.agg (zN0 a0),.agg (zN0 a1)] (.bo r):=by
 unfold ZGa at hr;refine rfx (fn:=f14) func14 fun g0 hg=>?_
 refine jq tk 8 hr [2,3] [3,2] (fun j1=>[(32,.bo j1)]) (fun _=>[]) (fun j1 hr=>?_) (fun j1 hr=>?_)
 .refine bx tk 9 13 hr (fun c2 hr=>?_) fun c2 hr=>?_
  .exact jx tk 20 hr
  refine bx tk 9 22 hr (fun c3 hr=>?_) fun c3 hr=>?_
  .exact jx tk 11 hr
  refine rn tk 3 rfl<|ug rfl rfl rfl<|wn tk rfl rfl rfl<|rn tk 3 rfl<|ug rfl rfl rfl<|wn tk rfl rfl rfl ?_;exact jx tk 3 hr
 refine ax tk 0 32 hr (fun hr=>?_) fun hr=>?_
 .exact kx tk 7 hr
 refine aq2 tk 9 hr [2,3] [3,2] (fun s5=>[(5,.i s5)]) (fun _=>[]) (.exit 0) [2,3] [3,2] (fun _=>[]) (fun _=>[]) .ret [] [] (fun b7=>[(4,.bo b7)]) (fun _=>[]) (fun s5 x9 hr=>?_) (fun b6 hr=>?_) (fun b7 hr=>?_)
 .unfold jga at hr;refine rn tk 7 rfl<|wn tk rfl rfl rfl ?_;refine ax tk 3 38 hr (fun hr=>?_) fun hr=>?_
  .refine rn tk 5 rfl ?_;obtain ⟨v11,h12,hr⟩:=zaa hr;obtain ⟨v13,h14,hr⟩:=zaa hr;refine mdq tk 0 [(4,.ep [pS v11.Address,pI v11.Notify]),(10,.ep [pS v13.Address,pI v13.Notify]),(12,.bo ((!(wna [(v11.Address==v13.Address),(v11.Notify==v13.Notify)]))))] [2,3,5,53] (.cons rfl rfl (t0 (kua (Kza (f:=zba.pc) rfl rfl zha zxa rfl h12))) (.cons rfl rfl (t0 (kua (Kza (f:=zba.pc) rfl rfl zha zxa rfl h14))) (.cons rfl rfl (t0 (kua (Vca rfl rfl zxa Wxa (.str rfl (by decide) zGa (.int rfl (by decide) kQa .nil))))) .nil))) ?_ mixed;refine ax tk 1 53 hr (fun hr=>?_) fun hr=>?_
   .exact ox tk 8 hr
   exact cx tk 8 hr
  exact ox tk 2 hr
 .refine clx tk 8 hr (WYa _ _) fun v16 _ hr=>?_
  exact kx tk 4 hr
 exact kx tk 2 hr
theorem J1a(a0:List zua)(a1:List zua)(r:Bool)(hr:jya a0 a1=some r):Run prog 10 [.l zua.pc a0,.l zua.pc a1] (.bo r):=by
 unfold jya at hr;refine rfx (fn:=f10) func10 fun g0 hg=>?_
 refine rn tk 9 rfl<|wn tk rfl rfl rfl<|rn tk 1 rfl<|wn tk rfl rfl rfl ?_;refine ax tk 3 10 hr (fun hr=>?_) fun hr=>?_
 .exact kx tk 7 hr
 refine aq2 tk 9 hr [0,1] [] (fun s2=>[(5,.i s2)]) (fun _=>[]) (.exit 0) [] [] (fun _=>[]) (fun _=>[]) .ret [] [] (fun b4=>[(4,.bo b4)]) (fun _=>[]) (fun s2 x6 hr=>?_) (fun b3 hr=>?_) (fun b4 hr=>?_)
 .unfold yEa at hr;refine rn tk 5 rfl<|wn tk rfl rfl rfl ?_;refine ax tk 3 14 hr (fun hr=>?_) fun hr=>?_
  .refine rn tk 5 rfl ?_;obtain ⟨v8,h9,hr⟩:=zaa hr;obtain ⟨v10,h11,hr⟩:=zaa hr;obtain ⟨v12,h13,hr⟩:=zaa hr;refine mdq tk 0 [(2,.ep [pS v8.Envelope.From,pL zba.pc v8.Envelope.To,pS v8.Envelope.Id,pL zga.pc v8.Message.Fields,pL cU v8.Message.Body]),(6,.ep [pS v10.Envelope.From,pL zba.pc v10.Envelope.To,pS v10.Envelope.Id,pL zga.pc v10.Message.Fields,pL cU v10.Message.Body]),(8,.bo v12)] [0,1,5,26] (.cons rfl rfl (t0 (kua (Kza (f:=zua.pc) rfl rfl kda qUa rfl h9))) (.cons rfl rfl (t0 (kua (Kza (f:=zua.pc) rfl rfl kda qUa rfl h11))) (.cons rfl rfl (t0 (zVa (zob v8 v10 v12 h13) rfl)) .nil))) ?_ mixed;refine ax tk 1 26 hr (fun hr=>?_) fun hr=>?_
   .exact ox tk 8 hr
   exact cx tk 8 hr
  exact ox tk 2 hr
 .exact kx tk 8 hr
 exact kx tk 2 hr
theorem j4a(a0:zua)(a1:Int)(a2:Int)(a3:Bool)(a4:List Int)(r:Bool)(hr:qKa a0 a1 a2 a3 a4=some r):Run prog 6 [.agg (zN0 a0),.i a1,.i a2,.bo a3,.l cI a4] (.bo r):=by
 unfold qKa at hr;refine rfx (fn:=Tryz.f6) func6 fun g0 hg=>?_
 refine clx tk 13 hr (vpa _ _ _ _ _ _ _) fun v1 _ hr=>?_
 refine clx tk 16 hr (vpa _ _ _ _ _ _ _) fun v3 _ hr=>?_
 refine jq tk 11 hr [11,12,14,15,16] [16] (fun j5=>[(42,.bo j5)]) (fun _=>[]) (fun j5 hr=>?_) (fun j5 hr=>?_)
 .refine clx tk 1 hr Kta fun v6 _ hr=>?_
  refine bx tk 2 38 hr (fun c8 hr=>?_) fun c8 hr=>?_
  .exact jx tk 5 hr
  exact jx tk 5 hr
 refine ax tk 0 42 hr (fun hr=>?_) fun hr=>?_
 .refine jq tk 0 hr [] [] (fun j10=>[(10,.bo j10)]) (fun _=>[]) (fun j10 hr=>?_) (fun j10 hr=>?_)
  .refine clx tk 1 hr Kta fun v11 _ hr=>?_
   refine bx tk 1 44 hr (fun c13 hr=>?_) fun c13 hr=>?_
   .refine rn tk 1 rfl<|ug rfl rfl rfl<|wn tk rfl rfl rfl ?_;exact jx tk 4 hr
   exact jx tk 6 hr
  exact kx tk 2 hr
 refine jq tk 2 hr [] [] (fun j14=>[(10,.bo j14)]) (fun _=>[]) (fun j14 hr=>?_) (fun j14 hr=>?_)
 .refine bx tk 5 52 hr (fun c15 hr=>?_) fun c15 hr=>?_
  .refine rn tk 2 rfl ?_;obtain ⟨v16,h17,hr⟩:=zaa hr;refine ug rfl rfl rfl<|cl (J1a _ _ _ h17) rfl rfl ?_;refine bx tk 2 57 hr (fun c18 hr=>?_) fun c18 hr=>?_
   .refine rn tk 2 rfl ?_;obtain ⟨v19,h20,hr⟩:=zaa hr;refine ug rfl rfl rfl<|cl (ZSa _ _ _ h20) rfl rfl ?_;exact jx tk 3 hr
   exact jx tk 6 hr
  exact jx tk 11 hr
 exact kx tk 1 hr
end Go.Proofs.YtjjgjalfelnclaaGreatDoor
namespace Go.Proofs.YtjjgjalfelnclaaGreatDoor.wireCutsDoNotMatter
open Go.ChangeShapes Go.WideShapes Go.ChangeAt Go.RowKit Go.Proofs.Tryz
theorem contract(H:Type)(enc:TypeId × Value->H)(W:World)(base:Nat)(args:Array Value)(ds gs:List (DataW H))(before:List MemPlace)
 (hval:∀(j:Nat) t v,Tryz.f6.params[j]? =some t->args[j]? =some v->Value.okWide prog W .any base t v)
 (hW:DataW.Whole enc prog Tryz.f6.params.toList Rows.wireCutsDoNotMatterSpec.vars false W args.toList ds gs before) (hk:Rows.uptoSmall H (ds++gs)=true) (hgl:Gl (gAll W)):
 Calls prog 6 args W fun e W' =>∃v,e=.returned v/\Rows.wireCutsDoNotMatterSpec.post enc prog Tryz.f6 false true false false W args v W' :=by
 have hW' :=hW;obtain ⟨p,q,hA0,hV,rfl,hfz,hnd⟩:=hW;have hA:DataW.TrodAll enc prog W 0 (fun _=>true) true Tryz.f6.params.toList args.toList ds p:=hA0;rw[Tryz.params6]at hA hval;obtain ⟨v0,vs0,d0,ds0,p0,q0,hargs,rfl,rfl,h0,r0⟩:=trodAll_cons hA;obtain ⟨v1,vs1,d1,ds1,p1,q1,rfl,rfl,rfl,h1,r1⟩:=trodAll_cons r0;obtain ⟨v2,vs2,d2,ds2,p2,q2,rfl,rfl,rfl,h2,r2⟩:=trodAll_cons r1;obtain ⟨v3,vs3,d3,ds3,p3,q3,rfl,rfl,rfl,h3,r3⟩:=trodAll_cons r2;obtain ⟨v4,vs4,d4,ds4,p4,q4,rfl,rfl,rfl,h4,r4⟩:=trodAll_cons r3;obtain ⟨rfl,rfl,rfl⟩:=trodAll_nil r4;obtain rfl:args= #[v0,v1,v2,v3,v4]:=by cases args;simp_all
 obtain ⟨rfl,rfl⟩:=trodVars_none hV;obtain ⟨a0,e0,o0,k0⟩:=arg_agg wWb (by obtain ⟨cs,h,_⟩:=okWide_struct qUa.u (hval 0 _ v0 rfl rfl);exact ⟨cs,h⟩) h0;obtain ⟨a1,e1,o1,k1⟩:=kAb vab (by obtain ⟨_,h⟩:=okWide_int kQa.u (hval 1 _ v1 rfl rfl);rw[h];rfl) h1;obtain ⟨a2,e2,o2,k2⟩:=kAb vab (by obtain ⟨_,h⟩:=okWide_int kQa.u (hval 2 _ v2 rfl rfl);rw[h];rfl) h2;obtain ⟨a3,e3,o3,k3⟩:=kAb op_bool (by obtain ⟨_,h⟩:=okWide_bool WAa.u (hval 3 _ v3 rfl rfl);rw[h];rfl) h3;obtain ⟨a4,e4,o4,k4⟩:=kAb op_s_int (by obtain ⟨_,_,_,h⟩:=okWide_slice q3a.u (hval 4 _ v4 rfl rfl);rw[h];rfl) h4;have hk2:=of_decide_eq_true hk;simp only[jBj,Rows.uptoBulkAll]at hk2;have ht:=jTa a0 a1 a2 a3 a4 o0 o1 o2 o3 o4 (by (try dsimp only);omega);have key:Calls prog 6 #[v0,v1,v2,v3,v4] W fun e W' =>e=.returned (.bool true)/\Below W.heap.size W W' :=qXb (j4a a0 a1 a2 a3 a4 true ht) hgl (Zgb (.cons e0 (.cons (e1 _ rfl) (.cons (e2 _ rfl) (.cons (e3 _ rfl) (.cons (e4 _ rfl) .nil))))))
 refine key.mono fun e W' ⟨he,hb⟩=>⟨_,he,?_⟩
 exact KVb laidOut (by kernel_rfl) underlying4 (by kernel_rfl) rfl rfl hW' hb
noncomputable def wit(os:Os):World:=let w0:=World.doorLaid prog 72 os
 {w0 with heap:=w0.heap.modify 6 fun
  | .cells _ t fz=>.cells (Lib.firstTab.map fun z=>Value.int .u8 z).toArray t fz
  | o=>o}
theorem reads(os:Os){H:Type}(enc:TypeId × Value->H):∃places,DataW.whole enc prog ((wit os).forCall (fun _ _=>0) ⟨#[], #[.agg #[.string ⟨#[]⟩,.slice none 0 0,.string ⟨#[]⟩,.slice none 0 0,.slice none 0 0],.int .i64 0,.int .i64 0,.bool false,.slice none 0 0],[]⟩).memory Tryz.f6.params.toList (Rows.OpenSpec.upto Rows.wireCutsDoNotMatterSpec).vars false (#[.agg #[.string ⟨#[]⟩,.slice none 0 0,.string ⟨#[]⟩,.slice none 0 0,.slice none 0 0],.int .i64 0,.int .i64 0,.bool false,.slice none 0 0]:Array Value).toList 8=some ([.agg [.agg [.lit (.string []),.nil,.lit (.string [])],.agg [.nil,.nil]],.lit (.int .i64 0),.lit (.int .i64 0),.lit (.bool false),.nil],[],places):=
 ⟨[],by kernel_rfl⟩
theorem lifted(os:Os)(started:os.Started)(H:Type)(enc:TypeId × Value->H)(F:Stop.Interp):
 ReturnsInHanded {} Tryz.checked os 6 .any ((Rows.OpenSpec.upto Rows.wireCutsDoNotMatterSpec).preRow enc prog Tryz.f6 Rows.wireCutsDoNotMatterUptoRow.domain false Rows.wireCutsDoNotMatterUptoRow.laid) (((Rows.OpenSpec.upto Rows.wireCutsDoNotMatterSpec).at F).post enc prog Tryz.f6 false true false false):=by
 obtain ⟨places,hx⟩:=reads os enc;refine returnsInHanded_of_row (C:=Tryz.checked) (s:=Rows.OpenSpec.upto Rows.wireCutsDoNotMatterSpec) own started (by kernel_rfl) func6
  (witness_row_atRef (enc:=enc) (C:=Tryz.checked) false (wit os) #[.agg #[.string ⟨#[]⟩,.slice none 0 0,.string ⟨#[]⟩,.slice none 0 0,.slice none 0 0],.int .i64 0,.int .i64 0,.bool false,.slice none 0 0] rfl (by kernel_rfl) (by kernel_rfl) (by kernel_rfl)
   (OpenSpec.preRow_of_cond 8 hx (by kernel_rfl) (fun k hk=>by cases hk;kernel_rfl) (by kernel_rfl) (laidMet_of_run' 8 (by kernel_rfl) (by kernel_rfl)))) ?_
 intro W base args ds gs before hval hW _ hk _ hL hsh _;exact contract H enc W base args ds gs before hval hW (hk _ rfl) (Zhb (rest:=Rows.wireCutsDoNotMatterUptoRow.laid.drop 3) hsh (by kernel_rfl) hL (fun hm=>Zib hm.tail.tail.tail.tail.tail))
theorem j0:jf0 Tryz.pinned.checked.prog 6 Tryz.f6 (Rows.OpenSpec.upto Rows.wireCutsDoNotMatterSpec).bare Rows.wireCutsDoNotMatterUptoRow=true:=by kernel_rfl
theorem j1:jf1 Tryz.pinned.checked.prog 6 Tryz.f6 (Rows.OpenSpec.upto Rows.wireCutsDoNotMatterSpec).bare Rows.wireCutsDoNotMatterUptoRow=true:=by kernel_rfl
theorem j2:jf2 Tryz.pinned.checked.prog 6 Tryz.f6 (Rows.OpenSpec.upto Rows.wireCutsDoNotMatterSpec).bare Rows.wireCutsDoNotMatterUptoRow=true:=by kernel_rfl
theorem j3:jf3 Tryz.pinned.checked.prog 6 Tryz.f6 (Rows.OpenSpec.upto Rows.wireCutsDoNotMatterSpec).bare Rows.wireCutsDoNotMatterUptoRow=true:=by kernel_rfl
theorem j4:jf4 Tryz.pinned.checked.prog 6 Tryz.f6 (Rows.OpenSpec.upto Rows.wireCutsDoNotMatterSpec).bare Rows.wireCutsDoNotMatterUptoRow=true:=by kernel_rfl
theorem j5:jf5 Tryz.pinned.checked.prog 6 Tryz.f6 (Rows.OpenSpec.upto Rows.wireCutsDoNotMatterSpec).bare Rows.wireCutsDoNotMatterUptoRow=true:=by kernel_rfl
theorem j6:jf6 Tryz.pinned.checked.prog 6 Tryz.f6 (Rows.OpenSpec.upto Rows.wireCutsDoNotMatterSpec).bare Rows.wireCutsDoNotMatterUptoRow=true:=by kernel_rfl
theorem j7:jf7 Tryz.pinned.checked.prog 6 Tryz.f6 (Rows.OpenSpec.upto Rows.wireCutsDoNotMatterSpec).bare Rows.wireCutsDoNotMatterUptoRow=true:=by kernel_rfl
theorem j8:jf8 Tryz.pinned.checked.prog 6 Tryz.f6 (Rows.OpenSpec.upto Rows.wireCutsDoNotMatterSpec).bare Rows.wireCutsDoNotMatterUptoRow=true:=by kernel_rfl
theorem j9:jf9 Tryz.pinned.checked.prog 6 Tryz.f6 (Rows.OpenSpec.upto Rows.wireCutsDoNotMatterSpec).bare Rows.wireCutsDoNotMatterUptoRow=true:=by kernel_rfl
theorem j10:jf10 Tryz.pinned.checked.prog 6 Tryz.f6 (Rows.OpenSpec.upto Rows.wireCutsDoNotMatterSpec).bare Rows.wireCutsDoNotMatterUptoRow=true:=by kernel_rfl
theorem j11:jf11 Tryz.pinned.checked.prog 6 Tryz.f6 (Rows.OpenSpec.upto Rows.wireCutsDoNotMatterSpec).bare Rows.wireCutsDoNotMatterUptoRow=true:=by kernel_rfl
theorem j12:jf12 Tryz.pinned.checked.prog 6 Tryz.f6 (Rows.OpenSpec.upto Rows.wireCutsDoNotMatterSpec).bare Rows.wireCutsDoNotMatterUptoRow=true:=by kernel_rfl
theorem j13:jf13 Tryz.pinned.checked.prog 6 Tryz.f6 (Rows.OpenSpec.upto Rows.wireCutsDoNotMatterSpec).bare Rows.wireCutsDoNotMatterUptoRow=true:=by kernel_rfl
theorem j14:jf14 Tryz.pinned.checked.prog 6 Tryz.f6 (Rows.OpenSpec.upto Rows.wireCutsDoNotMatterSpec).bare Rows.wireCutsDoNotMatterUptoRow=true:=by kernel_rfl
theorem j15:jf15 Tryz.pinned.checked.prog 6 Tryz.f6 (Rows.OpenSpec.upto Rows.wireCutsDoNotMatterSpec).bare Rows.wireCutsDoNotMatterUptoRow=true:=by kernel_rfl
theorem j16:jf16 Tryz.pinned.checked.prog 6 Tryz.f6 (Rows.OpenSpec.upto Rows.wireCutsDoNotMatterSpec).bare Rows.wireCutsDoNotMatterUptoRow=true:=by kernel_rfl
theorem j17:jf17 Tryz.pinned.checked.prog 6 Tryz.f6 (Rows.OpenSpec.upto Rows.wireCutsDoNotMatterSpec).bare Rows.wireCutsDoNotMatterUptoRow=true:=by kernel_rfl
theorem j18:jf18 Tryz.pinned.checked.prog 6 Tryz.f6 (Rows.OpenSpec.upto Rows.wireCutsDoNotMatterSpec).bare Rows.wireCutsDoNotMatterUptoRow=true:=by kernel_rfl
theorem j19:jf19 Tryz.pinned.checked.prog 6 Tryz.f6 (Rows.OpenSpec.upto Rows.wireCutsDoNotMatterSpec).bare Rows.wireCutsDoNotMatterUptoRow=true:=by kernel_rfl
theorem j20:jf20 Tryz.pinned.checked.prog 6 Tryz.f6 (Rows.OpenSpec.upto Rows.wireCutsDoNotMatterSpec).bare Rows.wireCutsDoNotMatterUptoRow=true:=by kernel_rfl
theorem j21:jf21 Tryz.pinned.checked.prog 6 Tryz.f6 (Rows.OpenSpec.upto Rows.wireCutsDoNotMatterSpec).bare Rows.wireCutsDoNotMatterUptoRow=true:=by kernel_rfl
theorem j22:jf22 Tryz.pinned.checked.prog 6 Tryz.f6 (Rows.OpenSpec.upto Rows.wireCutsDoNotMatterSpec).bare Rows.wireCutsDoNotMatterUptoRow=true:=by kernel_rfl
theorem j23:jf23 Tryz.pinned.checked.prog 6 Tryz.f6 (Rows.OpenSpec.upto Rows.wireCutsDoNotMatterSpec).bare Rows.wireCutsDoNotMatterUptoRow=true:=by kernel_rfl
theorem j24:jf24 Tryz.pinned.checked.prog 6 Tryz.f6 (Rows.OpenSpec.upto Rows.wireCutsDoNotMatterSpec).bare Rows.wireCutsDoNotMatterUptoRow=true:=by kernel_rfl
theorem j25:jf25 Tryz.pinned.checked.prog 6 Tryz.f6 (Rows.OpenSpec.upto Rows.wireCutsDoNotMatterSpec).bare Rows.wireCutsDoNotMatterUptoRow=true:=by kernel_rfl
theorem j26:jf26 Tryz.pinned.checked.prog 6 Tryz.f6 (Rows.OpenSpec.upto Rows.wireCutsDoNotMatterSpec).bare Rows.wireCutsDoNotMatterUptoRow=true:=by kernel_rfl
theorem j27:jf27 Tryz.pinned.checked.prog 6 Tryz.f6 (Rows.OpenSpec.upto Rows.wireCutsDoNotMatterSpec).bare Rows.wireCutsDoNotMatterUptoRow=true:=by kernel_rfl
theorem j28:jf28 Tryz.pinned.checked.prog 6 Tryz.f6 (Rows.OpenSpec.upto Rows.wireCutsDoNotMatterSpec).bare Rows.wireCutsDoNotMatterUptoRow=true:=by kernel_rfl
theorem j29:jf29 Tryz.pinned.checked.prog 6 Tryz.f6 (Rows.OpenSpec.upto Rows.wireCutsDoNotMatterSpec).bare Rows.wireCutsDoNotMatterUptoRow=true:=by kernel_rfl
theorem j30:jf30 Tryz.pinned.checked.prog 6 Tryz.f6 (Rows.OpenSpec.upto Rows.wireCutsDoNotMatterSpec).bare Rows.wireCutsDoNotMatterUptoRow=true:=by kernel_rfl
theorem j31:jf31 Tryz.pinned.checked.prog 6 Tryz.f6 (Rows.OpenSpec.upto Rows.wireCutsDoNotMatterSpec).bare Rows.wireCutsDoNotMatterUptoRow=true:=by kernel_rfl
theorem said:Rows.wireCutsDoNotMatterUptoRow.holds Tryz.pinned (Rows.OpenSpec.upto Rows.wireCutsDoNotMatterSpec):=
 OpenClaim.holds_of_cond 6 Tryz.f6 rfl rfl rfl rfl rfl rfl rfl ⟨rfl,rfl,rfl,rfl,rfl⟩ rfl rfl rfl rfl rfl (by kernel_rfl) func6 (KWb j0 j1 j2 j3 j4 j5 j6 j7 j8 j9 j10 j11 j12 j13 j14 j15 j16 j17 j18 j19 j20 j21 j22 j23 j24 j25 j26 j27 j28 j29 j30 j31)
  (of_decide_eq_true (by kernel_rfl)) (by unfold Func.isWrapper;first | (rw[if_pos (by decide+kernel)];kernel_rfl) | (rw[if_neg (by decide+kernel)];exact ⟨rfl,rfl⟩))
  (fun os started H enc _ F=>by rw[OpenClaim.pre_eq_preRow];exact lifted os started H enc F)
theorem plain (f : FuncId) (fn : Func) (hf : Tryz.pinned.checked.prog.funcNamed "posthouse/posthouselaw4.WireCutsDoNotMatter" = some f) (hfn : Tryz.pinned.checked.prog.funcs[f]? = some fn) :
 true=Tryz.pinned.checked.prog.looks []/\∀(j:Nat) t,fn.params[j]? =some t->Tryz.pinned.checked.prog.wantsStandIn t=false:=by
 obtain rfl : f = 6 := Option.some.inj ((show prog.funcNamed "posthouse/posthouselaw4.WireCutsDoNotMatter" = some 6 by kernel_rfl).symm.trans hf) |>.symm
 obtain rfl:fn=Tryz.f6:=(Option.some.inj (func6.symm.trans hfn)).symm;refine ⟨by kernel_rfl,fun j t ht=>?_⟩;rw[Tryz.params6]at ht;have hm:=Array.mem_of_getElem? ht;simp only[List.mem_toArray,jBh,List.not_mem_nil,or_false]at hm;rcases hm with rfl | rfl | rfl | rfl | rfl
 .exact (show prog.wantsStandIn 30=false by kernel_rfl)
 .exact (show prog.wantsStandIn 3=false by kernel_rfl)
 .exact (show prog.wantsStandIn 3=false by kernel_rfl)
 .exact (show prog.wantsStandIn 4=false by kernel_rfl)
 exact (show prog.wantsStandIn 31=false by kernel_rfl)
theorem proved:Rows.WireCutsDoNotMatterUptoCardSaid:=
 Claim7.holds_tied_plain_at .later [] _ _ _ _ said (fun _ h=>by cases h) (by kernel_rfl) (fun _ h=>by cases h) wireCutsDoNotMatterUpto_row_tie rfl ⟨rfl,rfl⟩ (by kernel_rfl) rfl plain (by kernel_rfl)
#print axioms proved
end Go.Proofs.YtjjgjalfelnclaaGreatDoor.wireCutsDoNotMatter
