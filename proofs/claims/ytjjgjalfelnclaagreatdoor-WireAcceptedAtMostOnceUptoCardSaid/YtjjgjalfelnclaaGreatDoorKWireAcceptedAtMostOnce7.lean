/- The law WireAcceptedAtMostOnce holds for every input of bulk up to the given bound: it returns true and leaves its arguments as they were. Written by program. -/
import Derived.Test.YtjjgjalfelnclaaGreatDoorKWireAcceptedAtMostOnce6
set_option linter.unusedVariables false
set_option linter.unusedSimpArgs false
set_option maxRecDepth 100000
set_option maxHeartbeats 40000000
namespace Go.Proofs.YtjjgjalfelnclaaGreatDoor
open Go.RowKit Go.Proofs.Tryz
theorem Qla(a0:zma)(a1:Int)(r:Int × zma)(hr:vqa a0 a1=some r):RunS prog 22 [.ptr 90006000 0,.i a1] (zma.sto a0) (.i r.1) (zma.sto r.2) 90006000 [90006030,90006031,90006032]:=by
 unfold vqa at hr;refine rfS (fn:=f22) (H:=90006999) (.ptr 90006000 0) ⟨func22,rfl,by kernel_rfl⟩ rfl (hasT rfl) (.inl ⟨rfl,rfl⟩) rfl rfl rfl rfl fun g0 hg S sg T=>?_
 refine rn tk 19 rfl<|wnh tk rfl rfl rfl rfl ?_;refine ax 3 23 hr (fun hr=>?_) fun hr=>?_
 .refine iq 7 100000 [0] (fn:=f39) ⟨func39,rfl,by kernel_rfl⟩ fun T1 ds1=>?_
  refine rn tk 9 rfl<|wnh tk rfl rfl rfl rfl ?_;refine jq 3 hr [0] [199999,100000,90006999,90006000,90006030,90006031,90006032] (fun j2=>[(5,.i j2)]) (fun _=>[]) (fun j2 hr=>?_) (fun j2 hr=>?_)
  .refine ax 6 9 hr (fun hr=>?_) fun hr=>?_
   .refine rn tk 3 rfl<|wq (KIb rfl rfl) rfl rfl rfl ?_;exact jx 2 hr
   exact jx 1 hr
  refine rn tk 1 rfl ?_;refine qWa (d:=0) (F:=cU) (l:=a0.down) rfl rfl (hC ?_);obtain ⟨v4,h5,hr⟩:=zaa hr;refine mdq 0 [(3,.l cU v4)] [3,4] (.cons rfl rfl (t0 (kda (wJb (F:=cU) rfl rfl zja zCa (fun _=>rfl) h5))) .nil) ?_ mixed;refine ieq 2 (hO ?_);refine clx 14 hr (J3a _ _) fun v6 _ hr=>?_
  refine rn tk 12 rfl ?_;obtain ⟨v8,h9,hr⟩:=zaa hr;refine mh 0 [(8,.hsub 90006030 (Int.toNat j2))] [(11,fun f s=>(f,(Sto.upd s 90006000 (.cells [.s v6.1.Name,.s v6.1.Mail.Envelope.From,.l zba.pc v6.1.Mail.Envelope.To,.s v6.1.Mail.Envelope.Id,.l zga.pc v6.1.Mail.Message.Fields,.l cU v6.1.Mail.Message.Body,.bo v6.1.Pipelined,.l cU v6.1.Buffer,.i v6.1.Expected,.bo v6.1.Whole,.bo v6.1.Done,.l cI v6.1.Results,.s a0.server.Name,.i a0.server.Size,.i a0.server.Many,.i a0.server.Phase,.bo a0.server.Greeted,.bo a0.server.Mailing,.s a0.server.From,.l zba.pc a0.server.To,.l cU a0.server.Buffer,.l cU a0.server.Data,.i a0.server.Lost,.i a0.server.Dots,.bo a0.server.Chunked,.i a0.server.Left,.bo a0.server.Last,.bo a0.server.Ignore,.i a0.server.Count,.hs 90006030 0,.hs 90006031 0,.hs 90006032 0])))),(14,fun f s=>(f,(Sto.upd s 90006000 (.cells [.s v6.1.Name,.s v6.1.Mail.Envelope.From,.l zba.pc v6.1.Mail.Envelope.To,.s v6.1.Mail.Envelope.Id,.l zga.pc v6.1.Mail.Message.Fields,.l cU v6.1.Mail.Message.Body,.bo v6.1.Pipelined,.l cU v6.1.Buffer,.i v6.1.Expected,.bo v6.1.Whole,.bo v6.1.Done,.l cI v6.1.Results,.s a0.server.Name,.i a0.server.Size,.i a0.server.Many,.i a0.server.Phase,.bo a0.server.Greeted,.bo a0.server.Mailing,.s a0.server.From,.l zba.pc a0.server.To,.l cU a0.server.Buffer,.l cU a0.server.Data,.i a0.server.Lost,.i a0.server.Dots,.bo a0.server.Chunked,.i a0.server.Left,.bo a0.server.Last,.bo a0.server.Ignore,.i a0.server.Count,.hsub 90006030 (Int.toNat j2),.hs 90006031 0,.hs 90006032 0]))))] [[],[11],[11,14]] ?_ mixed;refine .cons (mnq tk [8,11] (.cons (mpu (kda (kzb (F:=cU) (l:=a0.down) (p:=j2) rfl rfl rfl zja zCa h9))) (.cons (mstq 1 (qea rfl rfl rfl VXa rfl rfl)) .nil))) (.cons (mnq tk [8,14] (.cons (mpu (kda (kzb (F:=cU) (l:=a0.down) (p:=j2) rfl rfl rfl zja zCa h9))) (.cons (mstq 2 (qea rfl rfl rfl zja rfl rfl)) .nil))) (.cons (mfq tk [] [0,6,9] .nil (hA ?_)) .nil));refine rn tk 2 rfl ?_;refine V2b (F:=cU) (l:=a0.down) 90006030 90006000 29 h9 rfl rfl rfl (hC ?_);refine rn tk 7 rfl ?_;obtain ⟨v10,h11,hr⟩:=zaa hr;refine wa tk h11 rfl rfl rfl rfl (fun _=>rfl) rfl rfl ?_;exact sxx 13 hr
 refine iq 9 200000 [0] (fn:=f39) ⟨func39,rfl,by kernel_rfl⟩ fun T2 ds2=>?_
 refine rn tk 9 rfl<|wnh tk rfl rfl rfl rfl ?_;refine jq 3 hr [0] [299999,200000,90006999,90006000,90006030,90006031,90006032] (fun j12=>[(5,.i j12)]) (fun _=>[]) (fun j12 hr=>?_) (fun j12 hr=>?_)
 .refine ax 6 9 hr (fun hr=>?_) fun hr=>?_
  .refine rn tk 3 rfl<|wq (KIb rfl rfl) rfl rfl rfl ?_;exact jx 2 hr
  exact jx 1 hr
 refine rn tk 1 rfl ?_;refine qWa (d:=0) (F:=cU) (l:=a0.up) rfl rfl (hC ?_);obtain ⟨v14,h15,hr⟩:=zaa hr;refine mdq 0 [(3,.l cU v14)] [3,4] (.cons rfl rfl (t0 (kda (wJb (F:=cU) rfl rfl zja zCa (fun _=>rfl) h15))) .nil) ?_ mixed;refine ieq 2 (hO ?_);refine clx 14 hr (J8a _ _) fun v16 _ hr=>?_
 refine rn tk 14 rfl ?_;obtain ⟨v18,h19,hr⟩:=zaa hr;refine mh 0 [(8,.hsub 90006031 (Int.toNat j12))] [(11,fun f s=>(f,(Sto.upd s 90006000 (.cells [.s a0.client.Name,.s a0.client.Mail.Envelope.From,.l zba.pc a0.client.Mail.Envelope.To,.s a0.client.Mail.Envelope.Id,.l zga.pc a0.client.Mail.Message.Fields,.l cU a0.client.Mail.Message.Body,.bo a0.client.Pipelined,.l cU a0.client.Buffer,.i a0.client.Expected,.bo a0.client.Whole,.bo a0.client.Done,.l cI a0.client.Results,.s v16.1.Name,.i v16.1.Size,.i v16.1.Many,.i v16.1.Phase,.bo v16.1.Greeted,.bo v16.1.Mailing,.s v16.1.From,.l zba.pc v16.1.To,.l cU v16.1.Buffer,.l cU v16.1.Data,.i v16.1.Lost,.i v16.1.Dots,.bo v16.1.Chunked,.i v16.1.Left,.bo v16.1.Last,.bo v16.1.Ignore,.i v16.1.Count,.hs 90006030 0,.hs 90006031 0,.hs 90006032 0])))),(14,fun f s=>(f,(Sto.upd s 90006000 (.cells [.s a0.client.Name,.s a0.client.Mail.Envelope.From,.l zba.pc a0.client.Mail.Envelope.To,.s a0.client.Mail.Envelope.Id,.l zga.pc a0.client.Mail.Message.Fields,.l cU a0.client.Mail.Message.Body,.bo a0.client.Pipelined,.l cU a0.client.Buffer,.i a0.client.Expected,.bo a0.client.Whole,.bo a0.client.Done,.l cI a0.client.Results,.s v16.1.Name,.i v16.1.Size,.i v16.1.Many,.i v16.1.Phase,.bo v16.1.Greeted,.bo v16.1.Mailing,.s v16.1.From,.l zba.pc v16.1.To,.l cU v16.1.Buffer,.l cU v16.1.Data,.i v16.1.Lost,.i v16.1.Dots,.bo v16.1.Chunked,.i v16.1.Left,.bo v16.1.Last,.bo v16.1.Ignore,.i v16.1.Count,.hs 90006030 0,.hsub 90006031 (Int.toNat j12),.hs 90006032 0]))))] [[],[11],[11,14]] ?_ mixed;refine .cons (mnq tk [8,11] (.cons (mpu (kda (kzb (F:=cU) (l:=a0.up) (p:=j12) rfl rfl rfl zja zCa h19))) (.cons (mstq 1 (qea rfl rfl rfl VYa rfl rfl)) .nil))) (.cons (mnq tk [8,14] (.cons (mpu (kda (kzb (F:=cU) (l:=a0.up) (p:=j12) rfl rfl rfl zja zCa h19))) (.cons (mstq 2 (qea rfl rfl rfl zja rfl rfl)) .nil))) (.cons (mfq tk [] [0,11,14,15] .nil (hA ?_)) .nil));refine rn tk 2 rfl ?_;refine V2b (F:=cU) (l:=a0.up) 90006031 90006000 30 h19 rfl rfl rfl (hC ?_);refine rn tk 7 rfl ?_;obtain ⟨v20,h21,hr⟩:=zaa hr;refine wa tk h21 rfl rfl rfl rfl (fun _=>rfl) rfl rfl ?_;refine csx 9 hr (jca _ _) fun v22 _ hr=>?_
 exact sxx 9 hr
theorem wja(a0:zva)(a1:Str)(a2:Int)(a3:Int)(a4:Bool)(a5:List Int)(a6:Int)(r:(List zva) × (List Int) × zpa)(hr:kna a0 a1 a2 a3 a4 a5 a6=some r):Run prog 7 [.agg (zN0 a0),.s a1,.i a2,.i a3,.bo a4,.l cI a5,.i a6] (.tup [.l zva.pc r.1,.l cI r.2.1,.agg [.i r.2.2.Code,.i r.2.2.Index]]):=by
 unfold kna at hr;refine rfx (fn:=Tryz.f7) func7 fun g0 hg=>?_
 refine clx 12 hr (YAa _ _ _) fun v1 _ hr=>?_
 refine clx 13 hr (zxa _) fun v3 _ hr=>?_
 refine ax 2 33 hr (fun hr=>?_) fun hr=>?_
 .refine mdq 1 [] [14,15,16] .nil ?_ mixed;exact kx 3 hr
 refine clx 7 hr (zub _ _ _) fun v6 _ hr=>?_
 refine clx 16 hr (zxa _) fun v8 _ hr=>?_
 refine ax 3 43 hr (fun hr=>?_) fun hr=>?_
 .refine mdq 1 [] [14,15,16] .nil ?_ mixed;exact kx 4 hr
 refine rn tk 3 rfl<|wn tk rfl rfl rfl ?_;refine ax 4 47 hr (fun hr=>?_) fun hr=>?_
 .refine clx 2 hr (zea _ _) fun v12 _ hr=>?_
  exact kx 8 hr
 refine iq 3 100000 [5,6,16,17,19,20] (fn:=f19) ⟨func19,rfl,by kernel_rfl⟩ fun T1 ds1=>?_
 refine ctq 9 hr [] [199999,100005,100006,100016,100017,100019,100020,20,19,17,16] (fun j14=>[(7,.i j14)]) (fun _=>[]) (fun j14 hr jump2=>?_) (fun j14 hr=>?_)
 .refine iq 0 200000 [] (fn:=f37) ⟨func37,rfl,by kernel_rfl⟩ fun T2 ds2=>?_
  refine rn tk 9 rfl<|wn tk rfl rfl rfl ?_;refine aq2 4 hr [0,1,7] [299999,199999,100005,100006,100016,100017,100019,100020,20,19,17,16] (fun s15=>[(8,.i s15)]) (fun _=>[]) (.exit 0) [] [299999,199999,100005,100006,100016,100017,100019,100020,20,19,17,16] (fun _=>[]) (fun _=>[]) .ret [] [299999,199999,100005,100006,100016,100017,100019,100020,20,19,17,16] (fun b17=>[(4,.i b17)]) (fun _=>[]) (fun s15 x19 hr=>?_) (fun b16 hr=>?_) (fun b17 hr=>?_)
  .unfold qSa at hr;refine ax 6 9 hr (fun hr=>?_) fun hr=>?_
   .refine rn tk 15 rfl ?_;obtain ⟨v21,h22,hr⟩:=zaa hr;refine wi tk h22 rfl rfl rfl rfl rfl ?_;refine iq 1 400000 [0,1,5,7,8] (fn:=f20) ⟨func20,rfl,by kernel_rfl⟩ fun T4 ds4=>?_
    refine jq 5 hr [] [499999,400000,400001,400007,400008,400005,299999,199999,100005,100006,100016,100017,100019,100020,20,19,17,16] (fun j23=>[(2,.bo j23)]) (fun _=>[]) (fun j23 hr=>?_) (fun j23 hr=>?_)
    .refine bx 4 5 hr (fun c24 hr=>?_) fun c24 hr=>?_
     .exact jx 5 hr
     exact jx 5 hr
    refine ieq 1 (hO ?_);refine ax 2 16 hr (fun hr=>?_) fun hr=>?_
    .exact ox 9 hr
    exact cx 7 hr
   exact ox 2 hr
  .refine ieq 8 ?_;cases hr;exact jump2 _ _ rfl rfl
  refine ieq 2 ?_;cases hr;exact jump2 _ _ rfl rfl
 refine ieq 5 (hO ?_);refine ax 3 52 hr (fun hr=>?_) fun hr=>?_
 .refine clx 2 hr (zea _ _) fun v27 _ hr=>?_
  exact kx 8 hr
 refine jq 0 hr [5,6,16,17,19,20] [20,19,17,16] (fun j29=>[(56,.bo j29)]) (fun _=>[]) (fun j29 hr=>?_) (fun j29 hr=>?_)
 .refine bx 4 59 hr (fun c30 hr=>?_) fun c30 hr=>?_
  .exact jx 5 hr
  exact jx 5 hr
 refine ax 0 56 hr (fun hr=>?_) fun hr=>?_
 .refine clx 2 hr (zea _ _) fun v32 _ hr=>?_
  exact kx 8 hr
 refine rn tk 8 rfl<|wo (Qqa (k:=67) 90006000 rfl rfl rfl rfl rfl) rfl<|rn tk 1 rfl ?_;refine kMa 90006030 (o:=90006000) (j:=29) 5 1 rfl rfl rfl rfl (hO ?_);refine kMa 90006031 (o:=90006000) (j:=30) 5 1 rfl rfl rfl rfl (hO ?_);refine kMa 90006032 (o:=90006000) (j:=31) 30 5 rfl rfl rfl rfl (hO ?_);refine rn tk 6 rfl<|wz zra.pc ([v6.2.1]:List zra) tk rfl rfl (fun _=>rfl) rfl rfl rfl ?_;refine csx 0 hr (jca _ _) fun v34 _ hr=>?_
 refine aq1 11 hr [5,16,21] [16] (fun s36=>[(22,.i s36.1),(23,.i s36.2.1)]) (fun s36=>zma.sto s36.2.2) (.exit 1) [16,21] [16] (fun _=>[]) (fun b37=>zma.sto b37) (fun s36 x38 hr=>?_) (fun b37 hr=>?_)
 .unfold kBa at hr;refine jq 1 hr [5,16,21,22,23] [90006000,90006030,90006031,90006032,16] (fun j39=>[(88,.bo j39)]) (fun _=>[]) (fun j39 hr=>?_) (fun j39 hr=>?_)
  .refine dq 0 10 [] [(4,.i ((s36.2.2.down.length:Int))),(9,.i ((s36.2.2.up.length:Int)))] .nil (.cons rfl rfl (kda (ktb (F:=cU) rfl rfl zja.u)) (.cons rfl rfl (kda (ktb (F:=cU) rfl rfl zja.u)) .nil)) ?_ mixed;refine bx 3 85 hr (fun c40 hr=>?_) fun c40 hr=>?_
   .exact jx 4 hr
   exact jx 4 hr
  refine ax 0 88 hr (fun hr=>?_) fun hr=>?_
  .refine jq 2 hr [5,16,21,22] [16] (fun j42=>[(23,.i j42.1)]) (fun j42=>zma.sto j42.2) (fun j42 hr=>?_) (fun j42 hr=>?_)
   .refine jq 6 hr [5,16,21,22,23] [90006000,90006030,90006031,90006032,16] (fun j43=>[(24,.i j43)]) (fun _=>[]) (fun j43 hr=>?_) (fun j43 hr=>?_)
    .refine rn tk 3 rfl<|wn tk rfl rfl rfl ?_;refine ax 3 93 hr (fun hr=>?_) fun hr=>?_
     .refine rn tk 4 rfl<|wn tk rfl rfl rfl ?_;obtain ⟨v45,h46,hr⟩:=zaa hr;refine wq (ev_irem rfl rfl (nz_spec h46)) rfl rfl rfl ?_;obtain ⟨v47,h48,hr⟩:=zaa hr;refine wi tk h48 rfl rfl rfl rfl rfl ?_;exact jx 3 hr
     exact jx 1 hr
    refine jq 0 hr [5,16,21,22,23] [90006000,90006030,90006031,90006032,16] (fun j49=>[(24,.i j49)]) (fun _=>[]) (fun j49 hr=>?_) (fun j49 hr=>?_)
    .refine jq 0 hr [5,16,21,22,23,24] [90006000,90006030,90006031,90006032,16] (fun j50=>[(111,.bo j50)]) (fun _=>[]) (fun j50 hr=>?_) (fun j50 hr=>?_)
     .refine bx 4 103 hr (fun c51 hr=>?_) fun c51 hr=>?_
      .refine bx 3 106 hr (fun c52 hr=>?_) fun c52 hr=>?_
       .exact jx 6 hr
       exact jx 6 hr
      exact jx 9 hr
     refine ax 0 111 hr (fun hr=>?_) fun hr=>?_
     .exact jx 4 hr
     exact jx 1 hr
    refine csx 4 hr (Qla s36.2.2 j49) fun v54 _ hr=>?_
    refine ax 9 117 hr (fun hr=>?_) fun hr=>?_
    .exact jx 7 hr
    exact jx 2 hr
   exact cx 5 hr
  exact ox 2 hr
 refine jq 2 hr [16,21] [16] (fun _=>[]) (fun j57=>zma.sto j57) (fun j57 hr=>?_) (fun j57 hr=>?_)
 .refine ax 10 126 hr (fun hr=>?_) fun hr=>?_
  .refine clx 6 hr (Yza _) fun v59 _ hr=>?_
   exact jx 7 hr
  exact jx 1 hr
 refine rn tk 1 rfl ?_;obtain ⟨v61,h62,hr⟩:=zaa hr;refine mdq 0 [(9,.agg [.i v61.Code,.i v61.Index])] [14,15,16] (.cons rfl rfl (fun _ _=>(zXa (zya v61 h62) rfl)) .nil) ?_ mixed;refine rn tk 1 rfl ?_;refine qWa (d:=14) (F:=zva.pc) (l:=j57.mails) rfl rfl (hC ?_);exact kx 1 hr
theorem Kza(r:Bool)(hr:wXa=some r):Run prog 9 [] (.bo r):=by
 unfold wXa at hr;refine rfx (fn:=f9) func9 fun g0 hg=>?_
 refine rn tk 7 rfl<|wz cS ([([97,64,121]:Str)]:List Str) tk rfl rfl (fun _=>rfl) rfl rfl rfl ?_;refine clx 0 hr (Qca _) fun v1 _ hr=>?_
 refine clx 0 hr (wja _ _ _ _ _ _ _) fun v3 _ hr=>?_
 refine rn tk 12 rfl<|wz cS ([([97,64,121]:Str)]:List Str) tk rfl rfl (fun _=>rfl) rfl rfl rfl ?_;refine clx 0 hr (Qca _) fun v5 _ hr=>?_
 refine wz cI ([1]:List Int) tk rfl rfl (fun _=>rfl) rfl rfl rfl ?_;refine clx 0 hr (wja _ _ _ _ _ _ _) fun v7 _ hr=>?_
 refine rn tk 12 rfl<|wz cS ([([97,64,121]:Str)]:List Str) tk rfl rfl (fun _=>rfl) rfl rfl rfl ?_;refine clx 0 hr (Qca _) fun v9 _ hr=>?_
 refine wz cI ([0]:List Int) tk rfl rfl (fun _=>rfl) rfl rfl rfl ?_;refine clx 0 hr (wja _ _ _ _ _ _ _) fun v11 _ hr=>?_
 refine jq 10 hr [] [] (fun j13=>[(0,.bo j13)]) (fun _=>[]) (fun j13 hr=>?_) (fun j13 hr=>?_)
 .refine wda ((v3.2.2.Code==0)) (fun c14=>?_) (fun c14=>?_)
  .replace hr:=VLa c14 hr
   refine wda ((v7.2.2.Code==0)) (fun c15=>?_) (fun c15=>?_)
   .replace hr:=VLa c15 hr
    obtain ⟨v16,h17,hr⟩:=zaa hr;refine wda ((wra [(v11.2.2.Code==v16.Code),(v11.2.2.Index==v16.Index)])) (fun c18=>?_) (fun c18=>?_)
    .replace hr:=VLa c18 hr
     refine wda (((v3.1.length:Int)==1)) (fun c19=>?_) (fun c19=>?_)
     .replace hr:=VLa c19 hr
      obtain ⟨v20,h21,hr⟩:=zaa hr;refine wda v20 (fun c22=>?_) (fun c22=>?_)
      .replace hr:=VLa c22 hr
       refine wda (((v7.1.length:Int)==0)) (fun c23=>?_) (fun c23=>?_)
       .replace hr:=VLa c23 hr
        refine dq 0 31 [(36,true),(41,true),(46,true),(51,true),(56,true),(61,true)] [(10,.agg [.i v16.Code,.i v16.Index]),(11,.bo ((wra [(v11.2.2.Code==v16.Code),(v11.2.2.Index==v16.Index)]))),(15,.i ((v3.1.length:Int))),(20,.l cI (([1]:List Int))),(21,.bo v20),(25,.i ((v7.1.length:Int))),(30,.l cI (([2]:List Int)))] (.cons rfl c14 (.cons rfl c15 (.cons rfl c18 (.cons rfl c19 (.cons rfl c22 (.cons rfl c23 .nil)))))) (.cons rfl rfl (zXa (Wpa 3 ((-25)) v16 h17) rfl) (.cons rfl rfl (kda (jxa rfl rfl kTa w7a (.int rfl (by decide) kOa (.int rfl (by decide) kOa .nil)))) (.cons rfl rfl (kda (wKa (f:=zva.pc) rfl zLa.u)) (.cons rfl rfl (wna (F:=cI) (l:=([1]:List Int)) q6a kOa rfl (fun _=>rfl) rfl rfl) (.cons rfl rfl (zXa (QJa v3.2.1 (([1]:List Int)) v20 h21) rfl) (.cons rfl rfl (kda (wKa (f:=zva.pc) rfl zLa.u)) (.cons rfl rfl (wna (F:=cI) (l:=([2]:List Int)) q6a kOa rfl (fun _=>rfl) rfl rfl) .nil))))))) ?_ mixed;refine kn 61 c23 rfl ?_;obtain ⟨v24,h25,hr⟩:=zaa hr;refine ug rfl rfl rfl<|cl (QJa _ _ _ h25) rfl rfl ?_;exact jx 3 hr
       replace hr:=VMa c23 hr
       refine dq 0 31 [(36,true),(41,true),(46,true),(51,true),(56,true),(61,false)] [(10,.agg [.i v16.Code,.i v16.Index]),(11,.bo ((wra [(v11.2.2.Code==v16.Code),(v11.2.2.Index==v16.Index)]))),(15,.i ((v3.1.length:Int))),(20,.l cI (([1]:List Int))),(21,.bo v20),(25,.i ((v7.1.length:Int)))] (.cons rfl c14 (.cons rfl c15 (.cons rfl c18 (.cons rfl c19 (.cons rfl c22 (.cons rfl c23 .nil)))))) (.cons rfl rfl (zXa (Wpa 3 ((-25)) v16 h17) rfl) (.cons rfl rfl (kda (jxa rfl rfl kTa w7a (.int rfl (by decide) kOa (.int rfl (by decide) kOa .nil)))) (.cons rfl rfl (kda (wKa (f:=zva.pc) rfl zLa.u)) (.cons rfl rfl (wna (F:=cI) (l:=([1]:List Int)) q6a kOa rfl (fun _=>rfl) rfl rfl) (.cons rfl rfl (zXa (QJa v3.2.1 (([1]:List Int)) v20 h21) rfl) (.cons rfl rfl (kda (wKa (f:=zva.pc) rfl zLa.u)) .nil)))))) ?_ mixed;refine kn 61 c23 rfl ?_;exact jx 4 hr
      replace hr:=VMa c22 hr
      refine dq 0 31 [(36,true),(41,true),(46,true),(51,true),(56,false)] [(10,.agg [.i v16.Code,.i v16.Index]),(11,.bo ((wra [(v11.2.2.Code==v16.Code),(v11.2.2.Index==v16.Index)]))),(15,.i ((v3.1.length:Int))),(20,.l cI (([1]:List Int))),(21,.bo v20)] (.cons rfl c14 (.cons rfl c15 (.cons rfl c18 (.cons rfl c19 (.cons rfl c22 .nil))))) (.cons rfl rfl (zXa (Wpa 3 ((-25)) v16 h17) rfl) (.cons rfl rfl (kda (jxa rfl rfl kTa w7a (.int rfl (by decide) kOa (.int rfl (by decide) kOa .nil)))) (.cons rfl rfl (kda (wKa (f:=zva.pc) rfl zLa.u)) (.cons rfl rfl (wna (F:=cI) (l:=([1]:List Int)) q6a kOa rfl (fun _=>rfl) rfl rfl) (.cons rfl rfl (zXa (QJa v3.2.1 (([1]:List Int)) v20 h21) rfl) .nil))))) ?_ mixed;exact jx 4 hr
     replace hr:=VMa c19 hr
     refine dq 0 31 [(36,true),(41,true),(46,true),(51,false)] [(10,.agg [.i v16.Code,.i v16.Index]),(11,.bo ((wra [(v11.2.2.Code==v16.Code),(v11.2.2.Index==v16.Index)]))),(15,.i ((v3.1.length:Int)))] (.cons rfl c14 (.cons rfl c15 (.cons rfl c18 (.cons rfl c19 .nil)))) (.cons rfl rfl (zXa (Wpa 3 ((-25)) v16 h17) rfl) (.cons rfl rfl (kda (jxa rfl rfl kTa w7a (.int rfl (by decide) kOa (.int rfl (by decide) kOa .nil)))) (.cons rfl rfl (kda (wKa (f:=zva.pc) rfl zLa.u)) .nil))) ?_ mixed;exact jx 4 hr
    replace hr:=VMa c18 hr
    refine dq 0 31 [(36,true),(41,true),(46,false)] [(10,.agg [.i v16.Code,.i v16.Index]),(11,.bo ((wra [(v11.2.2.Code==v16.Code),(v11.2.2.Index==v16.Index)])))] (.cons rfl c14 (.cons rfl c15 (.cons rfl c18 .nil))) (.cons rfl rfl (zXa (Wpa 3 ((-25)) v16 h17) rfl) (.cons rfl rfl (kda (jxa rfl rfl kTa w7a (.int rfl (by decide) kOa (.int rfl (by decide) kOa .nil)))) .nil)) ?_ mixed;exact jx 4 hr
   replace hr:=VMa c15 hr
   refine dq 0 31 [(36,true),(41,false)] [] (.cons rfl c14 (.cons rfl c15 .nil)) .nil ?_ mixed;exact jx 4 hr
  replace hr:=VMa c14 hr
  refine dq 0 31 [(36,false)] [] (.cons rfl c14 .nil) .nil ?_ mixed;exact jx 4 hr
 exact kx 1 hr
theorem zab(a0:List zba)(a1:Str)(r:Int)(hr:jBa a0 a1=some r):Run prog 12 [.l zba.pc a0,.s a1] (.i r):=by
 unfold jBa at hr;refine rfx (fn:=f12) func12 fun g0 hg=>?_
 refine aq2 12 hr [0,1] [] (fun s1=>[(5,.i s1)]) (fun _=>[]) (.exit 0) [] [] (fun _=>[]) (fun _=>[]) .ret [] [] (fun b3=>[(4,.i b3)]) (fun _=>[]) (fun s1 x5 hr=>?_) (fun b2 hr=>?_) (fun b3 hr=>?_)
 .unfold Qwa at hr;refine rn tk 5 rfl<|wn tk rfl rfl rfl ?_;refine ax 3 9 hr (fun hr=>?_) fun hr=>?_
  .refine rn tk 8 rfl ?_;obtain ⟨v7,h8,hr⟩:=zaa hr;refine wi tk h8 rfl rfl rfl rfl rfl ?_;refine ax 6 18 hr (fun hr=>?_) fun hr=>?_
   .exact ox 9 hr
   exact cx 8 hr
  exact ox 2 hr
 .exact kx 8 hr
 exact kx 2 hr
theorem Yaa(a0:zta)(a1:zta)(r:Bool)(hr:yaa a0 a1=some r):Run prog 13 [.agg [.l zga.pc a0.Fields,.l cU a0.Body],.agg [.l zga.pc a1.Fields,.l cU a1.Body]] (.bo r):=by
 unfold yaa at hr;refine rfx (fn:=f13) func13 fun g0 hg=>?_
 refine jq 8 hr [2,3] [3,2] (fun j1=>[(21,.bo j1)]) (fun _=>[]) (fun j1 hr=>?_) (fun j1 hr=>?_)
 .refine rn tk 3 rfl<|wn tk rfl rfl rfl<|rn tk 2 rfl<|wn tk rfl rfl rfl ?_;refine bx 2 13 hr (fun c2 hr=>?_) fun c2 hr=>?_
  .exact jx 9 hr
  refine rn tk 2 rfl<|ug rfl rfl rfl<|wb tk rfl rfl rfl<|rn tk 2 rfl<|ug rfl rfl rfl<|wb tk rfl rfl rfl ?_;exact jx 3 hr
 refine ax 0 21 hr (fun hr=>?_) fun hr=>?_
 .exact kx 7 hr
 refine aq2 9 hr [2,3] [3,2] (fun s4=>[(5,.i s4)]) (fun _=>[]) (.exit 0) [] [] (fun _=>[]) (fun _=>[]) .ret [] [] (fun b6=>[(4,.bo b6)]) (fun _=>[]) (fun s4 x8 hr=>?_) (fun b5 hr=>?_) (fun b6 hr=>?_)
 .unfold wIa at hr;refine rn tk 6 rfl<|wn tk rfl rfl rfl ?_;refine ax 3 26 hr (fun hr=>?_) fun hr=>?_
  .refine rn tk 5 rfl ?_;obtain ⟨v10,h11,hr⟩:=zaa hr;obtain ⟨v12,h13,hr⟩:=zaa hr;refine mdq 0 [(3,.ep [pS v10.Name,pS v10.Value]),(8,.ep [pS v12.Name,pS v12.Value]),(10,.bo ((!(wra [(v10.Name==v12.Name),(v10.Value==v12.Value)]))))] [2,3,5,39] (.cons rfl rfl (t0 (kda (yNa (f:=zga.pc) rfl rfl qXa vYa rfl h11))) (.cons rfl rfl (t0 (kda (yNa (f:=zga.pc) rfl rfl qXa vYa rfl h13))) (.cons rfl rfl (t0 (kda (Vga rfl rfl vYa kNb (.str rfl (by decide) zHa (.str rfl (by decide) zHa .nil))))) .nil))) ?_ mixed;refine ax 1 39 hr (fun hr=>?_) fun hr=>?_
   .exact ox 8 hr
   exact cx 8 hr
  exact ox 2 hr
 .exact kx 8 hr
 exact kx 2 hr
theorem jga(a0:zva)(a1:Int)(a2:Int)(a3:Bool)(a4:List Int)(a5:Int)(r:Bool)(hr:qga a0 a1 a2 a3 a4 a5=some r):Run prog 4 [.agg (zN0 a0),.i a1,.i a2,.bo a3,.l cI a4,.i a5] (.bo r):=by
 unfold qga at hr;refine rfx (fn:=Tryz.f4) func4 fun g0 hg=>?_
 refine clx 14 hr (wja _ _ _ _ _ _ _) fun v1 _ hr=>?_
 refine jq 11 hr [6,13,14] [6] (fun j3=>[(37,.bo j3)]) (fun _=>[]) (fun j3 hr=>?_) (fun j3 hr=>?_)
 .refine clx 1 hr Kza fun v4 _ hr=>?_
  refine bx 2 33 hr (fun c6 hr=>?_) fun c6 hr=>?_
  .exact jx 5 hr
  exact jx 5 hr
 refine ax 0 37 hr (fun hr=>?_) fun hr=>?_
 .refine jq 0 hr [] [] (fun j8=>[(12,.bo j8)]) (fun _=>[]) (fun j8 hr=>?_) (fun j8 hr=>?_)
  .refine clx 1 hr Kza fun v9 _ hr=>?_
   refine bx 1 39 hr (fun c11 hr=>?_) fun c11 hr=>?_
   .refine rn tk 1 rfl<|ug rfl rfl rfl<|wn tk rfl rfl rfl ?_;refine bx 3 44 hr (fun c12 hr=>?_) fun c12 hr=>?_
    .refine rn tk 1 rfl<|ug rfl rfl rfl<|wn tk rfl rfl rfl ?_;exact jx 4 hr
    exact jx 6 hr
   exact jx 11 hr
  exact kx 2 hr
 refine jq 3 hr [6,13,14] [6] (fun j13=>[(60,.bo j13)]) (fun _=>[]) (fun j13 hr=>?_) (fun j13 hr=>?_)
 .refine rn tk 2 rfl<|wn tk rfl rfl rfl ?_;refine bx 2 52 hr (fun c14 hr=>?_) fun c14 hr=>?_
  .exact jx 9 hr
  refine rn tk 1 rfl<|ug rfl rfl rfl<|wn tk rfl rfl rfl<|rn tk 3 rfl<|ug rfl rfl rfl<|wn tk rfl rfl rfl ?_;exact jx 3 hr
 refine ax 0 60 hr (fun hr=>?_) fun hr=>?_
 .exact kx 7 hr
 refine aq2 9 hr [6,13,14] [6] (fun s16=>[(16,.i s16)]) (fun _=>[]) (.exit 0) [6,13] [6] (fun _=>[]) (fun _=>[]) .ret [] [] (fun b18=>[(12,.bo b18)]) (fun _=>[]) (fun s16 x20 hr=>?_) (fun b17 hr=>?_) (fun b18 hr=>?_)
 .unfold z7a at hr;refine rn tk 5 rfl<|wn tk rfl rfl rfl ?_;refine ax 3 64 hr (fun hr=>?_) fun hr=>?_
  .refine jq 4 hr [6,13,14,16] [6] (fun j22=>[(17,.bo j22)]) (fun _=>[]) (fun j22 hr=>?_) (fun j22 hr=>?_)
   .refine wda (((v1.1.length:Int)==1)) (fun c23=>?_) (fun c23=>?_)
    .replace hr:=VLa c23 hr
     obtain ⟨v24,h25,hr⟩:=zaa hr;obtain ⟨v26,h27,hr⟩:=zaa hr;refine dq 0 16 [(70,true)] [(1,.i ((v1.1.length:Int))),(5,.ep (zN4 v24)),(13,.ep [pS v26.Address,pI v26.Notify])] (.cons rfl c23 .nil) (.cons rfl rfl (kda (wKa (f:=zva.pc) rfl zLa.u)) (.cons rfl rfl (kda (yNa (f:=zva.pc) rfl rfl zLa kNa rfl h25)) (.cons rfl rfl (kda (yNa (f:=zba.pc) rfl rfl zha zwa rfl h27)) .nil))) ?_ mixed;refine kn 70 c23 rfl ?_;obtain ⟨v28,h29,hr⟩:=zaa hr;refine ug rfl rfl rfl<|cl (zab _ _ _ h29) rfl rfl ?_;exact jx 4 hr
    replace hr:=VMa c23 hr
    refine dq 0 16 [(70,false)] [(1,.i ((v1.1.length:Int)))] (.cons rfl c23 .nil) (.cons rfl rfl (kda (wKa (f:=zva.pc) rfl zLa.u)) .nil) ?_ mixed;refine kn 70 c23 rfl ?_;exact jx 5 hr
   refine jq 0 hr [6,13,14,16] [6] (fun j30=>[(118,.bo j30)]) (fun _=>[]) (fun j30 hr=>?_) (fun j30 hr=>?_)
   .refine rn tk 3 rfl ?_;obtain ⟨v31,h32,hr⟩:=zaa hr;refine wi tk h32 rfl rfl rfl rfl rfl ?_;refine bx 3 91 hr (fun c33 hr=>?_) fun c33 hr=>?_
    .refine bx 4 95 hr (fun c34 hr=>?_) fun c34 hr=>?_
     .exact jx 24 hr
     refine bx 2 97 hr (fun c35 hr=>?_) fun c35 hr=>?_
     .refine rn tk 2 rfl ?_;obtain ⟨v36,h37,hr⟩:=zaa hr;refine ug rfl rfl rfl<|wi tk h37 rfl rfl rfl rfl rfl ?_;refine bx 4 104 hr (fun c38 hr=>?_) fun c38 hr=>?_
      .refine rn tk 2 rfl ?_;obtain ⟨v39,h40,hr⟩:=zaa hr;refine ug rfl rfl rfl<|wi tk h40 rfl rfl rfl rfl rfl ?_;refine bx 5 112 hr (fun c41 hr=>?_) fun c41 hr=>?_
       .exact jx 7 hr
       refine rn tk 2 rfl ?_;obtain ⟨v42,h43,hr⟩:=zaa hr;refine ug rfl rfl rfl<|wi tk h43 rfl rfl rfl rfl rfl ?_;exact jx 4 hr
      refine rn tk 10 rfl ?_;obtain ⟨v44,h45,hr⟩:=zaa hr;refine ug rfl rfl rfl<|wi tk h45 rfl rfl rfl rfl rfl ?_;exact jx 4 hr
     refine rn tk 17 rfl ?_;obtain ⟨v46,h47,hr⟩:=zaa hr;refine ug rfl rfl rfl<|wi tk h47 rfl rfl rfl rfl rfl ?_;exact jx 4 hr
    refine bx 6 97 hr (fun c48 hr=>?_) fun c48 hr=>?_
    .refine rn tk 2 rfl ?_;obtain ⟨v49,h50,hr⟩:=zaa hr;refine ug rfl rfl rfl<|wi tk h50 rfl rfl rfl rfl rfl ?_;refine bx 4 104 hr (fun c51 hr=>?_) fun c51 hr=>?_
     .refine rn tk 2 rfl ?_;obtain ⟨v52,h53,hr⟩:=zaa hr;refine ug rfl rfl rfl<|wi tk h53 rfl rfl rfl rfl rfl ?_;refine bx 5 112 hr (fun c54 hr=>?_) fun c54 hr=>?_
      .exact jx 7 hr
      refine rn tk 2 rfl ?_;obtain ⟨v55,h56,hr⟩:=zaa hr;refine ug rfl rfl rfl<|wi tk h56 rfl rfl rfl rfl rfl ?_;exact jx 4 hr
     refine rn tk 10 rfl ?_;obtain ⟨v57,h58,hr⟩:=zaa hr;refine ug rfl rfl rfl<|wi tk h58 rfl rfl rfl rfl rfl ?_;exact jx 4 hr
    refine rn tk 17 rfl ?_;obtain ⟨v59,h60,hr⟩:=zaa hr;refine ug rfl rfl rfl<|wi tk h60 rfl rfl rfl rfl rfl ?_;exact jx 4 hr
   refine ax 0 118 hr (fun hr=>?_) fun hr=>?_
   .exact ox 8 hr
   exact cx 8 hr
  exact ox 2 hr
 .refine rn tk 6 rfl<|wn tk rfl rfl rfl ?_;refine ax 3 121 hr (fun hr=>?_) fun hr=>?_
  .exact kx 7 hr
  refine aq2 9 hr [6,13] [6] (fun s63=>[(18,.i s63)]) (fun _=>[]) (.exit 2) [6,13] [6] (fun _=>[]) (fun _=>[]) .ret [] [] (fun b65=>[(12,.bo b65)]) (fun _=>[]) (fun s63 x67 hr=>?_) (fun b64 hr=>?_) (fun b65 hr=>?_)
  .unfold z8a at hr;refine rn tk 5 rfl ?_;obtain ⟨v68,h69,hr⟩:=zaa hr;refine wi tk h69 rfl rfl rfl rfl rfl<|rn tk 3 rfl<|wn tk rfl rfl rfl ?_;refine ax 3 129 hr (fun hr=>?_) fun hr=>?_
   .refine rn tk 5 rfl ?_;obtain ⟨v71,h72,hr⟩:=zaa hr;obtain ⟨v73,h74,hr⟩:=zaa hr;obtain ⟨v75,h76,hr⟩:=zaa hr;refine mdq 0 [(4,.ep (zN4 v71)),(9,.ep [pS v73.Address,pI v73.Notify]),(12,.i v75)] [6,13,18,19] (.cons rfl rfl (t0 (kda (yNa (f:=zva.pc) rfl rfl zLa kNa rfl h72))) (.cons rfl rfl (t0 (kda (yNa (f:=zba.pc) rfl rfl zha zwa rfl h74))) (.cons rfl rfl (t0 (zXa (zab a0.Envelope.To v73.Address v75 h76) rfl)) .nil))) ?_ mixed;refine jq 1 hr [6,13,18] [6] (fun j77=>[(163,.bo j77)]) (fun _=>[]) (fun j77 hr=>?_) (fun j77 hr=>?_)
    .refine wda (decide (v75 < 0)) (fun c78=>?_) (fun c78=>?_)
     .replace hr:=VLa c78 hr
      refine dq 0 17 [(147,true)] [] (.cons rfl c78 .nil) .nil ?_ mixed;refine kn 147 c78 rfl ?_;exact jx 3 hr
     replace hr:=VMa c78 hr
     obtain ⟨v79,h80,hr⟩:=zaa hr;obtain ⟨v81,h82,hr⟩:=zaa hr;obtain ⟨v83,h84,hr⟩:=zaa hr;refine dq 0 17 [(147,false)] [(7,.ep [pS v79.Address,pI v79.Notify]),(10,.ep (zN4 v81)),(15,.ep [pS v83.Address,pI v83.Notify])] (.cons rfl c78 .nil) (.cons rfl rfl (kda (yNa (f:=zba.pc) rfl rfl zha zwa rfl h80)) (.cons rfl rfl (kda (yNa (f:=zva.pc) rfl rfl zLa kNa rfl h82)) (.cons rfl rfl (kda (yNa (f:=zba.pc) rfl rfl zha zwa rfl h84)) .nil))) ?_ mixed;refine kn 147 c78 rfl<|ug rfl rfl rfl<|wq (Vga rfl rfl zwa WHa (.str rfl (by decide) zHa (.int rfl (by decide) kOa .nil))) rfl rfl rfl ?_;exact jx 2 hr
    refine ax 0 163 hr (fun hr=>?_) fun hr=>?_
    .exact ox 8 hr
    exact cx 8 hr
   exact ox 2 hr
  .refine jq 2 hr [] [] (fun j86=>[(12,.bo j86)]) (fun _=>[]) (fun j86 hr=>?_) (fun j86 hr=>?_)
   .obtain ⟨v87,h88,hr⟩:=zaa hr;refine wda ((v87.Envelope.From==a0.Envelope.From)) (fun c89=>?_) (fun c89=>?_)
    .replace hr:=VLa c89 hr
     obtain ⟨v90,h91,hr⟩:=zaa hr;refine dq 0 16 [(173,true)] [(1,.ep (zN4 v87)),(11,.ep (zN4 v90))] (.cons rfl c89 .nil) (.cons rfl rfl (kda (yNa (f:=zva.pc) rfl rfl zLa kNa rfl h88)) (.cons rfl rfl (kda (yNa (f:=zva.pc) rfl rfl zLa kNa rfl h91)) .nil)) ?_ mixed;refine kn 173 c89 rfl ?_;obtain ⟨v92,h93,hr⟩:=zaa hr;refine ug rfl rfl rfl<|cl (Yaa _ _ _ h93) rfl rfl ?_;exact jx 3 hr
    replace hr:=VMa c89 hr
    refine dq 0 16 [(173,false)] [(1,.ep (zN4 v87))] (.cons rfl c89 .nil) (.cons rfl rfl (kda (yNa (f:=zva.pc) rfl rfl zLa kNa rfl h88)) .nil) ?_ mixed;refine kn 173 c89 rfl ?_;exact jx 4 hr
   exact kx 1 hr
  exact kx 2 hr
 exact kx 2 hr
end Go.Proofs.YtjjgjalfelnclaaGreatDoor
namespace Go.Proofs.YtjjgjalfelnclaaGreatDoor.wireAcceptedAtMostOnce
open Go.ChangeShapes Go.WideShapes Go.ChangeAt Go.RowKit Go.Proofs.Tryz
theorem contract(H:Type)(enc:TypeId × Value->H)(W:World)(base:Nat)(args:Array Value)(ds gs:List (DataW H))(before:List MemPlace)
 (hval:∀(j:Nat) t v,Tryz.f4.params[j]? =some t->args[j]? =some v->Value.okWide prog W .any base t v)
 (hW:DataW.Whole enc prog Tryz.f4.params.toList Rows.wireAcceptedAtMostOnceSpec.vars false W args.toList ds gs before) (hk:Rows.uptoSmall H (ds++gs)=true) (hgl:Gl (gAll W)):
 Calls prog 4 args W fun e W' =>∃v,e=.returned v/\Rows.wireAcceptedAtMostOnceSpec.post enc prog Tryz.f4 false true false false W args v W' :=by
 have hW' :=hW;obtain ⟨p,q,hA0,hV,rfl,hfz,hnd⟩:=hW;have hA:DataW.TrodAll enc prog W 0 (fun _=>true) true Tryz.f4.params.toList args.toList ds p:=hA0;rw[Tryz.params4]at hA hval;obtain ⟨v0,vs0,d0,ds0,p0,q0,hargs,rfl,rfl,h0,r0⟩:=trodAll_cons hA;obtain ⟨v1,vs1,d1,ds1,p1,q1,rfl,rfl,rfl,h1,r1⟩:=trodAll_cons r0;obtain ⟨v2,vs2,d2,ds2,p2,q2,rfl,rfl,rfl,h2,r2⟩:=trodAll_cons r1;obtain ⟨v3,vs3,d3,ds3,p3,q3,rfl,rfl,rfl,h3,r3⟩:=trodAll_cons r2;obtain ⟨v4,vs4,d4,ds4,p4,q4,rfl,rfl,rfl,h4,r4⟩:=trodAll_cons r3;obtain ⟨v5,vs5,d5,ds5,p5,q5,rfl,rfl,rfl,h5,r5⟩:=trodAll_cons r4;obtain ⟨rfl,rfl,rfl⟩:=trodAll_nil r5;obtain rfl:args= #[v0,v1,v2,v3,v4,v5]:=by cases args;simp_all
 obtain ⟨rfl,rfl⟩:=trodVars_none hV;obtain ⟨a0,e0,o0,k0⟩:=arg_agg w2b (by obtain ⟨cs,h,_⟩:=okWide_struct kNa.u (hval 0 _ v0 rfl rfl);exact ⟨cs,h⟩) h0;obtain ⟨a1,e1,o1,k1⟩:=Jaa zHb (by obtain ⟨_,h⟩:=okWide_int kOa.u (hval 1 _ v1 rfl rfl);rw[h];rfl) h1;obtain ⟨a2,e2,o2,k2⟩:=Jaa zHb (by obtain ⟨_,h⟩:=okWide_int kOa.u (hval 2 _ v2 rfl rfl);rw[h];rfl) h2;obtain ⟨a3,e3,o3,k3⟩:=Jaa op_bool (by obtain ⟨_,h⟩:=okWide_bool WKa.u (hval 3 _ v3 rfl rfl);rw[h];rfl) h3;obtain ⟨a4,e4,o4,k4⟩:=Jaa op_s_int (by obtain ⟨_,_,_,h⟩:=okWide_slice q6a.u (hval 4 _ v4 rfl rfl);rw[h];rfl) h4;obtain ⟨a5,e5,o5,k5⟩:=Jaa zHb (by obtain ⟨_,h⟩:=okWide_int kOa.u (hval 5 _ v5 rfl rfl);rw[h];rfl) h5;have hk2:=of_decide_eq_true hk;simp only[jBj,Rows.uptoBulkAll]at hk2;have ht:=y8a a0 a1 a2 a3 a4 a5 o0 o1 o2 o3 o4 o5 (by (try dsimp only);omega);have key:Calls prog 4 #[v0,v1,v2,v3,v4,v5] W fun e W' =>e=.returned (.bool true)/\Below W.heap.size W W' :=q3b (jga a0 a1 a2 a3 a4 a5 true ht) hgl (Zob (.cons e0 (.cons (e1 _ rfl) (.cons (e2 _ rfl) (.cons (e3 _ rfl) (.cons (e4 _ rfl) (.cons (e5 _ rfl) .nil)))))))
 refine key.mono fun e W' ⟨he,hb⟩=>⟨_,he,?_⟩
 exact K6b laidOut (by kernel_rfl) underlying4 (by kernel_rfl) rfl rfl hW' hb
noncomputable def wit(os:Os):World:=let w0:=World.doorLaid prog 72 os
 {w0 with heap:=w0.heap.modify 6 fun
  | .cells _ t fz=>.cells (Lib.firstTab.map fun z=>Value.int .u8 z).toArray t fz
  | o=>o}
theorem reads(os:Os){H:Type}(enc:TypeId × Value->H):∃places,DataW.whole enc prog ((wit os).forCall (fun _ _=>0) ⟨#[], #[.agg #[.string ⟨#[]⟩,.slice none 0 0,.string ⟨#[]⟩,.slice none 0 0,.slice none 0 0],.int .i64 0,.int .i64 0,.bool false,.slice none 0 0,.int .i64 0],[]⟩).memory Tryz.f4.params.toList (Rows.OpenSpec.upto Rows.wireAcceptedAtMostOnceSpec).vars false (#[.agg #[.string ⟨#[]⟩,.slice none 0 0,.string ⟨#[]⟩,.slice none 0 0,.slice none 0 0],.int .i64 0,.int .i64 0,.bool false,.slice none 0 0,.int .i64 0]:Array Value).toList 8=some ([.agg [.agg [.lit (.string []),.nil,.lit (.string [])],.agg [.nil,.nil]],.lit (.int .i64 0),.lit (.int .i64 0),.lit (.bool false),.nil,.lit (.int .i64 0)],[],places):=
 ⟨[],by kernel_rfl⟩
theorem lifted(os:Os)(started:os.Started)(H:Type)(enc:TypeId × Value->H)(F:Stop.Interp):
 ReturnsInHanded {} Tryz.checked os 4 .any ((Rows.OpenSpec.upto Rows.wireAcceptedAtMostOnceSpec).preRow enc prog Tryz.f4 Rows.wireAcceptedAtMostOnceUptoRow.domain false Rows.wireAcceptedAtMostOnceUptoRow.laid) (((Rows.OpenSpec.upto Rows.wireAcceptedAtMostOnceSpec).at F).post enc prog Tryz.f4 false true false false):=by
 obtain ⟨places,hx⟩:=reads os enc;refine returnsInHanded_of_row (C:=Tryz.checked) (s:=Rows.OpenSpec.upto Rows.wireAcceptedAtMostOnceSpec) own started (by kernel_rfl) func4
  (witness_row_atRef (enc:=enc) (C:=Tryz.checked) false (wit os) #[.agg #[.string ⟨#[]⟩,.slice none 0 0,.string ⟨#[]⟩,.slice none 0 0,.slice none 0 0],.int .i64 0,.int .i64 0,.bool false,.slice none 0 0,.int .i64 0] rfl (by kernel_rfl) (by kernel_rfl) (by kernel_rfl)
   (OpenSpec.preRow_of_cond 8 hx (by kernel_rfl) (fun k hk=>by cases hk;kernel_rfl) (by kernel_rfl) (laidMet_of_run' 8 (by kernel_rfl) (by kernel_rfl)))) ?_
 intro W base args ds gs before hval hW _ hk _ hL hsh _;exact contract H enc W base args ds gs before hval hW (hk _ rfl) (Zpb (rest:=Rows.wireAcceptedAtMostOnceUptoRow.laid.drop 3) hsh (by kernel_rfl) hL (fun hm=>Zqb hm.tail.tail.tail.tail.tail))
theorem j0:jf0 Tryz.pinned.checked.prog 4 Tryz.f4 (Rows.OpenSpec.upto Rows.wireAcceptedAtMostOnceSpec).bare Rows.wireAcceptedAtMostOnceUptoRow=true:=by kernel_rfl
theorem j1:jf1 Tryz.pinned.checked.prog 4 Tryz.f4 (Rows.OpenSpec.upto Rows.wireAcceptedAtMostOnceSpec).bare Rows.wireAcceptedAtMostOnceUptoRow=true:=by kernel_rfl
theorem j2:jf2 Tryz.pinned.checked.prog 4 Tryz.f4 (Rows.OpenSpec.upto Rows.wireAcceptedAtMostOnceSpec).bare Rows.wireAcceptedAtMostOnceUptoRow=true:=by kernel_rfl
theorem j3:jf3 Tryz.pinned.checked.prog 4 Tryz.f4 (Rows.OpenSpec.upto Rows.wireAcceptedAtMostOnceSpec).bare Rows.wireAcceptedAtMostOnceUptoRow=true:=by kernel_rfl
theorem j4:jf4 Tryz.pinned.checked.prog 4 Tryz.f4 (Rows.OpenSpec.upto Rows.wireAcceptedAtMostOnceSpec).bare Rows.wireAcceptedAtMostOnceUptoRow=true:=by kernel_rfl
theorem j5:jf5 Tryz.pinned.checked.prog 4 Tryz.f4 (Rows.OpenSpec.upto Rows.wireAcceptedAtMostOnceSpec).bare Rows.wireAcceptedAtMostOnceUptoRow=true:=by kernel_rfl
theorem j6:jf6 Tryz.pinned.checked.prog 4 Tryz.f4 (Rows.OpenSpec.upto Rows.wireAcceptedAtMostOnceSpec).bare Rows.wireAcceptedAtMostOnceUptoRow=true:=by kernel_rfl
theorem j7:jf7 Tryz.pinned.checked.prog 4 Tryz.f4 (Rows.OpenSpec.upto Rows.wireAcceptedAtMostOnceSpec).bare Rows.wireAcceptedAtMostOnceUptoRow=true:=by kernel_rfl
theorem j8:jf8 Tryz.pinned.checked.prog 4 Tryz.f4 (Rows.OpenSpec.upto Rows.wireAcceptedAtMostOnceSpec).bare Rows.wireAcceptedAtMostOnceUptoRow=true:=by kernel_rfl
theorem j9:jf9 Tryz.pinned.checked.prog 4 Tryz.f4 (Rows.OpenSpec.upto Rows.wireAcceptedAtMostOnceSpec).bare Rows.wireAcceptedAtMostOnceUptoRow=true:=by kernel_rfl
theorem j10:jf10 Tryz.pinned.checked.prog 4 Tryz.f4 (Rows.OpenSpec.upto Rows.wireAcceptedAtMostOnceSpec).bare Rows.wireAcceptedAtMostOnceUptoRow=true:=by kernel_rfl
theorem j11:jf11 Tryz.pinned.checked.prog 4 Tryz.f4 (Rows.OpenSpec.upto Rows.wireAcceptedAtMostOnceSpec).bare Rows.wireAcceptedAtMostOnceUptoRow=true:=by kernel_rfl
theorem j12:jf12 Tryz.pinned.checked.prog 4 Tryz.f4 (Rows.OpenSpec.upto Rows.wireAcceptedAtMostOnceSpec).bare Rows.wireAcceptedAtMostOnceUptoRow=true:=by kernel_rfl
theorem j13:jf13 Tryz.pinned.checked.prog 4 Tryz.f4 (Rows.OpenSpec.upto Rows.wireAcceptedAtMostOnceSpec).bare Rows.wireAcceptedAtMostOnceUptoRow=true:=by kernel_rfl
theorem j14:jf14 Tryz.pinned.checked.prog 4 Tryz.f4 (Rows.OpenSpec.upto Rows.wireAcceptedAtMostOnceSpec).bare Rows.wireAcceptedAtMostOnceUptoRow=true:=by kernel_rfl
theorem j15:jf15 Tryz.pinned.checked.prog 4 Tryz.f4 (Rows.OpenSpec.upto Rows.wireAcceptedAtMostOnceSpec).bare Rows.wireAcceptedAtMostOnceUptoRow=true:=by kernel_rfl
theorem j16:jf16 Tryz.pinned.checked.prog 4 Tryz.f4 (Rows.OpenSpec.upto Rows.wireAcceptedAtMostOnceSpec).bare Rows.wireAcceptedAtMostOnceUptoRow=true:=by kernel_rfl
theorem j17:jf17 Tryz.pinned.checked.prog 4 Tryz.f4 (Rows.OpenSpec.upto Rows.wireAcceptedAtMostOnceSpec).bare Rows.wireAcceptedAtMostOnceUptoRow=true:=by kernel_rfl
theorem j18:jf18 Tryz.pinned.checked.prog 4 Tryz.f4 (Rows.OpenSpec.upto Rows.wireAcceptedAtMostOnceSpec).bare Rows.wireAcceptedAtMostOnceUptoRow=true:=by kernel_rfl
theorem j19:jf19 Tryz.pinned.checked.prog 4 Tryz.f4 (Rows.OpenSpec.upto Rows.wireAcceptedAtMostOnceSpec).bare Rows.wireAcceptedAtMostOnceUptoRow=true:=by kernel_rfl
theorem j20:jf20 Tryz.pinned.checked.prog 4 Tryz.f4 (Rows.OpenSpec.upto Rows.wireAcceptedAtMostOnceSpec).bare Rows.wireAcceptedAtMostOnceUptoRow=true:=by kernel_rfl
theorem j21:jf21 Tryz.pinned.checked.prog 4 Tryz.f4 (Rows.OpenSpec.upto Rows.wireAcceptedAtMostOnceSpec).bare Rows.wireAcceptedAtMostOnceUptoRow=true:=by kernel_rfl
theorem j22:jf22 Tryz.pinned.checked.prog 4 Tryz.f4 (Rows.OpenSpec.upto Rows.wireAcceptedAtMostOnceSpec).bare Rows.wireAcceptedAtMostOnceUptoRow=true:=by kernel_rfl
theorem j23:jf23 Tryz.pinned.checked.prog 4 Tryz.f4 (Rows.OpenSpec.upto Rows.wireAcceptedAtMostOnceSpec).bare Rows.wireAcceptedAtMostOnceUptoRow=true:=by kernel_rfl
theorem j24:jf24 Tryz.pinned.checked.prog 4 Tryz.f4 (Rows.OpenSpec.upto Rows.wireAcceptedAtMostOnceSpec).bare Rows.wireAcceptedAtMostOnceUptoRow=true:=by kernel_rfl
theorem j25:jf25 Tryz.pinned.checked.prog 4 Tryz.f4 (Rows.OpenSpec.upto Rows.wireAcceptedAtMostOnceSpec).bare Rows.wireAcceptedAtMostOnceUptoRow=true:=by kernel_rfl
theorem j26:jf26 Tryz.pinned.checked.prog 4 Tryz.f4 (Rows.OpenSpec.upto Rows.wireAcceptedAtMostOnceSpec).bare Rows.wireAcceptedAtMostOnceUptoRow=true:=by kernel_rfl
theorem j27:jf27 Tryz.pinned.checked.prog 4 Tryz.f4 (Rows.OpenSpec.upto Rows.wireAcceptedAtMostOnceSpec).bare Rows.wireAcceptedAtMostOnceUptoRow=true:=by kernel_rfl
theorem j28:jf28 Tryz.pinned.checked.prog 4 Tryz.f4 (Rows.OpenSpec.upto Rows.wireAcceptedAtMostOnceSpec).bare Rows.wireAcceptedAtMostOnceUptoRow=true:=by kernel_rfl
theorem j29:jf29 Tryz.pinned.checked.prog 4 Tryz.f4 (Rows.OpenSpec.upto Rows.wireAcceptedAtMostOnceSpec).bare Rows.wireAcceptedAtMostOnceUptoRow=true:=by kernel_rfl
theorem j30:jf30 Tryz.pinned.checked.prog 4 Tryz.f4 (Rows.OpenSpec.upto Rows.wireAcceptedAtMostOnceSpec).bare Rows.wireAcceptedAtMostOnceUptoRow=true:=by kernel_rfl
theorem j31:jf31 Tryz.pinned.checked.prog 4 Tryz.f4 (Rows.OpenSpec.upto Rows.wireAcceptedAtMostOnceSpec).bare Rows.wireAcceptedAtMostOnceUptoRow=true:=by kernel_rfl
theorem said:Rows.wireAcceptedAtMostOnceUptoRow.holds Tryz.pinned (Rows.OpenSpec.upto Rows.wireAcceptedAtMostOnceSpec):=
 OpenClaim.holds_of_cond 4 Tryz.f4 rfl rfl rfl rfl rfl rfl rfl ⟨rfl,rfl,rfl,rfl,rfl⟩ rfl rfl rfl rfl rfl (by kernel_rfl) func4 (K7b j0 j1 j2 j3 j4 j5 j6 j7 j8 j9 j10 j11 j12 j13 j14 j15 j16 j17 j18 j19 j20 j21 j22 j23 j24 j25 j26 j27 j28 j29 j30 j31)
  (of_decide_eq_true (by kernel_rfl)) (by unfold Func.isWrapper;first | (rw[if_pos (by decide+kernel)];kernel_rfl) | (rw[if_neg (by decide+kernel)];exact ⟨rfl,rfl⟩))
  (fun os started H enc _ F=>by rw[OpenClaim.pre_eq_preRow];exact lifted os started H enc F)
theorem plain (f : FuncId) (fn : Func) (hf : Tryz.pinned.checked.prog.funcNamed "posthouse/posthouselaw4.WireAcceptedAtMostOnce" = some f) (hfn : Tryz.pinned.checked.prog.funcs[f]? = some fn) :
 true=Tryz.pinned.checked.prog.looks []/\∀(j:Nat) t,fn.params[j]? =some t->Tryz.pinned.checked.prog.wantsStandIn t=false:=by
 obtain rfl : f = 4 := Option.some.inj ((show prog.funcNamed "posthouse/posthouselaw4.WireAcceptedAtMostOnce" = some 4 by kernel_rfl).symm.trans hf) |>.symm
 obtain rfl:fn=Tryz.f4:=(Option.some.inj (func4.symm.trans hfn)).symm;refine ⟨by kernel_rfl,fun j t ht=>?_⟩;rw[Tryz.params4]at ht;have hm:=Array.mem_of_getElem? ht;simp only[List.mem_toArray,jBh,List.not_mem_nil,or_false]at hm;rcases hm with rfl | rfl | rfl | rfl | rfl | rfl
 .exact (show prog.wantsStandIn 30=false by kernel_rfl)
 .exact (show prog.wantsStandIn 3=false by kernel_rfl)
 .exact (show prog.wantsStandIn 3=false by kernel_rfl)
 .exact (show prog.wantsStandIn 4=false by kernel_rfl)
 .exact (show prog.wantsStandIn 31=false by kernel_rfl)
 exact (show prog.wantsStandIn 3=false by kernel_rfl)
theorem proved:Rows.WireAcceptedAtMostOnceUptoCardSaid:=
 Claim7.holds_tied_plain_at .later [] _ _ _ _ said (fun _ h=>by cases h) (by kernel_rfl) (fun _ h=>by cases h) wireAcceptedAtMostOnceUpto_row_tie rfl ⟨rfl,rfl⟩ (by kernel_rfl) rfl plain (by kernel_rfl)
#print axioms proved
end Go.Proofs.YtjjgjalfelnclaaGreatDoor.wireAcceptedAtMostOnce
