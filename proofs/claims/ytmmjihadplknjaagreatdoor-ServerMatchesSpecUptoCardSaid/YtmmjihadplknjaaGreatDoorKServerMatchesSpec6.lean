/- The law ServerMatchesSpec holds for every input of bulk up to the given bound: it returns true and leaves its arguments as they were. Written by program. -/
import Derived.Test.YtmmjihadplknjaaGreatDoorKServerMatchesSpec5
set_option linter.unusedVariables false
set_option linter.unusedSimpArgs false
set_option maxRecDepth 100000
set_option maxHeartbeats 40000000
namespace Go.Proofs.YtmmjihadplknjaaGreatDoor
open Go.RowKit Go.Proofs.Tryz
theorem KAa(a0:zha)(a1:List UInt8)(r:zha × (List zka) × (List zza) × zta)(hr:w0a a0 a1=some r):Run prog 13 [.agg (zA2 a0),.l cU a1] (.tup [.agg (zA2 r.1),.l zka.pc r.2.1,.l zza.pc r.2.2.1,.agg [.i r.2.2.2.Code,.i r.2.2.2.Index]]):=by
 unfold w0a at hr;refine rf (fn:=f13) ⟨func13,rfl,by kernel_rfl⟩ rfl (fun _=>rfl) fun g0 hg=>?_
 refine rn tk 17 rfl ?_;obtain ⟨v1,h2,hr⟩:=zaa hr;refine cl (yva _ _ _ _ h2) rfl rfl<|rn tk 9 rfl ?_;obtain ⟨v3,h4,hr⟩:=zaa hr;refine cl (zRa _ _ h4) rfl rfl<|rn tk 3 rfl<|ac 20 hr rfl (fun c5 hr=>?_) (fun c5 hr=>?_)
 .refine rn tk 1 rfl ?_;refine mc tk [] [(4,.ptr 4 0),(5,.pv (.sl (some true) [])),(6,.pv (.sl (some true) [])),(7,.ptr 7 0)] mixed rfl (by kernel_rfl) .nil (fc rfl (fc rfl (fc rfl (fc rfl fn)))) (hA ?_);refine rn tk 4 rfl ?_;cases hr;exact kr tk (.inr rfl) rfl rfl
 refine rn tk 3 rfl ?_;obtain ⟨v6,h7,hr⟩:=zaa hr;refine cl (Wba _ _ h7) rfl rfl<|rn tk 4 rfl<|ac 25 hr rfl (fun c8 hr=>?_) (fun c8 hr=>?_)
 .refine rn tk 3 rfl ?_;obtain ⟨v9,h10,hr⟩:=zaa hr;refine cl (zqa _ _ _ h10) rfl rfl<|rn tk 9 rfl ?_;cases hr;exact kr tk (.inr rfl) rfl rfl
 refine rn tk 3 rfl<|wn tk rfl rfl rfl<|rn tk 4 rfl<|ac 31 hr rfl (fun c11 hr=>?_) (fun c11 hr=>?_)
 .refine rn tk 3 rfl ?_;obtain ⟨v12,h13,hr⟩:=zaa hr;refine cl (zqa _ _ _ h13) rfl rfl<|rn tk 9 rfl ?_;cases hr;exact kr tk (.inr rfl) rfl rfl
 refine rn tk 4 rfl ?_;obtain ⟨v14,h15,hr⟩:=zaa hr;obtain ⟨v16,h17,hr⟩:=zaa hr;obtain ⟨v18,h19,hr⟩:=zaa hr;refine mz [some (.ptr 2 7),some (.l zca.pc a0.To),some (.l zca.pc v14),some (.ptr 2 8),some (.l cU a0.Buffer),none,some (.ptr 2 9),some (.l cU a0.Data),none,some (.ptr 2 7),none,some (.ptr 2 8),none,some (.ptr 2 9),none] (fun f s=>[((bt 15 0),f,s),((bt 15 32),((42,.hs 1042 0)::f),((1042,.row 5 true 1 (List.map cU v16))::s)),((bt 15 288),((45,.hs 1045 0)::((42,.hs 1042 0)::f)),((1045,.row 5 true 1 (List.map cU v18))::((1042,.row 5 true 1 (List.map cU v16))::s))),((bt 15 1312),((45,.hs 1045 0)::((42,.hs 1042 0)::f)),(Sto.upd ((1045,.row 5 true 1 (List.map cU v18))::((1042,.row 5 true 1 (List.map cU v16))::s)) 2 (.cells [.s a0.Name,.i a0.Size,.i a0.Many,.i a0.Phase,.bo a0.Greeted,.bo a0.Mailing,.s a0.From,.l zca.pc v14,.l cU a0.Buffer,.l cU a0.Data,.i a0.Lost,.i a0.Dots,.bo a0.Chunked,.i a0.Left,.bo a0.Last,.bo a0.Ignore,.i a0.Count]))),((bt 15 5408),((45,.hs 1045 0)::((42,.hs 1042 0)::f)),(Sto.upd (Sto.upd ((1045,.row 5 true 1 (List.map cU v18))::((1042,.row 5 true 1 (List.map cU v16))::s)) 2 (.cells [.s a0.Name,.i a0.Size,.i a0.Many,.i a0.Phase,.bo a0.Greeted,.bo a0.Mailing,.s a0.From,.l zca.pc v14,.l cU a0.Buffer,.l cU a0.Data,.i a0.Lost,.i a0.Dots,.bo a0.Chunked,.i a0.Left,.bo a0.Last,.bo a0.Ignore,.i a0.Count])) 2 (.cells [.s a0.Name,.i a0.Size,.i a0.Many,.i a0.Phase,.bo a0.Greeted,.bo a0.Mailing,.s a0.From,.l zca.pc v14,.hs 1042 0,.l cU a0.Data,.i a0.Lost,.i a0.Dots,.bo a0.Chunked,.i a0.Left,.bo a0.Last,.bo a0.Ignore,.i a0.Count]))),((bt 15 21792),((45,.hs 1045 0)::((42,.hs 1042 0)::f)),(Sto.upd (Sto.upd (Sto.upd ((1045,.row 5 true 1 (List.map cU v18))::((1042,.row 5 true 1 (List.map cU v16))::s)) 2 (.cells [.s a0.Name,.i a0.Size,.i a0.Many,.i a0.Phase,.bo a0.Greeted,.bo a0.Mailing,.s a0.From,.l zca.pc v14,.l cU a0.Buffer,.l cU a0.Data,.i a0.Lost,.i a0.Dots,.bo a0.Chunked,.i a0.Left,.bo a0.Last,.bo a0.Ignore,.i a0.Count])) 2 (.cells [.s a0.Name,.i a0.Size,.i a0.Many,.i a0.Phase,.bo a0.Greeted,.bo a0.Mailing,.s a0.From,.l zca.pc v14,.hs 1042 0,.l cU a0.Data,.i a0.Lost,.i a0.Dots,.bo a0.Chunked,.i a0.Left,.bo a0.Last,.bo a0.Ignore,.i a0.Count])) 2 (.cells [.s a0.Name,.i a0.Size,.i a0.Many,.i a0.Phase,.bo a0.Greeted,.bo a0.Mailing,.s a0.From,.l zca.pc v14,.hs 1042 0,.hs 1045 0,.i a0.Lost,.i a0.Dots,.bo a0.Chunked,.i a0.Left,.bo a0.Last,.bo a0.Ignore,.i a0.Count])))]) mixed (by kernel_rfl) (.cons (mn tk [2,5] (by kernel_rfl) (.cons (.pure rfl rfl (k6a (zPa a0.To v14 h15) rfl)) (.cons (mdt 1 rfl (W3a 1042 (vEa a0.Buffer v16 h17) rfl rfl rfl rfl) (by kernel_rfl)) .nil))) (.cons (mn tk [8] (by kernel_rfl) (.cons (mdt 2 rfl (W3a 1045 (vEa a0.Data v18 h19) rfl rfl rfl rfl) (by kernel_rfl)) .nil)) (.cons (mn tk [10] (by kernel_rfl) (.cons (mst 3 rfl (yGa rfl rfl rfl zna rfl rfl) (by kernel_rfl)) .nil)) (.cons (mn tk [12] (by kernel_rfl) (.cons (mst 4 rfl (yGa rfl rfl rfl zla rfl rfl) (by kernel_rfl)) .nil)) (.cons (mn tk [14] (by kernel_rfl) (.cons (mst 5 rfl (yGa rfl rfl rfl zla rfl rfl) (by kernel_rfl)) .nil)) (.cons (mf tk [] [(1,.l cU a1),(2,.ptr 2 0),(4,.ptr 4 0),(7,.ptr 7 0)] (by kernel_rfl) .nil (fc rfl (fc rfl (fc rfl (fc rfl fn)))) (hA ?_)) .nil))))));refine rn tk 5 rfl<|wo (zBb (k:=51) 90002000 rfl rfl rfl rfl rfl) rfl<|rn tk 2 rfl ?_;refine Zwa 1042 90002009 rfl rfl rfl rfl rfl rfl (hO ?_);refine Yka 90002009 rfl (hO ?_);refine Zwa 1045 90002010 rfl rfl rfl rfl rfl rfl (hO ?_);refine Yka 90002010 rfl (hO ?_);refine zua 90002018 (o:=90002000) (j:=17) 28 2 rfl rfl rfl rfl (hO ?_);refine zua 90002019 (o:=90002000) (j:=18) 56 5 rfl rfl rfl rfl (hO ?_);refine rn tk 12 rfl<|wn tk rfl rfl rfl<|rn tk 4 rfl<|al1 hr (fun s20=>[(4,.ptr 4 0),(7,.ptr 7 0),(9,.ptr 9 0),(10,.fn (.func 38) [] [.ptr 9 0]),(53,.l cU a1),(54,.i ((a1.length:Int))),(55,.i s20.1)]) (fun s20=>[(90002019,.row 56 false 5 (List.map zza.pc s20.2.mails)),(90002018,.row 28 false 2 (List.map zka.pc s20.2.replies)),(90002010,.row 5 false 1 (List.map cU s20.2.Server.Data)),(90002009,.row 5 false 1 (List.map cU s20.2.Server.Buffer)),(9,.cells [.ptr 90002000 0]),(90002000,.cells (zA0 s20.2.Server)),(7,.cells [.i 0,.i 0]),(4,.cells [.s (([]:Str)),.i 0,.i 0,.i 0,.bo false,.bo false,.s (([]:Str)),.l zca.pc ([]),.l cU ([]),.l cU ([]),.i 0,.i 0,.bo false,.i 0,.bo false,.bo false,.i 0])]) (.exit 1) (fun b21=>[(4,.ptr 4 0),(7,.ptr 7 0),(9,.ptr 9 0)]) (fun b21=>(zB0 b21 [(9,.cells [.ptr 90002000 0]),(7,.cells [.i 0,.i 0]),(4,.cells [.s (([]:Str)),.i 0,.i 0,.i 0,.bo false,.bo false,.s (([]:Str)),.l zca.pc ([]),.l cU ([]),.l cU ([]),.i 0,.i 0,.bo false,.i 0,.bo false,.bo false,.i 0])])) rfl rfl (fun s20 x22 hr=>?_) (fun b21 hr=>?_)
 .unfold qma at hr;refine rn tk 6 rfl<|ac 56 hr rfl (fun c23 hr=>?_) (fun c23 hr=>?_)
  .refine rn tk 2 rfl<|jb hr (fun j24=>[(4,.ptr 4 0),(7,.ptr 7 0),(9,.ptr 9 0),(10,.fn (.func 38) [] [.ptr 9 0]),(53,.l cU a1),(54,.i ((a1.length:Int))),(55,.i s20.1)]) (fun j24=>(zB0 j24 [(9,.cells [.ptr 90002000 0]),(7,.cells [.i 0,.i 0]),(4,.cells [.s (([]:Str)),.i 0,.i 0,.i 0,.bo false,.bo false,.s (([]:Str)),.l zca.pc ([]),.l cU ([]),.l cU ([]),.i 0,.i 0,.bo false,.i 0,.bo false,.bo false,.i 0])])) (fun j24 hr=>?_) (fun j24 hr=>?_)
   .refine rn tk 3 rfl ?_;obtain ⟨v25,h26,hr⟩:=zaa hr;refine wi tk h26 rfl rfl rfl rfl rfl<|rn tk 20 rfl<|ac 64 hr rfl (fun c27 hr=>?_) (fun c27 hr=>?_)
    .refine rn tk 3 rfl ?_;obtain ⟨v28,h29,hr⟩:=zaa hr;refine wo (zja (k:=68) (ZOa s20.2 v25 v28 h29) rfl rfl (zba rfl (zba rfl (zba rfl (zba rfl (zba rfl zfa)))))) rfl<|rn tk 3 rfl ?_;cases hr;exact jn _ rfl rfl rfl
    refine rn tk 6 rfl<|ac 69 hr rfl (fun c30 hr=>?_) (fun c30 hr=>?_)
    .refine rn tk 3 rfl ?_;obtain ⟨v31,h32,hr⟩:=zaa hr;refine wo (zja (k:=73) (ZNa s20.2 v25 v31 h32) rfl rfl (zba rfl (zba rfl (zba rfl (zba rfl (zba rfl zfa)))))) rfl<|rn tk 3 rfl ?_;cases hr;exact jn _ rfl rfl rfl
    refine rn tk 6 rfl<|ac 74 hr rfl (fun c33 hr=>?_) (fun c33 hr=>?_)
    .refine rn tk 3 rfl<|il (fn:=f38) (args:=[.u8 v25,.ptr 9 0]) 600000 699999 [(4,.ptr 4 0),(7,.ptr 7 0),(9,.ptr 9 0),(10,.fn (.func 38) [] [.ptr 9 0]),(53,.l cU a1),(54,.i ((a1.length:Int))),(55,.i s20.1)] rfl ⟨func38,rfl,by kernel_rfl⟩ rfl rfl rfl fun T6 ds6=>?_
     refine jb hr (fun j34=>[(1,.ptr 9 0)]) (fun j34=>(zB0 j34 [(699999,.sus g0.w.heap.size ds6),(600004,.hold (.ptr 4 0) (T6.getD 4 undef)),(600007,.hold (.ptr 7 0) (T6.getD 7 undef)),(600009,.hold (.ptr 9 0) (T6.getD 9 undef)),(600010,.hold (.fn (.func 38) [] [.ptr 9 0]) (T6.getD 10 undef)),(600053,.hold (.l cU a1) (T6.getD 53 undef)),(600054,.hold (.i ((a1.length:Int))) (T6.getD 54 undef)),(600055,.hold (.i s20.1) (T6.getD 55 undef)),(9,.cells [.ptr 90002000 0]),(7,.cells [.i 0,.i 0]),(4,.cells [.s (([]:Str)),.i 0,.i 0,.i 0,.bo false,.bo false,.s (([]:Str)),.l zca.pc ([]),.l cU ([]),.l cU ([]),.i 0,.i 0,.bo false,.i 0,.bo false,.bo false,.i 0])])) (fun j34 hr=>?_) (fun j34 hr=>?_)
     .refine rn tk 10 rfl<|ac 8 hr rfl (fun c35 hr=>?_) (fun c35 hr=>?_)
      .refine rn tk 3 rfl ?_;obtain ⟨v36,h37,hr⟩:=zaa hr;refine wo (zja (k:=11) (vga s20.2 v25 v36 h37) rfl rfl (zba rfl (zba rfl (zba rfl (zba rfl (zba rfl zfa)))))) rfl<|rn tk 1 rfl ?_;cases hr;exact jn _ rfl rfl rfl
      refine rn tk 1 rfl ?_;cases hr;exact jn _ rfl rfl rfl
     refine rn tk 24 rfl<|ac 26 hr rfl (fun c38 hr=>?_) (fun c38 hr=>?_)
     .refine rn tk 2 rfl ?_;obtain ⟨v39,h40,hr⟩:=zaa hr;refine wo (zja (k:=28) (vLa ((zea.mk ((zha.mk j34.Server.Name j34.Server.Size j34.Server.Many j34.Server.Phase j34.Server.Greeted j34.Server.Mailing j34.Server.From j34.Server.To j34.Server.Buffer j34.Server.Data j34.Server.Lost j34.Server.Dots j34.Server.Chunked ((w64 (j34.Server.Left - 1))) j34.Server.Last j34.Server.Ignore j34.Server.Count)) j34.replies j34.mails)) v39 h40) rfl rfl (zba rfl (zba rfl (zba rfl (zba rfl (zba rfl zfa)))))) rfl<|rn tk 1 rfl ?_;refine ie tk [] [(4,.ptr 4 0),(7,.ptr 7 0),(9,.ptr 9 0),(10,.fn (.func 38) [] [.ptr 9 0]),(53,.l cU a1),(54,.i ((a1.length:Int))),(55,.i s20.1)] (zB0 v39 [(9,.cells [.ptr 90002000 0]),(7,.cells [.i 0,.i 0]),(4,.cells [.s (([]:Str)),.i 0,.i 0,.i 0,.bo false,.bo false,.s (([]:Str)),.l zca.pc ([]),.l cU ([]),.l cU ([]),.i 0,.i 0,.bo false,.i 0,.bo false,.bo false,.i 0])]) (.inl rfl) rfl rfl rfl rfl (hO ?_);refine rn tk 3 rfl ?_;cases hr;exact jn _ rfl rfl rfl
     refine rn tk 1 rfl ?_;refine ie tk [] [(4,.ptr 4 0),(7,.ptr 7 0),(9,.ptr 9 0),(10,.fn (.func 38) [] [.ptr 9 0]),(53,.l cU a1),(54,.i ((a1.length:Int))),(55,.i s20.1)] [(90002000,.cells [.s j34.Server.Name,.i j34.Server.Size,.i j34.Server.Many,.i j34.Server.Phase,.bo j34.Server.Greeted,.bo j34.Server.Mailing,.s j34.Server.From,.l zca.pc j34.Server.To,.hs 90002009 0,.hs 90002010 0,.i j34.Server.Lost,.i j34.Server.Dots,.bo j34.Server.Chunked,.i ((w64 (j34.Server.Left - 1))),.bo j34.Server.Last,.bo j34.Server.Ignore,.i j34.Server.Count,.hs 90002018 0,.hs 90002019 0]),(90002009,.row 5 false 1 (List.map cU j34.Server.Buffer)),(90002010,.row 5 false 1 (List.map cU j34.Server.Data)),(90002018,.row 28 false 2 (List.map zka.pc j34.replies)),(90002019,.row 56 false 5 (List.map zza.pc j34.mails)),(9,.cells [.ptr 90002000 0]),(7,.cells [.i 0,.i 0]),(4,.cells [.s (([]:Str)),.i 0,.i 0,.i 0,.bo false,.bo false,.s (([]:Str)),.l zca.pc ([]),.l cU ([]),.l cU ([]),.i 0,.i 0,.bo false,.i 0,.bo false,.bo false,.i 0])] (.inl rfl) rfl rfl rfl rfl (hO ?_);refine rn tk 3 rfl ?_;cases hr;exact jn _ rfl rfl rfl
    refine rn tk 3 rfl ?_;cases hr;exact jn _ rfl rfl rfl
   refine rn tk 4 rfl ?_;cases hr;exact atc rfl rfl
  refine rn tk 2 rfl ?_;cases hr;exact ato rfl rfl rfl rfl
 refine rn tk 3 rfl ?_;obtain ⟨v41,h42,hr⟩:=zaa hr;refine mc tk [(12,.agg [.i v41.Code,.i v41.Index])] [(4,.ptr 4 0),(5,.hs 90002018 0),(6,.hs 90002019 0),(7,.ptr 7 0)] mixed rfl (by kernel_rfl) (.cons rfl rfl (fun _ _=>(k6a (zWa v41 h42) rfl)) .nil) (fc rfl (fc rfl (fc rfl (fc rfl fn)))) (hA ?_);refine rn tk 1 rfl ?_;refine W1a (o:=4) (j:=8) (F:=cU) (l:=b21.Server.Buffer) rfl rfl rfl (hC ?_);refine W1a (o:=4) (j:=9) (F:=cU) (l:=b21.Server.Data) rfl rfl rfl (hC ?_);refine wda (d:=5) (F:=zka.pc) (l:=b21.replies) rfl rfl (hC ?_);refine wda (d:=6) (F:=zza.pc) (l:=b21.mails) rfl rfl (hC ?_);refine rn tk 1 rfl ?_;cases hr;exact kr tk (.inr rfl) rfl rfl
theorem Qva(a0:Str)(a1:Int)(a2:Int)(r:zha × zka × zta)(hr:ySa a0 a1 a2=some r):Run prog 8 [.s a0,.i a1,.i a2] (.tup [.agg (zA2 r.1),.agg [.i r.2.1.Code,.l cS r.2.1.Lines],.agg [.i r.2.2.Code,.i r.2.2.Index]]):=by
 unfold ySa at hr;refine rf (fn:=f8) ⟨func8,rfl,by kernel_rfl⟩ rfl (fun _=>rfl) fun g0 hg=>?_
 refine rn tk 13 rfl ?_;obtain ⟨v1,h2,hr⟩:=zaa hr;refine cl (yva _ _ _ _ h2) rfl rfl<|rn tk 7 rfl ?_;obtain ⟨v3,h4,hr⟩:=zaa hr;refine cl (zRa _ _ h4) rfl rfl<|rn tk 2 rfl<|ac 15 hr rfl (fun c5 hr=>?_) (fun c5 hr=>?_)
 .refine rn tk 1 rfl ?_;refine mc tk [] [(6,.ptr 6 0),(7,.ptr 7 0),(8,.ptr 8 0)] mixed rfl (by kernel_rfl) .nil (fc rfl (fc rfl (fc rfl fn))) (hA ?_);refine rn tk 3 rfl ?_;cases hr;exact kr tk (.inr rfl) rfl rfl
 refine rn tk 9 rfl<|wz cS ([a0]:List Str) tk rfl rfl (fun _=>rfl) rfl rfl rfl<|rn tk 1 rfl ?_;obtain ⟨v6,h7,hr⟩:=zaa hr;refine cl (zWa _ h7) rfl rfl<|rn tk 6 rfl ?_;cases hr;exact kr tk (.inr rfl) rfl rfl
theorem VAa(r:Bool)(hr:Zfa=some r):Run prog 10 [] (.bo r):=by
 unfold Zfa at hr;refine rf (fn:=f10) ⟨func10,rfl,by kernel_rfl⟩ rfl (fun _=>rfl) fun g0 hg=>?_
 refine rn tk 7 rfl ?_;obtain ⟨v1,h2,hr⟩:=zaa hr;refine cl (Qva _ _ _ _ h2) rfl rfl<|rn tk 15 rfl ?_;refine jya rfl (Q7a (F:=cU) (l:=([(104:UInt8),(101:UInt8),(108:UInt8),(108:UInt8),(111:UInt8),(32:UInt8),(99:UInt8),(13:UInt8),(10:UInt8),(109:UInt8),(97:UInt8),(105:UInt8),(108:UInt8),(32:UInt8),(60:UInt8),(115:UInt8),(64:UInt8),(120:UInt8),(62:UInt8),(13:UInt8),(10:UInt8),(114:UInt8),(99:UInt8),(112:UInt8),(116:UInt8),(32:UInt8),(60:UInt8),(97:UInt8),(64:UInt8),(121:UInt8),(62:UInt8),(13:UInt8),(10:UInt8),(100:UInt8),(97:UInt8),(116:UInt8),(97:UInt8),(13:UInt8),(10:UInt8),(13:UInt8),(10:UInt8),(46:UInt8),(46:UInt8),(13:UInt8),(10:UInt8),(46:UInt8),(13:UInt8),(10:UInt8),(110:UInt8),(111:UInt8),(111:UInt8),(112:UInt8),(13:UInt8),(10:UInt8)]:List UInt8)) zla zDa rfl (fun _=>rfl) rfl (by kernel_rfl)) zla zDa (zxa rfl) (zxa rfl) rfl (hO ?_);obtain ⟨v3,h4,hr⟩:=zaa hr;refine cl (KAa _ _ _ h4) rfl rfl<|rn tk 15 rfl ?_;obtain ⟨v5,h6,hr⟩:=zaa hr;refine cl (Qva _ _ _ _ h6) rfl rfl<|rn tk 13 rfl<|jb hr (fun j7=>[(4,.ptr 4 0),(5,.l zka.pc v3.2.1),(6,.l zza.pc v3.2.2.1),(66,.bo j7)]) (fun j7=>[(4,.cells (zA2 v3.1))]) (fun j7 hr=>?_) (fun j7 hr=>?_)
 .refine jZa ((v1.2.2.Code !=0)) (fun c8=>?_) (fun c8=>?_)
  .replace hr:=Yga c8 hr
   refine dr 11 [(40,.tup []),(39,.tup []),(38,.bo true),(37,.bo true),(36,.tup []),(35,.tup []),(34,.tup []),(33,.bo ((v1.2.2.Code !=0))),(32,.bo ((v1.2.2.Code !=0))),(31,.i v1.2.2.Code),(30,.ptr 3 0)] mixed (by kernel_rfl) rfl rfl (pq tk rfl (.plain rfl) (pq tk rfl (.plain rfl) (pq tk rfl (.plain rfl) (pq tk rfl (.plain rfl) (.skip (.no (d:=33) rfl rfl rfl c8) (.skip (.no (d:=33) rfl rfl rfl c8) (.skip (.no (d:=33) rfl rfl rfl c8) (.run (.plain rfl) (kfa (Z2a rfl c8)) (pq tk rfl (.plain rfl) (.skip (.no (d:=38) rfl rfl rfl rfl) (.skip (.no (d:=38) rfl rfl rfl rfl) .nil))))))))))) rfl<|rn tk 27 rfl ?_;cases hr;exact jn _ rfl rfl rfl
  replace hr:=Yha c8 hr
  refine jZa ((v3.2.2.2.Code !=0)) (fun c9=>?_) (fun c9=>?_)
  .replace hr:=Yga c9 hr
   refine dr 11 [(40,.tup []),(39,.tup []),(38,.bo ((v3.2.2.2.Code !=0))),(37,.bo ((v3.2.2.2.Code !=0))),(36,.bo ((v3.2.2.2.Code !=0))),(35,.i v3.2.2.2.Code),(34,.ptr 7 0),(33,.bo ((v1.2.2.Code !=0))),(32,.bo ((v1.2.2.Code !=0))),(31,.i v1.2.2.Code),(30,.ptr 3 0)] mixed (by kernel_rfl) rfl rfl (pq tk rfl (.plain rfl) (pq tk rfl (.plain rfl) (pq tk rfl (.plain rfl) (pq tk rfl (.plain rfl) (pq tk rfl (.yes (d:=33) rfl rfl rfl c8) (pq tk rfl (.yes (d:=33) rfl rfl rfl c8) (pq tk rfl (.yes (d:=33) rfl rfl rfl c8) (.run (.plain rfl) (kfa (yWa rfl c8)) (pq tk rfl (.plain rfl) (.skip (.no (d:=38) rfl rfl rfl c9) (.skip (.no (d:=38) rfl rfl rfl c9) .nil))))))))))) rfl<|kn 38 c9 rfl<|rn tk 27 rfl ?_;cases hr;exact jn _ rfl rfl rfl
  replace hr:=Yha c9 hr
  obtain ⟨v10,h11,hr⟩:=zaa hr;refine dr 11 [(40,.agg [.i v10.Code,.i v10.Index]),(39,.agg [.i v5.2.2.Code,.i v5.2.2.Index]),(38,.bo ((v3.2.2.2.Code !=0))),(37,.bo ((v3.2.2.2.Code !=0))),(36,.bo ((v3.2.2.2.Code !=0))),(35,.i v3.2.2.2.Code),(34,.ptr 7 0),(33,.bo ((v1.2.2.Code !=0))),(32,.bo ((v1.2.2.Code !=0))),(31,.i v1.2.2.Code),(30,.ptr 3 0)] mixed (by kernel_rfl) rfl rfl (pq tk rfl (.plain rfl) (pq tk rfl (.plain rfl) (pq tk rfl (.plain rfl) (pq tk rfl (.plain rfl) (pq tk rfl (.yes (d:=33) rfl rfl rfl c8) (pq tk rfl (.yes (d:=33) rfl rfl rfl c8) (pq tk rfl (.yes (d:=33) rfl rfl rfl c8) (.run (.plain rfl) (kfa (yWa rfl c8)) (pq tk rfl (.plain rfl) (pq tk rfl (.yes (d:=38) rfl rfl rfl c9) (.run (.yes (d:=38) rfl rfl rfl c9) (k6a (z7a 10 ((-20)) v10 h11) rfl) .nil))))))))))) rfl<|kn 38 c9 rfl<|ug rfl rfl rfl<|wq (wRa rfl rfl qca Zxa (.int rfl (by decide) wka (.int rfl (by decide) wka .nil))) rfl rfl rfl<|rn tk 2 rfl<|bs 43 hr rfl (fun c12 hr=>?_) (fun c12 hr=>?_)
  .refine rn tk 24 rfl ?_;cases hr;exact jn _ rfl rfl rfl
  refine rn tk 5 rfl<|bs 48 hr rfl (fun c13 hr=>?_) (fun c13 hr=>?_)
  .refine rn tk 19 rfl ?_;cases hr;exact jn _ rfl rfl rfl
  refine rn tk 1 rfl<|ug rfl rfl rfl<|wn tk rfl rfl rfl<|rn tk 3 rfl<|bs 53 hr rfl (fun c14 hr=>?_) (fun c14 hr=>?_)
  .refine rn tk 14 rfl ?_;cases hr;exact jn _ rfl rfl rfl
  refine rn tk 1 rfl<|ug rfl rfl rfl<|wn tk rfl rfl rfl<|rn tk 3 rfl<|bs 58 hr rfl (fun c15 hr=>?_) (fun c15 hr=>?_)
  .refine rn tk 9 rfl ?_;cases hr;exact jn _ rfl rfl rfl
  refine rn tk 1 rfl ?_;obtain ⟨v16,h17,hr⟩:=zaa hr;refine ug rfl rfl rfl<|wi tk h17 rfl rfl rfl rfl rfl<|rn tk 3 rfl<|ug rfl rfl rfl<|wn tk rfl rfl rfl<|rn tk 3 rfl ?_;cases hr;exact jn _ rfl rfl rfl
 refine ac 66 hr rfl (fun c18 hr=>?_) (fun c18 hr=>?_)
 .refine rn tk 7 rfl ?_;cases hr;exact kr tk (.inr rfl) rfl rfl
 refine rn tk 2 rfl<|jb hr (fun j19=>[(0,.bo j19)]) (fun j19=>[]) (fun j19 hr=>?_) (fun j19 hr=>?_)
 .refine rn tk 2 rfl ?_;obtain ⟨v20,h21,hr⟩:=zaa hr;refine wi tk h21 rfl rfl rfl rfl rfl<|rn tk 4 rfl<|bs 72 hr rfl (fun c22 hr=>?_) (fun c22 hr=>?_)
  .refine rn tk 1 rfl ?_;obtain ⟨v23,h24,hr⟩:=zaa hr;refine ug rfl rfl rfl<|wi tk h24 rfl rfl rfl rfl rfl<|rn tk 2 rfl<|ug rfl rfl rfl<|wz cS ([([109,120,45,49]:Str)]:List Str) tk rfl rfl (fun _=>rfl) rfl rfl rfl ?_;obtain ⟨v25,h26,hr⟩:=zaa hr;refine ug rfl rfl rfl<|cl (Vua _ _ _ h26) rfl rfl<|rn tk 2 rfl<|bs 80 hr rfl (fun c27 hr=>?_) (fun c27 hr=>?_)
   .refine rn tk 1 rfl ?_;obtain ⟨v28,h29,hr⟩:=zaa hr;refine ug rfl rfl rfl<|wi tk h29 rfl rfl rfl rfl rfl<|rn tk 5 rfl<|bs 87 hr rfl (fun c30 hr=>?_) (fun c30 hr=>?_)
    .refine rn tk 5 rfl<|bs 92 hr rfl (fun c31 hr=>?_) (fun c31 hr=>?_)
     .refine rn tk 1 rfl ?_;obtain ⟨v32,h33,hr⟩:=zaa hr;refine ug rfl rfl rfl<|wi tk h33 rfl rfl rfl rfl rfl<|rn tk 6 rfl<|bs 100 hr rfl (fun c34 hr=>?_) (fun c34 hr=>?_)
      .refine rn tk 1 rfl ?_;obtain ⟨v35,h36,hr⟩:=zaa hr;refine ug rfl rfl rfl<|wi tk h36 rfl rfl rfl rfl rfl<|rn tk 6 rfl<|bs 108 hr rfl (fun c37 hr=>?_) (fun c37 hr=>?_)
       .refine rn tk 1 rfl ?_;obtain ⟨v38,h39,hr⟩:=zaa hr;refine ug rfl rfl rfl<|wi tk h39 rfl rfl rfl rfl rfl<|rn tk 3 rfl<|ug rfl rfl rfl<|wb tk rfl rfl rfl<|rn tk 4 rfl ?_;cases hr;exact jn _ rfl rfl rfl
       refine rn tk 10 rfl ?_;cases hr;exact jn _ rfl rfl rfl
      refine rn tk 18 rfl ?_;cases hr;exact jn _ rfl rfl rfl
     refine rn tk 26 rfl ?_;cases hr;exact jn _ rfl rfl rfl
    refine rn tk 31 rfl ?_;cases hr;exact jn _ rfl rfl rfl
   refine rn tk 38 rfl ?_;cases hr;exact jn _ rfl rfl rfl
  refine rn tk 46 rfl ?_;cases hr;exact jn _ rfl rfl rfl
 refine rn tk 1 rfl ?_;cases hr;exact kr tk (.inr rfl) rfl rfl
theorem Qfa(a0:List zca)(a1:List zca)(r:Bool)(hr:q1a a0 a1=some r):Run prog 33 [.l zca.pc a0,.l zca.pc a1] (.bo r):=by
 unfold q1a at hr;refine rf (fn:=f33) ⟨func33,rfl,by kernel_rfl⟩ rfl (fun _=>rfl) fun g0 hg=>?_
 refine rn tk 9 rfl<|wn tk rfl rfl rfl<|rn tk 1 rfl<|wn tk rfl rfl rfl<|rn tk 3 rfl<|ac 10 hr rfl (fun c1 hr=>?_) (fun c1 hr=>?_)
 .refine rn tk 7 rfl ?_;cases hr;exact kr tk (.inr rfl) rfl rfl
 refine rn tk 9 rfl<|al2 hr (fun s2=>[(0,.l zca.pc a0),(1,.l zca.pc a1),(5,.i s2)]) (fun s2=>[]) (.exit 0) (fun b3=>[]) (fun b3=>[]) .ret (fun b4=>[(4,.bo b4)]) (fun b4=>[]) rfl rfl (fun s2 x6 hr=>?_) (fun b3 hr=>?_) (fun b4 hr=>?_)
 .unfold qSa at hr;refine rn tk 5 rfl<|wn tk rfl rfl rfl<|rn tk 3 rfl<|ac 14 hr rfl (fun c7 hr=>?_) (fun c7 hr=>?_)
  .refine rn tk 5 rfl ?_;obtain ⟨v8,h9,hr⟩:=zaa hr;obtain ⟨v10,h11,hr⟩:=zaa hr;refine dr 8 [(24,.agg [.s v10.Address,.i v10.Notify]),(23,.ep [pS v10.Address,pI v10.Notify]),(22,.i s2),(21,.l zca.pc a1),(20,.agg [.s v8.Address,.i v8.Notify]),(19,.ep [pS v8.Address,pI v8.Notify]),(18,.i s2),(17,.l zca.pc a0)] mixed (by kernel_rfl) rfl rfl (pq tk rfl (.plain rfl) (pq tk rfl (.plain rfl) (.run (.plain rfl) (kfa (qLa (f:=zca.pc) rfl rfl zna zya rfl h9)) (pq tk rfl (.plain rfl) (pq tk rfl (.plain rfl) (pq tk rfl (.plain rfl) (.run (.plain rfl) (kfa (qLa (f:=zca.pc) rfl rfl zna zya rfl h11)) (pq tk rfl (.plain rfl) .nil)))))))) rfl<|wq (wRa rfl rfl zya j1a (.str rfl (by decide) zCa (.int rfl (by decide) wka .nil))) rfl rfl rfl<|rn tk 2 rfl<|ac 25 hr rfl (fun c12 hr=>?_) (fun c12 hr=>?_)
   .refine rn tk 8 rfl ?_;cases hr;exact ato rfl rfl rfl rfl
   refine rn tk 8 rfl ?_;cases hr;exact atc rfl rfl
  refine rn tk 2 rfl ?_;cases hr;exact ato rfl rfl rfl rfl
 .refine rn tk 8 rfl ?_;cases hr;exact kr tk (.inr rfl) rfl rfl
 refine rn tk 2 rfl ?_;cases hr;exact kr tk (.inr rfl) rfl rfl
theorem Zna(a0:zha)(a1:zha)(r:Bool)(hr:qfa a0 a1=some r):Run prog 11 [.agg (zA2 a0),.agg (zA2 a1)] (.bo r):=by
 unfold qfa at hr;refine rf (fn:=f11) ⟨func11,rfl,by kernel_rfl⟩ rfl (fun _=>rfl) fun g0 hg=>?_
 refine rn tk 8 rfl<|jb hr (fun j1=>[(2,.ptr 2 0),(3,.ptr 3 0),(58,.bo j1)]) (fun j1=>[(3,.cells (zA2 a1)),(2,.cells (zA2 a0))]) (fun j1 hr=>?_) (fun j1 hr=>?_)
 .refine rn tk 7 rfl<|bs 10 hr rfl (fun c2 hr=>?_) (fun c2 hr=>?_)
  .refine rn tk 49 rfl ?_;cases hr;exact jn _ rfl rfl rfl
  refine rn tk 7 rfl<|bs 17 hr rfl (fun c3 hr=>?_) (fun c3 hr=>?_)
  .refine rn tk 42 rfl ?_;cases hr;exact jn _ rfl rfl rfl
  refine rn tk 7 rfl<|bs 24 hr rfl (fun c4 hr=>?_) (fun c4 hr=>?_)
  .refine rn tk 35 rfl ?_;cases hr;exact jn _ rfl rfl rfl
  refine rn tk 7 rfl<|bs 31 hr rfl (fun c5 hr=>?_) (fun c5 hr=>?_)
  .refine rn tk 28 rfl ?_;cases hr;exact jn _ rfl rfl rfl
  refine rn tk 7 rfl<|bs 38 hr rfl (fun c6 hr=>?_) (fun c6 hr=>?_)
  .refine rn tk 21 rfl ?_;cases hr;exact jn _ rfl rfl rfl
  refine rn tk 7 rfl<|bs 45 hr rfl (fun c7 hr=>?_) (fun c7 hr=>?_)
  .refine rn tk 14 rfl ?_;cases hr;exact jn _ rfl rfl rfl
  refine rn tk 7 rfl<|bs 52 hr rfl (fun c8 hr=>?_) (fun c8 hr=>?_)
  .refine rn tk 7 rfl ?_;cases hr;exact jn _ rfl rfl rfl
  refine rn tk 7 rfl ?_;cases hr;exact jn _ rfl rfl rfl
 refine ac 58 hr rfl (fun c9 hr=>?_) (fun c9 hr=>?_)
 .refine rn tk 7 rfl ?_;cases hr;exact kr tk (.inr rfl) rfl rfl
 refine rn tk 3 rfl<|jb hr (fun j10=>[(2,.ptr 2 0),(3,.ptr 3 0),(116,.bo j10)]) (fun j10=>[(3,.cells (zA2 a1)),(2,.cells (zA2 a0))]) (fun j10 hr=>?_) (fun j10 hr=>?_)
 .refine rn tk 3 rfl<|wb tk rfl rfl rfl<|rn tk 2 rfl<|wb tk rfl rfl rfl<|rn tk 2 rfl<|bs 66 hr rfl (fun c11 hr=>?_) (fun c11 hr=>?_)
  .refine rn tk 51 rfl ?_;cases hr;exact jn _ rfl rfl rfl
  refine rn tk 2 rfl<|ug rfl rfl rfl<|wb tk rfl rfl rfl<|rn tk 2 rfl<|ug rfl rfl rfl<|wb tk rfl rfl rfl<|rn tk 3 rfl<|bs 75 hr rfl (fun c12 hr=>?_) (fun c12 hr=>?_)
  .refine rn tk 42 rfl ?_;cases hr;exact jn _ rfl rfl rfl
  refine rn tk 7 rfl<|bs 82 hr rfl (fun c13 hr=>?_) (fun c13 hr=>?_)
  .refine rn tk 35 rfl ?_;cases hr;exact jn _ rfl rfl rfl
  refine rn tk 7 rfl<|bs 89 hr rfl (fun c14 hr=>?_) (fun c14 hr=>?_)
  .refine rn tk 28 rfl ?_;cases hr;exact jn _ rfl rfl rfl
  refine rn tk 7 rfl<|bs 96 hr rfl (fun c15 hr=>?_) (fun c15 hr=>?_)
  .refine rn tk 21 rfl ?_;cases hr;exact jn _ rfl rfl rfl
  refine rn tk 7 rfl<|bs 103 hr rfl (fun c16 hr=>?_) (fun c16 hr=>?_)
  .refine rn tk 14 rfl ?_;cases hr;exact jn _ rfl rfl rfl
  refine rn tk 7 rfl<|bs 110 hr rfl (fun c17 hr=>?_) (fun c17 hr=>?_)
  .refine rn tk 7 rfl ?_;cases hr;exact jn _ rfl rfl rfl
  refine rn tk 7 rfl ?_;cases hr;exact jn _ rfl rfl rfl
 refine ac 116 hr rfl (fun c18 hr=>?_) (fun c18 hr=>?_)
 .refine rn tk 7 rfl ?_;cases hr;exact kr tk (.inr rfl) rfl rfl
 refine rn tk 8 rfl ?_;obtain ⟨v19,h20,hr⟩:=zaa hr;refine cl (Qfa _ _ _ h20) rfl rfl<|rn tk 4 rfl ?_;cases hr;exact kr tk (.inr rfl) rfl rfl
theorem qna(a0:zda)(r:zda)(hr:qHa a0=some r):RunS prog 74 [.agg (zA1 a0.S)] [(90003010,.row 5 false 1 (List.map cU a0.S.Data)),(90003018,.row 28 false 2 (List.map zka.pc a0.Replies)),(90003019,.row 56 false 5 (List.map zza.pc a0.Mails))] (.agg (zA1 r.S)) [(90003010,.row 5 false 1 (List.map cU r.S.Data)),(90003018,.row 28 false 2 (List.map zka.pc r.Replies)),(90003019,.row 56 false 5 (List.map zza.pc r.Mails))] 90003000 [90003010,90003018,90003019]:=by
 unfold qHa at hr;refine rfS (fn:=f74) (H:=90003999) .any ⟨func74,rfl,by kernel_rfl⟩ rfl (hasT rfl) (.inr ⟨rfl,rfl⟩) rfl rfl rfl rfl fun g0 hg S sg T=>?_
 refine rn tk 4 rfl ?_;refine zua 1002 (o:=2) (j:=9) 5 1 rfl rfl rfl rfl (hO ?_);refine zua 2002 (o:=2) (j:=17) 28 2 rfl rfl rfl rfl (hO ?_);refine zua 3002 (o:=2) (j:=18) 56 5 rfl rfl rfl rfl (hO ?_);refine rn tk 28 rfl ?_;refine zua 1001 (o:=1) (j:=9) 5 1 rfl rfl rfl rfl (hO ?_);refine Kaa 90003010 (hO ?_);refine Zwa 1001 90003010 rfl rfl rfl rfl rfl rfl (hO ?_);refine rn tk 23 rfl ?_;cases hr;exact krS tk (.inr rfl) rfl rfl (zba rfl (zba rfl (zba rfl (zba rfl zfa))))
theorem kpa(a0:zda)(a1:Int)(a2:Str)(r:zda)(hr:vKa a0 a1 a2=some r):RunS prog 72 [.agg (zA1 a0.S),.i a1,.s a2] [(90003010,.row 5 false 1 (List.map cU a0.S.Data)),(90003018,.row 28 false 2 (List.map zka.pc a0.Replies)),(90003019,.row 56 false 5 (List.map zza.pc a0.Mails))] (.agg (zA1 r.S)) [(90003010,.row 5 false 1 (List.map cU r.S.Data)),(90003018,.row 28 false 2 (List.map zka.pc r.Replies)),(90003019,.row 56 false 5 (List.map zza.pc r.Mails))] 90003000 [90003010,90003018,90003019]:=by
 unfold vKa at hr;refine rfS (fn:=f72) (H:=90003999) .any ⟨func72,rfl,by kernel_rfl⟩ rfl (hasT rfl) (.inr ⟨rfl,rfl⟩) rfl rfl rfl rfl fun g0 hg S sg T=>?_
 refine rn tk 4 rfl ?_;refine zua 1006 (o:=6) (j:=9) 5 1 rfl rfl rfl rfl (hO ?_);refine zua 2006 (o:=6) (j:=17) 28 2 rfl rfl rfl rfl (hO ?_);refine zua 3006 (o:=6) (j:=18) 56 5 rfl rfl rfl rfl (hO ?_);refine rn tk 8 rfl<|wz cS ([a2]:List Str) tk rfl rfl (fun _=>rfl) rfl rfl rfl<|rn tk 1 rfl<|wz zka.pc ([(zka.mk a1 (([a2]:List Str)))]:List zka) tk rfl rfl (fun _=>rfl) rfl rfl rfl ?_;obtain ⟨v1,h2,hr⟩:=zaa hr;refine wa tk h2 rfl rfl rfl rfl (fun _=>rfl) rfl rfl<|rn tk 11 rfl ?_;cases hr;exact krS tk (.inr rfl) rfl rfl (zba rfl (zba rfl (zba rfl (zba rfl zfa))))
private theorem KBa(a0:Int)(r:Str)(hr:y8a a0=some r):Run prog 27 [.i a0] (.s r):=by
 unfold y8a at hr;refine rf (fn:=f27) ⟨func27,rfl,by kernel_rfl⟩ rfl (fun _=>rfl) fun g0 hg=>?_
 refine rn tk 12 rfl<|ac 4 hr rfl (fun c1 hr=>?_) (fun c1 hr=>?_)
 .refine rn tk 5 rfl ?_;obtain ⟨v2,h3,hr⟩:=zaa hr;refine QBa tk h3 rfl rfl rfl rfl rfl<|rn tk 5 rfl ?_;cases hr;exact kr tk (.inr rfl) rfl rfl
 refine rn tk 5 rfl<|wq (wea rfl rfl rfl) rfl rfl rfl ?_;cases hr
private theorem KCa(a0:Int)(r:Str)(hr:y9a a0=some r):Run prog 27 [.i a0] (.s r):=by
 unfold y9a at hr;refine rf (fn:=f27) ⟨func27,rfl,by kernel_rfl⟩ rfl (fun _=>rfl) fun g0 hg=>?_
 refine rn tk 12 rfl<|ac 4 hr rfl (fun c1 hr=>?_) (fun c1 hr=>?_)
 .refine rn tk 5 rfl ?_;obtain ⟨v2,h3,hr⟩:=zaa hr;refine QBa tk h3 rfl rfl rfl rfl rfl<|rn tk 5 rfl ?_;cases hr;exact kr tk (.inr rfl) rfl rfl
 refine rn tk 5 rfl<|wq (wea rfl rfl rfl) rfl rfl rfl ?_;obtain ⟨v4,h5,hr⟩:=zaa hr;refine cl (KBa _ _ h5) rfl rfl<|rn tk 1 rfl<|wq (wwa rfl rfl rfl) rfl rfl rfl ?_;obtain ⟨v6,h7,hr⟩:=zaa hr;refine cl (KBa _ _ h7) rfl rfl ?_;obtain ⟨v8,h9,hr⟩:=zaa hr;refine wc h9 rfl rfl rfl<|rn tk 4 rfl ?_;cases hr;exact kr tk (.inr rfl) rfl rfl
private theorem KDa(a0:Int)(r:Str)(hr:jaa a0=some r):Run prog 27 [.i a0] (.s r):=by
 unfold jaa at hr;refine rf (fn:=f27) ⟨func27,rfl,by kernel_rfl⟩ rfl (fun _=>rfl) fun g0 hg=>?_
 refine rn tk 12 rfl<|ac 4 hr rfl (fun c1 hr=>?_) (fun c1 hr=>?_)
 .refine rn tk 5 rfl ?_;obtain ⟨v2,h3,hr⟩:=zaa hr;refine QBa tk h3 rfl rfl rfl rfl rfl<|rn tk 5 rfl ?_;cases hr;exact kr tk (.inr rfl) rfl rfl
 refine rn tk 5 rfl<|wq (wea rfl rfl rfl) rfl rfl rfl ?_;obtain ⟨v4,h5,hr⟩:=zaa hr;refine cl (KCa _ _ h5) rfl rfl<|rn tk 1 rfl<|wq (wwa rfl rfl rfl) rfl rfl rfl ?_;obtain ⟨v6,h7,hr⟩:=zaa hr;refine cl (KCa _ _ h7) rfl rfl ?_;obtain ⟨v8,h9,hr⟩:=zaa hr;refine wc h9 rfl rfl rfl<|rn tk 4 rfl ?_;cases hr;exact kr tk (.inr rfl) rfl rfl
private theorem KEa(a0:Int)(r:Str)(hr:jba a0=some r):Run prog 27 [.i a0] (.s r):=by
 unfold jba at hr;refine rf (fn:=f27) ⟨func27,rfl,by kernel_rfl⟩ rfl (fun _=>rfl) fun g0 hg=>?_
 refine rn tk 12 rfl<|ac 4 hr rfl (fun c1 hr=>?_) (fun c1 hr=>?_)
 .refine rn tk 5 rfl ?_;obtain ⟨v2,h3,hr⟩:=zaa hr;refine QBa tk h3 rfl rfl rfl rfl rfl<|rn tk 5 rfl ?_;cases hr;exact kr tk (.inr rfl) rfl rfl
 refine rn tk 5 rfl<|wq (wea rfl rfl rfl) rfl rfl rfl ?_;obtain ⟨v4,h5,hr⟩:=zaa hr;refine cl (KDa _ _ h5) rfl rfl<|rn tk 1 rfl<|wq (wwa rfl rfl rfl) rfl rfl rfl ?_;obtain ⟨v6,h7,hr⟩:=zaa hr;refine cl (KDa _ _ h7) rfl rfl ?_;obtain ⟨v8,h9,hr⟩:=zaa hr;refine wc h9 rfl rfl rfl<|rn tk 4 rfl ?_;cases hr;exact kr tk (.inr rfl) rfl rfl
private theorem KFa(a0:Int)(r:Str)(hr:jca a0=some r):Run prog 27 [.i a0] (.s r):=by
 unfold jca at hr;refine rf (fn:=f27) ⟨func27,rfl,by kernel_rfl⟩ rfl (fun _=>rfl) fun g0 hg=>?_
 refine rn tk 12 rfl<|ac 4 hr rfl (fun c1 hr=>?_) (fun c1 hr=>?_)
 .refine rn tk 5 rfl ?_;obtain ⟨v2,h3,hr⟩:=zaa hr;refine QBa tk h3 rfl rfl rfl rfl rfl<|rn tk 5 rfl ?_;cases hr;exact kr tk (.inr rfl) rfl rfl
 refine rn tk 5 rfl<|wq (wea rfl rfl rfl) rfl rfl rfl ?_;obtain ⟨v4,h5,hr⟩:=zaa hr;refine cl (KEa _ _ h5) rfl rfl<|rn tk 1 rfl<|wq (wwa rfl rfl rfl) rfl rfl rfl ?_;obtain ⟨v6,h7,hr⟩:=zaa hr;refine cl (KEa _ _ h7) rfl rfl ?_;obtain ⟨v8,h9,hr⟩:=zaa hr;refine wc h9 rfl rfl rfl<|rn tk 4 rfl ?_;cases hr;exact kr tk (.inr rfl) rfl rfl
private theorem KGa(a0:Int)(r:Str)(hr:jda a0=some r):Run prog 27 [.i a0] (.s r):=by
 unfold jda at hr;refine rf (fn:=f27) ⟨func27,rfl,by kernel_rfl⟩ rfl (fun _=>rfl) fun g0 hg=>?_
 refine rn tk 12 rfl<|ac 4 hr rfl (fun c1 hr=>?_) (fun c1 hr=>?_)
 .refine rn tk 5 rfl ?_;obtain ⟨v2,h3,hr⟩:=zaa hr;refine QBa tk h3 rfl rfl rfl rfl rfl<|rn tk 5 rfl ?_;cases hr;exact kr tk (.inr rfl) rfl rfl
 refine rn tk 5 rfl<|wq (wea rfl rfl rfl) rfl rfl rfl ?_;obtain ⟨v4,h5,hr⟩:=zaa hr;refine cl (KFa _ _ h5) rfl rfl<|rn tk 1 rfl<|wq (wwa rfl rfl rfl) rfl rfl rfl ?_;obtain ⟨v6,h7,hr⟩:=zaa hr;refine cl (KFa _ _ h7) rfl rfl ?_;obtain ⟨v8,h9,hr⟩:=zaa hr;refine wc h9 rfl rfl rfl<|rn tk 4 rfl ?_;cases hr;exact kr tk (.inr rfl) rfl rfl
private theorem KHa(a0:Int)(r:Str)(hr:jea a0=some r):Run prog 27 [.i a0] (.s r):=by
 unfold jea at hr;refine rf (fn:=f27) ⟨func27,rfl,by kernel_rfl⟩ rfl (fun _=>rfl) fun g0 hg=>?_
 refine rn tk 12 rfl<|ac 4 hr rfl (fun c1 hr=>?_) (fun c1 hr=>?_)
 .refine rn tk 5 rfl ?_;obtain ⟨v2,h3,hr⟩:=zaa hr;refine QBa tk h3 rfl rfl rfl rfl rfl<|rn tk 5 rfl ?_;cases hr;exact kr tk (.inr rfl) rfl rfl
 refine rn tk 5 rfl<|wq (wea rfl rfl rfl) rfl rfl rfl ?_;obtain ⟨v4,h5,hr⟩:=zaa hr;refine cl (KGa _ _ h5) rfl rfl<|rn tk 1 rfl<|wq (wwa rfl rfl rfl) rfl rfl rfl ?_;obtain ⟨v6,h7,hr⟩:=zaa hr;refine cl (KGa _ _ h7) rfl rfl ?_;obtain ⟨v8,h9,hr⟩:=zaa hr;refine wc h9 rfl rfl rfl<|rn tk 4 rfl ?_;cases hr;exact kr tk (.inr rfl) rfl rfl
private theorem KIa(a0:Int)(r:Str)(hr:jfa a0=some r):Run prog 27 [.i a0] (.s r):=by
 unfold jfa at hr;refine rf (fn:=f27) ⟨func27,rfl,by kernel_rfl⟩ rfl (fun _=>rfl) fun g0 hg=>?_
 refine rn tk 12 rfl<|ac 4 hr rfl (fun c1 hr=>?_) (fun c1 hr=>?_)
 .refine rn tk 5 rfl ?_;obtain ⟨v2,h3,hr⟩:=zaa hr;refine QBa tk h3 rfl rfl rfl rfl rfl<|rn tk 5 rfl ?_;cases hr;exact kr tk (.inr rfl) rfl rfl
 refine rn tk 5 rfl<|wq (wea rfl rfl rfl) rfl rfl rfl ?_;obtain ⟨v4,h5,hr⟩:=zaa hr;refine cl (KHa _ _ h5) rfl rfl<|rn tk 1 rfl<|wq (wwa rfl rfl rfl) rfl rfl rfl ?_;obtain ⟨v6,h7,hr⟩:=zaa hr;refine cl (KHa _ _ h7) rfl rfl ?_;obtain ⟨v8,h9,hr⟩:=zaa hr;refine wc h9 rfl rfl rfl<|rn tk 4 rfl ?_;cases hr;exact kr tk (.inr rfl) rfl rfl
private theorem KJa(a0:Int)(r:Str)(hr:jga a0=some r):Run prog 27 [.i a0] (.s r):=by
 unfold jga at hr;refine rf (fn:=f27) ⟨func27,rfl,by kernel_rfl⟩ rfl (fun _=>rfl) fun g0 hg=>?_
 refine rn tk 12 rfl<|ac 4 hr rfl (fun c1 hr=>?_) (fun c1 hr=>?_)
 .refine rn tk 5 rfl ?_;obtain ⟨v2,h3,hr⟩:=zaa hr;refine QBa tk h3 rfl rfl rfl rfl rfl<|rn tk 5 rfl ?_;cases hr;exact kr tk (.inr rfl) rfl rfl
 refine rn tk 5 rfl<|wq (wea rfl rfl rfl) rfl rfl rfl ?_;obtain ⟨v4,h5,hr⟩:=zaa hr;refine cl (KIa _ _ h5) rfl rfl<|rn tk 1 rfl<|wq (wwa rfl rfl rfl) rfl rfl rfl ?_;obtain ⟨v6,h7,hr⟩:=zaa hr;refine cl (KIa _ _ h7) rfl rfl ?_;obtain ⟨v8,h9,hr⟩:=zaa hr;refine wc h9 rfl rfl rfl<|rn tk 4 rfl ?_;cases hr;exact kr tk (.inr rfl) rfl rfl
private theorem KKa(a0:Int)(r:Str)(hr:jha a0=some r):Run prog 27 [.i a0] (.s r):=by
 unfold jha at hr;refine rf (fn:=f27) ⟨func27,rfl,by kernel_rfl⟩ rfl (fun _=>rfl) fun g0 hg=>?_
 refine rn tk 12 rfl<|ac 4 hr rfl (fun c1 hr=>?_) (fun c1 hr=>?_)
 .refine rn tk 5 rfl ?_;obtain ⟨v2,h3,hr⟩:=zaa hr;refine QBa tk h3 rfl rfl rfl rfl rfl<|rn tk 5 rfl ?_;cases hr;exact kr tk (.inr rfl) rfl rfl
 refine rn tk 5 rfl<|wq (wea rfl rfl rfl) rfl rfl rfl ?_;obtain ⟨v4,h5,hr⟩:=zaa hr;refine cl (KJa _ _ h5) rfl rfl<|rn tk 1 rfl<|wq (wwa rfl rfl rfl) rfl rfl rfl ?_;obtain ⟨v6,h7,hr⟩:=zaa hr;refine cl (KJa _ _ h7) rfl rfl ?_;obtain ⟨v8,h9,hr⟩:=zaa hr;refine wc h9 rfl rfl rfl<|rn tk 4 rfl ?_;cases hr;exact kr tk (.inr rfl) rfl rfl
private theorem ZTa(a0:Int)(r:Str)(hr:yia a0=some r):Run prog 27 [.i a0] (.s r):=by
 unfold yia at hr;refine rf (fn:=f27) ⟨func27,rfl,by kernel_rfl⟩ rfl (fun _=>rfl) fun g0 hg=>?_
 refine rn tk 12 rfl<|ac 4 hr rfl (fun c1 hr=>?_) (fun c1 hr=>?_)
 .refine rn tk 5 rfl ?_;obtain ⟨v2,h3,hr⟩:=zaa hr;refine QBa tk h3 rfl rfl rfl rfl rfl<|rn tk 5 rfl ?_;cases hr;exact kr tk (.inr rfl) rfl rfl
 refine rn tk 5 rfl<|wq (wea rfl rfl rfl) rfl rfl rfl ?_;obtain ⟨v4,h5,hr⟩:=zaa hr;refine cl (KKa _ _ h5) rfl rfl<|rn tk 1 rfl<|wq (wwa rfl rfl rfl) rfl rfl rfl ?_;obtain ⟨v6,h7,hr⟩:=zaa hr;refine cl (KKa _ _ h7) rfl rfl ?_;obtain ⟨v8,h9,hr⟩:=zaa hr;refine wc h9 rfl rfl rfl<|rn tk 4 rfl ?_;cases hr;exact kr tk (.inr rfl) rfl rfl
private theorem ZUa(a0:Int)(r:Str)(hr:yja a0=some r):Run prog 27 [.i a0] (.s r):=by
 unfold yja at hr;refine rf (fn:=f27) ⟨func27,rfl,by kernel_rfl⟩ rfl (fun _=>rfl) fun g0 hg=>?_
 refine rn tk 12 rfl<|ac 4 hr rfl (fun c1 hr=>?_) (fun c1 hr=>?_)
 .refine rn tk 5 rfl ?_;obtain ⟨v2,h3,hr⟩:=zaa hr;refine QBa tk h3 rfl rfl rfl rfl rfl<|rn tk 5 rfl ?_;cases hr;exact kr tk (.inr rfl) rfl rfl
 refine rn tk 5 rfl<|wq (wea rfl rfl rfl) rfl rfl rfl ?_;obtain ⟨v4,h5,hr⟩:=zaa hr;refine cl (ZTa _ _ h5) rfl rfl<|rn tk 1 rfl<|wq (wwa rfl rfl rfl) rfl rfl rfl ?_;obtain ⟨v6,h7,hr⟩:=zaa hr;refine cl (ZTa _ _ h7) rfl rfl ?_;obtain ⟨v8,h9,hr⟩:=zaa hr;refine wc h9 rfl rfl rfl<|rn tk 4 rfl ?_;cases hr;exact kr tk (.inr rfl) rfl rfl
theorem KLa(a0:Int)(r:Str)(hr:yJa a0=some r):Run prog 27 [.i a0] (.s r):=by
 unfold yJa at hr;refine rf (fn:=f27) ⟨func27,rfl,by kernel_rfl⟩ rfl (fun _=>rfl) fun g0 hg=>?_
 refine rn tk 12 rfl<|ac 4 hr rfl (fun c1 hr=>?_) (fun c1 hr=>?_)
 .refine rn tk 5 rfl ?_;obtain ⟨v2,h3,hr⟩:=zaa hr;refine QBa tk h3 rfl rfl rfl rfl rfl<|rn tk 5 rfl ?_;cases hr;exact kr tk (.inr rfl) rfl rfl
 refine rn tk 5 rfl<|wq (wea rfl rfl rfl) rfl rfl rfl ?_;obtain ⟨v4,h5,hr⟩:=zaa hr;refine cl (ZUa _ _ h5) rfl rfl<|rn tk 1 rfl<|wq (wwa rfl rfl rfl) rfl rfl rfl ?_;obtain ⟨v6,h7,hr⟩:=zaa hr;refine cl (ZUa _ _ h7) rfl rfl ?_;obtain ⟨v8,h9,hr⟩:=zaa hr;refine wc h9 rfl rfl rfl<|rn tk 4 rfl ?_;cases hr;exact kr tk (.inr rfl) rfl rfl
theorem qoa(a0:UInt8)(r:Bool)(hr:vea a0=some r):Run prog 78 [.u8 a0] (.bo r):=by
 unfold vea at hr;refine rf (fn:=f78) ⟨func78,rfl,by kernel_rfl⟩ rfl (fun _=>rfl) fun g0 hg=>?_
 refine rn tk 5 rfl<|jb hr (fun j1=>[(2,.bo j1)]) (fun j1=>[]) (fun j1 hr=>?_) (fun j1 hr=>?_)
 .refine rn tk 4 rfl<|bs 5 hr rfl (fun c2 hr=>?_) (fun c2 hr=>?_)
  .refine rn tk 5 rfl ?_;cases hr;exact jn _ rfl rfl rfl
  refine rn tk 5 rfl ?_;cases hr;exact jn _ rfl rfl rfl
 refine rn tk 1 rfl ?_;cases hr;exact kr tk (.inr rfl) rfl rfl
theorem ZVa(a0:Str)(a1:Str)(r:List Str)(hr:wma a0 a1=some r):Run prog 51 [.s a0,.s a1] (.l cS r):=by
 unfold wma at hr;refine rf (fn:=f51) ⟨func51,rfl,by kernel_rfl⟩ rfl (fun _=>rfl) fun g0 hg=>?_
 refine rn tk 8 rfl ?_;obtain ⟨v1,h2,hr⟩:=zaa hr;refine wc h2 rfl rfl rfl<|rn tk 1 rfl ?_;obtain ⟨v3,h4,hr⟩:=zaa hr;refine wc h4 rfl rfl rfl<|rn tk 14 rfl ?_;refine kXa 1007 (d:=7) 9 1 rfl rfl rfl (hO ?_);refine rn tk 4 rfl<|al1 hr (fun s5=>[(5,.s s5.1),(6,.i s5.2.1),(7,.hs 1007 0)]) (fun s5=>[(1007,.row 9 false 1 (List.map cS s5.2.2))]) (.exit 0) (fun b6=>[(5,.s b6.1),(7,.hs 1007 0)]) (fun b6=>[(1007,.row 9 false 1 (List.map cS b6.2))]) rfl rfl (fun s5 x7 hr=>?_) (fun b6 hr=>?_)
 .unfold vwa at hr;refine rn tk 8 rfl<|ac 20 hr rfl (fun c8 hr=>?_) (fun c8 hr=>?_)
  .refine rn tk 15 rfl<|al1 hr (fun s9=>[(5,.s s5.1),(6,.i s5.2.1),(7,.hs 1007 0),(8,.i s9.1),(9,.i s9.2)]) (fun s9=>[(1007,.row 9 false 1 (List.map cS s5.2.2))]) (.exit 2) (fun b10=>[(5,.s s5.1),(6,.i s5.2.1),(7,.hs 1007 0),(8,.i b10)]) (fun b10=>[(1007,.row 9 false 1 (List.map cS s5.2.2))]) rfl rfl (fun s9 x11 hr=>?_) (fun b10 hr=>?_)
   .unfold kGa at hr;refine rn tk 1 rfl<|jb hr (fun j12=>[(5,.s s5.1),(6,.i s5.2.1),(7,.hs 1007 0),(8,.i s9.1),(9,.i s9.2),(26,.bo j12)]) (fun j12=>[(1007,.row 9 false 1 (List.map cS s5.2.2))]) (fun j12 hr=>?_) (fun j12 hr=>?_)
    .refine rn tk 4 rfl<|bs 23 hr rfl (fun c13 hr=>?_) (fun c13 hr=>?_)
     .refine rn tk 4 rfl ?_;cases hr;exact jn _ rfl rfl rfl
     refine rn tk 4 rfl ?_;cases hr;exact jn _ rfl rfl rfl
    refine ac 26 hr rfl (fun c14 hr=>?_) (fun c14 hr=>?_)
    .refine rn tk 2 rfl<|jb hr (fun j15=>[(5,.s s5.1),(6,.i s5.2.1),(7,.hs 1007 0),(8,.i j15),(9,.i s9.2)]) (fun j15=>[(1007,.row 9 false 1 (List.map cS s5.2.2))]) (fun j15 hr=>?_) (fun j15 hr=>?_)
     .refine rn tk 1 rfl<|jb hr (fun j16=>[(5,.s s5.1),(6,.i s5.2.1),(7,.hs 1007 0),(8,.i s9.1),(9,.i s9.2),(45,.bo j16)]) (fun j16=>[(1007,.row 9 false 1 (List.map cS s5.2.2))]) (fun j16 hr=>?_) (fun j16 hr=>?_)
      .refine rn tk 5 rfl<|bs 32 hr rfl (fun c17 hr=>?_) (fun c17 hr=>?_)
       .refine rn tk 2 rfl ?_;obtain ⟨v18,h19,hr⟩:=zaa hr;refine ug rfl rfl rfl<|ws tk h19 rfl rfl rfl rfl ?_;obtain ⟨v20,h21,hr⟩:=zaa hr;refine ug rfl rfl rfl<|cl (qoa _ _ h21) rfl rfl<|rn tk 2 rfl<|bs 38 hr rfl (fun c22 hr=>?_) (fun c22 hr=>?_)
        .refine rn tk 3 rfl ?_;obtain ⟨v23,h24,hr⟩:=zaa hr;refine ug rfl rfl rfl<|ws tk h24 rfl rfl rfl rfl ?_;obtain ⟨v25,h26,hr⟩:=zaa hr;refine ug rfl rfl rfl<|cl (qoa _ _ h26) rfl rfl<|rn tk 3 rfl ?_;cases hr;exact jn _ rfl rfl rfl
        refine rn tk 8 rfl ?_;cases hr;exact jn _ rfl rfl rfl
       refine rn tk 14 rfl ?_;cases hr;exact jn _ rfl rfl rfl
      refine ac 45 hr rfl (fun c27 hr=>?_) (fun c27 hr=>?_)
      .refine rn tk 5 rfl ?_;cases hr;exact jn _ rfl rfl rfl
      refine rn tk 2 rfl ?_;cases hr;exact jn _ rfl rfl rfl
     refine rn tk 5 rfl ?_;cases hr;exact atc rfl rfl
    refine rn tk 2 rfl ?_;cases hr;exact ato rfl rfl rfl rfl
   refine rn tk 9 rfl<|al1 hr (fun s28=>[(5,.s s5.1),(6,.i s5.2.1),(7,.hs 1007 0),(8,.i s28.1),(10,.i s28.2)]) (fun s28=>[(1007,.row 9 false 1 (List.map cS s5.2.2))]) (.exit 4) (fun b29=>[(5,.s s5.1),(7,.hs 1007 0),(8,.i b29)]) (fun b29=>[(1007,.row 9 false 1 (List.map cS s5.2.2))]) rfl rfl (fun s28 x30 hr=>?_) (fun b29 hr=>?_)
   .unfold koa at hr;refine rn tk 1 rfl<|jb hr (fun j31=>[(5,.s s5.1),(6,.i s5.2.1),(7,.hs 1007 0),(8,.i s28.1),(10,.i s28.2),(54,.bo j31)]) (fun j31=>[(1007,.row 9 false 1 (List.map cS s5.2.2))]) (fun j31 hr=>?_) (fun j31 hr=>?_)
    .refine rn tk 6 rfl<|bs 51 hr rfl (fun c32 hr=>?_) (fun c32 hr=>?_)
     .refine rn tk 4 rfl ?_;cases hr;exact jn _ rfl rfl rfl
     refine rn tk 4 rfl ?_;cases hr;exact jn _ rfl rfl rfl
    refine ac 54 hr rfl (fun c33 hr=>?_) (fun c33 hr=>?_)
    .refine rn tk 2 rfl<|jb hr (fun j34=>[(5,.s s5.1),(6,.i s5.2.1),(7,.hs 1007 0),(8,.i j34),(10,.i s28.2)]) (fun j34=>[(1007,.row 9 false 1 (List.map cS s5.2.2))]) (fun j34 hr=>?_) (fun j34 hr=>?_)
     .refine rn tk 1 rfl<|jb hr (fun j35=>[(5,.s s5.1),(6,.i s5.2.1),(7,.hs 1007 0),(8,.i s28.1),(10,.i s28.2),(73,.bo j35)]) (fun j35=>[(1007,.row 9 false 1 (List.map cS s5.2.2))]) (fun j35 hr=>?_) (fun j35 hr=>?_)
      .refine rn tk 5 rfl<|bs 60 hr rfl (fun c36 hr=>?_) (fun c36 hr=>?_)
       .refine rn tk 2 rfl ?_;obtain ⟨v37,h38,hr⟩:=zaa hr;refine ug rfl rfl rfl<|ws tk h38 rfl rfl rfl rfl ?_;obtain ⟨v39,h40,hr⟩:=zaa hr;refine ug rfl rfl rfl<|cl (qoa _ _ h40) rfl rfl<|rn tk 2 rfl<|bs 66 hr rfl (fun c41 hr=>?_) (fun c41 hr=>?_)
        .refine rn tk 3 rfl ?_;obtain ⟨v42,h43,hr⟩:=zaa hr;refine ug rfl rfl rfl<|ws tk h43 rfl rfl rfl rfl ?_;obtain ⟨v44,h45,hr⟩:=zaa hr;refine ug rfl rfl rfl<|cl (qoa _ _ h45) rfl rfl<|rn tk 3 rfl ?_;cases hr;exact jn _ rfl rfl rfl
        refine rn tk 8 rfl ?_;cases hr;exact jn _ rfl rfl rfl
       refine rn tk 14 rfl ?_;cases hr;exact jn _ rfl rfl rfl
      refine ac 73 hr rfl (fun c46 hr=>?_) (fun c46 hr=>?_)
      .refine rn tk 5 rfl ?_;cases hr;exact jn _ rfl rfl rfl
      refine rn tk 2 rfl ?_;cases hr;exact jn _ rfl rfl rfl
     refine rn tk 5 rfl ?_;cases hr;exact atc rfl rfl
    refine rn tk 2 rfl ?_;cases hr;exact ato rfl rfl rfl rfl
   refine rn tk 9 rfl<|ac 76 hr rfl (fun c47 hr=>?_) (fun c47 hr=>?_)
   .refine rn tk 3 rfl ?_;cases hr;exact ato rfl rfl rfl rfl
   refine rn tk 7 rfl ?_;obtain ⟨v48,h49,hr⟩:=zaa hr;refine wscH tk h49 rfl rfl rfl rfl<|wz cS ([v48]:List Str) tk rfl rfl (fun _=>rfl) rfl rfl rfl ?_;obtain ⟨v50,h51,hr⟩:=zaa hr;refine wa tk h51 rfl rfl rfl rfl (fun _=>rfl) rfl rfl<|rn tk 7 rfl ?_;obtain ⟨v52,h53,hr⟩:=zaa hr;refine wscL tk h53 rfl rfl rfl rfl<|rn tk 7 rfl ?_;cases hr;exact atc rfl rfl
  refine rn tk 2 rfl ?_;cases hr;exact ato rfl rfl rfl rfl
 refine rn tk 6 rfl<|wz cS ([b6.1]:List Str) tk rfl rfl (fun _=>rfl) rfl rfl rfl ?_;obtain ⟨v54,h55,hr⟩:=zaa hr;refine wa tk h55 rfl rfl rfl rfl (fun _=>rfl) rfl rfl<|rn tk 3 rfl ?_;refine wda (d:=4) (F:=cS) (l:=v54) rfl rfl (hC ?_);refine rn tk 1 rfl ?_;cases hr;exact kr tk (.inr rfl) rfl rfl
theorem z8a(a0:Int)(a1:Int)(a2:Int)(r:Bool)(hr:R_In a0 a1 a2=some r):Run prog 58 [.i a0,.i a1,.i a2] (.bo r):=by
 unfold R_In at hr;refine rf (fn:=f58) ⟨func58,rfl,by kernel_rfl⟩ rfl (fun _=>rfl) fun g0 hg=>?_
 refine rn tk 5 rfl<|jb hr (fun j1=>[(6,.bo j1)]) (fun j1=>[]) (fun j1 hr=>?_) (fun j1 hr=>?_)
 .refine rn tk 5 rfl<|bs 10 hr rfl (fun c2 hr=>?_) (fun c2 hr=>?_)
  .refine rn tk 6 rfl ?_;cases hr;exact jn _ rfl rfl rfl
  refine rn tk 6 rfl ?_;cases hr;exact jn _ rfl rfl rfl
 refine rn tk 1 rfl ?_;cases hr;exact kr tk (.inr rfl) rfl rfl
theorem KMa(a0:zia)(r:Int)(hr:wXa a0=some r):Run prog 77 [.agg [.s a0.Name,.s a0.Value]] (.i r):=by
 unfold wXa at hr;refine rf (fn:=f77) ⟨func77,rfl,by kernel_rfl⟩ rfl (fun _=>rfl) fun g0 hg=>?_
 refine rn tk 13 rfl<|al2 hr (fun s1=>[(1,.ptr 1 0),(3,.i s1)]) (fun s1=>[(1,.cells [.s a0.Name,.s a0.Value])]) (.exit 0) (fun b2=>[(1,.ptr 1 0)]) (fun b2=>[(1,.cells [.s a0.Name,.s a0.Value])]) .ret (fun b3=>[(2,.i b3)]) (fun b3=>[]) rfl rfl (fun s1 x5 hr=>?_) (fun b2 hr=>?_) (fun b3 hr=>?_)
 .unfold vRa at hr;refine rn tk 10 rfl<|ac 12 hr rfl (fun c6 hr=>?_) (fun c6 hr=>?_)
  .refine rn tk 4 rfl<|jb hr (fun j7=>[(1,.ptr 1 0),(3,.i s1),(28,.bo j7)]) (fun j7=>[(1,.cells [.s a0.Name,.s a0.Value])]) (fun j7 hr=>?_) (fun j7 hr=>?_)
   .refine rn tk 4 rfl ?_;obtain ⟨v8,h9,hr⟩:=zaa hr;refine ws tk h9 rfl rfl rfl rfl<|wu tk rfl rfl rfl ?_;obtain ⟨v10,h11,hr⟩:=zaa hr;refine cl (z8a _ _ _ _ h11) rfl rfl<|rn tk 2 rfl<|bs 22 hr rfl (fun c12 hr=>?_) (fun c12 hr=>?_)
    .refine rn tk 7 rfl ?_;cases hr;exact jn _ rfl rfl rfl
    refine rn tk 3 rfl ?_;obtain ⟨v13,h14,hr⟩:=zaa hr;refine ug rfl rfl rfl<|ws tk h14 rfl rfl rfl rfl<|rn tk 3 rfl ?_;cases hr;exact jn _ rfl rfl rfl
   refine ac 28 hr rfl (fun c15 hr=>?_) (fun c15 hr=>?_)
   .refine rn tk 8 rfl ?_;cases hr;exact ato rfl rfl rfl rfl
   refine rn tk 8 rfl ?_;cases hr;exact atc rfl rfl
  refine rn tk 2 rfl ?_;cases hr;exact ato rfl rfl rfl rfl
 .refine rn tk 8 rfl ?_;obtain ⟨v16,h17,hr⟩:=zaa hr;refine cl (z8a _ _ _ _ h17) rfl rfl<|rn tk 3 rfl<|ac 33 hr rfl (fun c18 hr=>?_) (fun c18 hr=>?_)
  .refine rn tk 7 rfl ?_;cases hr;exact kr tk (.inr rfl) rfl rfl
  refine rn tk 11 rfl<|ac 37 hr rfl (fun c19 hr=>?_) (fun c19 hr=>?_)
  .refine rn tk 7 rfl ?_;cases hr;exact kr tk (.inr rfl) rfl rfl
  refine rn tk 17 rfl<|al2 hr (fun s20=>[(1,.ptr 1 0),(4,.i ((a0.Value.length:Int))),(5,.i s20)]) (fun s20=>[(1,.cells [.s a0.Name,.s a0.Value])]) (.exit 2) (fun b21=>[(1,.ptr 1 0),(4,.i ((a0.Value.length:Int)))]) (fun b21=>[(1,.cells [.s a0.Name,.s a0.Value])]) .ret (fun b22=>[(2,.i b22)]) (fun b22=>[]) rfl rfl (fun s20 x24 hr=>?_) (fun b21 hr=>?_) (fun b22 hr=>?_)
  .unfold vSa at hr;refine rn tk 8 rfl<|ac 43 hr rfl (fun c25 hr=>?_) (fun c25 hr=>?_)
   .refine rn tk 4 rfl<|jb hr (fun j26=>[(1,.ptr 1 0),(4,.i ((a0.Value.length:Int))),(5,.i s20),(64,.bo j26)]) (fun j26=>[(1,.cells [.s a0.Name,.s a0.Value])]) (fun j26 hr=>?_) (fun j26 hr=>?_)
    .refine rn tk 4 rfl ?_;obtain ⟨v27,h28,hr⟩:=zaa hr;refine ws tk h28 rfl rfl rfl rfl<|rn tk 2 rfl<|bs 51 hr rfl (fun c29 hr=>?_) (fun c29 hr=>?_)
     .refine rn tk 14 rfl ?_;cases hr;exact jn _ rfl rfl rfl
     refine rn tk 3 rfl ?_;obtain ⟨v30,h31,hr⟩:=zaa hr;refine ug rfl rfl rfl<|ws tk h31 rfl rfl rfl rfl<|rn tk 3 rfl<|bs 58 hr rfl (fun c32 hr=>?_) (fun c32 hr=>?_)
     .refine rn tk 7 rfl ?_;cases hr;exact jn _ rfl rfl rfl
     refine rn tk 3 rfl ?_;obtain ⟨v33,h34,hr⟩:=zaa hr;refine ug rfl rfl rfl<|ws tk h34 rfl rfl rfl rfl<|rn tk 3 rfl ?_;cases hr;exact jn _ rfl rfl rfl
    refine ac 64 hr rfl (fun c35 hr=>?_) (fun c35 hr=>?_)
    .refine rn tk 8 rfl ?_;cases hr;exact ato rfl rfl rfl rfl
    refine rn tk 8 rfl ?_;cases hr;exact atc rfl rfl
   refine rn tk 2 rfl ?_;cases hr;exact ato rfl rfl rfl rfl
  .refine rn tk 3 rfl<|jb hr (fun j36=>[(1,.ptr 1 0),(80,.bo j36)]) (fun j36=>[(1,.cells [.s a0.Name,.s a0.Value])]) (fun j36 hr=>?_) (fun j36 hr=>?_)
   .refine rn tk 4 rfl<|bs 67 hr rfl (fun c37 hr=>?_) (fun c37 hr=>?_)
    .refine rn tk 2 rfl ?_;obtain ⟨v38,h39,hr⟩:=zaa hr;refine ug rfl rfl rfl<|ws tk h39 rfl rfl rfl rfl ?_;obtain ⟨v40,h41,hr⟩:=zaa hr;refine ug rfl rfl rfl<|cl (qoa _ _ h41) rfl rfl<|rn tk 1 rfl<|bs 72 hr rfl (fun c42 hr=>?_) (fun c42 hr=>?_)
     .refine rn tk 9 rfl ?_;cases hr;exact jn _ rfl rfl rfl
     refine rn tk 4 rfl ?_;obtain ⟨v43,h44,hr⟩:=zaa hr;refine ug rfl rfl rfl<|ws tk h44 rfl rfl rfl rfl ?_;obtain ⟨v45,h46,hr⟩:=zaa hr;refine ug rfl rfl rfl<|cl (qoa _ _ h46) rfl rfl<|rn tk 3 rfl ?_;cases hr;exact jn _ rfl rfl rfl
    refine rn tk 14 rfl ?_;cases hr;exact jn _ rfl rfl rfl
   refine ac 80 hr rfl (fun c47 hr=>?_) (fun c47 hr=>?_)
   .refine rn tk 7 rfl ?_;cases hr;exact kr tk (.inr rfl) rfl rfl
   refine rn tk 8 rfl ?_;obtain ⟨v48,h49,hr⟩:=zaa hr;refine cl (ZVa _ _ _ h49) rfl rfl<|rn tk 10 rfl<|al2 hr (fun s50=>[(6,.l cS v48),(7,.i s50)]) (fun s50=>[]) (.exit 4) (fun b51=>[]) (fun b51=>[]) .ret (fun b52=>[(2,.i b52)]) (fun b52=>[]) rfl rfl (fun s50 x54 hr=>?_) (fun b51 hr=>?_) (fun b52 hr=>?_)
   .unfold vTa at hr;refine rn tk 5 rfl<|wn tk rfl rfl rfl<|rn tk 3 rfl<|ac 89 hr rfl (fun c55 hr=>?_) (fun c55 hr=>?_)
    .refine rn tk 8 rfl ?_;obtain ⟨v56,h57,hr⟩:=zaa hr;refine wi tk h57 rfl rfl rfl rfl rfl<|rn tk 5 rfl<|ac 97 hr rfl (fun c58 hr=>?_) (fun c58 hr=>?_)
     .refine rn tk 8 rfl ?_;cases hr;exact ato rfl rfl rfl rfl
     refine rn tk 8 rfl ?_;cases hr;exact atc rfl rfl
    refine rn tk 2 rfl ?_;cases hr;exact ato rfl rfl rfl rfl
   .refine rn tk 8 rfl ?_;cases hr;exact kr tk (.inr rfl) rfl rfl
   refine rn tk 2 rfl ?_;cases hr;exact kr tk (.inr rfl) rfl rfl
  refine rn tk 2 rfl ?_;cases hr;exact kr tk (.inr rfl) rfl rfl
 refine rn tk 2 rfl ?_;cases hr;exact kr tk (.inr rfl) rfl rfl
theorem VBa(a0:zBa)(r:List UInt8)(hr:vUa a0=some r):Run prog 23 [.agg [.l zia.pc a0.Fields,.l cU a0.Body]] (.l cU r):=by
 unfold vUa at hr;refine rf (fn:=f23) ⟨func23,rfl,by kernel_rfl⟩ rfl (fun _=>rfl) fun g0 hg=>?_
 refine rn tk 9 rfl ?_;refine kXa 1003 (d:=3) 5 1 rfl rfl rfl (hO ?_);refine rn tk 9 rfl<|al1 hr (fun s1=>[(1,.ptr 1 0),(3,.hs 1003 0),(4,.i s1.1)]) (fun s1=>[(1003,.row 5 false 1 (List.map cU s1.2)),(1,.cells [.l zia.pc a0.Fields,.l cU a0.Body])]) (.exit 0) (fun b2=>[(1,.ptr 1 0),(3,.hs 1003 0)]) (fun b2=>[(1003,.row 5 false 1 (List.map cU b2)),(1,.cells [.l zia.pc a0.Fields,.l cU a0.Body])]) rfl rfl (fun s1 x3 hr=>?_) (fun b2 hr=>?_)
 .unfold qBa at hr;refine rn tk 6 rfl<|wn tk rfl rfl rfl<|rn tk 3 rfl<|ac 11 hr rfl (fun c4 hr=>?_) (fun c4 hr=>?_)
  .refine rn tk 5 rfl ?_;obtain ⟨v5,h6,hr⟩:=zaa hr;obtain ⟨v7,h8,hr⟩:=zaa hr;refine dr 12 [(25,.s v7.Value),(24,.ep [pS v7.Value]),(23,.ep [pS v7.Name,pS v7.Value]),(22,.i s1.1),(21,.l zia.pc a0.Fields),(20,.ptr 1 0),(19,.s v5.Name),(18,.ep [pS v5.Name,pS v5.Value]),(17,.ep [pS v5.Name,pS v5.Value]),(16,.i s1.1),(15,.l zia.pc a0.Fields),(14,.ptr 1 0)] mixed (by kernel_rfl) rfl rfl (pq tk rfl (.plain rfl) (pq tk rfl (.plain rfl) (pq tk rfl (.plain rfl) (.run (.plain rfl) (kfa (qLa (f:=zia.pc) rfl rfl qha qMa rfl h6)) (pq tk rfl (.plain rfl) (pq tk rfl (.plain rfl) (pq tk rfl (.plain rfl) (pq tk rfl (.plain rfl) (pq tk rfl (.plain rfl) (.run (.plain rfl) (kfa (qLa (f:=zia.pc) rfl rfl qha qMa rfl h8)) (pq tk rfl (.plain rfl) (pq tk rfl (.plain rfl) .nil)))))))))))) rfl ?_;obtain ⟨v9,h10,hr⟩:=zaa hr;refine cl (ZVa _ _ _ h10) rfl rfl<|rn tk 9 rfl<|al1 hr (fun s11=>[(1,.ptr 1 0),(3,.hs 1003 0),(4,.i s1.1),(5,.l cS v9),(6,.i s11.1)]) (fun s11=>[(1003,.row 5 false 1 (List.map cU s11.2)),(1,.cells [.l zia.pc a0.Fields,.l cU a0.Body])]) (.exit 2) (fun b12=>[(1,.ptr 1 0),(3,.hs 1003 0),(4,.i s1.1)]) (fun b12=>[(1003,.row 5 false 1 (List.map cU b12)),(1,.cells [.l zia.pc a0.Fields,.l cU a0.Body])]) rfl rfl (fun s11 x13 hr=>?_) (fun b12 hr=>?_)
   .unfold qAa at hr;refine rn tk 5 rfl<|wn tk rfl rfl rfl<|rn tk 3 rfl<|ac 30 hr rfl (fun c14 hr=>?_) (fun c14 hr=>?_)
    .refine rn tk 9 rfl ?_;obtain ⟨v15,h16,hr⟩:=zaa hr;refine wi tk h16 rfl rfl rfl rfl rfl<|rn tk 1 rfl ?_;obtain ⟨v17,h18,hr⟩:=zaa hr;refine wo (Wma (k:=38) (l:=s11.2) (s:=v15) (lim:=140737488355328) rfl rfl rfl rfl zla zCa.u zDa rfl h18) rfl<|rn tk 5 rfl<|wz cU ([(13:UInt8),(10:UInt8)]:List UInt8) tk rfl rfl (fun _=>rfl) rfl rfl rfl ?_;obtain ⟨v19,h20,hr⟩:=zaa hr;refine wa tk h20 rfl rfl rfl rfl (fun _=>rfl) rfl rfl<|rn tk 9 rfl ?_;cases hr;exact atc rfl rfl
    refine rn tk 2 rfl ?_;cases hr;exact ato rfl rfl rfl rfl
   refine rn tk 8 rfl ?_;cases hr;exact atc rfl rfl
  refine rn tk 2 rfl ?_;cases hr;exact ato rfl rfl rfl rfl
 refine rn tk 5 rfl<|wz cU ([(13:UInt8),(10:UInt8)]:List UInt8) tk rfl rfl (fun _=>rfl) rfl rfl rfl ?_;obtain ⟨v21,h22,hr⟩:=zaa hr;refine wa tk h22 rfl rfl rfl rfl (fun _=>rfl) rfl rfl<|rn tk 8 rfl ?_;obtain ⟨v23,h24,hr⟩:=zaa hr;refine wa tk h24 rfl rfl rfl rfl (fun _=>rfl) rfl rfl<|rn tk 3 rfl ?_;refine wda (d:=2) (F:=cU) (l:=v23) rfl rfl (hC ?_);refine rn tk 1 rfl ?_;cases hr;exact kr tk (.inr rfl) rfl rfl
theorem VCa(a0:zBa)(r:zta)(hr:vVa a0=some r):Run prog 49 [.agg [.l zia.pc a0.Fields,.l cU a0.Body]] (.agg [.i r.Code,.i r.Index]):=by
 unfold vVa at hr;refine rf (fn:=f49) ⟨func49,rfl,by kernel_rfl⟩ rfl (fun _=>rfl) fun g0 hg=>?_
 refine rn tk 11 rfl<|wn tk rfl rfl rfl<|rn tk 3 rfl<|ac 11 hr rfl (fun c1 hr=>?_) (fun c1 hr=>?_)
 .refine rn tk 2 rfl ?_;obtain ⟨v2,h3,hr⟩:=zaa hr;refine cl (z7a _ _ _ h3) rfl rfl<|rn tk 5 rfl ?_;cases hr;exact kr tk (.inr rfl) rfl rfl
 refine rn tk 9 rfl<|al2 hr (fun s4=>[(1,.ptr 1 0),(2,.ptr 2 0),(3,.i s4)]) (fun s4=>[(2,.cells [.i 0,.i 0]),(1,.cells [.l zia.pc a0.Fields,.l cU a0.Body])]) (.exit 0) (fun b5=>[(1,.ptr 1 0),(2,.ptr 2 0)]) (fun b5=>[(2,.cells [.i 0,.i 0]),(1,.cells [.l zia.pc a0.Fields,.l cU a0.Body])]) .ret (fun b6=>[(2,.ptr 2 0)]) (fun b6=>[(2,.cells [.i b6.Code,.i b6.Index])]) rfl rfl (fun s4 x8 hr=>?_) (fun b5 hr=>?_) (fun b6 hr=>?_)
 .unfold vJa at hr;refine rn tk 6 rfl<|wn tk rfl rfl rfl<|rn tk 3 rfl<|ac 17 hr rfl (fun c9 hr=>?_) (fun c9 hr=>?_)
  .refine rn tk 9 rfl ?_;obtain ⟨v10,h11,hr⟩:=zaa hr;refine wi tk h11 rfl rfl rfl rfl rfl<|rn tk 1 rfl ?_;obtain ⟨v12,h13,hr⟩:=zaa hr;refine cl (KMa _ _ h13) rfl rfl<|rn tk 9 rfl<|ac 27 hr rfl (fun c14 hr=>?_) (fun c14 hr=>?_)
   .refine rn tk 4 rfl ?_;obtain ⟨v15,h16,hr⟩:=zaa hr;refine cl (z7a _ _ _ h16) rfl rfl<|rn tk 6 rfl ?_;cases hr;exact ato rfl rfl rfl rfl
   refine rn tk 8 rfl ?_;cases hr;exact atc rfl rfl
  refine rn tk 2 rfl ?_;cases hr;exact ato rfl rfl rfl rfl
 .refine rn tk 3 rfl<|jb hr (fun j17=>[(1,.ptr 1 0),(2,.ptr 2 0),(40,.bo j17)]) (fun j17=>[(2,.cells [.i 0,.i 0]),(1,.cells [.l zia.pc a0.Fields,.l cU a0.Body])]) (fun j17 hr=>?_) (fun j17 hr=>?_)
  .refine rn tk 3 rfl<|wn tk rfl rfl rfl<|rn tk 2 rfl<|bs 35 hr rfl (fun c18 hr=>?_) (fun c18 hr=>?_)
   .refine rn tk 6 rfl ?_;cases hr;exact jn _ rfl rfl rfl
   refine rn tk 1 rfl ?_;obtain ⟨v19,h20,hr⟩:=zaa hr;refine ug rfl rfl rfl<|cl (VBa _ _ h20) rfl rfl<|ug rfl rfl rfl<|wn tk rfl rfl rfl<|rn tk 3 rfl ?_;cases hr;exact jn _ rfl rfl rfl
  refine ac 40 hr rfl (fun c21 hr=>?_) (fun c21 hr=>?_)
  .refine rn tk 2 rfl ?_;obtain ⟨v22,h23,hr⟩:=zaa hr;refine cl (z7a _ _ _ h23) rfl rfl<|rn tk 5 rfl ?_;cases hr;exact kr tk (.inr rfl) rfl rfl
  refine rn tk 14 rfl<|al2 hr (fun s24=>[(1,.ptr 1 0),(2,.ptr 2 0),(5,.i s24.1),(6,.i s24.2)]) (fun s24=>[(2,.cells [.i 0,.i 0]),(1,.cells [.l zia.pc a0.Fields,.l cU a0.Body])]) (.exit 2) (fun b25=>[(2,.ptr 2 0)]) (fun b25=>[(2,.cells [.i 0,.i 0])]) .ret (fun b26=>[(2,.ptr 2 0)]) (fun b26=>[(2,.cells [.i b26.Code,.i b26.Index])]) rfl rfl (fun s24 x28 hr=>?_) (fun b25 hr=>?_) (fun b26 hr=>?_)
  .unfold kZa at hr;refine rn tk 6 rfl<|wn tk rfl rfl rfl<|rn tk 3 rfl<|ac 46 hr rfl (fun c29 hr=>?_) (fun c29 hr=>?_)
   .refine rn tk 2 rfl<|jk (fun j30=>[(1,.ptr 1 0),(2,.ptr 2 0),(5,.i j30.1),(6,.i j30.2)]) (fun j30=>[(2,.cells [.i 0,.i 0]),(1,.cells [.l zia.pc a0.Fields,.l cU a0.Body])]) (fun j30=>qCa j30=some x28) ?_ ?_
    .refine rn tk 6 rfl ?_;obtain ⟨v31,h32,hr⟩:=zaa hr;refine wi tk h32 rfl rfl rfl rfl rfl<|rn tk 5 rfl<|jb hr (fun j33=>[(1,.ptr 1 0),(2,.ptr 2 0),(5,.i s24.1),(6,.i s24.2),(7,.u8 v31),(72,.bo j33)]) (fun j33=>[(2,.cells [.i 0,.i 0]),(1,.cells [.l zia.pc a0.Fields,.l cU a0.Body])]) (fun j33 hr=>?_) (fun j33 hr=>?_)
     .refine rn tk 4 rfl<|bs 56 hr rfl (fun c34 hr=>?_) (fun c34 hr=>?_)
      .refine rn tk 4 rfl<|ug rfl rfl rfl<|wn tk rfl rfl rfl<|rn tk 3 rfl<|bs 64 hr rfl (fun c35 hr=>?_) (fun c35 hr=>?_)
       .refine rn tk 4 rfl ?_;obtain ⟨v36,h37,hr⟩:=zaa hr;refine ug rfl rfl rfl<|wi tk h37 rfl rfl rfl rfl rfl<|rn tk 4 rfl ?_;cases hr;exact jn _ rfl rfl rfl
       refine rn tk 9 rfl ?_;cases hr;exact jn _ rfl rfl rfl
      refine rn tk 17 rfl ?_;cases hr;exact jn _ rfl rfl rfl
     refine ac 72 hr rfl (fun c38 hr=>?_) (fun c38 hr=>?_)
     .refine rn tk 15 rfl<|jn ((0,(w64 (s24.2+1)))) hr rfl rfl
     refine rn tk 3 rfl<|jb hr (fun j39=>[(1,.ptr 1 0),(2,.ptr 2 0),(5,.i s24.1),(6,.i s24.2),(80,.bo j39)]) (fun j39=>[(2,.cells [.i 0,.i 0]),(1,.cells [.l zia.pc a0.Fields,.l cU a0.Body])]) (fun j39 hr=>?_) (fun j39 hr=>?_)
     .refine rn tk 4 rfl<|bs 77 hr rfl (fun c40 hr=>?_) (fun c40 hr=>?_)
      .refine rn tk 4 rfl ?_;cases hr;exact jn _ rfl rfl rfl
      refine rn tk 4 rfl ?_;cases hr;exact jn _ rfl rfl rfl
     refine ac 80 hr rfl (fun c41 hr=>?_) (fun c41 hr=>?_)
     .refine rn tk 2 rfl ?_;obtain ⟨v42,h43,hr⟩:=zaa hr;refine cl (z7a _ _ _ h43) rfl rfl<|rn tk 7 rfl ?_;cases hr;exact ato rfl rfl rfl rfl
     refine rn tk 15 rfl<|ac 85 hr rfl (fun c44 hr=>?_) (fun c44 hr=>?_)
     .refine rn tk 2 rfl ?_;obtain ⟨v45,h46,hr⟩:=zaa hr;refine cl (z7a _ _ _ h46) rfl rfl<|rn tk 6 rfl ?_;cases hr;exact ato rfl rfl rfl rfl
     refine rn tk 2 rfl<|jn (((w64 (s24.1+1)),s24.2)) hr rfl rfl
    intro j30 hr;unfold qCa at hr;refine rn tk 5 rfl ?_;cases hr;exact atc rfl rfl
   refine rn tk 2 rfl ?_;cases hr;exact ato rfl rfl rfl rfl
  .refine rn tk 9 rfl ?_;cases hr;exact kr tk (.inr rfl) rfl rfl
  refine rn tk 2 rfl ?_;cases hr;exact kr tk (.inr rfl) rfl rfl
 refine rn tk 2 rfl ?_;cases hr;exact kr tk (.inr rfl) rfl rfl
theorem kub(a0:Str)(r:Str)(hr:Kga a0=some r):Run prog 136 [.s a0] (.s r):=by
 unfold Kga at hr;refine rf (fn:=f136) ⟨func136,rfl,by kernel_rfl⟩ rfl (fun _=>rfl) fun g0 hg=>?_
 refine rn tk 8 rfl ?_;refine kXa 1003 (d:=3) 5 1 rfl rfl rfl (hO ?_);refine rn tk 9 rfl<|al1 hr (fun s1=>[(0,.s a0),(3,.hs 1003 0),(4,.i s1.1)]) (fun s1=>[(1003,.row 5 false 1 (List.map cU s1.2))]) (.exit 0) (fun b2=>[(3,.hs 1003 0)]) (fun b2=>[(1003,.row 5 false 1 (List.map cU b2))]) rfl rfl (fun s1 x3 hr=>?_) (fun b2 hr=>?_)
 .unfold wna at hr;refine rn tk 9 rfl<|ac 9 hr rfl (fun c4 hr=>?_) (fun c4 hr=>?_)
  .refine rn tk 8 rfl ?_;obtain ⟨v5,h6,hr⟩:=zaa hr;refine ws tk h6 rfl rfl rfl rfl<|rn tk 3 rfl<|jb hr (fun j7=>[(0,.s a0),(3,.hs 1003 0),(4,.i s1.1),(5,.u8 j7)]) (fun j7=>[(1003,.row 5 false 1 (List.map cU s1.2))]) (fun j7 hr=>?_) (fun j7 hr=>?_)
   .refine jb hr (fun j8=>[(0,.s a0),(3,.hs 1003 0),(4,.i s1.1),(5,.u8 v5),(20,.bo j8)]) (fun j8=>[(1003,.row 5 false 1 (List.map cU s1.2))]) (fun j8 hr=>?_) (fun j8 hr=>?_)
    .refine rn tk 4 rfl<|bs 17 hr rfl (fun c9 hr=>?_) (fun c9 hr=>?_)
     .refine rn tk 4 rfl ?_;cases hr;exact jn _ rfl rfl rfl
     refine rn tk 4 rfl ?_;cases hr;exact jn _ rfl rfl rfl
    refine ac 20 hr rfl (fun c10 hr=>?_) (fun c10 hr=>?_)
    .refine rn tk 3 rfl ?_;cases hr;exact jn _ rfl rfl rfl
    refine rn tk 1 rfl ?_;cases hr;exact jn _ rfl rfl rfl
   refine rn tk 3 rfl<|wz cU ([j7]:List UInt8) tk rfl rfl (fun _=>rfl) rfl rfl rfl ?_;obtain ⟨v11,h12,hr⟩:=zaa hr;refine wa tk h12 rfl rfl rfl rfl (fun _=>rfl) rfl rfl<|rn tk 9 rfl ?_;cases hr;exact atc rfl rfl
  refine rn tk 2 rfl ?_;cases hr;exact ato rfl rfl rfl rfl
 refine rn tk 4 rfl<|al1 hr (fun s13=>[(3,.hs 1003 0)]) (fun s13=>[(1003,.row 5 false 1 (List.map cU s13))]) (.exit 2) (fun b14=>[(3,.hs 1003 0)]) (fun b14=>[(1003,.row 5 false 1 (List.map cU b14))]) rfl rfl (fun s13 x15 hr=>?_) (fun b14 hr=>?_)
 .unfold yra at hr;refine rn tk 1 rfl<|jb hr (fun j16=>[(3,.hs 1003 0),(33,.bo j16)]) (fun j16=>[(1003,.row 5 false 1 (List.map cU s13))]) (fun j16 hr=>?_) (fun j16 hr=>?_)
  .refine rn tk 2 rfl<|wnh tk rfl rfl rfl rfl<|rn tk 2 rfl<|bs 28 hr rfl (fun c17 hr=>?_) (fun c17 hr=>?_)
   .refine rn tk 1 rfl ?_;refine vFa (d:=29) (F:=cU) (l:=s13) rfl rfl (hO ?_);obtain ⟨v18,h19,hr⟩:=zaa hr;refine ug rfl rfl rfl<|wi tk h19 rfl rfl rfl rfl rfl<|rn tk 1 rfl ?_;obtain ⟨v20,h21,hr⟩:=zaa hr;refine ug rfl rfl rfl<|cl (qoa _ _ h21) rfl rfl<|rn tk 2 rfl ?_;cases hr;exact jn _ rfl rfl rfl
   refine rn tk 6 rfl ?_;cases hr;exact jn _ rfl rfl rfl
  refine ac 33 hr rfl (fun c22 hr=>?_) (fun c22 hr=>?_)
  .refine rn tk 5 rfl ?_;obtain ⟨v23,h24,hr⟩:=zaa hr;refine wo (wTb (k:=35) (F:=cU) (l:=s13) rfl rfl rfl rfl zla zDa h24) rfl<|rn tk 3 rfl ?_;cases hr;exact atc rfl rfl
  refine rn tk 2 rfl ?_;cases hr;exact ato rfl rfl rfl rfl
 refine rn tk 4 rfl ?_;refine wda (d:=3) (F:=cU) (l:=b14) rfl rfl (hC ?_);refine al1 hr (fun s26=>[(3,.l cU s26)]) (fun s26=>[]) (.exit 4) (fun b27=>[(3,.l cU b27)]) (fun b27=>[]) rfl rfl (fun s26 x28 hr=>?_) (fun b27 hr=>?_)
 .unfold ysa at hr;refine rn tk 1 rfl<|jb hr (fun j29=>[(3,.l cU s26),(47,.bo j29)]) (fun j29=>[]) (fun j29 hr=>?_) (fun j29 hr=>?_)
  .refine rn tk 2 rfl<|wn tk rfl rfl rfl<|rn tk 2 rfl<|bs 39 hr rfl (fun c30 hr=>?_) (fun c30 hr=>?_)
   .refine rn tk 2 rfl<|ug rfl rfl rfl<|wn tk rfl rfl rfl<|rn tk 1 rfl ?_;obtain ⟨v31,h32,hr⟩:=zaa hr;refine ug rfl rfl rfl<|wi tk h32 rfl rfl rfl rfl rfl<|rn tk 1 rfl ?_;obtain ⟨v33,h34,hr⟩:=zaa hr;refine ug rfl rfl rfl<|cl (qoa _ _ h34) rfl rfl<|rn tk 2 rfl ?_;cases hr;exact jn _ rfl rfl rfl
   refine rn tk 9 rfl ?_;cases hr;exact jn _ rfl rfl rfl
  refine ac 47 hr rfl (fun c35 hr=>?_) (fun c35 hr=>?_)
  .refine rn tk 6 rfl<|wn tk rfl rfl rfl<|rn tk 1 rfl ?_;obtain ⟨v36,h37,hr⟩:=zaa hr;refine wlH tk h37 rfl rfl rfl (fun _=>rfl) rfl<|rn tk 3 rfl ?_;cases hr;exact atc rfl rfl
  refine rn tk 2 rfl ?_;cases hr;exact ato rfl rfl rfl rfl
 refine rn tk 5 rfl<|wb tk rfl rfl rfl<|rn tk 4 rfl ?_;cases hr;exact kr tk (.inr rfl) rfl rfl
theorem vNb(a0:Str)(r:Str × Str)(hr:YAa a0=some r):Run prog 135 [.s a0] (.tup [.s r.1,.s r.2]):=by
 unfold YAa at hr;refine rf (fn:=f135) ⟨func135,rfl,by kernel_rfl⟩ rfl (fun _=>rfl) fun g0 hg=>?_
 refine rn tk 13 rfl<|al2 hr (fun s1=>[(0,.s a0),(4,.i s1)]) (fun s1=>[]) (.exit 0) (fun b2=>[]) (fun b2=>[]) .ret (fun b3=>[(2,.s b3.1),(3,.s b3.2)]) (fun b3=>[]) rfl rfl (fun s1 x5 hr=>?_) (fun b2 hr=>?_) (fun b3 hr=>?_)
 .unfold KVa at hr;refine rn tk 9 rfl<|ac 9 hr rfl (fun c6 hr=>?_) (fun c6 hr=>?_)
  .refine rn tk 9 rfl ?_;obtain ⟨v7,h8,hr⟩:=zaa hr;refine ws tk h8 rfl rfl rfl rfl<|rn tk 3 rfl<|ac 15 hr rfl (fun c9 hr=>?_) (fun c9 hr=>?_)
   .refine rn tk 9 rfl ?_;cases hr;exact atc rfl rfl
   refine rn tk 10 rfl<|al1 hr (fun s10=>[(0,.s a0),(4,.i s1),(5,.i s10)]) (fun s10=>[]) (.exit 2) (fun b11=>[(0,.s a0),(4,.i s1),(5,.i b11)]) (fun b11=>[]) rfl rfl (fun s10 x12 hr=>?_) (fun b11 hr=>?_)
   .unfold yRa at hr;refine rn tk 1 rfl<|jb hr (fun j13=>[(0,.s a0),(4,.i s1),(5,.i s10),(25,.bo j13)]) (fun j13=>[]) (fun j13 hr=>?_) (fun j13 hr=>?_)
    .refine rn tk 4 rfl<|bs 19 hr rfl (fun c14 hr=>?_) (fun c14 hr=>?_)
     .refine rn tk 3 rfl ?_;obtain ⟨v15,h16,hr⟩:=zaa hr;refine ug rfl rfl rfl<|ws tk h16 rfl rfl rfl rfl ?_;obtain ⟨v17,h18,hr⟩:=zaa hr;refine ug rfl rfl rfl<|cl (qoa _ _ h18) rfl rfl<|rn tk 2 rfl ?_;cases hr;exact jn _ rfl rfl rfl
     refine rn tk 7 rfl ?_;cases hr;exact jn _ rfl rfl rfl
    refine ac 25 hr rfl (fun c19 hr=>?_) (fun c19 hr=>?_)
    .refine rn tk 9 rfl ?_;cases hr;exact atc rfl rfl
    refine rn tk 2 rfl ?_;cases hr;exact ato rfl rfl rfl rfl
   refine rn tk 7 rfl ?_;obtain ⟨v20,h21,hr⟩:=zaa hr;refine wscH tk h21 rfl rfl rfl rfl<|rn tk 1 rfl ?_;obtain ⟨v22,h23,hr⟩:=zaa hr;refine cl (KMa _ _ h23) rfl rfl<|rn tk 3 rfl<|ac 33 hr rfl (fun c24 hr=>?_) (fun c24 hr=>?_)
   .refine rn tk 1 rfl ?_;obtain ⟨v25,h26,hr⟩:=zaa hr;obtain ⟨v27,h28,hr⟩:=zaa hr;refine dr 8 [(2,.s v25),(40,.s v27),(39,.i ((w64 (s1+1)))),(38,.i s1),(37,.s a0),(36,.s v25),(35,.i b11),(34,.s a0)] mixed (by kernel_rfl) rfl rfl (pq tk rfl (.plain rfl) (pq tk rfl (.plain rfl) (.run (.plain rfl) (kfa (vWb rfl rfl zCa h26)) (pq tk rfl (.plain rfl) (pq tk rfl (.plain rfl) (pq tk rfl (.plain rfl) (.run (.plain rfl) (kfa (zEb rfl rfl zCa h28)) (pq tk rfl (.plain rfl) .nil)))))))) rfl<|rn tk 7 rfl ?_;cases hr;exact ato rfl rfl rfl rfl
   refine rn tk 11 rfl ?_;cases hr;exact ato rfl rfl rfl rfl
  refine rn tk 2 rfl ?_;cases hr;exact ato rfl rfl rfl rfl
 .refine rn tk 9 rfl ?_;cases hr;exact kr tk (.inr rfl) rfl rfl
 refine rn tk 2 rfl ?_;cases hr;exact kr tk (.inr rfl) rfl rfl
theorem JKa(a0:List UInt8)(r:Str × Int)(hr:Zca a0=some r):Run prog 134 [.l cU a0] (.tup [.s r.1,.i r.2]):=by
 unfold Zca at hr;refine rf (fn:=f134) ⟨func134,rfl,by kernel_rfl⟩ rfl (fun _=>rfl) fun g0 hg=>?_
 refine rn tk 13 rfl<|al2 hr (fun s1=>[(0,.l cU a0),(4,.i s1)]) (fun s1=>[]) (.exit 0) (fun b2=>[(0,.l cU a0)]) (fun b2=>[]) .ret (fun b3=>[(2,.s b3.1),(3,.i b3.2)]) (fun b3=>[]) rfl rfl (fun s1 x5 hr=>?_) (fun b2 hr=>?_) (fun b3 hr=>?_)
 .unfold yLa at hr;refine rn tk 5 rfl<|wn tk rfl rfl rfl<|rn tk 3 rfl<|ac 8 hr rfl (fun c6 hr=>?_) (fun c6 hr=>?_)
  .refine rn tk 9 rfl ?_;obtain ⟨v7,h8,hr⟩:=zaa hr;refine wi tk h8 rfl rfl rfl rfl rfl<|rn tk 4 rfl<|ac 15 hr rfl (fun c9 hr=>?_) (fun c9 hr=>?_)
   .refine rn tk 9 rfl ?_;cases hr;exact atc rfl rfl
   refine rn tk 3 rfl<|jb hr (fun j10=>[(0,.l cU a0),(4,.i s1),(25,.bo j10)]) (fun j10=>[]) (fun j10 hr=>?_) (fun j10 hr=>?_)
   .refine rn tk 4 rfl<|bs 18 hr rfl (fun c11 hr=>?_) (fun c11 hr=>?_)
    .refine rn tk 3 rfl ?_;obtain ⟨v12,h13,hr⟩:=zaa hr;refine ug rfl rfl rfl<|wi tk h13 rfl rfl rfl rfl rfl<|rn tk 4 rfl ?_;cases hr;exact jn _ rfl rfl rfl
    refine rn tk 8 rfl ?_;cases hr;exact jn _ rfl rfl rfl
   refine ac 25 hr rfl (fun c14 hr=>?_) (fun c14 hr=>?_)
   .refine rn tk 5 rfl ?_;obtain ⟨v15,h16,hr⟩:=zaa hr;refine wlH tk h16 rfl rfl rfl (fun _=>rfl) rfl<|wb tk rfl rfl rfl<|rn tk 10 rfl ?_;cases hr;exact ato rfl rfl rfl rfl
   refine rn tk 6 rfl ?_;obtain ⟨v17,h18,hr⟩:=zaa hr;refine wlH tk h18 rfl rfl rfl (fun _=>rfl) rfl<|wb tk rfl rfl rfl<|rn tk 9 rfl ?_;cases hr;exact ato rfl rfl rfl rfl
  refine rn tk 2 rfl ?_;cases hr;exact ato rfl rfl rfl rfl
 .refine rn tk 5 rfl<|wb tk rfl rfl rfl<|rn tk 1 rfl<|wn tk rfl rfl rfl<|rn tk 5 rfl ?_;cases hr;exact kr tk (.inr rfl) rfl rfl
 refine rn tk 2 rfl ?_;cases hr;exact kr tk (.inr rfl) rfl rfl
theorem Jma(a0:List UInt8)(r:zBa × Bool)(hr:jka a0=some r):Run prog 111 [.l cU a0] (.tup [.agg [.l zia.pc r.1.Fields,.l cU r.1.Body],.bo r.2]):=by
 unfold jka at hr;refine rf (fn:=f111) ⟨func111,rfl,by kernel_rfl⟩ rfl (fun _=>rfl) fun g0 hg=>?_
 refine rn tk 9 rfl ?_;refine kEb 1004 (o:=4) (j:=0) 87 2 rfl rfl rfl rfl (hO ?_);refine zua 2004 (o:=4) (j:=1) 5 1 rfl rfl rfl rfl (hO ?_);refine rn tk 9 rfl<|al1 hr (fun s1=>[(0,.l cU a0),(2,.ptr 2 0),(4,.ptr 4 0),(5,.i s1.1)]) (fun s1=>[(2004,.row 5 false 1 (List.map cU (([]:List UInt8)))),(1004,.row 87 true 2 (List.map zia.pc s1.2)),(4,.cells [.hs 1004 0,.hs 2004 0]),(2,.cells [.l zia.pc ([]),.l cU ([])])]) (.exit 0) (fun b2=>[(0,.l cU a0),(2,.ptr 2 0),(4,.ptr 4 0),(5,.i b2.1)]) (fun b2=>[(2004,.row 5 false 1 (List.map cU (([]:List UInt8)))),(1004,.row 87 true 2 (List.map zia.pc b2.2)),(4,.cells [.hs 1004 0,.hs 2004 0]),(2,.cells [.l zia.pc ([]),.l cU ([])])]) rfl rfl (fun s1 x3 hr=>?_) (fun b2 hr=>?_)
 .unfold v1a at hr;refine rn tk 5 rfl<|wn tk rfl rfl rfl<|rn tk 3 rfl<|ac 16 hr rfl (fun c4 hr=>?_) (fun c4 hr=>?_)
  .refine rn tk 7 rfl ?_;obtain ⟨v5,h6,hr⟩:=zaa hr;refine wlL tk h6 rfl rfl rfl (fun _=>rfl) rfl ?_;obtain ⟨v7,h8,hr⟩:=zaa hr;refine cl (JKa _ _ h8) rfl rfl<|rn tk 14 rfl<|ac 25 hr rfl (fun c9 hr=>?_) (fun c9 hr=>?_)
   .refine rn tk 11 rfl ?_;cases hr;exact ato rfl rfl rfl rfl
   refine rn tk 6 rfl<|wnh tk rfl rfl rfl rfl<|rn tk 5 rfl<|jb hr (fun j10=>[(0,.l cU a0),(2,.ptr 2 0),(4,.ptr 4 0),(5,.i s1.1),(6,.s v7.1),(7,.i v7.2),(8,.i j10.1),(39,.bo j10.2)]) (fun j10=>[(2004,.row 5 false 1 (List.map cU (([]:List UInt8)))),(1004,.row 87 true 2 (List.map zia.pc s1.2)),(4,.cells [.hs 1004 0,.hs 2004 0]),(2,.cells [.l zia.pc ([]),.l cU ([])])]) (fun j10 hr=>?_) (fun j10 hr=>?_)
   .refine rn tk 2 rfl ?_;obtain ⟨v11,h12,hr⟩:=zaa hr;refine ws tk h12 rfl rfl rfl rfl ?_;obtain ⟨v13,h14,hr⟩:=zaa hr;refine cl (qoa _ _ h14) rfl rfl<|rn tk 1 rfl<|bs 36 hr rfl (fun c15 hr=>?_) (fun c15 hr=>?_)
    .refine rn tk 4 rfl ?_;cases hr;exact jn _ rfl rfl rfl
    refine rn tk 4 rfl ?_;cases hr;exact jn _ rfl rfl rfl
   refine ac 39 hr rfl (fun c16 hr=>?_) (fun c16 hr=>?_)
   .refine rn tk 1 rfl ?_;obtain ⟨v17,h18,hr⟩:=zaa hr;obtain ⟨v19,h20,hr⟩:=zaa hr;obtain ⟨v21,h22,hr⟩:=zaa hr;refine dr 11 [(50,.s v21),(49,.s v7.1),(48,.s v19.Value),(47,.hp 1004 (Int.toNat j10.1) 1),(46,.hp 1004 (Int.toNat j10.1) 0),(45,.i j10.1),(44,.hs 1004 0),(43,.ptr 4 0),(42,.i j10.1),(41,.hs 1004 0),(40,.ptr 4 0)] mixed (by kernel_rfl) rfl rfl (pq tk rfl (.plain rfl) (pq tk rfl (.plain rfl) (pq tk rfl (.plain rfl) (pq tk rfl (.plain rfl) (pq tk rfl (.plain rfl) (pq tk rfl (.plain rfl) (.run (.plain rfl) (kfa (zKb (F:=zia.pc) (l:=s1.2) (n:=j10.1) rfl rfl rfl qha qMa h18)) (pq tk rfl (.plain rfl) (.run (.plain rfl) (kfa (Q8a (F:=zia.pc) (l:=s1.2) (n:=j10.1) (j:=1) rfl rfl zCa rfl h20 rfl)) (pq tk rfl (.plain rfl) (.run (.plain rfl) (kfa (Q4a rfl rfl h22)) .nil))))))))))) rfl ?_;obtain ⟨v23,h24,hr⟩:=zaa hr;refine wih tk h24 rfl rfl rfl rfl rfl<|rn tk 1 rfl ?_;obtain ⟨v25,h26,hr⟩:=zaa hr;refine wo (y0a (F:=zia.pc) (l:=s1.2) (n:=j10.1) (j:=1) (v:=v25) (v' :=((zia.mk v25.Name v21))) (pcs:=[pS v21]) rfl rfl rfl zCa rfl h26 rfl rfl) rfl<|rn tk 13 rfl ?_;cases hr;exact atc rfl rfl
   refine rn tk 5 rfl ?_;obtain ⟨v27,h28,hr⟩:=zaa hr;refine cl (vNb _ _ h28) rfl rfl<|rn tk 14 rfl<|ac 62 hr rfl (fun c29 hr=>?_) (fun c29 hr=>?_)
   .refine rn tk 3 rfl ?_;cases hr;exact ato rfl rfl rfl rfl
   refine rn tk 9 rfl<|wz zia.pc ([(zia.mk v27.1 v27.2)]:List zia) tk rfl rfl (fun _=>rfl) rfl rfl rfl ?_;obtain ⟨v30,h31,hr⟩:=zaa hr;refine wa tk h31 rfl rfl rfl rfl (fun _=>rfl) rfl rfl<|rn tk 11 rfl ?_;cases hr;exact atc rfl rfl
  refine rn tk 2 rfl ?_;cases hr;exact ato rfl rfl rfl rfl
 refine rn tk 7 rfl<|wnh tk rfl rfl rfl rfl<|rn tk 3 rfl<|ac 77 hr rfl (fun c32 hr=>?_) (fun c32 hr=>?_)
 .refine rn tk 9 rfl ?_;cases hr;exact kr tk (.inr rfl) rfl rfl
 refine rn tk 9 rfl<|al1 hr (fun s33=>[(0,.l cU a0),(2,.ptr 2 0),(4,.ptr 4 0),(5,.i b2.1),(11,.i s33.1)]) (fun s33=>[(2004,.row 5 false 1 (List.map cU (([]:List UInt8)))),(1004,.row 87 true 2 (List.map zia.pc s33.2)),(4,.cells [.hs 1004 0,.hs 2004 0]),(2,.cells [.l zia.pc ([]),.l cU ([])])]) (.exit 2) (fun b34=>[(0,.l cU a0),(2,.ptr 2 0),(4,.ptr 4 0),(5,.i b2.1)]) (fun b34=>[(2004,.row 5 false 1 (List.map cU (([]:List UInt8)))),(1004,.row 87 true 2 (List.map zia.pc b34)),(4,.cells [.hs 1004 0,.hs 2004 0]),(2,.cells [.l zia.pc ([]),.l cU ([])])]) rfl rfl (fun s33 x35 hr=>?_) (fun b34 hr=>?_)
 .unfold v2a at hr;refine rn tk 6 rfl<|wnh tk rfl rfl rfl rfl<|rn tk 3 rfl<|ac 83 hr rfl (fun c36 hr=>?_) (fun c36 hr=>?_)
  .refine rn tk 4 rfl ?_;obtain ⟨v37,h38,hr⟩:=zaa hr;obtain ⟨v39,h40,hr⟩:=zaa hr;obtain ⟨v41,h42,hr⟩:=zaa hr;refine dr 10 [(95,.s v41),(94,.s v39.Value),(93,.hp 1004 (Int.toNat s33.1) 1),(92,.hp 1004 (Int.toNat s33.1) 0),(91,.i s33.1),(90,.hs 1004 0),(89,.ptr 4 0),(88,.i s33.1),(87,.hs 1004 0),(86,.ptr 4 0)] mixed (by kernel_rfl) rfl rfl (pq tk rfl (.plain rfl) (pq tk rfl (.plain rfl) (pq tk rfl (.plain rfl) (pq tk rfl (.plain rfl) (pq tk rfl (.plain rfl) (pq tk rfl (.plain rfl) (.run (.plain rfl) (kfa (zKb (F:=zia.pc) (l:=s33.2) (n:=s33.1) rfl rfl rfl qha qMa h38)) (pq tk rfl (.plain rfl) (.run (.plain rfl) (kfa (Q8a (F:=zia.pc) (l:=s33.2) (n:=s33.1) (j:=1) rfl rfl zCa rfl h40 rfl)) (.run (.plain rfl) (k6a (kub v39.Value v41 h42) rfl) .nil)))))))))) rfl ?_;obtain ⟨v43,h44,hr⟩:=zaa hr;refine wih tk h44 rfl rfl rfl rfl rfl<|rn tk 1 rfl ?_;obtain ⟨v45,h46,hr⟩:=zaa hr;refine wo (y0a (F:=zia.pc) (l:=s33.2) (n:=s33.1) (j:=1) (v:=v45) (v' :=((zia.mk v45.Name v41))) (pcs:=[pS v41]) rfl rfl rfl zCa rfl h46 rfl rfl) rfl<|rn tk 8 rfl ?_;cases hr;exact atc rfl rfl
  refine rn tk 2 rfl ?_;cases hr;exact ato rfl rfl rfl rfl
 refine rn tk 10 rfl<|al1 hr (fun s47=>[(0,.l cU a0),(2,.ptr 2 0),(4,.ptr 4 0),(12,.i s47.1)]) (fun s47=>[(2004,.row 5 false 1 (List.map cU s47.2)),(1004,.row 87 true 2 (List.map zia.pc b34)),(4,.cells [.hs 1004 0,.hs 2004 0]),(2,.cells [.l zia.pc ([]),.l cU ([])])]) (.exit 4) (fun b48=>[(2,.ptr 2 0),(4,.ptr 4 0)]) (fun b48=>[(2004,.row 5 false 1 (List.map cU b48)),(1004,.row 87 true 2 (List.map zia.pc b34)),(4,.cells [.hs 1004 0,.hs 2004 0]),(2,.cells [.l zia.pc ([]),.l cU ([])])]) rfl rfl (fun s47 x49 hr=>?_) (fun b48 hr=>?_)
 .unfold vaa at hr;refine rn tk 5 rfl<|wn tk rfl rfl rfl<|rn tk 3 rfl<|ac 102 hr rfl (fun c50 hr=>?_) (fun c50 hr=>?_)
  .refine rn tk 2 rfl<|jb hr (fun j51=>[(0,.l cU a0),(2,.ptr 2 0),(4,.ptr 4 0),(12,.i j51.1)]) (fun j51=>[(2004,.row 5 false 1 (List.map cU j51.2)),(1004,.row 87 true 2 (List.map zia.pc b34)),(4,.cells [.hs 1004 0,.hs 2004 0]),(2,.cells [.l zia.pc ([]),.l cU ([])])]) (fun j51 hr=>?_) (fun j51 hr=>?_)
   .refine rn tk 2 rfl<|jb hr (fun j52=>[(0,.l cU a0),(2,.ptr 2 0),(4,.ptr 4 0),(12,.i s47.1),(116,.bo j52)]) (fun j52=>[(2004,.row 5 false 1 (List.map cU s47.2)),(1004,.row 87 true 2 (List.map zia.pc b34)),(4,.cells [.hs 1004 0,.hs 2004 0]),(2,.cells [.l zia.pc ([]),.l cU ([])])]) (fun j52 hr=>?_) (fun j52 hr=>?_)
    .refine rn tk 3 rfl ?_;obtain ⟨v53,h54,hr⟩:=zaa hr;refine wi tk h54 rfl rfl rfl rfl rfl<|rn tk 3 rfl<|bs 110 hr rfl (fun c55 hr=>?_) (fun c55 hr=>?_)
     .refine rn tk 7 rfl ?_;cases hr;exact jn _ rfl rfl rfl
     refine rn tk 2 rfl ?_;obtain ⟨v56,h57,hr⟩:=zaa hr;refine ug rfl rfl rfl<|wi tk h57 rfl rfl rfl rfl rfl<|rn tk 4 rfl ?_;cases hr;exact jn _ rfl rfl rfl
    refine ac 116 hr rfl (fun c58 hr=>?_) (fun c58 hr=>?_)
    .refine rn tk 4 rfl<|wz cU ([(13:UInt8),(10:UInt8)]:List UInt8) tk rfl rfl (fun _=>rfl) rfl rfl rfl ?_;obtain ⟨v59,h60,hr⟩:=zaa hr;refine wa tk h60 rfl rfl rfl rfl (fun _=>rfl) rfl rfl<|rn tk 4 rfl<|jb hr (fun j61=>[(0,.l cU a0),(2,.ptr 2 0),(4,.ptr 4 0),(12,.i j61)]) (fun j61=>[(2004,.row 5 false 1 (List.map cU v59)),(1004,.row 87 true 2 (List.map zia.pc b34)),(4,.cells [.hs 1004 0,.hs 2004 0]),(2,.cells [.l zia.pc ([]),.l cU ([])])]) (fun j61 hr=>?_) (fun j61 hr=>?_)
     .refine jb hr (fun j62=>[(0,.l cU a0),(2,.ptr 2 0),(4,.ptr 4 0),(12,.i s47.1),(141,.bo j62)]) (fun j62=>[(2004,.row 5 false 1 (List.map cU v59)),(1004,.row 87 true 2 (List.map zia.pc b34)),(4,.cells [.hs 1004 0,.hs 2004 0]),(2,.cells [.l zia.pc ([]),.l cU ([])])]) (fun j62 hr=>?_) (fun j62 hr=>?_)
      .refine rn tk 3 rfl ?_;obtain ⟨v63,h64,hr⟩:=zaa hr;refine wi tk h64 rfl rfl rfl rfl rfl<|rn tk 3 rfl<|bs 127 hr rfl (fun c65 hr=>?_) (fun c65 hr=>?_)
       .refine rn tk 3 rfl<|ug rfl rfl rfl<|wn tk rfl rfl rfl<|rn tk 3 rfl<|bs 134 hr rfl (fun c66 hr=>?_) (fun c66 hr=>?_)
        .refine rn tk 3 rfl ?_;obtain ⟨v67,h68,hr⟩:=zaa hr;refine ug rfl rfl rfl<|wi tk h68 rfl rfl rfl rfl rfl<|rn tk 4 rfl ?_;cases hr;exact jn _ rfl rfl rfl
        refine rn tk 8 rfl ?_;cases hr;exact jn _ rfl rfl rfl
       refine rn tk 15 rfl ?_;cases hr;exact jn _ rfl rfl rfl
      refine ac 141 hr rfl (fun c69 hr=>?_) (fun c69 hr=>?_)
      .refine rn tk 5 rfl ?_;cases hr;exact jn _ rfl rfl rfl
      refine rn tk 1 rfl ?_;cases hr;exact jn _ rfl rfl rfl
     refine rn tk 3 rfl ?_;cases hr;exact jn _ rfl rfl rfl
    refine rn tk 2 rfl ?_;obtain ⟨v70,h71,hr⟩:=zaa hr;refine dr 7 [(150,.l cU (([v70]:List UInt8))),(149,.u8 v70),(148,.ep [pU v70]),(147,.i s47.1),(146,.l cU a0),(145,.hs 2004 0),(144,.ptr 4 1)] mixed (by kernel_rfl) rfl rfl (pq tk rfl (.plain rfl) (pq tk rfl (.plain rfl) (pq tk rfl (.plain rfl) (pq tk rfl (.plain rfl) (.run (.plain rfl) (kfa (qLa (f:=cU) rfl rfl zla zDa rfl h71)) (pq tk rfl (.plain rfl) (.run (.plain rfl) (vda (F:=cU) (l:=([v70]:List UInt8)) zla zDa rfl (fun _=>rfl) rfl rfl) .nil))))))) rfl ?_;obtain ⟨v72,h73,hr⟩:=zaa hr;refine wa tk h73 rfl rfl rfl rfl (fun _=>rfl) rfl rfl<|rn tk 4 rfl ?_;cases hr;exact jn _ rfl rfl rfl
   refine rn tk 5 rfl ?_;cases hr;exact atc rfl rfl
  refine rn tk 2 rfl ?_;cases hr;exact ato rfl rfl rfl rfl
 refine rn tk 6 rfl ?_;refine Yka 1004 rfl (hO ?_);refine Yma (d' :=153) (j:=0) (F:=zia.pc) (l:=b34) rfl rfl rfl (hO ?_);refine Yma (d' :=153) (j:=1) (F:=cU) (l:=b48) rfl rfl rfl (hO ?_);obtain ⟨v74,h75,hr⟩:=zaa hr;refine cl (VCa _ _ h75) rfl rfl<|rn tk 4 rfl<|ac 156 hr rfl (fun c76 hr=>?_) (fun c76 hr=>?_)
 .refine rn tk 9 rfl ?_;cases hr;exact kr tk (.inr rfl) rfl rfl
 refine rn tk 9 rfl ?_;refine W1a (o:=2) (j:=0) (F:=zia.pc) (l:=b34) rfl rfl rfl (hC ?_);refine W1a (o:=2) (j:=1) (F:=cU) (l:=b48) rfl rfl rfl (hC ?_);refine rn tk 1 rfl ?_;cases hr;exact kr tk (.inr rfl) rfl rfl
theorem KNa(a0:zda)(r:zda)(hr:w1a a0=some r):RunS prog 75 [.agg (zA1 a0.S)] [(90003010,.row 5 false 1 (List.map cU a0.S.Data)),(90003018,.row 28 false 2 (List.map zka.pc a0.Replies)),(90003019,.row 56 false 5 (List.map zza.pc a0.Mails))] (.agg (zA1 r.S)) [(90003010,.row 5 false 1 (List.map cU r.S.Data)),(90003018,.row 28 false 2 (List.map zka.pc r.Replies)),(90003019,.row 56 false 5 (List.map zza.pc r.Mails))] 90003000 [90003010,90003018,90003019]:=by
 unfold w1a at hr;refine rfS (fn:=f75) (H:=90003999) .any ⟨func75,rfl,by kernel_rfl⟩ rfl (hasT rfl) (.inr ⟨rfl,rfl⟩) rfl rfl rfl rfl fun g0 hg S sg T=>?_
 refine rn tk 4 rfl ?_;refine zua 1002 (o:=2) (j:=9) 5 1 rfl rfl rfl rfl (hO ?_);refine zua 2002 (o:=2) (j:=17) 28 2 rfl rfl rfl rfl (hO ?_);refine zua 3002 (o:=2) (j:=18) 56 5 rfl rfl rfl rfl (hO ?_);refine rn tk 7 rfl ?_;refine vFa (d:=9) (F:=cU) (l:=a0.S.Data) rfl rfl (hO ?_);obtain ⟨v1,h2,hr⟩:=zaa hr;refine cl (Jma _ _ h2) rfl rfl<|rn tk 17 rfl<|ac 16 hr rfl (fun c3 hr=>?_) (fun c3 hr=>?_)
 .refine rn tk 3 rfl ?_;obtain ⟨v4,h5,hr⟩:=zaa hr;refine wo (zja (k:=18) (kpa a0 552 (([108,97,114,103,101]:Str)) v4 h5) rfl rfl (zba rfl (zba rfl (zba rfl zfa)))) rfl ?_;obtain ⟨v6,h7,hr⟩:=zaa hr;refine wo (zja (k:=19) (qna v4 v6 h7) rfl rfl (zba rfl (zba rfl (zba rfl zfa)))) rfl<|rn tk 5 rfl ?_;cases hr;exact krS tk (.inr rfl) rfl rfl (zba rfl (zba rfl (zba rfl (zba rfl zfa))))
 refine rn tk 3 rfl<|jb hr (fun j8=>[(1,.ptr 1 0),(2,.ptr 2 0),(3,.ptr 3 0),(27,.bo j8)]) (fun j8=>[(3,.cells [.l zia.pc v1.1.Fields,.l cU v1.1.Body]),(3002,.row 56 false 5 (List.map zza.pc (([]:List zza)))),(2002,.row 28 false 2 (List.map zka.pc (([]:List zka)))),(1002,.row 5 false 1 (List.map cU (([]:List UInt8)))),(2,.cells [.s (([]:Str)),.i 0,.i 0,.i 0,.bo false,.bo false,.s (([]:Str)),.l zca.pc ([]),.l cU ([]),.hs 1002 0,.i 0,.i 0,.bo false,.i 0,.bo false,.bo false,.i 0,.hs 2002 0,.hs 3002 0]),(1,.cells (zA1 a0.S)),(90003999,.hold (.any) (T.getD 0 undef)),(90003010,.row 5 false 1 (List.map cU a0.S.Data)),(90003018,.row 28 false 2 (List.map zka.pc a0.Replies)),(90003019,.row 56 false 5 (List.map zza.pc a0.Mails))]) (fun j8 hr=>?_) (fun j8 hr=>?_)
 .refine rn tk 4 rfl<|bs 22 hr rfl (fun c9 hr=>?_) (fun c9 hr=>?_)
  .refine rn tk 6 rfl ?_;cases hr;exact jn _ rfl rfl rfl
  refine rn tk 6 rfl ?_;cases hr;exact jn _ rfl rfl rfl
 refine ac 27 hr rfl (fun c10 hr=>?_) (fun c10 hr=>?_)
 .refine rn tk 3 rfl ?_;obtain ⟨v11,h12,hr⟩:=zaa hr;refine wo (zja (k:=29) (kpa a0 554 (([114,101,102,117,115,101,100]:Str)) v11 h12) rfl rfl (zba rfl (zba rfl (zba rfl zfa)))) rfl ?_;obtain ⟨v13,h14,hr⟩:=zaa hr;refine wo (zja (k:=30) (qna v11 v13 h14) rfl rfl (zba rfl (zba rfl (zba rfl zfa)))) rfl<|rn tk 5 rfl ?_;cases hr;exact krS tk (.inr rfl) rfl rfl (zba rfl (zba rfl (zba rfl (zba rfl zfa))))
 refine rn tk 14 rfl ?_;obtain ⟨v15,h16,hr⟩:=zaa hr;obtain ⟨v17,h18,hr⟩:=zaa hr;refine dr 8 [(44,.s v17),(43,.i ((w64 (a0.S.Count+1)))),(42,.ptr 1 16),(41,.ptr 1 0),(40,.s v15),(39,.s a0.S.Name),(38,.ptr 1 0),(37,.ptr 1 0)] mixed (by kernel_rfl) rfl rfl (pq tk rfl (.plain rfl) (pq tk rfl (.plain rfl) (pq tk rfl (.plain rfl) (.run (.plain rfl) (kfa (Q4a rfl rfl h16)) (pq tk rfl (.plain rfl) (pq tk rfl (.plain rfl) (pq tk rfl (.plain rfl) (.run (.plain rfl) (k6a (KLa ((w64 (a0.S.Count+1))) v17 h18) rfl) .nil)))))))) rfl ?_;obtain ⟨v19,h20,hr⟩:=zaa hr;refine wc h20 rfl rfl rfl<|rn tk 17 rfl<|wz zza.pc ([(zza.mk ((zKa.mk a0.S.From a0.S.To v19)) v1.1)]:List zza) tk rfl rfl (fun _=>rfl) rfl rfl rfl ?_;obtain ⟨v21,h22,hr⟩:=zaa hr;refine wa tk h22 rfl rfl rfl rfl (fun _=>rfl) rfl rfl<|rn tk 8 rfl ?_;obtain ⟨v23,h24,hr⟩:=zaa hr;refine wo (zja (k:=63) (kpa ((zda.mk ((zha.mk a0.S.Name a0.S.Size a0.S.Many a0.S.Phase a0.S.Greeted a0.S.Mailing a0.S.From a0.S.To a0.S.Buffer a0.S.Data a0.S.Lost a0.S.Dots a0.S.Chunked a0.S.Left a0.S.Last a0.S.Ignore ((w64 (a0.S.Count+1))))) a0.Replies v21)) 250 v19 v23 h24) rfl rfl (zba rfl (zba rfl (zba rfl zfa)))) rfl ?_;obtain ⟨v25,h26,hr⟩:=zaa hr;refine wo (zja (k:=64) (qna v23 v25 h26) rfl rfl (zba rfl (zba rfl (zba rfl zfa)))) rfl<|rn tk 4 rfl ?_;cases hr;exact krS tk (.inr rfl) rfl rfl (zba rfl (zba rfl (zba rfl (zba rfl zfa))))
theorem QUa(a0:zda)(a1:UInt8)(r:zda)(hr:ZDa a0 a1=some r):RunS prog 46 [.agg (zA1 a0.S),.u8 a1] [(90003010,.row 5 false 1 (List.map cU a0.S.Data)),(90003018,.row 28 false 2 (List.map zka.pc a0.Replies)),(90003019,.row 56 false 5 (List.map zza.pc a0.Mails))] (.agg (zA1 r.S)) [(90003010,.row 5 false 1 (List.map cU r.S.Data)),(90003018,.row 28 false 2 (List.map zka.pc r.Replies)),(90003019,.row 56 false 5 (List.map zza.pc r.Mails))] 90003000 [90003010,90003018,90003019]:=by
 unfold ZDa at hr;refine rfS (fn:=f46) (H:=90003999) .any ⟨func46,rfl,by kernel_rfl⟩ rfl (hasT rfl) (.inr ⟨rfl,rfl⟩) rfl rfl rfl rfl fun g0 hg S sg T=>?_
 refine rn tk 4 rfl ?_;refine zua 1004 (o:=4) (j:=9) 5 1 rfl rfl rfl rfl (hO ?_);refine zua 2004 (o:=4) (j:=17) 28 2 rfl rfl rfl rfl (hO ?_);refine zua 3004 (o:=4) (j:=18) 56 5 rfl rfl rfl rfl (hO ?_);refine rn tk 2 rfl<|jb hr (fun j1=>[(2,.ptr 2 0),(4,.ptr 4 0)]) (fun j1=>[(2,.cells (zA1 j1.S)),(90003010,.row 5 false 1 (List.map cU j1.S.Data)),(90003018,.row 28 false 2 (List.map zka.pc j1.Replies)),(90003019,.row 56 false 5 (List.map zza.pc j1.Mails)),(3004,.row 56 false 5 (List.map zza.pc (([]:List zza)))),(2004,.row 28 false 2 (List.map zka.pc (([]:List zka)))),(1004,.row 5 false 1 (List.map cU (([]:List UInt8)))),(4,.cells [.s (([]:Str)),.i 0,.i 0,.i 0,.bo false,.bo false,.s (([]:Str)),.l zca.pc ([]),.l cU ([]),.hs 1004 0,.i 0,.i 0,.bo false,.i 0,.bo false,.bo false,.i 0,.hs 2004 0,.hs 3004 0]),(90003999,.hold (.any) (T.getD 0 undef))]) (fun j1 hr=>?_) (fun j1 hr=>?_)
 .refine rn tk 5 rfl<|wnh tk rfl rfl rfl rfl<|rn tk 6 rfl<|ac 12 hr rfl (fun c2 hr=>?_) (fun c2 hr=>?_)
  .refine rn tk 5 rfl<|wz cU ([a1]:List UInt8) tk rfl rfl (fun _=>rfl) rfl rfl rfl ?_;obtain ⟨v3,h4,hr⟩:=zaa hr;refine wa tk h4 rfl rfl rfl rfl (fun _=>rfl) rfl rfl<|rn tk 4 rfl ?_;cases hr;exact jn _ rfl rfl rfl
  refine rn tk 8 rfl<|ac 24 hr rfl (fun c5 hr=>?_) (fun c5 hr=>?_)
  .refine rn tk 9 rfl ?_;cases hr;exact jn _ rfl rfl rfl
  refine rn tk 1 rfl ?_;cases hr;exact jn _ rfl rfl rfl
 refine rn tk 7 rfl ?_;cases hr;exact krS tk (.inr rfl) rfl rfl (zba rfl (zba rfl (zba rfl (zba rfl zfa))))
theorem Jna(a0:zda)(a1:UInt8)(r:zda)(hr:jma a0 a1=some r):RunS prog 45 [.agg (zA1 a0.S),.u8 a1] [(90003010,.row 5 false 1 (List.map cU a0.S.Data)),(90003018,.row 28 false 2 (List.map zka.pc a0.Replies)),(90003019,.row 56 false 5 (List.map zza.pc a0.Mails))] (.agg (zA1 r.S)) [(90003010,.row 5 false 1 (List.map cU r.S.Data)),(90003018,.row 28 false 2 (List.map zka.pc r.Replies)),(90003019,.row 56 false 5 (List.map zza.pc r.Mails))] 90003000 [90003010,90003018,90003019]:=by
 unfold jma at hr;refine rfS (fn:=f45) (H:=90003999) .any ⟨func45,rfl,by kernel_rfl⟩ rfl (hasT rfl) (.inr ⟨rfl,rfl⟩) rfl rfl rfl rfl fun g0 hg S sg T=>?_
 refine rn tk 4 rfl ?_;refine zua 1004 (o:=4) (j:=9) 5 1 rfl rfl rfl rfl (hO ?_);refine zua 2004 (o:=4) (j:=17) 28 2 rfl rfl rfl rfl (hO ?_);refine zua 3004 (o:=4) (j:=18) 56 5 rfl rfl rfl rfl (hO ?_);refine rn tk 11 rfl<|jb hr (fun j1=>[(1,.u8 a1),(2,.ptr 2 0),(4,.ptr 4 0),(5,.i a0.S.Dots),(14,.bo j1)]) (fun j1=>[(3004,.row 56 false 5 (List.map zza.pc (([]:List zza)))),(2004,.row 28 false 2 (List.map zka.pc (([]:List zka)))),(1004,.row 5 false 1 (List.map cU (([]:List UInt8)))),(4,.cells [.s (([]:Str)),.i 0,.i 0,.i 0,.bo false,.bo false,.s (([]:Str)),.l zca.pc ([]),.l cU ([]),.hs 1004 0,.i 0,.i 0,.bo false,.i 0,.bo false,.bo false,.i 0,.hs 2004 0,.hs 3004 0]),(2,.cells (zA1 a0.S)),(90003999,.hold (.any) (T.getD 0 undef)),(90003010,.row 5 false 1 (List.map cU a0.S.Data)),(90003018,.row 28 false 2 (List.map zka.pc a0.Replies)),(90003019,.row 56 false 5 (List.map zza.pc a0.Mails))]) (fun j1 hr=>?_) (fun j1 hr=>?_)
 .refine rn tk 4 rfl<|bs 11 hr rfl (fun c2 hr=>?_) (fun c2 hr=>?_)
  .refine rn tk 4 rfl ?_;cases hr;exact jn _ rfl rfl rfl
  refine rn tk 4 rfl ?_;cases hr;exact jn _ rfl rfl rfl
 refine ac 14 hr rfl (fun c3 hr=>?_) (fun c3 hr=>?_)
 .refine rn tk 15 rfl ?_;cases hr;exact krS tk (.inr rfl) rfl rfl (zba rfl (zba rfl (zba rfl (zba rfl zfa))))
 refine rn tk 3 rfl<|jb hr (fun j4=>[(1,.u8 a1),(2,.ptr 2 0),(4,.ptr 4 0),(5,.i a0.S.Dots),(23,.bo j4)]) (fun j4=>[(3004,.row 56 false 5 (List.map zza.pc (([]:List zza)))),(2004,.row 28 false 2 (List.map zka.pc (([]:List zka)))),(1004,.row 5 false 1 (List.map cU (([]:List UInt8)))),(4,.cells [.s (([]:Str)),.i 0,.i 0,.i 0,.bo false,.bo false,.s (([]:Str)),.l zca.pc ([]),.l cU ([]),.hs 1004 0,.i 0,.i 0,.bo false,.i 0,.bo false,.bo false,.i 0,.hs 2004 0,.hs 3004 0]),(2,.cells (zA1 a0.S)),(90003999,.hold (.any) (T.getD 0 undef)),(90003010,.row 5 false 1 (List.map cU a0.S.Data)),(90003018,.row 28 false 2 (List.map zka.pc a0.Replies)),(90003019,.row 56 false 5 (List.map zza.pc a0.Mails))]) (fun j4 hr=>?_) (fun j4 hr=>?_)
 .refine rn tk 4 rfl<|bs 20 hr rfl (fun c5 hr=>?_) (fun c5 hr=>?_)
  .refine rn tk 4 rfl ?_;cases hr;exact jn _ rfl rfl rfl
  refine rn tk 4 rfl ?_;cases hr;exact jn _ rfl rfl rfl
 refine ac 23 hr rfl (fun c6 hr=>?_) (fun c6 hr=>?_)
 .refine rn tk 15 rfl ?_;cases hr;exact krS tk (.inr rfl) rfl rfl (zba rfl (zba rfl (zba rfl (zba rfl zfa))))
 refine rn tk 3 rfl<|jb hr (fun j7=>[(1,.u8 a1),(2,.ptr 2 0),(4,.ptr 4 0),(5,.i a0.S.Dots),(32,.bo j7)]) (fun j7=>[(3004,.row 56 false 5 (List.map zza.pc (([]:List zza)))),(2004,.row 28 false 2 (List.map zka.pc (([]:List zka)))),(1004,.row 5 false 1 (List.map cU (([]:List UInt8)))),(4,.cells [.s (([]:Str)),.i 0,.i 0,.i 0,.bo false,.bo false,.s (([]:Str)),.l zca.pc ([]),.l cU ([]),.hs 1004 0,.i 0,.i 0,.bo false,.i 0,.bo false,.bo false,.i 0,.hs 2004 0,.hs 3004 0]),(2,.cells (zA1 a0.S)),(90003999,.hold (.any) (T.getD 0 undef)),(90003010,.row 5 false 1 (List.map cU a0.S.Data)),(90003018,.row 28 false 2 (List.map zka.pc a0.Replies)),(90003019,.row 56 false 5 (List.map zza.pc a0.Mails))]) (fun j7 hr=>?_) (fun j7 hr=>?_)
 .refine rn tk 4 rfl<|bs 29 hr rfl (fun c8 hr=>?_) (fun c8 hr=>?_)
  .refine rn tk 4 rfl ?_;cases hr;exact jn _ rfl rfl rfl
  refine rn tk 4 rfl ?_;cases hr;exact jn _ rfl rfl rfl
 refine ac 32 hr rfl (fun c9 hr=>?_) (fun c9 hr=>?_)
 .refine rn tk 17 rfl ?_;obtain ⟨v10,h11,hr⟩:=zaa hr;refine wo (zja (k:=38) (KNa ((zda.mk ((zha.mk a0.S.Name a0.S.Size a0.S.Many 0 a0.S.Greeted a0.S.Mailing a0.S.From a0.S.To a0.S.Buffer a0.S.Data a0.S.Lost 0 a0.S.Chunked a0.S.Left a0.S.Last a0.S.Ignore a0.S.Count)) a0.Replies a0.Mails)) v10 h11) rfl rfl (zba rfl (zba rfl (zba rfl zfa)))) rfl<|rn tk 5 rfl ?_;cases hr;exact krS tk (.inr rfl) rfl rfl (zba rfl (zba rfl (zba rfl (zba rfl zfa))))
 refine rn tk 2 rfl<|jb hr (fun j12=>[(1,.u8 a1),(2,.ptr 2 0),(4,.ptr 4 0),(5,.i a0.S.Dots)]) (fun j12=>[(2,.cells (zA1 j12.S)),(90003010,.row 5 false 1 (List.map cU j12.S.Data)),(90003018,.row 28 false 2 (List.map zka.pc j12.Replies)),(90003019,.row 56 false 5 (List.map zza.pc j12.Mails)),(3004,.row 56 false 5 (List.map zza.pc (([]:List zza)))),(2004,.row 28 false 2 (List.map zka.pc (([]:List zka)))),(1004,.row 5 false 1 (List.map cU (([]:List UInt8)))),(4,.cells [.s (([]:Str)),.i 0,.i 0,.i 0,.bo false,.bo false,.s (([]:Str)),.l zca.pc ([]),.l cU ([]),.hs 1004 0,.i 0,.i 0,.bo false,.i 0,.bo false,.bo false,.i 0,.hs 2004 0,.hs 3004 0]),(90003999,.hold (.any) (T.getD 0 undef))]) (fun j12 hr=>?_) (fun j12 hr=>?_)
 .refine rn tk 6 rfl<|ac 40 hr rfl (fun c13 hr=>?_) (fun c13 hr=>?_)
  .refine rn tk 2 rfl ?_;obtain ⟨v14,h15,hr⟩:=zaa hr;refine wo (zja (k:=42) (QUa a0 ((13:UInt8)) v14 h15) rfl rfl (zba rfl (zba rfl (zba rfl zfa)))) rfl<|rn tk 2 rfl ?_;cases hr;exact jn _ rfl rfl rfl
  refine rn tk 1 rfl ?_;cases hr;exact jn _ rfl rfl rfl
 refine rn tk 4 rfl ?_;obtain ⟨v16,h17,hr⟩:=zaa hr;refine wo (zja (k:=45) (QUa j12 a1 v16 h17) rfl rfl (zba rfl (zba rfl (zba rfl zfa)))) rfl<|rn tk 10 rfl<|jb hr (fun j18=>[(1,.u8 a1),(2,.ptr 2 0),(4,.ptr 4 0),(5,.i a0.S.Dots)]) (fun j18=>[(2,.cells (zA1 j18.S)),(90003010,.row 5 false 1 (List.map cU j18.S.Data)),(90003018,.row 28 false 2 (List.map zka.pc j18.Replies)),(90003019,.row 56 false 5 (List.map zza.pc j18.Mails)),(3004,.row 56 false 5 (List.map zza.pc (([]:List zza)))),(2004,.row 28 false 2 (List.map zka.pc (([]:List zka)))),(1004,.row 5 false 1 (List.map cU (([]:List UInt8)))),(4,.cells [.s (([]:Str)),.i 0,.i 0,.i 0,.bo false,.bo false,.s (([]:Str)),.l zca.pc ([]),.l cU ([]),.hs 1004 0,.i 0,.i 0,.bo false,.i 0,.bo false,.bo false,.i 0,.hs 2004 0,.hs 3004 0]),(90003999,.hold (.any) (T.getD 0 undef))]) (fun j18 hr=>?_) (fun j18 hr=>?_)
 .refine rn tk 6 rfl<|ac 49 hr rfl (fun c19 hr=>?_) (fun c19 hr=>?_)
  .refine rn tk 5 rfl ?_;cases hr;exact jn _ rfl rfl rfl
  refine rn tk 1 rfl ?_;cases hr;exact jn _ rfl rfl rfl
 refine jb hr (fun j20=>[(2,.ptr 2 0),(4,.ptr 4 0)]) (fun j20=>[(2,.cells (zA1 j20.S)),(90003010,.row 5 false 1 (List.map cU j20.S.Data)),(90003018,.row 28 false 2 (List.map zka.pc j20.Replies)),(90003019,.row 56 false 5 (List.map zza.pc j20.Mails)),(3004,.row 56 false 5 (List.map zza.pc (([]:List zza)))),(2004,.row 28 false 2 (List.map zka.pc (([]:List zka)))),(1004,.row 5 false 1 (List.map cU (([]:List UInt8)))),(4,.cells [.s (([]:Str)),.i 0,.i 0,.i 0,.bo false,.bo false,.s (([]:Str)),.l zca.pc ([]),.l cU ([]),.hs 1004 0,.i 0,.i 0,.bo false,.i 0,.bo false,.bo false,.i 0,.hs 2004 0,.hs 3004 0]),(90003999,.hold (.any) (T.getD 0 undef))]) (fun j20 hr=>?_) (fun j20 hr=>?_)
 .refine jb hr (fun j21=>[(2,.ptr 2 0),(4,.ptr 4 0),(57,.bo j21)]) (fun j21=>[(2,.cells (zA1 j18.S)),(90003010,.row 5 false 1 (List.map cU j18.S.Data)),(90003018,.row 28 false 2 (List.map zka.pc j18.Replies)),(90003019,.row 56 false 5 (List.map zza.pc j18.Mails)),(3004,.row 56 false 5 (List.map zza.pc (([]:List zza)))),(2004,.row 28 false 2 (List.map zka.pc (([]:List zka)))),(1004,.row 5 false 1 (List.map cU (([]:List UInt8)))),(4,.cells [.s (([]:Str)),.i 0,.i 0,.i 0,.bo false,.bo false,.s (([]:Str)),.l zca.pc ([]),.l cU ([]),.hs 1004 0,.i 0,.i 0,.bo false,.i 0,.bo false,.bo false,.i 0,.hs 2004 0,.hs 3004 0]),(90003999,.hold (.any) (T.getD 0 undef))]) (fun j21 hr=>?_) (fun j21 hr=>?_)
  .refine rn tk 4 rfl<|bs 54 hr rfl (fun c22 hr=>?_) (fun c22 hr=>?_)
   .refine rn tk 4 rfl ?_;cases hr;exact jn _ rfl rfl rfl
   refine rn tk 4 rfl ?_;cases hr;exact jn _ rfl rfl rfl
  refine ac 57 hr rfl (fun c23 hr=>?_) (fun c23 hr=>?_)
  .refine rn tk 5 rfl ?_;cases hr;exact jn _ rfl rfl rfl
  refine rn tk 1 rfl ?_;cases hr;exact jn _ rfl rfl rfl
 refine rn tk 7 rfl ?_;cases hr;exact krS tk (.inr rfl) rfl rfl (zba rfl (zba rfl (zba rfl (zba rfl zfa))))
theorem KOa(a0:zda)(r:zda)(hr:w2a a0=some r):RunS prog 47 [.agg (zA1 a0.S)] [(90003010,.row 5 false 1 (List.map cU a0.S.Data)),(90003018,.row 28 false 2 (List.map zka.pc a0.Replies)),(90003019,.row 56 false 5 (List.map zza.pc a0.Mails))] (.agg (zA1 r.S)) [(90003010,.row 5 false 1 (List.map cU r.S.Data)),(90003018,.row 28 false 2 (List.map zka.pc r.Replies)),(90003019,.row 56 false 5 (List.map zza.pc r.Mails))] 90003000 [90003010,90003018,90003019]:=by
 unfold w2a at hr;refine rfS (fn:=f47) (H:=90003999) .any ⟨func47,rfl,by kernel_rfl⟩ rfl (hasT rfl) (.inr ⟨rfl,rfl⟩) rfl rfl rfl rfl fun g0 hg S sg T=>?_
 refine rn tk 4 rfl ?_;refine zua 1002 (o:=2) (j:=9) 5 1 rfl rfl rfl rfl (hO ?_);refine zua 2002 (o:=2) (j:=17) 28 2 rfl rfl rfl rfl (hO ?_);refine zua 3002 (o:=2) (j:=18) 56 5 rfl rfl rfl rfl (hO ?_);refine rn tk 45 rfl<|ac 17 hr rfl (fun c1 hr=>?_) (fun c1 hr=>?_)
 .refine rn tk 3 rfl ?_;obtain ⟨v2,h3,hr⟩:=zaa hr;refine wo (zja (k:=19) (kpa ((zda.mk ((zha.mk a0.S.Name a0.S.Size a0.S.Many 0 a0.S.Greeted a0.S.Mailing a0.S.From a0.S.To a0.S.Buffer a0.S.Data a0.S.Lost a0.S.Dots a0.S.Chunked a0.S.Left false false a0.S.Count)) a0.Replies a0.Mails)) 503 (([111,114,100,101,114]:Str)) v2 h3) rfl rfl (zba rfl (zba rfl (zba rfl zfa)))) rfl<|rn tk 5 rfl ?_;cases hr;exact krS tk (.inr rfl) rfl rfl (zba rfl (zba rfl (zba rfl (zba rfl zfa))))
 refine rn tk 8 rfl<|ac 20 hr rfl (fun c4 hr=>?_) (fun c4 hr=>?_)
 .refine rn tk 3 rfl ?_;obtain ⟨v5,h6,hr⟩:=zaa hr;refine wo (zja (k:=22) (KNa ((zda.mk ((zha.mk a0.S.Name a0.S.Size a0.S.Many 0 a0.S.Greeted a0.S.Mailing a0.S.From a0.S.To a0.S.Buffer a0.S.Data a0.S.Lost a0.S.Dots a0.S.Chunked a0.S.Left false false a0.S.Count)) a0.Replies a0.Mails)) v5 h6) rfl rfl (zba rfl (zba rfl (zba rfl zfa)))) rfl<|rn tk 5 rfl ?_;cases hr;exact krS tk (.inr rfl) rfl rfl (zba rfl (zba rfl (zba rfl (zba rfl zfa))))
 refine rn tk 5 rfl ?_;obtain ⟨v7,h8,hr⟩:=zaa hr;refine wo (zja (k:=24) (kpa ((zda.mk ((zha.mk a0.S.Name a0.S.Size a0.S.Many 0 a0.S.Greeted a0.S.Mailing a0.S.From a0.S.To a0.S.Buffer a0.S.Data a0.S.Lost a0.S.Dots a0.S.Chunked a0.S.Left false false a0.S.Count)) a0.Replies a0.Mails)) 250 (([111,107]:Str)) v7 h8) rfl rfl (zba rfl (zba rfl (zba rfl zfa)))) rfl<|rn tk 4 rfl ?_;cases hr;exact krS tk (.inr rfl) rfl rfl (zba rfl (zba rfl (zba rfl (zba rfl zfa))))
theorem qIb(a0:Int)(a1:Int)(r:Int)(hr:Vca a0 a1=some r):Run prog 133 [.i a0,.i a1] (.i r):=by
 unfold Vca at hr;refine rf (fn:=f133) ⟨func133,rfl,by kernel_rfl⟩ rfl (fun _=>rfl) fun g0 hg=>?_
 refine rn tk 17 rfl<|al1 hr (fun s1=>[(0,.i a0),(1,.i a1),(5,.i s1.1),(6,.i s1.2)]) (fun s1=>[]) (.exit 0) (fun b2=>[(5,.i b2)]) (fun b2=>[]) rfl rfl (fun s1 x3 hr=>?_) (fun b2 hr=>?_)
 .unfold wWa at hr;refine rn tk 7 rfl<|ac 8 hr rfl (fun c4 hr=>?_) (fun c4 hr=>?_)
  .refine rn tk 2 rfl<|jb hr (fun j5=>[(0,.i a0),(1,.i a1),(5,.i j5),(6,.i s1.2)]) (fun j5=>[]) (fun j5 hr=>?_) (fun j5 hr=>?_)
   .refine rn tk 1 rfl<|jb hr (fun j6=>[(0,.i a0),(1,.i a1),(5,.i s1.1),(6,.i s1.2),(22,.bo j6)]) (fun j6=>[]) (fun j6 hr=>?_) (fun j6 hr=>?_)
    .refine rn tk 3 rfl ?_;obtain ⟨v7,h8,hr⟩:=zaa hr;refine wq (wea rfl rfl (y3b h8)) rfl rfl rfl<|wq (wwa rfl rfl rfl) rfl rfl rfl<|rn tk 2 rfl<|bs 16 hr rfl (fun c9 hr=>?_) (fun c9 hr=>?_)
     .refine rn tk 7 rfl ?_;cases hr;exact jn _ rfl rfl rfl
     refine rn tk 2 rfl ?_;obtain ⟨v10,h11,hr⟩:=zaa hr;refine ug rfl rfl rfl<|wq (wea rfl rfl (y3b h11)) rfl rfl rfl<|ug rfl rfl rfl<|wq (wwa rfl rfl rfl) rfl rfl rfl<|rn tk 3 rfl ?_;cases hr;exact jn _ rfl rfl rfl
    refine ac 22 hr rfl (fun c12 hr=>?_) (fun c12 hr=>?_)
    .refine rn tk 7 rfl ?_;cases hr;exact jn _ rfl rfl rfl
    refine rn tk 2 rfl ?_;cases hr;exact jn _ rfl rfl rfl
   refine rn tk 5 rfl ?_;cases hr;exact atc rfl rfl
  refine rn tk 2 rfl ?_;cases hr;exact ato rfl rfl rfl rfl
 refine rn tk 9 rfl ?_;cases hr;exact kr tk (.inr rfl) rfl rfl
theorem Joa(a0:List zca)(a1:Str)(r:Int)(hr:VXa a0 a1=some r):Run prog 76 [.l zca.pc a0,.s a1] (.i r):=by
 unfold VXa at hr;refine rf (fn:=f76) ⟨func76,rfl,by kernel_rfl⟩ rfl (fun _=>rfl) fun g0 hg=>?_
 refine rn tk 12 rfl<|al2 hr (fun s1=>[(0,.l zca.pc a0),(1,.s a1),(5,.i s1)]) (fun s1=>[]) (.exit 0) (fun b2=>[]) (fun b2=>[]) .ret (fun b3=>[(4,.i b3)]) (fun b3=>[]) rfl rfl (fun s1 x5 hr=>?_) (fun b2 hr=>?_) (fun b3 hr=>?_)
 .unfold KTa at hr;refine rn tk 5 rfl<|wn tk rfl rfl rfl<|rn tk 3 rfl<|ac 9 hr rfl (fun c6 hr=>?_) (fun c6 hr=>?_)
  .refine rn tk 8 rfl ?_;obtain ⟨v7,h8,hr⟩:=zaa hr;refine wi tk h8 rfl rfl rfl rfl rfl<|rn tk 6 rfl<|ac 18 hr rfl (fun c9 hr=>?_) (fun c9 hr=>?_)
   .refine rn tk 9 rfl ?_;cases hr;exact ato rfl rfl rfl rfl
   refine rn tk 8 rfl ?_;cases hr;exact atc rfl rfl
  refine rn tk 2 rfl ?_;cases hr;exact ato rfl rfl rfl rfl
 .refine rn tk 8 rfl ?_;cases hr;exact kr tk (.inr rfl) rfl rfl
 refine rn tk 2 rfl ?_;cases hr;exact kr tk (.inr rfl) rfl rfl
theorem qJb(a0:List zca)(r:List zca)(hr:Vda a0=some r):Run prog 110 [.l zca.pc a0] (.l zca.pc r):=by
 unfold Vda at hr;refine rf (fn:=f110) ⟨func110,rfl,by kernel_rfl⟩ rfl (fun _=>rfl) fun g0 hg=>?_
 refine rn tk 8 rfl ?_;refine kXa 1003 (d:=3) 60 2 rfl rfl rfl (hO ?_);refine rn tk 9 rfl<|al1 hr (fun s1=>[(0,.l zca.pc a0),(3,.hs 1003 0),(4,.i s1.1)]) (fun s1=>[(1003,.row 60 false 2 (List.map zca.pc s1.2))]) (.exit 0) (fun b2=>[(3,.hs 1003 0)]) (fun b2=>[(1003,.row 60 false 2 (List.map zca.pc b2))]) rfl rfl (fun s1 x3 hr=>?_) (fun b2 hr=>?_)
 .unfold y4a at hr;refine rn tk 5 rfl<|wn tk rfl rfl rfl<|rn tk 3 rfl<|ac 10 hr rfl (fun c4 hr=>?_) (fun c4 hr=>?_)
  .refine rn tk 2 rfl<|jb hr (fun j5=>[(0,.l zca.pc a0),(3,.hs 1003 0),(4,.i s1.1)]) (fun j5=>[(1003,.row 60 false 2 (List.map zca.pc j5))]) (fun j5 hr=>?_) (fun j5 hr=>?_)
   .refine rn tk 7 rfl ?_;obtain ⟨v6,h7,hr⟩:=zaa hr;refine wi tk h7 rfl rfl rfl rfl rfl<|rn tk 2 rfl ?_;refine vFa (d:=13) (F:=zca.pc) (l:=s1.2) rfl rfl (hO ?_);obtain ⟨v8,h9,hr⟩:=zaa hr;refine cl (Joa _ _ _ h9) rfl rfl<|rn tk 3 rfl<|ac 20 hr rfl (fun c10 hr=>?_) (fun c10 hr=>?_)
    .refine rn tk 3 rfl ?_;cases hr;exact jn _ rfl rfl rfl
    refine rn tk 6 rfl ?_;obtain ⟨v11,h12,hr⟩:=zaa hr;refine wi tk h12 rfl rfl rfl rfl rfl<|rn tk 14 rfl<|al1 hr (fun s13=>[(0,.l zca.pc a0),(3,.hs 1003 0),(4,.i s1.1),(5,.ptr 5 0),(6,.i s13.1)]) (fun s13=>[(5,.cells [.s v11.Address,.i s13.2]),(1003,.row 60 false 2 (List.map zca.pc s1.2))]) (.exit 2) (fun b14=>[(0,.l zca.pc a0),(3,.hs 1003 0),(4,.i s1.1),(5,.ptr 5 0)]) (fun b14=>[(5,.cells [.s v11.Address,.i b14]),(1003,.row 60 false 2 (List.map zca.pc s1.2))]) rfl rfl (fun s13 x15 hr=>?_) (fun b14 hr=>?_)
    .unfold y3a at hr;refine rn tk 5 rfl<|wn tk rfl rfl rfl<|rn tk 3 rfl<|ac 30 hr rfl (fun c16 hr=>?_) (fun c16 hr=>?_)
     .refine rn tk 2 rfl<|jb hr (fun j17=>[(0,.l zca.pc a0),(3,.hs 1003 0),(4,.i s1.1),(5,.ptr 5 0),(6,.i s13.1)]) (fun j17=>[(5,.cells [.s v11.Address,.i j17]),(1003,.row 60 false 2 (List.map zca.pc s1.2))]) (fun j17 hr=>?_) (fun j17 hr=>?_)
      .refine rn tk 2 rfl ?_;obtain ⟨v18,h19,hr⟩:=zaa hr;refine dr 7 [(39,.s v11.Address),(38,.ptr 5 0),(37,.s v18.Address),(36,.ep [pS v18.Address,pI v18.Notify]),(35,.ep [pS v18.Address,pI v18.Notify]),(34,.i s13.1),(33,.l zca.pc a0)] mixed (by kernel_rfl) rfl rfl (pq tk rfl (.plain rfl) (pq tk rfl (.plain rfl) (.run (.plain rfl) (kfa (qLa (f:=zca.pc) rfl rfl zna zya rfl h19)) (pq tk rfl (.plain rfl) (pq tk rfl (.plain rfl) (pq tk rfl (.plain rfl) (pq tk rfl (.plain rfl) .nil))))))) rfl<|rn tk 3 rfl<|ac 40 hr rfl (fun c20 hr=>?_) (fun c20 hr=>?_)
       .obtain ⟨v21,h22,hr⟩:=zaa hr;refine dr 7 [(47,.i v21.Notify),(46,.ep [pI v21.Notify]),(45,.ep [pS v21.Address,pI v21.Notify]),(44,.i s13.1),(43,.l zca.pc a0),(42,.i s13.2),(41,.ptr 5 1)] mixed (by kernel_rfl) rfl rfl (pq tk rfl (.plain rfl) (pq tk rfl (.plain rfl) (pq tk rfl (.plain rfl) (pq tk rfl (.plain rfl) (.run (.plain rfl) (kfa (qLa (f:=zca.pc) rfl rfl zna zya rfl h22)) (pq tk rfl (.plain rfl) (pq tk rfl (.plain rfl) .nil))))))) rfl ?_;obtain ⟨v23,h24,hr⟩:=zaa hr;refine cl (qIb _ _ _ h24) rfl rfl<|rn tk 4 rfl ?_;cases hr;exact jn _ rfl rfl rfl
       refine rn tk 2 rfl ?_;cases hr;exact jn _ rfl rfl rfl
      refine rn tk 5 rfl ?_;cases hr;exact atc rfl rfl
     refine rn tk 2 rfl ?_;cases hr;exact ato rfl rfl rfl rfl
    refine rn tk 5 rfl<|wz zca.pc ([(zca.mk v11.Address b14)]:List zca) tk rfl rfl (fun _=>rfl) rfl rfl rfl ?_;obtain ⟨v25,h26,hr⟩:=zaa hr;refine wa tk h26 rfl rfl rfl rfl (fun _=>rfl) rfl rfl<|rn tk 3 rfl ?_;cases hr;exact jn _ rfl rfl rfl
   refine rn tk 5 rfl ?_;cases hr;exact atc rfl rfl
  refine rn tk 2 rfl ?_;cases hr;exact ato rfl rfl rfl rfl
 refine rn tk 8 rfl ?_;refine wda (d:=2) (F:=zca.pc) (l:=b2) rfl rfl (hC ?_);refine rn tk 1 rfl ?_;cases hr;exact kr tk (.inr rfl) rfl rfl
theorem JLa(a0:zda)(a1:zoa)(r:zda)(hr:Zda a0 a1=some r):RunS prog 73 [.agg (zA1 a0.S),.agg (zA3 a1)] [(90003010,.row 5 false 1 (List.map cU a0.S.Data)),(90003018,.row 28 false 2 (List.map zka.pc a0.Replies)),(90003019,.row 56 false 5 (List.map zza.pc a0.Mails))] (.agg (zA1 r.S)) [(90003010,.row 5 false 1 (List.map cU r.S.Data)),(90003018,.row 28 false 2 (List.map zka.pc r.Replies)),(90003019,.row 56 false 5 (List.map zza.pc r.Mails))] 90003000 [90003010,90003018,90003019]:=by
 unfold Zda at hr;refine rfS (fn:=f73) (H:=90003999) .any ⟨func73,rfl,by kernel_rfl⟩ rfl (hasT rfl) (.inr ⟨rfl,rfl⟩) rfl rfl rfl rfl fun g0 hg S sg T=>?_
 refine rn tk 5 rfl ?_;refine zua 1004 (o:=4) (j:=9) 5 1 rfl rfl rfl rfl (hO ?_);refine zua 2004 (o:=4) (j:=17) 28 2 rfl rfl rfl rfl (hO ?_);refine zua 3004 (o:=4) (j:=18) 56 5 rfl rfl rfl rfl (hO ?_);refine rn tk 2 rfl<|jk (fun j1=>[(2,.ptr 2 0),(4,.ptr 4 0)]) (fun j1=>[(2,.cells (zA1 j1.S)),(90003010,.row 5 false 1 (List.map cU j1.S.Data)),(90003018,.row 28 false 2 (List.map zka.pc j1.Replies)),(90003019,.row 56 false 5 (List.map zza.pc j1.Mails)),(3004,.row 56 false 5 (List.map zza.pc (([]:List zza)))),(2004,.row 28 false 2 (List.map zka.pc (([]:List zka)))),(1004,.row 5 false 1 (List.map cU (([]:List UInt8)))),(4,.cells [.s (([]:Str)),.i 0,.i 0,.i 0,.bo false,.bo false,.s (([]:Str)),.l zca.pc ([]),.l cU ([]),.hs 1004 0,.i 0,.i 0,.bo false,.i 0,.bo false,.bo false,.i 0,.hs 2004 0,.hs 3004 0]),(90003999,.hold (.any) (T.getD 0 undef))]) (fun j1=>qVa j1=some r) ?_ ?_
 .refine rn tk 13 rfl<|ac 8 hr rfl (fun c4 hr=>?_) (fun c4 hr=>?_)
  .refine rn tk 3 rfl ?_;obtain ⟨v5,h6,hr⟩:=zaa hr;refine wo (zja (k:=11) (qna a0 v5 h6) rfl rfl (zba rfl (zba rfl (zba rfl zfa)))) rfl<|rn tk 11 rfl ?_;obtain ⟨v7,h8,hr⟩:=zaa hr;obtain ⟨v9,h10,hr⟩:=zaa hr;obtain ⟨v11,h12,hr⟩:=zaa hr;obtain ⟨v13,h14,hr⟩:=zaa hr;refine dr 18 [(31,.l zka.pc (([(zka.mk 250 (([v5.S.Name,v9,v13]:List Str)))]:List zka))),(30,.agg [.i 250,.l cS (([v5.S.Name,v9,v13]:List Str))]),(29,.l cS (([v5.S.Name,v9,v13]:List Str))),(28,.s v13),(27,.s v11),(26,.i v5.S.Many),(25,.ptr 2 2),(24,.ptr 2 0),(23,.s v9),(22,.s v7),(21,.i v5.S.Size),(20,.ptr 2 1),(19,.ptr 2 0),(18,.s v5.S.Name),(17,.ptr 2 0),(16,.ptr 2 0),(15,.hs 90003018 0),(14,.ptr 2 17)] mixed (by kernel_rfl) rfl rfl (pq tk rfl (.plain rfl) (pq tk rfl (.plain rfl) (pq tk rfl (.plain rfl) (pq tk rfl (.plain rfl) (pq tk rfl (.plain rfl) (pq tk rfl (.plain rfl) (pq tk rfl (.plain rfl) (pq tk rfl (.plain rfl) (.run (.plain rfl) (k6a (KLa v5.S.Size v7 h8) rfl) (.run (.plain rfl) (kfa (Q4a rfl rfl h10)) (pq tk rfl (.plain rfl) (pq tk rfl (.plain rfl) (pq tk rfl (.plain rfl) (.run (.plain rfl) (k6a (KLa v5.S.Many v11 h12) rfl) (.run (.plain rfl) (kfa (Q4a rfl rfl h14)) (.run (.plain rfl) (vda (F:=cS) (l:=([v5.S.Name,v9,v13]:List Str)) vsa zCa rfl (fun _=>rfl) rfl rfl) (pq tk rfl (.plain rfl) (.run (.plain rfl) (vda (F:=zka.pc) (l:=([(zka.mk 250 (([v5.S.Name,v9,v13]:List Str)))]:List zka)) w9a jAa rfl (fun _=>rfl) rfl rfl) .nil)))))))))))))))))) rfl ?_;obtain ⟨v15,h16,hr⟩:=zaa hr;refine wa tk h16 rfl rfl rfl rfl (fun _=>rfl) rfl rfl<|rn tk 13 rfl ?_;cases hr;exact krS tk (.inr rfl) rfl rfl (zba rfl (zba rfl (zba rfl (zba rfl zfa))))
  refine rn tk 6 rfl<|ac 35 hr rfl (fun c17 hr=>?_) (fun c17 hr=>?_)
  .refine rn tk 1 rfl<|jb hr (fun j18=>[(2,.ptr 2 0),(3,.ptr 3 0),(4,.ptr 4 0),(45,.bo j18)]) (fun j18=>[(3004,.row 56 false 5 (List.map zza.pc (([]:List zza)))),(2004,.row 28 false 2 (List.map zka.pc (([]:List zka)))),(1004,.row 5 false 1 (List.map cU (([]:List UInt8)))),(4,.cells [.s (([]:Str)),.i 0,.i 0,.i 0,.bo false,.bo false,.s (([]:Str)),.l zca.pc ([]),.l cU ([]),.hs 1004 0,.i 0,.i 0,.bo false,.i 0,.bo false,.bo false,.i 0,.hs 2004 0,.hs 3004 0]),(3,.cells (zA3 a1)),(2,.cells (zA1 a0.S)),(90003999,.hold (.any) (T.getD 0 undef)),(90003010,.row 5 false 1 (List.map cU a0.S.Data)),(90003018,.row 28 false 2 (List.map zka.pc a0.Replies)),(90003019,.row 56 false 5 (List.map zza.pc a0.Mails))]) (fun j18 hr=>?_) (fun j18 hr=>?_)
   .refine rn tk 6 rfl<|bs 41 hr rfl (fun c19 hr=>?_) (fun c19 hr=>?_)
    .refine rn tk 5 rfl ?_;cases hr;exact jn _ rfl rfl rfl
    refine rn tk 5 rfl ?_;cases hr;exact jn _ rfl rfl rfl
   refine ac 45 hr rfl (fun c20 hr=>?_) (fun c20 hr=>?_)
   .refine rn tk 3 rfl ?_;obtain ⟨v21,h22,hr⟩:=zaa hr;refine wo (zja (k:=47) (kpa a0 503 (([111,114,100,101,114]:Str)) v21 h22) rfl rfl (zba rfl (zba rfl (zba rfl zfa)))) rfl<|rn tk 7 rfl ?_;cases hr;exact krS tk (.inr rfl) rfl rfl (zba rfl (zba rfl (zba rfl (zba rfl zfa))))
   refine rn tk 13 rfl<|ac 53 hr rfl (fun c23 hr=>?_) (fun c23 hr=>?_)
   .refine rn tk 3 rfl ?_;obtain ⟨v24,h25,hr⟩:=zaa hr;refine wo (zja (k:=55) (kpa a0 552 (([108,97,114,103,101]:Str)) v24 h25) rfl rfl (zba rfl (zba rfl (zba rfl zfa)))) rfl<|rn tk 7 rfl ?_;cases hr;exact krS tk (.inr rfl) rfl rfl (zba rfl (zba rfl (zba rfl (zba rfl zfa))))
   refine rn tk 17 rfl<|jn ((zda.mk ((zha.mk a0.S.Name a0.S.Size a0.S.Many a0.S.Phase a0.S.Greeted true a1.Address a0.S.To a0.S.Buffer a0.S.Data a0.S.Lost a0.S.Dots a0.S.Chunked a0.S.Left a0.S.Last a0.S.Ignore a0.S.Count)) a0.Replies a0.Mails)) hr rfl rfl
  refine rn tk 6 rfl<|ac 62 hr rfl (fun c26 hr=>?_) (fun c26 hr=>?_)
  .refine rn tk 1 rfl<|jb hr (fun j27=>[(2,.ptr 2 0),(3,.ptr 3 0),(4,.ptr 4 0),(72,.bo j27)]) (fun j27=>[(3004,.row 56 false 5 (List.map zza.pc (([]:List zza)))),(2004,.row 28 false 2 (List.map zka.pc (([]:List zka)))),(1004,.row 5 false 1 (List.map cU (([]:List UInt8)))),(4,.cells [.s (([]:Str)),.i 0,.i 0,.i 0,.bo false,.bo false,.s (([]:Str)),.l zca.pc ([]),.l cU ([]),.hs 1004 0,.i 0,.i 0,.bo false,.i 0,.bo false,.bo false,.i 0,.hs 2004 0,.hs 3004 0]),(3,.cells (zA3 a1)),(2,.cells (zA1 a0.S)),(90003999,.hold (.any) (T.getD 0 undef)),(90003010,.row 5 false 1 (List.map cU a0.S.Data)),(90003018,.row 28 false 2 (List.map zka.pc a0.Replies)),(90003019,.row 56 false 5 (List.map zza.pc a0.Mails))]) (fun j27 hr=>?_) (fun j27 hr=>?_)
   .refine rn tk 6 rfl<|bs 68 hr rfl (fun c28 hr=>?_) (fun c28 hr=>?_)
    .refine rn tk 5 rfl ?_;cases hr;exact jn _ rfl rfl rfl
    refine rn tk 5 rfl ?_;cases hr;exact jn _ rfl rfl rfl
   refine ac 72 hr rfl (fun c29 hr=>?_) (fun c29 hr=>?_)
   .refine rn tk 3 rfl ?_;obtain ⟨v30,h31,hr⟩:=zaa hr;refine wo (zja (k:=74) (kpa a0 503 (([111,114,100,101,114]:Str)) v30 h31) rfl rfl (zba rfl (zba rfl (zba rfl zfa)))) rfl<|rn tk 7 rfl ?_;cases hr;exact krS tk (.inr rfl) rfl rfl (zba rfl (zba rfl (zba rfl (zba rfl zfa))))
   refine rn tk 5 rfl ?_;refine kXa 1005 (d:=5) 60 2 rfl rfl rfl (hO ?_);refine rn tk 8 rfl ?_;obtain ⟨v32,h33,hr⟩:=zaa hr;refine wa tk h33 rfl rfl rfl rfl (fun _=>rfl) rfl rfl<|rn tk 11 rfl<|wz zca.pc ([(zca.mk a1.Address a1.Notify)]:List zca) tk rfl rfl (fun _=>rfl) rfl rfl rfl ?_;obtain ⟨v34,h35,hr⟩:=zaa hr;refine wa tk h35 rfl rfl rfl rfl (fun _=>rfl) rfl rfl ?_;refine vFa (d:=87) (F:=zca.pc) (l:=v34) rfl rfl (hO ?_);obtain ⟨v36,h37,hr⟩:=zaa hr;refine cl (qJb _ _ h37) rfl rfl<|rn tk 7 rfl<|wn tk rfl rfl rfl<|rn tk 6 rfl<|ac 94 hr rfl (fun c38 hr=>?_) (fun c38 hr=>?_)
   .refine rn tk 3 rfl ?_;obtain ⟨v39,h40,hr⟩:=zaa hr;refine wo (zja (k:=96) (kpa a0 452 (([109,97,110,121]:Str)) v39 h40) rfl rfl (zba rfl (zba rfl (zba rfl zfa)))) rfl<|rn tk 7 rfl ?_;cases hr;exact krS tk (.inr rfl) rfl rfl (zba rfl (zba rfl (zba rfl (zba rfl zfa))))
   refine rn tk 9 rfl<|jn ((zda.mk ((zha.mk a0.S.Name a0.S.Size a0.S.Many a0.S.Phase a0.S.Greeted a0.S.Mailing a0.S.From v36 a0.S.Buffer a0.S.Data a0.S.Lost a0.S.Dots a0.S.Chunked a0.S.Left a0.S.Last a0.S.Ignore a0.S.Count)) a0.Replies a0.Mails)) hr rfl rfl
  refine rn tk 6 rfl<|ac 100 hr rfl (fun c41 hr=>?_) (fun c41 hr=>?_)
  .refine rn tk 1 rfl<|jb hr (fun j42=>[(2,.ptr 2 0),(4,.ptr 4 0),(111,.bo j42)]) (fun j42=>[(3004,.row 56 false 5 (List.map zza.pc (([]:List zza)))),(2004,.row 28 false 2 (List.map zka.pc (([]:List zka)))),(1004,.row 5 false 1 (List.map cU (([]:List UInt8)))),(4,.cells [.s (([]:Str)),.i 0,.i 0,.i 0,.bo false,.bo false,.s (([]:Str)),.l zca.pc ([]),.l cU ([]),.hs 1004 0,.i 0,.i 0,.bo false,.i 0,.bo false,.bo false,.i 0,.hs 2004 0,.hs 3004 0]),(2,.cells (zA1 a0.S)),(90003999,.hold (.any) (T.getD 0 undef)),(90003010,.row 5 false 1 (List.map cU a0.S.Data)),(90003018,.row 28 false 2 (List.map zka.pc a0.Replies)),(90003019,.row 56 false 5 (List.map zza.pc a0.Mails))]) (fun j42 hr=>?_) (fun j42 hr=>?_)
   .refine rn tk 4 rfl<|wn tk rfl rfl rfl<|rn tk 2 rfl<|bs 107 hr rfl (fun c43 hr=>?_) (fun c43 hr=>?_)
    .refine rn tk 5 rfl ?_;cases hr;exact jn _ rfl rfl rfl
    refine rn tk 5 rfl ?_;cases hr;exact jn _ rfl rfl rfl
   refine ac 111 hr rfl (fun c44 hr=>?_) (fun c44 hr=>?_)
   .refine rn tk 3 rfl ?_;obtain ⟨v45,h46,hr⟩:=zaa hr;refine wo (zja (k:=113) (kpa a0 503 (([111,114,100,101,114]:Str)) v45 h46) rfl rfl (zba rfl (zba rfl (zba rfl zfa)))) rfl<|rn tk 7 rfl ?_;cases hr;exact krS tk (.inr rfl) rfl rfl (zba rfl (zba rfl (zba rfl (zba rfl zfa))))
   refine rn tk 19 rfl ?_;obtain ⟨v47,h48,hr⟩:=zaa hr;refine wo (zja (k:=119) (kpa ((zda.mk ((zha.mk a0.S.Name a0.S.Size a0.S.Many 1 a0.S.Greeted a0.S.Mailing a0.S.From a0.S.To a0.S.Buffer a0.S.Data a0.S.Lost 0 a0.S.Chunked a0.S.Left a0.S.Last a0.S.Ignore a0.S.Count)) a0.Replies a0.Mails)) 354 (([103,111,32,111,110]:Str)) v47 h48) rfl rfl (zba rfl (zba rfl (zba rfl zfa)))) rfl<|rn tk 6 rfl ?_;cases hr;exact krS tk (.inr rfl) rfl rfl (zba rfl (zba rfl (zba rfl (zba rfl zfa))))
  refine rn tk 6 rfl<|ac 120 hr rfl (fun c49 hr=>?_) (fun c49 hr=>?_)
  .refine rn tk 30 rfl<|wn tk rfl rfl rfl<|rn tk 6 rfl<|jb hr (fun j50=>[(2,.ptr 2 0),(3,.ptr 3 0),(4,.ptr 4 0)]) (fun j50=>[(2,.cells (zA1 j50.S)),(90003010,.row 5 false 1 (List.map cU j50.S.Data)),(90003018,.row 28 false 2 (List.map zka.pc j50.Replies)),(90003019,.row 56 false 5 (List.map zza.pc j50.Mails)),(3004,.row 56 false 5 (List.map zza.pc (([]:List zza)))),(2004,.row 28 false 2 (List.map zka.pc (([]:List zka)))),(1004,.row 5 false 1 (List.map cU (([]:List UInt8)))),(4,.cells [.s (([]:Str)),.i 0,.i 0,.i 0,.bo false,.bo false,.s (([]:Str)),.l zca.pc ([]),.l cU ([]),.hs 1004 0,.i 0,.i 0,.bo false,.i 0,.bo false,.bo false,.i 0,.hs 2004 0,.hs 3004 0]),(3,.cells (zA3 a1)),(90003999,.hold (.any) (T.getD 0 undef))]) (fun j50 hr=>?_) (fun j50 hr=>?_)
   .refine rn tk 8 rfl<|ac 142 hr rfl (fun c51 hr=>?_) (fun c51 hr=>?_)
    .refine rn tk 5 rfl ?_;cases hr;exact jn _ rfl rfl rfl
    refine rn tk 1 rfl ?_;cases hr;exact jn _ rfl rfl rfl
   refine rn tk 8 rfl<|ac 147 hr rfl (fun c52 hr=>?_) (fun c52 hr=>?_)
   .refine rn tk 3 rfl ?_;obtain ⟨v53,h54,hr⟩:=zaa hr;refine wo (zja (k:=149) (KOa j50 v53 h54) rfl rfl (zba rfl (zba rfl (zba rfl zfa)))) rfl<|rn tk 7 rfl ?_;cases hr;exact krS tk (.inr rfl) rfl rfl (zba rfl (zba rfl (zba rfl (zba rfl zfa))))
   refine rn tk 11 rfl ?_;cases hr;exact krS tk (.inr rfl) rfl rfl (zba rfl (zba rfl (zba rfl (zba rfl zfa))))
  refine rn tk 6 rfl<|ac 151 hr rfl (fun c55 hr=>?_) (fun c55 hr=>?_)
  .refine rn tk 2 rfl ?_;obtain ⟨v56,h57,hr⟩:=zaa hr;refine wo (zja (k:=154) (qna a0 v56 h57) rfl rfl (zba rfl (zba rfl (zba rfl zfa)))) rfl<|rn tk 3 rfl<|jn v56 hr rfl rfl
  refine rn tk 6 rfl<|ac 155 hr rfl (fun c58 hr=>?_) (fun c58 hr=>?_)
  .refine rn tk 3 rfl ?_;obtain ⟨v59,h60,hr⟩:=zaa hr;refine wo (zja (k:=158) (qna a0 v59 h60) rfl rfl (zba rfl (zba rfl (zba rfl zfa)))) rfl<|rn tk 13 rfl ?_;obtain ⟨v61,h62,hr⟩:=zaa hr;refine wo (zja (k:=162) (kpa ((zda.mk ((zha.mk v59.S.Name v59.S.Size v59.S.Many 3 v59.S.Greeted v59.S.Mailing v59.S.From v59.S.To v59.S.Buffer v59.S.Data v59.S.Lost v59.S.Dots v59.S.Chunked v59.S.Left v59.S.Last v59.S.Ignore v59.S.Count)) v59.Replies v59.Mails)) 221 (([98,121,101]:Str)) v61 h62) rfl rfl (zba rfl (zba rfl (zba rfl zfa)))) rfl<|rn tk 6 rfl ?_;cases hr;exact krS tk (.inr rfl) rfl rfl (zba rfl (zba rfl (zba rfl (zba rfl zfa))))
  refine rn tk 2 rfl<|jn a0 hr rfl rfl
 intro j1 hr;unfold qVa at hr;refine rn tk 3 rfl ?_;obtain ⟨v2,h3,hr⟩:=zaa hr;refine wo (zja (k:=164) (kpa j1 250 (([111,107]:Str)) v2 h3) rfl rfl (zba rfl (zba rfl (zba rfl zfa)))) rfl<|rn tk 4 rfl ?_;cases hr;exact krS tk (.inr rfl) rfl rfl (zba rfl (zba rfl (zba rfl (zba rfl zfa))))
theorem WAa(a0:Str)(r:Int)(hr:KUa a0=some r):Run prog 107 [.s a0] (.i r):=by
 unfold KUa at hr;refine rf (fn:=f107) ⟨func107,rfl,by kernel_rfl⟩ rfl (fun _=>rfl) fun g0 hg=>?_
 refine rn tk 6 rfl<|jb hr (fun j1=>[(0,.s a0),(18,.bo j1)]) (fun j1=>[]) (fun j1 hr=>?_) (fun j1 hr=>?_)
 .refine rn tk 3 rfl ?_;obtain ⟨v2,h3,hr⟩:=zaa hr;refine cl (z8a _ _ _ _ h3) rfl rfl<|rn tk 2 rfl<|bs 9 hr rfl (fun c4 hr=>?_) (fun c4 hr=>?_)
  .refine rn tk 10 rfl ?_;cases hr;exact jn _ rfl rfl rfl
  refine rn tk 4 rfl<|bs 13 hr rfl (fun c5 hr=>?_) (fun c5 hr=>?_)
  .refine rn tk 1 rfl ?_;obtain ⟨v6,h7,hr⟩:=zaa hr;refine ug rfl rfl rfl<|ws tk h7 rfl rfl rfl rfl<|rn tk 4 rfl ?_;cases hr;exact jn _ rfl rfl rfl
  refine rn tk 6 rfl ?_;cases hr;exact jn _ rfl rfl rfl
 refine ac 18 hr rfl (fun c8 hr=>?_) (fun c8 hr=>?_)
 .refine rn tk 7 rfl ?_;cases hr;exact kr tk (.inr rfl) rfl rfl
 refine rn tk 14 rfl<|al2 hr (fun s9=>[(0,.s a0),(3,.i s9.1),(4,.i s9.2)]) (fun s9=>[]) (.exit 0) (fun b10=>[(3,.i b10)]) (fun b10=>[]) .ret (fun b11=>[(2,.i b11)]) (fun b11=>[]) rfl rfl (fun s9 x13 hr=>?_) (fun b10 hr=>?_) (fun b11 hr=>?_)
 .unfold wga at hr;refine rn tk 9 rfl<|ac 22 hr rfl (fun c14 hr=>?_) (fun c14 hr=>?_)
  .refine rn tk 9 rfl ?_;obtain ⟨v15,h16,hr⟩:=zaa hr;refine ws tk h16 rfl rfl rfl rfl<|wu tk rfl rfl rfl ?_;obtain ⟨v17,h18,hr⟩:=zaa hr;refine cl (z8a _ _ _ _ h18) rfl rfl<|rn tk 3 rfl<|ac 30 hr rfl (fun c19 hr=>?_) (fun c19 hr=>?_)
   .refine rn tk 9 rfl ?_;cases hr;exact ato rfl rfl rfl rfl
   refine rn tk 7 rfl ?_;obtain ⟨v20,h21,hr⟩:=zaa hr;refine ws tk h21 rfl rfl rfl rfl<|wq (v7b (a:=v20) (b:=(48:UInt8)) rfl rfl) rfl rfl rfl<|wu tk rfl rfl rfl<|rn tk 10 rfl ?_;cases hr;exact atc rfl rfl
  refine rn tk 2 rfl ?_;cases hr;exact ato rfl rfl rfl rfl
 .refine rn tk 9 rfl ?_;cases hr;exact kr tk (.inr rfl) rfl rfl
 refine rn tk 2 rfl ?_;cases hr;exact kr tk (.inr rfl) rfl rfl
theorem JMa(a0:Str)(r:Bool)(hr:j5a a0=some r):Run prog 103 [.s a0] (.bo r):=by
 unfold j5a at hr;refine rf (fn:=Tryz.f103) ⟨func103,rfl,by kernel_rfl⟩ rfl (fun _=>rfl) fun g0 hg=>?_
 refine rn tk 12 rfl<|al2 hr (fun s1=>[(0,.s a0),(3,.i s1)]) (fun s1=>[]) (.exit 0) (fun b2=>[(0,.s a0)]) (fun b2=>[]) .ret (fun b3=>[(2,.bo b3)]) (fun b3=>[]) rfl rfl (fun s1 x5 hr=>?_) (fun b2 hr=>?_) (fun b3 hr=>?_)
 .unfold qQa at hr;refine rn tk 9 rfl<|ac 8 hr rfl (fun c6 hr=>?_) (fun c6 hr=>?_)
  .refine rn tk 8 rfl ?_;obtain ⟨v7,h8,hr⟩:=zaa hr;refine ws tk h8 rfl rfl rfl rfl<|wu tk rfl rfl rfl<|rn tk 4 rfl<|jb hr (fun j9=>[(0,.s a0),(3,.i s1),(4,.i ((v7.toNat:Int))),(36,.bo j9)]) (fun j9=>[]) (fun j9 hr=>?_) (fun j9 hr=>?_)
   .refine rn tk 3 rfl ?_;obtain ⟨v10,h11,hr⟩:=zaa hr;refine ws tk h11 rfl rfl rfl rfl<|rn tk 2 rfl<|bs 19 hr rfl (fun c12 hr=>?_) (fun c12 hr=>?_)
    .refine rn tk 3 rfl<|bs 22 hr rfl (fun c13 hr=>?_) (fun c13 hr=>?_)
     .refine rn tk 15 rfl ?_;cases hr;exact jn _ rfl rfl rfl
     refine rn tk 7 rfl<|bs 29 hr rfl (fun c14 hr=>?_) (fun c14 hr=>?_)
     .refine rn tk 8 rfl ?_;cases hr;exact jn _ rfl rfl rfl
     refine rn tk 3 rfl ?_;obtain ⟨v15,h16,hr⟩:=zaa hr;refine ug rfl rfl rfl<|ws tk h16 rfl rfl rfl rfl<|rn tk 4 rfl ?_;cases hr;exact jn _ rfl rfl rfl
    refine rn tk 18 rfl ?_;cases hr;exact jn _ rfl rfl rfl
   refine ac 36 hr rfl (fun c17 hr=>?_) (fun c17 hr=>?_)
   .refine rn tk 9 rfl ?_;cases hr;exact ato rfl rfl rfl rfl
   refine rn tk 2 rfl<|jb hr (fun j18=>[(0,.s a0),(3,.i s1),(56,.bo j18)]) (fun j18=>[]) (fun j18 hr=>?_) (fun j18 hr=>?_)
   .refine rn tk 2 rfl ?_;obtain ⟨v19,h20,hr⟩:=zaa hr;refine cl (z8a _ _ _ _ h20) rfl rfl<|rn tk 2 rfl<|bs 40 hr rfl (fun c21 hr=>?_) (fun c21 hr=>?_)
    .refine rn tk 1 rfl ?_;obtain ⟨v22,h23,hr⟩:=zaa hr;refine ug rfl rfl rfl<|cl (z8a _ _ _ _ h23) rfl rfl<|rn tk 3 rfl<|bs 45 hr rfl (fun c24 hr=>?_) (fun c24 hr=>?_)
     .refine rn tk 2 rfl ?_;obtain ⟨v25,h26,hr⟩:=zaa hr;refine ug rfl rfl rfl<|ws tk h26 rfl rfl rfl rfl<|rn tk 3 rfl<|bs 51 hr rfl (fun c27 hr=>?_) (fun c27 hr=>?_)
      .refine rn tk 2 rfl ?_;obtain ⟨v28,h29,hr⟩:=zaa hr;refine ug rfl rfl rfl<|ws tk h29 rfl rfl rfl rfl<|rn tk 3 rfl ?_;cases hr;exact jn _ rfl rfl rfl
      refine rn tk 6 rfl ?_;cases hr;exact jn _ rfl rfl rfl
     refine rn tk 12 rfl ?_;cases hr;exact jn _ rfl rfl rfl
    refine rn tk 17 rfl ?_;cases hr;exact jn _ rfl rfl rfl
   refine ac 56 hr rfl (fun c30 hr=>?_) (fun c30 hr=>?_)
   .refine rn tk 8 rfl ?_;cases hr;exact ato rfl rfl rfl rfl
   refine rn tk 8 rfl ?_;cases hr;exact atc rfl rfl
  refine rn tk 2 rfl ?_;cases hr;exact ato rfl rfl rfl rfl
 .refine rn tk 6 rfl ?_;obtain ⟨v31,h32,hr⟩:=zaa hr;refine cl (z8a _ _ _ _ h32) rfl rfl<|rn tk 4 rfl ?_;cases hr;exact kr tk (.inr rfl) rfl rfl
 refine rn tk 2 rfl ?_;cases hr;exact kr tk (.inr rfl) rfl rfl
theorem jva(a0:UInt8)(r:Bool)(hr:qwa a0=some r):Run prog 85 [.u8 a0] (.bo r):=by
 unfold qwa at hr;refine rf (fn:=f85) ⟨func85,rfl,by kernel_rfl⟩ rfl (fun _=>rfl) fun g0 hg=>?_
 refine rn tk 8 rfl<|wu tk rfl rfl rfl<|rn tk 3 rfl<|jb hr (fun j1=>[(2,.bo j1)]) (fun j1=>[]) (fun j1 hr=>?_) (fun j1 hr=>?_)
 .refine rn tk 2 rfl ?_;obtain ⟨v2,h3,hr⟩:=zaa hr;refine cl (z8a _ _ _ _ h3) rfl rfl<|rn tk 1 rfl<|bs 8 hr rfl (fun c4 hr=>?_) (fun c4 hr=>?_)
  .refine rn tk 9 rfl ?_;cases hr;exact jn _ rfl rfl rfl
  refine rn tk 1 rfl ?_;obtain ⟨v5,h6,hr⟩:=zaa hr;refine ug rfl rfl rfl<|cl (z8a _ _ _ _ h6) rfl rfl<|rn tk 2 rfl<|bs 12 hr rfl (fun c7 hr=>?_) (fun c7 hr=>?_)
  .refine rn tk 5 rfl ?_;cases hr;exact jn _ rfl rfl rfl
  refine rn tk 1 rfl ?_;obtain ⟨v8,h9,hr⟩:=zaa hr;refine ug rfl rfl rfl<|cl (z8a _ _ _ _ h9) rfl rfl<|rn tk 3 rfl ?_;cases hr;exact jn _ rfl rfl rfl
 refine rn tk 1 rfl ?_;cases hr;exact kr tk (.inr rfl) rfl rfl
theorem yFb(a0:Str)(r:Int)(hr:kSb a0=some r):Run prog 102 [.s a0] (.i r):=by
 unfold kSb at hr;refine rf (fn:=f102) ⟨func102,rfl,by kernel_rfl⟩ rfl (fun _=>rfl) fun g0 hg=>?_
 refine rn tk 12 rfl<|al2 hr (fun s1=>[(0,.s a0),(3,.i s1)]) (fun s1=>[]) (.exit 0) (fun b2=>[(0,.s a0)]) (fun b2=>[]) .ret (fun b3=>[(2,.i b3)]) (fun b3=>[]) rfl rfl (fun s1 x5 hr=>?_) (fun b2 hr=>?_) (fun b3 hr=>?_)
 .unfold Vba at hr;refine rn tk 9 rfl<|ac 7 hr rfl (fun c6 hr=>?_) (fun c6 hr=>?_)
  .refine rn tk 8 rfl ?_;obtain ⟨v7,h8,hr⟩:=zaa hr;refine ws tk h8 rfl rfl rfl rfl<|rn tk 3 rfl<|ac 13 hr rfl (fun c9 hr=>?_) (fun c9 hr=>?_)
   .refine rn tk 9 rfl ?_;cases hr;exact ato rfl rfl rfl rfl
   refine rn tk 8 rfl ?_;cases hr;exact atc rfl rfl
  refine rn tk 2 rfl ?_;cases hr;exact ato rfl rfl rfl rfl
 .refine rn tk 10 rfl ?_;cases hr;exact kr tk (.inr rfl) rfl rfl
 refine rn tk 2 rfl ?_;cases hr;exact kr tk (.inr rfl) rfl rfl
theorem qJa(a0:Str)(r:Bool)(hr:qia a0=some r):Run prog 69 [.s a0] (.bo r):=by
 unfold qia at hr;refine rf (fn:=f69) ⟨func69,rfl,by kernel_rfl⟩ rfl (fun _=>rfl) fun g0 hg=>?_
 refine rn tk 8 rfl ?_;obtain ⟨v1,h2,hr⟩:=zaa hr;refine cl (yFb _ _ h2) rfl rfl<|rn tk 10 rfl<|al2 hr (fun s3=>[(0,.s a0),(3,.i v1),(4,.i s3)]) (fun s3=>[]) (.exit 0) (fun b4=>[(0,.s a0),(3,.i v1)]) (fun b4=>[]) .ret (fun b5=>[(2,.bo b5)]) (fun b5=>[]) rfl rfl (fun s3 x7 hr=>?_) (fun b4 hr=>?_) (fun b5 hr=>?_)
 .unfold vOa at hr;refine rn tk 8 rfl<|ac 10 hr rfl (fun c8 hr=>?_) (fun c8 hr=>?_)
  .refine rn tk 8 rfl ?_;obtain ⟨v9,h10,hr⟩:=zaa hr;refine ws tk h10 rfl rfl rfl rfl<|rn tk 3 rfl<|jb hr (fun j11=>[(0,.s a0),(3,.i v1),(4,.i s3),(38,.bo j11)]) (fun j11=>[]) (fun j11 hr=>?_) (fun j11 hr=>?_)
   .refine rn tk 2 rfl ?_;obtain ⟨v12,h13,hr⟩:=zaa hr;refine cl (jva _ _ h13) rfl rfl<|rn tk 2 rfl<|bs 19 hr rfl (fun c14 hr=>?_) (fun c14 hr=>?_)
    .refine rn tk 4 rfl<|bs 23 hr rfl (fun c15 hr=>?_) (fun c15 hr=>?_)
     .refine rn tk 4 rfl<|bs 27 hr rfl (fun c16 hr=>?_) (fun c16 hr=>?_)
      .refine rn tk 4 rfl<|bs 31 hr rfl (fun c17 hr=>?_) (fun c17 hr=>?_)
       .refine rn tk 4 rfl<|bs 35 hr rfl (fun c18 hr=>?_) (fun c18 hr=>?_)
        .refine rn tk 4 rfl ?_;cases hr;exact jn _ rfl rfl rfl
        refine rn tk 4 rfl ?_;cases hr;exact jn _ rfl rfl rfl
       refine rn tk 8 rfl ?_;cases hr;exact jn _ rfl rfl rfl
      refine rn tk 12 rfl ?_;cases hr;exact jn _ rfl rfl rfl
     refine rn tk 16 rfl ?_;cases hr;exact jn _ rfl rfl rfl
    refine rn tk 20 rfl ?_;cases hr;exact jn _ rfl rfl rfl
   refine ac 38 hr rfl (fun c19 hr=>?_) (fun c19 hr=>?_)
   .refine rn tk 8 rfl ?_;cases hr;exact ato rfl rfl rfl rfl
   refine rn tk 8 rfl ?_;cases hr;exact atc rfl rfl
  refine rn tk 2 rfl ?_;cases hr;exact ato rfl rfl rfl rfl
 .refine rn tk 2 rfl<|jb hr (fun j20=>[(2,.bo j20)]) (fun j20=>[]) (fun j20 hr=>?_) (fun j20 hr=>?_)
  .refine rn tk 2 rfl ?_;obtain ⟨v21,h22,hr⟩:=zaa hr;refine cl (z8a _ _ _ _ h22) rfl rfl<|rn tk 1 rfl<|bs 41 hr rfl (fun c23 hr=>?_) (fun c23 hr=>?_)
   .refine rn tk 6 rfl<|bs 47 hr rfl (fun c24 hr=>?_) (fun c24 hr=>?_)
    .refine rn tk 3 rfl ?_;obtain ⟨v25,h26,hr⟩:=zaa hr;refine ug rfl rfl rfl<|wscL tk h26 rfl rfl rfl rfl ?_;obtain ⟨v27,h28,hr⟩:=zaa hr;refine ug rfl rfl rfl<|cl (JMa _ _ h28) rfl rfl<|rn tk 3 rfl ?_;cases hr;exact jn _ rfl rfl rfl
    refine rn tk 8 rfl ?_;cases hr;exact jn _ rfl rfl rfl
   refine rn tk 14 rfl ?_;cases hr;exact jn _ rfl rfl rfl
  refine rn tk 1 rfl ?_;cases hr;exact kr tk (.inr rfl) rfl rfl
 refine rn tk 2 rfl ?_;cases hr;exact kr tk (.inr rfl) rfl rfl
theorem KPa(a0:Str)(r:Bool)(hr:ZBa a0=some r):Run prog 57 [.s a0] (.bo r):=by
 unfold ZBa at hr;refine rf (fn:=f57) ⟨func57,rfl,by kernel_rfl⟩ rfl (fun _=>rfl) fun g0 hg=>?_
 refine rn tk 12 rfl<|al2 hr (fun s1=>[(0,.s a0),(3,.i s1)]) (fun s1=>[]) (.exit 0) (fun b2=>[(0,.s a0)]) (fun b2=>[]) .ret (fun b3=>[(2,.bo b3)]) (fun b3=>[]) rfl rfl (fun s1 x5 hr=>?_) (fun b2 hr=>?_) (fun b3 hr=>?_)
 .unfold ZAa at hr;refine rn tk 9 rfl<|ac 7 hr rfl (fun c6 hr=>?_) (fun c6 hr=>?_)
  .refine rn tk 4 rfl<|jb hr (fun j7=>[(0,.s a0),(3,.i s1),(32,.bo j7)]) (fun j7=>[]) (fun j7 hr=>?_) (fun j7 hr=>?_)
   .refine rn tk 3 rfl ?_;obtain ⟨v8,h9,hr⟩:=zaa hr;refine ws tk h9 rfl rfl rfl rfl ?_;obtain ⟨v10,h11,hr⟩:=zaa hr;refine cl (jva _ _ h11) rfl rfl<|rn tk 2 rfl<|bs 15 hr rfl (fun c12 hr=>?_) (fun c12 hr=>?_)
    .refine rn tk 2 rfl ?_;obtain ⟨v13,h14,hr⟩:=zaa hr;refine ug rfl rfl rfl<|ws tk h14 rfl rfl rfl rfl<|rn tk 3 rfl<|bs 21 hr rfl (fun c15 hr=>?_) (fun c15 hr=>?_)
     .refine rn tk 2 rfl ?_;obtain ⟨v16,h17,hr⟩:=zaa hr;refine ug rfl rfl rfl<|ws tk h17 rfl rfl rfl rfl<|rn tk 3 rfl<|bs 27 hr rfl (fun c18 hr=>?_) (fun c18 hr=>?_)
      .refine rn tk 2 rfl ?_;obtain ⟨v19,h20,hr⟩:=zaa hr;refine ug rfl rfl rfl<|ws tk h20 rfl rfl rfl rfl<|rn tk 3 rfl ?_;cases hr;exact jn _ rfl rfl rfl
      refine rn tk 6 rfl ?_;cases hr;exact jn _ rfl rfl rfl
     refine rn tk 12 rfl ?_;cases hr;exact jn _ rfl rfl rfl
    refine rn tk 18 rfl ?_;cases hr;exact jn _ rfl rfl rfl
   refine ac 32 hr rfl (fun c21 hr=>?_) (fun c21 hr=>?_)
   .refine rn tk 8 rfl ?_;cases hr;exact ato rfl rfl rfl rfl
   refine rn tk 8 rfl ?_;cases hr;exact atc rfl rfl
  refine rn tk 2 rfl ?_;cases hr;exact ato rfl rfl rfl rfl
 .refine rn tk 6 rfl ?_;obtain ⟨v22,h23,hr⟩:=zaa hr;refine cl (z8a _ _ _ _ h23) rfl rfl<|rn tk 4 rfl ?_;cases hr;exact kr tk (.inr rfl) rfl rfl
 refine rn tk 2 rfl ?_;cases hr;exact kr tk (.inr rfl) rfl rfl
theorem VDa(a0:zoa)(r:zta)(hr:vYa a0=some r):Run prog 109 [.agg (zA3 a0)] (.agg [.i r.Code,.i r.Index]):=by
 unfold vYa at hr;refine rf (fn:=f109) ⟨func109,rfl,by kernel_rfl⟩ rfl (fun _=>rfl) fun g0 hg=>?_
 refine rn tk 17 rfl ?_;obtain ⟨v1,h2,hr⟩:=zaa hr;refine cl (z8a _ _ _ _ h2) rfl rfl<|rn tk 3 rfl<|ac 8 hr rfl (fun c3 hr=>?_) (fun c3 hr=>?_)
 .refine rn tk 2 rfl ?_;obtain ⟨v4,h5,hr⟩:=zaa hr;refine cl (z7a _ _ _ h5) rfl rfl<|rn tk 5 rfl ?_;cases hr;exact kr tk (.inr rfl) rfl rfl
 refine rn tk 3 rfl<|jb hr (fun j6=>[(1,.ptr 1 0),(2,.ptr 2 0),(3,.i a0.Verb),(59,.bo j6)]) (fun j6=>[(2,.cells [.i 0,.i 0]),(1,.cells (zA3 a0))]) (fun j6 hr=>?_) (fun j6 hr=>?_)
 .refine rn tk 4 rfl<|bs 12 hr rfl (fun c7 hr=>?_) (fun c7 hr=>?_)
  .refine rn tk 5 rfl<|bs 17 hr rfl (fun c8 hr=>?_) (fun c8 hr=>?_)
   .refine rn tk 43 rfl ?_;cases hr;exact jn _ rfl rfl rfl
   refine rn tk 3 rfl<|bs 20 hr rfl (fun c9 hr=>?_) (fun c9 hr=>?_)
   .refine rn tk 4 rfl<|bs 24 hr rfl (fun c10 hr=>?_) (fun c10 hr=>?_)
    .refine rn tk 6 rfl<|bs 30 hr rfl (fun c11 hr=>?_) (fun c11 hr=>?_)
     .refine rn tk 30 rfl ?_;cases hr;exact jn _ rfl rfl rfl
     refine rn tk 3 rfl<|kn 33 c9 rfl<|rn tk 4 rfl<|bs 37 hr rfl (fun c12 hr=>?_) (fun c12 hr=>?_)
     .refine rn tk 6 rfl<|bs 43 hr rfl (fun c13 hr=>?_) (fun c13 hr=>?_)
      .refine rn tk 17 rfl ?_;cases hr;exact jn _ rfl rfl rfl
      refine rn tk 3 rfl<|kn 46 c10 rfl<|rn tk 6 rfl<|bs 52 hr rfl (fun c14 hr=>?_) (fun c14 hr=>?_)
      .refine rn tk 8 rfl ?_;cases hr;exact jn _ rfl rfl rfl
      refine rn tk 3 rfl<|kn 55 c12 rfl<|rn tk 5 rfl ?_;cases hr;exact jn _ rfl rfl rfl
     refine rn tk 9 rfl<|kn 46 c10 rfl<|rn tk 6 rfl<|bs 52 hr rfl (fun c15 hr=>?_) (fun c15 hr=>?_)
     .refine rn tk 8 rfl ?_;cases hr;exact jn _ rfl rfl rfl
     refine rn tk 3 rfl<|kn 55 c12 rfl<|rn tk 5 rfl ?_;cases hr;exact jn _ rfl rfl rfl
    refine rn tk 9 rfl<|kn 33 c9 rfl<|rn tk 4 rfl<|bs 37 hr rfl (fun c16 hr=>?_) (fun c16 hr=>?_)
    .refine rn tk 6 rfl<|bs 43 hr rfl (fun c17 hr=>?_) (fun c17 hr=>?_)
     .refine rn tk 17 rfl ?_;cases hr;exact jn _ rfl rfl rfl
     refine rn tk 3 rfl<|kn 46 c10 rfl<|rn tk 9 rfl<|kn 55 c16 rfl<|rn tk 5 rfl ?_;cases hr;exact jn _ rfl rfl rfl
    refine rn tk 9 rfl<|kn 46 c10 rfl<|rn tk 9 rfl<|kn 55 c16 rfl<|rn tk 5 rfl ?_;cases hr;exact jn _ rfl rfl rfl
   refine rn tk 13 rfl<|kn 33 c9 rfl<|rn tk 13 rfl<|bs 46 hr rfl (fun c18 hr=>?_) (fun c18 hr=>?_)
   .refine rn tk 6 rfl<|bs 52 hr rfl (fun c19 hr=>?_) (fun c19 hr=>?_)
    .refine rn tk 8 rfl ?_;cases hr;exact jn _ rfl rfl rfl
    refine rn tk 3 rfl<|bs 55 hr rfl (fun c20 hr=>?_) (fun c20 hr=>?_)
    .refine rn tk 5 rfl ?_;cases hr;exact jn _ rfl rfl rfl
    refine rn tk 5 rfl ?_;cases hr;exact jn _ rfl rfl rfl
   refine rn tk 9 rfl<|bs 55 hr rfl (fun c21 hr=>?_) (fun c21 hr=>?_)
   .refine rn tk 5 rfl ?_;cases hr;exact jn _ rfl rfl rfl
   refine rn tk 5 rfl ?_;cases hr;exact jn _ rfl rfl rfl
  refine rn tk 8 rfl<|bs 20 hr rfl (fun c22 hr=>?_) (fun c22 hr=>?_)
  .refine rn tk 4 rfl<|bs 24 hr rfl (fun c23 hr=>?_) (fun c23 hr=>?_)
   .refine rn tk 6 rfl<|bs 30 hr rfl (fun c24 hr=>?_) (fun c24 hr=>?_)
    .refine rn tk 30 rfl ?_;cases hr;exact jn _ rfl rfl rfl
    refine rn tk 3 rfl<|kn 33 c22 rfl<|rn tk 4 rfl<|bs 37 hr rfl (fun c25 hr=>?_) (fun c25 hr=>?_)
    .refine rn tk 6 rfl<|bs 43 hr rfl (fun c26 hr=>?_) (fun c26 hr=>?_)
     .refine rn tk 17 rfl ?_;cases hr;exact jn _ rfl rfl rfl
     refine rn tk 3 rfl<|kn 46 c23 rfl<|rn tk 6 rfl<|bs 52 hr rfl (fun c27 hr=>?_) (fun c27 hr=>?_)
     .refine rn tk 8 rfl ?_;cases hr;exact jn _ rfl rfl rfl
     refine rn tk 3 rfl<|kn 55 c25 rfl<|rn tk 5 rfl ?_;cases hr;exact jn _ rfl rfl rfl
    refine rn tk 9 rfl<|kn 46 c23 rfl<|rn tk 6 rfl<|bs 52 hr rfl (fun c28 hr=>?_) (fun c28 hr=>?_)
    .refine rn tk 8 rfl ?_;cases hr;exact jn _ rfl rfl rfl
    refine rn tk 3 rfl<|kn 55 c25 rfl<|rn tk 5 rfl ?_;cases hr;exact jn _ rfl rfl rfl
   refine rn tk 9 rfl<|kn 33 c22 rfl<|rn tk 4 rfl<|bs 37 hr rfl (fun c29 hr=>?_) (fun c29 hr=>?_)
   .refine rn tk 6 rfl<|bs 43 hr rfl (fun c30 hr=>?_) (fun c30 hr=>?_)
    .refine rn tk 17 rfl ?_;cases hr;exact jn _ rfl rfl rfl
    refine rn tk 3 rfl<|kn 46 c23 rfl<|rn tk 9 rfl<|kn 55 c29 rfl<|rn tk 5 rfl ?_;cases hr;exact jn _ rfl rfl rfl
   refine rn tk 9 rfl<|kn 46 c23 rfl<|rn tk 9 rfl<|kn 55 c29 rfl<|rn tk 5 rfl ?_;cases hr;exact jn _ rfl rfl rfl
  refine rn tk 13 rfl<|kn 33 c22 rfl<|rn tk 13 rfl<|bs 46 hr rfl (fun c31 hr=>?_) (fun c31 hr=>?_)
  .refine rn tk 6 rfl<|bs 52 hr rfl (fun c32 hr=>?_) (fun c32 hr=>?_)
   .refine rn tk 8 rfl ?_;cases hr;exact jn _ rfl rfl rfl
   refine rn tk 3 rfl<|bs 55 hr rfl (fun c33 hr=>?_) (fun c33 hr=>?_)
   .refine rn tk 5 rfl ?_;cases hr;exact jn _ rfl rfl rfl
   refine rn tk 5 rfl ?_;cases hr;exact jn _ rfl rfl rfl
  refine rn tk 9 rfl<|bs 55 hr rfl (fun c34 hr=>?_) (fun c34 hr=>?_)
  .refine rn tk 5 rfl ?_;cases hr;exact jn _ rfl rfl rfl
  refine rn tk 5 rfl ?_;cases hr;exact jn _ rfl rfl rfl
 refine ac 59 hr rfl (fun c35 hr=>?_) (fun c35 hr=>?_)
 .refine rn tk 2 rfl ?_;obtain ⟨v36,h37,hr⟩:=zaa hr;refine cl (z7a _ _ _ h37) rfl rfl<|rn tk 5 rfl ?_;cases hr;exact kr tk (.inr rfl) rfl rfl
 refine rn tk 3 rfl<|jb hr (fun j38=>[(1,.ptr 1 0),(2,.ptr 2 0),(3,.i a0.Verb),(68,.bo j38)]) (fun j38=>[(2,.cells [.i 0,.i 0]),(1,.cells (zA3 a0))]) (fun j38 hr=>?_) (fun j38 hr=>?_)
 .refine rn tk 4 rfl<|bs 63 hr rfl (fun c39 hr=>?_) (fun c39 hr=>?_)
  .refine rn tk 2 rfl ?_;obtain ⟨v40,h41,hr⟩:=zaa hr;refine ug rfl rfl rfl<|cl (KPa _ _ h41) rfl rfl<|rn tk 3 rfl ?_;cases hr;exact jn _ rfl rfl rfl
  refine rn tk 6 rfl ?_;cases hr;exact jn _ rfl rfl rfl
 refine ac 68 hr rfl (fun c42 hr=>?_) (fun c42 hr=>?_)
 .refine rn tk 2 rfl ?_;obtain ⟨v43,h44,hr⟩:=zaa hr;refine cl (z7a _ _ _ h44) rfl rfl<|rn tk 5 rfl ?_;cases hr;exact kr tk (.inr rfl) rfl rfl
 refine rn tk 3 rfl<|jb hr (fun j45=>[(1,.ptr 1 0),(2,.ptr 2 0),(3,.i a0.Verb),(86,.bo j45)]) (fun j45=>[(2,.cells [.i 0,.i 0]),(1,.cells (zA3 a0))]) (fun j45 hr=>?_) (fun j45 hr=>?_)
 .refine rn tk 4 rfl<|bs 72 hr rfl (fun c46 hr=>?_) (fun c46 hr=>?_)
  .refine rn tk 5 rfl<|bs 77 hr rfl (fun c47 hr=>?_) (fun c47 hr=>?_)
   .refine rn tk 6 rfl ?_;obtain ⟨v48,h49,hr⟩:=zaa hr;refine ug rfl rfl rfl<|cl (qJa _ _ h49) rfl rfl<|rn tk 3 rfl ?_;cases hr;exact jn _ rfl rfl rfl
   refine rn tk 4 rfl<|bs 81 hr rfl (fun c50 hr=>?_) (fun c50 hr=>?_)
   .refine rn tk 2 rfl ?_;obtain ⟨v51,h52,hr⟩:=zaa hr;refine ug rfl rfl rfl<|cl (qJa _ _ h52) rfl rfl<|rn tk 3 rfl ?_;cases hr;exact jn _ rfl rfl rfl
   refine rn tk 6 rfl ?_;cases hr;exact jn _ rfl rfl rfl
  refine rn tk 9 rfl<|bs 81 hr rfl (fun c53 hr=>?_) (fun c53 hr=>?_)
  .refine rn tk 2 rfl ?_;obtain ⟨v54,h55,hr⟩:=zaa hr;refine ug rfl rfl rfl<|cl (qJa _ _ h55) rfl rfl<|rn tk 3 rfl ?_;cases hr;exact jn _ rfl rfl rfl
  refine rn tk 6 rfl ?_;cases hr;exact jn _ rfl rfl rfl
 refine ac 86 hr rfl (fun c56 hr=>?_) (fun c56 hr=>?_)
 .refine rn tk 2 rfl ?_;obtain ⟨v57,h58,hr⟩:=zaa hr;refine cl (z7a _ _ _ h58) rfl rfl<|rn tk 5 rfl ?_;cases hr;exact kr tk (.inr rfl) rfl rfl
 refine rn tk 3 rfl<|jb hr (fun j59=>[(1,.ptr 1 0),(2,.ptr 2 0),(3,.i a0.Verb),(99,.bo j59)]) (fun j59=>[(2,.cells [.i 0,.i 0]),(1,.cells (zA3 a0))]) (fun j59 hr=>?_) (fun j59 hr=>?_)
 .refine rn tk 4 rfl<|bs 90 hr rfl (fun c60 hr=>?_) (fun c60 hr=>?_)
  .refine rn tk 6 rfl ?_;obtain ⟨v61,h62,hr⟩:=zaa hr;refine ug rfl rfl rfl<|cl (z8a _ _ _ _ h62) rfl rfl<|rn tk 3 rfl ?_;cases hr;exact jn _ rfl rfl rfl
  refine rn tk 4 rfl<|bs 94 hr rfl (fun c63 hr=>?_) (fun c63 hr=>?_)
  .refine rn tk 2 rfl ?_;obtain ⟨v64,h65,hr⟩:=zaa hr;refine ug rfl rfl rfl<|cl (z8a _ _ _ _ h65) rfl rfl<|rn tk 3 rfl ?_;cases hr;exact jn _ rfl rfl rfl
  refine rn tk 6 rfl ?_;cases hr;exact jn _ rfl rfl rfl
 refine ac 99 hr rfl (fun c66 hr=>?_) (fun c66 hr=>?_)
 .refine rn tk 2 rfl ?_;obtain ⟨v67,h68,hr⟩:=zaa hr;refine cl (z7a _ _ _ h68) rfl rfl<|rn tk 5 rfl ?_;cases hr;exact kr tk (.inr rfl) rfl rfl
 refine rn tk 3 rfl<|jb hr (fun j69=>[(2,.ptr 2 0),(108,.bo j69)]) (fun j69=>[(2,.cells [.i 0,.i 0])]) (fun j69 hr=>?_) (fun j69 hr=>?_)
 .refine rn tk 4 rfl<|bs 103 hr rfl (fun c70 hr=>?_) (fun c70 hr=>?_)
  .refine rn tk 2 rfl ?_;obtain ⟨v71,h72,hr⟩:=zaa hr;refine ug rfl rfl rfl<|cl (z8a _ _ _ _ h72) rfl rfl<|rn tk 3 rfl ?_;cases hr;exact jn _ rfl rfl rfl
  refine rn tk 6 rfl ?_;cases hr;exact jn _ rfl rfl rfl
 refine ac 108 hr rfl (fun c73 hr=>?_) (fun c73 hr=>?_)
 .refine rn tk 2 rfl ?_;obtain ⟨v74,h75,hr⟩:=zaa hr;refine cl (z7a _ _ _ h75) rfl rfl<|rn tk 5 rfl ?_;cases hr;exact kr tk (.inr rfl) rfl rfl
 refine rn tk 9 rfl ?_;cases hr;exact kr tk (.inr rfl) rfl rfl
theorem WZa(a0:Int)(r:Str)(hr:yoa a0=some r):Run prog 21 [.i a0] (.s r):=by
 unfold yoa at hr;refine rf (fn:=f21) ⟨func21,rfl,by kernel_rfl⟩ rfl (fun _=>rfl) fun g0 hg=>?_
 refine rn tk 7 rfl<|wz cS ([([110,101,118,101,114]:Str),([102,97,105,108,117,114,101]:Str),([100,101,108,97,121]:Str),([102,97,105,108,117,114,101,44,100,101,108,97,121]:Str),([115,117,99,99,101,115,115]:Str),([102,97,105,108,117,114,101,44,115,117,99,99,101,115,115]:Str),([100,101,108,97,121,44,115,117,99,99,101,115,115]:Str),([102,97,105,108,117,114,101,44,100,101,108,97,121,44,115,117,99,99,101,115,115]:Str)]:List Str) tk rfl rfl (fun _=>rfl) rfl (by kernel_rfl) rfl<|rn tk 7 rfl ?_;obtain ⟨v1,h2,hr⟩:=zaa hr;refine wi tk h2 rfl rfl rfl rfl rfl<|rn tk 5 rfl ?_;cases hr;exact kr tk (.inr rfl) rfl rfl
theorem QVa(a0:Str)(r:Str)(hr:QEa a0=some r):Run prog 105 [.s a0] (.s r):=by
 unfold QEa at hr;refine rf (fn:=f105) ⟨func105,rfl,by kernel_rfl⟩ rfl (fun _=>rfl) fun g0 hg=>?_
 refine rn tk 8 rfl ?_;refine kXa 1003 (d:=3) 5 1 rfl rfl rfl (hO ?_);refine rn tk 9 rfl<|al1 hr (fun s1=>[(0,.s a0),(3,.hs 1003 0),(4,.i s1.1)]) (fun s1=>[(1003,.row 5 false 1 (List.map cU s1.2))]) (.exit 0) (fun b2=>[(3,.hs 1003 0)]) (fun b2=>[(1003,.row 5 false 1 (List.map cU b2))]) rfl rfl (fun s1 x3 hr=>?_) (fun b2 hr=>?_)
 .unfold Zaa at hr;refine rn tk 9 rfl<|ac 9 hr rfl (fun c4 hr=>?_) (fun c4 hr=>?_)
  .refine rn tk 8 rfl ?_;obtain ⟨v5,h6,hr⟩:=zaa hr;refine ws tk h6 rfl rfl rfl rfl<|rn tk 3 rfl<|jb hr (fun j7=>[(0,.s a0),(3,.hs 1003 0),(4,.i s1.1),(5,.u8 j7)]) (fun j7=>[(1003,.row 5 false 1 (List.map cU s1.2))]) (fun j7 hr=>?_) (fun j7 hr=>?_)
   .refine rn tk 3 rfl<|wu tk rfl rfl rfl ?_;obtain ⟨v8,h9,hr⟩:=zaa hr;refine cl (z8a _ _ _ _ h9) rfl rfl<|rn tk 2 rfl<|ac 17 hr rfl (fun c10 hr=>?_) (fun c10 hr=>?_)
    .refine rn tk 2 rfl<|wq (v6b (a:=v5) (b:=(32:UInt8)) rfl rfl) rfl rfl rfl<|rn tk 2 rfl ?_;cases hr;exact jn _ rfl rfl rfl
    refine rn tk 1 rfl ?_;cases hr;exact jn _ rfl rfl rfl
   refine rn tk 3 rfl<|wz cU ([j7]:List UInt8) tk rfl rfl (fun _=>rfl) rfl rfl rfl ?_;obtain ⟨v11,h12,hr⟩:=zaa hr;refine wa tk h12 rfl rfl rfl rfl (fun _=>rfl) rfl rfl<|rn tk 9 rfl ?_;cases hr;exact atc rfl rfl
  refine rn tk 2 rfl ?_;cases hr;exact ato rfl rfl rfl rfl
 refine rn tk 5 rfl ?_;refine vFa (d:=24) (F:=cU) (l:=b2) rfl rfl (hO ?_);refine wb tk rfl rfl rfl<|rn tk 4 rfl ?_;cases hr;exact kr tk (.inr rfl) rfl rfl
theorem vOb(a0:Str)(r:List Str)(hr:Yza a0=some r):Run prog 104 [.s a0] (.l cS r):=by
 unfold Yza at hr;refine rf (fn:=Tryz.f104) ⟨func104,rfl,by kernel_rfl⟩ rfl (fun _=>rfl) fun g0 hg=>?_
 refine rn tk 8 rfl ?_;refine kXa 1003 (d:=3) 9 1 rfl rfl rfl (hO ?_);refine rn tk 14 rfl<|al1 hr (fun s1=>[(0,.s a0),(3,.hs 1003 0),(4,.s s1.1),(5,.i s1.2.1)]) (fun s1=>[(1003,.row 9 false 1 (List.map cS s1.2.2))]) (.exit 0) (fun b2=>[(3,.hs 1003 0)]) (fun b2=>[(1003,.row 9 false 1 (List.map cS b2))]) rfl rfl (fun s1 x3 hr=>?_) (fun b2 hr=>?_)
 .unfold q9a at hr;refine rn tk 9 rfl<|ac 9 hr rfl (fun c4 hr=>?_) (fun c4 hr=>?_)
  .refine rn tk 2 rfl<|jb hr (fun j5=>[(0,.s a0),(3,.hs 1003 0),(4,.s j5.1),(5,.i s1.2.1)]) (fun j5=>[(1003,.row 9 false 1 (List.map cS j5.2))]) (fun j5 hr=>?_) (fun j5 hr=>?_)
   .refine rn tk 2 rfl<|jb hr (fun j6=>[(0,.s a0),(3,.hs 1003 0),(4,.s s1.1),(5,.i s1.2.1),(21,.bo j6)]) (fun j6=>[(1003,.row 9 false 1 (List.map cS s1.2.2))]) (fun j6 hr=>?_) (fun j6 hr=>?_)
    .refine rn tk 6 rfl<|bs 16 hr rfl (fun c7 hr=>?_) (fun c7 hr=>?_)
     .refine rn tk 2 rfl ?_;obtain ⟨v8,h9,hr⟩:=zaa hr;refine ug rfl rfl rfl<|ws tk h9 rfl rfl rfl rfl<|rn tk 3 rfl ?_;cases hr;exact jn _ rfl rfl rfl
     refine rn tk 6 rfl ?_;cases hr;exact jn _ rfl rfl rfl
    refine ac 21 hr rfl (fun c10 hr=>?_) (fun c10 hr=>?_)
    .refine rn tk 7 rfl ?_;obtain ⟨v11,h12,hr⟩:=zaa hr;refine QBa tk h12 rfl rfl rfl rfl rfl ?_;obtain ⟨v13,h14,hr⟩:=zaa hr;refine wc h14 rfl rfl rfl<|rn tk 6 rfl ?_;cases hr;exact jn _ rfl rfl rfl
    refine rn tk 2 rfl<|jb hr (fun j15=>[(0,.s a0),(3,.hs 1003 0),(5,.i s1.2.1)]) (fun j15=>[(1003,.row 9 false 1 (List.map cS j15))]) (fun j15 hr=>?_) (fun j15 hr=>?_)
    .refine rn tk 6 rfl<|ac 30 hr rfl (fun c16 hr=>?_) (fun c16 hr=>?_)
     .refine rn tk 3 rfl<|wz cS ([s1.1]:List Str) tk rfl rfl (fun _=>rfl) rfl rfl rfl ?_;obtain ⟨v17,h18,hr⟩:=zaa hr;refine wa tk h18 rfl rfl rfl rfl (fun _=>rfl) rfl rfl<|rn tk 2 rfl ?_;cases hr;exact jn _ rfl rfl rfl
     refine rn tk 1 rfl ?_;cases hr;exact jn _ rfl rfl rfl
    refine rn tk 4 rfl ?_;cases hr;exact jn _ rfl rfl rfl
   refine rn tk 5 rfl ?_;cases hr;exact atc rfl rfl
  refine rn tk 2 rfl ?_;cases hr;exact ato rfl rfl rfl rfl
 refine rn tk 8 rfl ?_;refine wda (d:=2) (F:=cS) (l:=b2) rfl rfl (hC ?_);refine rn tk 1 rfl ?_;cases hr;exact kr tk (.inr rfl) rfl rfl
theorem Jpa(a0:Str)(a1:Str)(r:Str × Bool)(hr:Kfa a0 a1=some r):Run prog 108 [.s a0,.s a1] (.tup [.s r.1,.bo r.2]):=by
 unfold Kfa at hr;refine rf (fn:=f108) ⟨func108,rfl,by kernel_rfl⟩ rfl (fun _=>rfl) fun g0 hg=>?_
 refine rn tk 9 rfl ?_;obtain ⟨v1,h2,hr⟩:=zaa hr;refine cl (QVa _ _ h2) rfl rfl<|rn tk 4 rfl<|jb hr (fun j3=>[(1,.s a1),(6,.s v1),(21,.bo j3)]) (fun j3=>[]) (fun j3 hr=>?_) (fun j3 hr=>?_)
 .refine rn tk 7 rfl<|bs 14 hr rfl (fun c4 hr=>?_) (fun c4 hr=>?_)
  .refine rn tk 8 rfl ?_;cases hr;exact jn _ rfl rfl rfl
  refine rn tk 3 rfl ?_;obtain ⟨v5,h6,hr⟩:=zaa hr;refine ug rfl rfl rfl<|wscH tk h6 rfl rfl rfl rfl<|rn tk 4 rfl ?_;cases hr;exact jn _ rfl rfl rfl
 refine ac 21 hr rfl (fun c7 hr=>?_) (fun c7 hr=>?_)
 .refine rn tk 8 rfl ?_;cases hr;exact kr tk (.inr rfl) rfl rfl
 refine rn tk 7 rfl ?_;obtain ⟨v8,h9,hr⟩:=zaa hr;refine wscL tk h9 rfl rfl rfl rfl<|rn tk 5 rfl ?_;cases hr;exact kr tk (.inr rfl) rfl rfl
theorem yGb(a0:Int)(r:Str)(hr:kTb a0=some r):Run prog 106 [.i a0] (.s r):=by
 unfold kTb at hr;refine rf (fn:=f106) ⟨func106,rfl,by kernel_rfl⟩ rfl (fun _=>rfl) fun g0 hg=>?_
 refine rn tk 7 rfl<|wz cS ([([104,101,108,108,111]:Str),([109,97,105,108]:Str),([114,99,112,116]:Str),([100,97,116,97]:Str),([99,104,117,110,107]:Str),([114,101,115,101,116]:Str),([110,111,111,112]:Str),([113,117,105,116]:Str)]:List Str) tk rfl rfl (fun _=>rfl) rfl (by kernel_rfl) rfl<|rn tk 8 rfl ?_;obtain ⟨v1,h2,hr⟩:=zaa hr;refine wi tk h2 rfl rfl rfl rfl rfl<|rn tk 5 rfl ?_;cases hr;exact kr tk (.inr rfl) rfl rfl
theorem Jqa(a0:Str)(r:zoa × zta)(hr:jia a0=some r):Run prog 71 [.s a0] (.tup [.agg (zA3 r.1),.agg [.i r.2.Code,.i r.2.Index]]):=by
 unfold jia at hr;refine rf (fn:=f71) ⟨func71,rfl,by kernel_rfl⟩ rfl (fun _=>rfl) fun g0 hg=>?_
 refine rn tk 21 rfl<|ac 22 hr rfl (fun c1 hr=>?_) (fun c1 hr=>?_)
 .refine rn tk 1 rfl ?_;obtain ⟨v2,h3,hr⟩:=zaa hr;refine mc tk [(1,.agg [.i v2.Code,.i v2.Index])] [(2,.ptr 2 0),(3,.ptr 3 0)] mixed rfl (by kernel_rfl) (.cons rfl rfl (fun _ _=>(k6a (z7a 1 ((-1)) v2 h3) rfl)) .nil) (fc rfl (fc rfl fn)) (hA ?_);refine rn tk 3 rfl ?_;cases hr;exact kr tk (.inr rfl) rfl rfl
 refine rn tk 5 rfl ?_;obtain ⟨v4,h5,hr⟩:=zaa hr;refine cl (vOb _ _ h5) rfl rfl<|rn tk 17 rfl<|al1 hr (fun s6=>[(2,.ptr 2 0),(3,.ptr 3 0),(4,.ptr 4 0),(5,.l cS v4),(6,.ptr 6 0),(7,.i s6.1)]) (fun s6=>[(6,.cells [.i s6.2,.s (([]:Str)),.s (([]:Str)),.i 0,.i 0,.bo false]),(4,.cells [.i 0,.s (([]:Str)),.s (([]:Str)),.i 0,.i 0,.bo false]),(3,.cells [.i 0,.i 0]),(2,.cells [.i 0,.s (([]:Str)),.s (([]:Str)),.i 0,.i 0,.bo false])]) (.exit 0) (fun b7=>[(2,.ptr 2 0),(3,.ptr 3 0),(4,.ptr 4 0),(5,.l cS v4),(6,.ptr 6 0)]) (fun b7=>[(6,.cells [.i b7,.s (([]:Str)),.s (([]:Str)),.i 0,.i 0,.bo false]),(4,.cells [.i 0,.s (([]:Str)),.s (([]:Str)),.i 0,.i 0,.bo false]),(3,.cells [.i 0,.i 0]),(2,.cells [.i 0,.s (([]:Str)),.s (([]:Str)),.i 0,.i 0,.bo false])]) rfl rfl (fun s6 x8 hr=>?_) (fun b7 hr=>?_)
 .unfold qka at hr;refine rn tk 1 rfl<|jb hr (fun j9=>[(2,.ptr 2 0),(3,.ptr 3 0),(4,.ptr 4 0),(5,.l cS v4),(6,.ptr 6 0),(7,.i s6.1),(34,.bo j9)]) (fun j9=>[(6,.cells [.i s6.2,.s (([]:Str)),.s (([]:Str)),.i 0,.i 0,.bo false]),(4,.cells [.i 0,.s (([]:Str)),.s (([]:Str)),.i 0,.i 0,.bo false]),(3,.cells [.i 0,.i 0]),(2,.cells [.i 0,.s (([]:Str)),.s (([]:Str)),.i 0,.i 0,.bo false])]) (fun j9 hr=>?_) (fun j9 hr=>?_)
  .refine rn tk 4 rfl<|bs 30 hr rfl (fun c10 hr=>?_) (fun c10 hr=>?_)
   .refine rn tk 1 rfl<|ug rfl rfl rfl<|wn tk rfl rfl rfl<|rn tk 3 rfl ?_;cases hr;exact jn _ rfl rfl rfl
   refine rn tk 5 rfl ?_;cases hr;exact jn _ rfl rfl rfl
  refine ac 34 hr rfl (fun c11 hr=>?_) (fun c11 hr=>?_)
  .refine rn tk 2 rfl<|jb hr (fun j12=>[(2,.ptr 2 0),(3,.ptr 3 0),(4,.ptr 4 0),(5,.l cS v4),(6,.ptr 6 0),(7,.i s6.1)]) (fun j12=>[(6,.cells [.i j12,.s (([]:Str)),.s (([]:Str)),.i 0,.i 0,.bo false]),(4,.cells [.i 0,.s (([]:Str)),.s (([]:Str)),.i 0,.i 0,.bo false]),(3,.cells [.i 0,.i 0]),(2,.cells [.i 0,.s (([]:Str)),.s (([]:Str)),.i 0,.i 0,.bo false])]) (fun j12 hr=>?_) (fun j12 hr=>?_)
   .refine rn tk 4 rfl ?_;obtain ⟨v13,h14,hr⟩:=zaa hr;refine wi tk h14 rfl rfl rfl rfl rfl<|rn tk 1 rfl ?_;obtain ⟨v15,h16,hr⟩:=zaa hr;refine cl (QVa _ _ h16) rfl rfl<|rn tk 1 rfl ?_;obtain ⟨v17,h18,hr⟩:=zaa hr;refine cl (yGb _ _ h18) rfl rfl<|rn tk 3 rfl<|ac 43 hr rfl (fun c19 hr=>?_) (fun c19 hr=>?_)
    .refine rn tk 6 rfl ?_;cases hr;exact jn _ rfl rfl rfl
    refine rn tk 2 rfl ?_;cases hr;exact jn _ rfl rfl rfl
   refine rn tk 5 rfl ?_;cases hr;exact atc rfl rfl
  refine rn tk 2 rfl ?_;cases hr;exact ato rfl rfl rfl rfl
 refine rn tk 10 rfl<|ac 48 hr rfl (fun c20 hr=>?_) (fun c20 hr=>?_)
 .refine rn tk 1 rfl ?_;obtain ⟨v21,h22,hr⟩:=zaa hr;refine mc tk [(1,.agg [.i v21.Code,.i v21.Index])] [(2,.ptr 2 0),(3,.ptr 3 0)] mixed rfl (by kernel_rfl) (.cons rfl rfl (fun _ _=>(k6a (z7a 18 ((-2)) v21 h22) rfl)) .nil) (fc rfl (fc rfl fn)) (hA ?_);refine rn tk 3 rfl ?_;cases hr;exact kr tk (.inr rfl) rfl rfl
 refine rn tk 4 rfl ?_;obtain ⟨v23,h24,hr⟩:=zaa hr;refine cl (z7a _ _ _ h24) rfl rfl<|rn tk 7 rfl ?_;obtain ⟨v25,h26,hr⟩:=zaa hr;refine wlL tk h26 rfl rfl rfl (fun _=>rfl) rfl<|rn tk 5 rfl<|wz cI ([1,1,1,0,1,0,0,0]:List Int) tk rfl rfl (fun _=>rfl) rfl rfl rfl<|rn tk 5 rfl<|wz cI ([1,2,2,0,2,0,0,0]:List Int) tk rfl rfl (fun _=>rfl) rfl rfl rfl<|rn tk 5 rfl ?_;obtain ⟨v27,h28,hr⟩:=zaa hr;obtain ⟨v29,h30,hr⟩:=zaa hr;obtain ⟨v31,h32,hr⟩:=zaa hr;refine mc tk [(1,.i ((v25.length:Int))),(6,.ep [pI v27]),(12,.ep [pI v29]),(14,.bo v31)] [(2,.ptr 2 0),(3,.ptr 3 0),(4,.ptr 4 0),(5,.l cS v25),(6,.ptr 6 0),(8,.ptr 8 0),(71,.bo ((!v31)))] mixed rfl (by kernel_rfl) (.cons rfl rfl (t0 (kfa (yYa (f:=cS) rfl vsa.u))) (.cons rfl rfl (t0 (kfa (qLa (f:=cI) rfl rfl zXb wka rfl h28))) (.cons rfl rfl (t0 (kfa (qLa (f:=cI) rfl rfl zXb wka rfl h30))) (.cons rfl rfl (t0 (k6a (z8a ((v25.length:Int)) v27 v29 v31 h32) rfl)) .nil)))) (fc rfl (fc rfl (fc rfl (fc rfl (fc rfl (fc rfl (fc rfl fn))))))) (hA ?_);refine rn tk 1 rfl<|ac 71 hr rfl (fun c33 hr=>?_) (fun c33 hr=>?_)
 .refine rn tk 1 rfl ?_;refine mc tk [] [(2,.ptr 2 0),(3,.ptr 3 0)] mixed rfl (by kernel_rfl) .nil (fc rfl (fc rfl fn)) (hA ?_);refine rn tk 3 rfl ?_;cases hr;exact kr tk (.inr rfl) rfl rfl
 refine rn tk 2 rfl<|jk (fun j34=>[(2,.ptr 2 0),(3,.ptr 3 0),(4,.ptr 4 0),(5,.l cS v25),(6,.ptr 6 0),(8,.ptr 8 0)]) (fun j34=>[(8,.cells [.i v23.Code,.i v23.Index]),(6,.cells [.i b7,.s j34.1,.s j34.2.1,.i j34.2.2,.i 0,.bo false]),(4,.cells [.i 0,.s (([]:Str)),.s (([]:Str)),.i 0,.i 0,.bo false]),(3,.cells [.i 0,.i 0]),(2,.cells [.i 0,.s (([]:Str)),.s (([]:Str)),.i 0,.i 0,.bo false])]) (fun j34=>kda b7 v23 v25 j34=some r) ?_ ?_
 .refine rn tk 13 rfl<|ac 76 hr rfl (fun c72 hr=>?_) (fun c72 hr=>?_)
  .refine rn tk 2 rfl ?_;obtain ⟨v73,h74,hr⟩:=zaa hr;refine wi tk h74 rfl rfl rfl rfl rfl<|rn tk 5 rfl<|jn ((v73,([]:Str),0)) hr rfl rfl
  refine jb hr (fun j75=>[(2,.ptr 2 0),(3,.ptr 3 0),(4,.ptr 4 0),(5,.l cS v25),(6,.ptr 6 0),(8,.ptr 8 0),(75,.i b7),(82,.bo j75)]) (fun j75=>[(8,.cells [.i v23.Code,.i v23.Index]),(6,.cells [.i b7,.s (([]:Str)),.s (([]:Str)),.i 0,.i 0,.bo false]),(4,.cells [.i 0,.s (([]:Str)),.s (([]:Str)),.i 0,.i 0,.bo false]),(3,.cells [.i 0,.i 0]),(2,.cells [.i 0,.s (([]:Str)),.s (([]:Str)),.i 0,.i 0,.bo false])]) (fun j75 hr=>?_) (fun j75 hr=>?_)
  .refine rn tk 6 rfl<|ac 82 hr rfl (fun c76 hr=>?_) (fun c76 hr=>?_)
   .refine rn tk 1 rfl ?_;cases hr;exact jn _ rfl rfl rfl
   refine rn tk 4 rfl ?_;cases hr;exact jn _ rfl rfl rfl
  refine ac 82 hr rfl (fun c77 hr=>?_) (fun c77 hr=>?_)
  .refine rn tk 3 rfl ?_;obtain ⟨v78,h79,hr⟩:=zaa hr;refine wi tk h79 rfl rfl rfl rfl rfl<|rn tk 6 rfl<|jb hr (fun j80=>[(2,.ptr 2 0),(3,.ptr 3 0),(4,.ptr 4 0),(5,.l cS v25),(6,.ptr 6 0),(8,.ptr 8 0),(11,.i ((v78.length:Int))),(106,.bo j80)]) (fun j80=>[(8,.cells [.i v23.Code,.i v23.Index]),(6,.cells [.i b7,.s (([]:Str)),.s (([]:Str)),.i 0,.i 0,.bo false]),(4,.cells [.i 0,.s (([]:Str)),.s (([]:Str)),.i 0,.i 0,.bo false]),(3,.cells [.i 0,.i 0]),(2,.cells [.i 0,.s (([]:Str)),.s (([]:Str)),.i 0,.i 0,.bo false])]) (fun j80 hr=>?_) (fun j80 hr=>?_)
   .refine rn tk 4 rfl<|bs 91 hr rfl (fun c81 hr=>?_) (fun c81 hr=>?_)
    .refine rn tk 16 rfl ?_;cases hr;exact jn _ rfl rfl rfl
    refine rn tk 1 rfl ?_;obtain ⟨v82,h83,hr⟩:=zaa hr;refine ug rfl rfl rfl<|wi tk h83 rfl rfl rfl rfl rfl<|rn tk 1 rfl ?_;obtain ⟨v84,h85,hr⟩:=zaa hr;refine ug rfl rfl rfl<|ws tk h85 rfl rfl rfl rfl<|rn tk 3 rfl<|bs 98 hr rfl (fun c86 hr=>?_) (fun c86 hr=>?_)
    .refine rn tk 9 rfl ?_;cases hr;exact jn _ rfl rfl rfl
    refine rn tk 1 rfl ?_;obtain ⟨v87,h88,hr⟩:=zaa hr;refine ug rfl rfl rfl<|wi tk h88 rfl rfl rfl rfl rfl<|rn tk 3 rfl ?_;obtain ⟨v89,h90,hr⟩:=zaa hr;refine ug rfl rfl rfl<|ws tk h90 rfl rfl rfl rfl<|rn tk 3 rfl ?_;cases hr;exact jn _ rfl rfl rfl
   refine ac 106 hr rfl (fun c91 hr=>?_) (fun c91 hr=>?_)
   .refine rn tk 1 rfl ?_;refine mc tk [] [(2,.ptr 2 0),(3,.ptr 3 0)] mixed rfl (by kernel_rfl) .nil (fc rfl (fc rfl fn)) (hA ?_);refine rn tk 5 rfl ?_;cases hr;exact kr tk (.inr rfl) rfl rfl
   refine rn tk 4 rfl ?_;obtain ⟨v92,h93,hr⟩:=zaa hr;refine wi tk h93 rfl rfl rfl rfl rfl<|rn tk 3 rfl ?_;obtain ⟨v94,h95,hr⟩:=zaa hr;refine QBa tk h95 rfl rfl rfl rfl rfl<|rn tk 4 rfl<|jn ((([]:Str),v94,0)) hr rfl rfl
  refine rn tk 6 rfl<|ac 116 hr rfl (fun c96 hr=>?_) (fun c96 hr=>?_)
  .refine rn tk 3 rfl ?_;obtain ⟨v97,h98,hr⟩:=zaa hr;refine wi tk h98 rfl rfl rfl rfl rfl<|rn tk 1 rfl ?_;obtain ⟨v99,h100,hr⟩:=zaa hr;refine cl (WAa _ _ h100) rfl rfl<|rn tk 11 rfl<|ac 125 hr rfl (fun c101 hr=>?_) (fun c101 hr=>?_)
   .refine rn tk 1 rfl ?_;refine mc tk [] [(2,.ptr 2 0),(3,.ptr 3 0)] mixed rfl (by kernel_rfl) .nil (fc rfl (fc rfl fn)) (hA ?_);refine rn tk 4 rfl ?_;cases hr;exact kr tk (.inr rfl) rfl rfl
   refine rn tk 2 rfl<|jn ((([]:Str),([]:Str),v99)) hr rfl rfl
  refine rn tk 2 rfl<|jn ((([]:Str),([]:Str),0)) hr rfl rfl
 intro j34 hr;unfold kda at hr;refine jb hr (fun j35=>[(2,.ptr 2 0),(3,.ptr 3 0),(4,.ptr 4 0),(5,.l cS v25),(6,.ptr 6 0),(8,.ptr 8 0)]) (fun j35=>[(8,.cells [.i v23.Code,.i v23.Index]),(6,.cells [.i b7,.s j34.1,.s j34.2.1,.i j34.2.2,.i j35,.bo false]),(4,.cells [.i 0,.s (([]:Str)),.s (([]:Str)),.i 0,.i 0,.bo false]),(3,.cells [.i 0,.i 0]),(2,.cells [.i 0,.s (([]:Str)),.s (([]:Str)),.i 0,.i 0,.bo false])]) (fun j35 hr=>?_) (fun j35 hr=>?_)
 .refine rn tk 7 rfl<|ac 130 hr rfl (fun c36 hr=>?_) (fun c36 hr=>?_)
  .refine rn tk 4 rfl ?_;cases hr;exact jn _ rfl rfl rfl
  refine rn tk 1 rfl ?_;cases hr;exact jn _ rfl rfl rfl
 refine jk (fun j37=>[(2,.ptr 2 0),(3,.ptr 3 0),(4,.ptr 4 0),(6,.ptr 6 0)]) (fun j37=>[(6,.cells [.i b7,.s j34.1,.s j34.2.1,.i j37.1,.i j37.2.1,.bo j37.2.2]),(4,.cells [.i 0,.s (([]:Str)),.s (([]:Str)),.i 0,.i 0,.bo false]),(3,.cells [.i 0,.i 0]),(2,.cells [.i 0,.s (([]:Str)),.s (([]:Str)),.i 0,.i 0,.bo false])]) (fun j37=>kVa b7 j34 j37=some r) ?_ ?_
 .refine rn tk 3 rfl<|wn tk rfl rfl rfl<|rn tk 3 rfl<|ac 134 hr rfl (fun c41 hr=>?_) (fun c41 hr=>?_)
  .refine rn tk 5 rfl<|jb hr (fun j42=>[(2,.ptr 2 0),(3,.ptr 3 0),(4,.ptr 4 0),(6,.ptr 6 0),(8,.ptr 8 0),(12,.bo j42.1)]) (fun j42=>[(8,.cells [.i v23.Code,.i v23.Index]),(6,.cells [.i b7,.s j34.1,.s j34.2.1,.i j42.2.1,.i j42.2.2.1,.bo j42.2.2.2]),(4,.cells [.i 0,.s (([]:Str)),.s (([]:Str)),.i 0,.i 0,.bo false]),(3,.cells [.i 0,.i 0]),(2,.cells [.i 0,.s (([]:Str)),.s (([]:Str)),.i 0,.i 0,.bo false])]) (fun j42 hr=>?_) (fun j42 hr=>?_)
   .refine rn tk 13 rfl<|ac 137 hr rfl (fun c43 hr=>?_) (fun c43 hr=>?_)
    .refine rn tk 3 rfl ?_;obtain ⟨v44,h45,hr⟩:=zaa hr;refine wi tk h45 rfl rfl rfl rfl rfl<|rn tk 1 rfl ?_;obtain ⟨v46,h47,hr⟩:=zaa hr;refine cl (Jpa _ _ _ h47) rfl rfl<|rn tk 10 rfl ?_;obtain ⟨v48,h49,hr⟩:=zaa hr;refine cl (WAa _ _ h49) rfl rfl<|rn tk 7 rfl<|bs 150 hr rfl (fun c50 hr=>?_) (fun c50 hr=>?_)
     .refine rn tk 7 rfl ?_;cases hr;exact jn _ rfl rfl rfl
     refine rn tk 7 rfl ?_;cases hr;exact jn _ rfl rfl rfl
    refine rn tk 6 rfl<|ac 155 hr rfl (fun c51 hr=>?_) (fun c51 hr=>?_)
    .refine rn tk 3 rfl ?_;obtain ⟨v52,h53,hr⟩:=zaa hr;refine wi tk h53 rfl rfl rfl rfl rfl<|rn tk 1 rfl ?_;obtain ⟨v54,h55,hr⟩:=zaa hr;refine cl (Jpa _ _ _ h55) rfl rfl<|rn tk 13 rfl<|al1 hr (fun s56=>[(2,.ptr 2 0),(3,.ptr 3 0),(4,.ptr 4 0),(6,.ptr 6 0),(8,.ptr 8 0),(12,.bo s56.1),(15,.s v54.1),(16,.bo v54.2),(17,.i s56.2.1)]) (fun s56=>[(8,.cells [.i v23.Code,.i v23.Index]),(6,.cells [.i b7,.s j34.1,.s j34.2.1,.i j34.2.2,.i s56.2.2,.bo false]),(4,.cells [.i 0,.s (([]:Str)),.s (([]:Str)),.i 0,.i 0,.bo false]),(3,.cells [.i 0,.i 0]),(2,.cells [.i 0,.s (([]:Str)),.s (([]:Str)),.i 0,.i 0,.bo false])]) (.exit 4) (fun b57=>[(2,.ptr 2 0),(3,.ptr 3 0),(4,.ptr 4 0),(6,.ptr 6 0),(8,.ptr 8 0),(12,.bo b57.1)]) (fun b57=>[(8,.cells [.i v23.Code,.i v23.Index]),(6,.cells [.i b7,.s j34.1,.s j34.2.1,.i j34.2.2,.i b57.2,.bo false]),(4,.cells [.i 0,.s (([]:Str)),.s (([]:Str)),.i 0,.i 0,.bo false]),(3,.cells [.i 0,.i 0]),(2,.cells [.i 0,.s (([]:Str)),.s (([]:Str)),.i 0,.i 0,.bo false])]) rfl rfl (fun s56 x58 hr=>?_) (fun b57 hr=>?_)
     .unfold qla at hr;refine rn tk 1 rfl<|jb hr (fun j59=>[(2,.ptr 2 0),(3,.ptr 3 0),(4,.ptr 4 0),(6,.ptr 6 0),(8,.ptr 8 0),(12,.bo s56.1),(15,.s v54.1),(16,.bo v54.2),(17,.i s56.2.1),(168,.bo j59)]) (fun j59=>[(8,.cells [.i v23.Code,.i v23.Index]),(6,.cells [.i b7,.s j34.1,.s j34.2.1,.i j34.2.2,.i s56.2.2,.bo false]),(4,.cells [.i 0,.s (([]:Str)),.s (([]:Str)),.i 0,.i 0,.bo false]),(3,.cells [.i 0,.i 0]),(2,.cells [.i 0,.s (([]:Str)),.s (([]:Str)),.i 0,.i 0,.bo false])]) (fun j59 hr=>?_) (fun j59 hr=>?_)
      .refine rn tk 4 rfl<|bs 166 hr rfl (fun c60 hr=>?_) (fun c60 hr=>?_)
       .refine rn tk 3 rfl ?_;cases hr;exact jn _ rfl rfl rfl
       refine rn tk 3 rfl ?_;cases hr;exact jn _ rfl rfl rfl
      refine ac 168 hr rfl (fun c61 hr=>?_) (fun c61 hr=>?_)
      .refine rn tk 2 rfl<|jb hr (fun j62=>[(2,.ptr 2 0),(3,.ptr 3 0),(4,.ptr 4 0),(6,.ptr 6 0),(8,.ptr 8 0),(12,.bo j62.1),(15,.s v54.1),(16,.bo v54.2),(17,.i s56.2.1)]) (fun j62=>[(8,.cells [.i v23.Code,.i v23.Index]),(6,.cells [.i b7,.s j34.1,.s j34.2.1,.i j34.2.2,.i j62.2,.bo false]),(4,.cells [.i 0,.s (([]:Str)),.s (([]:Str)),.i 0,.i 0,.bo false]),(3,.cells [.i 0,.i 0]),(2,.cells [.i 0,.s (([]:Str)),.s (([]:Str)),.i 0,.i 0,.bo false])]) (fun j62 hr=>?_) (fun j62 hr=>?_)
       .refine rn tk 4 rfl ?_;obtain ⟨v63,h64,hr⟩:=zaa hr;refine cl (WZa _ _ h64) rfl rfl<|rn tk 4 rfl<|ac 174 hr rfl (fun c65 hr=>?_) (fun c65 hr=>?_)
        .refine rn tk 11 rfl ?_;cases hr;exact jn _ rfl rfl rfl
        refine rn tk 2 rfl ?_;cases hr;exact jn _ rfl rfl rfl
       refine rn tk 5 rfl ?_;cases hr;exact atc rfl rfl
      refine rn tk 2 rfl ?_;cases hr;exact ato rfl rfl rfl rfl
     refine rn tk 2 rfl ?_;cases hr;exact jn _ rfl rfl rfl
    refine rn tk 6 rfl<|ac 177 hr rfl (fun c66 hr=>?_) (fun c66 hr=>?_)
    .refine rn tk 8 rfl ?_;obtain ⟨v67,h68,hr⟩:=zaa hr;refine wi tk h68 rfl rfl rfl rfl rfl<|rn tk 1 rfl ?_;obtain ⟨v69,h70,hr⟩:=zaa hr;refine cl (QVa _ _ h70) rfl rfl<|rn tk 4 rfl ?_;cases hr;exact jn _ rfl rfl rfl
    refine rn tk 2 rfl ?_;cases hr;exact jn _ rfl rfl rfl
   refine rn tk 6 rfl<|ac 186 hr rfl (fun c71 hr=>?_) (fun c71 hr=>?_)
   .refine rn tk 1 rfl ?_;refine mc tk [] [(2,.ptr 2 0),(3,.ptr 3 0)] mixed rfl (by kernel_rfl) .nil (fc rfl (fc rfl fn)) (hA ?_);refine rn tk 3 rfl ?_;cases hr;exact kr tk (.inr rfl) rfl rfl
   refine rn tk 1 rfl<|jn ((j42.2.1,j42.2.2.1,j42.2.2.2)) hr rfl rfl
  refine rn tk 1 rfl<|jn ((j34.2.2,j35,false)) hr rfl rfl
 intro j37 hr;unfold kVa at hr;refine rn tk 3 rfl ?_;obtain ⟨v38,h39,hr⟩:=zaa hr;refine cl (VDa _ _ h39) rfl rfl<|rn tk 12 rfl<|ac 193 hr rfl (fun c40 hr=>?_) (fun c40 hr=>?_)
 .refine rn tk 1 rfl ?_;refine mc tk [] [(2,.ptr 2 0),(3,.ptr 3 0)] mixed rfl (by kernel_rfl) .nil (fc rfl (fc rfl fn)) (hA ?_);refine rn tk 3 rfl ?_;cases hr;exact kr tk (.inr rfl) rfl rfl
 refine rn tk 3 rfl ?_;refine mc tk [] [(2,.ptr 2 0),(3,.ptr 3 0)] mixed rfl (by kernel_rfl) .nil (fc rfl (fc rfl fn)) (hA ?_);refine rn tk 2 rfl ?_;cases hr;exact kr tk (.inr rfl) rfl rfl
theorem Jra(a0:zda)(a1:UInt8)(r:zda)(hr:jla a0 a1=some r):RunS prog 44 [.agg (zA1 a0.S),.u8 a1] [(90003010,.row 5 false 1 (List.map cU a0.S.Data)),(90003018,.row 28 false 2 (List.map zka.pc a0.Replies)),(90003019,.row 56 false 5 (List.map zza.pc a0.Mails))] (.agg (zA1 r.S)) [(90003010,.row 5 false 1 (List.map cU r.S.Data)),(90003018,.row 28 false 2 (List.map zka.pc r.Replies)),(90003019,.row 56 false 5 (List.map zza.pc r.Mails))] 90003000 [90003010,90003018,90003019]:=by
 unfold jla at hr;refine rfS (fn:=f44) (H:=90003999) .any ⟨func44,rfl,by kernel_rfl⟩ rfl (hasT rfl) (.inr ⟨rfl,rfl⟩) rfl rfl rfl rfl fun g0 hg S sg T=>?_
 refine rn tk 4 rfl ?_;refine zua 1004 (o:=4) (j:=9) 5 1 rfl rfl rfl rfl (hO ?_);refine zua 2004 (o:=4) (j:=17) 28 2 rfl rfl rfl rfl (hO ?_);refine zua 3004 (o:=4) (j:=18) 56 5 rfl rfl rfl rfl (hO ?_);refine rn tk 5 rfl ?_;refine kXa 1005 (d:=5) 5 1 rfl rfl rfl (hO ?_);refine rn tk 8 rfl ?_;obtain ⟨v1,h2,hr⟩:=zaa hr;refine wa tk h2 rfl rfl rfl rfl (fun _=>rfl) rfl rfl<|rn tk 7 rfl<|wz cU ([a1]:List UInt8) tk rfl rfl (fun _=>rfl) rfl rfl rfl ?_;obtain ⟨v3,h4,hr⟩:=zaa hr;refine wa tk h4 rfl rfl rfl rfl (fun _=>rfl) rfl rfl<|rn tk 6 rfl<|wnh tk rfl rfl rfl rfl<|rn tk 4 rfl<|jb hr (fun j5=>[(2,.ptr 2 0),(4,.ptr 4 0),(5,.hs 1005 0),(6,.i ((v3.length:Int))),(37,.bo j5)]) (fun j5=>[(1005,.row 5 false 1 (List.map cU v3)),(3004,.row 56 false 5 (List.map zza.pc (([]:List zza)))),(2004,.row 28 false 2 (List.map zka.pc (([]:List zka)))),(1004,.row 5 false 1 (List.map cU (([]:List UInt8)))),(4,.cells [.s (([]:Str)),.i 0,.i 0,.i 0,.bo false,.bo false,.s (([]:Str)),.l zca.pc ([]),.l cU ([]),.hs 1004 0,.i 0,.i 0,.bo false,.i 0,.bo false,.bo false,.i 0,.hs 2004 0,.hs 3004 0]),(2,.cells (zA1 a0.S)),(90003999,.hold (.any) (T.getD 0 undef)),(90003010,.row 5 false 1 (List.map cU a0.S.Data)),(90003018,.row 28 false 2 (List.map zka.pc a0.Replies)),(90003019,.row 56 false 5 (List.map zza.pc a0.Mails))]) (fun j5 hr=>?_) (fun j5 hr=>?_)
 .refine rn tk 4 rfl<|bs 22 hr rfl (fun c6 hr=>?_) (fun c6 hr=>?_)
  .refine rn tk 3 rfl ?_;refine vFa (d:=23) (F:=cU) (l:=v3) rfl rfl (hO ?_);obtain ⟨v7,h8,hr⟩:=zaa hr;refine ug rfl rfl rfl<|wi tk h8 rfl rfl rfl rfl rfl<|rn tk 4 rfl<|bs 30 hr rfl (fun c9 hr=>?_) (fun c9 hr=>?_)
   .refine rn tk 3 rfl ?_;refine vFa (d:=31) (F:=cU) (l:=v3) rfl rfl (hO ?_);obtain ⟨v10,h11,hr⟩:=zaa hr;refine ug rfl rfl rfl<|wi tk h11 rfl rfl rfl rfl rfl<|rn tk 4 rfl ?_;cases hr;exact jn _ rfl rfl rfl
   refine rn tk 8 rfl ?_;cases hr;exact jn _ rfl rfl rfl
  refine rn tk 16 rfl ?_;cases hr;exact jn _ rfl rfl rfl
 refine ac 37 hr rfl (fun c12 hr=>?_) (fun c12 hr=>?_)
 .refine rn tk 12 rfl ?_;refine vFa (d:=41) (F:=cU) (l:=v3) rfl rfl (hO ?_);obtain ⟨v13,h14,hr⟩:=zaa hr;refine wlH tk h14 rfl rfl rfl (fun _=>rfl) rfl<|wb tk rfl rfl rfl ?_;obtain ⟨v15,h16,hr⟩:=zaa hr;refine cl (Jqa _ _ h16) rfl rfl<|rn tk 17 rfl<|ac 51 hr rfl (fun c17 hr=>?_) (fun c17 hr=>?_)
  .refine rn tk 3 rfl ?_;obtain ⟨v18,h19,hr⟩:=zaa hr;refine wo (zja (k:=53) (kpa ((zda.mk ((zha.mk a0.S.Name a0.S.Size a0.S.Many a0.S.Phase a0.S.Greeted a0.S.Mailing a0.S.From a0.S.To ([]) a0.S.Data a0.S.Lost a0.S.Dots a0.S.Chunked a0.S.Left a0.S.Last a0.S.Ignore a0.S.Count)) a0.Replies a0.Mails)) 500 (([117,110,107,110,111,119,110]:Str)) v18 h19) rfl rfl (zba rfl (zba rfl (zba rfl zfa)))) rfl<|rn tk 6 rfl ?_;cases hr;exact krS tk (.inr rfl) rfl rfl (zba rfl (zba rfl (zba rfl (zba rfl zfa))))
  refine rn tk 10 rfl<|ac 56 hr rfl (fun c20 hr=>?_) (fun c20 hr=>?_)
  .refine rn tk 3 rfl ?_;obtain ⟨v21,h22,hr⟩:=zaa hr;refine wo (zja (k:=58) (kpa ((zda.mk ((zha.mk a0.S.Name a0.S.Size a0.S.Many a0.S.Phase a0.S.Greeted a0.S.Mailing a0.S.From a0.S.To ([]) a0.S.Data a0.S.Lost a0.S.Dots a0.S.Chunked a0.S.Left a0.S.Last a0.S.Ignore a0.S.Count)) a0.Replies a0.Mails)) 501 (([115,121,110,116,97,120]:Str)) v21 h22) rfl rfl (zba rfl (zba rfl (zba rfl zfa)))) rfl<|rn tk 6 rfl ?_;cases hr;exact krS tk (.inr rfl) rfl rfl (zba rfl (zba rfl (zba rfl (zba rfl zfa))))
  refine rn tk 6 rfl ?_;obtain ⟨v23,h24,hr⟩:=zaa hr;refine wo (zja (k:=61) (JLa ((zda.mk ((zha.mk a0.S.Name a0.S.Size a0.S.Many a0.S.Phase a0.S.Greeted a0.S.Mailing a0.S.From a0.S.To ([]) a0.S.Data a0.S.Lost a0.S.Dots a0.S.Chunked a0.S.Left a0.S.Last a0.S.Ignore a0.S.Count)) a0.Replies a0.Mails)) v15.1 v23 h24) rfl rfl (zba rfl (zba rfl (zba rfl zfa)))) rfl<|rn tk 5 rfl ?_;cases hr;exact krS tk (.inr rfl) rfl rfl (zba rfl (zba rfl (zba rfl (zba rfl zfa))))
 refine rn tk 8 rfl ?_;refine jtb (o:=2) (j:=8) (F:=cU) (l:=v3) rfl rfl rfl (hO ?_);refine rn tk 9 rfl<|ac 66 hr rfl (fun c25 hr=>?_) (fun c25 hr=>?_)
 .refine rn tk 3 rfl ?_;obtain ⟨v26,h27,hr⟩:=zaa hr;refine wo (zja (k:=68) (qna ((zda.mk ((zha.mk a0.S.Name a0.S.Size a0.S.Many a0.S.Phase a0.S.Greeted a0.S.Mailing a0.S.From a0.S.To v3 a0.S.Data a0.S.Lost a0.S.Dots a0.S.Chunked a0.S.Left a0.S.Last a0.S.Ignore a0.S.Count)) a0.Replies a0.Mails)) v26 h27) rfl rfl (zba rfl (zba rfl (zba rfl zfa)))) rfl<|rn tk 20 rfl ?_;obtain ⟨v28,h29,hr⟩:=zaa hr;refine wo (zja (k:=74) (kpa ((zda.mk ((zha.mk v26.S.Name v26.S.Size v26.S.Many 3 v26.S.Greeted v26.S.Mailing v26.S.From v26.S.To ([]) v26.S.Data v26.S.Lost v26.S.Dots v26.S.Chunked v26.S.Left v26.S.Last v26.S.Ignore v26.S.Count)) v26.Replies v26.Mails)) 500 (([117,110,107,110,111,119,110]:Str)) v28 h29) rfl rfl (zba rfl (zba rfl (zba rfl zfa)))) rfl<|rn tk 5 rfl ?_;cases hr;exact krS tk (.inr rfl) rfl rfl (zba rfl (zba rfl (zba rfl (zba rfl zfa))))
 refine rn tk 9 rfl ?_;cases hr;exact krS tk (.inr rfl) rfl rfl (zba rfl (zba rfl (zba rfl (zba rfl zfa))))
theorem kvb(a0:zha)(a1:List UInt8)(r:zda)(hr:Kha a0 a1=some r):RunS prog 16 [.agg (zA2 a0),.l cU a1] [] (.agg (zA1 r.S)) [(90003010,.row 5 false 1 (List.map cU r.S.Data)),(90003018,.row 28 false 2 (List.map zka.pc r.Replies)),(90003019,.row 56 false 5 (List.map zza.pc r.Mails))] 90003000 [90003010,90003018,90003019]:=by
 unfold Kha at hr;refine rfS (fn:=f16) (H:=90003999) .any ⟨func16,rfl,by kernel_rfl⟩ rfl (hasT rfl) (.inr ⟨rfl,rfl⟩) rfl rfl rfl rfl fun g0 hg S sg T=>?_
 refine rn tk 4 rfl ?_;refine zua 1004 (o:=4) (j:=9) 5 1 rfl rfl rfl rfl (hO ?_);refine zua 2004 (o:=4) (j:=17) 28 2 rfl rfl rfl rfl (hO ?_);refine zua 3004 (o:=4) (j:=18) 56 5 rfl rfl rfl rfl (hO ?_);refine rn tk 5 rfl ?_;refine zua 1005 (o:=5) (j:=9) 5 1 rfl rfl rfl rfl (hO ?_);refine zua 2005 (o:=5) (j:=17) 28 2 rfl rfl rfl rfl (hO ?_);refine zua 3005 (o:=5) (j:=18) 56 5 rfl rfl rfl rfl (hO ?_);refine Zwa 1005 90003010 rfl rfl rfl rfl rfl rfl (hO ?_);refine Zwa 2005 90003018 rfl rfl rfl rfl rfl rfl (hO ?_);refine Zwa 3005 90003019 rfl rfl rfl rfl rfl rfl (hO ?_);refine rn tk 13 rfl ?_;obtain ⟨v1,h2,hr⟩:=zaa hr;refine wa0 1011 tk h2 rfl rfl rfl (fun _=>rfl) rfl rfl rfl<|rn tk 3 rfl ?_;refine Kaa 90003010 (hO ?_);refine Zwa 1011 90003010 rfl rfl rfl rfl rfl rfl (hO ?_);refine rn tk 9 rfl<|al1 hr (fun s3=>[(1,.l cU a1),(4,.ptr 4 0),(5,.ptr 5 0),(6,.i s3.1)]) (fun s3=>[(90003010,.row 5 false 1 (List.map cU s3.2.S.Data)),(90003019,.row 56 false 5 (List.map zza.pc s3.2.Mails)),(90003018,.row 28 false 2 (List.map zka.pc s3.2.Replies)),(5,.cells (zA1 s3.2.S)),(3004,.row 56 false 5 (List.map zza.pc (([]:List zza)))),(2004,.row 28 false 2 (List.map zka.pc (([]:List zka)))),(1004,.row 5 false 1 (List.map cU (([]:List UInt8)))),(4,.cells [.s (([]:Str)),.i 0,.i 0,.i 0,.bo false,.bo false,.s (([]:Str)),.l zca.pc ([]),.l cU ([]),.hs 1004 0,.i 0,.i 0,.bo false,.i 0,.bo false,.bo false,.i 0,.hs 2004 0,.hs 3004 0]),(90003999,.hold (.any) (T.getD 0 undef))]) (.exit 0) (fun b4=>[(4,.ptr 4 0),(5,.ptr 5 0)]) (fun b4=>[(5,.cells (zA1 b4.S)),(90003010,.row 5 false 1 (List.map cU b4.S.Data)),(90003018,.row 28 false 2 (List.map zka.pc b4.Replies)),(90003019,.row 56 false 5 (List.map zza.pc b4.Mails)),(3004,.row 56 false 5 (List.map zza.pc (([]:List zza)))),(2004,.row 28 false 2 (List.map zka.pc (([]:List zka)))),(1004,.row 5 false 1 (List.map cU (([]:List UInt8)))),(4,.cells [.s (([]:Str)),.i 0,.i 0,.i 0,.bo false,.bo false,.s (([]:Str)),.l zca.pc ([]),.l cU ([]),.hs 1004 0,.i 0,.i 0,.bo false,.i 0,.bo false,.bo false,.i 0,.hs 2004 0,.hs 3004 0]),(90003999,.hold (.any) (T.getD 0 undef))]) rfl rfl (fun s3 x5 hr=>?_) (fun b4 hr=>?_)
 .unfold vza at hr;refine rn tk 5 rfl<|wn tk rfl rfl rfl<|rn tk 3 rfl<|ac 17 hr rfl (fun c6 hr=>?_) (fun c6 hr=>?_)
  .refine rn tk 2 rfl<|jb hr (fun j7=>[(1,.l cU a1),(4,.ptr 4 0),(5,.ptr 5 0),(6,.i s3.1)]) (fun j7=>[(5,.cells (zA1 j7.S)),(90003010,.row 5 false 1 (List.map cU j7.S.Data)),(90003018,.row 28 false 2 (List.map zka.pc j7.Replies)),(90003019,.row 56 false 5 (List.map zza.pc j7.Mails)),(3004,.row 56 false 5 (List.map zza.pc (([]:List zza)))),(2004,.row 28 false 2 (List.map zka.pc (([]:List zka)))),(1004,.row 5 false 1 (List.map cU (([]:List UInt8)))),(4,.cells [.s (([]:Str)),.i 0,.i 0,.i 0,.bo false,.bo false,.s (([]:Str)),.l zca.pc ([]),.l cU ([]),.hs 1004 0,.i 0,.i 0,.bo false,.i 0,.bo false,.bo false,.i 0,.hs 2004 0,.hs 3004 0]),(90003999,.hold (.any) (T.getD 0 undef))]) (fun j7 hr=>?_) (fun j7 hr=>?_)
   .refine rn tk 15 rfl<|ac 23 hr rfl (fun c8 hr=>?_) (fun c8 hr=>?_)
    .obtain ⟨v9,h10,hr⟩:=zaa hr;refine dr 5 [(29,.u8 v9),(28,.ep [pU v9]),(27,.i s3.1),(26,.l cU a1),(25,.agg (zA1 s3.2.S))] mixed (by kernel_rfl) rfl rfl (pq tk rfl (.plain rfl) (pq tk rfl (.plain rfl) (pq tk rfl (.plain rfl) (.run (.plain rfl) (kfa (qLa (f:=cU) rfl rfl zla zDa rfl h10)) (pq tk rfl (.plain rfl) .nil))))) rfl ?_;obtain ⟨v11,h12,hr⟩:=zaa hr;refine wo (zja (k:=30) (Jra s3.2 v9 v11 h12) rfl rfl (zba rfl (zba rfl (zba rfl zfa)))) rfl<|rn tk 4 rfl ?_;cases hr;exact jn _ rfl rfl rfl
    refine rn tk 6 rfl<|ac 31 hr rfl (fun c13 hr=>?_) (fun c13 hr=>?_)
    .obtain ⟨v14,h15,hr⟩:=zaa hr;refine dr 5 [(37,.u8 v14),(36,.ep [pU v14]),(35,.i s3.1),(34,.l cU a1),(33,.agg (zA1 s3.2.S))] mixed (by kernel_rfl) rfl rfl (pq tk rfl (.plain rfl) (pq tk rfl (.plain rfl) (pq tk rfl (.plain rfl) (.run (.plain rfl) (kfa (qLa (f:=cU) rfl rfl zla zDa rfl h15)) (pq tk rfl (.plain rfl) .nil))))) rfl ?_;obtain ⟨v16,h17,hr⟩:=zaa hr;refine wo (zja (k:=38) (Jna s3.2 v14 v16 h17) rfl rfl (zba rfl (zba rfl (zba rfl zfa)))) rfl<|rn tk 4 rfl ?_;cases hr;exact jn _ rfl rfl rfl
    refine rn tk 6 rfl<|ac 39 hr rfl (fun c18 hr=>?_) (fun c18 hr=>?_)
    .refine jb hr (fun j19=>[(1,.l cU a1),(4,.ptr 4 0),(5,.ptr 5 0),(6,.i s3.1)]) (fun j19=>[(5,.cells (zA1 j19.S)),(90003010,.row 5 false 1 (List.map cU j19.S.Data)),(90003018,.row 28 false 2 (List.map zka.pc j19.Replies)),(90003019,.row 56 false 5 (List.map zza.pc j19.Mails)),(3004,.row 56 false 5 (List.map zza.pc (([]:List zza)))),(2004,.row 28 false 2 (List.map zka.pc (([]:List zka)))),(1004,.row 5 false 1 (List.map cU (([]:List UInt8)))),(4,.cells [.s (([]:Str)),.i 0,.i 0,.i 0,.bo false,.bo false,.s (([]:Str)),.l zca.pc ([]),.l cU ([]),.hs 1004 0,.i 0,.i 0,.bo false,.i 0,.bo false,.bo false,.i 0,.hs 2004 0,.hs 3004 0]),(90003999,.hold (.any) (T.getD 0 undef))]) (fun j19 hr=>?_) (fun j19 hr=>?_)
     .refine rn tk 8 rfl<|ac 44 hr rfl (fun c20 hr=>?_) (fun c20 hr=>?_)
      .obtain ⟨v21,h22,hr⟩:=zaa hr;refine dr 5 [(49,.u8 v21),(48,.ep [pU v21]),(47,.i s3.1),(46,.l cU a1),(45,.agg (zA1 s3.2.S))] mixed (by kernel_rfl) rfl rfl (pq tk rfl (.plain rfl) (pq tk rfl (.plain rfl) (pq tk rfl (.plain rfl) (.run (.plain rfl) (kfa (qLa (f:=cU) rfl rfl zla zDa rfl h22)) (pq tk rfl (.plain rfl) .nil))))) rfl ?_;obtain ⟨v23,h24,hr⟩:=zaa hr;refine wo (zja (k:=50) (QUa s3.2 v21 v23 h24) rfl rfl (zba rfl (zba rfl (zba rfl zfa)))) rfl<|rn tk 2 rfl ?_;cases hr;exact jn _ rfl rfl rfl
      refine rn tk 1 rfl ?_;cases hr;exact jn _ rfl rfl rfl
     refine rn tk 19 rfl<|ac 60 hr rfl (fun c25 hr=>?_) (fun c25 hr=>?_)
     .refine rn tk 2 rfl ?_;obtain ⟨v26,h27,hr⟩:=zaa hr;refine wo (zja (k:=62) (KOa ((zda.mk ((zha.mk j19.S.Name j19.S.Size j19.S.Many j19.S.Phase j19.S.Greeted j19.S.Mailing j19.S.From j19.S.To j19.S.Buffer j19.S.Data j19.S.Lost j19.S.Dots j19.S.Chunked ((w64 (j19.S.Left - 1))) j19.S.Last j19.S.Ignore j19.S.Count)) j19.Replies j19.Mails)) v26 h27) rfl rfl (zba rfl (zba rfl (zba rfl zfa)))) rfl<|rn tk 4 rfl ?_;cases hr;exact jn _ rfl rfl rfl
     refine rn tk 3 rfl ?_;cases hr;exact jn _ rfl rfl rfl
    refine rn tk 3 rfl ?_;cases hr;exact jn _ rfl rfl rfl
   refine rn tk 5 rfl ?_;cases hr;exact atc rfl rfl
  refine rn tk 2 rfl ?_;cases hr;exact ato rfl rfl rfl rfl
 refine rn tk 9 rfl ?_;cases hr;exact krS tk (.inr rfl) rfl rfl (zba rfl (zba rfl (zba rfl (zba rfl zfa))))
theorem VEa(a0:zha)(r:zta)(hr:vba a0=some r):Run prog 31 [.agg (zA2 a0)] (.agg [.i r.Code,.i r.Index]):=by
 unfold vba at hr;refine rf (fn:=f31) ⟨func31,rfl,by kernel_rfl⟩ rfl (fun _=>rfl) fun g0 hg=>?_
 refine rn tk 7 rfl<|jb hr (fun j1=>[(1,.ptr 1 0),(2,.ptr 2 0),(12,.bo j1)]) (fun j1=>[(2,.cells [.i 0,.i 0]),(1,.cells (zA2 a0))]) (fun j1 hr=>?_) (fun j1 hr=>?_)
 .refine rn tk 3 rfl ?_;obtain ⟨v2,h3,hr⟩:=zaa hr;refine cl (KPa _ _ h3) rfl rfl<|rn tk 2 rfl<|bs 7 hr rfl (fun c4 hr=>?_) (fun c4 hr=>?_)
  .refine rn tk 6 rfl ?_;cases hr;exact jn _ rfl rfl rfl
  refine rn tk 6 rfl ?_;cases hr;exact jn _ rfl rfl rfl
 refine ac 12 hr rfl (fun c5 hr=>?_) (fun c5 hr=>?_)
 .refine rn tk 2 rfl ?_;obtain ⟨v6,h7,hr⟩:=zaa hr;refine cl (z7a _ _ _ h7) rfl rfl<|rn tk 5 rfl ?_;cases hr;exact kr tk (.inr rfl) rfl rfl
 refine rn tk 7 rfl ?_;obtain ⟨v8,h9,hr⟩:=zaa hr;refine cl (z8a _ _ _ _ h9) rfl rfl<|rn tk 3 rfl<|ac 17 hr rfl (fun c10 hr=>?_) (fun c10 hr=>?_)
 .refine rn tk 2 rfl ?_;obtain ⟨v11,h12,hr⟩:=zaa hr;refine cl (z7a _ _ _ h12) rfl rfl<|rn tk 5 rfl ?_;cases hr;exact kr tk (.inr rfl) rfl rfl
 refine rn tk 7 rfl ?_;obtain ⟨v13,h14,hr⟩:=zaa hr;refine cl (z8a _ _ _ _ h14) rfl rfl<|rn tk 3 rfl<|ac 22 hr rfl (fun c15 hr=>?_) (fun c15 hr=>?_)
 .refine rn tk 2 rfl ?_;obtain ⟨v16,h17,hr⟩:=zaa hr;refine cl (z7a _ _ _ h17) rfl rfl<|rn tk 5 rfl ?_;cases hr;exact kr tk (.inr rfl) rfl rfl
 refine rn tk 9 rfl ?_;cases hr;exact kr tk (.inr rfl) rfl rfl
theorem vPb(a0:List UInt8)(r:(List Str) × (List UInt8))(hr:Yya a0=some r):Run prog 50 [.l cU a0] (.tup [.l cS r.1,.l cU r.2]):=by
 unfold Yya at hr;refine KQa (fn:=f50) ⟨func50,rfl,by kernel_rfl⟩ rfl (fun _=>rfl) fun g0 hg=>?_
 refine wta ?_;refine kIa ?_;refine zva rfl (zwa (d:=2) rfl rfl kEa) ?_;refine zva rfl (zwa (d:=3) rfl rfl kEa) ?_;refine k5a<|kqa ?_;refine wta ?_;refine kIa ?_;refine zva rfl (zwa (d:=4) rfl rfl kEa) ?_;refine kXa 1004 (d:=4) 9 1 rfl rfl rfl ?_;refine k5a<|kqa ?_;refine wta ?_;refine kIa ?_;refine zva rfl (zwa (d:=5) rfl rfl kEa) ?_;refine k5a<|kqa ?_;refine wta ?_;refine wta ?_;refine kIa ?_;refine zva rfl (zwa (d:=6) rfl rfl kEa) ?_;refine k5a<|kqa ?_;refine Yaa ?_;obtain ⟨b2,hl,hr⟩:=zaa hr;refine vTb (kJa a0) (fun s1=>[(0,.l cU a0),(4,.hs 1004 0),(5,.i s1.1),(6,.i s1.2.1)]) (fun s1=>[(1004,.row 9 false 1 (List.map cS s1.2.2))]) (fun b2=>At (.exit 0) [(0,.l cU a0),(4,.hs 1004 0),(5,.i b2.1)] [(1004,.row 9 false 1 (List.map cS b2.2))]) ?_ ((0,1,([]:List Str))) hl (zga rfl (zga rfl (zga rfl (zga rfl zFa)))) (zba rfl zfa) ?_
 .intro s1 x3 hr;unfold kJa at hr;refine wta ?_;refine wta ?_;refine kIa ?_;refine zva rfl (zwa (d:=7) rfl rfl zUa) ?_;refine zva rfl (zwa (d:=8) rfl rfl zUa) ?_;refine zva rfl (zwa (d:=9) rfl rfl (yYa (f:=cU) rfl zla.u)) ?_;refine zva rfl (zwa (d:=10) rfl rfl (ev_lss rfl rfl)) ?_;refine k5a<|kqa ?_;refine QZa rfl (fun c4=>?_) (fun c4=>?_)
  .replace hr:=Yga c4 hr
   refine zxb<|kqa ?_;obtain ⟨j5,hx,hy⟩:=zaa hr;refine Q3a (fun j5=>[(0,.l cU a0),(4,.hs 1004 0),(5,.i j5.1),(6,.i s1.2.1)]) (fun j5=>[(1004,.row 9 false 1 (List.map cS j5.2))]) (fun z=>j5=z) ?_ ?_
   .have hr:=hx;clear hx hy;refine Yaa ?_;obtain ⟨j6,hx,hy⟩:=zaa hr;refine Q3a (fun j6=>[(0,.l cU a0),(4,.hs 1004 0),(5,.i s1.1),(6,.i s1.2.1),(30,.bo j6)]) (fun j6=>[(1004,.row 9 false 1 (List.map cS s1.2.2))]) (fun z=>j6=z) ?_ ?_
    .have hr:=hx;clear hx hy;refine kIa ?_;refine zva rfl (zwa (d:=13) rfl rfl zUa) ?_;refine zva rfl (zwa (d:=14) rfl rfl zUa) ?_;obtain ⟨v7,h8,hr⟩:=zaa hr;refine zva rfl (zwa (d:=15) rfl rfl (qLa (f:=cU) rfl rfl zla zDa rfl h8)) ?_;refine zva rfl (zwa (d:=16) rfl rfl (VIa rfl zDa rfl rfl)) ?_;refine zva rfl (zwa (d:=17) rfl rfl (yLb rfl rfl)) ?_;refine zva rfl (zwa (d:=18) rfl rfl zUa)<|jZa (((v7.toNat:Int)==10)) (fun c9=>?_) (fun c9=>?_)
     .replace hr:=Yga c9 hr
      refine kRa (d:=18) rfl rfl rfl c9 (zwa (d:=19) rfl rfl zUa) ?_;refine kRa (d:=18) rfl rfl rfl c9 (zwa (d:=20) rfl rfl zUa) ?_;refine kRa (d:=18) rfl rfl rfl c9 (zwa (d:=21) rfl rfl (kBb rfl rfl)) ?_;obtain ⟨v10,h11,hr⟩:=zaa hr;refine kRa (d:=18) rfl rfl rfl c9 (zwa (d:=22) rfl rfl (qLa (f:=cU) rfl rfl zla zDa rfl h11)) ?_;refine kRa (d:=18) rfl rfl rfl c9 (zwa (d:=23) rfl rfl (VIa rfl zDa rfl rfl)) ?_;refine kRa (d:=18) rfl rfl rfl c9 (zwa (d:=24) rfl rfl (yLb rfl rfl)) ?_;refine zva rfl (zwa (d:=25) rfl rfl (Z2a rfl c9)) ?_;refine zva rfl (zwa (d:=26) rfl rfl zUa)<|jZa (((v10.toNat:Int)==13)) (fun c12=>?_) (fun c12=>?_)
      .replace hr:=Yga c12 hr
       refine kRa (d:=26) rfl rfl rfl c12 (zwa (d:=27) rfl rfl zUa) ?_;refine kRa (d:=26) rfl rfl rfl c12 (zwa (d:=28) rfl rfl zUa) ?_;refine kRa (d:=26) rfl rfl rfl c12 (zwa (d:=29) rfl rfl (ev_gtr rfl rfl)) ?_;refine zva rfl (zwa (d:=30) rfl rfl (Z2a rfl c12)) ?_;refine k5a ?_;cases hr;exact vpa _ rfl (zga rfl (zga rfl (zga rfl (zga rfl (zga rfl zFa))))) (zba rfl zfa)
      replace hr:=Yha c12 hr
      refine k1a (d:=26) rfl rfl rfl c12 ?_;refine k1a (d:=26) rfl rfl rfl c12 ?_;refine k1a (d:=26) rfl rfl rfl c12 ?_;refine zva rfl (zwa (d:=30) rfl rfl (yWa rfl c12)) ?_;refine k5a ?_;cases hr;exact vpa _ rfl (zga rfl (zga rfl (zga rfl (zga rfl (zga rfl zFa))))) (zba rfl zfa)
     replace hr:=Yha c9 hr
     refine k1a (d:=18) rfl rfl rfl c9 ?_;refine k1a (d:=18) rfl rfl rfl c9 ?_;refine k1a (d:=18) rfl rfl rfl c9 ?_;refine k1a (d:=18) rfl rfl rfl c9 ?_;refine k1a (d:=18) rfl rfl rfl c9 ?_;refine k1a (d:=18) rfl rfl rfl c9 ?_;refine zva rfl (zwa (d:=25) rfl rfl (yWa rfl c9)) ?_;refine zva rfl (zwa (d:=26) rfl rfl zUa) ?_;refine k1a (d:=26) rfl rfl rfl rfl ?_;refine k1a (d:=26) rfl rfl rfl rfl ?_;refine k1a (d:=26) rfl rfl rfl rfl ?_;refine zva rfl (zwa (d:=30) rfl rfl (yWa rfl rfl)) ?_;refine k5a ?_;cases hr;exact vpa _ rfl (zga rfl (zga rfl (zga rfl (zga rfl (zga rfl zFa))))) (zba rfl zfa)
    rintro _ rfl;have hr:=hy;clear hx hy;refine QZa rfl (fun c13=>?_) (fun c13=>?_)
    .replace hr:=Yga c13 hr
     refine wta ?_;refine kIa ?_;refine zva rfl (zwa (d:=31) rfl rfl zUa) ?_;refine zva rfl (zwa (d:=32) rfl rfl zUa) ?_;refine zva rfl (zwa (d:=33) rfl rfl zUa) ?_;refine zva rfl (zwa (d:=34) rfl rfl zUa) ?_;refine zva rfl (zwa (d:=35) rfl rfl (kBb rfl rfl)) ?_;obtain ⟨v14,h15,hr⟩:=zaa hr;refine zva rfl (zwa (d:=36) rfl rfl (ev_cutLH (F:=cU) rfl rfl rfl zla zDa (fun _=>rfl) h15)) ?_;refine zva rfl (zwa (d:=37) rfl rfl (KRa rfl zla zDa zCa)) ?_;refine zva rfl (Q6a (d:=38) rfl rfl (vda (F:=cS) (l:=([v14]:List Str)) vsa zCa rfl (fun _=>rfl) rfl rfl)) ?_;obtain ⟨v16,h17,hr⟩:=zaa hr;refine zva rfl (wca (k:=39) (F:=cS) (l:=s1.2.2) (xs:=(([v14]:List Str))) (lim:=8796093022208) rfl rfl rfl rfl vsa zCa rfl rfl (fun _=>rfl) rfl h17) ?_;refine zva rfl (zwa (d:=4) rfl rfl kEa) ?_;refine k5a<|kqa ?_;refine kIa ?_;refine zva rfl (zwa (d:=40) rfl rfl zUa) ?_;refine zva rfl (zwa (d:=41) rfl rfl (vUb rfl rfl)) ?_;refine zva rfl (zwa (d:=5) rfl rfl kEa) ?_;refine k5a<|QXa ?_;cases hr;exact vpa _ rfl (zga rfl (zga rfl (zga rfl (zga rfl zFa)))) (zba rfl zfa)
    replace hr:=Yha c13 hr
    refine zxb<|QXa ?_;cases hr;exact vpa _ rfl (zga rfl (zga rfl (zga rfl (zga rfl zFa)))) (zba rfl zfa)
   rintro _ rfl;have hr:=hy;clear hx hy;refine kIa ?_;refine zva rfl (zwa (d:=11) rfl rfl zUa) ?_;refine zva rfl (zwa (d:=12) rfl rfl (vUb rfl rfl)) ?_;refine zva rfl (zwa (d:=6) rfl rfl kEa) ?_;refine k5a ?_;cases hr;exact ⟨rfl,(zga rfl (zga rfl (zga rfl (zga rfl zFa)))),(zba rfl zfa)⟩
  replace hr:=Yha c4 hr
  refine vQb<|wMb ?_;cases hr;exact ⟨by simp,rfl,(zga rfl (zga rfl (zga rfl zFa))),(zba rfl zfa)⟩
 intro e fr2 st2 hq;obtain ⟨rfl,hf,hs⟩:=hq;refine Yba<|kqa ?_;refine vRb hf hs ?_;refine wta ?_;obtain ⟨v18,h19,hr⟩:=zaa hr;refine kHb 5 [(2,.hs 1004 0),(45,.l cU v18),(44,.i b2.1),(43,.l cU a0),(42,.hs 1004 0)] mixed (by kernel_rfl) rfl rfl (.run (.plain rfl) (kfa zUa) (.run (.plain rfl) (kfa zUa) (.run (.plain rfl) (kfa zUa) (.run (.plain rfl) (kfa (qQb (F:=cU) rfl rfl zla zDa (fun _=>rfl) h19)) (.run (.plain rfl) (kfa kEa) .nil))))) rfl ?_;refine zva rfl (zwa (d:=3) rfl rfl kEa) ?_;refine k5a<|kqa ?_;refine wda (d:=2) (F:=cS) (l:=b2.2) rfl rfl ?_;refine zyb ?_;cases hr;exact kret' rfl (.cons (Yfa rfl) (.cons (Yfa rfl) .nil)) rfl
theorem kwb(a0:List UInt8)(r:Bool)(hr:Kia a0=some r):Run prog 70 [.l cU a0] (.bo r):=by
 unfold Kia at hr;refine rf (fn:=f70) ⟨func70,rfl,by kernel_rfl⟩ rfl (fun _=>rfl) fun g0 hg=>?_
 refine rn tk 8 rfl ?_;obtain ⟨v1,h2,hr⟩:=zaa hr;refine cl (vPb _ _ h2) rfl rfl<|rn tk 10 rfl<|wn tk rfl rfl rfl<|rn tk 5 rfl ?_;cases hr;exact kr tk (.inr rfl) rfl rfl
theorem QWa(a0:zKa)(r:zta)(hr:vua a0=some r):Run prog 48 [.agg [.s a0.From,.l zca.pc a0.To,.s a0.Id]] (.agg [.i r.Code,.i r.Index]):=by
 unfold vua at hr;refine rf (fn:=f48) ⟨func48,rfl,by kernel_rfl⟩ rfl (fun _=>rfl) fun g0 hg=>?_
 refine rn tk 7 rfl<|jb hr (fun j1=>[(1,.ptr 1 0),(2,.ptr 2 0),(12,.bo j1)]) (fun j1=>[(2,.cells [.i 0,.i 0]),(1,.cells [.s a0.From,.l zca.pc a0.To,.s a0.Id])]) (fun j1 hr=>?_) (fun j1 hr=>?_)
 .refine rn tk 5 rfl<|bs 7 hr rfl (fun c2 hr=>?_) (fun c2 hr=>?_)
  .refine rn tk 2 rfl ?_;obtain ⟨v3,h4,hr⟩:=zaa hr;refine ug rfl rfl rfl<|cl (qJa _ _ h4) rfl rfl<|rn tk 3 rfl ?_;cases hr;exact jn _ rfl rfl rfl
  refine rn tk 6 rfl ?_;cases hr;exact jn _ rfl rfl rfl
 refine ac 12 hr rfl (fun c5 hr=>?_) (fun c5 hr=>?_)
 .refine rn tk 2 rfl ?_;obtain ⟨v6,h7,hr⟩:=zaa hr;refine cl (z7a _ _ _ h7) rfl rfl<|rn tk 5 rfl ?_;cases hr;exact kr tk (.inr rfl) rfl rfl
 refine rn tk 7 rfl<|wn tk rfl rfl rfl ?_;obtain ⟨v8,h9,hr⟩:=zaa hr;refine cl (z8a _ _ _ _ h9) rfl rfl<|rn tk 3 rfl<|ac 18 hr rfl (fun c10 hr=>?_) (fun c10 hr=>?_)
 .refine rn tk 2 rfl ?_;obtain ⟨v11,h12,hr⟩:=zaa hr;refine cl (z7a _ _ _ h12) rfl rfl<|rn tk 5 rfl ?_;cases hr;exact kr tk (.inr rfl) rfl rfl
 refine rn tk 3 rfl<|jb hr (fun j13=>[(1,.ptr 1 0),(2,.ptr 2 0),(28,.bo j13)]) (fun j13=>[(2,.cells [.i 0,.i 0]),(1,.cells [.s a0.From,.l zca.pc a0.To,.s a0.Id])]) (fun j13 hr=>?_) (fun j13 hr=>?_)
 .refine rn tk 5 rfl<|bs 23 hr rfl (fun c14 hr=>?_) (fun c14 hr=>?_)
  .refine rn tk 2 rfl ?_;obtain ⟨v15,h16,hr⟩:=zaa hr;refine ug rfl rfl rfl<|cl (KPa _ _ h16) rfl rfl<|rn tk 3 rfl ?_;cases hr;exact jn _ rfl rfl rfl
  refine rn tk 6 rfl ?_;cases hr;exact jn _ rfl rfl rfl
 refine ac 28 hr rfl (fun c17 hr=>?_) (fun c17 hr=>?_)
 .refine rn tk 2 rfl ?_;obtain ⟨v18,h19,hr⟩:=zaa hr;refine cl (z7a _ _ _ h19) rfl rfl<|rn tk 5 rfl ?_;cases hr;exact kr tk (.inr rfl) rfl rfl
 refine rn tk 9 rfl<|al2 hr (fun s20=>[(1,.ptr 1 0),(2,.ptr 2 0),(3,.i s20)]) (fun s20=>[(2,.cells [.i 0,.i 0]),(1,.cells [.s a0.From,.l zca.pc a0.To,.s a0.Id])]) (.exit 0) (fun b21=>[(2,.ptr 2 0)]) (fun b21=>[(2,.cells [.i 0,.i 0])]) .ret (fun b22=>[(2,.ptr 2 0)]) (fun b22=>[(2,.cells [.i b22.Code,.i b22.Index])]) rfl rfl (fun s20 x24 hr=>?_) (fun b21 hr=>?_) (fun b22 hr=>?_)
 .unfold qea at hr;refine rn tk 6 rfl<|wn tk rfl rfl rfl<|rn tk 3 rfl<|ac 34 hr rfl (fun c25 hr=>?_) (fun c25 hr=>?_)
  .refine rn tk 10 rfl ?_;obtain ⟨v26,h27,hr⟩:=zaa hr;refine wi tk h27 rfl rfl rfl rfl rfl<|rn tk 2 rfl ?_;obtain ⟨v28,h29,hr⟩:=zaa hr;refine cl (qJa _ _ h29) rfl rfl<|rn tk 3 rfl<|ac 44 hr rfl (fun c30 hr=>?_) (fun c30 hr=>?_)
   .refine rn tk 3 rfl ?_;obtain ⟨v31,h32,hr⟩:=zaa hr;refine cl (z7a _ _ _ h32) rfl rfl<|rn tk 7 rfl ?_;cases hr;exact ato rfl rfl rfl rfl
   refine rn tk 8 rfl ?_;obtain ⟨v33,h34,hr⟩:=zaa hr;refine wi tk h34 rfl rfl rfl rfl rfl<|rn tk 2 rfl ?_;obtain ⟨v35,h36,hr⟩:=zaa hr;refine cl (z8a _ _ _ _ h36) rfl rfl<|rn tk 3 rfl<|ac 54 hr rfl (fun c37 hr=>?_) (fun c37 hr=>?_)
   .refine rn tk 3 rfl ?_;obtain ⟨v38,h39,hr⟩:=zaa hr;refine cl (z7a _ _ _ h39) rfl rfl<|rn tk 7 rfl ?_;cases hr;exact ato rfl rfl rfl rfl
   refine rn tk 3 rfl ?_;obtain ⟨v40,h41,hr⟩:=zaa hr;obtain ⟨v42,h43,hr⟩:=zaa hr;refine dr 10 [(66,.s v42.Address),(65,.ep [pS v42.Address,pI v42.Notify]),(64,.ep [pS v42.Address,pI v42.Notify]),(63,.i s20),(62,.l zca.pc a0.To),(61,.ptr 1 1),(60,.l zca.pc v40),(59,.i s20),(58,.l zca.pc a0.To),(57,.ptr 1 1)] mixed (by kernel_rfl) rfl rfl (pq tk rfl (.plain rfl) (pq tk rfl (.plain rfl) (pq tk rfl (.plain rfl) (.run (.plain rfl) (kfa (yTb (F:=zca.pc) rfl rfl zna zya (fun _=>rfl) h41)) (pq tk rfl (.plain rfl) (pq tk rfl (.plain rfl) (pq tk rfl (.plain rfl) (.run (.plain rfl) (kfa (qLa (f:=zca.pc) rfl rfl zna zya rfl h43)) (pq tk rfl (.plain rfl) (pq tk rfl (.plain rfl) .nil)))))))))) rfl ?_;obtain ⟨v44,h45,hr⟩:=zaa hr;refine cl (Joa _ _ _ h45) rfl rfl<|rn tk 3 rfl<|ac 68 hr rfl (fun c46 hr=>?_) (fun c46 hr=>?_)
   .refine rn tk 3 rfl ?_;obtain ⟨v47,h48,hr⟩:=zaa hr;refine cl (z7a _ _ _ h48) rfl rfl<|rn tk 6 rfl ?_;cases hr;exact ato rfl rfl rfl rfl
   refine rn tk 8 rfl ?_;cases hr;exact atc rfl rfl
  refine rn tk 2 rfl ?_;cases hr;exact ato rfl rfl rfl rfl
 .refine rn tk 9 rfl ?_;cases hr;exact kr tk (.inr rfl) rfl rfl
 refine rn tk 2 rfl ?_;cases hr;exact kr tk (.inr rfl) rfl rfl
theorem JNa(a0:zha)(r:Bool)(hr:Zea a0=some r):Run prog 43 [.agg (zA2 a0)] (.bo r):=by
 unfold Zea at hr;refine rf (fn:=f43) ⟨func43,rfl,by kernel_rfl⟩ rfl (fun _=>rfl) fun g0 hg=>?_
 refine rn tk 7 rfl<|jb hr (fun j1=>[(1,.ptr 1 0),(19,.bo j1)]) (fun j1=>[(1,.cells (zA2 a0))]) (fun j1 hr=>?_) (fun j1 hr=>?_)
 .refine rn tk 5 rfl<|bs 6 hr rfl (fun c2 hr=>?_) (fun c2 hr=>?_)
  .refine rn tk 2 rfl ?_;obtain ⟨v3,h4,hr⟩:=zaa hr;refine ug rfl rfl rfl<|cl (qJa _ _ h4) rfl rfl<|rn tk 3 rfl<|bs 12 hr rfl (fun c5 hr=>?_) (fun c5 hr=>?_)
   .refine rn tk 8 rfl ?_;cases hr;exact jn _ rfl rfl rfl
   refine rn tk 2 rfl<|ug rfl rfl rfl<|wn tk rfl rfl rfl<|rn tk 5 rfl ?_;cases hr;exact jn _ rfl rfl rfl
  refine rn tk 8 rfl<|ug rfl rfl rfl<|wn tk rfl rfl rfl<|rn tk 5 rfl ?_;cases hr;exact jn _ rfl rfl rfl
 refine ac 19 hr rfl (fun c6 hr=>?_) (fun c6 hr=>?_)
 .refine rn tk 7 rfl ?_;cases hr;exact kr tk (.inr rfl) rfl rfl
 refine rn tk 3 rfl<|jb hr (fun j7=>[(1,.ptr 1 0),(31,.bo j7)]) (fun j7=>[(1,.cells (zA2 a0))]) (fun j7 hr=>?_) (fun j7 hr=>?_)
 .refine rn tk 3 rfl<|wn tk rfl rfl rfl<|rn tk 2 rfl<|bs 24 hr rfl (fun c8 hr=>?_) (fun c8 hr=>?_)
  .refine rn tk 3 rfl ?_;obtain ⟨v9,h10,hr⟩:=zaa hr;refine ug rfl rfl rfl<|cl (QWa _ _ h10) rfl rfl<|rn tk 4 rfl ?_;cases hr;exact jn _ rfl rfl rfl
  refine rn tk 8 rfl ?_;cases hr;exact jn _ rfl rfl rfl
 refine ac 31 hr rfl (fun c11 hr=>?_) (fun c11 hr=>?_)
 .refine rn tk 7 rfl ?_;cases hr;exact kr tk (.inr rfl) rfl rfl
 refine rn tk 3 rfl<|jb hr (fun j12=>[(1,.ptr 1 0),(58,.bo j12)]) (fun j12=>[(1,.cells (zA2 a0))]) (fun j12 hr=>?_) (fun j12 hr=>?_)
 .refine rn tk 4 rfl<|bs 34 hr rfl (fun c13 hr=>?_) (fun c13 hr=>?_)
  .refine rn tk 5 rfl<|bs 39 hr rfl (fun c14 hr=>?_) (fun c14 hr=>?_)
   .refine rn tk 20 rfl ?_;cases hr;exact jn _ rfl rfl rfl
   refine rn tk 4 rfl<|bs 43 hr rfl (fun c15 hr=>?_) (fun c15 hr=>?_)
   .refine rn tk 4 rfl<|bs 47 hr rfl (fun c16 hr=>?_) (fun c16 hr=>?_)
    .refine rn tk 12 rfl ?_;cases hr;exact jn _ rfl rfl rfl
    refine rn tk 2 rfl<|ug rfl rfl rfl<|wn tk rfl rfl rfl<|rn tk 3 rfl<|bs 53 hr rfl (fun c17 hr=>?_) (fun c17 hr=>?_)
    .refine rn tk 6 rfl ?_;cases hr;exact jn _ rfl rfl rfl
    refine rn tk 6 rfl ?_;cases hr;exact jn _ rfl rfl rfl
   refine rn tk 16 rfl ?_;cases hr;exact jn _ rfl rfl rfl
  refine rn tk 9 rfl<|bs 43 hr rfl (fun c18 hr=>?_) (fun c18 hr=>?_)
  .refine rn tk 4 rfl<|bs 47 hr rfl (fun c19 hr=>?_) (fun c19 hr=>?_)
   .refine rn tk 12 rfl ?_;cases hr;exact jn _ rfl rfl rfl
   refine rn tk 2 rfl<|ug rfl rfl rfl<|wn tk rfl rfl rfl<|rn tk 3 rfl<|bs 53 hr rfl (fun c20 hr=>?_) (fun c20 hr=>?_)
   .refine rn tk 6 rfl ?_;cases hr;exact jn _ rfl rfl rfl
   refine rn tk 6 rfl ?_;cases hr;exact jn _ rfl rfl rfl
  refine rn tk 16 rfl ?_;cases hr;exact jn _ rfl rfl rfl
 refine ac 58 hr rfl (fun c21 hr=>?_) (fun c21 hr=>?_)
 .refine rn tk 7 rfl ?_;cases hr;exact kr tk (.inr rfl) rfl rfl
 refine rn tk 3 rfl<|jb hr (fun j22=>[(1,.ptr 1 0),(66,.bo j22)]) (fun j22=>[(1,.cells (zA2 a0))]) (fun j22 hr=>?_) (fun j22 hr=>?_)
 .refine rn tk 4 rfl<|bs 61 hr rfl (fun c23 hr=>?_) (fun c23 hr=>?_)
  .refine rn tk 2 rfl<|ug rfl rfl rfl<|wn tk rfl rfl rfl<|rn tk 3 rfl ?_;cases hr;exact jn _ rfl rfl rfl
  refine rn tk 6 rfl ?_;cases hr;exact jn _ rfl rfl rfl
 refine ac 66 hr rfl (fun c24 hr=>?_) (fun c24 hr=>?_)
 .refine rn tk 7 rfl ?_;cases hr;exact kr tk (.inr rfl) rfl rfl
 refine rn tk 3 rfl<|jb hr (fun j25=>[(1,.ptr 1 0),(84,.bo j25)]) (fun j25=>[(1,.cells (zA2 a0))]) (fun j25 hr=>?_) (fun j25 hr=>?_)
 .refine rn tk 3 rfl<|wn tk rfl rfl rfl<|rn tk 4 rfl<|bs 73 hr rfl (fun c26 hr=>?_) (fun c26 hr=>?_)
  .refine rn tk 12 rfl ?_;cases hr;exact jn _ rfl rfl rfl
  refine rn tk 2 rfl ?_;obtain ⟨v27,h28,hr⟩:=zaa hr;refine ug rfl rfl rfl<|cl (z8a _ _ _ _ h28) rfl rfl<|rn tk 3 rfl<|bs 79 hr rfl (fun c29 hr=>?_) (fun c29 hr=>?_)
  .refine rn tk 6 rfl ?_;cases hr;exact jn _ rfl rfl rfl
  refine rn tk 2 rfl ?_;obtain ⟨v30,h31,hr⟩:=zaa hr;refine ug rfl rfl rfl<|cl (z8a _ _ _ _ h31) rfl rfl<|rn tk 3 rfl ?_;cases hr;exact jn _ rfl rfl rfl
 refine ac 84 hr rfl (fun c32 hr=>?_) (fun c32 hr=>?_)
 .refine rn tk 7 rfl ?_;cases hr;exact kr tk (.inr rfl) rfl rfl
 refine rn tk 3 rfl<|jb hr (fun j33=>[(1,.ptr 1 0),(103,.bo j33)]) (fun j33=>[(1,.cells (zA2 a0))]) (fun j33 hr=>?_) (fun j33 hr=>?_)
 .refine rn tk 3 rfl<|wn tk rfl rfl rfl<|rn tk 2 rfl<|bs 89 hr rfl (fun c34 hr=>?_) (fun c34 hr=>?_)
  .refine rn tk 10 rfl<|bs 99 hr rfl (fun c35 hr=>?_) (fun c35 hr=>?_)
   .refine rn tk 5 rfl ?_;cases hr;exact jn _ rfl rfl rfl
   refine rn tk 5 rfl ?_;cases hr;exact jn _ rfl rfl rfl
  refine rn tk 5 rfl<|bs 94 hr rfl (fun c36 hr=>?_) (fun c36 hr=>?_)
  .refine rn tk 5 rfl<|bs 99 hr rfl (fun c37 hr=>?_) (fun c37 hr=>?_)
   .refine rn tk 5 rfl ?_;cases hr;exact jn _ rfl rfl rfl
   refine rn tk 5 rfl ?_;cases hr;exact jn _ rfl rfl rfl
  refine rn tk 10 rfl ?_;cases hr;exact jn _ rfl rfl rfl
 refine ac 103 hr rfl (fun c38 hr=>?_) (fun c38 hr=>?_)
 .refine rn tk 7 rfl ?_;cases hr;exact kr tk (.inr rfl) rfl rfl
 refine rn tk 3 rfl<|jb hr (fun j39=>[(1,.ptr 1 0),(140,.bo j39)]) (fun j39=>[(1,.cells (zA2 a0))]) (fun j39 hr=>?_) (fun j39 hr=>?_)
 .refine rn tk 5 rfl<|bs 107 hr rfl (fun c40 hr=>?_) (fun c40 hr=>?_)
  .refine rn tk 2 rfl<|ug rfl rfl rfl<|wn tk rfl rfl rfl<|rn tk 3 rfl<|bs 113 hr rfl (fun c41 hr=>?_) (fun c41 hr=>?_)
   .refine rn tk 28 rfl ?_;cases hr;exact jn _ rfl rfl rfl
   refine rn tk 4 rfl<|bs 117 hr rfl (fun c42 hr=>?_) (fun c42 hr=>?_)
   .refine rn tk 6 rfl<|bs 123 hr rfl (fun c43 hr=>?_) (fun c43 hr=>?_)
    .refine rn tk 18 rfl ?_;cases hr;exact jn _ rfl rfl rfl
    refine rn tk 4 rfl<|bs 127 hr rfl (fun c44 hr=>?_) (fun c44 hr=>?_)
    .refine rn tk 4 rfl<|bs 131 hr rfl (fun c45 hr=>?_) (fun c45 hr=>?_)
     .refine rn tk 10 rfl ?_;cases hr;exact jn _ rfl rfl rfl
     refine rn tk 4 rfl<|bs 135 hr rfl (fun c46 hr=>?_) (fun c46 hr=>?_)
     .refine rn tk 6 rfl ?_;cases hr;exact jn _ rfl rfl rfl
     refine rn tk 6 rfl ?_;cases hr;exact jn _ rfl rfl rfl
    refine rn tk 14 rfl ?_;cases hr;exact jn _ rfl rfl rfl
   refine rn tk 10 rfl<|bs 127 hr rfl (fun c47 hr=>?_) (fun c47 hr=>?_)
   .refine rn tk 4 rfl<|bs 131 hr rfl (fun c48 hr=>?_) (fun c48 hr=>?_)
    .refine rn tk 10 rfl ?_;cases hr;exact jn _ rfl rfl rfl
    refine rn tk 4 rfl<|bs 135 hr rfl (fun c49 hr=>?_) (fun c49 hr=>?_)
    .refine rn tk 6 rfl ?_;cases hr;exact jn _ rfl rfl rfl
    refine rn tk 6 rfl ?_;cases hr;exact jn _ rfl rfl rfl
   refine rn tk 14 rfl ?_;cases hr;exact jn _ rfl rfl rfl
  refine rn tk 10 rfl<|bs 117 hr rfl (fun c50 hr=>?_) (fun c50 hr=>?_)
  .refine rn tk 6 rfl<|bs 123 hr rfl (fun c51 hr=>?_) (fun c51 hr=>?_)
   .refine rn tk 18 rfl ?_;cases hr;exact jn _ rfl rfl rfl
   refine rn tk 4 rfl<|bs 127 hr rfl (fun c52 hr=>?_) (fun c52 hr=>?_)
   .refine rn tk 4 rfl<|bs 131 hr rfl (fun c53 hr=>?_) (fun c53 hr=>?_)
    .refine rn tk 10 rfl ?_;cases hr;exact jn _ rfl rfl rfl
    refine rn tk 4 rfl<|bs 135 hr rfl (fun c54 hr=>?_) (fun c54 hr=>?_)
    .refine rn tk 6 rfl ?_;cases hr;exact jn _ rfl rfl rfl
    refine rn tk 6 rfl ?_;cases hr;exact jn _ rfl rfl rfl
   refine rn tk 14 rfl ?_;cases hr;exact jn _ rfl rfl rfl
  refine rn tk 10 rfl<|bs 127 hr rfl (fun c55 hr=>?_) (fun c55 hr=>?_)
  .refine rn tk 4 rfl<|bs 131 hr rfl (fun c56 hr=>?_) (fun c56 hr=>?_)
   .refine rn tk 10 rfl ?_;cases hr;exact jn _ rfl rfl rfl
   refine rn tk 4 rfl<|bs 135 hr rfl (fun c57 hr=>?_) (fun c57 hr=>?_)
   .refine rn tk 6 rfl ?_;cases hr;exact jn _ rfl rfl rfl
   refine rn tk 6 rfl ?_;cases hr;exact jn _ rfl rfl rfl
  refine rn tk 14 rfl ?_;cases hr;exact jn _ rfl rfl rfl
 refine ac 140 hr rfl (fun c58 hr=>?_) (fun c58 hr=>?_)
 .refine rn tk 7 rfl ?_;cases hr;exact kr tk (.inr rfl) rfl rfl
 refine rn tk 16 rfl<|ac 143 hr rfl (fun c59 hr=>?_) (fun c59 hr=>?_)
 .refine jb hr (fun j60=>[(2,.bo j60)]) (fun j60=>[]) (fun j60 hr=>?_) (fun j60 hr=>?_)
  .refine rn tk 3 rfl<|wn tk rfl rfl rfl<|rn tk 2 rfl<|bs 149 hr rfl (fun c61 hr=>?_) (fun c61 hr=>?_)
   .refine rn tk 2 rfl ?_;obtain ⟨v62,h63,hr⟩:=zaa hr;refine ug rfl rfl rfl<|cl (kwb _ _ h63) rfl rfl<|rn tk 4 rfl ?_;cases hr;exact jn _ rfl rfl rfl
   refine rn tk 7 rfl ?_;cases hr;exact jn _ rfl rfl rfl
  refine rn tk 3 rfl ?_;cases hr;exact kr tk (.inr rfl) rfl rfl
 refine rn tk 6 rfl<|ac 155 hr rfl (fun c64 hr=>?_) (fun c64 hr=>?_)
 .refine jb hr (fun j65=>[(2,.bo j65)]) (fun j65=>[]) (fun j65 hr=>?_) (fun j65 hr=>?_)
  .refine rn tk 4 rfl<|bs 159 hr rfl (fun c66 hr=>?_) (fun c66 hr=>?_)
   .refine rn tk 2 rfl<|ug rfl rfl rfl<|wn tk rfl rfl rfl<|rn tk 3 rfl<|bs 165 hr rfl (fun c67 hr=>?_) (fun c67 hr=>?_)
    .refine rn tk 5 rfl<|bs 170 hr rfl (fun c68 hr=>?_) (fun c68 hr=>?_)
     .refine rn tk 2 rfl ?_;obtain ⟨v69,h70,hr⟩:=zaa hr;refine ug rfl rfl rfl<|cl (z8a _ _ _ _ h70) rfl rfl<|rn tk 3 rfl ?_;cases hr;exact jn _ rfl rfl rfl
     refine rn tk 6 rfl ?_;cases hr;exact jn _ rfl rfl rfl
    refine rn tk 11 rfl ?_;cases hr;exact jn _ rfl rfl rfl
   refine rn tk 17 rfl ?_;cases hr;exact jn _ rfl rfl rfl
  refine rn tk 3 rfl ?_;cases hr;exact kr tk (.inr rfl) rfl rfl
 refine rn tk 6 rfl<|ac 175 hr rfl (fun c71 hr=>?_) (fun c71 hr=>?_)
 .refine jb hr (fun j72=>[(2,.bo j72)]) (fun j72=>[]) (fun j72 hr=>?_) (fun j72 hr=>?_)
  .refine rn tk 5 rfl<|wn tk rfl rfl rfl<|rn tk 3 rfl<|bs 184 hr rfl (fun c73 hr=>?_) (fun c73 hr=>?_)
   .refine rn tk 8 rfl<|bs 192 hr rfl (fun c74 hr=>?_) (fun c74 hr=>?_)
    .refine rn tk 2 rfl ?_;obtain ⟨v75,h76,hr⟩:=zaa hr;refine ug rfl rfl rfl<|cl (z8a _ _ _ _ h76) rfl rfl<|rn tk 3 rfl ?_;cases hr;exact jn _ rfl rfl rfl
    refine rn tk 6 rfl ?_;cases hr;exact jn _ rfl rfl rfl
   refine rn tk 14 rfl ?_;cases hr;exact jn _ rfl rfl rfl
  refine rn tk 3 rfl ?_;cases hr;exact kr tk (.inr rfl) rfl rfl
 refine rn tk 6 rfl<|ac 197 hr rfl (fun c77 hr=>?_) (fun c77 hr=>?_)
 .refine rn tk 11 rfl ?_;cases hr;exact kr tk (.inr rfl) rfl rfl
 refine rn tk 9 rfl ?_;cases hr;exact kr tk (.inr rfl) rfl rfl
theorem VFa(a0:zha)(r:zta)(hr:v4a a0=some r):Run prog 14 [.agg (zA2 a0)] (.agg [.i r.Code,.i r.Index]):=by
 unfold v4a at hr;refine rf (fn:=f14) ⟨func14,rfl,by kernel_rfl⟩ rfl (fun _=>rfl) fun g0 hg=>?_
 refine rn tk 9 rfl ?_;obtain ⟨v1,h2,hr⟩:=zaa hr;refine cl (VEa _ _ h2) rfl rfl<|rn tk 4 rfl<|jb hr (fun j3=>[(2,.ptr 2 0),(3,.ptr 3 0)]) (fun j3=>[(3,.cells [.i j3.1,.i j3.2]),(2,.cells [.i 0,.i 0])]) (fun j3 hr=>?_) (fun j3 hr=>?_)
 .refine jb hr (fun j4=>[(2,.ptr 2 0),(3,.ptr 3 0),(13,.bo j4)]) (fun j4=>[(3,.cells [.i v1.Code,.i v1.Index]),(2,.cells [.i 0,.i 0])]) (fun j4 hr=>?_) (fun j4 hr=>?_)
  .refine rn tk 5 rfl<|bs 9 hr rfl (fun c5 hr=>?_) (fun c5 hr=>?_)
   .refine rn tk 1 rfl ?_;obtain ⟨v6,h7,hr⟩:=zaa hr;refine ug rfl rfl rfl<|cl (JNa _ _ h7) rfl rfl<|rn tk 3 rfl ?_;cases hr;exact jn _ rfl rfl rfl
   refine rn tk 5 rfl ?_;cases hr;exact jn _ rfl rfl rfl
  refine ac 13 hr rfl (fun c8 hr=>?_) (fun c8 hr=>?_)
  .refine rn tk 1 rfl ?_;obtain ⟨v9,h10,hr⟩:=zaa hr;refine cl (z7a _ _ _ h10) rfl rfl<|rn tk 2 rfl ?_;cases hr;exact jn _ rfl rfl rfl
  refine rn tk 1 rfl ?_;cases hr;exact jn _ rfl rfl rfl
 refine rn tk 7 rfl ?_;cases hr;exact kr tk (.inr rfl) rfl rfl
theorem Wja(a0:zBa)(a1:zBa)(r:Bool)(hr:wBa a0 a1=some r):Run prog 52 [.agg [.l zia.pc a0.Fields,.l cU a0.Body],.agg [.l zia.pc a1.Fields,.l cU a1.Body]] (.bo r):=by
 unfold wBa at hr;refine rf (fn:=f52) ⟨func52,rfl,by kernel_rfl⟩ rfl (fun _=>rfl) fun g0 hg=>?_
 refine rn tk 8 rfl<|jb hr (fun j1=>[(2,.ptr 2 0),(3,.ptr 3 0),(21,.bo j1)]) (fun j1=>[(3,.cells [.l zia.pc a1.Fields,.l cU a1.Body]),(2,.cells [.l zia.pc a0.Fields,.l cU a0.Body])]) (fun j1 hr=>?_) (fun j1 hr=>?_)
 .refine rn tk 3 rfl<|wn tk rfl rfl rfl<|rn tk 2 rfl<|wn tk rfl rfl rfl<|rn tk 2 rfl<|bs 13 hr rfl (fun c2 hr=>?_) (fun c2 hr=>?_)
  .refine rn tk 9 rfl ?_;cases hr;exact jn _ rfl rfl rfl
  refine rn tk 2 rfl<|ug rfl rfl rfl<|wb tk rfl rfl rfl<|rn tk 2 rfl<|ug rfl rfl rfl<|wb tk rfl rfl rfl<|rn tk 3 rfl ?_;cases hr;exact jn _ rfl rfl rfl
 refine ac 21 hr rfl (fun c3 hr=>?_) (fun c3 hr=>?_)
 .refine rn tk 7 rfl ?_;cases hr;exact kr tk (.inr rfl) rfl rfl
 refine rn tk 9 rfl<|al2 hr (fun s4=>[(2,.ptr 2 0),(3,.ptr 3 0),(5,.i s4)]) (fun s4=>[(3,.cells [.l zia.pc a1.Fields,.l cU a1.Body]),(2,.cells [.l zia.pc a0.Fields,.l cU a0.Body])]) (.exit 0) (fun b5=>[]) (fun b5=>[]) .ret (fun b6=>[(4,.bo b6)]) (fun b6=>[]) rfl rfl (fun s4 x8 hr=>?_) (fun b5 hr=>?_) (fun b6 hr=>?_)
 .unfold v7a at hr;refine rn tk 6 rfl<|wn tk rfl rfl rfl<|rn tk 3 rfl<|ac 26 hr rfl (fun c9 hr=>?_) (fun c9 hr=>?_)
  .refine rn tk 5 rfl ?_;obtain ⟨v10,h11,hr⟩:=zaa hr;obtain ⟨v12,h13,hr⟩:=zaa hr;refine dr 10 [(38,.agg [.s v12.Name,.s v12.Value]),(37,.ep [pS v12.Name,pS v12.Value]),(36,.i s4),(35,.l zia.pc a1.Fields),(34,.ptr 3 0),(33,.agg [.s v10.Name,.s v10.Value]),(32,.ep [pS v10.Name,pS v10.Value]),(31,.i s4),(30,.l zia.pc a0.Fields),(29,.ptr 2 0)] mixed (by kernel_rfl) rfl rfl (pq tk rfl (.plain rfl) (pq tk rfl (.plain rfl) (pq tk rfl (.plain rfl) (.run (.plain rfl) (kfa (qLa (f:=zia.pc) rfl rfl qha qMa rfl h11)) (pq tk rfl (.plain rfl) (pq tk rfl (.plain rfl) (pq tk rfl (.plain rfl) (pq tk rfl (.plain rfl) (.run (.plain rfl) (kfa (qLa (f:=zia.pc) rfl rfl qha qMa rfl h13)) (pq tk rfl (.plain rfl) .nil)))))))))) rfl<|wq (wRa rfl rfl qMa zVb (.str rfl (by decide) zCa (.str rfl (by decide) zCa .nil))) rfl rfl rfl<|rn tk 2 rfl<|ac 39 hr rfl (fun c14 hr=>?_) (fun c14 hr=>?_)
   .refine rn tk 8 rfl ?_;cases hr;exact ato rfl rfl rfl rfl
   refine rn tk 8 rfl ?_;cases hr;exact atc rfl rfl
  refine rn tk 2 rfl ?_;cases hr;exact ato rfl rfl rfl rfl
 .refine rn tk 8 rfl ?_;cases hr;exact kr tk (.inr rfl) rfl rfl
 refine rn tk 2 rfl ?_;cases hr;exact kr tk (.inr rfl) rfl rfl
theorem JOa(a0:zza)(a1:zza)(r:Bool)(hr:Zba a0 a1=some r):Run prog 24 [.agg [.s a0.Envelope.From,.l zca.pc a0.Envelope.To,.s a0.Envelope.Id,.l zia.pc a0.Message.Fields,.l cU a0.Message.Body],.agg [.s a1.Envelope.From,.l zca.pc a1.Envelope.To,.s a1.Envelope.Id,.l zia.pc a1.Message.Fields,.l cU a1.Message.Body]] (.bo r):=by
 unfold Zba at hr;refine rf (fn:=f24) ⟨func24,rfl,by kernel_rfl⟩ rfl (fun _=>rfl) fun g0 hg=>?_
 refine rn tk 8 rfl<|jb hr (fun j1=>[(2,.ptr 2 0),(3,.ptr 3 0),(32,.bo j1)]) (fun j1=>[(3,.cells [.s a1.Envelope.From,.l zca.pc a1.Envelope.To,.s a1.Envelope.Id,.l zia.pc a1.Message.Fields,.l cU a1.Message.Body]),(2,.cells [.s a0.Envelope.From,.l zca.pc a0.Envelope.To,.s a0.Envelope.Id,.l zia.pc a0.Message.Fields,.l cU a0.Message.Body])]) (fun j1 hr=>?_) (fun j1 hr=>?_)
 .refine rn tk 9 rfl<|bs 13 hr rfl (fun c2 hr=>?_) (fun c2 hr=>?_)
  .refine rn tk 20 rfl ?_;cases hr;exact jn _ rfl rfl rfl
  refine rn tk 9 rfl<|bs 22 hr rfl (fun c3 hr=>?_) (fun c3 hr=>?_)
  .refine rn tk 11 rfl ?_;cases hr;exact jn _ rfl rfl rfl
  refine rn tk 3 rfl<|ug rfl rfl rfl<|wn tk rfl rfl rfl<|rn tk 3 rfl<|ug rfl rfl rfl<|wn tk rfl rfl rfl<|rn tk 3 rfl ?_;cases hr;exact jn _ rfl rfl rfl
 refine ac 32 hr rfl (fun c4 hr=>?_) (fun c4 hr=>?_)
 .refine rn tk 7 rfl ?_;cases hr;exact kr tk (.inr rfl) rfl rfl
 refine rn tk 9 rfl<|al2 hr (fun s5=>[(2,.ptr 2 0),(3,.ptr 3 0),(5,.i s5)]) (fun s5=>[(3,.cells [.s a1.Envelope.From,.l zca.pc a1.Envelope.To,.s a1.Envelope.Id,.l zia.pc a1.Message.Fields,.l cU a1.Message.Body]),(2,.cells [.s a0.Envelope.From,.l zca.pc a0.Envelope.To,.s a0.Envelope.Id,.l zia.pc a0.Message.Fields,.l cU a0.Message.Body])]) (.exit 0) (fun b6=>[(2,.ptr 2 0),(3,.ptr 3 0)]) (fun b6=>[(3,.cells [.s a1.Envelope.From,.l zca.pc a1.Envelope.To,.s a1.Envelope.Id,.l zia.pc a1.Message.Fields,.l cU a1.Message.Body]),(2,.cells [.s a0.Envelope.From,.l zca.pc a0.Envelope.To,.s a0.Envelope.Id,.l zia.pc a0.Message.Fields,.l cU a0.Message.Body])]) .ret (fun b7=>[(4,.bo b7)]) (fun b7=>[]) rfl rfl (fun s5 x9 hr=>?_) (fun b6 hr=>?_) (fun b7 hr=>?_)
 .unfold yIa at hr;refine rn tk 7 rfl<|wn tk rfl rfl rfl<|rn tk 3 rfl<|ac 38 hr rfl (fun c10 hr=>?_) (fun c10 hr=>?_)
  .refine rn tk 5 rfl ?_;obtain ⟨v11,h12,hr⟩:=zaa hr;obtain ⟨v13,h14,hr⟩:=zaa hr;refine dr 12 [(52,.agg [.s v13.Address,.i v13.Notify]),(51,.ep [pS v13.Address,pI v13.Notify]),(50,.i s5),(49,.l zca.pc a1.Envelope.To),(48,.ptr 3 1),(47,.ptr 3 0),(46,.agg [.s v11.Address,.i v11.Notify]),(45,.ep [pS v11.Address,pI v11.Notify]),(44,.i s5),(43,.l zca.pc a0.Envelope.To),(42,.ptr 2 1),(41,.ptr 2 0)] mixed (by kernel_rfl) rfl rfl (pq tk rfl (.plain rfl) (pq tk rfl (.plain rfl) (pq tk rfl (.plain rfl) (pq tk rfl (.plain rfl) (.run (.plain rfl) (kfa (qLa (f:=zca.pc) rfl rfl zna zya rfl h12)) (pq tk rfl (.plain rfl) (pq tk rfl (.plain rfl) (pq tk rfl (.plain rfl) (pq tk rfl (.plain rfl) (pq tk rfl (.plain rfl) (.run (.plain rfl) (kfa (qLa (f:=zca.pc) rfl rfl zna zya rfl h14)) (pq tk rfl (.plain rfl) .nil)))))))))))) rfl<|wq (wRa rfl rfl zya j1a (.str rfl (by decide) zCa (.int rfl (by decide) wka .nil))) rfl rfl rfl<|rn tk 2 rfl<|ac 53 hr rfl (fun c15 hr=>?_) (fun c15 hr=>?_)
   .refine rn tk 8 rfl ?_;cases hr;exact ato rfl rfl rfl rfl
   refine rn tk 8 rfl ?_;cases hr;exact atc rfl rfl
  refine rn tk 2 rfl ?_;cases hr;exact ato rfl rfl rfl rfl
 .refine rn tk 8 rfl ?_;obtain ⟨v16,h17,hr⟩:=zaa hr;refine cl (Wja _ _ _ h17) rfl rfl<|rn tk 4 rfl ?_;cases hr;exact kr tk (.inr rfl) rfl rfl
 refine rn tk 2 rfl ?_;cases hr;exact kr tk (.inr rfl) rfl rfl
theorem Jsa(a0:List zza)(a1:List zza)(r:Bool)(hr:y6a a0 a1=some r):Run prog 18 [.l zza.pc a0,.l zza.pc a1] (.bo r):=by
 unfold y6a at hr;refine rf (fn:=f18) ⟨func18,rfl,by kernel_rfl⟩ rfl (fun _=>rfl) fun g0 hg=>?_
 refine rn tk 9 rfl<|wn tk rfl rfl rfl<|rn tk 1 rfl<|wn tk rfl rfl rfl<|rn tk 3 rfl<|ac 10 hr rfl (fun c1 hr=>?_) (fun c1 hr=>?_)
 .refine rn tk 7 rfl ?_;cases hr;exact kr tk (.inr rfl) rfl rfl
 refine rn tk 9 rfl<|al2 hr (fun s2=>[(0,.l zza.pc a0),(1,.l zza.pc a1),(5,.i s2)]) (fun s2=>[]) (.exit 0) (fun b3=>[]) (fun b3=>[]) .ret (fun b4=>[(4,.bo b4)]) (fun b4=>[]) rfl rfl (fun s2 x6 hr=>?_) (fun b3 hr=>?_) (fun b4 hr=>?_)
 .unfold yaa at hr;refine rn tk 5 rfl<|wn tk rfl rfl rfl<|rn tk 3 rfl<|ac 14 hr rfl (fun c7 hr=>?_) (fun c7 hr=>?_)
  .refine rn tk 5 rfl ?_;obtain ⟨v8,h9,hr⟩:=zaa hr;obtain ⟨v10,h11,hr⟩:=zaa hr;refine dr 8 [(24,.agg [.s v10.Envelope.From,.l zca.pc v10.Envelope.To,.s v10.Envelope.Id,.l zia.pc v10.Message.Fields,.l cU v10.Message.Body]),(23,.ep [pS v10.Envelope.From,pL zca.pc v10.Envelope.To,pS v10.Envelope.Id,pL zia.pc v10.Message.Fields,pL cU v10.Message.Body]),(22,.i s2),(21,.l zza.pc a1),(20,.agg [.s v8.Envelope.From,.l zca.pc v8.Envelope.To,.s v8.Envelope.Id,.l zia.pc v8.Message.Fields,.l cU v8.Message.Body]),(19,.ep [pS v8.Envelope.From,pL zca.pc v8.Envelope.To,pS v8.Envelope.Id,pL zia.pc v8.Message.Fields,pL cU v8.Message.Body]),(18,.i s2),(17,.l zza.pc a0)] mixed (by kernel_rfl) rfl rfl (pq tk rfl (.plain rfl) (pq tk rfl (.plain rfl) (.run (.plain rfl) (kfa (qLa (f:=zza.pc) rfl rfl qPa wTa rfl h9)) (pq tk rfl (.plain rfl) (pq tk rfl (.plain rfl) (pq tk rfl (.plain rfl) (.run (.plain rfl) (kfa (qLa (f:=zza.pc) rfl rfl qPa wTa rfl h11)) (pq tk rfl (.plain rfl) .nil)))))))) rfl ?_;obtain ⟨v12,h13,hr⟩:=zaa hr;refine cl (JOa _ _ _ h13) rfl rfl<|rn tk 3 rfl<|ac 26 hr rfl (fun c14 hr=>?_) (fun c14 hr=>?_)
   .refine rn tk 8 rfl ?_;cases hr;exact ato rfl rfl rfl rfl
   refine rn tk 8 rfl ?_;cases hr;exact atc rfl rfl
  refine rn tk 2 rfl ?_;cases hr;exact ato rfl rfl rfl rfl
 .refine rn tk 8 rfl ?_;cases hr;exact kr tk (.inr rfl) rfl rfl
 refine rn tk 2 rfl ?_;cases hr;exact kr tk (.inr rfl) rfl rfl
theorem Jta(a0:zka)(a1:zka)(r:Bool)(hr:y7a a0 a1=some r):Run prog 12 [.agg [.i a0.Code,.l cS a0.Lines],.agg [.i a1.Code,.l cS a1.Lines]] (.bo r):=by
 unfold y7a at hr;refine rf (fn:=f12) ⟨func12,rfl,by kernel_rfl⟩ rfl (fun _=>rfl) fun g0 hg=>?_
 refine rn tk 7 rfl<|jb hr (fun j1=>[(4,.bo j1)]) (fun j1=>[]) (fun j1 hr=>?_) (fun j1 hr=>?_)
 .refine rn tk 7 rfl<|bs 10 hr rfl (fun c2 hr=>?_) (fun c2 hr=>?_)
  .refine rn tk 4 rfl ?_;obtain ⟨v3,h4,hr⟩:=zaa hr;refine ug rfl rfl rfl<|cl (Vua _ _ _ h4) rfl rfl<|rn tk 3 rfl ?_;cases hr;exact jn _ rfl rfl rfl
  refine rn tk 8 rfl ?_;cases hr;exact jn _ rfl rfl rfl
 refine rn tk 1 rfl ?_;cases hr;exact kr tk (.inr rfl) rfl rfl
theorem Wka(a0:List zka)(a1:List zka)(r:Bool)(hr:wGa a0 a1=some r):Run prog 17 [.l zka.pc a0,.l zka.pc a1] (.bo r):=by
 unfold wGa at hr;refine rf (fn:=f17) ⟨func17,rfl,by kernel_rfl⟩ rfl (fun _=>rfl) fun g0 hg=>?_
 refine rn tk 9 rfl<|wn tk rfl rfl rfl<|rn tk 1 rfl<|wn tk rfl rfl rfl<|rn tk 3 rfl<|ac 10 hr rfl (fun c1 hr=>?_) (fun c1 hr=>?_)
 .refine rn tk 7 rfl ?_;cases hr;exact kr tk (.inr rfl) rfl rfl
 refine rn tk 9 rfl<|al2 hr (fun s2=>[(0,.l zka.pc a0),(1,.l zka.pc a1),(5,.i s2)]) (fun s2=>[]) (.exit 0) (fun b3=>[]) (fun b3=>[]) .ret (fun b4=>[(4,.bo b4)]) (fun b4=>[]) rfl rfl (fun s2 x6 hr=>?_) (fun b3 hr=>?_) (fun b4 hr=>?_)
 .unfold v8a at hr;refine rn tk 5 rfl<|wn tk rfl rfl rfl<|rn tk 3 rfl<|ac 14 hr rfl (fun c7 hr=>?_) (fun c7 hr=>?_)
  .refine rn tk 5 rfl ?_;obtain ⟨v8,h9,hr⟩:=zaa hr;obtain ⟨v10,h11,hr⟩:=zaa hr;refine dr 8 [(24,.agg [.i v10.Code,.l cS v10.Lines]),(23,.ep [pI v10.Code,pL cS v10.Lines]),(22,.i s2),(21,.l zka.pc a1),(20,.agg [.i v8.Code,.l cS v8.Lines]),(19,.ep [pI v8.Code,pL cS v8.Lines]),(18,.i s2),(17,.l zka.pc a0)] mixed (by kernel_rfl) rfl rfl (pq tk rfl (.plain rfl) (pq tk rfl (.plain rfl) (.run (.plain rfl) (kfa (qLa (f:=zka.pc) rfl rfl w9a jAa rfl h9)) (pq tk rfl (.plain rfl) (pq tk rfl (.plain rfl) (pq tk rfl (.plain rfl) (.run (.plain rfl) (kfa (qLa (f:=zka.pc) rfl rfl w9a jAa rfl h11)) (pq tk rfl (.plain rfl) .nil)))))))) rfl ?_;obtain ⟨v12,h13,hr⟩:=zaa hr;refine cl (Jta _ _ _ h13) rfl rfl<|rn tk 3 rfl<|ac 26 hr rfl (fun c14 hr=>?_) (fun c14 hr=>?_)
   .refine rn tk 8 rfl ?_;cases hr;exact ato rfl rfl rfl rfl
   refine rn tk 8 rfl ?_;cases hr;exact atc rfl rfl
  refine rn tk 2 rfl ?_;cases hr;exact ato rfl rfl rfl rfl
 .refine rn tk 8 rfl ?_;cases hr;exact kr tk (.inr rfl) rfl rfl
 refine rn tk 2 rfl ?_;cases hr;exact kr tk (.inr rfl) rfl rfl
theorem Zoa(a0:zha)(a1:List UInt8)(r:Bool)(hr:qta a0 a1=some r):Run prog 4 [.agg (zA2 a0),.l cU a1] (.bo r):=by
 unfold qta at hr;refine rf (fn:=f4) ⟨func4,rfl,by kernel_rfl⟩ rfl (fun _=>rfl) fun g0 hg=>?_
 refine rn tk 10 rfl ?_;obtain ⟨v1,h2,hr⟩:=zaa hr;refine cl (KAa _ _ _ h2) rfl rfl<|rn tk 16 rfl ?_;obtain ⟨v3,h4,hr⟩:=zaa hr;refine cl (VFa _ _ h4) rfl rfl<|rn tk 4 rfl<|jb hr (fun j5=>[(1,.l cU a1),(2,.ptr 2 0),(5,.ptr 5 0),(6,.l zka.pc v1.2.1),(7,.l zza.pc v1.2.2.1),(8,.ptr 8 0),(9,.ptr 9 0)]) (fun j5=>[(9,.cells [.i j5.1,.i j5.2]),(8,.cells [.i v1.2.2.2.Code,.i v1.2.2.2.Index]),(5,.cells (zA2 v1.1)),(2,.cells (zA2 a0))]) (fun j5 hr=>?_) (fun j5 hr=>?_)
 .refine jb hr (fun j6=>[(1,.l cU a1),(2,.ptr 2 0),(5,.ptr 5 0),(6,.l zka.pc v1.2.1),(7,.l zza.pc v1.2.2.1),(8,.ptr 8 0),(9,.ptr 9 0),(28,.bo j6)]) (fun j6=>[(9,.cells [.i v3.Code,.i v3.Index]),(8,.cells [.i v1.2.2.2.Code,.i v1.2.2.2.Index]),(5,.cells (zA2 v1.1)),(2,.cells (zA2 a0))]) (fun j6 hr=>?_) (fun j6 hr=>?_)
  .refine rn tk 5 rfl<|bs 24 hr rfl (fun c7 hr=>?_) (fun c7 hr=>?_)
   .refine rn tk 1 rfl<|ug rfl rfl rfl<|wn tk rfl rfl rfl<|rn tk 3 rfl ?_;cases hr;exact jn _ rfl rfl rfl
   refine rn tk 5 rfl ?_;cases hr;exact jn _ rfl rfl rfl
  refine ac 28 hr rfl (fun c8 hr=>?_) (fun c8 hr=>?_)
  .refine rn tk 1 rfl ?_;obtain ⟨v9,h10,hr⟩:=zaa hr;refine cl (z7a _ _ _ h10) rfl rfl<|rn tk 2 rfl ?_;cases hr;exact jn _ rfl rfl rfl
  refine rn tk 1 rfl ?_;cases hr;exact jn _ rfl rfl rfl
 refine rn tk 1 rfl<|jb hr (fun j11=>[(1,.l cU a1),(2,.ptr 2 0),(5,.ptr 5 0),(6,.l zka.pc v1.2.1),(7,.l zza.pc v1.2.2.1),(8,.ptr 8 0),(9,.ptr 9 0),(41,.bo j11)]) (fun j11=>[(9,.cells [.i j5.1,.i j5.2]),(8,.cells [.i v1.2.2.2.Code,.i v1.2.2.2.Index]),(5,.cells (zA2 v1.1)),(2,.cells (zA2 a0))]) (fun j11 hr=>?_) (fun j11 hr=>?_)
 .refine rn tk 1 rfl ?_;obtain ⟨v12,h13,hr⟩:=zaa hr;refine cl (VAa _ h13) rfl rfl<|rn tk 2 rfl<|bs 32 hr rfl (fun c14 hr=>?_) (fun c14 hr=>?_)
  .refine rn tk 10 rfl ?_;cases hr;exact jn _ rfl rfl rfl
  refine rn tk 2 rfl<|ug rfl rfl rfl<|wq (wRa rfl rfl qca Zxa (.int rfl (by decide) wka (.int rfl (by decide) wka .nil))) rfl rfl rfl<|rn tk 2 rfl<|bs 37 hr rfl (fun c15 hr=>?_) (fun c15 hr=>?_)
  .refine rn tk 5 rfl ?_;cases hr;exact jn _ rfl rfl rfl
  refine rn tk 5 rfl ?_;cases hr;exact jn _ rfl rfl rfl
 refine ac 41 hr rfl (fun c16 hr=>?_) (fun c16 hr=>?_)
 .refine jb hr (fun j17=>[(4,.bo j17)]) (fun j17=>[]) (fun j17 hr=>?_) (fun j17 hr=>?_)
  .refine rn tk 1 rfl ?_;obtain ⟨v18,h19,hr⟩:=zaa hr;refine cl (VAa _ h19) rfl rfl<|rn tk 1 rfl<|bs 43 hr rfl (fun c20 hr=>?_) (fun c20 hr=>?_)
   .refine rn tk 2 rfl<|ug rfl rfl rfl<|wq (qTb rfl rfl qca Zxa (.int rfl (by decide) wka (.int rfl (by decide) wka .nil))) rfl rfl rfl<|rn tk 2 rfl<|bs 48 hr rfl (fun c21 hr=>?_) (fun c21 hr=>?_)
    .refine rn tk 1 rfl<|ug rfl rfl rfl<|wn tk rfl rfl rfl<|rn tk 3 rfl<|bs 53 hr rfl (fun c22 hr=>?_) (fun c22 hr=>?_)
     .refine rn tk 1 rfl<|ug rfl rfl rfl<|wn tk rfl rfl rfl<|rn tk 3 rfl<|bs 58 hr rfl (fun c23 hr=>?_) (fun c23 hr=>?_)
      .refine rn tk 2 rfl ?_;obtain ⟨v24,h25,hr⟩:=zaa hr;refine ug rfl rfl rfl<|cl (Zna _ _ _ h25) rfl rfl<|rn tk 3 rfl ?_;cases hr;exact jn _ rfl rfl rfl
      refine rn tk 6 rfl ?_;cases hr;exact jn _ rfl rfl rfl
     refine rn tk 11 rfl ?_;cases hr;exact jn _ rfl rfl rfl
    refine rn tk 16 rfl ?_;cases hr;exact jn _ rfl rfl rfl
   refine rn tk 21 rfl ?_;cases hr;exact jn _ rfl rfl rfl
  refine rn tk 2 rfl ?_;cases hr;exact kr tk (.inr rfl) rfl rfl
 refine rn tk 6 rfl ?_;obtain ⟨v26,h27,hr⟩:=zaa hr;refine wo (zja (k:=65) (kvb a0 a1 v26 h27) rfl rfl zfa) rfl<|rn tk 1 rfl ?_;refine zua 1010 (o:=10) (j:=9) 5 1 rfl rfl rfl rfl (hO ?_);refine zua 2010 (o:=10) (j:=17) 28 2 rfl rfl rfl rfl (hO ?_);refine zua 3010 (o:=10) (j:=18) 56 5 rfl rfl rfl rfl (hO ?_);refine rn tk 3 rfl<|jb hr (fun j28=>[(4,.bo j28)]) (fun j28=>[]) (fun j28 hr=>?_) (fun j28 hr=>?_)
 .refine rn tk 4 rfl ?_;refine Yma (d' :=68) (j:=9) (F:=cU) (l:=v26.S.Data) rfl rfl rfl (hO ?_);obtain ⟨v29,h30,hr⟩:=zaa hr;refine cl (Zna _ _ _ h30) rfl rfl<|rn tk 1 rfl<|bs 70 hr rfl (fun c31 hr=>?_) (fun c31 hr=>?_)
  .refine rn tk 3 rfl ?_;refine vFa (d:=73) (F:=zka.pc) (l:=v26.Replies) rfl rfl (hO ?_);obtain ⟨v32,h33,hr⟩:=zaa hr;refine ug rfl rfl rfl<|cl (Wka _ _ _ h33) rfl rfl<|rn tk 2 rfl<|bs 76 hr rfl (fun c34 hr=>?_) (fun c34 hr=>?_)
   .refine rn tk 3 rfl ?_;refine vFa (d:=79) (F:=zza.pc) (l:=v26.Mails) rfl rfl (hO ?_);obtain ⟨v35,h36,hr⟩:=zaa hr;refine ug rfl rfl rfl<|cl (Jsa _ _ _ h36) rfl rfl<|rn tk 3 rfl ?_;cases hr;exact jn _ rfl rfl rfl
   refine rn tk 7 rfl ?_;cases hr;exact jn _ rfl rfl rfl
  refine rn tk 13 rfl ?_;cases hr;exact jn _ rfl rfl rfl
 refine rn tk 1 rfl ?_;cases hr;exact kr tk (.inr rfl) rfl rfl
end Go.Proofs.YtmmjihadplknjaaGreatDoor
namespace Go.Proofs.YtmmjihadplknjaaGreatDoor.serverMatchesSpec
open Go.ChangeShapes Go.WideShapes Go.ChangeAt Go.RowKit Go.Proofs.Tryz
theorem contract(H:Type)(enc:TypeId × Value->H)(W:World)(base:Nat)(args:Array Value)(ds gs:List (DataW H))(before:List MemPlace)
 (hval:∀(j:Nat) t v,f4.params[j]? =some t->args[j]? =some v->Value.okWide prog W .any base t v)
 (hW:DataW.Whole enc prog f4.params.toList Rows.serverMatchesSpecSpec.vars false W args.toList ds gs before) (hk:Rows.uptoSmall H (ds++gs)=true) (hgl:Gl (gAll W)):
 Calls prog 4 args W fun e W' =>∃v,e=.returned v/\Rows.serverMatchesSpecSpec.post enc prog f4 false true false false W args v W' :=by
 have hW' :=hW;obtain ⟨p,q,hA0,hV,rfl,hfz,hnd⟩:=hW;have hA:DataW.TrodAll enc prog W 0 (fun _=>true) true f4.params.toList args.toList ds p:=hA0;rw[Tryz.params4]at hA hval;obtain ⟨v0,vs0,d0,ds0,p0,q0,hargs,rfl,rfl,h0,r0⟩:=trodAll_cons hA;obtain ⟨v1,vs1,d1,ds1,p1,q1,rfl,rfl,rfl,h1,r1⟩:=trodAll_cons r0;obtain ⟨rfl,rfl,rfl⟩:=trodAll_nil r1;obtain rfl:args= #[v0,v1]:=by cases args;simp_all
 obtain ⟨rfl,rfl⟩:=trodVars_none hV;obtain ⟨a0,e0,o0,k0⟩:=arg_agg zYb (by obtain ⟨cs,h,_⟩:=okWide_struct Zya.u (hval 0 _ v0 rfl rfl);exact ⟨cs,h⟩) h0;obtain ⟨a1,e1,o1,k1⟩:=arg_one j4a (by obtain ⟨_,_,_,h⟩:=okWide_slice zla.u (hval 1 _ v1 rfl rfl);rw[h];rfl) h1;have hk2:=of_decide_eq_true hk;simp only[List.append_nil,Rows.uptoBulkAll]at hk2;have ht:=jTa a0 a1 o0 o1 (by (try dsimp only);omega);have key:Calls prog 4 #[v0,v1] W fun e W' =>e=.returned (.bool true)/\Below W.heap.size W W' :=kOb (Zoa a0 a1 true ht) hgl (w5b (.cons e0 (.cons (e1 _ rfl) .nil)))
 refine key.mono fun e W' ⟨he,hb⟩=>⟨_,he,?_⟩
 exact jnb laidOut (by kernel_rfl) underlying4 (by kernel_rfl) rfl rfl hW' hb
noncomputable def wit(os:Os):World:=let w0:=World.doorLaid prog 72 os
 {w0 with heap:=w0.heap.modify 2 fun
  | .cells _ t fz=>.cells (Lib.firstTab.map fun z=>Value.int .u8 z).toArray t fz
  | o=>o}
theorem reads(os:Os){H:Type}(enc:TypeId × Value->H):∃places,DataW.whole enc prog ((wit os).forCall (fun _ _=>0) ⟨#[], #[.agg #[.string ⟨#[]⟩,.int .i64 0,.int .i64 0,.int .i64 0,.bool false,.bool false,.string ⟨#[]⟩,.slice none 0 0,.slice none 0 0,.slice none 0 0,.int .i64 0,.int .i64 0,.bool false,.int .i64 0,.bool false,.bool false,.int .i64 0],.slice none 0 0],[]⟩).memory f4.params.toList (Rows.OpenSpec.upto Rows.serverMatchesSpecSpec).vars false (#[.agg #[.string ⟨#[]⟩,.int .i64 0,.int .i64 0,.int .i64 0,.bool false,.bool false,.string ⟨#[]⟩,.slice none 0 0,.slice none 0 0,.slice none 0 0,.int .i64 0,.int .i64 0,.bool false,.int .i64 0,.bool false,.bool false,.int .i64 0],.slice none 0 0]:Array Value).toList 8=some ([.agg [.lit (.string []),.lit (.int .i64 0),.lit (.int .i64 0),.lit (.int .i64 0),.lit (.bool false),.lit (.bool false),.lit (.string []),.nil,.nil,.nil,.lit (.int .i64 0),.lit (.int .i64 0),.lit (.bool false),.lit (.int .i64 0),.lit (.bool false),.lit (.bool false),.lit (.int .i64 0)],.nil],[],places):=
 ⟨[],by kernel_rfl⟩
theorem lifted(os:Os)(started:os.Started)(H:Type)(enc:TypeId × Value->H)(F:Stop.Interp):
 ReturnsInHanded {} Tryz.checked os 4 .any ((Rows.OpenSpec.upto Rows.serverMatchesSpecSpec).preRow enc prog f4 Rows.serverMatchesSpecUptoRow.domain false Rows.serverMatchesSpecUptoRow.laid) (((Rows.OpenSpec.upto Rows.serverMatchesSpecSpec).at F).post enc prog f4 false true false false):=by
 obtain ⟨places,hx⟩:=reads os enc;refine returnsInHanded_of_row (C:=Tryz.checked) (s:=Rows.OpenSpec.upto Rows.serverMatchesSpecSpec) own started (by kernel_rfl) func4
  (witness_row_atRef (enc:=enc) (C:=Tryz.checked) false (wit os) #[.agg #[.string ⟨#[]⟩,.int .i64 0,.int .i64 0,.int .i64 0,.bool false,.bool false,.string ⟨#[]⟩,.slice none 0 0,.slice none 0 0,.slice none 0 0,.int .i64 0,.int .i64 0,.bool false,.int .i64 0,.bool false,.bool false,.int .i64 0],.slice none 0 0] rfl (by kernel_rfl) (by kernel_rfl) (by kernel_rfl)
   (OpenSpec.preRow_of_cond 8 hx (by kernel_rfl) (fun k hk=>by cases hk;kernel_rfl) (by kernel_rfl) (laidMet_of_run' 8 (by kernel_rfl) (by kernel_rfl)))) ?_
 intro W base args ds gs before hval hW _ hk _ hL hsh _;exact contract H enc W base args ds gs before hval hW (hk _ rfl) (w6b (rest:=Rows.serverMatchesSpecUptoRow.laid.drop 3) hsh (by kernel_rfl) hL (fun hm=>w7b hm.tail.tail.tail.tail.tail))
theorem j0:jf0 Tryz.pinned.checked.prog 4 f4 (Rows.OpenSpec.upto Rows.serverMatchesSpecSpec).bare Rows.serverMatchesSpecUptoRow=true:=by kernel_rfl
theorem j1:jf1 Tryz.pinned.checked.prog 4 f4 (Rows.OpenSpec.upto Rows.serverMatchesSpecSpec).bare Rows.serverMatchesSpecUptoRow=true:=by kernel_rfl
theorem j2:jf2 Tryz.pinned.checked.prog 4 f4 (Rows.OpenSpec.upto Rows.serverMatchesSpecSpec).bare Rows.serverMatchesSpecUptoRow=true:=by kernel_rfl
theorem j3:jf3 Tryz.pinned.checked.prog 4 f4 (Rows.OpenSpec.upto Rows.serverMatchesSpecSpec).bare Rows.serverMatchesSpecUptoRow=true:=by kernel_rfl
theorem j4:jf4 Tryz.pinned.checked.prog 4 f4 (Rows.OpenSpec.upto Rows.serverMatchesSpecSpec).bare Rows.serverMatchesSpecUptoRow=true:=by kernel_rfl
theorem j5:jf5 Tryz.pinned.checked.prog 4 f4 (Rows.OpenSpec.upto Rows.serverMatchesSpecSpec).bare Rows.serverMatchesSpecUptoRow=true:=by kernel_rfl
theorem j6:jf6 Tryz.pinned.checked.prog 4 f4 (Rows.OpenSpec.upto Rows.serverMatchesSpecSpec).bare Rows.serverMatchesSpecUptoRow=true:=by kernel_rfl
theorem j7:jf7 Tryz.pinned.checked.prog 4 f4 (Rows.OpenSpec.upto Rows.serverMatchesSpecSpec).bare Rows.serverMatchesSpecUptoRow=true:=by kernel_rfl
theorem j8:jf8 Tryz.pinned.checked.prog 4 f4 (Rows.OpenSpec.upto Rows.serverMatchesSpecSpec).bare Rows.serverMatchesSpecUptoRow=true:=by kernel_rfl
theorem j9:jf9 Tryz.pinned.checked.prog 4 f4 (Rows.OpenSpec.upto Rows.serverMatchesSpecSpec).bare Rows.serverMatchesSpecUptoRow=true:=by kernel_rfl
theorem j10:jf10 Tryz.pinned.checked.prog 4 f4 (Rows.OpenSpec.upto Rows.serverMatchesSpecSpec).bare Rows.serverMatchesSpecUptoRow=true:=by kernel_rfl
theorem j11:jf11 Tryz.pinned.checked.prog 4 f4 (Rows.OpenSpec.upto Rows.serverMatchesSpecSpec).bare Rows.serverMatchesSpecUptoRow=true:=by kernel_rfl
theorem j12:jf12 Tryz.pinned.checked.prog 4 f4 (Rows.OpenSpec.upto Rows.serverMatchesSpecSpec).bare Rows.serverMatchesSpecUptoRow=true:=by kernel_rfl
theorem j13:jf13 Tryz.pinned.checked.prog 4 f4 (Rows.OpenSpec.upto Rows.serverMatchesSpecSpec).bare Rows.serverMatchesSpecUptoRow=true:=by kernel_rfl
theorem j14:jf14 Tryz.pinned.checked.prog 4 f4 (Rows.OpenSpec.upto Rows.serverMatchesSpecSpec).bare Rows.serverMatchesSpecUptoRow=true:=by kernel_rfl
theorem j15:jf15 Tryz.pinned.checked.prog 4 f4 (Rows.OpenSpec.upto Rows.serverMatchesSpecSpec).bare Rows.serverMatchesSpecUptoRow=true:=by kernel_rfl
theorem j16:jf16 Tryz.pinned.checked.prog 4 f4 (Rows.OpenSpec.upto Rows.serverMatchesSpecSpec).bare Rows.serverMatchesSpecUptoRow=true:=by kernel_rfl
theorem j17:jf17 Tryz.pinned.checked.prog 4 f4 (Rows.OpenSpec.upto Rows.serverMatchesSpecSpec).bare Rows.serverMatchesSpecUptoRow=true:=by kernel_rfl
theorem j18:jf18 Tryz.pinned.checked.prog 4 f4 (Rows.OpenSpec.upto Rows.serverMatchesSpecSpec).bare Rows.serverMatchesSpecUptoRow=true:=by kernel_rfl
theorem j19:jf19 Tryz.pinned.checked.prog 4 f4 (Rows.OpenSpec.upto Rows.serverMatchesSpecSpec).bare Rows.serverMatchesSpecUptoRow=true:=by kernel_rfl
theorem j20:jf20 Tryz.pinned.checked.prog 4 f4 (Rows.OpenSpec.upto Rows.serverMatchesSpecSpec).bare Rows.serverMatchesSpecUptoRow=true:=by kernel_rfl
theorem j21:jf21 Tryz.pinned.checked.prog 4 f4 (Rows.OpenSpec.upto Rows.serverMatchesSpecSpec).bare Rows.serverMatchesSpecUptoRow=true:=by kernel_rfl
theorem j22:jf22 Tryz.pinned.checked.prog 4 f4 (Rows.OpenSpec.upto Rows.serverMatchesSpecSpec).bare Rows.serverMatchesSpecUptoRow=true:=by kernel_rfl
theorem j23:jf23 Tryz.pinned.checked.prog 4 f4 (Rows.OpenSpec.upto Rows.serverMatchesSpecSpec).bare Rows.serverMatchesSpecUptoRow=true:=by kernel_rfl
theorem j24:jf24 Tryz.pinned.checked.prog 4 f4 (Rows.OpenSpec.upto Rows.serverMatchesSpecSpec).bare Rows.serverMatchesSpecUptoRow=true:=by kernel_rfl
theorem j25:jf25 Tryz.pinned.checked.prog 4 f4 (Rows.OpenSpec.upto Rows.serverMatchesSpecSpec).bare Rows.serverMatchesSpecUptoRow=true:=by kernel_rfl
theorem j26:jf26 Tryz.pinned.checked.prog 4 f4 (Rows.OpenSpec.upto Rows.serverMatchesSpecSpec).bare Rows.serverMatchesSpecUptoRow=true:=by kernel_rfl
theorem j27:jf27 Tryz.pinned.checked.prog 4 f4 (Rows.OpenSpec.upto Rows.serverMatchesSpecSpec).bare Rows.serverMatchesSpecUptoRow=true:=by kernel_rfl
theorem j28:jf28 Tryz.pinned.checked.prog 4 f4 (Rows.OpenSpec.upto Rows.serverMatchesSpecSpec).bare Rows.serverMatchesSpecUptoRow=true:=by kernel_rfl
theorem j29:jf29 Tryz.pinned.checked.prog 4 f4 (Rows.OpenSpec.upto Rows.serverMatchesSpecSpec).bare Rows.serverMatchesSpecUptoRow=true:=by kernel_rfl
theorem j30:jf30 Tryz.pinned.checked.prog 4 f4 (Rows.OpenSpec.upto Rows.serverMatchesSpecSpec).bare Rows.serverMatchesSpecUptoRow=true:=by kernel_rfl
theorem j31:jf31 Tryz.pinned.checked.prog 4 f4 (Rows.OpenSpec.upto Rows.serverMatchesSpecSpec).bare Rows.serverMatchesSpecUptoRow=true:=by kernel_rfl
theorem said:Rows.serverMatchesSpecUptoRow.holds Tryz.pinned (Rows.OpenSpec.upto Rows.serverMatchesSpecSpec):=
 OpenClaim.holds_of_cond 4 f4 rfl rfl rfl rfl rfl rfl rfl ⟨rfl,rfl,rfl,rfl,rfl⟩ rfl rfl rfl rfl rfl (by kernel_rfl) func4 (job j0 j1 j2 j3 j4 j5 j6 j7 j8 j9 j10 j11 j12 j13 j14 j15 j16 j17 j18 j19 j20 j21 j22 j23 j24 j25 j26 j27 j28 j29 j30 j31)
  (of_decide_eq_true (by kernel_rfl)) (by unfold Func.isWrapper;first | (rw[if_pos (by decide+kernel)];kernel_rfl) | (rw[if_neg (by decide+kernel)];exact ⟨rfl,rfl⟩))
  (fun os started H enc _ F=>by rw[OpenClaim.pre_eq_preRow];exact lifted os started H enc F)
theorem plain (f : FuncId) (fn : Func) (hf : Tryz.pinned.checked.prog.funcNamed "posthouse/posthouselaw4.ServerMatchesSpec" = some f) (hfn : Tryz.pinned.checked.prog.funcs[f]? = some fn) :
 true=Tryz.pinned.checked.prog.looks []/\∀(j:Nat) t,fn.params[j]? =some t->Tryz.pinned.checked.prog.wantsStandIn t=false:=by
 obtain rfl : f = 4 := Option.some.inj ((show prog.funcNamed "posthouse/posthouselaw4.ServerMatchesSpec" = some 4 by kernel_rfl).symm.trans hf) |>.symm
 obtain rfl:fn=f4:=(Option.some.inj (func4.symm.trans hfn)).symm;refine ⟨by kernel_rfl,fun j t ht=>?_⟩;rw[Tryz.params4]at ht;have hm:=Array.mem_of_getElem? ht;simp only[List.mem_toArray,List.mem_cons,List.not_mem_nil,or_false]at hm;rcases hm with rfl | rfl
 .exact (show prog.wantsStandIn 25=false by kernel_rfl)
 exact (show prog.wantsStandIn 23=false by kernel_rfl)
theorem proved:Rows.ServerMatchesSpecUptoCardSaid:=
 Claim7.holds_tied_plain_at .later [] _ _ _ _ said (fun _ h=>by cases h) (by kernel_rfl) (fun _ h=>by cases h) serverMatchesSpecUpto_row_tie rfl ⟨rfl,rfl⟩ (by kernel_rfl) rfl plain (by kernel_rfl)
#print axioms proved
end Go.Proofs.YtmmjihadplknjaaGreatDoor.serverMatchesSpec
