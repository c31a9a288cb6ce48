/- The law ServerTakesWhatIsSent holds for every input of bulk up to the given bound: it returns true and leaves its arguments as they were. Written by program. -/
import Derived.Test.YtmmjihadplknjaaGreatDoorKServerTakesWhatIsSent5
set_option linter.unusedVariables false
set_option linter.unusedSimpArgs false
set_option maxRecDepth 100000
set_option maxHeartbeats 40000000
namespace Go.Proofs.YtmmjihadplknjaaGreatDoor
open Go.RowKit Go.Proofs.Tryz
theorem y8a(a0:zea)(a1:zma)(r:zea)(hr:kAa a0 a1=some r):RunS prog 68 [.ptr 90002000 0,.agg (zA1 a1)] (zB0 a0 []) (.tup []) (zB0 r []) 90002000 [90002009,90002010,90002018,90002019]:=by
 unfold kAa at hr;refine rfS (fn:=f68) (H:=90002999) (.ptr 90002000 0) ⟨func68,rfl,by kernel_rfl⟩ rfl (hasT rfl) (.inl ⟨rfl,rfl⟩) rfl rfl rfl rfl fun g0 hg S sg T=>?_
 refine rn tk 18 rfl<|ac 6 hr rfl (fun c1 hr=>?_) (fun c1 hr=>?_)
 .refine rn tk 3 rfl ?_;obtain ⟨v2,h3,hr⟩:=zaa hr;refine wo (zya (k:=9) (kwa a0 v2 h3) rfl rfl (zba rfl (zba rfl (zba rfl (zba rfl (zba rfl zga)))))) rfl<|rn tk 11 rfl ?_;obtain ⟨v4,h5,hr⟩:=zaa hr;obtain ⟨v6,h7,hr⟩:=zaa hr;obtain ⟨v8,h9,hr⟩:=zaa hr;obtain ⟨v10,h11,hr⟩:=zaa hr;refine dr 21 [(34,.l cS (([v2.Server.Name,v6,v10]:List Str))),(33,.s v10),(32,.s v8),(31,.i v2.Server.Many),(30,.ptr 90002000 2),(29,.ptr 90002000 0),(28,.ptr 90002000 0),(27,.ptr 90002000 0),(26,.s v6),(25,.s v4),(24,.i v2.Server.Size),(23,.ptr 90002000 1),(22,.ptr 90002000 0),(21,.ptr 90002000 0),(20,.ptr 90002000 0),(19,.s v2.Server.Name),(18,.ptr 90002000 0),(17,.ptr 90002000 0),(16,.ptr 90002000 0),(15,.ptr 90002000 0),(14,.ptr 90002000 0)] mixed (by kernel_rfl) rfl rfl (pq tk rfl (.plain rfl) (pq tk rfl (.plain rfl) (pq tk rfl (.plain rfl) (pq tk rfl (.plain rfl) (pq tk rfl (.plain rfl) (pq tk rfl (.plain rfl) (pq tk rfl (.plain rfl) (pq tk rfl (.plain rfl) (pq tk rfl (.plain rfl) (pq tk rfl (.plain rfl) (pq tk rfl (.plain rfl) (.run (.plain rfl) (vWa (vYa v2.Server.Size v4 h5) rfl) (.run (.plain rfl) (k9a (QNa rfl rfl h7)) (pq tk rfl (.plain rfl) (pq tk rfl (.plain rfl) (pq tk rfl (.plain rfl) (pq tk rfl (.plain rfl) (pq tk rfl (.plain rfl) (.run (.plain rfl) (vWa (vYa v2.Server.Many v8 h9) rfl) (.run (.plain rfl) (k9a (QNa rfl rfl h11)) (.run (.plain rfl) (qGa (F:=cS) (l:=([v2.Server.Name,v6,v10]:List Str)) kBa zwa rfl (fun _=>rfl) rfl rfl) .nil))))))))))))))))))))) rfl ?_;obtain ⟨v12,h13,hr⟩:=zaa hr;refine wo (zya (k:=35) (zpa ((zea.mk ((zja.mk v2.Server.Name v2.Server.Size v2.Server.Many v2.Server.Phase true v2.Server.Mailing v2.Server.From v2.Server.To v2.Server.Buffer v2.Server.Data v2.Server.Lost v2.Server.Dots v2.Server.Chunked v2.Server.Left v2.Server.Last v2.Server.Ignore v2.Server.Count)) v2.replies v2.mails)) 250 (([v2.Server.Name,v6,v10]:List Str)) v12 h13) rfl rfl (zba rfl (zba rfl (zba rfl (zba rfl (zba rfl zga)))))) rfl<|rn tk 2 rfl ?_;cases hr;exact krS tk (.inl rfl) rfl rfl (zba rfl (zba rfl (zba rfl (zba rfl (zba rfl (zba rfl zga))))))
 refine rn tk 6 rfl<|ac 36 hr rfl (fun c14 hr=>?_) (fun c14 hr=>?_)
 .refine rn tk 1 rfl<|jb hr (fun j15=>[(0,.ptr 90002000 0),(3,.ptr 3 0),(51,.bo j15)]) (fun j15=>((3,.cells (zA1 a1))::(90002999,.hold (.ptr 90002000 0) (T.getD 0 undef))::zB0 a0 [])) (fun j15 hr=>?_) (fun j15 hr=>?_)
  .refine rn tk 8 rfl<|bs 58 hr rfl (fun c16 hr=>?_) (fun c16 hr=>?_)
   .refine rn tk 8 rfl ?_;cases hr;exact jn _ rfl rfl rfl
   refine rn tk 8 rfl ?_;cases hr;exact jn _ rfl rfl rfl
  refine ac 51 hr rfl (fun c17 hr=>?_) (fun c17 hr=>?_)
  .refine rn tk 2 rfl<|wz cS ([([111,114,100,101,114]:Str)]:List Str) tk rfl rfl (fun _=>rfl) rfl rfl rfl ?_;obtain ⟨v18,h19,hr⟩:=zaa hr;refine wo (zya (k:=67) (zpa a0 503 (([([111,114,100,101,114]:Str)]:List Str)) v18 h19) rfl rfl (zba rfl (zba rfl (zba rfl (zba rfl (zba rfl zga)))))) rfl<|rn tk 3 rfl ?_;cases hr;exact krS tk (.inl rfl) rfl rfl (zba rfl (zba rfl (zba rfl (zba rfl (zba rfl (zba rfl zga))))))
  refine rn tk 1 rfl ?_;refine mc tk [] [(0,.ptr 90002000 0),(3,.ptr 3 0),(68,.bo (decide (a0.Server.Size < a1.Size)))] mixed rfl (by kernel_rfl) .nil (fc rfl (fc rfl (fc rfl fn))) (hA ?_);refine rn tk 1 rfl<|ac 68 hr rfl (fun c20 hr=>?_) (fun c20 hr=>?_)
  .refine rn tk 2 rfl<|wz cS ([([108,97,114,103,101]:Str)]:List Str) tk rfl rfl (fun _=>rfl) rfl rfl rfl ?_;obtain ⟨v21,h22,hr⟩:=zaa hr;refine wo (zya (k:=79) (zpa a0 552 (([([108,97,114,103,101]:Str)]:List Str)) v21 h22) rfl rfl (zba rfl (zba rfl (zba rfl (zba rfl (zba rfl zga)))))) rfl<|rn tk 3 rfl ?_;cases hr;exact krS tk (.inl rfl) rfl rfl (zba rfl (zba rfl (zba rfl (zba rfl (zba rfl (zba rfl zga))))))
  refine rn tk 1 rfl ?_;refine mc tk [] [(0,.ptr 90002000 0)] mixed rfl (by kernel_rfl) .nil (fc rfl fn) (hA ?_);refine rn tk 3 rfl<|wz cS ([([111,107]:Str)]:List Str) tk rfl rfl (fun _=>rfl) rfl rfl rfl ?_;obtain ⟨v23,h24,hr⟩:=zaa hr;refine wo (zya (k:=50) (zpa ((zea.mk ((zja.mk a0.Server.Name a0.Server.Size a0.Server.Many a0.Server.Phase a0.Server.Greeted true a1.Address a0.Server.To a0.Server.Buffer a0.Server.Data a0.Server.Lost a0.Server.Dots a0.Server.Chunked a0.Server.Left a0.Server.Last a0.Server.Ignore a0.Server.Count)) a0.replies a0.mails)) 250 (([([111,107]:Str)]:List Str)) v23 h24) rfl rfl (zba rfl (zba rfl (zba rfl (zba rfl (zba rfl zga)))))) rfl<|rn tk 3 rfl ?_;cases hr;exact krS tk (.inl rfl) rfl rfl (zba rfl (zba rfl (zba rfl (zba rfl (zba rfl (zba rfl zga))))))
 refine rn tk 6 rfl<|ac 80 hr rfl (fun c25 hr=>?_) (fun c25 hr=>?_)
 .refine rn tk 3 rfl ?_;obtain ⟨v26,h27,hr⟩:=zaa hr;refine wo (zya (k:=84) (yGa a0 a1 v26 h27) rfl rfl (zba rfl (zba rfl (zba rfl (zba rfl (zba rfl zga)))))) rfl<|rn tk 2 rfl ?_;cases hr;exact krS tk (.inl rfl) rfl rfl (zba rfl (zba rfl (zba rfl (zba rfl (zba rfl (zba rfl zga))))))
 refine rn tk 6 rfl<|ac 85 hr rfl (fun c28 hr=>?_) (fun c28 hr=>?_)
 .refine rn tk 1 rfl<|jb hr (fun j29=>[(0,.ptr 90002000 0),(100,.bo j29)]) (fun j29=>((90002999,.hold (.ptr 90002000 0) (T.getD 0 undef))::zB0 a0 [])) (fun j29 hr=>?_) (fun j29 hr=>?_)
  .refine rn tk 6 rfl<|wn tk rfl rfl rfl<|rn tk 2 rfl<|bs 94 hr rfl (fun c30 hr=>?_) (fun c30 hr=>?_)
   .refine rn tk 7 rfl ?_;cases hr;exact jn _ rfl rfl rfl
   refine rn tk 7 rfl ?_;cases hr;exact jn _ rfl rfl rfl
  refine ac 100 hr rfl (fun c31 hr=>?_) (fun c31 hr=>?_)
  .refine rn tk 3 rfl<|wz cS ([([111,114,100,101,114]:Str)]:List Str) tk rfl rfl (fun _=>rfl) rfl rfl rfl ?_;obtain ⟨v32,h33,hr⟩:=zaa hr;refine wo (zya (k:=103) (zpa a0 503 (([([111,114,100,101,114]:Str)]:List Str)) v32 h33) rfl rfl (zba rfl (zba rfl (zba rfl (zba rfl (zba rfl zga)))))) rfl<|rn tk 5 rfl ?_;cases hr;exact krS tk (.inr rfl) rfl rfl (zba rfl (zba rfl (zba rfl (zba rfl (zba rfl (zba rfl zga))))))
  refine rn tk 13 rfl<|wz cS ([([103,111,32,111,110]:Str)]:List Str) tk rfl rfl (fun _=>rfl) rfl rfl rfl ?_;obtain ⟨v34,h35,hr⟩:=zaa hr;refine wo (zya (k:=110) (zpa ((zea.mk ((zja.mk a0.Server.Name a0.Server.Size a0.Server.Many 1 a0.Server.Greeted a0.Server.Mailing a0.Server.From a0.Server.To a0.Server.Buffer a0.Server.Data a0.Server.Lost a0.Server.Dots a0.Server.Chunked a0.Server.Left a0.Server.Last a0.Server.Ignore a0.Server.Count)) a0.replies a0.mails)) 354 (([([103,111,32,111,110]:Str)]:List Str)) v34 h35) rfl rfl (zba rfl (zba rfl (zba rfl (zba rfl (zba rfl zga)))))) rfl<|rn tk 2 rfl ?_;cases hr;exact krS tk (.inl rfl) rfl rfl (zba rfl (zba rfl (zba rfl (zba rfl (zba rfl (zba rfl zga))))))
 refine rn tk 6 rfl<|ac 111 hr rfl (fun c36 hr=>?_) (fun c36 hr=>?_)
 .refine rn tk 1 rfl ?_;refine mz [some (.ptr 90002000 0),some (.ptr 90002000 0),some (.ptr 90002000 0),some (.ptr 90002000 0),some (.ptr 3 3),some (.i a1.Size),some (.ptr 3 5),some (.bo a1.Last),some (.ptr 90002000 0),some (.ptr 90002000 0),some (.ptr 90002000 0),some (.ptr 90002000 7),some (.l zca.pc a0.Server.To),some (.i ((a0.Server.To.length:Int))),some (.bo (((a0.Server.To.length:Int)==0))),some (.ptr 90002000 0),some (.ptr 90002000 0),some (.ptr 90002000 3),none,some (.ptr 90002000 0),some (.ptr 90002000 0),some (.ptr 90002000 13),none,some (.ptr 90002000 0),some (.ptr 90002000 0),some (.ptr 90002000 14),none,some (.ptr 90002000 0),some (.ptr 90002000 0),some (.ptr 90002000 15),none] (fun f s=>[((bt 31 0),f,s),((bt 31 262144),f,(Sto.upd s 90002000 (.cells [.s a0.Server.Name,.i a0.Server.Size,.i a0.Server.Many,.i 2,.bo a0.Server.Greeted,.bo a0.Server.Mailing,.s a0.Server.From,.l zca.pc a0.Server.To,.hs 90002009 0,.hs 90002010 0,.i a0.Server.Lost,.i a0.Server.Dots,.bo a0.Server.Chunked,.i a0.Server.Left,.bo a0.Server.Last,.bo a0.Server.Ignore,.i a0.Server.Count,.hs 90002018 0,.hs 90002019 0]))),((bt 31 4456448),f,(Sto.upd (Sto.upd s 90002000 (.cells [.s a0.Server.Name,.i a0.Server.Size,.i a0.Server.Many,.i 2,.bo a0.Server.Greeted,.bo a0.Server.Mailing,.s a0.Server.From,.l zca.pc a0.Server.To,.hs 90002009 0,.hs 90002010 0,.i a0.Server.Lost,.i a0.Server.Dots,.bo a0.Server.Chunked,.i a0.Server.Left,.bo a0.Server.Last,.bo a0.Server.Ignore,.i a0.Server.Count,.hs 90002018 0,.hs 90002019 0])) 90002000 (.cells [.s a0.Server.Name,.i a0.Server.Size,.i a0.Server.Many,.i 2,.bo a0.Server.Greeted,.bo a0.Server.Mailing,.s a0.Server.From,.l zca.pc a0.Server.To,.hs 90002009 0,.hs 90002010 0,.i a0.Server.Lost,.i a0.Server.Dots,.bo a0.Server.Chunked,.i a1.Size,.bo a0.Server.Last,.bo a0.Server.Ignore,.i a0.Server.Count,.hs 90002018 0,.hs 90002019 0]))),((bt 31 71565312),f,(Sto.upd (Sto.upd (Sto.upd s 90002000 (.cells [.s a0.Server.Name,.i a0.Server.Size,.i a0.Server.Many,.i 2,.bo a0.Server.Greeted,.bo a0.Server.Mailing,.s a0.Server.From,.l zca.pc a0.Server.To,.hs 90002009 0,.hs 90002010 0,.i a0.Server.Lost,.i a0.Server.Dots,.bo a0.Server.Chunked,.i a0.Server.Left,.bo a0.Server.Last,.bo a0.Server.Ignore,.i a0.Server.Count,.hs 90002018 0,.hs 90002019 0])) 90002000 (.cells [.s a0.Server.Name,.i a0.Server.Size,.i a0.Server.Many,.i 2,.bo a0.Server.Greeted,.bo a0.Server.Mailing,.s a0.Server.From,.l zca.pc a0.Server.To,.hs 90002009 0,.hs 90002010 0,.i a0.Server.Lost,.i a0.Server.Dots,.bo a0.Server.Chunked,.i a1.Size,.bo a0.Server.Last,.bo a0.Server.Ignore,.i a0.Server.Count,.hs 90002018 0,.hs 90002019 0])) 90002000 (.cells [.s a0.Server.Name,.i a0.Server.Size,.i a0.Server.Many,.i 2,.bo a0.Server.Greeted,.bo a0.Server.Mailing,.s a0.Server.From,.l zca.pc a0.Server.To,.hs 90002009 0,.hs 90002010 0,.i a0.Server.Lost,.i a0.Server.Dots,.bo a0.Server.Chunked,.i a1.Size,.bo a1.Last,.bo a0.Server.Ignore,.i a0.Server.Count,.hs 90002018 0,.hs 90002019 0]))),((bt 31 1145307136),f,(Sto.upd (Sto.upd (Sto.upd (Sto.upd s 90002000 (.cells [.s a0.Server.Name,.i a0.Server.Size,.i a0.Server.Many,.i 2,.bo a0.Server.Greeted,.bo a0.Server.Mailing,.s a0.Server.From,.l zca.pc a0.Server.To,.hs 90002009 0,.hs 90002010 0,.i a0.Server.Lost,.i a0.Server.Dots,.bo a0.Server.Chunked,.i a0.Server.Left,.bo a0.Server.Last,.bo a0.Server.Ignore,.i a0.Server.Count,.hs 90002018 0,.hs 90002019 0])) 90002000 (.cells [.s a0.Server.Name,.i a0.Server.Size,.i a0.Server.Many,.i 2,.bo a0.Server.Greeted,.bo a0.Server.Mailing,.s a0.Server.From,.l zca.pc a0.Server.To,.hs 90002009 0,.hs 90002010 0,.i a0.Server.Lost,.i a0.Server.Dots,.bo a0.Server.Chunked,.i a1.Size,.bo a0.Server.Last,.bo a0.Server.Ignore,.i a0.Server.Count,.hs 90002018 0,.hs 90002019 0])) 90002000 (.cells [.s a0.Server.Name,.i a0.Server.Size,.i a0.Server.Many,.i 2,.bo a0.Server.Greeted,.bo a0.Server.Mailing,.s a0.Server.From,.l zca.pc a0.Server.To,.hs 90002009 0,.hs 90002010 0,.i a0.Server.Lost,.i a0.Server.Dots,.bo a0.Server.Chunked,.i a1.Size,.bo a1.Last,.bo a0.Server.Ignore,.i a0.Server.Count,.hs 90002018 0,.hs 90002019 0])) 90002000 (.cells [.s a0.Server.Name,.i a0.Server.Size,.i a0.Server.Many,.i 2,.bo a0.Server.Greeted,.bo a0.Server.Mailing,.s a0.Server.From,.l zca.pc a0.Server.To,.hs 90002009 0,.hs 90002010 0,.i a0.Server.Lost,.i a0.Server.Dots,.bo a0.Server.Chunked,.i a1.Size,.bo a1.Last,.bo (((a0.Server.To.length:Int)==0)),.i a0.Server.Count,.hs 90002018 0,.hs 90002019 0])))]) mixed (by kernel_rfl) (.cons (mn tk [13,18] (by kernel_rfl) (.cons (.pure rfl rfl (k9a (jva (f:=zca.pc) rfl zoa.u))) (.cons (mst 1 rfl (yza rfl rfl rfl jRa rfl rfl) (by kernel_rfl)) .nil))) (.cons (mn tk [13,22] (by kernel_rfl) (.cons (.pure rfl rfl (k9a (jva (f:=zca.pc) rfl zoa.u))) (.cons (mst 2 rfl (yza rfl rfl rfl jRa rfl rfl) (by kernel_rfl)) .nil))) (.cons (mn tk [13,26] (by kernel_rfl) (.cons (.pure rfl rfl (k9a (jva (f:=zca.pc) rfl zoa.u))) (.cons (mst 3 rfl (yza rfl rfl rfl zrb rfl rfl) (by kernel_rfl)) .nil))) (.cons (mn tk [13,30] (by kernel_rfl) (.cons (.pure rfl rfl (k9a (jva (f:=zca.pc) rfl zoa.u))) (.cons (mst 4 rfl (yza rfl rfl rfl zrb rfl rfl) (by kernel_rfl)) .nil))) (.cons (mf tk [] [(0,.ptr 90002000 0)] (by kernel_rfl) .nil (fc rfl fn) (hA ?_)) .nil)))));refine rn tk 26 rfl<|ac 155 hr rfl (fun c37 hr=>?_) (fun c37 hr=>?_)
  .refine rn tk 2 rfl ?_;obtain ⟨v38,h39,hr⟩:=zaa hr;refine wo (zya (k:=157) (vFa ((zea.mk ((zja.mk a0.Server.Name a0.Server.Size a0.Server.Many 2 a0.Server.Greeted a0.Server.Mailing a0.Server.From a0.Server.To a0.Server.Buffer a0.Server.Data a0.Server.Lost a0.Server.Dots ((!(((a0.Server.To.length:Int)==0)))) a1.Size a1.Last (((a0.Server.To.length:Int)==0)) a0.Server.Count)) a0.replies a0.mails)) v38 h39) rfl rfl (zba rfl (zba rfl (zba rfl (zba rfl (zba rfl zga)))))) rfl<|rn tk 2 rfl ?_;cases hr;exact krS tk (.inl rfl) rfl rfl (zba rfl (zba rfl (zba rfl (zba rfl (zba rfl (zba rfl zga))))))
  refine rn tk 2 rfl ?_;cases hr;exact krS tk (.inl rfl) rfl rfl (zba rfl (zba rfl (zba rfl (zba rfl (zba rfl (zba rfl zga))))))
 refine rn tk 6 rfl<|ac 158 hr rfl (fun c40 hr=>?_) (fun c40 hr=>?_)
 .refine rn tk 3 rfl ?_;obtain ⟨v41,h42,hr⟩:=zaa hr;refine wo (zya (k:=161) (kwa a0 v41 h42) rfl rfl (zba rfl (zba rfl (zba rfl (zba rfl (zba rfl zga)))))) rfl<|rn tk 4 rfl<|wz cS ([([111,107]:Str)]:List Str) tk rfl rfl (fun _=>rfl) rfl rfl rfl ?_;obtain ⟨v43,h44,hr⟩:=zaa hr;refine wo (zya (k:=164) (zpa v41 250 (([([111,107]:Str)]:List Str)) v43 h44) rfl rfl (zba rfl (zba rfl (zba rfl (zba rfl (zba rfl zga)))))) rfl<|rn tk 2 rfl ?_;cases hr;exact krS tk (.inl rfl) rfl rfl (zba rfl (zba rfl (zba rfl (zba rfl (zba rfl (zba rfl zga))))))
 refine rn tk 6 rfl<|ac 165 hr rfl (fun c45 hr=>?_) (fun c45 hr=>?_)
 .refine rn tk 2 rfl<|wz cS ([([111,107]:Str)]:List Str) tk rfl rfl (fun _=>rfl) rfl rfl rfl ?_;obtain ⟨v46,h47,hr⟩:=zaa hr;refine wo (zya (k:=169) (zpa a0 250 (([([111,107]:Str)]:List Str)) v46 h47) rfl rfl (zba rfl (zba rfl (zba rfl (zba rfl (zba rfl zga)))))) rfl<|rn tk 2 rfl ?_;cases hr;exact krS tk (.inl rfl) rfl rfl (zba rfl (zba rfl (zba rfl (zba rfl (zba rfl (zba rfl zga))))))
 refine rn tk 6 rfl<|ac 170 hr rfl (fun c48 hr=>?_) (fun c48 hr=>?_)
 .refine rn tk 3 rfl<|wz cS ([([98,121,101]:Str)]:List Str) tk rfl rfl (fun _=>rfl) rfl rfl rfl ?_;obtain ⟨v49,h50,hr⟩:=zaa hr;refine wo (zya (k:=174) (zpa a0 221 (([([98,121,101]:Str)]:List Str)) v49 h50) rfl rfl (zba rfl (zba rfl (zba rfl (zba rfl (zba rfl zga)))))) rfl<|rn tk 4 rfl ?_;obtain ⟨v51,h52,hr⟩:=zaa hr;refine wo (zya (k:=176) (wha v49 v51 h52) rfl rfl (zba rfl (zba rfl (zba rfl (zba rfl (zba rfl zga)))))) rfl<|rn tk 2 rfl ?_;cases hr;exact krS tk (.inl rfl) rfl rfl (zba rfl (zba rfl (zba rfl (zba rfl (zba rfl (zba rfl zga))))))
 refine rn tk 2 rfl ?_;cases hr;exact krS tk (.inl rfl) rfl rfl (zba rfl (zba rfl (zba rfl (zba rfl (zba rfl (zba rfl zga))))))
theorem ZDa(a0:zea)(a1:UInt8)(r:zea)(hr:k3a a0 a1=some r):RunS prog 41 [.ptr 90002000 0,.u8 a1] (zB0 a0 []) (.tup []) (zB0 r []) 90002000 [90002009,90002010,90002018,90002019]:=by
 unfold k3a at hr;refine rfS (fn:=f41) (H:=90002999) (.ptr 90002000 0) ⟨func41,rfl,by kernel_rfl⟩ rfl (hasT rfl) (.inl ⟨rfl,rfl⟩) rfl rfl rfl rfl fun g0 hg S sg T=>?_
 refine rn tk 9 rfl<|wz cU ([a1]:List UInt8) tk rfl rfl (fun _=>rfl) rfl rfl rfl ?_;obtain ⟨v1,h2,hr⟩:=zaa hr;refine wa tk h2 rfl rfl rfl rfl (fun _=>rfl) rfl rfl<|rn tk 13 rfl ?_;refine jba rfl (QQa (F:=cU) (l:=([(13:UInt8),(10:UInt8)]:List UInt8)) zka zAa rfl (fun _=>rfl) rfl rfl) zka zAa (zua rfl) (zua rfl) rfl (hO ?_);refine Zaa (d:=25) (F:=cU) (l:=v1) rfl rfl (hO ?_);obtain ⟨v3,h4,hr⟩:=zaa hr;refine cl (QHa _ _ _ h4) rfl rfl<|rn tk 14 rfl<|ac 32 hr rfl (fun c5 hr=>?_) (fun c5 hr=>?_)
 .refine jb hr (fun j6=>[]) (fun j6=>(zB0 j6 [(90002999,.hold (.ptr 90002000 0) (T.getD 0 undef))])) (fun j6 hr=>?_) (fun j6 hr=>?_)
  .refine rn tk 7 rfl<|wnh tk rfl rfl rfl rfl<|rn tk 3 rfl<|ac 39 hr rfl (fun c7 hr=>?_) (fun c7 hr=>?_)
   .refine rn tk 3 rfl<|wz cS ([([117,110,107,110,111,119,110]:Str)]:List Str) tk rfl rfl (fun _=>rfl) rfl rfl rfl ?_;obtain ⟨v8,h9,hr⟩:=zaa hr;refine wo (zya (k:=42) (zpa ((zea.mk ((zja.mk a0.Server.Name a0.Server.Size a0.Server.Many a0.Server.Phase a0.Server.Greeted a0.Server.Mailing a0.Server.From a0.Server.To v1 a0.Server.Data a0.Server.Lost a0.Server.Dots a0.Server.Chunked a0.Server.Left a0.Server.Last a0.Server.Ignore a0.Server.Count)) a0.replies a0.mails)) 500 (([([117,110,107,110,111,119,110]:Str)]:List Str)) v8 h9) rfl rfl (zba rfl (zba rfl (zba rfl (zba rfl (zba rfl zga)))))) rfl<|rn tk 4 rfl ?_;obtain ⟨v10,h11,hr⟩:=zaa hr;refine wo (zya (k:=44) (wha v8 v10 h11) rfl rfl (zba rfl (zba rfl (zba rfl (zba rfl (zba rfl zga)))))) rfl<|rn tk 1 rfl ?_;cases hr;exact jn _ rfl rfl rfl
   refine rn tk 1 rfl ?_;cases hr;exact jn _ rfl rfl rfl
  refine rn tk 2 rfl ?_;cases hr;exact krS tk (.inr rfl) rfl rfl (zba rfl (zba rfl (zba rfl (zba rfl (zba rfl (zba rfl zga))))))
 refine rn tk 9 rfl ?_;refine W1a 90002009 (hO ?_);refine yPa 90002009 (o:=90002000) (j:=8) 5 1 rfl rfl rfl rfl (hO ?_);refine rn tk 5 rfl<|wb tk rfl rfl rfl ?_;obtain ⟨v12,h13,hr⟩:=zaa hr;refine cl (V5a _ _ h13) rfl rfl<|rn tk 22 rfl<|ac 60 hr rfl (fun c14 hr=>?_) (fun c14 hr=>?_)
 .refine rn tk 3 rfl ?_;obtain ⟨v15,h16,hr⟩:=zaa hr;refine wo (zya (k:=64) (y8a ((zea.mk ((zja.mk a0.Server.Name a0.Server.Size a0.Server.Many a0.Server.Phase a0.Server.Greeted a0.Server.Mailing a0.Server.From a0.Server.To (([]:List UInt8)) a0.Server.Data a0.Server.Lost a0.Server.Dots a0.Server.Chunked a0.Server.Left a0.Server.Last a0.Server.Ignore a0.Server.Count)) a0.replies a0.mails)) v12.1 v15 h16) rfl rfl (zba rfl (zba rfl (zba rfl (zba rfl (zba rfl zga)))))) rfl<|rn tk 2 rfl ?_;cases hr;exact krS tk (.inl rfl) rfl rfl (zba rfl (zba rfl (zba rfl (zba rfl (zba rfl (zba rfl zga))))))
 refine rn tk 6 rfl<|ac 65 hr rfl (fun c17 hr=>?_) (fun c17 hr=>?_)
 .refine rn tk 2 rfl<|wz cS ([([117,110,107,110,111,119,110]:Str)]:List Str) tk rfl rfl (fun _=>rfl) rfl rfl rfl ?_;obtain ⟨v18,h19,hr⟩:=zaa hr;refine wo (zya (k:=69) (zpa ((zea.mk ((zja.mk a0.Server.Name a0.Server.Size a0.Server.Many a0.Server.Phase a0.Server.Greeted a0.Server.Mailing a0.Server.From a0.Server.To (([]:List UInt8)) a0.Server.Data a0.Server.Lost a0.Server.Dots a0.Server.Chunked a0.Server.Left a0.Server.Last a0.Server.Ignore a0.Server.Count)) a0.replies a0.mails)) 500 (([([117,110,107,110,111,119,110]:Str)]:List Str)) v18 h19) rfl rfl (zba rfl (zba rfl (zba rfl (zba rfl (zba rfl zga)))))) rfl<|rn tk 2 rfl ?_;cases hr;exact krS tk (.inl rfl) rfl rfl (zba rfl (zba rfl (zba rfl (zba rfl (zba rfl (zba rfl zga))))))
 refine rn tk 2 rfl<|wz cS ([([115,121,110,116,97,120]:Str)]:List Str) tk rfl rfl (fun _=>rfl) rfl rfl rfl ?_;obtain ⟨v20,h21,hr⟩:=zaa hr;refine wo (zya (k:=59) (zpa ((zea.mk ((zja.mk a0.Server.Name a0.Server.Size a0.Server.Many a0.Server.Phase a0.Server.Greeted a0.Server.Mailing a0.Server.From a0.Server.To (([]:List UInt8)) a0.Server.Data a0.Server.Lost a0.Server.Dots a0.Server.Chunked a0.Server.Left a0.Server.Last a0.Server.Ignore a0.Server.Count)) a0.replies a0.mails)) 501 (([([115,121,110,116,97,120]:Str)]:List Str)) v20 h21) rfl rfl (zba rfl (zba rfl (zba rfl (zba rfl (zba rfl zga)))))) rfl<|rn tk 2 rfl ?_;cases hr;exact krS tk (.inl rfl) rfl rfl (zba rfl (zba rfl (zba rfl (zba rfl (zba rfl (zba rfl zga))))))
theorem vsa(a0:List UInt8)(r:List UInt8)(hr:kza a0=some r):RunO prog 37 [.l cU a0] 5 1 (List.map cU r):=by
 unfold kza at hr;refine rfO (fn:=f37) ⟨func37,rfl,by kernel_rfl⟩ rfl fun g0 hg=>?_
 refine rn tk 3 rfl ?_;refine wIa 1002 (d:=2) 5 1 rfl rfl rfl (hO ?_);refine rn tk 6 rfl ?_;refine Vva (d:=3) (F:=cU) (l:=a0) rfl rfl rfl zka (fun c1=>hO ?_) (hO ?_)
 .replace hr:=zeb c1 hr
  refine rn tk 6 rfl ?_;refine wIa 2002 (d:=2) 5 1 rfl rfl rfl (hO ?_);refine rn tk 4 rfl ?_;cases hr;exact krO tk (.inr rfl) rfl rfl
 replace hr:=zfb hr
 refine rn tk 7 rfl<|wo (WWa (k:=5) rfl zka zAa) rfl<|rn tk 1 rfl ?_;obtain ⟨v2,h3,hr⟩:=zaa hr;refine wo (ZXa (k:=7) (F:=cU) (xs:=a0) (lim:=140737488355328) 2002 rfl rfl rfl zka zAa rfl rfl (fun _=>rfl) rfl rfl rfl h3) rfl<|rn tk 4 rfl ?_;cases hr;exact krO tk (.inr rfl) rfl rfl
theorem Kpa(a0:zja)(a1:List UInt8)(r:zja × (List zLa) × (List zVa) × zva)(hr:v4a a0 a1=some r):Run prog 13 [.agg (zA2 a0),.l cU a1] (.tup [.agg (zA2 r.1),.l zLa.pc r.2.1,.l zVa.pc r.2.2.1,.agg [.i r.2.2.2.Code,.i r.2.2.2.Index]]):=by
 unfold v4a at hr;refine rf (fn:=f13) ⟨func13,rfl,by kernel_rfl⟩ rfl (fun _=>rfl) fun g0 hg=>?_
 refine rn tk 17 rfl ?_;obtain ⟨v1,h2,hr⟩:=zaa hr;refine cl (yma _ _ _ _ h2) rfl rfl<|rn tk 9 rfl ?_;obtain ⟨v3,h4,hr⟩:=zaa hr;refine cl (zWa _ _ h4) rfl rfl<|rn tk 3 rfl<|ac 20 hr rfl (fun c5 hr=>?_) (fun c5 hr=>?_)
 .refine rn tk 1 rfl ?_;refine mc tk [] [(4,.ptr 4 0),(5,.pv (.sl (some true) [])),(6,.pv (.sl (some true) [])),(7,.ptr 7 0)] mixed rfl (by kernel_rfl) .nil (fc rfl (fc rfl (fc rfl (fc rfl fn)))) (hA ?_);refine rn tk 4 rfl ?_;cases hr;exact kr tk (.inr rfl) rfl rfl
 refine rn tk 3 rfl ?_;obtain ⟨v6,h7,hr⟩:=zaa hr;refine cl (VYa _ _ h7) rfl rfl<|rn tk 4 rfl<|ac 25 hr rfl (fun c8 hr=>?_) (fun c8 hr=>?_)
 .refine rn tk 3 rfl ?_;obtain ⟨v9,h10,hr⟩:=zaa hr;refine cl (zqa _ _ _ h10) rfl rfl<|rn tk 9 rfl ?_;cases hr;exact kr tk (.inr rfl) rfl rfl
 refine rn tk 3 rfl<|wn tk rfl rfl rfl<|rn tk 4 rfl<|ac 31 hr rfl (fun c11 hr=>?_) (fun c11 hr=>?_)
 .refine rn tk 3 rfl ?_;obtain ⟨v12,h13,hr⟩:=zaa hr;refine cl (zqa _ _ _ h13) rfl rfl<|rn tk 9 rfl ?_;cases hr;exact kr tk (.inr rfl) rfl rfl
 refine rn tk 4 rfl ?_;obtain ⟨v14,h15,hr⟩:=zaa hr;obtain ⟨v16,h17,hr⟩:=zaa hr;obtain ⟨v18,h19,hr⟩:=zaa hr;refine mz [some (.ptr 2 7),some (.l zca.pc a0.To),some (.l zca.pc v14),some (.ptr 2 8),some (.l cU a0.Buffer),none,some (.ptr 2 9),some (.l cU a0.Data),none,some (.ptr 2 7),none,some (.ptr 2 8),none,some (.ptr 2 9),none] (fun f s=>[((bt 15 0),f,s),((bt 15 32),((42,.hs 1042 0)::f),((1042,.row 5 true 1 (List.map cU v16))::s)),((bt 15 288),((45,.hs 1045 0)::((42,.hs 1042 0)::f)),((1045,.row 5 true 1 (List.map cU v18))::((1042,.row 5 true 1 (List.map cU v16))::s))),((bt 15 1312),((45,.hs 1045 0)::((42,.hs 1042 0)::f)),(Sto.upd ((1045,.row 5 true 1 (List.map cU v18))::((1042,.row 5 true 1 (List.map cU v16))::s)) 2 (.cells [.s a0.Name,.i a0.Size,.i a0.Many,.i a0.Phase,.bo a0.Greeted,.bo a0.Mailing,.s a0.From,.l zca.pc v14,.l cU a0.Buffer,.l cU a0.Data,.i a0.Lost,.i a0.Dots,.bo a0.Chunked,.i a0.Left,.bo a0.Last,.bo a0.Ignore,.i a0.Count]))),((bt 15 5408),((45,.hs 1045 0)::((42,.hs 1042 0)::f)),(Sto.upd (Sto.upd ((1045,.row 5 true 1 (List.map cU v18))::((1042,.row 5 true 1 (List.map cU v16))::s)) 2 (.cells [.s a0.Name,.i a0.Size,.i a0.Many,.i a0.Phase,.bo a0.Greeted,.bo a0.Mailing,.s a0.From,.l zca.pc v14,.l cU a0.Buffer,.l cU a0.Data,.i a0.Lost,.i a0.Dots,.bo a0.Chunked,.i a0.Left,.bo a0.Last,.bo a0.Ignore,.i a0.Count])) 2 (.cells [.s a0.Name,.i a0.Size,.i a0.Many,.i a0.Phase,.bo a0.Greeted,.bo a0.Mailing,.s a0.From,.l zca.pc v14,.hs 1042 0,.l cU a0.Data,.i a0.Lost,.i a0.Dots,.bo a0.Chunked,.i a0.Left,.bo a0.Last,.bo a0.Ignore,.i a0.Count]))),((bt 15 21792),((45,.hs 1045 0)::((42,.hs 1042 0)::f)),(Sto.upd (Sto.upd (Sto.upd ((1045,.row 5 true 1 (List.map cU v18))::((1042,.row 5 true 1 (List.map cU v16))::s)) 2 (.cells [.s a0.Name,.i a0.Size,.i a0.Many,.i a0.Phase,.bo a0.Greeted,.bo a0.Mailing,.s a0.From,.l zca.pc v14,.l cU a0.Buffer,.l cU a0.Data,.i a0.Lost,.i a0.Dots,.bo a0.Chunked,.i a0.Left,.bo a0.Last,.bo a0.Ignore,.i a0.Count])) 2 (.cells [.s a0.Name,.i a0.Size,.i a0.Many,.i a0.Phase,.bo a0.Greeted,.bo a0.Mailing,.s a0.From,.l zca.pc v14,.hs 1042 0,.l cU a0.Data,.i a0.Lost,.i a0.Dots,.bo a0.Chunked,.i a0.Left,.bo a0.Last,.bo a0.Ignore,.i a0.Count])) 2 (.cells [.s a0.Name,.i a0.Size,.i a0.Many,.i a0.Phase,.bo a0.Greeted,.bo a0.Mailing,.s a0.From,.l zca.pc v14,.hs 1042 0,.hs 1045 0,.i a0.Lost,.i a0.Dots,.bo a0.Chunked,.i a0.Left,.bo a0.Last,.bo a0.Ignore,.i a0.Count])))]) mixed (by kernel_rfl) (.cons (mn tk [2,5] (by kernel_rfl) (.cons (.pure rfl rfl (vWa (zTa a0.To v14 h15) rfl)) (.cons (mdt 1 rfl (WIa 1042 (vsa a0.Buffer v16 h17) rfl rfl rfl rfl) (by kernel_rfl)) .nil))) (.cons (mn tk [8] (by kernel_rfl) (.cons (mdt 2 rfl (WIa 1045 (vsa a0.Data v18 h19) rfl rfl rfl rfl) (by kernel_rfl)) .nil)) (.cons (mn tk [10] (by kernel_rfl) (.cons (mst 3 rfl (yza rfl rfl rfl zoa rfl rfl) (by kernel_rfl)) .nil)) (.cons (mn tk [12] (by kernel_rfl) (.cons (mst 4 rfl (yza rfl rfl rfl zka rfl rfl) (by kernel_rfl)) .nil)) (.cons (mn tk [14] (by kernel_rfl) (.cons (mst 5 rfl (yza rfl rfl rfl zka rfl rfl) (by kernel_rfl)) .nil)) (.cons (mf tk [] [(1,.l cU a1),(2,.ptr 2 0),(4,.ptr 4 0),(7,.ptr 7 0)] (by kernel_rfl) .nil (fc rfl (fc rfl (fc rfl (fc rfl fn)))) (hA ?_)) .nil))))));refine rn tk 5 rfl<|wo (J5a (k:=51) 90002000 rfl rfl rfl rfl rfl) rfl<|rn tk 2 rfl ?_;refine vVb 1042 90002009 rfl rfl rfl rfl rfl rfl (hO ?_);refine kfb 90002009 rfl (hO ?_);refine vVb 1045 90002010 rfl rfl rfl rfl rfl rfl (hO ?_);refine kfb 90002010 rfl (hO ?_);refine yPa 90002018 (o:=90002000) (j:=17) 28 2 rfl rfl rfl rfl (hO ?_);refine yPa 90002019 (o:=90002000) (j:=18) 56 5 rfl rfl rfl rfl (hO ?_);refine rn tk 12 rfl<|wn tk rfl rfl rfl<|rn tk 4 rfl<|al1 hr (fun s20=>[(4,.ptr 4 0),(7,.ptr 7 0),(9,.ptr 9 0),(10,.fn (.func 38) [] [.ptr 9 0]),(53,.l cU a1),(54,.i ((a1.length:Int))),(55,.i s20.1)]) (fun s20=>[(90002019,.row 56 false 5 (List.map zVa.pc s20.2.mails)),(90002018,.row 28 false 2 (List.map zLa.pc s20.2.replies)),(90002010,.row 5 false 1 (List.map cU s20.2.Server.Data)),(90002009,.row 5 false 1 (List.map cU s20.2.Server.Buffer)),(9,.cells [.ptr 90002000 0]),(90002000,.cells (zA0 s20.2.Server)),(7,.cells [.i 0,.i 0]),(4,.cells [.s (([]:Str)),.i 0,.i 0,.i 0,.bo false,.bo false,.s (([]:Str)),.l zca.pc ([]),.l cU ([]),.l cU ([]),.i 0,.i 0,.bo false,.i 0,.bo false,.bo false,.i 0])]) (.exit 1) (fun b21=>[(4,.ptr 4 0),(7,.ptr 7 0),(9,.ptr 9 0)]) (fun b21=>(zB0 b21 [(9,.cells [.ptr 90002000 0]),(7,.cells [.i 0,.i 0]),(4,.cells [.s (([]:Str)),.i 0,.i 0,.i 0,.bo false,.bo false,.s (([]:Str)),.l zca.pc ([]),.l cU ([]),.l cU ([]),.i 0,.i 0,.bo false,.i 0,.bo false,.bo false,.i 0])])) rfl rfl (fun s20 x22 hr=>?_) (fun b21 hr=>?_)
 .unfold qka at hr;refine rn tk 6 rfl<|ac 56 hr rfl (fun c23 hr=>?_) (fun c23 hr=>?_)
  .refine rn tk 2 rfl<|jb hr (fun j24=>[(4,.ptr 4 0),(7,.ptr 7 0),(9,.ptr 9 0),(10,.fn (.func 38) [] [.ptr 9 0]),(53,.l cU a1),(54,.i ((a1.length:Int))),(55,.i s20.1)]) (fun j24=>(zB0 j24 [(9,.cells [.ptr 90002000 0]),(7,.cells [.i 0,.i 0]),(4,.cells [.s (([]:Str)),.i 0,.i 0,.i 0,.bo false,.bo false,.s (([]:Str)),.l zca.pc ([]),.l cU ([]),.l cU ([]),.i 0,.i 0,.bo false,.i 0,.bo false,.bo false,.i 0])])) (fun j24 hr=>?_) (fun j24 hr=>?_)
   .refine rn tk 3 rfl ?_;obtain ⟨v25,h26,hr⟩:=zaa hr;refine wi tk h26 rfl rfl rfl rfl rfl<|rn tk 20 rfl<|ac 64 hr rfl (fun c27 hr=>?_) (fun c27 hr=>?_)
    .refine rn tk 3 rfl ?_;obtain ⟨v28,h29,hr⟩:=zaa hr;refine wo (zya (k:=68) (ZDa s20.2 v25 v28 h29) rfl rfl (zba rfl (zba rfl (zba rfl (zba rfl (zba rfl zga)))))) rfl<|rn tk 3 rfl ?_;cases hr;exact jn _ rfl rfl rfl
    refine rn tk 6 rfl<|ac 69 hr rfl (fun c30 hr=>?_) (fun c30 hr=>?_)
    .refine rn tk 3 rfl ?_;obtain ⟨v31,h32,hr⟩:=zaa hr;refine wo (zya (k:=73) (ZCa s20.2 v25 v31 h32) rfl rfl (zba rfl (zba rfl (zba rfl (zba rfl (zba rfl zga)))))) rfl<|rn tk 3 rfl ?_;cases hr;exact jn _ rfl rfl rfl
    refine rn tk 6 rfl<|ac 74 hr rfl (fun c33 hr=>?_) (fun c33 hr=>?_)
    .refine rn tk 3 rfl<|il (fn:=f38) (args:=[.u8 v25,.ptr 9 0]) 600000 699999 [(4,.ptr 4 0),(7,.ptr 7 0),(9,.ptr 9 0),(10,.fn (.func 38) [] [.ptr 9 0]),(53,.l cU a1),(54,.i ((a1.length:Int))),(55,.i s20.1)] rfl ⟨func38,rfl,by kernel_rfl⟩ rfl rfl rfl fun T6 ds6=>?_
     refine jb hr (fun j34=>[(1,.ptr 9 0)]) (fun j34=>(zB0 j34 [(699999,.sus g0.w.heap.size ds6),(600004,.hold (.ptr 4 0) (T6.getD 4 undef)),(600007,.hold (.ptr 7 0) (T6.getD 7 undef)),(600009,.hold (.ptr 9 0) (T6.getD 9 undef)),(600010,.hold (.fn (.func 38) [] [.ptr 9 0]) (T6.getD 10 undef)),(600053,.hold (.l cU a1) (T6.getD 53 undef)),(600054,.hold (.i ((a1.length:Int))) (T6.getD 54 undef)),(600055,.hold (.i s20.1) (T6.getD 55 undef)),(9,.cells [.ptr 90002000 0]),(7,.cells [.i 0,.i 0]),(4,.cells [.s (([]:Str)),.i 0,.i 0,.i 0,.bo false,.bo false,.s (([]:Str)),.l zca.pc ([]),.l cU ([]),.l cU ([]),.i 0,.i 0,.bo false,.i 0,.bo false,.bo false,.i 0])])) (fun j34 hr=>?_) (fun j34 hr=>?_)
     .refine rn tk 10 rfl<|ac 8 hr rfl (fun c35 hr=>?_) (fun c35 hr=>?_)
      .refine rn tk 3 rfl ?_;obtain ⟨v36,h37,hr⟩:=zaa hr;refine wo (zya (k:=11) (q2a s20.2 v25 v36 h37) rfl rfl (zba rfl (zba rfl (zba rfl (zba rfl (zba rfl zga)))))) rfl<|rn tk 1 rfl ?_;cases hr;exact jn _ rfl rfl rfl
      refine rn tk 1 rfl ?_;cases hr;exact jn _ rfl rfl rfl
     refine rn tk 24 rfl<|ac 26 hr rfl (fun c38 hr=>?_) (fun c38 hr=>?_)
     .refine rn tk 2 rfl ?_;obtain ⟨v39,h40,hr⟩:=zaa hr;refine wo (zya (k:=28) (vFa ((zea.mk ((zja.mk j34.Server.Name j34.Server.Size j34.Server.Many j34.Server.Phase j34.Server.Greeted j34.Server.Mailing j34.Server.From j34.Server.To j34.Server.Buffer j34.Server.Data j34.Server.Lost j34.Server.Dots j34.Server.Chunked ((w64 (j34.Server.Left - 1))) j34.Server.Last j34.Server.Ignore j34.Server.Count)) j34.replies j34.mails)) v39 h40) rfl rfl (zba rfl (zba rfl (zba rfl (zba rfl (zba rfl zga)))))) rfl<|rn tk 1 rfl ?_;refine ie tk [] [(4,.ptr 4 0),(7,.ptr 7 0),(9,.ptr 9 0),(10,.fn (.func 38) [] [.ptr 9 0]),(53,.l cU a1),(54,.i ((a1.length:Int))),(55,.i s20.1)] (zB0 v39 [(9,.cells [.ptr 90002000 0]),(7,.cells [.i 0,.i 0]),(4,.cells [.s (([]:Str)),.i 0,.i 0,.i 0,.bo false,.bo false,.s (([]:Str)),.l zca.pc ([]),.l cU ([]),.l cU ([]),.i 0,.i 0,.bo false,.i 0,.bo false,.bo false,.i 0])]) (.inl rfl) rfl rfl rfl rfl (hO ?_);refine rn tk 3 rfl ?_;cases hr;exact jn _ rfl rfl rfl
     refine rn tk 1 rfl ?_;refine ie tk [] [(4,.ptr 4 0),(7,.ptr 7 0),(9,.ptr 9 0),(10,.fn (.func 38) [] [.ptr 9 0]),(53,.l cU a1),(54,.i ((a1.length:Int))),(55,.i s20.1)] [(90002000,.cells [.s j34.Server.Name,.i j34.Server.Size,.i j34.Server.Many,.i j34.Server.Phase,.bo j34.Server.Greeted,.bo j34.Server.Mailing,.s j34.Server.From,.l zca.pc j34.Server.To,.hs 90002009 0,.hs 90002010 0,.i j34.Server.Lost,.i j34.Server.Dots,.bo j34.Server.Chunked,.i ((w64 (j34.Server.Left - 1))),.bo j34.Server.Last,.bo j34.Server.Ignore,.i j34.Server.Count,.hs 90002018 0,.hs 90002019 0]),(90002009,.row 5 false 1 (List.map cU j34.Server.Buffer)),(90002010,.row 5 false 1 (List.map cU j34.Server.Data)),(90002018,.row 28 false 2 (List.map zLa.pc j34.replies)),(90002019,.row 56 false 5 (List.map zVa.pc j34.mails)),(9,.cells [.ptr 90002000 0]),(7,.cells [.i 0,.i 0]),(4,.cells [.s (([]:Str)),.i 0,.i 0,.i 0,.bo false,.bo false,.s (([]:Str)),.l zca.pc ([]),.l cU ([]),.l cU ([]),.i 0,.i 0,.bo false,.i 0,.bo false,.bo false,.i 0])] (.inl rfl) rfl rfl rfl rfl (hO ?_);refine rn tk 3 rfl ?_;cases hr;exact jn _ rfl rfl rfl
    refine rn tk 3 rfl ?_;cases hr;exact jn _ rfl rfl rfl
   refine rn tk 4 rfl ?_;cases hr;exact atc rfl rfl
  refine rn tk 2 rfl ?_;cases hr;exact ato rfl rfl rfl rfl
 refine rn tk 3 rfl ?_;obtain ⟨v41,h42,hr⟩:=zaa hr;refine mc tk [(12,.agg [.i v41.Code,.i v41.Index])] [(4,.ptr 4 0),(5,.hs 90002018 0),(6,.hs 90002019 0),(7,.ptr 7 0)] mixed rfl (by kernel_rfl) (.cons rfl rfl (fun _ _=>(vWa (z2a v41 h42) rfl)) .nil) (fc rfl (fc rfl (fc rfl (fc rfl fn)))) (hA ?_);refine rn tk 1 rfl ?_;refine vJb (o:=4) (j:=8) (F:=cU) (l:=b21.Server.Buffer) rfl rfl rfl (hC ?_);refine vJb (o:=4) (j:=9) (F:=cU) (l:=b21.Server.Data) rfl rfl rfl (hC ?_);refine ypa (d:=5) (F:=zLa.pc) (l:=b21.replies) rfl rfl (hC ?_);refine ypa (d:=6) (F:=zVa.pc) (l:=b21.mails) rfl rfl (hC ?_);refine rn tk 1 rfl ?_;cases hr;exact kr tk (.inr rfl) rfl rfl
theorem jIa(a0:Str)(a1:Int)(a2:Int)(r:zja × zLa × zva)(hr:wQa a0 a1 a2=some r):Run prog 8 [.s a0,.i a1,.i a2] (.tup [.agg (zA2 r.1),.agg [.i r.2.1.Code,.l cS r.2.1.Lines],.agg [.i r.2.2.Code,.i r.2.2.Index]]):=by
 unfold wQa at hr;refine rf (fn:=f8) ⟨func8,rfl,by kernel_rfl⟩ rfl (fun _=>rfl) fun g0 hg=>?_
 refine rn tk 13 rfl ?_;obtain ⟨v1,h2,hr⟩:=zaa hr;refine cl (yma _ _ _ _ h2) rfl rfl<|rn tk 7 rfl ?_;obtain ⟨v3,h4,hr⟩:=zaa hr;refine cl (zWa _ _ h4) rfl rfl<|rn tk 2 rfl<|ac 15 hr rfl (fun c5 hr=>?_) (fun c5 hr=>?_)
 .refine rn tk 1 rfl ?_;refine mc tk [] [(6,.ptr 6 0),(7,.ptr 7 0),(8,.ptr 8 0)] mixed rfl (by kernel_rfl) .nil (fc rfl (fc rfl (fc rfl fn))) (hA ?_);refine rn tk 3 rfl ?_;cases hr;exact kr tk (.inr rfl) rfl rfl
 refine rn tk 9 rfl<|wz cS ([a0]:List Str) tk rfl rfl (fun _=>rfl) rfl rfl rfl<|rn tk 1 rfl ?_;obtain ⟨v6,h7,hr⟩:=zaa hr;refine cl (z2a _ h7) rfl rfl<|rn tk 6 rfl ?_;cases hr;exact kr tk (.inr rfl) rfl rfl
theorem Vja(r:Bool)(hr:jZa=some r):Run prog 10 [] (.bo r):=by
 unfold jZa at hr;refine rf (fn:=f10) ⟨func10,rfl,by kernel_rfl⟩ rfl (fun _=>rfl) fun g0 hg=>?_
 refine rn tk 7 rfl ?_;obtain ⟨v1,h2,hr⟩:=zaa hr;refine cl (jIa _ _ _ _ h2) rfl rfl<|rn tk 15 rfl ?_;refine jba rfl (QQa (F:=cU) (l:=([(104:UInt8),(101:UInt8),(108:UInt8),(108:UInt8),(111:UInt8),(32:UInt8),(99:UInt8),(13:UInt8),(10:UInt8),(109:UInt8),(97:UInt8),(105:UInt8),(108:UInt8),(32:UInt8),(60:UInt8),(115:UInt8),(64:UInt8),(120:UInt8),(62:UInt8),(13:UInt8),(10:UInt8),(114:UInt8),(99:UInt8),(112:UInt8),(116:UInt8),(32:UInt8),(60:UInt8),(97:UInt8),(64:UInt8),(121:UInt8),(62:UInt8),(13:UInt8),(10:UInt8),(100:UInt8),(97:UInt8),(116:UInt8),(97:UInt8),(13:UInt8),(10:UInt8),(13:UInt8),(10:UInt8),(46:UInt8),(46:UInt8),(13:UInt8),(10:UInt8),(46:UInt8),(13:UInt8),(10:UInt8),(110:UInt8),(111:UInt8),(111:UInt8),(112:UInt8),(13:UInt8),(10:UInt8)]:List UInt8)) zka zAa rfl (fun _=>rfl) rfl (by kernel_rfl)) zka zAa (zua rfl) (zua rfl) rfl (hO ?_);obtain ⟨v3,h4,hr⟩:=zaa hr;refine cl (Kpa _ _ _ h4) rfl rfl<|rn tk 15 rfl ?_;obtain ⟨v5,h6,hr⟩:=zaa hr;refine cl (jIa _ _ _ _ h6) rfl rfl<|rn tk 13 rfl<|jb hr (fun j7=>[(4,.ptr 4 0),(5,.l zLa.pc v3.2.1),(6,.l zVa.pc v3.2.2.1),(66,.bo j7)]) (fun j7=>[(4,.cells (zA2 v3.1))]) (fun j7 hr=>?_) (fun j7 hr=>?_)
 .refine yKa ((v1.2.2.Code !=0)) (fun c8=>?_) (fun c8=>?_)
  .replace hr:=ZSa c8 hr
   refine dr 11 [(40,.tup []),(39,.tup []),(38,.bo true),(37,.bo true),(36,.tup []),(35,.tup []),(34,.tup []),(33,.bo ((v1.2.2.Code !=0))),(32,.bo ((v1.2.2.Code !=0))),(31,.i v1.2.2.Code),(30,.ptr 3 0)] mixed (by kernel_rfl) rfl rfl (pq tk rfl (.plain rfl) (pq tk rfl (.plain rfl) (pq tk rfl (.plain rfl) (pq tk rfl (.plain rfl) (.skip (.no (d:=33) rfl rfl rfl c8) (.skip (.no (d:=33) rfl rfl rfl c8) (.skip (.no (d:=33) rfl rfl rfl c8) (.run (.plain rfl) (k9a (jLa rfl c8)) (pq tk rfl (.plain rfl) (.skip (.no (d:=38) rfl rfl rfl rfl) (.skip (.no (d:=38) rfl rfl rfl rfl) .nil))))))))))) rfl<|rn tk 27 rfl ?_;cases hr;exact jn _ rfl rfl rfl
  replace hr:=ZTa c8 hr
  refine yKa ((v3.2.2.2.Code !=0)) (fun c9=>?_) (fun c9=>?_)
  .replace hr:=ZSa c9 hr
   refine dr 11 [(40,.tup []),(39,.tup []),(38,.bo ((v3.2.2.2.Code !=0))),(37,.bo ((v3.2.2.2.Code !=0))),(36,.bo ((v3.2.2.2.Code !=0))),(35,.i v3.2.2.2.Code),(34,.ptr 7 0),(33,.bo ((v1.2.2.Code !=0))),(32,.bo ((v1.2.2.Code !=0))),(31,.i v1.2.2.Code),(30,.ptr 3 0)] mixed (by kernel_rfl) rfl rfl (pq tk rfl (.plain rfl) (pq tk rfl (.plain rfl) (pq tk rfl (.plain rfl) (pq tk rfl (.plain rfl) (pq tk rfl (.yes (d:=33) rfl rfl rfl c8) (pq tk rfl (.yes (d:=33) rfl rfl rfl c8) (pq tk rfl (.yes (d:=33) rfl rfl rfl c8) (.run (.plain rfl) (k9a (w4a rfl c8)) (pq tk rfl (.plain rfl) (.skip (.no (d:=38) rfl rfl rfl c9) (.skip (.no (d:=38) rfl rfl rfl c9) .nil))))))))))) rfl<|kn 38 c9 rfl<|rn tk 27 rfl ?_;cases hr;exact jn _ rfl rfl rfl
  replace hr:=ZTa c9 hr
  obtain ⟨v10,h11,hr⟩:=zaa hr;refine dr 11 [(40,.agg [.i v10.Code,.i v10.Index]),(39,.agg [.i v5.2.2.Code,.i v5.2.2.Index]),(38,.bo ((v3.2.2.2.Code !=0))),(37,.bo ((v3.2.2.2.Code !=0))),(36,.bo ((v3.2.2.2.Code !=0))),(35,.i v3.2.2.2.Code),(34,.ptr 7 0),(33,.bo ((v1.2.2.Code !=0))),(32,.bo ((v1.2.2.Code !=0))),(31,.i v1.2.2.Code),(30,.ptr 3 0)] mixed (by kernel_rfl) rfl rfl (pq tk rfl (.plain rfl) (pq tk rfl (.plain rfl) (pq tk rfl (.plain rfl) (pq tk rfl (.plain rfl) (pq tk rfl (.yes (d:=33) rfl rfl rfl c8) (pq tk rfl (.yes (d:=33) rfl rfl rfl c8) (pq tk rfl (.yes (d:=33) rfl rfl rfl c8) (.run (.plain rfl) (k9a (w4a rfl c8)) (pq tk rfl (.plain rfl) (pq tk rfl (.yes (d:=38) rfl rfl rfl c9) (.run (.yes (d:=38) rfl rfl rfl c9) (vWa (vCa 10 ((-20)) v10 h11) rfl) .nil))))))))))) rfl<|kn 38 c9 rfl<|ug rfl rfl rfl<|wq (Zca rfl rfl vca znb (.int rfl (by decide) jRa (.int rfl (by decide) jRa .nil))) rfl rfl rfl<|rn tk 2 rfl<|bs 43 hr rfl (fun c12 hr=>?_) (fun c12 hr=>?_)
  .refine rn tk 24 rfl ?_;cases hr;exact jn _ rfl rfl rfl
  refine rn tk 5 rfl<|bs 48 hr rfl (fun c13 hr=>?_) (fun c13 hr=>?_)
  .refine rn tk 19 rfl ?_;cases hr;exact jn _ rfl rfl rfl
  refine rn tk 1 rfl<|ug rfl rfl rfl<|wn tk rfl rfl rfl<|rn tk 3 rfl<|bs 53 hr rfl (fun c14 hr=>?_) (fun c14 hr=>?_)
  .refine rn tk 14 rfl ?_;cases hr;exact jn _ rfl rfl rfl
  refine rn tk 1 rfl<|ug rfl rfl rfl<|wn tk rfl rfl rfl<|rn tk 3 rfl<|bs 58 hr rfl (fun c15 hr=>?_) (fun c15 hr=>?_)
  .refine rn tk 9 rfl ?_;cases hr;exact jn _ rfl rfl rfl
  refine rn tk 1 rfl ?_;obtain ⟨v16,h17,hr⟩:=zaa hr;refine ug rfl rfl rfl<|wi tk h17 rfl rfl rfl rfl rfl<|rn tk 3 rfl<|ug rfl rfl rfl<|wn tk rfl rfl rfl<|rn tk 3 rfl ?_;cases hr;exact jn _ rfl rfl rfl
 refine ac 66 hr rfl (fun c18 hr=>?_) (fun c18 hr=>?_)
 .refine rn tk 7 rfl ?_;cases hr;exact kr tk (.inr rfl) rfl rfl
 refine rn tk 2 rfl<|jb hr (fun j19=>[(0,.bo j19)]) (fun j19=>[]) (fun j19 hr=>?_) (fun j19 hr=>?_)
 .refine rn tk 2 rfl ?_;obtain ⟨v20,h21,hr⟩:=zaa hr;refine wi tk h21 rfl rfl rfl rfl rfl<|rn tk 4 rfl<|bs 72 hr rfl (fun c22 hr=>?_) (fun c22 hr=>?_)
  .refine rn tk 1 rfl ?_;obtain ⟨v23,h24,hr⟩:=zaa hr;refine ug rfl rfl rfl<|wi tk h24 rfl rfl rfl rfl rfl<|rn tk 2 rfl<|ug rfl rfl rfl<|wz cS ([([109,120,45,49]:Str)]:List Str) tk rfl rfl (fun _=>rfl) rfl rfl rfl ?_;obtain ⟨v25,h26,hr⟩:=zaa hr;refine ug rfl rfl rfl<|cl (z0b _ _ _ h26) rfl rfl<|rn tk 2 rfl<|bs 80 hr rfl (fun c27 hr=>?_) (fun c27 hr=>?_)
   .refine rn tk 1 rfl ?_;obtain ⟨v28,h29,hr⟩:=zaa hr;refine ug rfl rfl rfl<|wi tk h29 rfl rfl rfl rfl rfl<|rn tk 5 rfl<|bs 87 hr rfl (fun c30 hr=>?_) (fun c30 hr=>?_)
    .refine rn tk 5 rfl<|bs 92 hr rfl (fun c31 hr=>?_) (fun c31 hr=>?_)
     .refine rn tk 1 rfl ?_;obtain ⟨v32,h33,hr⟩:=zaa hr;refine ug rfl rfl rfl<|wi tk h33 rfl rfl rfl rfl rfl<|rn tk 6 rfl<|bs 100 hr rfl (fun c34 hr=>?_) (fun c34 hr=>?_)
      .refine rn tk 1 rfl ?_;obtain ⟨v35,h36,hr⟩:=zaa hr;refine ug rfl rfl rfl<|wi tk h36 rfl rfl rfl rfl rfl<|rn tk 6 rfl<|bs 108 hr rfl (fun c37 hr=>?_) (fun c37 hr=>?_)
       .refine rn tk 1 rfl ?_;obtain ⟨v38,h39,hr⟩:=zaa hr;refine ug rfl rfl rfl<|wi tk h39 rfl rfl rfl rfl rfl<|rn tk 3 rfl<|ug rfl rfl rfl<|wb tk rfl rfl rfl<|rn tk 4 rfl ?_;cases hr;exact jn _ rfl rfl rfl
       refine rn tk 10 rfl ?_;cases hr;exact jn _ rfl rfl rfl
      refine rn tk 18 rfl ?_;cases hr;exact jn _ rfl rfl rfl
     refine rn tk 26 rfl ?_;cases hr;exact jn _ rfl rfl rfl
    refine rn tk 31 rfl ?_;cases hr;exact jn _ rfl rfl rfl
   refine rn tk 38 rfl ?_;cases hr;exact jn _ rfl rfl rfl
  refine rn tk 46 rfl ?_;cases hr;exact jn _ rfl rfl rfl
 refine rn tk 1 rfl ?_;cases hr;exact kr tk (.inr rfl) rfl rfl
theorem wYa(a0:UInt8)(r:Bool)(hr:q1a a0=some r):Run prog 78 [.u8 a0] (.bo r):=by
 unfold q1a at hr;refine rf (fn:=f78) ⟨func78,rfl,by kernel_rfl⟩ rfl (fun _=>rfl) fun g0 hg=>?_
 refine rn tk 5 rfl<|jb hr (fun j1=>[(2,.bo j1)]) (fun j1=>[]) (fun j1 hr=>?_) (fun j1 hr=>?_)
 .refine rn tk 4 rfl<|bs 5 hr rfl (fun c2 hr=>?_) (fun c2 hr=>?_)
  .refine rn tk 5 rfl ?_;cases hr;exact jn _ rfl rfl rfl
  refine rn tk 5 rfl ?_;cases hr;exact jn _ rfl rfl rfl
 refine rn tk 1 rfl ?_;cases hr;exact kr tk (.inr rfl) rfl rfl
theorem ZGa(a0:Str)(a1:Str)(r:List Str)(hr:wba a0 a1=some r):Run prog 51 [.s a0,.s a1] (.l cS r):=by
 unfold wba at hr;refine rf (fn:=f51) ⟨func51,rfl,by kernel_rfl⟩ rfl (fun _=>rfl) fun g0 hg=>?_
 refine rn tk 8 rfl ?_;obtain ⟨v1,h2,hr⟩:=zaa hr;refine wc h2 rfl rfl rfl<|rn tk 1 rfl ?_;obtain ⟨v3,h4,hr⟩:=zaa hr;refine wc h4 rfl rfl rfl<|rn tk 14 rfl ?_;refine qUa 1007 (d:=7) 9 1 rfl rfl rfl (hO ?_);refine rn tk 4 rfl<|al1 hr (fun s5=>[(5,.s s5.1),(6,.i s5.2.1),(7,.hs 1007 0)]) (fun s5=>[(1007,.row 9 false 1 (List.map cS s5.2.2))]) (.exit 0) (fun b6=>[(5,.s b6.1),(7,.hs 1007 0)]) (fun b6=>[(1007,.row 9 false 1 (List.map cS b6.2))]) rfl rfl (fun s5 x7 hr=>?_) (fun b6 hr=>?_)
 .unfold vha at hr;refine rn tk 8 rfl<|ac 20 hr rfl (fun c8 hr=>?_) (fun c8 hr=>?_)
  .refine rn tk 15 rfl<|al1 hr (fun s9=>[(5,.s s5.1),(6,.i s5.2.1),(7,.hs 1007 0),(8,.i s9.1),(9,.i s9.2)]) (fun s9=>[(1007,.row 9 false 1 (List.map cS s5.2.2))]) (.exit 2) (fun b10=>[(5,.s s5.1),(6,.i s5.2.1),(7,.hs 1007 0),(8,.i b10)]) (fun b10=>[(1007,.row 9 false 1 (List.map cS s5.2.2))]) rfl rfl (fun s9 x11 hr=>?_) (fun b10 hr=>?_)
   .unfold kKa at hr;refine rn tk 1 rfl<|jb hr (fun j12=>[(5,.s s5.1),(6,.i s5.2.1),(7,.hs 1007 0),(8,.i s9.1),(9,.i s9.2),(26,.bo j12)]) (fun j12=>[(1007,.row 9 false 1 (List.map cS s5.2.2))]) (fun j12 hr=>?_) (fun j12 hr=>?_)
    .refine rn tk 4 rfl<|bs 23 hr rfl (fun c13 hr=>?_) (fun c13 hr=>?_)
     .refine rn tk 4 rfl ?_;cases hr;exact jn _ rfl rfl rfl
     refine rn tk 4 rfl ?_;cases hr;exact jn _ rfl rfl rfl
    refine ac 26 hr rfl (fun c14 hr=>?_) (fun c14 hr=>?_)
    .refine rn tk 2 rfl<|jb hr (fun j15=>[(5,.s s5.1),(6,.i s5.2.1),(7,.hs 1007 0),(8,.i j15),(9,.i s9.2)]) (fun j15=>[(1007,.row 9 false 1 (List.map cS s5.2.2))]) (fun j15 hr=>?_) (fun j15 hr=>?_)
     .refine rn tk 1 rfl<|jb hr (fun j16=>[(5,.s s5.1),(6,.i s5.2.1),(7,.hs 1007 0),(8,.i s9.1),(9,.i s9.2),(45,.bo j16)]) (fun j16=>[(1007,.row 9 false 1 (List.map cS s5.2.2))]) (fun j16 hr=>?_) (fun j16 hr=>?_)
      .refine rn tk 5 rfl<|bs 32 hr rfl (fun c17 hr=>?_) (fun c17 hr=>?_)
       .refine rn tk 2 rfl ?_;obtain ⟨v18,h19,hr⟩:=zaa hr;refine ug rfl rfl rfl<|ws tk h19 rfl rfl rfl rfl ?_;obtain ⟨v20,h21,hr⟩:=zaa hr;refine ug rfl rfl rfl<|cl (wYa _ _ h21) rfl rfl<|rn tk 2 rfl<|bs 38 hr rfl (fun c22 hr=>?_) (fun c22 hr=>?_)
        .refine rn tk 3 rfl ?_;obtain ⟨v23,h24,hr⟩:=zaa hr;refine ug rfl rfl rfl<|ws tk h24 rfl rfl rfl rfl ?_;obtain ⟨v25,h26,hr⟩:=zaa hr;refine ug rfl rfl rfl<|cl (wYa _ _ h26) rfl rfl<|rn tk 3 rfl ?_;cases hr;exact jn _ rfl rfl rfl
        refine rn tk 8 rfl ?_;cases hr;exact jn _ rfl rfl rfl
       refine rn tk 14 rfl ?_;cases hr;exact jn _ rfl rfl rfl
      refine ac 45 hr rfl (fun c27 hr=>?_) (fun c27 hr=>?_)
      .refine rn tk 5 rfl ?_;cases hr;exact jn _ rfl rfl rfl
      refine rn tk 2 rfl ?_;cases hr;exact jn _ rfl rfl rfl
     refine rn tk 5 rfl ?_;cases hr;exact atc rfl rfl
    refine rn tk 2 rfl ?_;cases hr;exact ato rfl rfl rfl rfl
   refine rn tk 9 rfl<|al1 hr (fun s28=>[(5,.s s5.1),(6,.i s5.2.1),(7,.hs 1007 0),(8,.i s28.1),(10,.i s28.2)]) (fun s28=>[(1007,.row 9 false 1 (List.map cS s5.2.2))]) (.exit 4) (fun b29=>[(5,.s s5.1),(7,.hs 1007 0),(8,.i b29)]) (fun b29=>[(1007,.row 9 false 1 (List.map cS s5.2.2))]) rfl rfl (fun s28 x30 hr=>?_) (fun b29 hr=>?_)
   .unfold kta at hr;refine rn tk 1 rfl<|jb hr (fun j31=>[(5,.s s5.1),(6,.i s5.2.1),(7,.hs 1007 0),(8,.i s28.1),(10,.i s28.2),(54,.bo j31)]) (fun j31=>[(1007,.row 9 false 1 (List.map cS s5.2.2))]) (fun j31 hr=>?_) (fun j31 hr=>?_)
    .refine rn tk 6 rfl<|bs 51 hr rfl (fun c32 hr=>?_) (fun c32 hr=>?_)
     .refine rn tk 4 rfl ?_;cases hr;exact jn _ rfl rfl rfl
     refine rn tk 4 rfl ?_;cases hr;exact jn _ rfl rfl rfl
    refine ac 54 hr rfl (fun c33 hr=>?_) (fun c33 hr=>?_)
    .refine rn tk 2 rfl<|jb hr (fun j34=>[(5,.s s5.1),(6,.i s5.2.1),(7,.hs 1007 0),(8,.i j34),(10,.i s28.2)]) (fun j34=>[(1007,.row 9 false 1 (List.map cS s5.2.2))]) (fun j34 hr=>?_) (fun j34 hr=>?_)
     .refine rn tk 1 rfl<|jb hr (fun j35=>[(5,.s s5.1),(6,.i s5.2.1),(7,.hs 1007 0),(8,.i s28.1),(10,.i s28.2),(73,.bo j35)]) (fun j35=>[(1007,.row 9 false 1 (List.map cS s5.2.2))]) (fun j35 hr=>?_) (fun j35 hr=>?_)
      .refine rn tk 5 rfl<|bs 60 hr rfl (fun c36 hr=>?_) (fun c36 hr=>?_)
       .refine rn tk 2 rfl ?_;obtain ⟨v37,h38,hr⟩:=zaa hr;refine ug rfl rfl rfl<|ws tk h38 rfl rfl rfl rfl ?_;obtain ⟨v39,h40,hr⟩:=zaa hr;refine ug rfl rfl rfl<|cl (wYa _ _ h40) rfl rfl<|rn tk 2 rfl<|bs 66 hr rfl (fun c41 hr=>?_) (fun c41 hr=>?_)
        .refine rn tk 3 rfl ?_;obtain ⟨v42,h43,hr⟩:=zaa hr;refine ug rfl rfl rfl<|ws tk h43 rfl rfl rfl rfl ?_;obtain ⟨v44,h45,hr⟩:=zaa hr;refine ug rfl rfl rfl<|cl (wYa _ _ h45) rfl rfl<|rn tk 3 rfl ?_;cases hr;exact jn _ rfl rfl rfl
        refine rn tk 8 rfl ?_;cases hr;exact jn _ rfl rfl rfl
       refine rn tk 14 rfl ?_;cases hr;exact jn _ rfl rfl rfl
      refine ac 73 hr rfl (fun c46 hr=>?_) (fun c46 hr=>?_)
      .refine rn tk 5 rfl ?_;cases hr;exact jn _ rfl rfl rfl
      refine rn tk 2 rfl ?_;cases hr;exact jn _ rfl rfl rfl
     refine rn tk 5 rfl ?_;cases hr;exact atc rfl rfl
    refine rn tk 2 rfl ?_;cases hr;exact ato rfl rfl rfl rfl
   refine rn tk 9 rfl<|ac 76 hr rfl (fun c47 hr=>?_) (fun c47 hr=>?_)
   .refine rn tk 3 rfl ?_;cases hr;exact ato rfl rfl rfl rfl
   refine rn tk 7 rfl ?_;obtain ⟨v48,h49,hr⟩:=zaa hr;refine wscH tk h49 rfl rfl rfl rfl<|wz cS ([v48]:List Str) tk rfl rfl (fun _=>rfl) rfl rfl rfl ?_;obtain ⟨v50,h51,hr⟩:=zaa hr;refine wa tk h51 rfl rfl rfl rfl (fun _=>rfl) rfl rfl<|rn tk 7 rfl ?_;obtain ⟨v52,h53,hr⟩:=zaa hr;refine wscL tk h53 rfl rfl rfl rfl<|rn tk 7 rfl ?_;cases hr;exact atc rfl rfl
  refine rn tk 2 rfl ?_;cases hr;exact ato rfl rfl rfl rfl
 refine rn tk 6 rfl<|wz cS ([b6.1]:List Str) tk rfl rfl (fun _=>rfl) rfl rfl rfl ?_;obtain ⟨v54,h55,hr⟩:=zaa hr;refine wa tk h55 rfl rfl rfl rfl (fun _=>rfl) rfl rfl<|rn tk 3 rfl ?_;refine ypa (d:=4) (F:=cS) (l:=v54) rfl rfl (hC ?_);refine rn tk 1 rfl ?_;cases hr;exact kr tk (.inr rfl) rfl rfl
theorem wCa(a0:zsa)(r:List UInt8)(hr:qha a0=some r):Run prog 23 [.agg [.l zha.pc a0.Fields,.l cU a0.Body]] (.l cU r):=by
 unfold qha at hr;refine rf (fn:=f23) ⟨func23,rfl,by kernel_rfl⟩ rfl (fun _=>rfl) fun g0 hg=>?_
 refine rn tk 9 rfl ?_;refine qUa 1003 (d:=3) 5 1 rfl rfl rfl (hO ?_);refine rn tk 9 rfl<|al1 hr (fun s1=>[(1,.ptr 1 0),(3,.hs 1003 0),(4,.i s1.1)]) (fun s1=>[(1003,.row 5 false 1 (List.map cU s1.2)),(1,.cells [.l zha.pc a0.Fields,.l cU a0.Body])]) (.exit 0) (fun b2=>[(1,.ptr 1 0),(3,.hs 1003 0)]) (fun b2=>[(1003,.row 5 false 1 (List.map cU b2)),(1,.cells [.l zha.pc a0.Fields,.l cU a0.Body])]) rfl rfl (fun s1 x3 hr=>?_) (fun b2 hr=>?_)
 .unfold qya at hr;refine rn tk 6 rfl<|wn tk rfl rfl rfl<|rn tk 3 rfl<|ac 11 hr rfl (fun c4 hr=>?_) (fun c4 hr=>?_)
  .refine rn tk 5 rfl ?_;obtain ⟨v5,h6,hr⟩:=zaa hr;obtain ⟨v7,h8,hr⟩:=zaa hr;refine dr 12 [(25,.s v7.Value),(24,.ep [pS v7.Value]),(23,.ep [pS v7.Name,pS v7.Value]),(22,.i s1.1),(21,.l zha.pc a0.Fields),(20,.ptr 1 0),(19,.s v5.Name),(18,.ep [pS v5.Name,pS v5.Value]),(17,.ep [pS v5.Name,pS v5.Value]),(16,.i s1.1),(15,.l zha.pc a0.Fields),(14,.ptr 1 0)] mixed (by kernel_rfl) rfl rfl (pq tk rfl (.plain rfl) (pq tk rfl (.plain rfl) (pq tk rfl (.plain rfl) (.run (.plain rfl) (k9a (wEa (f:=zha.pc) rfl rfl qVa vda rfl h6)) (pq tk rfl (.plain rfl) (pq tk rfl (.plain rfl) (pq tk rfl (.plain rfl) (pq tk rfl (.plain rfl) (pq tk rfl (.plain rfl) (.run (.plain rfl) (k9a (wEa (f:=zha.pc) rfl rfl qVa vda rfl h8)) (pq tk rfl (.plain rfl) (pq tk rfl (.plain rfl) .nil)))))))))))) rfl ?_;obtain ⟨v9,h10,hr⟩:=zaa hr;refine cl (ZGa _ _ _ h10) rfl rfl<|rn tk 9 rfl<|al1 hr (fun s11=>[(1,.ptr 1 0),(3,.hs 1003 0),(4,.i s1.1),(5,.l cS v9),(6,.i s11.1)]) (fun s11=>[(1003,.row 5 false 1 (List.map cU s11.2)),(1,.cells [.l zha.pc a0.Fields,.l cU a0.Body])]) (.exit 2) (fun b12=>[(1,.ptr 1 0),(3,.hs 1003 0),(4,.i s1.1)]) (fun b12=>[(1003,.row 5 false 1 (List.map cU b12)),(1,.cells [.l zha.pc a0.Fields,.l cU a0.Body])]) rfl rfl (fun s11 x13 hr=>?_) (fun b12 hr=>?_)
   .unfold qxa at hr;refine rn tk 5 rfl<|wn tk rfl rfl rfl<|rn tk 3 rfl<|ac 30 hr rfl (fun c14 hr=>?_) (fun c14 hr=>?_)
    .refine rn tk 9 rfl ?_;obtain ⟨v15,h16,hr⟩:=zaa hr;refine wi tk h16 rfl rfl rfl rfl rfl<|rn tk 1 rfl ?_;obtain ⟨v17,h18,hr⟩:=zaa hr;refine wo (v9a (k:=38) (l:=s11.2) (s:=v15) (lim:=140737488355328) rfl rfl rfl rfl zka zwa.u zAa rfl h18) rfl<|rn tk 5 rfl<|wz cU ([(13:UInt8),(10:UInt8)]:List UInt8) tk rfl rfl (fun _=>rfl) rfl rfl rfl ?_;obtain ⟨v19,h20,hr⟩:=zaa hr;refine wa tk h20 rfl rfl rfl rfl (fun _=>rfl) rfl rfl<|rn tk 9 rfl ?_;cases hr;exact atc rfl rfl
    refine rn tk 2 rfl ?_;cases hr;exact ato rfl rfl rfl rfl
   refine rn tk 8 rfl ?_;cases hr;exact atc rfl rfl
  refine rn tk 2 rfl ?_;cases hr;exact ato rfl rfl rfl rfl
 refine rn tk 5 rfl<|wz cU ([(13:UInt8),(10:UInt8)]:List UInt8) tk rfl rfl (fun _=>rfl) rfl rfl rfl ?_;obtain ⟨v21,h22,hr⟩:=zaa hr;refine wa tk h22 rfl rfl rfl rfl (fun _=>rfl) rfl rfl<|rn tk 8 rfl ?_;obtain ⟨v23,h24,hr⟩:=zaa hr;refine wa tk h24 rfl rfl rfl rfl (fun _=>rfl) rfl rfl<|rn tk 3 rfl ?_;refine ypa (d:=2) (F:=cU) (l:=v23) rfl rfl (hC ?_);refine rn tk 1 rfl ?_;cases hr;exact kr tk (.inr rfl) rfl rfl
theorem yzb(a0:zsa)(r:Bool)(hr:ktb a0=some r):Run prog 20 [.agg [.l zha.pc a0.Fields,.l cU a0.Body]] (.bo r):=by
 unfold ktb at hr;refine rf (fn:=f20) ⟨func20,rfl,by kernel_rfl⟩ rfl (fun _=>rfl) fun g0 hg=>?_
 refine rn tk 9 rfl ?_;obtain ⟨v1,h2,hr⟩:=zaa hr;refine cl (wCa _ _ h2) rfl rfl<|rn tk 6 rfl<|wn tk rfl rfl rfl<|rn tk 3 rfl<|jb hr (fun j3=>[(2,.bo j3)]) (fun j3=>[]) (fun j3 hr=>?_) (fun j3 hr=>?_)
 .refine rn tk 4 rfl ?_;obtain ⟨v4,h5,hr⟩:=zaa hr;refine wi tk h5 rfl rfl rfl rfl rfl<|rn tk 3 rfl<|bs 15 hr rfl (fun c6 hr=>?_) (fun c6 hr=>?_)
  .refine rn tk 9 rfl ?_;cases hr;exact jn _ rfl rfl rfl
  refine rn tk 3 rfl ?_;obtain ⟨v7,h8,hr⟩:=zaa hr;refine ug rfl rfl rfl<|wi tk h8 rfl rfl rfl rfl rfl<|rn tk 5 rfl ?_;cases hr;exact jn _ rfl rfl rfl
 refine rn tk 1 rfl ?_;cases hr;exact kr tk (.inr rfl) rfl rfl
theorem WGa(a0:Int)(r:Str)(hr:wca a0=some r):Run prog 21 [.i a0] (.s r):=by
 unfold wca at hr;refine rf (fn:=f21) ⟨func21,rfl,by kernel_rfl⟩ rfl (fun _=>rfl) fun g0 hg=>?_
 refine rn tk 7 rfl<|wz cS ([([110,101,118,101,114]:Str),([102,97,105,108,117,114,101]:Str),([100,101,108,97,121]:Str),([102,97,105,108,117,114,101,44,100,101,108,97,121]:Str),([115,117,99,99,101,115,115]:Str),([102,97,105,108,117,114,101,44,115,117,99,99,101,115,115]:Str),([100,101,108,97,121,44,115,117,99,99,101,115,115]:Str),([102,97,105,108,117,114,101,44,100,101,108,97,121,44,115,117,99,99,101,115,115]:Str)]:List Str) tk rfl rfl (fun _=>rfl) rfl (by kernel_rfl) rfl<|rn tk 7 rfl ?_;obtain ⟨v1,h2,hr⟩:=zaa hr;refine wi tk h2 rfl rfl rfl rfl rfl<|rn tk 5 rfl ?_;cases hr;exact kr tk (.inr rfl) rfl rfl
theorem vZa(a0:Int)(a1:Int)(a2:Int)(r:Bool)(hr:R_In a0 a1 a2=some r):Run prog 58 [.i a0,.i a1,.i a2] (.bo r):=by
 unfold R_In at hr;refine rf (fn:=f58) ⟨func58,rfl,by kernel_rfl⟩ rfl (fun _=>rfl) fun g0 hg=>?_
 refine rn tk 5 rfl<|jb hr (fun j1=>[(6,.bo j1)]) (fun j1=>[]) (fun j1 hr=>?_) (fun j1 hr=>?_)
 .refine rn tk 5 rfl<|bs 10 hr rfl (fun c2 hr=>?_) (fun c2 hr=>?_)
  .refine rn tk 6 rfl ?_;cases hr;exact jn _ rfl rfl rfl
  refine rn tk 6 rfl ?_;cases hr;exact jn _ rfl rfl rfl
 refine rn tk 1 rfl ?_;cases hr;exact kr tk (.inr rfl) rfl rfl
theorem Jca(a0:Str)(r:Bool)(hr:jTa a0=some r):Run prog 103 [.s a0] (.bo r):=by
 unfold jTa at hr;refine rf (fn:=Tryz.f103) ⟨func103,rfl,by kernel_rfl⟩ rfl (fun _=>rfl) fun g0 hg=>?_
 refine rn tk 12 rfl<|al2 hr (fun s1=>[(0,.s a0),(3,.i s1)]) (fun s1=>[]) (.exit 0) (fun b2=>[(0,.s a0)]) (fun b2=>[]) .ret (fun b3=>[(2,.bo b3)]) (fun b3=>[]) rfl rfl (fun s1 x5 hr=>?_) (fun b2 hr=>?_) (fun b3 hr=>?_)
 .unfold qIa at hr;refine rn tk 9 rfl<|ac 8 hr rfl (fun c6 hr=>?_) (fun c6 hr=>?_)
  .refine rn tk 8 rfl ?_;obtain ⟨v7,h8,hr⟩:=zaa hr;refine ws tk h8 rfl rfl rfl rfl<|wu tk rfl rfl rfl<|rn tk 4 rfl<|jb hr (fun j9=>[(0,.s a0),(3,.i s1),(4,.i ((v7.toNat:Int))),(36,.bo j9)]) (fun j9=>[]) (fun j9 hr=>?_) (fun j9 hr=>?_)
   .refine rn tk 3 rfl ?_;obtain ⟨v10,h11,hr⟩:=zaa hr;refine ws tk h11 rfl rfl rfl rfl<|rn tk 2 rfl<|bs 19 hr rfl (fun c12 hr=>?_) (fun c12 hr=>?_)
    .refine rn tk 3 rfl<|bs 22 hr rfl (fun c13 hr=>?_) (fun c13 hr=>?_)
     .refine rn tk 15 rfl ?_;cases hr;exact jn _ rfl rfl rfl
     refine rn tk 7 rfl<|bs 29 hr rfl (fun c14 hr=>?_) (fun c14 hr=>?_)
     .refine rn tk 8 rfl ?_;cases hr;exact jn _ rfl rfl rfl
     refine rn tk 3 rfl ?_;obtain ⟨v15,h16,hr⟩:=zaa hr;refine ug rfl rfl rfl<|ws tk h16 rfl rfl rfl rfl<|rn tk 4 rfl ?_;cases hr;exact jn _ rfl rfl rfl
    refine rn tk 18 rfl ?_;cases hr;exact jn _ rfl rfl rfl
   refine ac 36 hr rfl (fun c17 hr=>?_) (fun c17 hr=>?_)
   .refine rn tk 9 rfl ?_;cases hr;exact ato rfl rfl rfl rfl
   refine rn tk 2 rfl<|jb hr (fun j18=>[(0,.s a0),(3,.i s1),(56,.bo j18)]) (fun j18=>[]) (fun j18 hr=>?_) (fun j18 hr=>?_)
   .refine rn tk 2 rfl ?_;obtain ⟨v19,h20,hr⟩:=zaa hr;refine cl (vZa _ _ _ _ h20) rfl rfl<|rn tk 2 rfl<|bs 40 hr rfl (fun c21 hr=>?_) (fun c21 hr=>?_)
    .refine rn tk 1 rfl ?_;obtain ⟨v22,h23,hr⟩:=zaa hr;refine ug rfl rfl rfl<|cl (vZa _ _ _ _ h23) rfl rfl<|rn tk 3 rfl<|bs 45 hr rfl (fun c24 hr=>?_) (fun c24 hr=>?_)
     .refine rn tk 2 rfl ?_;obtain ⟨v25,h26,hr⟩:=zaa hr;refine ug rfl rfl rfl<|ws tk h26 rfl rfl rfl rfl<|rn tk 3 rfl<|bs 51 hr rfl (fun c27 hr=>?_) (fun c27 hr=>?_)
      .refine rn tk 2 rfl ?_;obtain ⟨v28,h29,hr⟩:=zaa hr;refine ug rfl rfl rfl<|ws tk h29 rfl rfl rfl rfl<|rn tk 3 rfl ?_;cases hr;exact jn _ rfl rfl rfl
      refine rn tk 6 rfl ?_;cases hr;exact jn _ rfl rfl rfl
     refine rn tk 12 rfl ?_;cases hr;exact jn _ rfl rfl rfl
    refine rn tk 17 rfl ?_;cases hr;exact jn _ rfl rfl rfl
   refine ac 56 hr rfl (fun c30 hr=>?_) (fun c30 hr=>?_)
   .refine rn tk 8 rfl ?_;cases hr;exact ato rfl rfl rfl rfl
   refine rn tk 8 rfl ?_;cases hr;exact atc rfl rfl
  refine rn tk 2 rfl ?_;cases hr;exact ato rfl rfl rfl rfl
 .refine rn tk 6 rfl ?_;obtain ⟨v31,h32,hr⟩:=zaa hr;refine cl (vZa _ _ _ _ h32) rfl rfl<|rn tk 4 rfl ?_;cases hr;exact kr tk (.inr rfl) rfl rfl
 refine rn tk 2 rfl ?_;cases hr;exact kr tk (.inr rfl) rfl rfl
theorem y6a(a0:UInt8)(r:Bool)(hr:qta a0=some r):Run prog 85 [.u8 a0] (.bo r):=by
 unfold qta at hr;refine rf (fn:=f85) ⟨func85,rfl,by kernel_rfl⟩ rfl (fun _=>rfl) fun g0 hg=>?_
 refine rn tk 8 rfl<|wu tk rfl rfl rfl<|rn tk 3 rfl<|jb hr (fun j1=>[(2,.bo j1)]) (fun j1=>[]) (fun j1 hr=>?_) (fun j1 hr=>?_)
 .refine rn tk 2 rfl ?_;obtain ⟨v2,h3,hr⟩:=zaa hr;refine cl (vZa _ _ _ _ h3) rfl rfl<|rn tk 1 rfl<|bs 8 hr rfl (fun c4 hr=>?_) (fun c4 hr=>?_)
  .refine rn tk 9 rfl ?_;cases hr;exact jn _ rfl rfl rfl
  refine rn tk 1 rfl ?_;obtain ⟨v5,h6,hr⟩:=zaa hr;refine ug rfl rfl rfl<|cl (vZa _ _ _ _ h6) rfl rfl<|rn tk 2 rfl<|bs 12 hr rfl (fun c7 hr=>?_) (fun c7 hr=>?_)
  .refine rn tk 5 rfl ?_;cases hr;exact jn _ rfl rfl rfl
  refine rn tk 1 rfl ?_;obtain ⟨v8,h9,hr⟩:=zaa hr;refine ug rfl rfl rfl<|cl (vZa _ _ _ _ h9) rfl rfl<|rn tk 3 rfl ?_;cases hr;exact jn _ rfl rfl rfl
 refine rn tk 1 rfl ?_;cases hr;exact kr tk (.inr rfl) rfl rfl
theorem yAb(a0:Str)(r:Int)(hr:krb a0=some r):Run prog 102 [.s a0] (.i r):=by
 unfold krb at hr;refine rf (fn:=f102) ⟨func102,rfl,by kernel_rfl⟩ rfl (fun _=>rfl) fun g0 hg=>?_
 refine rn tk 12 rfl<|al2 hr (fun s1=>[(0,.s a0),(3,.i s1)]) (fun s1=>[]) (.exit 0) (fun b2=>[(0,.s a0)]) (fun b2=>[]) .ret (fun b3=>[(2,.i b3)]) (fun b3=>[]) rfl rfl (fun s1 x5 hr=>?_) (fun b2 hr=>?_) (fun b3 hr=>?_)
 .unfold QUa at hr;refine rn tk 9 rfl<|ac 7 hr rfl (fun c6 hr=>?_) (fun c6 hr=>?_)
  .refine rn tk 8 rfl ?_;obtain ⟨v7,h8,hr⟩:=zaa hr;refine ws tk h8 rfl rfl rfl rfl<|rn tk 3 rfl<|ac 13 hr rfl (fun c9 hr=>?_) (fun c9 hr=>?_)
   .refine rn tk 9 rfl ?_;cases hr;exact ato rfl rfl rfl rfl
   refine rn tk 8 rfl ?_;cases hr;exact atc rfl rfl
  refine rn tk 2 rfl ?_;cases hr;exact ato rfl rfl rfl rfl
 .refine rn tk 10 rfl ?_;cases hr;exact kr tk (.inr rfl) rfl rfl
 refine rn tk 2 rfl ?_;cases hr;exact kr tk (.inr rfl) rfl rfl
theorem Kqa(a0:Str)(r:Bool)(hr:qJa a0=some r):Run prog 69 [.s a0] (.bo r):=by
 unfold qJa at hr;refine rf (fn:=f69) ⟨func69,rfl,by kernel_rfl⟩ rfl (fun _=>rfl) fun g0 hg=>?_
 refine rn tk 8 rfl ?_;obtain ⟨v1,h2,hr⟩:=zaa hr;refine cl (yAb _ _ h2) rfl rfl<|rn tk 10 rfl<|al2 hr (fun s3=>[(0,.s a0),(3,.i v1),(4,.i s3)]) (fun s3=>[]) (.exit 0) (fun b4=>[(0,.s a0),(3,.i v1)]) (fun b4=>[]) .ret (fun b5=>[(2,.bo b5)]) (fun b5=>[]) rfl rfl (fun s3 x7 hr=>?_) (fun b4 hr=>?_) (fun b5 hr=>?_)
 .unfold vIa at hr;refine rn tk 8 rfl<|ac 10 hr rfl (fun c8 hr=>?_) (fun c8 hr=>?_)
  .refine rn tk 8 rfl ?_;obtain ⟨v9,h10,hr⟩:=zaa hr;refine ws tk h10 rfl rfl rfl rfl<|rn tk 3 rfl<|jb hr (fun j11=>[(0,.s a0),(3,.i v1),(4,.i s3),(38,.bo j11)]) (fun j11=>[]) (fun j11 hr=>?_) (fun j11 hr=>?_)
   .refine rn tk 2 rfl ?_;obtain ⟨v12,h13,hr⟩:=zaa hr;refine cl (y6a _ _ h13) rfl rfl<|rn tk 2 rfl<|bs 19 hr rfl (fun c14 hr=>?_) (fun c14 hr=>?_)
    .refine rn tk 4 rfl<|bs 23 hr rfl (fun c15 hr=>?_) (fun c15 hr=>?_)
     .refine rn tk 4 rfl<|bs 27 hr rfl (fun c16 hr=>?_) (fun c16 hr=>?_)
      .refine rn tk 4 rfl<|bs 31 hr rfl (fun c17 hr=>?_) (fun c17 hr=>?_)
       .refine rn tk 4 rfl<|bs 35 hr rfl (fun c18 hr=>?_) (fun c18 hr=>?_)
        .refine rn tk 4 rfl ?_;cases hr;exact jn _ rfl rfl rfl
        refine rn tk 4 rfl ?_;cases hr;exact jn _ rfl rfl rfl
       refine rn tk 8 rfl ?_;cases hr;exact jn _ rfl rfl rfl
      refine rn tk 12 rfl ?_;cases hr;exact jn _ rfl rfl rfl
     refine rn tk 16 rfl ?_;cases hr;exact jn _ rfl rfl rfl
    refine rn tk 20 rfl ?_;cases hr;exact jn _ rfl rfl rfl
   refine ac 38 hr rfl (fun c19 hr=>?_) (fun c19 hr=>?_)
   .refine rn tk 8 rfl ?_;cases hr;exact ato rfl rfl rfl rfl
   refine rn tk 8 rfl ?_;cases hr;exact atc rfl rfl
  refine rn tk 2 rfl ?_;cases hr;exact ato rfl rfl rfl rfl
 .refine rn tk 2 rfl<|jb hr (fun j20=>[(2,.bo j20)]) (fun j20=>[]) (fun j20 hr=>?_) (fun j20 hr=>?_)
  .refine rn tk 2 rfl ?_;obtain ⟨v21,h22,hr⟩:=zaa hr;refine cl (vZa _ _ _ _ h22) rfl rfl<|rn tk 1 rfl<|bs 41 hr rfl (fun c23 hr=>?_) (fun c23 hr=>?_)
   .refine rn tk 6 rfl<|bs 47 hr rfl (fun c24 hr=>?_) (fun c24 hr=>?_)
    .refine rn tk 3 rfl ?_;obtain ⟨v25,h26,hr⟩:=zaa hr;refine ug rfl rfl rfl<|wscL tk h26 rfl rfl rfl rfl ?_;obtain ⟨v27,h28,hr⟩:=zaa hr;refine ug rfl rfl rfl<|cl (Jca _ _ h28) rfl rfl<|rn tk 3 rfl ?_;cases hr;exact jn _ rfl rfl rfl
    refine rn tk 8 rfl ?_;cases hr;exact jn _ rfl rfl rfl
   refine rn tk 14 rfl ?_;cases hr;exact jn _ rfl rfl rfl
  refine rn tk 1 rfl ?_;cases hr;exact kr tk (.inr rfl) rfl rfl
 refine rn tk 2 rfl ?_;cases hr;exact kr tk (.inr rfl) rfl rfl
theorem vBb(a0:List zca)(a1:Str)(r:Int)(hr:VCa a0 a1=some r):Run prog 76 [.l zca.pc a0,.s a1] (.i r):=by
 unfold VCa at hr;refine rf (fn:=f76) ⟨func76,rfl,by kernel_rfl⟩ rfl (fun _=>rfl) fun g0 hg=>?_
 refine rn tk 12 rfl<|al2 hr (fun s1=>[(0,.l zca.pc a0),(1,.s a1),(5,.i s1)]) (fun s1=>[]) (.exit 0) (fun b2=>[]) (fun b2=>[]) .ret (fun b3=>[(4,.i b3)]) (fun b3=>[]) rfl rfl (fun s1 x5 hr=>?_) (fun b2 hr=>?_) (fun b3 hr=>?_)
 .unfold Kva at hr;refine rn tk 5 rfl<|wn tk rfl rfl rfl<|rn tk 3 rfl<|ac 9 hr rfl (fun c6 hr=>?_) (fun c6 hr=>?_)
  .refine rn tk 8 rfl ?_;obtain ⟨v7,h8,hr⟩:=zaa hr;refine wi tk h8 rfl rfl rfl rfl rfl<|rn tk 6 rfl<|ac 18 hr rfl (fun c9 hr=>?_) (fun c9 hr=>?_)
   .refine rn tk 9 rfl ?_;cases hr;exact ato rfl rfl rfl rfl
   refine rn tk 8 rfl ?_;cases hr;exact atc rfl rfl
  refine rn tk 2 rfl ?_;cases hr;exact ato rfl rfl rfl rfl
 .refine rn tk 8 rfl ?_;cases hr;exact kr tk (.inr rfl) rfl rfl
 refine rn tk 2 rfl ?_;cases hr;exact kr tk (.inr rfl) rfl rfl
theorem qvb(a0:Str)(r:Bool)(hr:Zia a0=some r):Run prog 57 [.s a0] (.bo r):=by
 unfold Zia at hr;refine rf (fn:=f57) ⟨func57,rfl,by kernel_rfl⟩ rfl (fun _=>rfl) fun g0 hg=>?_
 refine rn tk 12 rfl<|al2 hr (fun s1=>[(0,.s a0),(3,.i s1)]) (fun s1=>[]) (.exit 0) (fun b2=>[(0,.s a0)]) (fun b2=>[]) .ret (fun b3=>[(2,.bo b3)]) (fun b3=>[]) rfl rfl (fun s1 x5 hr=>?_) (fun b2 hr=>?_) (fun b3 hr=>?_)
 .unfold Zha at hr;refine rn tk 9 rfl<|ac 7 hr rfl (fun c6 hr=>?_) (fun c6 hr=>?_)
  .refine rn tk 4 rfl<|jb hr (fun j7=>[(0,.s a0),(3,.i s1),(32,.bo j7)]) (fun j7=>[]) (fun j7 hr=>?_) (fun j7 hr=>?_)
   .refine rn tk 3 rfl ?_;obtain ⟨v8,h9,hr⟩:=zaa hr;refine ws tk h9 rfl rfl rfl rfl ?_;obtain ⟨v10,h11,hr⟩:=zaa hr;refine cl (y6a _ _ h11) rfl rfl<|rn tk 2 rfl<|bs 15 hr rfl (fun c12 hr=>?_) (fun c12 hr=>?_)
    .refine rn tk 2 rfl ?_;obtain ⟨v13,h14,hr⟩:=zaa hr;refine ug rfl rfl rfl<|ws tk h14 rfl rfl rfl rfl<|rn tk 3 rfl<|bs 21 hr rfl (fun c15 hr=>?_) (fun c15 hr=>?_)
     .refine rn tk 2 rfl ?_;obtain ⟨v16,h17,hr⟩:=zaa hr;refine ug rfl rfl rfl<|ws tk h17 rfl rfl rfl rfl<|rn tk 3 rfl<|bs 27 hr rfl (fun c18 hr=>?_) (fun c18 hr=>?_)
      .refine rn tk 2 rfl ?_;obtain ⟨v19,h20,hr⟩:=zaa hr;refine ug rfl rfl rfl<|ws tk h20 rfl rfl rfl rfl<|rn tk 3 rfl ?_;cases hr;exact jn _ rfl rfl rfl
      refine rn tk 6 rfl ?_;cases hr;exact jn _ rfl rfl rfl
     refine rn tk 12 rfl ?_;cases hr;exact jn _ rfl rfl rfl
    refine rn tk 18 rfl ?_;cases hr;exact jn _ rfl rfl rfl
   refine ac 32 hr rfl (fun c21 hr=>?_) (fun c21 hr=>?_)
   .refine rn tk 8 rfl ?_;cases hr;exact ato rfl rfl rfl rfl
   refine rn tk 8 rfl ?_;cases hr;exact atc rfl rfl
  refine rn tk 2 rfl ?_;cases hr;exact ato rfl rfl rfl rfl
 .refine rn tk 6 rfl ?_;obtain ⟨v22,h23,hr⟩:=zaa hr;refine cl (vZa _ _ _ _ h23) rfl rfl<|rn tk 4 rfl ?_;cases hr;exact kr tk (.inr rfl) rfl rfl
 refine rn tk 2 rfl ?_;cases hr;exact kr tk (.inr rfl) rfl rfl
theorem QIa(a0:zEa)(r:zva)(hr:vfa a0=some r):Run prog 48 [.agg [.s a0.From,.l zca.pc a0.To,.s a0.Id]] (.agg [.i r.Code,.i r.Index]):=by
 unfold vfa at hr;refine rf (fn:=f48) ⟨func48,rfl,by kernel_rfl⟩ rfl (fun _=>rfl) fun g0 hg=>?_
 refine rn tk 7 rfl<|jb hr (fun j1=>[(1,.ptr 1 0),(2,.ptr 2 0),(12,.bo j1)]) (fun j1=>[(2,.cells [.i 0,.i 0]),(1,.cells [.s a0.From,.l zca.pc a0.To,.s a0.Id])]) (fun j1 hr=>?_) (fun j1 hr=>?_)
 .refine rn tk 5 rfl<|bs 7 hr rfl (fun c2 hr=>?_) (fun c2 hr=>?_)
  .refine rn tk 2 rfl ?_;obtain ⟨v3,h4,hr⟩:=zaa hr;refine ug rfl rfl rfl<|cl (Kqa _ _ h4) rfl rfl<|rn tk 3 rfl ?_;cases hr;exact jn _ rfl rfl rfl
  refine rn tk 6 rfl ?_;cases hr;exact jn _ rfl rfl rfl
 refine ac 12 hr rfl (fun c5 hr=>?_) (fun c5 hr=>?_)
 .refine rn tk 2 rfl ?_;obtain ⟨v6,h7,hr⟩:=zaa hr;refine cl (vCa _ _ _ h7) rfl rfl<|rn tk 5 rfl ?_;cases hr;exact kr tk (.inr rfl) rfl rfl
 refine rn tk 7 rfl<|wn tk rfl rfl rfl ?_;obtain ⟨v8,h9,hr⟩:=zaa hr;refine cl (vZa _ _ _ _ h9) rfl rfl<|rn tk 3 rfl<|ac 18 hr rfl (fun c10 hr=>?_) (fun c10 hr=>?_)
 .refine rn tk 2 rfl ?_;obtain ⟨v11,h12,hr⟩:=zaa hr;refine cl (vCa _ _ _ h12) rfl rfl<|rn tk 5 rfl ?_;cases hr;exact kr tk (.inr rfl) rfl rfl
 refine rn tk 3 rfl<|jb hr (fun j13=>[(1,.ptr 1 0),(2,.ptr 2 0),(28,.bo j13)]) (fun j13=>[(2,.cells [.i 0,.i 0]),(1,.cells [.s a0.From,.l zca.pc a0.To,.s a0.Id])]) (fun j13 hr=>?_) (fun j13 hr=>?_)
 .refine rn tk 5 rfl<|bs 23 hr rfl (fun c14 hr=>?_) (fun c14 hr=>?_)
  .refine rn tk 2 rfl ?_;obtain ⟨v15,h16,hr⟩:=zaa hr;refine ug rfl rfl rfl<|cl (qvb _ _ h16) rfl rfl<|rn tk 3 rfl ?_;cases hr;exact jn _ rfl rfl rfl
  refine rn tk 6 rfl ?_;cases hr;exact jn _ rfl rfl rfl
 refine ac 28 hr rfl (fun c17 hr=>?_) (fun c17 hr=>?_)
 .refine rn tk 2 rfl ?_;obtain ⟨v18,h19,hr⟩:=zaa hr;refine cl (vCa _ _ _ h19) rfl rfl<|rn tk 5 rfl ?_;cases hr;exact kr tk (.inr rfl) rfl rfl
 refine rn tk 9 rfl<|al2 hr (fun s20=>[(1,.ptr 1 0),(2,.ptr 2 0),(3,.i s20)]) (fun s20=>[(2,.cells [.i 0,.i 0]),(1,.cells [.s a0.From,.l zca.pc a0.To,.s a0.Id])]) (.exit 0) (fun b21=>[(2,.ptr 2 0)]) (fun b21=>[(2,.cells [.i 0,.i 0])]) .ret (fun b22=>[(2,.ptr 2 0)]) (fun b22=>[(2,.cells [.i b22.Code,.i b22.Index])]) rfl rfl (fun s20 x24 hr=>?_) (fun b21 hr=>?_) (fun b22 hr=>?_)
 .unfold qea at hr;refine rn tk 6 rfl<|wn tk rfl rfl rfl<|rn tk 3 rfl<|ac 34 hr rfl (fun c25 hr=>?_) (fun c25 hr=>?_)
  .refine rn tk 10 rfl ?_;obtain ⟨v26,h27,hr⟩:=zaa hr;refine wi tk h27 rfl rfl rfl rfl rfl<|rn tk 2 rfl ?_;obtain ⟨v28,h29,hr⟩:=zaa hr;refine cl (Kqa _ _ h29) rfl rfl<|rn tk 3 rfl<|ac 44 hr rfl (fun c30 hr=>?_) (fun c30 hr=>?_)
   .refine rn tk 3 rfl ?_;obtain ⟨v31,h32,hr⟩:=zaa hr;refine cl (vCa _ _ _ h32) rfl rfl<|rn tk 7 rfl ?_;cases hr;exact ato rfl rfl rfl rfl
   refine rn tk 8 rfl ?_;obtain ⟨v33,h34,hr⟩:=zaa hr;refine wi tk h34 rfl rfl rfl rfl rfl<|rn tk 2 rfl ?_;obtain ⟨v35,h36,hr⟩:=zaa hr;refine cl (vZa _ _ _ _ h36) rfl rfl<|rn tk 3 rfl<|ac 54 hr rfl (fun c37 hr=>?_) (fun c37 hr=>?_)
   .refine rn tk 3 rfl ?_;obtain ⟨v38,h39,hr⟩:=zaa hr;refine cl (vCa _ _ _ h39) rfl rfl<|rn tk 7 rfl ?_;cases hr;exact ato rfl rfl rfl rfl
   refine rn tk 3 rfl ?_;obtain ⟨v40,h41,hr⟩:=zaa hr;obtain ⟨v42,h43,hr⟩:=zaa hr;refine dr 10 [(66,.s v42.Address),(65,.ep [pS v42.Address,pI v42.Notify]),(64,.ep [pS v42.Address,pI v42.Notify]),(63,.i s20),(62,.l zca.pc a0.To),(61,.ptr 1 1),(60,.l zca.pc v40),(59,.i s20),(58,.l zca.pc a0.To),(57,.ptr 1 1)] mixed (by kernel_rfl) rfl rfl (pq tk rfl (.plain rfl) (pq tk rfl (.plain rfl) (pq tk rfl (.plain rfl) (.run (.plain rfl) (k9a (yOb (F:=zca.pc) rfl rfl zoa zza (fun _=>rfl) h41)) (pq tk rfl (.plain rfl) (pq tk rfl (.plain rfl) (pq tk rfl (.plain rfl) (.run (.plain rfl) (k9a (wEa (f:=zca.pc) rfl rfl zoa zza rfl h43)) (pq tk rfl (.plain rfl) (pq tk rfl (.plain rfl) .nil)))))))))) rfl ?_;obtain ⟨v44,h45,hr⟩:=zaa hr;refine cl (vBb _ _ _ h45) rfl rfl<|rn tk 3 rfl<|ac 68 hr rfl (fun c46 hr=>?_) (fun c46 hr=>?_)
   .refine rn tk 3 rfl ?_;obtain ⟨v47,h48,hr⟩:=zaa hr;refine cl (vCa _ _ _ h48) rfl rfl<|rn tk 6 rfl ?_;cases hr;exact ato rfl rfl rfl rfl
   refine rn tk 8 rfl ?_;cases hr;exact atc rfl rfl
  refine rn tk 2 rfl ?_;cases hr;exact ato rfl rfl rfl rfl
 .refine rn tk 9 rfl ?_;cases hr;exact kr tk (.inr rfl) rfl rfl
 refine rn tk 2 rfl ?_;cases hr;exact kr tk (.inr rfl) rfl rfl
theorem YTa(a0:zha)(r:Int)(hr:wMa a0=some r):Run prog 77 [.agg [.s a0.Name,.s a0.Value]] (.i r):=by
 unfold wMa at hr;refine rf (fn:=f77) ⟨func77,rfl,by kernel_rfl⟩ rfl (fun _=>rfl) fun g0 hg=>?_
 refine rn tk 13 rfl<|al2 hr (fun s1=>[(1,.ptr 1 0),(3,.i s1)]) (fun s1=>[(1,.cells [.s a0.Name,.s a0.Value])]) (.exit 0) (fun b2=>[(1,.ptr 1 0)]) (fun b2=>[(1,.cells [.s a0.Name,.s a0.Value])]) .ret (fun b3=>[(2,.i b3)]) (fun b3=>[]) rfl rfl (fun s1 x5 hr=>?_) (fun b2 hr=>?_) (fun b3 hr=>?_)
 .unfold vLa at hr;refine rn tk 10 rfl<|ac 12 hr rfl (fun c6 hr=>?_) (fun c6 hr=>?_)
  .refine rn tk 4 rfl<|jb hr (fun j7=>[(1,.ptr 1 0),(3,.i s1),(28,.bo j7)]) (fun j7=>[(1,.cells [.s a0.Name,.s a0.Value])]) (fun j7 hr=>?_) (fun j7 hr=>?_)
   .refine rn tk 4 rfl ?_;obtain ⟨v8,h9,hr⟩:=zaa hr;refine ws tk h9 rfl rfl rfl rfl<|wu tk rfl rfl rfl ?_;obtain ⟨v10,h11,hr⟩:=zaa hr;refine cl (vZa _ _ _ _ h11) rfl rfl<|rn tk 2 rfl<|bs 22 hr rfl (fun c12 hr=>?_) (fun c12 hr=>?_)
    .refine rn tk 7 rfl ?_;cases hr;exact jn _ rfl rfl rfl
    refine rn tk 3 rfl ?_;obtain ⟨v13,h14,hr⟩:=zaa hr;refine ug rfl rfl rfl<|ws tk h14 rfl rfl rfl rfl<|rn tk 3 rfl ?_;cases hr;exact jn _ rfl rfl rfl
   refine ac 28 hr rfl (fun c15 hr=>?_) (fun c15 hr=>?_)
   .refine rn tk 8 rfl ?_;cases hr;exact ato rfl rfl rfl rfl
   refine rn tk 8 rfl ?_;cases hr;exact atc rfl rfl
  refine rn tk 2 rfl ?_;cases hr;exact ato rfl rfl rfl rfl
 .refine rn tk 8 rfl ?_;obtain ⟨v16,h17,hr⟩:=zaa hr;refine cl (vZa _ _ _ _ h17) rfl rfl<|rn tk 3 rfl<|ac 33 hr rfl (fun c18 hr=>?_) (fun c18 hr=>?_)
  .refine rn tk 7 rfl ?_;cases hr;exact kr tk (.inr rfl) rfl rfl
  refine rn tk 11 rfl<|ac 37 hr rfl (fun c19 hr=>?_) (fun c19 hr=>?_)
  .refine rn tk 7 rfl ?_;cases hr;exact kr tk (.inr rfl) rfl rfl
  refine rn tk 17 rfl<|al2 hr (fun s20=>[(1,.ptr 1 0),(4,.i ((a0.Value.length:Int))),(5,.i s20)]) (fun s20=>[(1,.cells [.s a0.Name,.s a0.Value])]) (.exit 2) (fun b21=>[(1,.ptr 1 0),(4,.i ((a0.Value.length:Int)))]) (fun b21=>[(1,.cells [.s a0.Name,.s a0.Value])]) .ret (fun b22=>[(2,.i b22)]) (fun b22=>[]) rfl rfl (fun s20 x24 hr=>?_) (fun b21 hr=>?_) (fun b22 hr=>?_)
  .unfold vMa at hr;refine rn tk 8 rfl<|ac 43 hr rfl (fun c25 hr=>?_) (fun c25 hr=>?_)
   .refine rn tk 4 rfl<|jb hr (fun j26=>[(1,.ptr 1 0),(4,.i ((a0.Value.length:Int))),(5,.i s20),(64,.bo j26)]) (fun j26=>[(1,.cells [.s a0.Name,.s a0.Value])]) (fun j26 hr=>?_) (fun j26 hr=>?_)
    .refine rn tk 4 rfl ?_;obtain ⟨v27,h28,hr⟩:=zaa hr;refine ws tk h28 rfl rfl rfl rfl<|rn tk 2 rfl<|bs 51 hr rfl (fun c29 hr=>?_) (fun c29 hr=>?_)
     .refine rn tk 14 rfl ?_;cases hr;exact jn _ rfl rfl rfl
     refine rn tk 3 rfl ?_;obtain ⟨v30,h31,hr⟩:=zaa hr;refine ug rfl rfl rfl<|ws tk h31 rfl rfl rfl rfl<|rn tk 3 rfl<|bs 58 hr rfl (fun c32 hr=>?_) (fun c32 hr=>?_)
     .refine rn tk 7 rfl ?_;cases hr;exact jn _ rfl rfl rfl
     refine rn tk 3 rfl ?_;obtain ⟨v33,h34,hr⟩:=zaa hr;refine ug rfl rfl rfl<|ws tk h34 rfl rfl rfl rfl<|rn tk 3 rfl ?_;cases hr;exact jn _ rfl rfl rfl
    refine ac 64 hr rfl (fun c35 hr=>?_) (fun c35 hr=>?_)
    .refine rn tk 8 rfl ?_;cases hr;exact ato rfl rfl rfl rfl
    refine rn tk 8 rfl ?_;cases hr;exact atc rfl rfl
   refine rn tk 2 rfl ?_;cases hr;exact ato rfl rfl rfl rfl
  .refine rn tk 3 rfl<|jb hr (fun j36=>[(1,.ptr 1 0),(80,.bo j36)]) (fun j36=>[(1,.cells [.s a0.Name,.s a0.Value])]) (fun j36 hr=>?_) (fun j36 hr=>?_)
   .refine rn tk 4 rfl<|bs 67 hr rfl (fun c37 hr=>?_) (fun c37 hr=>?_)
    .refine rn tk 2 rfl ?_;obtain ⟨v38,h39,hr⟩:=zaa hr;refine ug rfl rfl rfl<|ws tk h39 rfl rfl rfl rfl ?_;obtain ⟨v40,h41,hr⟩:=zaa hr;refine ug rfl rfl rfl<|cl (wYa _ _ h41) rfl rfl<|rn tk 1 rfl<|bs 72 hr rfl (fun c42 hr=>?_) (fun c42 hr=>?_)
     .refine rn tk 9 rfl ?_;cases hr;exact jn _ rfl rfl rfl
     refine rn tk 4 rfl ?_;obtain ⟨v43,h44,hr⟩:=zaa hr;refine ug rfl rfl rfl<|ws tk h44 rfl rfl rfl rfl ?_;obtain ⟨v45,h46,hr⟩:=zaa hr;refine ug rfl rfl rfl<|cl (wYa _ _ h46) rfl rfl<|rn tk 3 rfl ?_;cases hr;exact jn _ rfl rfl rfl
    refine rn tk 14 rfl ?_;cases hr;exact jn _ rfl rfl rfl
   refine ac 80 hr rfl (fun c47 hr=>?_) (fun c47 hr=>?_)
   .refine rn tk 7 rfl ?_;cases hr;exact kr tk (.inr rfl) rfl rfl
   refine rn tk 8 rfl ?_;obtain ⟨v48,h49,hr⟩:=zaa hr;refine cl (ZGa _ _ _ h49) rfl rfl<|rn tk 10 rfl<|al2 hr (fun s50=>[(6,.l cS v48),(7,.i s50)]) (fun s50=>[]) (.exit 4) (fun b51=>[]) (fun b51=>[]) .ret (fun b52=>[(2,.i b52)]) (fun b52=>[]) rfl rfl (fun s50 x54 hr=>?_) (fun b51 hr=>?_) (fun b52 hr=>?_)
   .unfold vNa at hr;refine rn tk 5 rfl<|wn tk rfl rfl rfl<|rn tk 3 rfl<|ac 89 hr rfl (fun c55 hr=>?_) (fun c55 hr=>?_)
    .refine rn tk 8 rfl ?_;obtain ⟨v56,h57,hr⟩:=zaa hr;refine wi tk h57 rfl rfl rfl rfl rfl<|rn tk 5 rfl<|ac 97 hr rfl (fun c58 hr=>?_) (fun c58 hr=>?_)
     .refine rn tk 8 rfl ?_;cases hr;exact ato rfl rfl rfl rfl
     refine rn tk 8 rfl ?_;cases hr;exact atc rfl rfl
    refine rn tk 2 rfl ?_;cases hr;exact ato rfl rfl rfl rfl
   .refine rn tk 8 rfl ?_;cases hr;exact kr tk (.inr rfl) rfl rfl
   refine rn tk 2 rfl ?_;cases hr;exact kr tk (.inr rfl) rfl rfl
  refine rn tk 2 rfl ?_;cases hr;exact kr tk (.inr rfl) rfl rfl
 refine rn tk 2 rfl ?_;cases hr;exact kr tk (.inr rfl) rfl rfl
theorem jua(a0:zsa)(r:zva)(hr:qia a0=some r):Run prog 49 [.agg [.l zha.pc a0.Fields,.l cU a0.Body]] (.agg [.i r.Code,.i r.Index]):=by
 unfold qia at hr;refine rf (fn:=f49) ⟨func49,rfl,by kernel_rfl⟩ rfl (fun _=>rfl) fun g0 hg=>?_
 refine rn tk 11 rfl<|wn tk rfl rfl rfl<|rn tk 3 rfl<|ac 11 hr rfl (fun c1 hr=>?_) (fun c1 hr=>?_)
 .refine rn tk 2 rfl ?_;obtain ⟨v2,h3,hr⟩:=zaa hr;refine cl (vCa _ _ _ h3) rfl rfl<|rn tk 5 rfl ?_;cases hr;exact kr tk (.inr rfl) rfl rfl
 refine rn tk 9 rfl<|al2 hr (fun s4=>[(1,.ptr 1 0),(2,.ptr 2 0),(3,.i s4)]) (fun s4=>[(2,.cells [.i 0,.i 0]),(1,.cells [.l zha.pc a0.Fields,.l cU a0.Body])]) (.exit 0) (fun b5=>[(1,.ptr 1 0),(2,.ptr 2 0)]) (fun b5=>[(2,.cells [.i 0,.i 0]),(1,.cells [.l zha.pc a0.Fields,.l cU a0.Body])]) .ret (fun b6=>[(2,.ptr 2 0)]) (fun b6=>[(2,.cells [.i b6.Code,.i b6.Index])]) rfl rfl (fun s4 x8 hr=>?_) (fun b5 hr=>?_) (fun b6 hr=>?_)
 .unfold vya at hr;refine rn tk 6 rfl<|wn tk rfl rfl rfl<|rn tk 3 rfl<|ac 17 hr rfl (fun c9 hr=>?_) (fun c9 hr=>?_)
  .refine rn tk 9 rfl ?_;obtain ⟨v10,h11,hr⟩:=zaa hr;refine wi tk h11 rfl rfl rfl rfl rfl<|rn tk 1 rfl ?_;obtain ⟨v12,h13,hr⟩:=zaa hr;refine cl (YTa _ _ h13) rfl rfl<|rn tk 9 rfl<|ac 27 hr rfl (fun c14 hr=>?_) (fun c14 hr=>?_)
   .refine rn tk 4 rfl ?_;obtain ⟨v15,h16,hr⟩:=zaa hr;refine cl (vCa _ _ _ h16) rfl rfl<|rn tk 6 rfl ?_;cases hr;exact ato rfl rfl rfl rfl
   refine rn tk 8 rfl ?_;cases hr;exact atc rfl rfl
  refine rn tk 2 rfl ?_;cases hr;exact ato rfl rfl rfl rfl
 .refine rn tk 3 rfl<|jb hr (fun j17=>[(1,.ptr 1 0),(2,.ptr 2 0),(40,.bo j17)]) (fun j17=>[(2,.cells [.i 0,.i 0]),(1,.cells [.l zha.pc a0.Fields,.l cU a0.Body])]) (fun j17 hr=>?_) (fun j17 hr=>?_)
  .refine rn tk 3 rfl<|wn tk rfl rfl rfl<|rn tk 2 rfl<|bs 35 hr rfl (fun c18 hr=>?_) (fun c18 hr=>?_)
   .refine rn tk 6 rfl ?_;cases hr;exact jn _ rfl rfl rfl
   refine rn tk 1 rfl ?_;obtain ⟨v19,h20,hr⟩:=zaa hr;refine ug rfl rfl rfl<|cl (wCa _ _ h20) rfl rfl<|ug rfl rfl rfl<|wn tk rfl rfl rfl<|rn tk 3 rfl ?_;cases hr;exact jn _ rfl rfl rfl
  refine ac 40 hr rfl (fun c21 hr=>?_) (fun c21 hr=>?_)
  .refine rn tk 2 rfl ?_;obtain ⟨v22,h23,hr⟩:=zaa hr;refine cl (vCa _ _ _ h23) rfl rfl<|rn tk 5 rfl ?_;cases hr;exact kr tk (.inr rfl) rfl rfl
  refine rn tk 14 rfl<|al2 hr (fun s24=>[(1,.ptr 1 0),(2,.ptr 2 0),(5,.i s24.1),(6,.i s24.2)]) (fun s24=>[(2,.cells [.i 0,.i 0]),(1,.cells [.l zha.pc a0.Fields,.l cU a0.Body])]) (.exit 2) (fun b25=>[(2,.ptr 2 0)]) (fun b25=>[(2,.cells [.i 0,.i 0])]) .ret (fun b26=>[(2,.ptr 2 0)]) (fun b26=>[(2,.cells [.i b26.Code,.i b26.Index])]) rfl rfl (fun s24 x28 hr=>?_) (fun b25 hr=>?_) (fun b26 hr=>?_)
  .unfold kZa at hr;refine rn tk 6 rfl<|wn tk rfl rfl rfl<|rn tk 3 rfl<|ac 46 hr rfl (fun c29 hr=>?_) (fun c29 hr=>?_)
   .refine rn tk 2 rfl<|jk (fun j30=>[(1,.ptr 1 0),(2,.ptr 2 0),(5,.i j30.1),(6,.i j30.2)]) (fun j30=>[(2,.cells [.i 0,.i 0]),(1,.cells [.l zha.pc a0.Fields,.l cU a0.Body])]) (fun j30=>qza j30=some x28) ?_ ?_
    .refine rn tk 6 rfl ?_;obtain ⟨v31,h32,hr⟩:=zaa hr;refine wi tk h32 rfl rfl rfl rfl rfl<|rn tk 5 rfl<|jb hr (fun j33=>[(1,.ptr 1 0),(2,.ptr 2 0),(5,.i s24.1),(6,.i s24.2),(7,.u8 v31),(72,.bo j33)]) (fun j33=>[(2,.cells [.i 0,.i 0]),(1,.cells [.l zha.pc a0.Fields,.l cU a0.Body])]) (fun j33 hr=>?_) (fun j33 hr=>?_)
     .refine rn tk 4 rfl<|bs 56 hr rfl (fun c34 hr=>?_) (fun c34 hr=>?_)
      .refine rn tk 4 rfl<|ug rfl rfl rfl<|wn tk rfl rfl rfl<|rn tk 3 rfl<|bs 64 hr rfl (fun c35 hr=>?_) (fun c35 hr=>?_)
       .refine rn tk 4 rfl ?_;obtain ⟨v36,h37,hr⟩:=zaa hr;refine ug rfl rfl rfl<|wi tk h37 rfl rfl rfl rfl rfl<|rn tk 4 rfl ?_;cases hr;exact jn _ rfl rfl rfl
       refine rn tk 9 rfl ?_;cases hr;exact jn _ rfl rfl rfl
      refine rn tk 17 rfl ?_;cases hr;exact jn _ rfl rfl rfl
     refine ac 72 hr rfl (fun c38 hr=>?_) (fun c38 hr=>?_)
     .refine rn tk 15 rfl<|jn ((0,(w64 (s24.2+1)))) hr rfl rfl
     refine rn tk 3 rfl<|jb hr (fun j39=>[(1,.ptr 1 0),(2,.ptr 2 0),(5,.i s24.1),(6,.i s24.2),(80,.bo j39)]) (fun j39=>[(2,.cells [.i 0,.i 0]),(1,.cells [.l zha.pc a0.Fields,.l cU a0.Body])]) (fun j39 hr=>?_) (fun j39 hr=>?_)
     .refine rn tk 4 rfl<|bs 77 hr rfl (fun c40 hr=>?_) (fun c40 hr=>?_)
      .refine rn tk 4 rfl ?_;cases hr;exact jn _ rfl rfl rfl
      refine rn tk 4 rfl ?_;cases hr;exact jn _ rfl rfl rfl
     refine ac 80 hr rfl (fun c41 hr=>?_) (fun c41 hr=>?_)
     .refine rn tk 2 rfl ?_;obtain ⟨v42,h43,hr⟩:=zaa hr;refine cl (vCa _ _ _ h43) rfl rfl<|rn tk 7 rfl ?_;cases hr;exact ato rfl rfl rfl rfl
     refine rn tk 15 rfl<|ac 85 hr rfl (fun c44 hr=>?_) (fun c44 hr=>?_)
     .refine rn tk 2 rfl ?_;obtain ⟨v45,h46,hr⟩:=zaa hr;refine cl (vCa _ _ _ h46) rfl rfl<|rn tk 6 rfl ?_;cases hr;exact ato rfl rfl rfl rfl
     refine rn tk 2 rfl<|jn (((w64 (s24.1+1)),s24.2)) hr rfl rfl
    intro j30 hr;unfold qza at hr;refine rn tk 5 rfl ?_;cases hr;exact atc rfl rfl
   refine rn tk 2 rfl ?_;cases hr;exact ato rfl rfl rfl rfl
  .refine rn tk 9 rfl ?_;cases hr;exact kr tk (.inr rfl) rfl rfl
  refine rn tk 2 rfl ?_;cases hr;exact kr tk (.inr rfl) rfl rfl
 refine rn tk 2 rfl ?_;cases hr;exact kr tk (.inr rfl) rfl rfl
theorem YUa(a0:zVa)(r:zva)(hr:yVa a0=some r):Run prog 19 [.agg [.s a0.Envelope.From,.l zca.pc a0.Envelope.To,.s a0.Envelope.Id,.l zha.pc a0.Message.Fields,.l cU a0.Message.Body]] (.agg [.i r.Code,.i r.Index]):=by
 unfold yVa at hr;refine rf (fn:=f19) ⟨func19,rfl,by kernel_rfl⟩ rfl (fun _=>rfl) fun g0 hg=>?_
 refine rn tk 10 rfl ?_;obtain ⟨v1,h2,hr⟩:=zaa hr;refine cl (QIa _ _ h2) rfl rfl<|rn tk 4 rfl<|jb hr (fun j3=>[(2,.ptr 2 0),(3,.ptr 3 0)]) (fun j3=>[(3,.cells [.i j3.1,.i j3.2]),(2,.cells [.i 0,.i 0])]) (fun j3 hr=>?_) (fun j3 hr=>?_)
 .refine jb hr (fun j4=>[(1,.ptr 1 0),(2,.ptr 2 0),(3,.ptr 3 0),(16,.bo j4)]) (fun j4=>[(3,.cells [.i v1.Code,.i v1.Index]),(2,.cells [.i 0,.i 0]),(1,.cells [.s a0.Envelope.From,.l zca.pc a0.Envelope.To,.s a0.Envelope.Id,.l zha.pc a0.Message.Fields,.l cU a0.Message.Body])]) (fun j4 hr=>?_) (fun j4 hr=>?_)
  .refine rn tk 5 rfl<|bs 10 hr rfl (fun c5 hr=>?_) (fun c5 hr=>?_)
   .refine rn tk 2 rfl ?_;obtain ⟨v6,h7,hr⟩:=zaa hr;refine ug rfl rfl rfl<|cl (jua _ _ h7) rfl rfl<|rn tk 4 rfl ?_;cases hr;exact jn _ rfl rfl rfl
   refine rn tk 7 rfl ?_;cases hr;exact jn _ rfl rfl rfl
  refine ac 16 hr rfl (fun c8 hr=>?_) (fun c8 hr=>?_)
  .refine rn tk 3 rfl ?_;obtain ⟨v9,h10,hr⟩:=zaa hr;refine cl (jua _ _ h10) rfl rfl<|rn tk 1 rfl ?_;obtain ⟨v11,h12,hr⟩:=zaa hr;refine cl (vCa _ _ _ h12) rfl rfl<|rn tk 2 rfl ?_;cases hr;exact jn _ rfl rfl rfl
  refine rn tk 1 rfl ?_;cases hr;exact jn _ rfl rfl rfl
 refine rn tk 7 rfl ?_;cases hr;exact kr tk (.inr rfl) rfl rfl
theorem V6a(a0:zsa)(a1:zsa)(r:Bool)(hr:wra a0 a1=some r):Run prog 52 [.agg [.l zha.pc a0.Fields,.l cU a0.Body],.agg [.l zha.pc a1.Fields,.l cU a1.Body]] (.bo r):=by
 unfold wra at hr;refine rf (fn:=f52) ⟨func52,rfl,by kernel_rfl⟩ rfl (fun _=>rfl) fun g0 hg=>?_
 refine rn tk 8 rfl<|jb hr (fun j1=>[(2,.ptr 2 0),(3,.ptr 3 0),(21,.bo j1)]) (fun j1=>[(3,.cells [.l zha.pc a1.Fields,.l cU a1.Body]),(2,.cells [.l zha.pc a0.Fields,.l cU a0.Body])]) (fun j1 hr=>?_) (fun j1 hr=>?_)
 .refine rn tk 3 rfl<|wn tk rfl rfl rfl<|rn tk 2 rfl<|wn tk rfl rfl rfl<|rn tk 2 rfl<|bs 13 hr rfl (fun c2 hr=>?_) (fun c2 hr=>?_)
  .refine rn tk 9 rfl ?_;cases hr;exact jn _ rfl rfl rfl
  refine rn tk 2 rfl<|ug rfl rfl rfl<|wb tk rfl rfl rfl<|rn tk 2 rfl<|ug rfl rfl rfl<|wb tk rfl rfl rfl<|rn tk 3 rfl ?_;cases hr;exact jn _ rfl rfl rfl
 refine ac 21 hr rfl (fun c3 hr=>?_) (fun c3 hr=>?_)
 .refine rn tk 7 rfl ?_;cases hr;exact kr tk (.inr rfl) rfl rfl
 refine rn tk 9 rfl<|al2 hr (fun s4=>[(2,.ptr 2 0),(3,.ptr 3 0),(5,.i s4)]) (fun s4=>[(3,.cells [.l zha.pc a1.Fields,.l cU a1.Body]),(2,.cells [.l zha.pc a0.Fields,.l cU a0.Body])]) (.exit 0) (fun b5=>[]) (fun b5=>[]) .ret (fun b6=>[(4,.bo b6)]) (fun b6=>[]) rfl rfl (fun s4 x8 hr=>?_) (fun b5 hr=>?_) (fun b6 hr=>?_)
 .unfold vXa at hr;refine rn tk 6 rfl<|wn tk rfl rfl rfl<|rn tk 3 rfl<|ac 26 hr rfl (fun c9 hr=>?_) (fun c9 hr=>?_)
  .refine rn tk 5 rfl ?_;obtain ⟨v10,h11,hr⟩:=zaa hr;obtain ⟨v12,h13,hr⟩:=zaa hr;refine dr 10 [(38,.agg [.s v12.Name,.s v12.Value]),(37,.ep [pS v12.Name,pS v12.Value]),(36,.i s4),(35,.l zha.pc a1.Fields),(34,.ptr 3 0),(33,.agg [.s v10.Name,.s v10.Value]),(32,.ep [pS v10.Name,pS v10.Value]),(31,.i s4),(30,.l zha.pc a0.Fields),(29,.ptr 2 0)] mixed (by kernel_rfl) rfl rfl (pq tk rfl (.plain rfl) (pq tk rfl (.plain rfl) (pq tk rfl (.plain rfl) (.run (.plain rfl) (k9a (wEa (f:=zha.pc) rfl rfl qVa vda rfl h11)) (pq tk rfl (.plain rfl) (pq tk rfl (.plain rfl) (pq tk rfl (.plain rfl) (pq tk rfl (.plain rfl) (.run (.plain rfl) (k9a (wEa (f:=zha.pc) rfl rfl qVa vda rfl h13)) (pq tk rfl (.plain rfl) .nil)))))))))) rfl<|wq (Zca rfl rfl vda zob (.str rfl (by decide) zwa (.str rfl (by decide) zwa .nil))) rfl rfl rfl<|rn tk 2 rfl<|ac 39 hr rfl (fun c14 hr=>?_) (fun c14 hr=>?_)
   .refine rn tk 8 rfl ?_;cases hr;exact ato rfl rfl rfl rfl
   refine rn tk 8 rfl ?_;cases hr;exact atc rfl rfl
  refine rn tk 2 rfl ?_;cases hr;exact ato rfl rfl rfl rfl
 .refine rn tk 8 rfl ?_;cases hr;exact kr tk (.inr rfl) rfl rfl
 refine rn tk 2 rfl ?_;cases hr;exact kr tk (.inr rfl) rfl rfl
theorem Jda(a0:zVa)(a1:zVa)(r:Bool)(hr:jXa a0 a1=some r):Run prog 24 [.agg [.s a0.Envelope.From,.l zca.pc a0.Envelope.To,.s a0.Envelope.Id,.l zha.pc a0.Message.Fields,.l cU a0.Message.Body],.agg [.s a1.Envelope.From,.l zca.pc a1.Envelope.To,.s a1.Envelope.Id,.l zha.pc a1.Message.Fields,.l cU a1.Message.Body]] (.bo r):=by
 unfold jXa at hr;refine rf (fn:=f24) ⟨func24,rfl,by kernel_rfl⟩ rfl (fun _=>rfl) fun g0 hg=>?_
 refine rn tk 8 rfl<|jb hr (fun j1=>[(2,.ptr 2 0),(3,.ptr 3 0),(32,.bo j1)]) (fun j1=>[(3,.cells [.s a1.Envelope.From,.l zca.pc a1.Envelope.To,.s a1.Envelope.Id,.l zha.pc a1.Message.Fields,.l cU a1.Message.Body]),(2,.cells [.s a0.Envelope.From,.l zca.pc a0.Envelope.To,.s a0.Envelope.Id,.l zha.pc a0.Message.Fields,.l cU a0.Message.Body])]) (fun j1 hr=>?_) (fun j1 hr=>?_)
 .refine rn tk 9 rfl<|bs 13 hr rfl (fun c2 hr=>?_) (fun c2 hr=>?_)
  .refine rn tk 20 rfl ?_;cases hr;exact jn _ rfl rfl rfl
  refine rn tk 9 rfl<|bs 22 hr rfl (fun c3 hr=>?_) (fun c3 hr=>?_)
  .refine rn tk 11 rfl ?_;cases hr;exact jn _ rfl rfl rfl
  refine rn tk 3 rfl<|ug rfl rfl rfl<|wn tk rfl rfl rfl<|rn tk 3 rfl<|ug rfl rfl rfl<|wn tk rfl rfl rfl<|rn tk 3 rfl ?_;cases hr;exact jn _ rfl rfl rfl
 refine ac 32 hr rfl (fun c4 hr=>?_) (fun c4 hr=>?_)
 .refine rn tk 7 rfl ?_;cases hr;exact kr tk (.inr rfl) rfl rfl
 refine rn tk 9 rfl<|al2 hr (fun s5=>[(2,.ptr 2 0),(3,.ptr 3 0),(5,.i s5)]) (fun s5=>[(3,.cells [.s a1.Envelope.From,.l zca.pc a1.Envelope.To,.s a1.Envelope.Id,.l zha.pc a1.Message.Fields,.l cU a1.Message.Body]),(2,.cells [.s a0.Envelope.From,.l zca.pc a0.Envelope.To,.s a0.Envelope.Id,.l zha.pc a0.Message.Fields,.l cU a0.Message.Body])]) (.exit 0) (fun b6=>[(2,.ptr 2 0),(3,.ptr 3 0)]) (fun b6=>[(3,.cells [.s a1.Envelope.From,.l zca.pc a1.Envelope.To,.s a1.Envelope.Id,.l zha.pc a1.Message.Fields,.l cU a1.Message.Body]),(2,.cells [.s a0.Envelope.From,.l zca.pc a0.Envelope.To,.s a0.Envelope.Id,.l zha.pc a0.Message.Fields,.l cU a0.Message.Body])]) .ret (fun b7=>[(4,.bo b7)]) (fun b7=>[]) rfl rfl (fun s5 x9 hr=>?_) (fun b6 hr=>?_) (fun b7 hr=>?_)
 .unfold yBa at hr;refine rn tk 7 rfl<|wn tk rfl rfl rfl<|rn tk 3 rfl<|ac 38 hr rfl (fun c10 hr=>?_) (fun c10 hr=>?_)
  .refine rn tk 5 rfl ?_;obtain ⟨v11,h12,hr⟩:=zaa hr;obtain ⟨v13,h14,hr⟩:=zaa hr;refine dr 12 [(52,.agg [.s v13.Address,.i v13.Notify]),(51,.ep [pS v13.Address,pI v13.Notify]),(50,.i s5),(49,.l zca.pc a1.Envelope.To),(48,.ptr 3 1),(47,.ptr 3 0),(46,.agg [.s v11.Address,.i v11.Notify]),(45,.ep [pS v11.Address,pI v11.Notify]),(44,.i s5),(43,.l zca.pc a0.Envelope.To),(42,.ptr 2 1),(41,.ptr 2 0)] mixed (by kernel_rfl) rfl rfl (pq tk rfl (.plain rfl) (pq tk rfl (.plain rfl) (pq tk rfl (.plain rfl) (pq tk rfl (.plain rfl) (.run (.plain rfl) (k9a (wEa (f:=zca.pc) rfl rfl zoa zza rfl h12)) (pq tk rfl (.plain rfl) (pq tk rfl (.plain rfl) (pq tk rfl (.plain rfl) (pq tk rfl (.plain rfl) (pq tk rfl (.plain rfl) (.run (.plain rfl) (k9a (wEa (f:=zca.pc) rfl rfl zoa zza rfl h14)) (pq tk rfl (.plain rfl) .nil)))))))))))) rfl<|wq (Zca rfl rfl zza Vza (.str rfl (by decide) zwa (.int rfl (by decide) jRa .nil))) rfl rfl rfl<|rn tk 2 rfl<|ac 53 hr rfl (fun c15 hr=>?_) (fun c15 hr=>?_)
   .refine rn tk 8 rfl ?_;cases hr;exact ato rfl rfl rfl rfl
   refine rn tk 8 rfl ?_;cases hr;exact atc rfl rfl
  refine rn tk 2 rfl ?_;cases hr;exact ato rfl rfl rfl rfl
 .refine rn tk 8 rfl ?_;obtain ⟨v16,h17,hr⟩:=zaa hr;refine cl (V6a _ _ _ h17) rfl rfl<|rn tk 4 rfl ?_;cases hr;exact kr tk (.inr rfl) rfl rfl
 refine rn tk 2 rfl ?_;cases hr;exact kr tk (.inr rfl) rfl rfl
theorem yBb(a0:List UInt8)(r:List UInt8)(hr:ksb a0=some r):Run prog 22 [.l cU a0] (.l cU r):=by
 unfold ksb at hr;refine Ksa (fn:=f22) ⟨func22,rfl,by kernel_rfl⟩ rfl (fun _=>rfl) fun g0 hg=>?_
 refine kNa ?_;refine zHa ?_;refine zia rfl (zla (d:=2) rfl rfl zOa) ?_;refine qUa 1002 (d:=2) 5 1 rfl rfl rfl ?_;refine zSa<|zDa ?_;refine kNa ?_;refine zHa ?_;refine zia rfl (zla (d:=8) rfl rfl zCa) ?_;refine vMb (fn:=f50) (args:=[.l cU a0]) 100000 199999 [] (zua rfl) rfl ⟨func50,rfl,by kernel_rfl⟩ rfl rfl .nil fun T1 ds1 hT1=>?_
 refine kNa ?_;refine zHa ?_;refine zia rfl (zla (d:=2) rfl rfl zOa) ?_;refine zia rfl (zla (d:=3) rfl rfl zOa) ?_;refine zSa<|zDa ?_;refine kNa ?_;refine zHa ?_;refine zia rfl (zla (d:=4) rfl rfl zOa) ?_;refine qUa 1004 (d:=4) 9 1 rfl rfl rfl ?_;refine zSa<|zDa ?_;refine kNa ?_;refine zHa ?_;refine zia rfl (zla (d:=5) rfl rfl zOa) ?_;refine zSa<|zDa ?_;refine kNa ?_;refine kNa ?_;refine zHa ?_;refine zia rfl (zla (d:=6) rfl rfl zOa) ?_;refine zSa<|zDa ?_;refine ZPa ?_;obtain ⟨b2,hl,hr⟩:=zaa hr;refine J3a (QVa a0) (fun s1=>[(0,.l cU a0),(4,.hs 1004 0),(5,.i s1.1),(6,.i s1.2.1)]) (fun s1=>[(1004,.row 9 false 1 (List.map cS s1.2.2)),(199999,.sus g0.w.heap.size ds1)]) (fun b2=>At (.exit 0) [(0,.l cU a0),(4,.hs 1004 0),(5,.i b2.1)] [(1004,.row 9 false 1 (List.map cS b2.2)),(199999,.sus g0.w.heap.size ds1)]) ?_ ((0,1,([]:List Str))) hl (zfa rfl (zfa rfl (zfa rfl (zfa rfl zBa)))) (zba rfl (zba rfl zga)) ?_
 .intro s1 x3 hr;unfold QVa at hr;refine kNa ?_;refine kNa ?_;refine zHa ?_;refine zia rfl (zla (d:=7) rfl rfl zCa) ?_;refine zia rfl (zla (d:=8) rfl rfl zCa) ?_;refine zia rfl (zla (d:=9) rfl rfl (jva (f:=cU) rfl zka.u)) ?_;refine zia rfl (zla (d:=10) rfl rfl (vEb rfl rfl)) ?_;refine zSa<|zDa ?_;refine y9a rfl (fun c4=>?_) (fun c4=>?_)
  .replace hr:=ZSa c4 hr
   refine Kra<|zDa ?_;obtain ⟨j5,hx,hy⟩:=zaa hr;refine jaa (fun j5=>[(0,.l cU a0),(4,.hs 1004 0),(5,.i j5.1),(6,.i s1.2.1)]) (fun j5=>[(1004,.row 9 false 1 (List.map cS j5.2)),(199999,.sus g0.w.heap.size ds1)]) (fun z=>j5=z) ?_ ?_
   .have hr:=hx;clear hx hy;refine ZPa ?_;obtain ⟨j6,hx,hy⟩:=zaa hr;refine jaa (fun j6=>[(0,.l cU a0),(4,.hs 1004 0),(5,.i s1.1),(6,.i s1.2.1),(30,.bo j6)]) (fun j6=>[(1004,.row 9 false 1 (List.map cS s1.2.2)),(199999,.sus g0.w.heap.size ds1)]) (fun z=>j6=z) ?_ ?_
    .have hr:=hx;clear hx hy;refine zHa ?_;refine zia rfl (zla (d:=13) rfl rfl zCa) ?_;refine zia rfl (zla (d:=14) rfl rfl zCa) ?_;obtain ⟨v7,h8,hr⟩:=zaa hr;refine zia rfl (zla (d:=15) rfl rfl (wEa (f:=cU) rfl rfl zka zAa rfl h8)) ?_;refine zia rfl (zla (d:=16) rfl rfl (yJa rfl zAa rfl rfl)) ?_;refine zia rfl (zla (d:=17) rfl rfl (vDb rfl rfl)) ?_;refine zia rfl (zla (d:=18) rfl rfl zCa)<|yKa (((v7.toNat:Int)==10)) (fun c9=>?_) (fun c9=>?_)
     .replace hr:=ZSa c9 hr
      refine kja (d:=18) rfl rfl rfl c9 (zla (d:=19) rfl rfl zCa) ?_;refine kja (d:=18) rfl rfl rfl c9 (zla (d:=20) rfl rfl zCa) ?_;refine kja (d:=18) rfl rfl rfl c9 (zla (d:=21) rfl rfl (z9b rfl rfl)) ?_;obtain ⟨v10,h11,hr⟩:=zaa hr;refine kja (d:=18) rfl rfl rfl c9 (zla (d:=22) rfl rfl (wEa (f:=cU) rfl rfl zka zAa rfl h11)) ?_;refine kja (d:=18) rfl rfl rfl c9 (zla (d:=23) rfl rfl (yJa rfl zAa rfl rfl)) ?_;refine kja (d:=18) rfl rfl rfl c9 (zla (d:=24) rfl rfl (vDb rfl rfl)) ?_;refine zia rfl (zla (d:=25) rfl rfl (jLa rfl c9)) ?_;refine zia rfl (zla (d:=26) rfl rfl zCa)<|yKa (((v10.toNat:Int)==13)) (fun c12=>?_) (fun c12=>?_)
      .replace hr:=ZSa c12 hr
       refine kja (d:=26) rfl rfl rfl c12 (zla (d:=27) rfl rfl zCa) ?_;refine kja (d:=26) rfl rfl rfl c12 (zla (d:=28) rfl rfl zCa) ?_;refine kja (d:=26) rfl rfl rfl c12 (zla (d:=29) rfl rfl (yGb rfl rfl)) ?_;refine zia rfl (zla (d:=30) rfl rfl (jLa rfl c12)) ?_;refine zSa ?_;cases hr;exact kma _ rfl (zfa rfl (zfa rfl (zfa rfl (zfa rfl (zfa rfl zBa))))) (zba rfl (zba rfl zga))
      replace hr:=ZTa c12 hr
      refine ksa (d:=26) rfl rfl rfl c12 ?_;refine ksa (d:=26) rfl rfl rfl c12 ?_;refine ksa (d:=26) rfl rfl rfl c12 ?_;refine zia rfl (zla (d:=30) rfl rfl (w4a rfl c12)) ?_;refine zSa ?_;cases hr;exact kma _ rfl (zfa rfl (zfa rfl (zfa rfl (zfa rfl (zfa rfl zBa))))) (zba rfl (zba rfl zga))
     replace hr:=ZTa c9 hr
     refine ksa (d:=18) rfl rfl rfl c9 ?_;refine ksa (d:=18) rfl rfl rfl c9 ?_;refine ksa (d:=18) rfl rfl rfl c9 ?_;refine ksa (d:=18) rfl rfl rfl c9 ?_;refine ksa (d:=18) rfl rfl rfl c9 ?_;refine ksa (d:=18) rfl rfl rfl c9 ?_;refine zia rfl (zla (d:=25) rfl rfl (w4a rfl c9)) ?_;refine zia rfl (zla (d:=26) rfl rfl zCa) ?_;refine ksa (d:=26) rfl rfl rfl rfl ?_;refine ksa (d:=26) rfl rfl rfl rfl ?_;refine ksa (d:=26) rfl rfl rfl rfl ?_;refine zia rfl (zla (d:=30) rfl rfl (w4a rfl rfl)) ?_;refine zSa ?_;cases hr;exact kma _ rfl (zfa rfl (zfa rfl (zfa rfl (zfa rfl (zfa rfl zBa))))) (zba rfl (zba rfl zga))
    rintro _ rfl;have hr:=hy;clear hx hy;refine y9a rfl (fun c13=>?_) (fun c13=>?_)
    .replace hr:=ZSa c13 hr
     refine kNa ?_;refine zHa ?_;refine zia rfl (zla (d:=31) rfl rfl zCa) ?_;refine zia rfl (zla (d:=32) rfl rfl zCa) ?_;refine zia rfl (zla (d:=33) rfl rfl zCa) ?_;refine zia rfl (zla (d:=34) rfl rfl zCa) ?_;refine zia rfl (zla (d:=35) rfl rfl (z9b rfl rfl)) ?_;obtain ⟨v14,h15,hr⟩:=zaa hr;refine zia rfl (zla (d:=36) rfl rfl (ev_cutLH (F:=cU) rfl rfl rfl zka zAa (fun _=>rfl) h15)) ?_;refine zia rfl (zla (d:=37) rfl rfl (jOa rfl zka zAa zwa)) ?_;refine zia rfl (jPa (d:=38) rfl rfl (qGa (F:=cS) (l:=([v14]:List Str)) kBa zwa rfl (fun _=>rfl) rfl rfl)) ?_;obtain ⟨v16,h17,hr⟩:=zaa hr;refine zia rfl (k1a (k:=39) (F:=cS) (l:=s1.2.2) (xs:=(([v14]:List Str))) (lim:=8796093022208) rfl rfl rfl rfl kBa zwa rfl rfl (fun _=>rfl) rfl h17) ?_;refine zia rfl (zla (d:=4) rfl rfl zOa) ?_;refine zSa<|zDa ?_;refine zHa ?_;refine zia rfl (zla (d:=40) rfl rfl zCa) ?_;refine zia rfl (zla (d:=41) rfl rfl (Jha rfl rfl)) ?_;refine zia rfl (zla (d:=5) rfl rfl zOa) ?_;refine zSa<|yxa ?_;cases hr;exact kma _ rfl (zfa rfl (zfa rfl (zfa rfl (zfa rfl zBa)))) (zba rfl (zba rfl zga))
    replace hr:=ZTa c13 hr
    refine Kra<|yxa ?_;cases hr;exact kma _ rfl (zfa rfl (zfa rfl (zfa rfl (zfa rfl zBa)))) (zba rfl (zba rfl zga))
   rintro _ rfl;have hr:=hy;clear hx hy;refine zHa ?_;refine zia rfl (zla (d:=11) rfl rfl zCa) ?_;refine zia rfl (zla (d:=12) rfl rfl (Jha rfl rfl)) ?_;refine zia rfl (zla (d:=6) rfl rfl zOa) ?_;refine zSa ?_;cases hr;exact ⟨rfl,(zfa rfl (zfa rfl (zfa rfl (zfa rfl zBa)))),(zba rfl (zba rfl zga))⟩
  replace hr:=ZTa c4 hr
  refine J1a<|Jea ?_;cases hr;exact ⟨by simp,rfl,(zfa rfl (zfa rfl (zfa rfl zBa))),(zba rfl (zba rfl zga))⟩
 intro e fr2 st2 hq;obtain ⟨rfl,hf,hs⟩:=hq;refine K7a<|zDa ?_;refine z7b hf hs ?_;refine kNa ?_;obtain ⟨v18,h19,hr⟩:=zaa hr;refine kdb 5 [(2,.hs 1004 0),(45,.l cU v18),(44,.i b2.1),(43,.l cU a0),(42,.hs 1004 0)] mixed (by kernel_rfl) rfl rfl (.run (.plain rfl) (k9a zCa) (.run (.plain rfl) (k9a zCa) (.run (.plain rfl) (k9a zCa) (.run (.plain rfl) (k9a (qEb (F:=cU) rfl rfl zka zAa (fun _=>rfl) h19)) (.run (.plain rfl) (k9a zOa) .nil))))) rfl ?_;refine zia rfl (zla (d:=3) rfl rfl zOa) ?_;refine zSa<|zDa ?_;refine WPa<|inlK (cs:=[.hs 1004 0,.l cU v18]) (fr'' :=[]) (σ'' :=[(1004,.row 9 false 1 (List.map cS b2.2))]) (.inl rfl) w3a Jga (.cons (Voa rfl) (.cons (Voa rfl) .nil)) .nil rfl (zba rfl zga) ?_;refine zia rfl (zla (d:=7) rfl rfl zCa) ?_;refine zia rfl (zla (d:=10) rfl rfl (Vma rfl rfl)) ?_;refine zia rfl (zla (d:=11) rfl rfl (Vma rfl rfl)) ?_;refine zia rfl (zla (d:=3) rfl rfl zOa) ?_;refine zia rfl (zla (d:=4) rfl rfl zOa) ?_;refine zSa<|zDa ?_;refine kNa ?_;refine zHa ?_;refine zia rfl (zla (d:=12) rfl rfl zCa) ?_;refine zia rfl (zla (d:=13) rfl rfl zCa) ?_;refine zia rfl (zla (d:=14) rfl rfl (jOa rfl zka zAa zwa)) ?_;refine zia rfl (jPa (d:=15) rfl rfl (qGa (F:=cS) (l:=([v18]:List Str)) kBa zwa rfl (fun _=>rfl) rfl rfl)) ?_;obtain ⟨v20,h21,hr⟩:=zaa hr;refine zia rfl (k1a (k:=16) (F:=cS) (l:=b2.2) (xs:=(([v18]:List Str))) (lim:=8796093022208) rfl rfl rfl rfl kBa zwa rfl rfl (fun _=>rfl) rfl h21) ?_;refine zia rfl (zla (d:=3) rfl rfl zOa) ?_;refine zSa<|zDa ?_;refine kNa ?_;refine zHa ?_;refine zia rfl (zla (d:=5) rfl rfl zOa) ?_;refine qUa 1005 (d:=5) 5 1 rfl rfl rfl ?_;refine zSa<|zDa ?_;refine kNa ?_;refine kNa ?_;refine zHa ?_;refine zia rfl (zla (d:=6) rfl rfl zOa) ?_;refine zSa<|zDa ?_;refine ZPa ?_;obtain ⟨b23,hl,hr⟩:=zaa hr;refine J3a (Z4a v20) (fun s22=>[(3,.hs 1004 0),(5,.hs 1005 0),(6,.i s22.1)]) (fun s22=>[(1005,.row 5 false 1 (List.map cU s22.2)),(1004,.row 9 false 1 (List.map cS v20))]) (fun b23=>At (.exit 0) [(5,.hs 1005 0)] [(1005,.row 5 false 1 (List.map cU b23))]) ?_ ((0,([]:List UInt8))) hl (zfa rfl (zfa rfl (zfa rfl zBa))) (zba rfl (zba rfl zga)) ?_
 .intro s22 x24 hr;unfold Z4a at hr;refine kNa ?_;refine kNa ?_;refine zHa ?_;refine zia rfl (zla (d:=17) rfl rfl zCa) ?_;refine zia rfl (zla (d:=18) rfl rfl zCa) ?_;refine zia rfl (zla (d:=19) rfl rfl (J7a (F:=cS) rfl rfl kBa.u)) ?_;refine zia rfl (zla (d:=20) rfl rfl (vEb rfl rfl)) ?_;refine zSa<|zDa ?_;refine y9a rfl (fun c25=>?_) (fun c25=>?_)
  .replace hr:=ZSa c25 hr
   refine Kra<|zDa ?_;obtain ⟨j26,hx,hy⟩:=zaa hr;refine jaa (fun j26=>[(3,.hs 1004 0),(5,.hs 1005 0),(6,.i s22.1)]) (fun j26=>[(1005,.row 5 false 1 (List.map cU j26)),(1004,.row 9 false 1 (List.map cS v20))]) (fun z=>j26=z) ?_ ?_
   .have hr:=hx;clear hx hy;refine ZPa ?_;obtain ⟨j27,hx,hy⟩:=zaa hr;refine jaa (fun j27=>[(3,.hs 1004 0),(5,.hs 1005 0),(6,.i s22.1)]) (fun j27=>[(1005,.row 5 false 1 (List.map cU j27)),(1004,.row 9 false 1 (List.map cS v20))]) (fun z=>j27=z) ?_ ?_
    .have hr:=hx;clear hx hy;obtain ⟨j28,hx,hy⟩:=zaa hr;refine jaa (fun j28=>[(3,.hs 1004 0),(5,.hs 1005 0),(6,.i s22.1),(36,.bo j28)]) (fun j28=>[(1005,.row 5 false 1 (List.map cU s22.2)),(1004,.row 9 false 1 (List.map cS v20))]) (fun z=>j28=z) ?_ ?_
     .have hr:=hx;clear hx hy;refine zHa ?_;refine zia rfl (zla (d:=23) rfl rfl zCa) ?_;refine zia rfl (zla (d:=24) rfl rfl zCa) ?_;refine Zaa (d:=23) (F:=cS) (l:=v20) rfl rfl ?_;obtain ⟨v29,h30,hr⟩:=zaa hr;refine zia rfl (zla (d:=25) rfl rfl (wEa (f:=cS) rfl rfl kBa zwa rfl h30)) ?_;refine zia rfl (zla (d:=26) rfl rfl (yJa rfl zwa rfl rfl)) ?_;refine zia rfl (zla (d:=27) rfl rfl (yJb rfl zwa.u)) ?_;refine zia rfl (zla (d:=28) rfl rfl (yGb rfl rfl)) ?_;refine zia rfl (zla (d:=29) rfl rfl zCa)<|yKa (decide (0 < (v29.length:Int))) (fun c31=>?_) (fun c31=>?_)
      .replace hr:=ZSa c31 hr
       refine kja (d:=29) rfl rfl rfl c31 (zla (d:=30) rfl rfl zCa) ?_;refine kja (d:=29) rfl rfl rfl c31 (zla (d:=31) rfl rfl zCa) ?_;refine Zaa (d:=30) (F:=cS) (l:=v20) rfl rfl ?_;obtain ⟨v32,h33,hr⟩:=zaa hr;refine kja (d:=29) rfl rfl rfl c31 (zla (d:=32) rfl rfl (wEa (f:=cS) rfl rfl kBa zwa rfl h33)) ?_;refine kja (d:=29) rfl rfl rfl c31 (zla (d:=33) rfl rfl (yJa rfl zwa rfl rfl)) ?_;obtain ⟨v34,h35,hr⟩:=zaa hr;refine kja (d:=29) rfl rfl rfl c31 (zla (d:=34) rfl rfl (K8a rfl rfl zwa h35)) ?_;refine kja (d:=29) rfl rfl rfl c31 (zla (d:=35) rfl rfl (vDb rfl rfl)) ?_;refine zia rfl (zla (d:=36) rfl rfl (jLa rfl c31)) ?_;refine zSa ?_;cases hr;exact kma _ rfl (zfa rfl (zfa rfl (zfa rfl (zfa rfl zBa)))) (zba rfl (zba rfl zga))
      replace hr:=ZTa c31 hr
      refine ksa (d:=29) rfl rfl rfl c31 ?_;refine ksa (d:=29) rfl rfl rfl c31 ?_;refine ksa (d:=29) rfl rfl rfl c31 ?_;refine ksa (d:=29) rfl rfl rfl c31 ?_;refine ksa (d:=29) rfl rfl rfl c31 ?_;refine ksa (d:=29) rfl rfl rfl c31 ?_;refine zia rfl (zla (d:=36) rfl rfl (w4a rfl c31)) ?_;refine zSa ?_;cases hr;exact kma _ rfl (zfa rfl (zfa rfl (zfa rfl (zfa rfl zBa)))) (zba rfl (zba rfl zga))
     rintro _ rfl;have hr:=hy;clear hx hy;refine y9a rfl (fun c36=>?_) (fun c36=>?_)
     .replace hr:=ZSa c36 hr
      refine zHa ?_;refine zia rfl (zla (d:=37) rfl rfl zCa) ?_;refine zia rfl (jPa (d:=38) rfl rfl (qGa (F:=cU) (l:=([(46:UInt8)]:List UInt8)) zka zAa rfl (fun _=>rfl) rfl rfl)) ?_;obtain ⟨v37,h38,hr⟩:=zaa hr;refine zia rfl (k1a (k:=39) (F:=cU) (l:=s22.2) (xs:=(([(46:UInt8)]:List UInt8))) (lim:=140737488355328) rfl rfl rfl rfl zka zAa rfl rfl (fun _=>rfl) rfl h38) ?_;refine zia rfl (zla (d:=5) rfl rfl zOa) ?_;refine zSa ?_;cases hr;exact kma _ rfl (zfa rfl (zfa rfl (zfa rfl zBa))) (zba rfl (zba rfl zga))
     replace hr:=ZTa c36 hr
     refine Kra ?_;cases hr;exact kma _ rfl (zfa rfl (zfa rfl (zfa rfl zBa))) (zba rfl (zba rfl zga))
    rintro _ rfl;have hr:=hy;clear hx hy;refine kNa ?_;refine zHa ?_;refine zia rfl (zla (d:=40) rfl rfl zCa) ?_;refine zia rfl (zla (d:=41) rfl rfl zCa) ?_;refine zia rfl (zla (d:=42) rfl rfl zCa) ?_;refine Zaa (d:=41) (F:=cS) (l:=v20) rfl rfl ?_;obtain ⟨v39,h40,hr⟩:=zaa hr;refine zia rfl (zla (d:=43) rfl rfl (wEa (f:=cS) rfl rfl kBa zwa rfl h40)) ?_;refine zia rfl (zla (d:=44) rfl rfl (yJa rfl zwa rfl rfl)) ?_;obtain ⟨v41,h42,hr⟩:=zaa hr;refine zia rfl (v9a (k:=45) (l:=j27) (s:=v39) (lim:=140737488355328) rfl rfl rfl rfl zka zwa.u zAa rfl h42) ?_;refine zia rfl (zla (d:=5) rfl rfl zOa) ?_;refine zSa<|zDa ?_;refine kNa ?_;refine zHa ?_;refine zia rfl (zla (d:=46) rfl rfl zCa) ?_;refine zia rfl (zla (d:=47) rfl rfl (Jha rfl rfl)) ?_;refine zia rfl (zla (d:=48) rfl rfl zCa) ?_;refine zia rfl (zla (d:=49) rfl rfl (J7a (F:=cS) rfl rfl kBa.u)) ?_;refine zia rfl (zla (d:=50) rfl rfl (vEb rfl rfl)) ?_;refine zSa<|zDa ?_;refine y9a rfl (fun c43=>?_) (fun c43=>?_)
    .replace hr:=ZSa c43 hr
     refine zHa ?_;refine zia rfl (zla (d:=51) rfl rfl zCa) ?_;refine zia rfl (jPa (d:=52) rfl rfl (qGa (F:=cU) (l:=([(13:UInt8),(10:UInt8)]:List UInt8)) zka zAa rfl (fun _=>rfl) rfl rfl)) ?_;obtain ⟨v44,h45,hr⟩:=zaa hr;refine zia rfl (k1a (k:=53) (F:=cU) (l:=v41) (xs:=(([(13:UInt8),(10:UInt8)]:List UInt8))) (lim:=140737488355328) rfl rfl rfl rfl zka zAa rfl rfl (fun _=>rfl) rfl h45) ?_;refine zia rfl (zla (d:=5) rfl rfl zOa) ?_;refine zSa<|yxa ?_;cases hr;exact kma _ rfl (zfa rfl (zfa rfl (zfa rfl zBa))) (zba rfl (zba rfl zga))
    replace hr:=ZTa c43 hr
    refine Kra<|yxa ?_;cases hr;exact kma _ rfl (zfa rfl (zfa rfl (zfa rfl zBa))) (zba rfl (zba rfl zga))
   rintro _ rfl;have hr:=hy;clear hx hy;refine zHa ?_;refine zia rfl (zla (d:=21) rfl rfl zCa) ?_;refine zia rfl (zla (d:=22) rfl rfl (Jha rfl rfl)) ?_;refine zia rfl (zla (d:=6) rfl rfl zOa) ?_;refine zSa ?_;cases hr;exact ⟨rfl,(zfa rfl (zfa rfl (zfa rfl zBa))),(zba rfl (zba rfl zga))⟩
  replace hr:=ZTa c25 hr
  refine J1a<|Jea ?_;cases hr;exact ⟨by simp,rfl,(zfa rfl zBa),(zba rfl zga)⟩
 intro e fr2 st2 hq;obtain ⟨rfl,hf,hs⟩:=hq;refine K7a<|zDa ?_;refine z7b hf hs ?_;refine kNa ?_;refine zHa ?_;refine zia rfl (zla (d:=54) rfl rfl zCa) ?_;refine zia rfl (jPa (d:=55) rfl rfl (qGa (F:=cU) (l:=([(46:UInt8),(13:UInt8),(10:UInt8)]:List UInt8)) zka zAa rfl (fun _=>rfl) rfl rfl)) ?_;obtain ⟨v46,h47,hr⟩:=zaa hr;refine zia rfl (k1a (k:=56) (F:=cU) (l:=b23) (xs:=(([(46:UInt8),(13:UInt8),(10:UInt8)]:List UInt8))) (lim:=140737488355328) rfl rfl rfl rfl zka zAa rfl rfl (fun _=>rfl) rfl h47) ?_;refine zia rfl (zla (d:=2) rfl rfl zOa) ?_;refine zSa<|zDa ?_;refine ypa (d:=2) (F:=cU) (l:=v46) rfl rfl ?_;refine WPa ?_;cases hr;exact kret' rfl (.cons (Voa rfl) .nil) rfl
theorem yHa(a0:zVa)(r:Bool)(hr:kMa a0=some r):Run prog 6 [.agg [.s a0.Envelope.From,.l zca.pc a0.Envelope.To,.s a0.Envelope.Id,.l zha.pc a0.Message.Fields,.l cU a0.Message.Body]] (.bo r):=by
 unfold kMa at hr;refine rf (fn:=f6) ⟨func6,rfl,by kernel_rfl⟩ rfl (fun _=>rfl) fun g0 hg=>?_
 refine rn tk 7 rfl<|jb hr (fun j1=>[(1,.ptr 1 0),(25,.bo j1)]) (fun j1=>[(1,.cells [.s a0.Envelope.From,.l zca.pc a0.Envelope.To,.s a0.Envelope.Id,.l zha.pc a0.Message.Fields,.l cU a0.Message.Body])]) (fun j1 hr=>?_) (fun j1 hr=>?_)
 .refine rn tk 1 rfl ?_;obtain ⟨v2,h3,hr⟩:=zaa hr;refine cl (Vja _ h3) rfl rfl<|rn tk 2 rfl<|bs 15 hr rfl (fun c4 hr=>?_) (fun c4 hr=>?_)
  .refine rn tk 11 rfl ?_;cases hr;exact jn _ rfl rfl rfl
  refine rn tk 1 rfl ?_;obtain ⟨v5,h6,hr⟩:=zaa hr;refine ug rfl rfl rfl<|cl (YUa _ _ h6) rfl rfl<|rn tk 4 rfl<|bs 21 hr rfl (fun c7 hr=>?_) (fun c7 hr=>?_)
  .refine rn tk 5 rfl ?_;cases hr;exact jn _ rfl rfl rfl
  refine rn tk 2 rfl ?_;obtain ⟨v8,h9,hr⟩:=zaa hr;refine ug rfl rfl rfl<|cl (yzb _ _ h9) rfl rfl<|rn tk 2 rfl ?_;cases hr;exact jn _ rfl rfl rfl
 refine ac 25 hr rfl (fun c10 hr=>?_) (fun c10 hr=>?_)
 .refine rn tk 2 rfl ?_;obtain ⟨v11,h12,hr⟩:=zaa hr;refine cl (Vja _ h12) rfl rfl<|rn tk 5 rfl ?_;cases hr;exact kr tk (.inr rfl) rfl rfl
 refine rn tk 4 rfl ?_;obtain ⟨v13,h14,hr⟩:=zaa hr;refine cl (jIa _ _ _ _ h14) rfl rfl<|rn tk 15 rfl ?_;refine qUa 1006 (d:=6) 5 1 rfl rfl rfl (hO ?_);refine rn tk 8 rfl ?_;obtain ⟨v15,h16,hr⟩:=zaa hr;refine wc h16 rfl rfl rfl ?_;obtain ⟨v17,h18,hr⟩:=zaa hr;refine wc h18 rfl rfl rfl ?_;obtain ⟨v19,h20,hr⟩:=zaa hr;refine wo (v9a (k:=38) (l:=(([]:List UInt8))) (s:=v17) (lim:=140737488355328) rfl rfl rfl rfl zka zwa.u zAa rfl h20) rfl<|rn tk 10 rfl<|al1 hr (fun s21=>[(1,.ptr 1 0),(3,.ptr 3 0),(5,.ptr 5 0),(6,.hs 1006 0),(7,.i s21.1)]) (fun s21=>[(1006,.row 5 false 1 (List.map cU s21.2)),(5,.cells [.i v13.2.2.Code,.i v13.2.2.Index]),(3,.cells (zA2 v13.1)),(1,.cells [.s a0.Envelope.From,.l zca.pc a0.Envelope.To,.s a0.Envelope.Id,.l zha.pc a0.Message.Fields,.l cU a0.Message.Body])]) (.exit 0) (fun b22=>[(1,.ptr 1 0),(3,.ptr 3 0),(5,.ptr 5 0),(6,.hs 1006 0)]) (fun b22=>[(1006,.row 5 false 1 (List.map cU b22)),(5,.cells [.i v13.2.2.Code,.i v13.2.2.Index]),(3,.cells (zA2 v13.1)),(1,.cells [.s a0.Envelope.From,.l zca.pc a0.Envelope.To,.s a0.Envelope.Id,.l zha.pc a0.Message.Fields,.l cU a0.Message.Body])]) rfl rfl (fun s21 x23 hr=>?_) (fun b22 hr=>?_)
 .unfold zPa at hr;refine rn tk 7 rfl<|wn tk rfl rfl rfl<|rn tk 3 rfl<|ac 44 hr rfl (fun c24 hr=>?_) (fun c24 hr=>?_)
  .refine rn tk 4 rfl ?_;obtain ⟨v25,h26,hr⟩:=zaa hr;obtain ⟨v27,h28,hr⟩:=zaa hr;obtain ⟨v29,h30,hr⟩:=zaa hr;obtain ⟨v31,h32,hr⟩:=zaa hr;obtain ⟨v33,h34,hr⟩:=zaa hr;obtain ⟨v35,h36,hr⟩:=zaa hr;obtain ⟨v37,h38,hr⟩:=zaa hr;refine dr 20 [(66,.s v37),(65,.s v35),(64,.s v33),(63,.i v31.Notify),(62,.ep [pI v31.Notify]),(61,.ep [pS v31.Address,pI v31.Notify]),(60,.i s21.1),(59,.l zca.pc a0.Envelope.To),(58,.ptr 1 1),(57,.ptr 1 0),(56,.s v29),(55,.s v27),(54,.s v25.Address),(53,.ep [pS v25.Address,pI v25.Notify]),(52,.ep [pS v25.Address,pI v25.Notify]),(51,.i s21.1),(50,.l zca.pc a0.Envelope.To),(49,.ptr 1 1),(48,.ptr 1 0),(47,.hs 1006 0)] mixed (by kernel_rfl) rfl rfl (pq tk rfl (.plain rfl) (pq tk rfl (.plain rfl) (pq tk rfl (.plain rfl) (pq tk rfl (.plain rfl) (pq tk rfl (.plain rfl) (.run (.plain rfl) (k9a (wEa (f:=zca.pc) rfl rfl zoa zza rfl h26)) (pq tk rfl (.plain rfl) (pq tk rfl (.plain rfl) (.run (.plain rfl) (k9a (QNa rfl rfl h28)) (.run (.plain rfl) (k9a (QNa rfl rfl h30)) (pq tk rfl (.plain rfl) (pq tk rfl (.plain rfl) (pq tk rfl (.plain rfl) (pq tk rfl (.plain rfl) (.run (.plain rfl) (k9a (wEa (f:=zca.pc) rfl rfl zoa zza rfl h32)) (pq tk rfl (.plain rfl) (pq tk rfl (.plain rfl) (.run (.plain rfl) (vWa (WGa v31.Notify v33 h34) rfl) (.run (.plain rfl) (k9a (QNa rfl rfl h36)) (.run (.plain rfl) (k9a (QNa rfl rfl h38)) .nil)))))))))))))))))))) rfl ?_;obtain ⟨v39,h40,hr⟩:=zaa hr;refine wo (v9a (k:=67) (l:=s21.2) (s:=v37) (lim:=140737488355328) rfl rfl rfl rfl zka zwa.u zAa rfl h40) rfl<|rn tk 9 rfl ?_;cases hr;exact atc rfl rfl
  refine rn tk 2 rfl ?_;cases hr;exact ato rfl rfl rfl rfl
 refine rn tk 5 rfl ?_;obtain ⟨v41,h42,hr⟩:=zaa hr;refine wo (v9a (k:=69) (l:=b22) (s:=(([100,97,116,97,13,10]:Str))) (lim:=140737488355328) rfl rfl rfl rfl zka zwa.u zAa rfl h42) rfl<|rn tk 8 rfl ?_;obtain ⟨v43,h44,hr⟩:=zaa hr;refine cl (wCa _ _ h44) rfl rfl ?_;obtain ⟨v45,h46,hr⟩:=zaa hr;refine cl (yBb _ _ h46) rfl rfl ?_;obtain ⟨v47,h48,hr⟩:=zaa hr;refine wa tk h48 rfl rfl rfl rfl (fun _=>rfl) rfl rfl<|rn tk 7 rfl ?_;refine Zaa (d:=78) (F:=cU) (l:=v47) rfl rfl (hO ?_);obtain ⟨v49,h50,hr⟩:=zaa hr;refine cl (Kpa _ _ _ h50) rfl rfl<|rn tk 14 rfl<|jb hr (fun j51=>[(1,.ptr 1 0),(10,.l zVa.pc v49.2.2.1),(96,.bo j51)]) (fun j51=>[(1,.cells [.s a0.Envelope.From,.l zca.pc a0.Envelope.To,.s a0.Envelope.Id,.l zha.pc a0.Message.Fields,.l cU a0.Message.Body])]) (fun j51 hr=>?_) (fun j51 hr=>?_)
 .refine rn tk 5 rfl<|bs 87 hr rfl (fun c52 hr=>?_) (fun c52 hr=>?_)
  .refine rn tk 10 rfl ?_;cases hr;exact jn _ rfl rfl rfl
  refine rn tk 5 rfl<|bs 92 hr rfl (fun c53 hr=>?_) (fun c53 hr=>?_)
  .refine rn tk 5 rfl ?_;cases hr;exact jn _ rfl rfl rfl
  refine rn tk 1 rfl<|ug rfl rfl rfl<|wn tk rfl rfl rfl<|rn tk 3 rfl ?_;cases hr;exact jn _ rfl rfl rfl
 refine ac 96 hr rfl (fun c54 hr=>?_) (fun c54 hr=>?_)
 .refine rn tk 7 rfl ?_;cases hr;exact kr tk (.inr rfl) rfl rfl
 refine rn tk 17 rfl ?_;obtain ⟨v55,h56,hr⟩:=zaa hr;refine dr 4 [(103,.agg [.s a0.Envelope.From,.l zca.pc a0.Envelope.To,.s (([109,120,45,49]:Str)),.l zha.pc a0.Message.Fields,.l cU a0.Message.Body]),(102,.agg [.s v55.Envelope.From,.l zca.pc v55.Envelope.To,.s v55.Envelope.Id,.l zha.pc v55.Message.Fields,.l cU v55.Message.Body]),(101,.ep [pS v55.Envelope.From,pL zca.pc v55.Envelope.To,pS v55.Envelope.Id,pL zha.pc v55.Message.Fields,pL cU v55.Message.Body]),(100,.l zVa.pc v49.2.2.1)] mixed (by kernel_rfl) rfl rfl (pq tk rfl (.plain rfl) (.run (.plain rfl) (k9a (wEa (f:=zVa.pc) rfl rfl vva v2a rfl h56)) (pq tk rfl (.plain rfl) (pq tk rfl (.plain rfl) .nil)))) rfl ?_;obtain ⟨v57,h58,hr⟩:=zaa hr;refine cl (Jda _ _ _ h58) rfl rfl<|rn tk 4 rfl ?_;cases hr;exact kr tk (.inr rfl) rfl rfl
end Go.Proofs.YtmmjihadplknjaaGreatDoor
namespace Go.Proofs.YtmmjihadplknjaaGreatDoor.serverTakesWhatIsSent
open Go.ChangeShapes Go.WideShapes Go.ChangeAt Go.RowKit Go.Proofs.Tryz
theorem contract(H:Type)(enc:TypeId × Value->H)(W:World)(base:Nat)(args:Array Value)(ds gs:List (DataW H))(before:List MemPlace)
 (hval:∀(j:Nat) t v,f6.params[j]? =some t->args[j]? =some v->Value.okWide prog W .any base t v)
 (hW:DataW.Whole enc prog f6.params.toList Rows.serverTakesWhatIsSentSpec.vars false W args.toList ds gs before) (hk:Rows.uptoSmall H (ds++gs)=true) (hgl:Gl (gAll W)):
 Calls prog 6 args W fun e W' =>∃v,e=.returned v/\Rows.serverTakesWhatIsSentSpec.post enc prog f6 false true false false W args v W' :=by
 have hW' :=hW;obtain ⟨p,q,hA0,hV,rfl,hfz,hnd⟩:=hW;have hA:DataW.TrodAll enc prog W 0 (fun _=>true) true f6.params.toList args.toList ds p:=hA0;rw[Tryz.params6]at hA hval;obtain ⟨v0,vs0,d0,ds0,p0,q0,hargs,rfl,rfl,h0,r0⟩:=trodAll_cons hA;obtain ⟨rfl,rfl,rfl⟩:=trodAll_nil r0;obtain rfl:args= #[v0]:=by cases args;simp_all
 obtain ⟨rfl,rfl⟩:=trodVars_none hV;obtain ⟨a0,e0,o0,k0⟩:=arg_agg qZb (by obtain ⟨cs,h,_⟩:=okWide_struct v2a.u (hval 0 _ v0 rfl rfl);exact ⟨cs,h⟩) h0;have hk2:=of_decide_eq_true hk;simp only[List.append_nil,Rows.uptoBulkAll]at hk2;have ht:=ysa a0 o0 (by (try dsimp only);omega);have key:Calls prog 6 #[v0] W fun e W' =>e=.returned (.bool true)/\Below W.heap.size W W' :=klb (yHa a0 true ht) hgl (wPb (.cons e0 .nil))
 refine key.mono fun e W' ⟨he,hb⟩=>⟨_,he,?_⟩
 exact jgb laidOut (by kernel_rfl) underlying4 (by kernel_rfl) rfl rfl hW' hb
noncomputable def wit(os:Os):World:=let w0:=World.doorLaid prog 72 os
 {w0 with heap:=w0.heap.modify 2 fun
  | .cells _ t fz=>.cells (Lib.firstTab.map fun z=>Value.int .u8 z).toArray t fz
  | o=>o}
theorem reads(os:Os){H:Type}(enc:TypeId × Value->H):∃places,DataW.whole enc prog ((wit os).forCall (fun _ _=>0) ⟨#[], #[.agg #[.string ⟨#[]⟩,.slice none 0 0,.string ⟨#[]⟩,.slice none 0 0,.slice none 0 0]],[]⟩).memory f6.params.toList (Rows.OpenSpec.upto Rows.serverTakesWhatIsSentSpec).vars false (#[.agg #[.string ⟨#[]⟩,.slice none 0 0,.string ⟨#[]⟩,.slice none 0 0,.slice none 0 0]]:Array Value).toList 8=some ([.agg [.agg [.lit (.string []),.nil,.lit (.string [])],.agg [.nil,.nil]]],[],places):=
 ⟨[],by kernel_rfl⟩
theorem lifted(os:Os)(started:os.Started)(H:Type)(enc:TypeId × Value->H)(F:Stop.Interp):
 ReturnsInHanded {} Tryz.checked os 6 .any ((Rows.OpenSpec.upto Rows.serverTakesWhatIsSentSpec).preRow enc prog f6 Rows.serverTakesWhatIsSentUptoRow.domain false Rows.serverTakesWhatIsSentUptoRow.laid) (((Rows.OpenSpec.upto Rows.serverTakesWhatIsSentSpec).at F).post enc prog f6 false true false false):=by
 obtain ⟨places,hx⟩:=reads os enc;refine returnsInHanded_of_row (C:=Tryz.checked) (s:=Rows.OpenSpec.upto Rows.serverTakesWhatIsSentSpec) own started (by kernel_rfl) func6
  (witness_row_atRef (enc:=enc) (C:=Tryz.checked) false (wit os) #[.agg #[.string ⟨#[]⟩,.slice none 0 0,.string ⟨#[]⟩,.slice none 0 0,.slice none 0 0]] rfl (by kernel_rfl) (by kernel_rfl) (by kernel_rfl)
   (OpenSpec.preRow_of_cond 8 hx (by kernel_rfl) (fun k hk=>by cases hk;kernel_rfl) (by kernel_rfl) (laidMet_of_run' 8 (by kernel_rfl) (by kernel_rfl)))) ?_
 intro W base args ds gs before hval hW _ hk _ hL hsh _;exact contract H enc W base args ds gs before hval hW (hk _ rfl) (wQb (rest:=Rows.serverTakesWhatIsSentUptoRow.laid.drop 3) hsh (by kernel_rfl) hL (fun hm=>wRb hm.tail.tail.tail.tail.tail))
theorem j0:jf0 Tryz.pinned.checked.prog 6 f6 (Rows.OpenSpec.upto Rows.serverTakesWhatIsSentSpec).bare Rows.serverTakesWhatIsSentUptoRow=true:=by kernel_rfl
theorem j1:jf1 Tryz.pinned.checked.prog 6 f6 (Rows.OpenSpec.upto Rows.serverTakesWhatIsSentSpec).bare Rows.serverTakesWhatIsSentUptoRow=true:=by kernel_rfl
theorem j2:jf2 Tryz.pinned.checked.prog 6 f6 (Rows.OpenSpec.upto Rows.serverTakesWhatIsSentSpec).bare Rows.serverTakesWhatIsSentUptoRow=true:=by kernel_rfl
theorem j3:jf3 Tryz.pinned.checked.prog 6 f6 (Rows.OpenSpec.upto Rows.serverTakesWhatIsSentSpec).bare Rows.serverTakesWhatIsSentUptoRow=true:=by kernel_rfl
theorem j4:jf4 Tryz.pinned.checked.prog 6 f6 (Rows.OpenSpec.upto Rows.serverTakesWhatIsSentSpec).bare Rows.serverTakesWhatIsSentUptoRow=true:=by kernel_rfl
theorem j5:jf5 Tryz.pinned.checked.prog 6 f6 (Rows.OpenSpec.upto Rows.serverTakesWhatIsSentSpec).bare Rows.serverTakesWhatIsSentUptoRow=true:=by kernel_rfl
theorem j6:jf6 Tryz.pinned.checked.prog 6 f6 (Rows.OpenSpec.upto Rows.serverTakesWhatIsSentSpec).bare Rows.serverTakesWhatIsSentUptoRow=true:=by kernel_rfl
theorem j7:jf7 Tryz.pinned.checked.prog 6 f6 (Rows.OpenSpec.upto Rows.serverTakesWhatIsSentSpec).bare Rows.serverTakesWhatIsSentUptoRow=true:=by kernel_rfl
theorem j8:jf8 Tryz.pinned.checked.prog 6 f6 (Rows.OpenSpec.upto Rows.serverTakesWhatIsSentSpec).bare Rows.serverTakesWhatIsSentUptoRow=true:=by kernel_rfl
theorem j9:jf9 Tryz.pinned.checked.prog 6 f6 (Rows.OpenSpec.upto Rows.serverTakesWhatIsSentSpec).bare Rows.serverTakesWhatIsSentUptoRow=true:=by kernel_rfl
theorem j10:jf10 Tryz.pinned.checked.prog 6 f6 (Rows.OpenSpec.upto Rows.serverTakesWhatIsSentSpec).bare Rows.serverTakesWhatIsSentUptoRow=true:=by kernel_rfl
theorem j11:jf11 Tryz.pinned.checked.prog 6 f6 (Rows.OpenSpec.upto Rows.serverTakesWhatIsSentSpec).bare Rows.serverTakesWhatIsSentUptoRow=true:=by kernel_rfl
theorem j12:jf12 Tryz.pinned.checked.prog 6 f6 (Rows.OpenSpec.upto Rows.serverTakesWhatIsSentSpec).bare Rows.serverTakesWhatIsSentUptoRow=true:=by kernel_rfl
theorem j13:jf13 Tryz.pinned.checked.prog 6 f6 (Rows.OpenSpec.upto Rows.serverTakesWhatIsSentSpec).bare Rows.serverTakesWhatIsSentUptoRow=true:=by kernel_rfl
theorem j14:jf14 Tryz.pinned.checked.prog 6 f6 (Rows.OpenSpec.upto Rows.serverTakesWhatIsSentSpec).bare Rows.serverTakesWhatIsSentUptoRow=true:=by kernel_rfl
theorem j15:jf15 Tryz.pinned.checked.prog 6 f6 (Rows.OpenSpec.upto Rows.serverTakesWhatIsSentSpec).bare Rows.serverTakesWhatIsSentUptoRow=true:=by kernel_rfl
theorem j16:jf16 Tryz.pinned.checked.prog 6 f6 (Rows.OpenSpec.upto Rows.serverTakesWhatIsSentSpec).bare Rows.serverTakesWhatIsSentUptoRow=true:=by kernel_rfl
theorem j17:jf17 Tryz.pinned.checked.prog 6 f6 (Rows.OpenSpec.upto Rows.serverTakesWhatIsSentSpec).bare Rows.serverTakesWhatIsSentUptoRow=true:=by kernel_rfl
theorem j18:jf18 Tryz.pinned.checked.prog 6 f6 (Rows.OpenSpec.upto Rows.serverTakesWhatIsSentSpec).bare Rows.serverTakesWhatIsSentUptoRow=true:=by kernel_rfl
theorem j19:jf19 Tryz.pinned.checked.prog 6 f6 (Rows.OpenSpec.upto Rows.serverTakesWhatIsSentSpec).bare Rows.serverTakesWhatIsSentUptoRow=true:=by kernel_rfl
theorem j20:jf20 Tryz.pinned.checked.prog 6 f6 (Rows.OpenSpec.upto Rows.serverTakesWhatIsSentSpec).bare Rows.serverTakesWhatIsSentUptoRow=true:=by kernel_rfl
theorem j21:jf21 Tryz.pinned.checked.prog 6 f6 (Rows.OpenSpec.upto Rows.serverTakesWhatIsSentSpec).bare Rows.serverTakesWhatIsSentUptoRow=true:=by kernel_rfl
theorem j22:jf22 Tryz.pinned.checked.prog 6 f6 (Rows.OpenSpec.upto Rows.serverTakesWhatIsSentSpec).bare Rows.serverTakesWhatIsSentUptoRow=true:=by kernel_rfl
theorem j23:jf23 Tryz.pinned.checked.prog 6 f6 (Rows.OpenSpec.upto Rows.serverTakesWhatIsSentSpec).bare Rows.serverTakesWhatIsSentUptoRow=true:=by kernel_rfl
theorem j24:jf24 Tryz.pinned.checked.prog 6 f6 (Rows.OpenSpec.upto Rows.serverTakesWhatIsSentSpec).bare Rows.serverTakesWhatIsSentUptoRow=true:=by kernel_rfl
theorem j25:jf25 Tryz.pinned.checked.prog 6 f6 (Rows.OpenSpec.upto Rows.serverTakesWhatIsSentSpec).bare Rows.serverTakesWhatIsSentUptoRow=true:=by kernel_rfl
theorem j26:jf26 Tryz.pinned.checked.prog 6 f6 (Rows.OpenSpec.upto Rows.serverTakesWhatIsSentSpec).bare Rows.serverTakesWhatIsSentUptoRow=true:=by kernel_rfl
theorem j27:jf27 Tryz.pinned.checked.prog 6 f6 (Rows.OpenSpec.upto Rows.serverTakesWhatIsSentSpec).bare Rows.serverTakesWhatIsSentUptoRow=true:=by kernel_rfl
theorem j28:jf28 Tryz.pinned.checked.prog 6 f6 (Rows.OpenSpec.upto Rows.serverTakesWhatIsSentSpec).bare Rows.serverTakesWhatIsSentUptoRow=true:=by kernel_rfl
theorem j29:jf29 Tryz.pinned.checked.prog 6 f6 (Rows.OpenSpec.upto Rows.serverTakesWhatIsSentSpec).bare Rows.serverTakesWhatIsSentUptoRow=true:=by kernel_rfl
theorem j30:jf30 Tryz.pinned.checked.prog 6 f6 (Rows.OpenSpec.upto Rows.serverTakesWhatIsSentSpec).bare Rows.serverTakesWhatIsSentUptoRow=true:=by kernel_rfl
theorem j31:jf31 Tryz.pinned.checked.prog 6 f6 (Rows.OpenSpec.upto Rows.serverTakesWhatIsSentSpec).bare Rows.serverTakesWhatIsSentUptoRow=true:=by kernel_rfl
theorem said:Rows.serverTakesWhatIsSentUptoRow.holds Tryz.pinned (Rows.OpenSpec.upto Rows.serverTakesWhatIsSentSpec):=
 OpenClaim.holds_of_cond 6 f6 rfl rfl rfl rfl rfl rfl rfl ⟨rfl,rfl,rfl,rfl,rfl⟩ rfl rfl rfl rfl rfl (by kernel_rfl) func6 (jhb j0 j1 j2 j3 j4 j5 j6 j7 j8 j9 j10 j11 j12 j13 j14 j15 j16 j17 j18 j19 j20 j21 j22 j23 j24 j25 j26 j27 j28 j29 j30 j31)
  (of_decide_eq_true (by kernel_rfl)) (by unfold Func.isWrapper;first | (rw[if_pos (by decide+kernel)];kernel_rfl) | (rw[if_neg (by decide+kernel)];exact ⟨rfl,rfl⟩))
  (fun os started H enc _ F=>by rw[OpenClaim.pre_eq_preRow];exact lifted os started H enc F)
theorem plain (f : FuncId) (fn : Func) (hf : Tryz.pinned.checked.prog.funcNamed "posthouse/posthouselaw4.ServerTakesWhatIsSent" = some f) (hfn : Tryz.pinned.checked.prog.funcs[f]? = some fn) :
 true=Tryz.pinned.checked.prog.looks []/\∀(j:Nat) t,fn.params[j]? =some t->Tryz.pinned.checked.prog.wantsStandIn t=false:=by
 obtain rfl : f = 6 := Option.some.inj ((show prog.funcNamed "posthouse/posthouselaw4.ServerTakesWhatIsSent" = some 6 by kernel_rfl).symm.trans hf) |>.symm
 obtain rfl:fn=f6:=(Option.some.inj (func6.symm.trans hfn)).symm;refine ⟨by kernel_rfl,fun j t ht=>?_⟩;rw[Tryz.params6]at ht;have hm:=Array.mem_of_getElem? ht;simp only[List.mem_toArray,List.mem_cons,List.not_mem_nil,or_false]at hm;rcases hm with rfl
 exact (show prog.wantsStandIn 56=false by kernel_rfl)
theorem proved:Rows.ServerTakesWhatIsSentUptoCardSaid:=
 Claim7.holds_tied_plain_at .later [] _ _ _ _ said (fun _ h=>by cases h) (by kernel_rfl) (fun _ h=>by cases h) serverTakesWhatIsSentUpto_row_tie rfl ⟨rfl,rfl⟩ (by kernel_rfl) rfl plain (by kernel_rfl)
#print axioms proved
end Go.Proofs.YtmmjihadplknjaaGreatDoor.serverTakesWhatIsSent
