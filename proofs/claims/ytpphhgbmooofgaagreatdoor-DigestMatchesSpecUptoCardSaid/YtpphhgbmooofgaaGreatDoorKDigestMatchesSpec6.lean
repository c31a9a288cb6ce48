/- The law DigestMatchesSpec holds for every input of bulk up to the given bound: it returns true and leaves its arguments as they were. Written by program. -/
import Derived.Test.YtpphhgbmooofgaaGreatDoorKDigestMatchesSpec5
set_option linter.unusedVariables false
set_option linter.unusedSimpArgs false
set_option maxRecDepth 100000
set_option maxHeartbeats 40000000
namespace Go.Proofs.YtpphhgbmooofgaaGreatDoor
open Go.RowKit Go.Proofs.Tryz
theorem yLa(a0:zfa)(a1:List zca)(a2:List UInt8)(a3:Int)(r:zka × Bool × zfa)(hr:qLa a0 a1 a2 a3=some r):RunS prog 51 [.ptr 90007000 0,.l zca.pc a1,.l cU a2,.i a3] (zfa.sto a0) (.tup [.agg [.l zca.pc r.1.Fields,.l cU r.1.Body,.pv (.sl none [])],.bo r.2.1]) (zfa.sto r.2.2) 90007000 []:=by
 unfold qLa at hr;refine rfS (fn:=f51) (H:=90007999) (.ptr 90007000 0) ⟨func51,rfl,by kernel_rfl⟩ rfl (hasT rfl) (.inl ⟨rfl,rfl⟩) rfl rfl rfl rfl fun g0 hg S sg T=>?_
 refine clx 21 hr (z0a _) fun v1 _ hr=>?_
 refine clx 1 hr (kPa _) fun v3 _ hr=>?_
 refine clx 10 hr (v7a _ _ _) fun v5 _ hr=>?_
 refine rn tk 7 rfl<|wn tk rfl rfl rfl ?_;refine ax 3 36 hr (fun hr=>?_) fun hr=>?_
 .exact sxx 9 hr
 refine clx 5 hr (KSa _) fun v8 _ hr=>?_
 refine ax 14 44 hr (fun hr=>?_) fun hr=>?_
 .exact sxx 9 hr
 refine rn tk 13 rfl<|wn tk rfl rfl rfl ?_;refine aq1 4 hr [0,3,8,10,48,49] [90007999,90007000] (fun s11=>[(50,.i s11)]) (fun _=>[(10,.cells [.l zca.pc v8.1,.pv (.sl (some true) []),.pv (.sl (some true) [])]),(8,.cells [.pv (.sl (some true) []),.pv (.sl (some true) []),.pv (.sl (some true) [])])]) (.exit 0) [8,10] [90007999] (fun _=>[]) (fun b12=>(zfa.sto b12)++ [(10,.cells [.l zca.pc v8.1,.pv (.sl (some true) []),.pv (.sl (some true) [])]),(8,.cells [.pv (.sl (some true) []),.pv (.sl (some true) []),.pv (.sl (some true) [])])]) (fun s11 x13 hr=>?_) (fun b12 hr=>?_)
 .unfold vsa at hr;refine ax 6 51 hr (fun hr=>?_) fun hr=>?_
  .refine rn tk 6 rfl ?_;obtain ⟨v15,h16,hr⟩:=zaa hr;refine wi tk h16 rfl rfl rfl rfl rfl<|rn tk 10 rfl ?_;cases hr
  exact ox 2 hr
 exact sxx 10 hr
theorem yMa(a0:zfa)(a1:List UInt8)(a2:Int)(r:zka × Bool × zfa)(hr:qMa a0 a1 a2=some r):RunS prog 87 [.ptr 90007000 0,.l cU a1,.i a2] (zfa.sto a0) (.tup [.agg [.l zca.pc r.1.Fields,.l cU r.1.Body,.pv (.sl none [])],.bo r.2.1]) (zfa.sto r.2.2) 90007000 []:=by
 unfold qMa at hr;refine rfS (fn:=f87) (H:=90007999) (.ptr 90007000 0) ⟨func87,rfl,by kernel_rfl⟩ rfl (hasT rfl) (.inl ⟨rfl,rfl⟩) rfl rfl rfl rfl fun g0 hg S sg T=>?_
 refine clx 9 hr (ZRa _) fun v1 _ hr=>?_
 refine clx 14 hr (zha _) fun v3 _ hr=>?_
 refine ax 2 18 hr (fun hr=>?_) fun hr=>?_
 .refine clx 5 hr (zga _ _) fun v6 _ hr=>?_
  exact sxx 14 hr
 refine ax 12 30 hr (fun hr=>?_) fun hr=>?_
 .refine clx 3 hr (zga _ _) fun v9 _ hr=>?_
  exact sxx 14 hr
 refine rn tk 8 rfl ?_;obtain ⟨v11,h12,hr⟩:=zaa hr;refine wlL tk h12 rfl rfl rfl (fun _=>rfl) rfl ?_;refine csx 1 hr (yLa a0 v1.1 v11 a2) fun v13 _ hr=>?_
 exact sxx 7 hr
theorem yNa(a0:zfa)(a1:List zca)(a2:List UInt8)(a3:Int)(r:zka × Bool × zfa)(hr:qNa a0 a1 a2 a3=some r):RunS prog 51 [.ptr 90007000 0,.l zca.pc a1,.l cU a2,.i a3] (zfa.sto a0) (.tup [.agg [.l zca.pc r.1.Fields,.l cU r.1.Body,.l (zka.pcn 0) r.1.Parts],.bo r.2.1]) (zfa.sto r.2.2) 90007000 []:=by
 unfold qNa at hr;refine rfS (fn:=f51) (H:=90007999) (.ptr 90007000 0) ⟨func51,rfl,by kernel_rfl⟩ rfl (hasT rfl) (.inl ⟨rfl,rfl⟩) rfl rfl rfl rfl fun g0 hg S sg T=>?_
 refine clx 21 hr (z0a _) fun v1 _ hr=>?_
 refine clx 1 hr (kPa _) fun v3 _ hr=>?_
 refine rn tk 2 rfl ?_;refine zxa 1010 (o:=10) (j:=2) 42 3 rfl rfl rfl rfl (hO ?_);refine rn tk 1 rfl ?_;refine zxa 2010 (o:=10) (j:=2) 42 3 rfl rfl rfl rfl (hO ?_);refine clx 7 hr (v7a _ _ _) fun v5 _ hr=>?_
 refine rn tk 7 rfl<|wn tk rfl rfl rfl ?_;refine ax 3 36 hr (fun hr=>?_) fun hr=>?_
 .refine rn tk 7 rfl ?_;refine Qqa (o:=8) (j:=2) (F:=(zka.pcn 0)) (l:=(([]:List zka))) rfl rfl rfl (hC ?_);exact sxx 2 hr
 refine clx 5 hr (KSa _) fun v8 _ hr=>?_
 refine ax 14 44 hr (fun hr=>?_) fun hr=>?_
 .refine rn tk 7 rfl ?_;refine Qqa (o:=8) (j:=2) (F:=(zka.pcn 0)) (l:=(([]:List zka))) rfl rfl rfl (hC ?_);exact sxx 2 hr
 refine rn tk 7 rfl ?_;refine zxa 3010 (o:=10) (j:=2) 42 3 rfl rfl rfl rfl (hO ?_);refine rn tk 6 rfl<|wn tk rfl rfl rfl ?_;refine aq2 4 hr [0,3,8,10,48,49] [90007999] (fun s11=>[(50,.i s11.1)]) (fun s11=>(zfa.sto s11.2.1)++ [(3010,.row 42 false 3 (List.map (zka.pcn 0) s11.2.2)),(10,.cells [.l zca.pc v8.1,.pv (.sl (some true) []),.hs 3010 0]),(8,.cells [.pv (.sl (some true) []),.pv (.sl (some true) []),.pv (.sl (some true) [])])]) (.exit 0) [8,10] [90007999] (fun _=>[]) (fun b12=>(zfa.sto b12.1)++ [(3010,.row 42 false 3 (List.map (zka.pcn 0) b12.2)),(10,.cells [.l zca.pc v8.1,.pv (.sl (some true) []),.hs 3010 0]),(8,.cells [.pv (.sl (some true) []),.pv (.sl (some true) []),.pv (.sl (some true) [])])]) .ret [8,9] [90007999] (fun _=>[]) (fun b13=>(zfa.sto b13)++ [(8,.cells [.pv (.sl (some true) []),.pv (.sl (some true) []),.pv (.sl (some true) [])])]) (fun s11 x15 hr=>?_) (fun b12 hr=>?_) (fun b13 hr=>?_)
 .unfold vta at hr;refine ax 6 51 hr (fun hr=>?_) fun hr=>?_
  .refine rn tk 6 rfl ?_;obtain ⟨v17,h18,hr⟩:=zaa hr;refine wi tk h18 rfl rfl rfl rfl rfl ?_;refine csx 10 hr (yMa _ _ _) fun v19 _ hr=>?_
   refine ax 15 63 hr (fun hr=>?_) fun hr=>?_
   .exact ox 11 hr
   refine rn tk 6 rfl<|wz (zka.pcn 0) ([(zka.mk v19.1.Fields v19.1.Body ([]))]:List zka) tk rfl rfl (fun _=>rfl) rfl rfl rfl ?_;obtain ⟨v22,h23,hr⟩:=zaa hr;refine wa tk h23 rfl rfl rfl rfl (fun _=>rfl) rfl rfl ?_;exact cx 9 hr
  exact ox 2 hr
 .refine rn tk 9 rfl ?_;refine Qqa (o:=8) (j:=2) (F:=(zka.pcn 0)) (l:=b12.2) rfl rfl rfl (hC ?_);exact sxx 1 hr
 exact sxx 2 hr
theorem Q7a(a0:zda)(r:zka × zma)(hr:y3a a0=some r):Run prog 19 [.agg [.l zca.pc a0.Fields,.l cU a0.Body]] (.tup [.agg [.l zca.pc r.1.Fields,.l cU r.1.Body,.l (zka.pcn 0) r.1.Parts],.agg [.i r.2.Code,.i r.2.Index]]):=by
 unfold y3a at hr;refine rfx (fn:=f19) func19 fun g0 hg=>?_
 refine clx 11 hr (kka _) fun v1 _ hr=>?_
 refine clx 7 hr (zha _) fun v3 _ hr=>?_
 refine ax 2 12 hr (fun hr=>?_) fun hr=>?_
 .refine rn tk 1 rfl<|drX 2 3 3 3 [1] [(14,.agg [.i v1.Code,.i v1.Index]),(13,.agg [.pv (.sl (some true) []),.pv (.sl (some true) []),.pv (.sl (some true) [])])] [(2,.ptr 2 0),(3,.ptr 3 0),(14,.agg [.i v1.Code,.i v1.Index])] [(4,.cells [.i v1.Code,.i v1.Index]),(3,.cells [.i 0,.i 0]),(2,.cells [.pv (.sl (some true) []),.pv (.sl (some true) []),.pv (.sl (some true) [])]),(1,.cells [.l zca.pc a0.Fields,.l cU a0.Body])] tk mixed (by kernel_rfl) rfl rfl rfl (pqX tk rfl (.plain rfl) (pqX tk rfl (.plain rfl) .nil)) rfl rfl rfl rfl (by kernel_rfl) ?_;exact kx 5 hr
 refine rn tk 5 rfl<|wo (vOa (k:=16) 90007000 rfl rfl rfl rfl rfl) rfl ?_;refine csx 10 hr (yNa _ _ _ _) fun v6 _ hr=>?_
 refine ax 15 27 hr (fun hr=>?_) fun hr=>?_
 .refine rn tk 1 rfl<|drX 5 6 6 73 [1,2,3,4] [(32,.agg [.i v6.2.2.fault.Code,.i v6.2.2.fault.Index]),(31,.ptr 90007000 1),(30,.ptr 90007000 0),(29,.ptr 90007000 0),(28,.agg [.pv (.sl (some true) []),.pv (.sl (some true) []),.pv (.sl (some true) [])])] [(2,.ptr 2 0),(3,.ptr 3 0),(32,.agg [.i v6.2.2.fault.Code,.i v6.2.2.fault.Index])] [(6,.cells [.l zca.pc v6.1.Fields,.l cU v6.1.Body,.l (zka.pcn 0) v6.1.Parts]),(90007000,.cells [.i v6.2.2.many,.i v6.2.2.fault.Code,.i v6.2.2.fault.Index]),(4,.cells [.i v1.Code,.i v1.Index]),(3,.cells [.i 0,.i 0]),(2,.cells [.pv (.sl (some true) []),.pv (.sl (some true) []),.pv (.sl (some true) [])]),(1,.cells [.l zca.pc a0.Fields,.l cU a0.Body])] tk mixed (by kernel_rfl) rfl rfl rfl (pqX tk rfl (.plain rfl) (pqX tk rfl (.plain rfl) (pqX tk rfl (.plain rfl) (pqX tk rfl (.plain rfl) (pqX tk rfl (.plain rfl) .nil))))) rfl rfl rfl rfl (by kernel_rfl) ?_;exact kx 5 hr
 refine clx 6 hr (wVa _) fun v9 _ hr=>?_
 refine clx 7 hr (zha _) fun v11 _ hr=>?_
 refine ax 2 36 hr (fun hr=>?_) fun hr=>?_
 .refine clx 5 hr (zga _ _) fun v14 _ hr=>?_
  exact kx 6 hr
 refine rn tk 3 rfl ?_;obtain ⟨v16,h17,hr⟩:=zaa hr;refine drF 1 0 [(41,.agg [.l zca.pc v6.1.Fields,.l cU v6.1.Body,.l (zka.pcn 0) v6.1.Parts])] [(41,.any)] [(2,.ptr 2 0),(3,.ptr 3 0),(41,.agg [.l zca.pc v6.1.Fields,.l cU v6.1.Body,.l (zka.pcn 0) v6.1.Parts]),(42,.agg [.i v16.Code,.i v16.Index])] [(8,.cells [.i v9.Code,.i v9.Index]),(6,.cells [.l zca.pc v6.1.Fields,.l cU v6.1.Body,.l (zka.pcn 0) v6.1.Parts]),(90007000,.cells [.i v6.2.2.many,.i v6.2.2.fault.Code,.i v6.2.2.fault.Index]),(4,.cells [.i v1.Code,.i v1.Index]),(3,.cells [.i 0,.i 0]),(2,.cells [.pv (.sl (some true) []),.pv (.sl (some true) []),.pv (.sl (some true) [])]),(1,.cells [.l zca.pc a0.Fields,.l cU a0.Body])] mixed (by kernel_rfl) rfl rfl rfl rfl rfl (pqF tk rfl (.plain rfl) .nil) rfl rfl rfl rfl rfl (fun hJ=>?_) (fun hJ=>?_) ?_
 .refine cl (zna _ h17) rfl rfl ?_;exact hJ _ _ rfl rfl
 .refine cl (zna _ h17) rfl rfl<|rn tk 1 rfl ?_;exact hJ _ _ rfl rfl
 exact kx 5 hr
theorem ZSa(a0:zda)(r:(List zda) × Bool × zma)(hr:jQa a0=some r):Run prog 18 [.agg [.l zca.pc a0.Fields,.l cU a0.Body]] (.tup [.l zda.pc r.1,.bo r.2.1,.agg [.i r.2.2.Code,.i r.2.2.Index]]):=by
 unfold jQa at hr;refine rfx (fn:=f18) func18 fun g0 hg=>?_
 refine clx 12 hr (kka _) fun v1 _ hr=>?_
 refine clx 7 hr (zha _) fun v3 _ hr=>?_
 refine ax 2 17 hr (fun hr=>?_) fun hr=>?_
 .refine dq 1 3 [] [] .nil .nil ?_ mixed;exact kx 5 hr
 refine clx 5 hr (Q7a _) fun v6 _ hr=>?_
 refine rn tk 13 rfl<|wn tk rfl rfl rfl ?_;refine jq 4 hr [4,6] [6,4] (fun j8=>[(50,.bo j8)]) (fun _=>[]) (fun j8 hr=>?_) (fun j8 hr=>?_)
 .obtain ⟨v9,h10,hr⟩:=zaa hr;refine vDa v9 (fun c11=>?_) (fun c11=>?_)
  .replace hr:=VJa c11 hr
   refine dq 0 21 [(29,true)] [(1,.bo v9)] (.cons rfl c11 .nil) (.cons rfl rfl (zAa (zha v6.2 v9 h10) rfl) .nil) ?_ mixed;exact jx 4 hr
  replace hr:=VKa c11 hr
  refine vDa (decide ((v6.1.Parts.length:Int) < 1)) (fun c12=>?_) (fun c12=>?_)
  .replace hr:=VJa c12 hr
   refine dq 0 21 [(29,false),(33,true)] [(1,.bo v9)] (.cons rfl c11 (.cons rfl c12 .nil)) (.cons rfl rfl (zAa (zha v6.2 v9 h10) rfl) .nil) ?_ mixed;exact jx 4 hr
  replace hr:=VKa c12 hr
  refine vDa (decide (20 < (v6.1.Parts.length:Int))) (fun c13=>?_) (fun c13=>?_)
  .replace hr:=VJa c13 hr
   refine dq 0 21 [(29,false),(33,false),(37,true)] [(1,.bo v9)] (.cons rfl c11 (.cons rfl c12 (.cons rfl c13 .nil))) (.cons rfl rfl (zAa (zha v6.2 v9 h10) rfl) .nil) ?_ mixed;exact jx 4 hr
  replace hr:=VKa c13 hr
  obtain ⟨v14,h15,hr⟩:=zaa hr;refine vDa ((!v14)) (fun c16=>?_) (fun c16=>?_)
  .replace hr:=VJa c16 hr
   refine dq 0 21 [(29,false),(33,false),(37,false),(43,true)] [(1,.bo v9),(13,.bo v14)] (.cons rfl c11 (.cons rfl c12 (.cons rfl c13 (.cons rfl c16 .nil)))) (.cons rfl rfl (zAa (zha v6.2 v9 h10) rfl) (.cons rfl rfl (zAa (v8a v6.1.Fields (([67,111,110,116,101,110,116,45,84,121,112,101]:Str)) (([109,117,108,116,105,112,97,114,116,47,100,105,103,101,115,116]:Str)) v14 h15) rfl) .nil)) ?_ mixed;refine kn 43 c16 rfl ?_;exact jx 4 hr
  replace hr:=VKa c16 hr
  obtain ⟨v17,h18,hr⟩:=zaa hr;refine dq 0 21 [(29,false),(33,false),(37,false),(43,false)] [(1,.bo v9),(13,.bo v14),(20,.s v17)] (.cons rfl c11 (.cons rfl c12 (.cons rfl c13 (.cons rfl c16 .nil)))) (.cons rfl rfl (zAa (zha v6.2 v9 h10) rfl) (.cons rfl rfl (zAa (v8a v6.1.Fields (([67,111,110,116,101,110,116,45,84,121,112,101]:Str)) (([109,117,108,116,105,112,97,114,116,47,100,105,103,101,115,116]:Str)) v14 h15) rfl) (.cons rfl rfl (zAa (qEa ((v6.1.Parts.length:Int)) v17 h18) rfl) .nil))) ?_ mixed;refine kn 43 c16 rfl ?_;obtain ⟨v19,h20,hr⟩:=zaa hr;refine ug rfl rfl rfl<|cl (v8a _ _ _ _ h20) rfl rfl ?_;exact jx 3 hr
 refine ax 0 50 hr (fun hr=>?_) fun hr=>?_
 .refine clx 2 hr zna fun v22 _ hr=>?_
  exact kx 7 hr
 refine rn tk 5 rfl ?_;refine kwa 1009 (d:=9) 26 2 rfl rfl rfl (hO ?_);refine rn tk 7 rfl<|wn tk rfl rfl rfl ?_;refine aq2 4 hr [4,9,53,54] [4] (fun s24=>[(55,.i s24.1)]) (fun s24=>[(1009,.row 26 false 2 (List.map zda.pc s24.2))]) (.exit 0) [4,9] [4] (fun _=>[]) (fun b25=>[(1009,.row 26 false 2 (List.map zda.pc b25))]) .ret [4] [] (fun b26=>[(2,.l zda.pc b26.1),(3,.bo b26.2.1)]) (fun b26=>[(4,.cells [.i b26.2.2.Code,.i b26.2.2.Index])]) (fun s24 x28 hr=>?_) (fun b25 hr=>?_) (fun b26 hr=>?_)
 .unfold KQa at hr;refine ax 6 56 hr (fun hr=>?_) fun hr=>?_
  .refine rn tk 6 rfl ?_;obtain ⟨v30,h31,hr⟩:=zaa hr;refine wi tk h31 rfl rfl rfl rfl rfl ?_;refine clx 8 hr (Q6a _) fun v32 _ hr=>?_
   refine ax 15 65 hr (fun hr=>?_) fun hr=>?_
   .refine clx 2 hr zna fun v35 _ hr=>?_
    exact ox 9 hr
   refine rn tk 5 rfl<|wz zda.pc ([v32.1]:List zda) tk rfl rfl (fun _=>rfl) rfl rfl rfl ?_;obtain ⟨v37,h38,hr⟩:=zaa hr;refine wa tk h38 rfl rfl rfl rfl (fun _=>rfl) rfl rfl ?_;exact cx 8 hr
  exact ox 2 hr
 .refine clx 5 hr zna fun v39 _ hr=>?_
  refine rn tk 5 rfl ?_;refine qma (d:=2) (F:=zda.pc) (l:=b25) rfl rfl (hC ?_);exact kx 1 hr
 exact kx 2 hr
theorem KTa(r:Bool)(hr:jwa=some r):Run prog 12 [] (.bo r):=by
 unfold jwa at hr;refine rfx (fn:=f12) func12 fun g0 hg=>?_
 refine rn tk 8 rfl ?_;refine yPa rfl (Qra (F:=cU) (l:=([(97:UInt8)]:List UInt8)) zra zJa rfl (fun _=>rfl) rfl rfl) zra zJa (zMa rfl) (zMa rfl) rfl (hO ?_);refine rn tk 1 rfl<|wz zda.pc ([(zda.mk ([]) ([])),(zda.mk ([]) (([(97:UInt8)]:List UInt8)))]:List zda) tk rfl rfl (fun _=>rfl) rfl rfl rfl ?_;refine clx 0 hr (ZOa _ _ _) fun v1 _ hr=>?_
 refine clx 12 hr (ZSa _) fun v3 _ hr=>?_
 refine rn tk 15 rfl<|wz zda.pc ([(zda.mk ([]) ([])),(zda.mk ([]) ([])),(zda.mk ([]) ([]))]:List zda) tk rfl rfl (fun _=>rfl) rfl rfl rfl ?_;refine clx 0 hr (QVa _ _) fun v5 _ hr=>?_
 refine clx 11 hr (ZSa _) fun v7 _ hr=>?_
 refine jq 10 hr [] [] (fun j9=>[(0,.bo j9)]) (fun _=>[]) (fun j9 hr=>?_) (fun j9 hr=>?_)
 .refine bx 5 43 hr (fun c10 hr=>?_) fun c10 hr=>?_
  .refine bx 5 48 hr (fun c11 hr=>?_) fun c11 hr=>?_
   .refine bx 5 53 hr (fun c12 hr=>?_) fun c12 hr=>?_
    .refine bx 5 58 hr (fun c13 hr=>?_) fun c13 hr=>?_
     .refine bx 3 61 hr (fun c14 hr=>?_) fun c14 hr=>?_
      .refine bx 4 65 hr (fun c15 hr=>?_) fun c15 hr=>?_
       .refine rn tk 2 rfl<|ug rfl rfl rfl<|wn tk rfl rfl rfl ?_;refine bx 3 71 hr (fun c16 hr=>?_) fun c16 hr=>?_
        .refine rn tk 1 rfl<|ug rfl rfl rfl<|wn tk rfl rfl rfl ?_;refine bx 3 76 hr (fun c17 hr=>?_) fun c17 hr=>?_
         .refine rn tk 1 rfl ?_;obtain ⟨v18,h19,hr⟩:=zaa hr;refine ug rfl rfl rfl<|wi tk h19 rfl rfl rfl rfl rfl<|rn tk 2 rfl<|ug rfl rfl rfl<|wb tk rfl rfl rfl ?_;refine bx 3 84 hr (fun c20 hr=>?_) fun c20 hr=>?_
          .refine rn tk 1 rfl<|ug rfl rfl rfl<|wz cI ([2,1]:List Int) tk rfl rfl (fun _=>rfl) rfl rfl rfl ?_;obtain ⟨v21,h22,hr⟩:=zaa hr;refine ug rfl rfl rfl<|cl (vKb _ _ _ h22) rfl rfl ?_;exact jx 3 hr
          exact jx 6 hr
         exact jx 14 hr
        exact jx 19 hr
       exact jx 25 hr
      exact jx 29 hr
     exact jx 32 hr
    exact jx 37 hr
   exact jx 42 hr
  exact jx 47 hr
 exact kx 1 hr
theorem waa(a0:Int)(a1:Int)(r:zma)(hr:R_At a0 a1=some r):Run prog 9 [.i a0,.i a1] (.agg [.i r.Code,.i r.Index]):=by
 unfold R_At at hr;refine rfx (fn:=f9) func9 fun g0 hg=>?_
 exact kx 14 hr
theorem vxa(a0:Int)(a1:Int)(a2:Int)(r:Bool)(hr:R_In a0 a1 a2=some r):Run prog 20 [.i a0,.i a1,.i a2] (.bo r):=by
 unfold R_In at hr;refine rfx (fn:=f20) func20 fun g0 hg=>?_
 refine jq 5 hr [] [] (fun j1=>[(6,.bo j1)]) (fun _=>[]) (fun j1 hr=>?_) (fun j1 hr=>?_)
 .refine bx 5 10 hr (fun c2 hr=>?_) fun c2 hr=>?_
  .exact jx 6 hr
  exact jx 6 hr
 exact kx 1 hr
theorem wua(a0:UInt8)(r:Bool)(hr:vVa a0=some r):Run prog 54 [.u8 a0] (.bo r):=by
 unfold vVa at hr;refine rfx (fn:=f54) func54 fun g0 hg=>?_
 refine jq 5 hr [] [] (fun j1=>[(2,.bo j1)]) (fun _=>[]) (fun j1 hr=>?_) (fun j1 hr=>?_)
 .refine bx 4 5 hr (fun c2 hr=>?_) fun c2 hr=>?_
  .exact jx 5 hr
  exact jx 5 hr
 exact kx 1 hr
theorem j7a(a0:Str)(a1:Str)(r:List Str)(hr:vEa a0 a1=some r):Run prog 42 [.s a0,.s a1] (.l cS r):=by
 unfold vEa at hr;refine rfx (fn:=f42) func42 fun g0 hg=>?_
 refine rn tk 8 rfl ?_;obtain ⟨v1,h2,hr⟩:=zaa hr;refine wc h2 rfl rfl rfl<|rn tk 1 rfl ?_;obtain ⟨v3,h4,hr⟩:=zaa hr;refine wc h4 rfl rfl rfl<|rn tk 14 rfl ?_;refine kwa 1007 (d:=7) 9 1 rfl rfl rfl (hO ?_);refine aq1 4 hr [7] [] (fun s5=>[(5,.s s5.1),(6,.i s5.2.1)]) (fun s5=>[(1007,.row 9 false 1 (List.map cS s5.2.2))]) (.exit 0) [7] [] (fun b6=>[(5,.s b6.1)]) (fun b6=>[(1007,.row 9 false 1 (List.map cS b6.2))]) (fun s5 x7 hr=>?_) (fun b6 hr=>?_)
 .unfold qWa at hr;refine ax 8 20 hr (fun hr=>?_) fun hr=>?_
  .refine aq1 15 hr [5,6,7] [1007] (fun s9=>[(8,.i s9.1),(9,.i s9.2)]) (fun _=>[]) (.exit 2) [5,6,7] [1007] (fun b10=>[(8,.i b10)]) (fun _=>[]) (fun s9 x11 hr=>?_) (fun b10 hr=>?_)
   .unfold kva at hr;refine jq 1 hr [5,6,7,8,9] [1007] (fun j12=>[(26,.bo j12)]) (fun _=>[]) (fun j12 hr=>?_) (fun j12 hr=>?_)
    .refine bx 4 23 hr (fun c13 hr=>?_) fun c13 hr=>?_
     .exact jx 4 hr
     exact jx 4 hr
    refine ax 0 26 hr (fun hr=>?_) fun hr=>?_
    .refine jq 2 hr [5,6,7,9] [1007] (fun j15=>[(8,.i j15)]) (fun _=>[]) (fun j15 hr=>?_) (fun j15 hr=>?_)
     .refine jq 1 hr [5,6,7,8,9] [1007] (fun j16=>[(45,.bo j16)]) (fun _=>[]) (fun j16 hr=>?_) (fun j16 hr=>?_)
      .refine bx 5 32 hr (fun c17 hr=>?_) fun c17 hr=>?_
       .refine rn tk 2 rfl ?_;obtain ⟨v18,h19,hr⟩:=zaa hr;refine ug rfl rfl rfl<|ws tk h19 rfl rfl rfl rfl ?_;obtain ⟨v20,h21,hr⟩:=zaa hr;refine ug rfl rfl rfl<|cl (wua _ _ h21) rfl rfl ?_;refine bx 2 38 hr (fun c22 hr=>?_) fun c22 hr=>?_
        .refine rn tk 3 rfl ?_;obtain ⟨v23,h24,hr⟩:=zaa hr;refine ug rfl rfl rfl<|ws tk h24 rfl rfl rfl rfl ?_;obtain ⟨v25,h26,hr⟩:=zaa hr;refine ug rfl rfl rfl<|cl (wua _ _ h26) rfl rfl ?_;exact jx 3 hr
        exact jx 8 hr
       exact jx 14 hr
      refine ax 0 45 hr (fun hr=>?_) fun hr=>?_
      .exact jx 5 hr
      exact jx 2 hr
     exact cx 5 hr
    exact ox 2 hr
   refine aq1 9 hr [5,6,7] [1007] (fun s28=>[(8,.i s28.1),(10,.i s28.2)]) (fun _=>[]) (.exit 4) [5,7] [1007] (fun b29=>[(8,.i b29)]) (fun _=>[]) (fun s28 x30 hr=>?_) (fun b29 hr=>?_)
   .unfold kea at hr;refine jq 1 hr [5,6,7,8,10] [1007] (fun j31=>[(54,.bo j31)]) (fun _=>[]) (fun j31 hr=>?_) (fun j31 hr=>?_)
    .refine bx 6 51 hr (fun c32 hr=>?_) fun c32 hr=>?_
     .exact jx 4 hr
     exact jx 4 hr
    refine ax 0 54 hr (fun hr=>?_) fun hr=>?_
    .refine jq 2 hr [5,6,7,10] [1007] (fun j34=>[(8,.i j34)]) (fun _=>[]) (fun j34 hr=>?_) (fun j34 hr=>?_)
     .refine jq 1 hr [5,6,7,8,10] [1007] (fun j35=>[(73,.bo j35)]) (fun _=>[]) (fun j35 hr=>?_) (fun j35 hr=>?_)
      .refine bx 5 60 hr (fun c36 hr=>?_) fun c36 hr=>?_
       .refine rn tk 2 rfl ?_;obtain ⟨v37,h38,hr⟩:=zaa hr;refine ug rfl rfl rfl<|ws tk h38 rfl rfl rfl rfl ?_;obtain ⟨v39,h40,hr⟩:=zaa hr;refine ug rfl rfl rfl<|cl (wua _ _ h40) rfl rfl ?_;refine bx 2 66 hr (fun c41 hr=>?_) fun c41 hr=>?_
        .refine rn tk 3 rfl ?_;obtain ⟨v42,h43,hr⟩:=zaa hr;refine ug rfl rfl rfl<|ws tk h43 rfl rfl rfl rfl ?_;obtain ⟨v44,h45,hr⟩:=zaa hr;refine ug rfl rfl rfl<|cl (wua _ _ h45) rfl rfl ?_;exact jx 3 hr
        exact jx 8 hr
       exact jx 14 hr
      refine ax 0 73 hr (fun hr=>?_) fun hr=>?_
      .exact jx 5 hr
      exact jx 2 hr
     exact cx 5 hr
    exact ox 2 hr
   refine ax 9 76 hr (fun hr=>?_) fun hr=>?_
   .exact ox 3 hr
   refine rn tk 7 rfl ?_;obtain ⟨v48,h49,hr⟩:=zaa hr;refine wscH tk h49 rfl rfl rfl rfl<|wz cS ([v48]:List Str) tk rfl rfl (fun _=>rfl) rfl rfl rfl ?_;obtain ⟨v50,h51,hr⟩:=zaa hr;refine wa tk h51 rfl rfl rfl rfl (fun _=>rfl) rfl rfl<|rn tk 7 rfl ?_;obtain ⟨v52,h53,hr⟩:=zaa hr;refine wscL tk h53 rfl rfl rfl rfl ?_;exact cx 7 hr
  exact ox 2 hr
 refine rn tk 6 rfl<|wz cS ([b6.1]:List Str) tk rfl rfl (fun _=>rfl) rfl rfl rfl ?_;obtain ⟨v54,h55,hr⟩:=zaa hr;refine wa tk h55 rfl rfl rfl rfl (fun _=>rfl) rfl rfl<|rn tk 3 rfl ?_;refine qma (d:=4) (F:=cS) (l:=v54) rfl rfl (hC ?_);exact kx 1 hr
theorem Yga(a0:zca)(r:Int)(hr:yma a0=some r):Run prog 48 [.agg [.s a0.Name,.s a0.Value]] (.i r):=by
 unfold yma at hr;refine rfx (fn:=f48) func48 fun g0 hg=>?_
 refine aq2 13 hr [1] [1] (fun s1=>[(3,.i s1)]) (fun _=>[]) (.exit 0) [1] [1] (fun _=>[]) (fun _=>[]) .ret [] [] (fun b3=>[(2,.i b3)]) (fun _=>[]) (fun s1 x5 hr=>?_) (fun b2 hr=>?_) (fun b3 hr=>?_)
 .unfold vja at hr;refine ax 10 12 hr (fun hr=>?_) fun hr=>?_
  .refine jq 4 hr [1,3] [1] (fun j7=>[(28,.bo j7)]) (fun _=>[]) (fun j7 hr=>?_) (fun j7 hr=>?_)
   .refine rn tk 4 rfl ?_;obtain ⟨v8,h9,hr⟩:=zaa hr;refine ws tk h9 rfl rfl rfl rfl<|wu tk rfl rfl rfl ?_;refine clx 0 hr (vxa _ _ _) fun v10 _ hr=>?_
    refine bx 2 22 hr (fun c12 hr=>?_) fun c12 hr=>?_
    .exact jx 7 hr
    refine rn tk 3 rfl ?_;obtain ⟨v13,h14,hr⟩:=zaa hr;refine ug rfl rfl rfl<|ws tk h14 rfl rfl rfl rfl ?_;exact jx 3 hr
   refine ax 0 28 hr (fun hr=>?_) fun hr=>?_
   .exact ox 8 hr
   exact cx 8 hr
  exact ox 2 hr
 .refine clx 8 hr (vxa _ _ _) fun v16 _ hr=>?_
  refine ax 3 33 hr (fun hr=>?_) fun hr=>?_
  .exact kx 7 hr
  refine ax 11 37 hr (fun hr=>?_) fun hr=>?_
  .exact kx 7 hr
  refine aq2 17 hr [1,4] [1] (fun s20=>[(5,.i s20)]) (fun _=>[]) (.exit 2) [1,4] [1] (fun _=>[]) (fun _=>[]) .ret [] [] (fun b22=>[(2,.i b22)]) (fun _=>[]) (fun s20 x24 hr=>?_) (fun b21 hr=>?_) (fun b22 hr=>?_)
  .unfold vka at hr;refine ax 8 43 hr (fun hr=>?_) fun hr=>?_
   .refine jq 4 hr [1,4,5] [1] (fun j26=>[(64,.bo j26)]) (fun _=>[]) (fun j26 hr=>?_) (fun j26 hr=>?_)
    .refine rn tk 4 rfl ?_;obtain ⟨v27,h28,hr⟩:=zaa hr;refine ws tk h28 rfl rfl rfl rfl ?_;refine bx 2 51 hr (fun c29 hr=>?_) fun c29 hr=>?_
     .exact jx 14 hr
     refine rn tk 3 rfl ?_;obtain ⟨v30,h31,hr⟩:=zaa hr;refine ug rfl rfl rfl<|ws tk h31 rfl rfl rfl rfl ?_;refine bx 3 58 hr (fun c32 hr=>?_) fun c32 hr=>?_
     .exact jx 7 hr
     refine rn tk 3 rfl ?_;obtain ⟨v33,h34,hr⟩:=zaa hr;refine ug rfl rfl rfl<|ws tk h34 rfl rfl rfl rfl ?_;exact jx 3 hr
    refine ax 0 64 hr (fun hr=>?_) fun hr=>?_
    .exact ox 8 hr
    exact cx 8 hr
   exact ox 2 hr
  .refine jq 3 hr [1] [1] (fun j36=>[(80,.bo j36)]) (fun _=>[]) (fun j36 hr=>?_) (fun j36 hr=>?_)
   .refine bx 4 67 hr (fun c37 hr=>?_) fun c37 hr=>?_
    .refine rn tk 2 rfl ?_;obtain ⟨v38,h39,hr⟩:=zaa hr;refine ug rfl rfl rfl<|ws tk h39 rfl rfl rfl rfl ?_;obtain ⟨v40,h41,hr⟩:=zaa hr;refine ug rfl rfl rfl<|cl (wua _ _ h41) rfl rfl ?_;refine bx 1 72 hr (fun c42 hr=>?_) fun c42 hr=>?_
     .exact jx 9 hr
     refine rn tk 4 rfl ?_;obtain ⟨v43,h44,hr⟩:=zaa hr;refine ug rfl rfl rfl<|ws tk h44 rfl rfl rfl rfl ?_;obtain ⟨v45,h46,hr⟩:=zaa hr;refine ug rfl rfl rfl<|cl (wua _ _ h46) rfl rfl ?_;exact jx 3 hr
    exact jx 14 hr
   refine ax 0 80 hr (fun hr=>?_) fun hr=>?_
   .exact kx 7 hr
   refine clx 8 hr (j7a _ _) fun v48 _ hr=>?_
   refine aq2 10 hr [6] [] (fun s50=>[(7,.i s50)]) (fun _=>[]) (.exit 4) [] [] (fun _=>[]) (fun _=>[]) .ret [] [] (fun b52=>[(2,.i b52)]) (fun _=>[]) (fun s50 x54 hr=>?_) (fun b51 hr=>?_) (fun b52 hr=>?_)
   .unfold vla at hr;refine rn tk 5 rfl<|wn tk rfl rfl rfl ?_;refine ax 3 89 hr (fun hr=>?_) fun hr=>?_
    .refine rn tk 8 rfl ?_;obtain ⟨v56,h57,hr⟩:=zaa hr;refine wi tk h57 rfl rfl rfl rfl rfl ?_;refine ax 5 97 hr (fun hr=>?_) fun hr=>?_
     .exact ox 8 hr
     exact cx 8 hr
    exact ox 2 hr
   .exact kx 8 hr
   exact kx 2 hr
  exact kx 2 hr
 exact kx 2 hr
theorem yVa(a0:zda)(r:List UInt8)(hr:k1a a0=some r):Run prog 14 [.agg [.l zca.pc a0.Fields,.l cU a0.Body]] (.l cU r):=by
 unfold k1a at hr;refine rfx (fn:=f14) func14 fun g0 hg=>?_
 refine rn tk 9 rfl ?_;refine kwa 1003 (d:=3) 5 1 rfl rfl rfl (hO ?_);refine aq1 9 hr [1,3] [1] (fun s1=>[(4,.i s1.1)]) (fun s1=>[(1003,.row 5 false 1 (List.map cU s1.2))]) (.exit 0) [1,3] [1] (fun _=>[]) (fun b2=>[(1003,.row 5 false 1 (List.map cU b2))]) (fun s1 x3 hr=>?_) (fun b2 hr=>?_)
 .unfold qea at hr;refine rn tk 6 rfl<|wn tk rfl rfl rfl ?_;refine ax 3 11 hr (fun hr=>?_) fun hr=>?_
  .refine rn tk 5 rfl ?_;obtain ⟨v5,h6,hr⟩:=zaa hr;obtain ⟨v7,h8,hr⟩:=zaa hr;obtain ⟨v9,h10,hr⟩:=zaa hr;refine mdq 0 [(3,.ep [pS v5.Name,pS v5.Value]),(9,.ep [pS v7.Name,pS v7.Value]),(12,.l cS v9)] [1,3,4,5] (.cons rfl rfl (t0 (kaa (Kwa (f:=zca.pc) rfl rfl zIa kma rfl h6))) (.cons rfl rfl (t0 (kaa (Kwa (f:=zca.pc) rfl rfl zIa kma rfl h8))) (.cons rfl rfl (t0 (zAa (j7a v5.Name v7.Value v9 h10) rfl)) .nil))) ?_ mixed;refine aq1 7 hr [1,3,4,5] [1] (fun s11=>[(6,.i s11.1)]) (fun s11=>[(1003,.row 5 false 1 (List.map cU s11.2))]) (.exit 2) [1,3,4] [1] (fun _=>[]) (fun b12=>[(1003,.row 5 false 1 (List.map cU b12))]) (fun s11 x13 hr=>?_) (fun b12 hr=>?_)
   .unfold qda at hr;refine rn tk 5 rfl<|wn tk rfl rfl rfl ?_;refine ax 3 30 hr (fun hr=>?_) fun hr=>?_
    .refine rn tk 9 rfl ?_;obtain ⟨v15,h16,hr⟩:=zaa hr;refine wi tk h16 rfl rfl rfl rfl rfl<|rn tk 1 rfl ?_;obtain ⟨v17,h18,hr⟩:=zaa hr;refine wo (wAa (k:=38) (l:=s11.2) (s:=v15) (lim:=140737488355328) rfl rfl rfl rfl zra zya.u zJa rfl h18) rfl<|rn tk 5 rfl<|wz cU ([(13:UInt8),(10:UInt8)]:List UInt8) tk rfl rfl (fun _=>rfl) rfl rfl rfl ?_;obtain ⟨v19,h20,hr⟩:=zaa hr;refine wa tk h20 rfl rfl rfl rfl (fun _=>rfl) rfl rfl ?_;exact cx 9 hr
    exact ox 2 hr
   exact cx 8 hr
  exact ox 2 hr
 refine rn tk 5 rfl<|wz cU ([(13:UInt8),(10:UInt8)]:List UInt8) tk rfl rfl (fun _=>rfl) rfl rfl rfl ?_;obtain ⟨v21,h22,hr⟩:=zaa hr;refine wa tk h22 rfl rfl rfl rfl (fun _=>rfl) rfl rfl<|rn tk 8 rfl ?_;obtain ⟨v23,h24,hr⟩:=zaa hr;refine wa tk h24 rfl rfl rfl rfl (fun _=>rfl) rfl rfl<|rn tk 3 rfl ?_;refine qma (d:=2) (F:=cU) (l:=v23) rfl rfl (hC ?_);exact kx 1 hr
theorem yWa(a0:zda)(r:zma)(hr:qGa a0=some r):Run prog 17 [.agg [.l zca.pc a0.Fields,.l cU a0.Body]] (.agg [.i r.Code,.i r.Index]):=by
 unfold qGa at hr;refine rfx (fn:=f17) func17 fun g0 hg=>?_
 refine rn tk 11 rfl<|wn tk rfl rfl rfl ?_;refine ax 3 11 hr (fun hr=>?_) fun hr=>?_
 .refine clx 2 hr (waa _ _) fun v2 _ hr=>?_
  exact kx 5 hr
 refine aq2 9 hr [1,2] [2,1] (fun s4=>[(3,.i s4)]) (fun _=>[]) (.exit 0) [1,2] [2,1] (fun _=>[]) (fun _=>[]) .ret [2] [] (fun _=>[]) (fun b6=>[(2,.cells [.i b6.Code,.i b6.Index])]) (fun s4 x8 hr=>?_) (fun b5 hr=>?_) (fun b6 hr=>?_)
 .unfold q7a at hr;refine rn tk 6 rfl<|wn tk rfl rfl rfl ?_;refine ax 3 17 hr (fun hr=>?_) fun hr=>?_
  .refine rn tk 9 rfl ?_;obtain ⟨v10,h11,hr⟩:=zaa hr;refine wi tk h11 rfl rfl rfl rfl rfl ?_;refine clx 1 hr (Yga _) fun v12 _ hr=>?_
   refine ax 9 27 hr (fun hr=>?_) fun hr=>?_
   .refine clx 4 hr (waa _ _) fun v15 _ hr=>?_
    exact ox 6 hr
   exact cx 8 hr
  exact ox 2 hr
 .refine jq 3 hr [1,2] [2,1] (fun j17=>[(40,.bo j17)]) (fun _=>[]) (fun j17 hr=>?_) (fun j17 hr=>?_)
  .refine rn tk 3 rfl<|wn tk rfl rfl rfl ?_;refine bx 2 35 hr (fun c18 hr=>?_) fun c18 hr=>?_
   .exact jx 6 hr
   refine rn tk 1 rfl ?_;obtain ⟨v19,h20,hr⟩:=zaa hr;refine ug rfl rfl rfl<|cl (yVa _ _ h20) rfl rfl<|ug rfl rfl rfl<|wn tk rfl rfl rfl ?_;exact jx 3 hr
  refine ax 0 40 hr (fun hr=>?_) fun hr=>?_
  .refine clx 2 hr (waa _ _) fun v22 _ hr=>?_
   exact kx 5 hr
  refine aq2 14 hr [1,2] [2,1] (fun s24=>[(5,.i s24.1),(6,.i s24.2)]) (fun _=>[]) (.exit 2) [2] [2] (fun _=>[]) (fun _=>[]) .ret [2] [] (fun _=>[]) (fun b26=>[(2,.cells [.i b26.Code,.i b26.Index])]) (fun s24 x28 hr=>?_) (fun b25 hr=>?_) (fun b26 hr=>?_)
  .unfold kIa at hr;refine rn tk 6 rfl<|wn tk rfl rfl rfl ?_;refine ax 3 46 hr (fun hr=>?_) fun hr=>?_
   .refine jkq 2 [1,2] [2,1] (fun j30=>[(5,.i j30.1),(6,.i j30.2)]) (fun _=>[]) (fun j30=>qfa j30=some x28) ?_ ?_
    .refine rn tk 6 rfl ?_;obtain ⟨v31,h32,hr⟩:=zaa hr;refine wi tk h32 rfl rfl rfl rfl rfl ?_;refine jq 5 hr [1,2,5,6,7] [2,1] (fun j33=>[(72,.bo j33)]) (fun _=>[]) (fun j33 hr=>?_) (fun j33 hr=>?_)
     .refine bx 4 56 hr (fun c34 hr=>?_) fun c34 hr=>?_
      .refine rn tk 4 rfl<|ug rfl rfl rfl<|wn tk rfl rfl rfl ?_;refine bx 3 64 hr (fun c35 hr=>?_) fun c35 hr=>?_
       .refine rn tk 4 rfl ?_;obtain ⟨v36,h37,hr⟩:=zaa hr;refine ug rfl rfl rfl<|wi tk h37 rfl rfl rfl rfl rfl ?_;exact jx 4 hr
       exact jx 9 hr
      exact jx 17 hr
     refine ax 0 72 hr (fun hr=>?_) fun hr=>?_
     .refine rn tk 15 rfl<|jn ((0,(w64 (s24.2+1)))) hr rfl rfl
     refine jq 3 hr [1,2,5,6] [2,1] (fun j39=>[(80,.bo j39)]) (fun _=>[]) (fun j39 hr=>?_) (fun j39 hr=>?_)
     .refine bx 4 77 hr (fun c40 hr=>?_) fun c40 hr=>?_
      .exact jx 4 hr
      exact jx 4 hr
     refine ax 0 80 hr (fun hr=>?_) fun hr=>?_
     .refine clx 2 hr (waa _ _) fun v42 _ hr=>?_
      exact ox 7 hr
     refine ax 15 85 hr (fun hr=>?_) fun hr=>?_
     .refine clx 2 hr (waa _ _) fun v45 _ hr=>?_
      exact ox 6 hr
     refine rn tk 2 rfl<|jn (((w64 (s24.1+1)),s24.2)) hr rfl rfl
    intro j30 hr;unfold qfa at hr;exact cx 5 hr
   exact ox 2 hr
  .exact kx 9 hr
  exact kx 2 hr
 exact kx 2 hr
theorem Kva(a0:List zda)(r:zma)(hr:qDa a0=some r):Run prog 10 [.l zda.pc a0] (.agg [.i r.Code,.i r.Index]):=by
 unfold qDa at hr;refine rfx (fn:=f10) func10 fun g0 hg=>?_
 refine rn tk 9 rfl<|wn tk rfl rfl rfl ?_;refine clx 0 hr (vxa _ _ _) fun v1 _ hr=>?_
 refine ax 3 7 hr (fun hr=>?_) fun hr=>?_
 .refine clx 2 hr (waa _ _) fun v4 _ hr=>?_
  exact kx 5 hr
 refine aq2 9 hr [0,2] [2] (fun s6=>[(3,.i s6)]) (fun _=>[]) (.exit 0) [2] [2] (fun _=>[]) (fun _=>[]) .ret [2] [] (fun _=>[]) (fun b8=>[(2,.cells [.i b8.Code,.i b8.Index])]) (fun s6 x10 hr=>?_) (fun b7 hr=>?_) (fun b8 hr=>?_)
 .unfold qva at hr;refine rn tk 5 rfl<|wn tk rfl rfl rfl ?_;refine ax 3 12 hr (fun hr=>?_) fun hr=>?_
  .refine rn tk 8 rfl ?_;obtain ⟨v12,h13,hr⟩:=zaa hr;refine wi tk h13 rfl rfl rfl rfl rfl ?_;refine clx 1 hr (yWa _) fun v14 _ hr=>?_
   refine ax 4 21 hr (fun hr=>?_) fun hr=>?_
   .refine rn tk 4 rfl ?_;obtain ⟨v17,h18,hr⟩:=zaa hr;refine wi tk h18 rfl rfl rfl rfl rfl ?_;refine clx 1 hr (yWa _) fun v19 _ hr=>?_
    refine clx 2 hr (waa _ _) fun v21 _ hr=>?_
    exact ox 6 hr
   exact cx 8 hr
  exact ox 2 hr
 .exact kx 9 hr
 exact kx 2 hr
theorem YBa(a0:Str)(r:Bool)(hr:jha a0=some r):Run prog 38 [.s a0] (.bo r):=by
 unfold jha at hr;refine rfx (fn:=f38) func38 fun g0 hg=>?_
 refine aq2 12 hr [0] [] (fun s1=>[(3,.i s1)]) (fun _=>[]) (.exit 0) [0] [] (fun _=>[]) (fun _=>[]) .ret [] [] (fun b3=>[(2,.bo b3)]) (fun _=>[]) (fun s1 x5 hr=>?_) (fun b2 hr=>?_) (fun b3 hr=>?_)
 .unfold qpa at hr;refine ax 9 8 hr (fun hr=>?_) fun hr=>?_
  .refine rn tk 8 rfl ?_;obtain ⟨v7,h8,hr⟩:=zaa hr;refine ws tk h8 rfl rfl rfl rfl<|wu tk rfl rfl rfl ?_;refine jq 4 hr [0,3,4] [] (fun j9=>[(36,.bo j9)]) (fun _=>[]) (fun j9 hr=>?_) (fun j9 hr=>?_)
   .refine rn tk 3 rfl ?_;obtain ⟨v10,h11,hr⟩:=zaa hr;refine ws tk h11 rfl rfl rfl rfl ?_;refine bx 2 19 hr (fun c12 hr=>?_) fun c12 hr=>?_
    .refine bx 3 22 hr (fun c13 hr=>?_) fun c13 hr=>?_
     .exact jx 15 hr
     refine bx 7 29 hr (fun c14 hr=>?_) fun c14 hr=>?_
     .exact jx 8 hr
     refine rn tk 3 rfl ?_;obtain ⟨v15,h16,hr⟩:=zaa hr;refine ug rfl rfl rfl<|ws tk h16 rfl rfl rfl rfl ?_;exact jx 4 hr
    exact jx 18 hr
   refine ax 0 36 hr (fun hr=>?_) fun hr=>?_
   .exact ox 9 hr
   refine jq 2 hr [0,3] [] (fun j18=>[(56,.bo j18)]) (fun _=>[]) (fun j18 hr=>?_) (fun j18 hr=>?_)
   .refine clx 2 hr (vxa _ _ _) fun v19 _ hr=>?_
    refine bx 2 40 hr (fun c21 hr=>?_) fun c21 hr=>?_
    .refine rn tk 1 rfl ?_;obtain ⟨v22,h23,hr⟩:=zaa hr;refine ug rfl rfl rfl<|cl (vxa _ _ _ _ h23) rfl rfl ?_;refine bx 3 45 hr (fun c24 hr=>?_) fun c24 hr=>?_
     .refine rn tk 2 rfl ?_;obtain ⟨v25,h26,hr⟩:=zaa hr;refine ug rfl rfl rfl<|ws tk h26 rfl rfl rfl rfl ?_;refine bx 3 51 hr (fun c27 hr=>?_) fun c27 hr=>?_
      .refine rn tk 2 rfl ?_;obtain ⟨v28,h29,hr⟩:=zaa hr;refine ug rfl rfl rfl<|ws tk h29 rfl rfl rfl rfl ?_;exact jx 3 hr
      exact jx 6 hr
     exact jx 12 hr
    exact jx 17 hr
   refine ax 0 56 hr (fun hr=>?_) fun hr=>?_
   .exact ox 8 hr
   exact cx 8 hr
  exact ox 2 hr
 .refine clx 6 hr (vxa _ _ _) fun v31 _ hr=>?_
  exact kx 4 hr
 exact kx 2 hr
theorem Qga(a0:UInt8)(r:Bool)(hr:qTa a0=some r):Run prog 37 [.u8 a0] (.bo r):=by
 unfold qTa at hr;refine rfx (fn:=f37) func37 fun g0 hg=>?_
 refine rn tk 8 rfl<|wu tk rfl rfl rfl ?_;refine jq 3 hr [] [] (fun j1=>[(2,.bo j1)]) (fun _=>[]) (fun j1 hr=>?_) (fun j1 hr=>?_)
 .refine clx 2 hr (vxa _ _ _) fun v2 _ hr=>?_
  refine bx 1 8 hr (fun c4 hr=>?_) fun c4 hr=>?_
  .exact jx 9 hr
  refine rn tk 1 rfl ?_;obtain ⟨v5,h6,hr⟩:=zaa hr;refine ug rfl rfl rfl<|cl (vxa _ _ _ _ h6) rfl rfl ?_;refine bx 2 12 hr (fun c7 hr=>?_) fun c7 hr=>?_
  .exact jx 5 hr
  refine rn tk 1 rfl ?_;obtain ⟨v8,h9,hr⟩:=zaa hr;refine ug rfl rfl rfl<|cl (vxa _ _ _ _ h9) rfl rfl ?_;exact jx 3 hr
 exact kx 1 hr
theorem vUb(a0:Str)(r:Int)(hr:zEb a0=some r):Run prog 36 [.s a0] (.i r):=by
 unfold zEb at hr;refine rfx (fn:=f36) func36 fun g0 hg=>?_
 refine aq2 12 hr [0] [] (fun s1=>[(3,.i s1)]) (fun _=>[]) (.exit 0) [0] [] (fun _=>[]) (fun _=>[]) .ret [] [] (fun b3=>[(2,.i b3)]) (fun _=>[]) (fun s1 x5 hr=>?_) (fun b2 hr=>?_) (fun b3 hr=>?_)
 .unfold QCa at hr;refine ax 9 7 hr (fun hr=>?_) fun hr=>?_
  .refine rn tk 8 rfl ?_;obtain ⟨v7,h8,hr⟩:=zaa hr;refine ws tk h8 rfl rfl rfl rfl ?_;refine ax 3 13 hr (fun hr=>?_) fun hr=>?_
   .exact ox 9 hr
   exact cx 8 hr
  exact ox 2 hr
 .exact kx 10 hr
 exact kx 2 hr
theorem Yha(a0:Str)(r:Bool)(hr:yla a0=some r):Run prog 8 [.s a0] (.bo r):=by
 unfold yla at hr;refine rfx (fn:=f8) func8 fun g0 hg=>?_
 refine clx 8 hr (vUb _) fun v1 _ hr=>?_
 refine aq2 10 hr [0,3] [] (fun s3=>[(4,.i s3)]) (fun _=>[]) (.exit 0) [0,3] [] (fun _=>[]) (fun _=>[]) .ret [] [] (fun b5=>[(2,.bo b5)]) (fun _=>[]) (fun s3 x7 hr=>?_) (fun b4 hr=>?_) (fun b5 hr=>?_)
 .unfold vha at hr;refine ax 8 10 hr (fun hr=>?_) fun hr=>?_
  .refine rn tk 8 rfl ?_;obtain ⟨v9,h10,hr⟩:=zaa hr;refine ws tk h10 rfl rfl rfl rfl ?_;refine jq 3 hr [0,3,4] [] (fun j11=>[(38,.bo j11)]) (fun _=>[]) (fun j11 hr=>?_) (fun j11 hr=>?_)
   .refine clx 2 hr (Qga _) fun v12 _ hr=>?_
    refine bx 2 19 hr (fun c14 hr=>?_) fun c14 hr=>?_
    .refine bx 4 23 hr (fun c15 hr=>?_) fun c15 hr=>?_
     .refine bx 4 27 hr (fun c16 hr=>?_) fun c16 hr=>?_
      .refine bx 4 31 hr (fun c17 hr=>?_) fun c17 hr=>?_
       .refine bx 4 35 hr (fun c18 hr=>?_) fun c18 hr=>?_
        .exact jx 4 hr
        exact jx 4 hr
       exact jx 8 hr
      exact jx 12 hr
     exact jx 16 hr
    exact jx 20 hr
   refine ax 0 38 hr (fun hr=>?_) fun hr=>?_
   .exact ox 8 hr
   exact cx 8 hr
  exact ox 2 hr
 .refine jq 2 hr [] [] (fun j20=>[(2,.bo j20)]) (fun _=>[]) (fun j20 hr=>?_) (fun j20 hr=>?_)
  .refine clx 2 hr (vxa _ _ _) fun v21 _ hr=>?_
   refine bx 1 41 hr (fun c23 hr=>?_) fun c23 hr=>?_
   .refine bx 6 47 hr (fun c24 hr=>?_) fun c24 hr=>?_
    .refine rn tk 3 rfl ?_;obtain ⟨v25,h26,hr⟩:=zaa hr;refine ug rfl rfl rfl<|wscL tk h26 rfl rfl rfl rfl ?_;obtain ⟨v27,h28,hr⟩:=zaa hr;refine ug rfl rfl rfl<|cl (YBa _ _ h28) rfl rfl ?_;exact jx 3 hr
    exact jx 8 hr
   exact jx 14 hr
  exact kx 1 hr
 exact kx 2 hr
private theorem ZTa(a0:Int)(r:Str)(hr:yna a0=some r):Run prog 13 [.i a0] (.s r):=by
 unfold yna at hr;refine rfx (fn:=f13) func13 fun g0 hg=>?_
 refine ax 12 4 hr (fun hr=>?_) fun hr=>?_
 .refine rn tk 5 rfl ?_;obtain ⟨v2,h3,hr⟩:=zaa hr;refine Vga tk h3 rfl rfl rfl rfl rfl ?_;exact kx 5 hr
 refine rn tk 5 rfl<|wq (kGa rfl rfl rfl) rfl rfl rfl ?_;cases hr
private theorem ZUa(a0:Int)(r:Str)(hr:yoa a0=some r):Run prog 13 [.i a0] (.s r):=by
 unfold yoa at hr;refine rfx (fn:=f13) func13 fun g0 hg=>?_
 refine ax 12 4 hr (fun hr=>?_) fun hr=>?_
 .refine rn tk 5 rfl ?_;obtain ⟨v2,h3,hr⟩:=zaa hr;refine Vga tk h3 rfl rfl rfl rfl rfl ?_;exact kx 5 hr
 refine rn tk 5 rfl<|wq (kGa rfl rfl rfl) rfl rfl rfl ?_;refine clx 0 hr (ZTa _) fun v4 _ hr=>?_
 refine rn tk 1 rfl<|wq (koa rfl rfl rfl) rfl rfl rfl ?_;refine clx 0 hr (ZTa _) fun v6 _ hr=>?_
 obtain ⟨v8,h9,hr⟩:=zaa hr;refine wc h9 rfl rfl rfl ?_;exact kx 4 hr
private theorem ZVa(a0:Int)(r:Str)(hr:ypa a0=some r):Run prog 13 [.i a0] (.s r):=by
 unfold ypa at hr;refine rfx (fn:=f13) func13 fun g0 hg=>?_
 refine ax 12 4 hr (fun hr=>?_) fun hr=>?_
 .refine rn tk 5 rfl ?_;obtain ⟨v2,h3,hr⟩:=zaa hr;refine Vga tk h3 rfl rfl rfl rfl rfl ?_;exact kx 5 hr
 refine rn tk 5 rfl<|wq (kGa rfl rfl rfl) rfl rfl rfl ?_;refine clx 0 hr (ZUa _) fun v4 _ hr=>?_
 refine rn tk 1 rfl<|wq (koa rfl rfl rfl) rfl rfl rfl ?_;refine clx 0 hr (ZUa _) fun v6 _ hr=>?_
 obtain ⟨v8,h9,hr⟩:=zaa hr;refine wc h9 rfl rfl rfl ?_;exact kx 4 hr
private theorem ZWa(a0:Int)(r:Str)(hr:yqa a0=some r):Run prog 13 [.i a0] (.s r):=by
 unfold yqa at hr;refine rfx (fn:=f13) func13 fun g0 hg=>?_
 refine ax 12 4 hr (fun hr=>?_) fun hr=>?_
 .refine rn tk 5 rfl ?_;obtain ⟨v2,h3,hr⟩:=zaa hr;refine Vga tk h3 rfl rfl rfl rfl rfl ?_;exact kx 5 hr
 refine rn tk 5 rfl<|wq (kGa rfl rfl rfl) rfl rfl rfl ?_;refine clx 0 hr (ZVa _) fun v4 _ hr=>?_
 refine rn tk 1 rfl<|wq (koa rfl rfl rfl) rfl rfl rfl ?_;refine clx 0 hr (ZVa _) fun v6 _ hr=>?_
 obtain ⟨v8,h9,hr⟩:=zaa hr;refine wc h9 rfl rfl rfl ?_;exact kx 4 hr
private theorem ZXa(a0:Int)(r:Str)(hr:yra a0=some r):Run prog 13 [.i a0] (.s r):=by
 unfold yra at hr;refine rfx (fn:=f13) func13 fun g0 hg=>?_
 refine ax 12 4 hr (fun hr=>?_) fun hr=>?_
 .refine rn tk 5 rfl ?_;obtain ⟨v2,h3,hr⟩:=zaa hr;refine Vga tk h3 rfl rfl rfl rfl rfl ?_;exact kx 5 hr
 refine rn tk 5 rfl<|wq (kGa rfl rfl rfl) rfl rfl rfl ?_;refine clx 0 hr (ZWa _) fun v4 _ hr=>?_
 refine rn tk 1 rfl<|wq (koa rfl rfl rfl) rfl rfl rfl ?_;refine clx 0 hr (ZWa _) fun v6 _ hr=>?_
 obtain ⟨v8,h9,hr⟩:=zaa hr;refine wc h9 rfl rfl rfl ?_;exact kx 4 hr
private theorem ZYa(a0:Int)(r:Str)(hr:ysa a0=some r):Run prog 13 [.i a0] (.s r):=by
 unfold ysa at hr;refine rfx (fn:=f13) func13 fun g0 hg=>?_
 refine ax 12 4 hr (fun hr=>?_) fun hr=>?_
 .refine rn tk 5 rfl ?_;obtain ⟨v2,h3,hr⟩:=zaa hr;refine Vga tk h3 rfl rfl rfl rfl rfl ?_;exact kx 5 hr
 refine rn tk 5 rfl<|wq (kGa rfl rfl rfl) rfl rfl rfl ?_;refine clx 0 hr (ZXa _) fun v4 _ hr=>?_
 refine rn tk 1 rfl<|wq (koa rfl rfl rfl) rfl rfl rfl ?_;refine clx 0 hr (ZXa _) fun v6 _ hr=>?_
 obtain ⟨v8,h9,hr⟩:=zaa hr;refine wc h9 rfl rfl rfl ?_;exact kx 4 hr
private theorem ZZa(a0:Int)(r:Str)(hr:yta a0=some r):Run prog 13 [.i a0] (.s r):=by
 unfold yta at hr;refine rfx (fn:=f13) func13 fun g0 hg=>?_
 refine ax 12 4 hr (fun hr=>?_) fun hr=>?_
 .refine rn tk 5 rfl ?_;obtain ⟨v2,h3,hr⟩:=zaa hr;refine Vga tk h3 rfl rfl rfl rfl rfl ?_;exact kx 5 hr
 refine rn tk 5 rfl<|wq (kGa rfl rfl rfl) rfl rfl rfl ?_;refine clx 0 hr (ZYa _) fun v4 _ hr=>?_
 refine rn tk 1 rfl<|wq (koa rfl rfl rfl) rfl rfl rfl ?_;refine clx 0 hr (ZYa _) fun v6 _ hr=>?_
 obtain ⟨v8,h9,hr⟩:=zaa hr;refine wc h9 rfl rfl rfl ?_;exact kx 4 hr
private theorem Z0a(a0:Int)(r:Str)(hr:yua a0=some r):Run prog 13 [.i a0] (.s r):=by
 unfold yua at hr;refine rfx (fn:=f13) func13 fun g0 hg=>?_
 refine ax 12 4 hr (fun hr=>?_) fun hr=>?_
 .refine rn tk 5 rfl ?_;obtain ⟨v2,h3,hr⟩:=zaa hr;refine Vga tk h3 rfl rfl rfl rfl rfl ?_;exact kx 5 hr
 refine rn tk 5 rfl<|wq (kGa rfl rfl rfl) rfl rfl rfl ?_;refine clx 0 hr (ZZa _) fun v4 _ hr=>?_
 refine rn tk 1 rfl<|wq (koa rfl rfl rfl) rfl rfl rfl ?_;refine clx 0 hr (ZZa _) fun v6 _ hr=>?_
 obtain ⟨v8,h9,hr⟩:=zaa hr;refine wc h9 rfl rfl rfl ?_;exact kx 4 hr
private theorem Z1a(a0:Int)(r:Str)(hr:yva a0=some r):Run prog 13 [.i a0] (.s r):=by
 unfold yva at hr;refine rfx (fn:=f13) func13 fun g0 hg=>?_
 refine ax 12 4 hr (fun hr=>?_) fun hr=>?_
 .refine rn tk 5 rfl ?_;obtain ⟨v2,h3,hr⟩:=zaa hr;refine Vga tk h3 rfl rfl rfl rfl rfl ?_;exact kx 5 hr
 refine rn tk 5 rfl<|wq (kGa rfl rfl rfl) rfl rfl rfl ?_;refine clx 0 hr (Z0a _) fun v4 _ hr=>?_
 refine rn tk 1 rfl<|wq (koa rfl rfl rfl) rfl rfl rfl ?_;refine clx 0 hr (Z0a _) fun v6 _ hr=>?_
 obtain ⟨v8,h9,hr⟩:=zaa hr;refine wc h9 rfl rfl rfl ?_;exact kx 4 hr
private theorem Z2a(a0:Int)(r:Str)(hr:ywa a0=some r):Run prog 13 [.i a0] (.s r):=by
 unfold ywa at hr;refine rfx (fn:=f13) func13 fun g0 hg=>?_
 refine ax 12 4 hr (fun hr=>?_) fun hr=>?_
 .refine rn tk 5 rfl ?_;obtain ⟨v2,h3,hr⟩:=zaa hr;refine Vga tk h3 rfl rfl rfl rfl rfl ?_;exact kx 5 hr
 refine rn tk 5 rfl<|wq (kGa rfl rfl rfl) rfl rfl rfl ?_;refine clx 0 hr (Z1a _) fun v4 _ hr=>?_
 refine rn tk 1 rfl<|wq (koa rfl rfl rfl) rfl rfl rfl ?_;refine clx 0 hr (Z1a _) fun v6 _ hr=>?_
 obtain ⟨v8,h9,hr⟩:=zaa hr;refine wc h9 rfl rfl rfl ?_;exact kx 4 hr
private theorem j8a(a0:Int)(r:Str)(hr:wLa a0=some r):Run prog 13 [.i a0] (.s r):=by
 unfold wLa at hr;refine rfx (fn:=f13) func13 fun g0 hg=>?_
 refine ax 12 4 hr (fun hr=>?_) fun hr=>?_
 .refine rn tk 5 rfl ?_;obtain ⟨v2,h3,hr⟩:=zaa hr;refine Vga tk h3 rfl rfl rfl rfl rfl ?_;exact kx 5 hr
 refine rn tk 5 rfl<|wq (kGa rfl rfl rfl) rfl rfl rfl ?_;refine clx 0 hr (Z2a _) fun v4 _ hr=>?_
 refine rn tk 1 rfl<|wq (koa rfl rfl rfl) rfl rfl rfl ?_;refine clx 0 hr (Z2a _) fun v6 _ hr=>?_
 obtain ⟨v8,h9,hr⟩:=zaa hr;refine wc h9 rfl rfl rfl ?_;exact kx 4 hr
private theorem j9a(a0:Int)(r:Str)(hr:wMa a0=some r):Run prog 13 [.i a0] (.s r):=by
 unfold wMa at hr;refine rfx (fn:=f13) func13 fun g0 hg=>?_
 refine ax 12 4 hr (fun hr=>?_) fun hr=>?_
 .refine rn tk 5 rfl ?_;obtain ⟨v2,h3,hr⟩:=zaa hr;refine Vga tk h3 rfl rfl rfl rfl rfl ?_;exact kx 5 hr
 refine rn tk 5 rfl<|wq (kGa rfl rfl rfl) rfl rfl rfl ?_;refine clx 0 hr (j8a _) fun v4 _ hr=>?_
 refine rn tk 1 rfl<|wq (koa rfl rfl rfl) rfl rfl rfl ?_;refine clx 0 hr (j8a _) fun v6 _ hr=>?_
 obtain ⟨v8,h9,hr⟩:=zaa hr;refine wc h9 rfl rfl rfl ?_;exact kx 4 hr
theorem VZa(a0:Int)(r:Str)(hr:Kea a0=some r):Run prog 13 [.i a0] (.s r):=by
 unfold Kea at hr;refine rfx (fn:=f13) func13 fun g0 hg=>?_
 refine ax 12 4 hr (fun hr=>?_) fun hr=>?_
 .refine rn tk 5 rfl ?_;obtain ⟨v2,h3,hr⟩:=zaa hr;refine Vga tk h3 rfl rfl rfl rfl rfl ?_;exact kx 5 hr
 refine rn tk 5 rfl<|wq (kGa rfl rfl rfl) rfl rfl rfl ?_;refine clx 0 hr (j9a _) fun v4 _ hr=>?_
 refine rn tk 1 rfl<|wq (koa rfl rfl rfl) rfl rfl rfl ?_;refine clx 0 hr (j9a _) fun v6 _ hr=>?_
 obtain ⟨v8,h9,hr⟩:=zaa hr;refine wc h9 rfl rfl rfl ?_;exact kx 4 hr
theorem VGa(a0:zda)(a1:zda)(r:Bool)(hr:vWa a0 a1=some r):Run prog 16 [.agg [.l zca.pc a0.Fields,.l cU a0.Body],.agg [.l zca.pc a1.Fields,.l cU a1.Body]] (.bo r):=by
 unfold vWa at hr;refine rfx (fn:=f16) func16 fun g0 hg=>?_
 refine jq 8 hr [2,3] [3,2] (fun j1=>[(21,.bo j1)]) (fun _=>[]) (fun j1 hr=>?_) (fun j1 hr=>?_)
 .refine rn tk 3 rfl<|wn tk rfl rfl rfl<|rn tk 2 rfl<|wn tk rfl rfl rfl ?_;refine bx 2 13 hr (fun c2 hr=>?_) fun c2 hr=>?_
  .exact jx 9 hr
  refine rn tk 2 rfl<|ug rfl rfl rfl<|wb tk rfl rfl rfl<|rn tk 2 rfl<|ug rfl rfl rfl<|wb tk rfl rfl rfl ?_;exact jx 3 hr
 refine ax 0 21 hr (fun hr=>?_) fun hr=>?_
 .exact kx 7 hr
 refine aq2 9 hr [2,3] [3,2] (fun s4=>[(5,.i s4)]) (fun _=>[]) (.exit 0) [] [] (fun _=>[]) (fun _=>[]) .ret [] [] (fun b6=>[(4,.bo b6)]) (fun _=>[]) (fun s4 x8 hr=>?_) (fun b5 hr=>?_) (fun b6 hr=>?_)
 .unfold vwa at hr;refine rn tk 6 rfl<|wn tk rfl rfl rfl ?_;refine ax 3 26 hr (fun hr=>?_) fun hr=>?_
  .refine rn tk 5 rfl ?_;obtain ⟨v10,h11,hr⟩:=zaa hr;obtain ⟨v12,h13,hr⟩:=zaa hr;refine mdq 0 [(3,.ep [pS v10.Name,pS v10.Value]),(8,.ep [pS v12.Name,pS v12.Value]),(10,.bo ((!(jFa [(v10.Name==v12.Name),(v10.Value==v12.Value)]))))] [2,3,5,39] (.cons rfl rfl (t0 (kaa (Kwa (f:=zca.pc) rfl rfl zIa kma rfl h11))) (.cons rfl rfl (t0 (kaa (Kwa (f:=zca.pc) rfl rfl zIa kma rfl h13))) (.cons rfl rfl (t0 (kaa (kvb rfl rfl kma JIa (.str rfl (by decide) zya (.str rfl (by decide) zya .nil))))) .nil))) ?_ mixed;refine ax 1 39 hr (fun hr=>?_) fun hr=>?_
   .exact ox 8 hr
   exact cx 8 hr
  exact ox 2 hr
 .exact kx 8 hr
 exact kx 2 hr
theorem jDa(a0:Int)(a1:Int)(r:Str)(hr:Zxa a0 a1=some r):Run prog 41 [.i a0,.i a1] (.s r):=by
 unfold Zxa at hr;refine rfx (fn:=f41) func41 fun g0 hg=>?_
 refine clx 8 hr (VZa _) fun v1 _ hr=>?_
 refine rn tk 5 rfl<|al1 hr (fun s3=>[(1,.i a1),(5,.s s3)]) (fun s3=>[]) (.exit 0) (fun b4=>[(5,.s b4)]) (fun b4=>[]) rfl rfl (fun s3 x5 hr=>?_) (fun b4 hr=>?_)
 .unfold jma at hr;refine ax 9 11 hr (fun hr=>?_) fun hr=>?_
  .refine rn tk 5 rfl ?_;obtain ⟨v7,h8,hr⟩:=zaa hr;refine wc h8 rfl rfl rfl ?_;exact cx 3 hr
  exact ox 2 hr
 exact kx 9 hr
theorem Kka(a0:Int)(r:Bool)(hr:QEa a0=some r):Run prog 39 [.i a0] (.bo r):=by
 unfold QEa at hr;refine rfx (fn:=f39) func39 fun g0 hg=>?_
 refine rn tk 5 rfl<|jb hr (fun j1=>[(2,.bo j1)]) (fun j1=>[]) (fun j1 hr=>?_) (fun j1 hr=>?_)
 .refine rn tk 2 rfl<|wq (koa rfl rfl rfl) rfl rfl rfl ?_;refine bx 2 6 hr (fun c2 hr=>?_) fun c2 hr=>?_
  .refine rn tk 1 rfl<|ug rfl rfl rfl<|wq (koa rfl rfl rfl) rfl rfl rfl ?_;refine bx 3 11 hr (fun c3 hr=>?_) fun c3 hr=>?_
   .exact jx 6 hr
   refine rn tk 1 rfl<|ug rfl rfl rfl<|wq (koa rfl rfl rfl) rfl rfl rfl ?_;exact jx 4 hr
  refine rn tk 6 rfl<|ug rfl rfl rfl<|wq (koa rfl rfl rfl) rfl rfl rfl ?_;exact jx 4 hr
 exact kx 1 hr
theorem Jba(a0:Int)(a1:Int)(r:Int)(hr:YPa a0 a1=some r):Run prog 40 [.i a0,.i a1] (.i r):=by
 unfold YPa at hr;refine rfx (fn:=f40) func40 fun g0 hg=>?_
 refine rn tk 6 rfl<|jb hr (fun j1=>[(1,.i a1),(11,.bo j1)]) (fun j1=>[]) (fun j1 hr=>?_) (fun j1 hr=>?_)
 .refine bx 4 8 hr (fun c2 hr=>?_) fun c2 hr=>?_
  .refine rn tk 1 rfl ?_;obtain ⟨v3,h4,hr⟩:=zaa hr;refine ug rfl rfl rfl<|cl (Kka _ _ h4) rfl rfl ?_;exact jx 2 hr
  exact jx 4 hr
 refine ax 0 11 hr (fun hr=>?_) fun hr=>?_
 .exact kx 7 hr
 refine rn tk 4 rfl<|wz cI ([31,28,31,30,31,30,31,31,30,31,30,31]:List Int) tk rfl rfl (fun _=>rfl) rfl (by kernel_rfl) rfl<|rn tk 8 rfl ?_;obtain ⟨v6,h7,hr⟩:=zaa hr;refine wi tk h7 rfl rfl rfl rfl rfl ?_;exact kx 5 hr
theorem vVb(a0:Int)(r:Str × Bool)(hr:jsa a0=some r):Run prog 11 [.i a0] (.tup [.s r.1,.bo r.2]):=by
 unfold jsa at hr;refine rfx (fn:=f11) func11 fun g0 hg=>?_
 refine clx 10 hr (vxa _ _ _) fun v1 _ hr=>?_
 refine ax 3 15 hr (fun hr=>?_) fun hr=>?_
 .exact kx 8 hr
 refine rn tk 9 rfl<|al1 hr (fun s4=>[(0,.i s4.1),(4,.i s4.2)]) (fun s4=>[]) (.exit 0) (fun b5=>[(0,.i b5.1),(4,.i b5.2)]) (fun b5=>[]) rfl rfl (fun s4 x6 hr=>?_) (fun b5 hr=>?_)
 .unfold jna at hr;refine ax 7 17 hr (fun hr=>?_) fun hr=>?_
  .exact cx 16 hr
  exact ox 2 hr
 refine rn tk 6 rfl<|wq (kGa rfl rfl rfl) rfl rfl rfl<|rn tk 7 rfl<|wq (koa rfl rfl rfl) rfl rfl rfl<|rn tk 10 rfl<|al1 hr (fun s8=>[(0,.i ((iRem b5.1 86400))),(4,.i s8.1),(5,.i s8.2)]) (fun s8=>[]) (.exit 2) (fun b9=>[(0,.i ((iRem b5.1 86400))),(4,.i b9.1),(5,.i b9.2)]) (fun b9=>[]) rfl rfl (fun s8 x10 hr=>?_) (fun b9 hr=>?_)
 .unfold joa at hr;refine ax 7 29 hr (fun hr=>?_) fun hr=>?_
  .refine clx 20 hr (Kka _) fun v12 _ hr=>?_
   refine ax 2 35 hr (fun hr=>?_) fun hr=>?_
   .exact cx 6 hr
   exact cx 2 hr
  exact ox 2 hr
 refine rn tk 4 rfl<|al1 hr (fun s15=>[(0,.i ((iRem b5.1 86400))),(4,.i s15.1),(5,.i s15.2)]) (fun s15=>[]) (.exit 4) (fun b16=>[(0,.i ((iRem b5.1 86400))),(4,.i b16.1),(5,.i b16.2)]) (fun b16=>[]) rfl rfl (fun s15 x17 hr=>?_) (fun b16 hr=>?_)
 .unfold jpa at hr;refine rn tk 6 rfl<|jb hr (fun j18=>[(0,.i ((iRem b5.1 86400))),(4,.i s15.1),(5,.i s15.2),(6,.i j18)]) (fun j18=>[]) (fun j18 hr=>?_) (fun j18 hr=>?_)
  .refine clx 3 hr (Kka _) fun v19 _ hr=>?_
   refine ax 2 39 hr (fun hr=>?_) fun hr=>?_
   .exact jx 3 hr
   exact jx 1 hr
  refine ax 8 42 hr (fun hr=>?_) fun hr=>?_
  .exact ox 3 hr
  exact cx 16 hr
 refine clx 6 hr (vxa _ _ _) fun v23 _ hr=>?_
 refine ax 3 50 hr (fun hr=>?_) fun hr=>?_
 .exact kx 8 hr
 refine rn tk 15 rfl<|al1 hr (fun s26=>[(0,.i ((iRem b5.1 86400))),(4,.i b16.1),(5,.i b16.2),(7,.i s26.1),(8,.i s26.2)]) (fun s26=>[]) (.exit 6) (fun b27=>[(0,.i ((iRem b5.1 86400))),(4,.i b16.1),(5,.i b16.2),(7,.i b27.1),(8,.i b27.2)]) (fun b27=>[]) rfl rfl (fun s26 x28 hr=>?_) (fun b27 hr=>?_)
 .unfold jqa at hr;refine clx 6 hr (Jba _ _) fun v29 _ hr=>?_
  refine ax 3 56 hr (fun hr=>?_) fun hr=>?_
  .refine clx 8 hr (Jba _ _) fun v32 _ hr=>?_
   exact cx 10 hr
  exact ox 2 hr
 refine rn tk 14 rfl<|al1 hr (fun s34=>[(0,.i ((iRem b5.1 86400))),(4,.i b16.1),(5,.i b16.2),(7,.i b27.1),(8,.i b27.2),(9,.i s34.1),(10,.i s34.2)]) (fun s34=>[]) (.exit 8) (fun b35=>[(0,.i ((iRem b5.1 86400))),(4,.i b16.1),(5,.i b16.2),(7,.i b27.1),(8,.i b27.2),(9,.i b35)]) (fun b35=>[]) rfl rfl (fun s34 x36 hr=>?_) (fun b35 hr=>?_)
 .unfold jra at hr;refine ax 8 66 hr (fun hr=>?_) fun hr=>?_
  .refine rn tk 2 rfl<|jb hr (fun j38=>[(0,.i ((iRem b5.1 86400))),(4,.i b16.1),(5,.i b16.2),(7,.i b27.1),(8,.i b27.2),(9,.i j38),(10,.i s34.2)]) (fun j38=>[]) (fun j38 hr=>?_) (fun j38 hr=>?_)
   .refine clx 11 hr (Kka _) fun v39 _ hr=>?_
    refine ax 2 72 hr (fun hr=>?_) fun hr=>?_
    .exact jx 6 hr
    exact jx 2 hr
   exact cx 5 hr
  exact ox 2 hr
 refine rn tk 7 rfl<|wq (koa rfl rfl rfl) rfl rfl rfl<|rn tk 14 rfl ?_;obtain ⟨v42,h43,hr⟩:=zaa hr;obtain ⟨v44,h45,hr⟩:=zaa hr;obtain ⟨v46,h47,hr⟩:=zaa hr;obtain ⟨v48,h49,hr⟩:=zaa hr;obtain ⟨v50,h51,hr⟩:=zaa hr;obtain ⟨v52,h53,hr⟩:=zaa hr;obtain ⟨v54,h55,hr⟩:=zaa hr;obtain ⟨v56,h57,hr⟩:=zaa hr;obtain ⟨v58,h59,hr⟩:=zaa hr;obtain ⟨v60,h61,hr⟩:=zaa hr;obtain ⟨v62,h63,hr⟩:=zaa hr;obtain ⟨v64,h65,hr⟩:=zaa hr;obtain ⟨v66,h67,hr⟩:=zaa hr;obtain ⟨v68,h69,hr⟩:=zaa hr;obtain ⟨v70,h71,hr⟩:=zaa hr;obtain ⟨v72,h73,hr⟩:=zaa hr;obtain ⟨v74,h75,hr⟩:=zaa hr;obtain ⟨v76,h77,hr⟩:=zaa hr;refine dr 40 [(118,.s v76),(117,.i ((iRem ((iRem b5.1 86400)) 60))),(116,.i ((iRem b5.1 86400))),(115,.s v74),(114,.s v72),(113,.s v70),(112,.i ((iRem ((iQuo ((iRem b5.1 86400)) 60)) 60))),(111,.i ((iQuo ((iRem b5.1 86400)) 60))),(110,.i ((iRem b5.1 86400))),(109,.s v68),(108,.s v66),(107,.s v64),(106,.i ((iQuo ((iRem b5.1 86400)) 3600))),(105,.i ((iRem b5.1 86400))),(104,.s v62),(103,.s v60),(102,.s v58),(101,.i b16.2),(100,.s v56),(99,.s v54),(98,.s v52),(97,.i ((w64 (3 * b27.1)))),(96,.i b27.1),(95,.i ((w64 ((w64 (3 * b27.1)) - 3)))),(94,.i ((w64 (3 * b27.1)))),(93,.i b27.1),(92,.s (([74,97,110,70,101,98,77,97,114,65,112,114,77,97,121,74,117,110,74,117,108,65,117,103,83,101,112,79,99,116,78,111,118,68,101,99]:Str))),(91,.s v50),(90,.s v48),(89,.s v46),(88,.i ((w64 (b27.2+1)))),(87,.i b27.2),(86,.s v44),(85,.s v42),(84,.i ((w64 ((w64 (3 * (iRem ((w64 (b35+b16.1))) 7)))+3)))),(83,.i ((w64 (3 * (iRem ((w64 (b35+b16.1))) 7))))),(82,.i ((iRem ((w64 (b35+b16.1))) 7))),(81,.i ((w64 (3 * (iRem ((w64 (b35+b16.1))) 7))))),(80,.i ((iRem ((w64 (b35+b16.1))) 7))),(79,.s (([83,117,110,77,111,110,84,117,101,87,101,100,84,104,117,70,114,105,83,97,116]:Str)))] mixed (by kernel_rfl) rfl rfl (pq tk rfl (.plain rfl) (pq tk rfl (.plain rfl) (pq tk rfl (.plain rfl) (pq tk rfl (.plain rfl) (pq tk rfl (.plain rfl) (pq tk rfl (.plain rfl) (.run (.plain rfl) (kaa (Wxa rfl rfl rfl zya h43)) (.run (.plain rfl) (kaa (w3a rfl rfl h45)) (pq tk rfl (.plain rfl) (pq tk rfl (.plain rfl) (.run (.plain rfl) (zAa (jDa ((w64 (b27.2+1))) 2 v46 h47) rfl) (.run (.plain rfl) (kaa (w3a rfl rfl h49)) (.run (.plain rfl) (kaa (w3a rfl rfl h51)) (pq tk rfl (.plain rfl) (pq tk rfl (.plain rfl) (pq tk rfl (.plain rfl) (pq tk rfl (.plain rfl) (pq tk rfl (.plain rfl) (pq tk rfl (.plain rfl) (.run (.plain rfl) (kaa (Wxa rfl rfl rfl zya h53)) (.run (.plain rfl) (kaa (w3a rfl rfl h55)) (.run (.plain rfl) (kaa (w3a rfl rfl h57)) (pq tk rfl (.plain rfl) (.run (.plain rfl) (zAa (jDa b16.2 4 v58 h59) rfl) (.run (.plain rfl) (kaa (w3a rfl rfl h61)) (.run (.plain rfl) (kaa (w3a rfl rfl h63)) (pq tk rfl (.plain rfl) (.run (.plain rfl) (kaa (kGa rfl rfl rfl)) (.run (.plain rfl) (zAa (jDa ((iQuo ((iRem b5.1 86400)) 3600)) 2 v64 h65) rfl) (.run (.plain rfl) (kaa (w3a rfl rfl h67)) (.run (.plain rfl) (kaa (w3a rfl rfl h69)) (pq tk rfl (.plain rfl) (.run (.plain rfl) (kaa (kGa rfl rfl rfl)) (.run (.plain rfl) (kaa (koa rfl rfl rfl)) (.run (.plain rfl) (zAa (jDa ((iRem ((iQuo ((iRem b5.1 86400)) 60)) 60)) 2 v70 h71) rfl) (.run (.plain rfl) (kaa (w3a rfl rfl h73)) (.run (.plain rfl) (kaa (w3a rfl rfl h75)) (pq tk rfl (.plain rfl) (.run (.plain rfl) (kaa (koa rfl rfl rfl)) (.run (.plain rfl) (zAa (jDa ((iRem ((iRem b5.1 86400)) 60)) 2 v76 h77) rfl) .nil)))))))))))))))))))))))))))))))))))))))) rfl ?_;obtain ⟨v78,h79,hr⟩:=zaa hr;refine wc h79 rfl rfl rfl ?_;obtain ⟨v80,h81,hr⟩:=zaa hr;refine wc h81 rfl rfl rfl ?_;exact kx 5 hr
theorem jEa(a0:Str)(a1:List zda)(a2:Int)(r:Bool)(hr:k9a a0 a1 a2=some r):Run prog 3 [.s a0,.l zda.pc a1,.i a2] (.bo r):=by
 unfold k9a at hr;refine rfx (fn:=Tryz.f3) func3 fun g0 hg=>?_
 refine clx 10 hr (ZOa _ _ _) fun v1 _ hr=>?_
 refine jq 16 hr [0,1,2,7,8,9] [8,7] (fun _=>[]) (fun j3=>[(9,.cells [.i j3.1,.i j3.2])]) (fun j3 hr=>?_) (fun j3 hr=>?_)
 .refine clx 3 hr (Yha _) fun v4 _ hr=>?_
  refine ax 3 26 hr (fun hr=>?_) fun hr=>?_
  .refine clx 1 hr (waa _ _) fun v7 _ hr=>?_
   exact jx 2 hr
  refine clx 2 hr (Kva _) fun v9 _ hr=>?_
  exact jx 2 hr
 refine clx 3 hr (vVb _) fun v11 _ hr=>?_
 refine jq 7 hr [0,1,7,8,9,10] [8,7] (fun _=>[]) (fun j13=>[(9,.cells [.i j13.1,.i j13.2])]) (fun j13 hr=>?_) (fun j13 hr=>?_)
 .refine jq 0 hr [0,1,7,8,9,10] [9,8,7] (fun j14=>[(41,.bo j14)]) (fun _=>[]) (fun j14 hr=>?_) (fun j14 hr=>?_)
  .refine bx 5 38 hr (fun c15 hr=>?_) fun c15 hr=>?_
   .exact jx 4 hr
   exact jx 4 hr
  refine ax 0 41 hr (fun hr=>?_) fun hr=>?_
  .refine clx 1 hr (waa _ _) fun v17 _ hr=>?_
   exact jx 2 hr
  exact jx 1 hr
 refine jq 1 hr [0,1,7,8,9,10] [9,8,7] (fun j19=>[(49,.bo j19)]) (fun _=>[]) (fun j19 hr=>?_) (fun j19 hr=>?_)
 .refine clx 1 hr KTa fun v20 _ hr=>?_
  refine bx 2 45 hr (fun c22 hr=>?_) fun c22 hr=>?_
  .exact jx 5 hr
  exact jx 5 hr
 refine ax 0 49 hr (fun hr=>?_) fun hr=>?_
 .refine jq 0 hr [] [] (fun j24=>[(6,.bo j24)]) (fun _=>[]) (fun j24 hr=>?_) (fun j24 hr=>?_)
  .refine clx 1 hr KTa fun v25 _ hr=>?_
   refine bx 1 51 hr (fun c27 hr=>?_) fun c27 hr=>?_
   .refine rn tk 2 rfl<|ug rfl rfl rfl<|wq (WAa rfl rfl Zra QBa (.int rfl (by decide) w4a (.int rfl (by decide) w4a .nil))) rfl rfl rfl ?_;refine bx 2 56 hr (fun c28 hr=>?_) fun c28 hr=>?_
    .refine rn tk 2 rfl<|ug rfl rfl rfl<|wn tk rfl rfl rfl ?_;refine bx 3 62 hr (fun c29 hr=>?_) fun c29 hr=>?_
     .refine rn tk 2 rfl<|ug rfl rfl rfl<|wn tk rfl rfl rfl ?_;exact jx 4 hr
     exact jx 7 hr
    exact jx 13 hr
   exact jx 18 hr
  exact kx 2 hr
 refine rn tk 9 rfl<|wn tk rfl rfl rfl ?_;refine clx 0 hr (VZa _) fun v30 _ hr=>?_
 refine rn tk 2 rfl<|wz zca.pc ([(zca.mk (([70,114,111,109]:Str)) a0),(zca.mk (([68,97,116,101]:Str)) v11.1),(zca.mk (([88,45,68,105,103,101,115,116]:Str)) v30),(zca.mk (([67,111,110,116,101,110,116,45,84,121,112,101]:Str)) (([109,117,108,116,105,112,97,114,116,47,100,105,103,101,115,116]:Str)))]:List zca) tk rfl rfl (fun _=>rfl) rfl (by kernel_rfl) rfl<|rn tk 2 rfl ?_;refine zxa 1012 (o:=12) (j:=2) 42 3 rfl rfl rfl rfl (hO ?_);refine rn tk 1 rfl ?_;refine zxa 2012 (o:=12) (j:=2) 42 3 rfl rfl rfl rfl (hO ?_);refine aq1 9 hr [1,7,8,12] [8,7] (fun s32=>[(13,.i s32.1)]) (fun s32=>[(2012,.row 42 false 3 (List.map (zka.pcn 0) s32.2)),(12,.cells [.l zca.pc (([(zca.mk (([70,114,111,109]:Str)) a0),(zca.mk (([68,97,116,101]:Str)) v11.1),(zca.mk (([88,45,68,105,103,101,115,116]:Str)) v30),(zca.mk (([67,111,110,116,101,110,116,45,84,121,112,101]:Str)) (([109,117,108,116,105,112,97,114,116,47,100,105,103,101,115,116]:Str)))]:List zca)),.l cU ([]),.hs 2012 0])]) (.exit 0) [7,8,12] [8,7] (fun _=>[]) (fun b33=>[(2012,.row 42 false 3 (List.map (zka.pcn 0) b33)),(12,.cells [.l zca.pc (([(zca.mk (([70,114,111,109]:Str)) a0),(zca.mk (([68,97,116,101]:Str)) v11.1),(zca.mk (([88,45,68,105,103,101,115,116]:Str)) v30),(zca.mk (([67,111,110,116,101,110,116,45,84,121,112,101]:Str)) (([109,117,108,116,105,112,97,114,116,47,100,105,103,101,115,116]:Str)))]:List zca)),.l cU ([]),.hs 2012 0])]) (fun s32 x34 hr=>?_) (fun b33 hr=>?_)
 .unfold zRa at hr;refine rn tk 5 rfl<|wn tk rfl rfl rfl ?_;refine ax 3 82 hr (fun hr=>?_) fun hr=>?_
  .refine rn tk 4 rfl ?_;obtain ⟨v36,h37,hr⟩:=zaa hr;obtain ⟨v38,h39,hr⟩:=zaa hr;refine dq 0 11 [] [(3,.l zca.pc (([(zca.mk (([67,111,110,116,101,110,116,45,84,121,112,101]:Str)) (([109,101,115,115,97,103,101,47,105,116,101,109]:Str)))]:List zca))),(6,.ep [pL zca.pc v36.Fields,pL cU v36.Body]),(8,.l cU v38),(10,.l (zka.pcn 0) (([(zka.mk (([(zca.mk (([67,111,110,116,101,110,116,45,84,121,112,101]:Str)) (([109,101,115,115,97,103,101,47,105,116,101,109]:Str)))]:List zca)) v38 ([]))]:List zka)))] .nil (.cons rfl rfl (KXa (F:=zca.pc) (l:=([(zca.mk (([67,111,110,116,101,110,116,45,84,121,112,101]:Str)) (([109,101,115,115,97,103,101,47,105,116,101,109]:Str)))]:List zca)) zIa kma rfl (fun _=>rfl) rfl rfl) (.cons rfl rfl (kaa (Kwa (f:=zda.pc) rfl rfl vva yZa rfl h37)) (.cons rfl rfl (zAa (yVa v36 v38 h39) rfl) (.cons rfl rfl (KXa (F:=(zka.pcn 0)) (l:=([(zka.mk (([(zca.mk (([67,111,110,116,101,110,116,45,84,121,112,101]:Str)) (([109,101,115,115,97,103,101,47,105,116,101,109]:Str)))]:List zca)) v38 ([]))]:List zka)) kUa WOa rfl (fun _=>rfl) rfl rfl) .nil)))) ?_ mixed;obtain ⟨v40,h41,hr⟩:=zaa hr;refine wa tk h41 rfl rfl rfl rfl (fun _=>rfl) rfl rfl ?_;exact cx 10 hr
  exact ox 2 hr
 refine rn tk 5 rfl ?_;refine wCa (d' :=99) (j:=2) (F:=(zka.pcn 0)) (l:=b33) rfl rfl rfl (hO ?_);refine clx 0 hr (jCa _) fun v42 _ hr=>?_
 refine ax 17 105 hr (fun hr=>?_) fun hr=>?_
 .refine jq 0 hr [] [] (fun j45=>[(6,.bo j45)]) (fun _=>[]) (fun j45 hr=>?_) (fun j45 hr=>?_)
  .obtain ⟨v46,h47,hr⟩:=zaa hr;refine drF 3 0 [(108,.i v42.2.Code),(107,.ptr 15 0),(106,.agg [.i v1.2.Code,.i v1.2.Index])] [(108,.i v42.2.Code),(107,.ptr 15 0),(106,.any)] [(7,.ptr 7 0),(106,.agg [.i v1.2.Code,.i v1.2.Index]),(109,.agg [.i v46.Code,.i v46.Index])] [(15,.cells [.i v42.2.Code,.i v42.2.Index]),(14,.cells [.l zca.pc v42.1.Fields,.l cU v42.1.Body]),(2012,.row 42 false 3 (List.map (zka.pcn 0) b33)),(12,.cells [.l zca.pc (([(zca.mk (([70,114,111,109]:Str)) a0),(zca.mk (([68,97,116,101]:Str)) v11.1),(zca.mk (([88,45,68,105,103,101,115,116]:Str)) v30),(zca.mk (([67,111,110,116,101,110,116,45,84,121,112,101]:Str)) (([109,117,108,116,105,112,97,114,116,47,100,105,103,101,115,116]:Str)))]:List zca)),.l cU ([]),.hs 2012 0]),(8,.cells [.i v1.2.Code,.i v1.2.Index]),(7,.cells [.l zca.pc v1.1.Fields,.l cU v1.1.Body])] mixed (by kernel_rfl) rfl rfl rfl rfl rfl (pqF tk rfl (.plain rfl) (pqF tk rfl (.plain rfl) (pqF tk rfl (.plain rfl) .nil))) rfl rfl rfl rfl rfl (fun hJ=>?_) (fun hJ=>?_) ?_
   .refine cl (waa _ _ _ h47) rfl rfl ?_;exact hJ _ _ rfl rfl
   .refine cl (waa _ _ _ h47) rfl rfl<|rn tk 1 rfl ?_;exact hJ _ _ rfl rfl
   refine wq (WAa rfl rfl Zra QBa (.int rfl (by decide) w4a (.int rfl (by decide) w4a .nil))) rfl rfl rfl ?_;refine bx 1 111 hr (fun c48 hr=>?_) fun c48 hr=>?_
   .refine rn tk 2 rfl<|ug rfl rfl rfl<|wn tk rfl rfl rfl ?_;exact jx 4 hr
   exact jx 7 hr
  exact kx 2 hr
 refine jq 2 hr [] [] (fun j49=>[(6,.bo j49)]) (fun _=>[]) (fun j49 hr=>?_) (fun j49 hr=>?_)
 .refine bx 5 120 hr (fun c50 hr=>?_) fun c50 hr=>?_
  .refine rn tk 2 rfl ?_;obtain ⟨v51,h52,hr⟩:=zaa hr;refine ug rfl rfl rfl<|cl (VGa _ _ _ h52) rfl rfl ?_;exact jx 3 hr
  exact jx 6 hr
 exact kx 1 hr
end Go.Proofs.YtpphhgbmooofgaaGreatDoor
namespace Go.Proofs.YtpphhgbmooofgaaGreatDoor.digestMatchesSpec
open Go.ChangeShapes Go.WideShapes Go.ChangeAt Go.RowKit Go.Proofs.Tryz
theorem contract(H:Type)(enc:TypeId × Value->H)(W:World)(base:Nat)(args:Array Value)(ds gs:List (DataW H))(before:List MemPlace)
 (hval:∀(j:Nat) t v,Tryz.f3.params[j]? =some t->args[j]? =some v->Value.okWide prog W .any base t v)
 (hW:DataW.Whole enc prog Tryz.f3.params.toList Rows.digestMatchesSpecSpec.vars false W args.toList ds gs before) (hk:Rows.uptoSmall H (ds++gs)=true) (hgl:Gl (gAll W)):
 Calls prog 3 args W fun e W' =>∃v,e=.returned v/\Rows.digestMatchesSpecSpec.post enc prog Tryz.f3 false true false false W args v W' :=by
 have hW' :=hW;obtain ⟨p,q,hA0,hV,rfl,hfz,hnd⟩:=hW;have hA:DataW.TrodAll enc prog W 0 (fun _=>true) true Tryz.f3.params.toList args.toList ds p:=hA0;rw[Tryz.params3]at hA hval;obtain ⟨v0,vs0,d0,ds0,p0,q0,hargs,rfl,rfl,h0,r0⟩:=trodAll_cons hA;obtain ⟨v1,vs1,d1,ds1,p1,q1,rfl,rfl,rfl,h1,r1⟩:=trodAll_cons r0;obtain ⟨v2,vs2,d2,ds2,p2,q2,rfl,rfl,rfl,h2,r2⟩:=trodAll_cons r1;obtain ⟨rfl,rfl,rfl⟩:=trodAll_nil r2;obtain rfl:args= #[v0,v1,v2]:=by cases args;simp_all
 obtain ⟨rfl,rfl⟩:=trodVars_none hV;obtain ⟨a0,e0,o0,k0⟩:=kPb Zta (by obtain ⟨_,h⟩:=okWide_string zya.u (hval 0 _ v0 rfl rfl);rw[h];rfl) h0;obtain ⟨a1,e1,o1,k1⟩:=kPb V3a (by obtain ⟨_,_,_,h⟩:=okWide_slice vva.u (hval 1 _ v1 rfl rfl);rw[h];rfl) h1;obtain ⟨a2,e2,o2,k2⟩:=kPb op_int (by obtain ⟨_,h⟩:=okWide_int w4a.u (hval 2 _ v2 rfl rfl);rw[h];rfl) h2;have hk2:=of_decide_eq_true hk;simp only[List.append_nil,Rows.uptoBulkAll]at hk2;have ht:=y8a a0 a1 a2 o0 o1 o2 (by (try dsimp only);omega);have key:Calls prog 3 #[v0,v1,v2] W fun e W' =>e=.returned (.bool true)/\Below W.heap.size W W' :=zqb (jEa a0 a1 a2 true ht) hgl (vlb (.cons (e0 _ rfl) (.cons (e1 _ rfl) (.cons (e2 _ rfl) .nil))))
 refine key.mono fun e W' ⟨he,hb⟩=>⟨_,he,?_⟩
 exact wIb laidOut (by kernel_rfl) underlying4 (by kernel_rfl) rfl rfl hW' hb
noncomputable def wit(os:Os):World:=let w0:=World.doorLaid prog 72 os
 {w0 with heap:=w0.heap.modify 2 fun
  | .cells _ t fz=>.cells (Lib.firstTab.map fun z=>Value.int .u8 z).toArray t fz
  | o=>o}
theorem reads(os:Os){H:Type}(enc:TypeId × Value->H):∃places,DataW.whole enc prog ((wit os).forCall (fun _ _=>0) ⟨#[], #[.string ⟨#[]⟩,.slice none 0 0,.int .i64 0],[]⟩).memory Tryz.f3.params.toList (Rows.OpenSpec.upto Rows.digestMatchesSpecSpec).vars false (#[.string ⟨#[]⟩,.slice none 0 0,.int .i64 0]:Array Value).toList 8=some ([.lit (.string []),.nil,.lit (.int .i64 0)],[],places):=
 ⟨[],by kernel_rfl⟩
theorem lifted(os:Os)(started:os.Started)(H:Type)(enc:TypeId × Value->H)(F:Stop.Interp):
 ReturnsInHanded {} Tryz.checked os 3 .any ((Rows.OpenSpec.upto Rows.digestMatchesSpecSpec).preRow enc prog Tryz.f3 Rows.digestMatchesSpecUptoRow.domain false Rows.digestMatchesSpecUptoRow.laid) (((Rows.OpenSpec.upto Rows.digestMatchesSpecSpec).at F).post enc prog Tryz.f3 false true false false):=by
 obtain ⟨places,hx⟩:=reads os enc;refine returnsInHanded_of_row (C:=Tryz.checked) (s:=Rows.OpenSpec.upto Rows.digestMatchesSpecSpec) own started (by kernel_rfl) func3
  (witness_row_atRef (enc:=enc) (C:=Tryz.checked) false (wit os) #[.string ⟨#[]⟩,.slice none 0 0,.int .i64 0] rfl (by kernel_rfl) (by kernel_rfl) (by kernel_rfl)
   (OpenSpec.preRow_of_cond 8 hx (by kernel_rfl) (fun k hk=>by cases hk;kernel_rfl) (by kernel_rfl) (laidMet_of_run' 8 (by kernel_rfl) (by kernel_rfl)))) ?_
 intro W base args ds gs before hval hW _ hk _ hL hsh _;exact contract H enc W base args ds gs before hval hW (hk _ rfl) (vmb (rest:=Rows.digestMatchesSpecUptoRow.laid.drop 3) hsh (by kernel_rfl) hL (fun hm=>vnb hm.tail.tail.tail.tail.tail))
theorem j0:jf0 Tryz.pinned.checked.prog 3 Tryz.f3 (Rows.OpenSpec.upto Rows.digestMatchesSpecSpec).bare Rows.digestMatchesSpecUptoRow=true:=by kernel_rfl
theorem j1:jf1 Tryz.pinned.checked.prog 3 Tryz.f3 (Rows.OpenSpec.upto Rows.digestMatchesSpecSpec).bare Rows.digestMatchesSpecUptoRow=true:=by kernel_rfl
theorem j2:jf2 Tryz.pinned.checked.prog 3 Tryz.f3 (Rows.OpenSpec.upto Rows.digestMatchesSpecSpec).bare Rows.digestMatchesSpecUptoRow=true:=by kernel_rfl
theorem j3:jf3 Tryz.pinned.checked.prog 3 Tryz.f3 (Rows.OpenSpec.upto Rows.digestMatchesSpecSpec).bare Rows.digestMatchesSpecUptoRow=true:=by kernel_rfl
theorem j4:jf4 Tryz.pinned.checked.prog 3 Tryz.f3 (Rows.OpenSpec.upto Rows.digestMatchesSpecSpec).bare Rows.digestMatchesSpecUptoRow=true:=by kernel_rfl
theorem j5:jf5 Tryz.pinned.checked.prog 3 Tryz.f3 (Rows.OpenSpec.upto Rows.digestMatchesSpecSpec).bare Rows.digestMatchesSpecUptoRow=true:=by kernel_rfl
theorem j6:jf6 Tryz.pinned.checked.prog 3 Tryz.f3 (Rows.OpenSpec.upto Rows.digestMatchesSpecSpec).bare Rows.digestMatchesSpecUptoRow=true:=by kernel_rfl
theorem j7:jf7 Tryz.pinned.checked.prog 3 Tryz.f3 (Rows.OpenSpec.upto Rows.digestMatchesSpecSpec).bare Rows.digestMatchesSpecUptoRow=true:=by kernel_rfl
theorem j8:jf8 Tryz.pinned.checked.prog 3 Tryz.f3 (Rows.OpenSpec.upto Rows.digestMatchesSpecSpec).bare Rows.digestMatchesSpecUptoRow=true:=by kernel_rfl
theorem j9:jf9 Tryz.pinned.checked.prog 3 Tryz.f3 (Rows.OpenSpec.upto Rows.digestMatchesSpecSpec).bare Rows.digestMatchesSpecUptoRow=true:=by kernel_rfl
theorem j10:jf10 Tryz.pinned.checked.prog 3 Tryz.f3 (Rows.OpenSpec.upto Rows.digestMatchesSpecSpec).bare Rows.digestMatchesSpecUptoRow=true:=by kernel_rfl
theorem j11:jf11 Tryz.pinned.checked.prog 3 Tryz.f3 (Rows.OpenSpec.upto Rows.digestMatchesSpecSpec).bare Rows.digestMatchesSpecUptoRow=true:=by kernel_rfl
theorem j12:jf12 Tryz.pinned.checked.prog 3 Tryz.f3 (Rows.OpenSpec.upto Rows.digestMatchesSpecSpec).bare Rows.digestMatchesSpecUptoRow=true:=by kernel_rfl
theorem j13:jf13 Tryz.pinned.checked.prog 3 Tryz.f3 (Rows.OpenSpec.upto Rows.digestMatchesSpecSpec).bare Rows.digestMatchesSpecUptoRow=true:=by kernel_rfl
theorem j14:jf14 Tryz.pinned.checked.prog 3 Tryz.f3 (Rows.OpenSpec.upto Rows.digestMatchesSpecSpec).bare Rows.digestMatchesSpecUptoRow=true:=by kernel_rfl
theorem j15:jf15 Tryz.pinned.checked.prog 3 Tryz.f3 (Rows.OpenSpec.upto Rows.digestMatchesSpecSpec).bare Rows.digestMatchesSpecUptoRow=true:=by kernel_rfl
theorem j16:jf16 Tryz.pinned.checked.prog 3 Tryz.f3 (Rows.OpenSpec.upto Rows.digestMatchesSpecSpec).bare Rows.digestMatchesSpecUptoRow=true:=by kernel_rfl
theorem j17:jf17 Tryz.pinned.checked.prog 3 Tryz.f3 (Rows.OpenSpec.upto Rows.digestMatchesSpecSpec).bare Rows.digestMatchesSpecUptoRow=true:=by kernel_rfl
theorem j18:jf18 Tryz.pinned.checked.prog 3 Tryz.f3 (Rows.OpenSpec.upto Rows.digestMatchesSpecSpec).bare Rows.digestMatchesSpecUptoRow=true:=by kernel_rfl
theorem j19:jf19 Tryz.pinned.checked.prog 3 Tryz.f3 (Rows.OpenSpec.upto Rows.digestMatchesSpecSpec).bare Rows.digestMatchesSpecUptoRow=true:=by kernel_rfl
theorem j20:jf20 Tryz.pinned.checked.prog 3 Tryz.f3 (Rows.OpenSpec.upto Rows.digestMatchesSpecSpec).bare Rows.digestMatchesSpecUptoRow=true:=by kernel_rfl
theorem j21:jf21 Tryz.pinned.checked.prog 3 Tryz.f3 (Rows.OpenSpec.upto Rows.digestMatchesSpecSpec).bare Rows.digestMatchesSpecUptoRow=true:=by kernel_rfl
theorem j22:jf22 Tryz.pinned.checked.prog 3 Tryz.f3 (Rows.OpenSpec.upto Rows.digestMatchesSpecSpec).bare Rows.digestMatchesSpecUptoRow=true:=by kernel_rfl
theorem j23:jf23 Tryz.pinned.checked.prog 3 Tryz.f3 (Rows.OpenSpec.upto Rows.digestMatchesSpecSpec).bare Rows.digestMatchesSpecUptoRow=true:=by kernel_rfl
theorem j24:jf24 Tryz.pinned.checked.prog 3 Tryz.f3 (Rows.OpenSpec.upto Rows.digestMatchesSpecSpec).bare Rows.digestMatchesSpecUptoRow=true:=by kernel_rfl
theorem j25:jf25 Tryz.pinned.checked.prog 3 Tryz.f3 (Rows.OpenSpec.upto Rows.digestMatchesSpecSpec).bare Rows.digestMatchesSpecUptoRow=true:=by kernel_rfl
theorem j26:jf26 Tryz.pinned.checked.prog 3 Tryz.f3 (Rows.OpenSpec.upto Rows.digestMatchesSpecSpec).bare Rows.digestMatchesSpecUptoRow=true:=by kernel_rfl
theorem j27:jf27 Tryz.pinned.checked.prog 3 Tryz.f3 (Rows.OpenSpec.upto Rows.digestMatchesSpecSpec).bare Rows.digestMatchesSpecUptoRow=true:=by kernel_rfl
theorem j28:jf28 Tryz.pinned.checked.prog 3 Tryz.f3 (Rows.OpenSpec.upto Rows.digestMatchesSpecSpec).bare Rows.digestMatchesSpecUptoRow=true:=by kernel_rfl
theorem j29:jf29 Tryz.pinned.checked.prog 3 Tryz.f3 (Rows.OpenSpec.upto Rows.digestMatchesSpecSpec).bare Rows.digestMatchesSpecUptoRow=true:=by kernel_rfl
theorem j30:jf30 Tryz.pinned.checked.prog 3 Tryz.f3 (Rows.OpenSpec.upto Rows.digestMatchesSpecSpec).bare Rows.digestMatchesSpecUptoRow=true:=by kernel_rfl
theorem j31:jf31 Tryz.pinned.checked.prog 3 Tryz.f3 (Rows.OpenSpec.upto Rows.digestMatchesSpecSpec).bare Rows.digestMatchesSpecUptoRow=true:=by kernel_rfl
theorem said:Rows.digestMatchesSpecUptoRow.holds Tryz.pinned (Rows.OpenSpec.upto Rows.digestMatchesSpecSpec):=
 OpenClaim.holds_of_cond 3 Tryz.f3 rfl rfl rfl rfl rfl rfl rfl ⟨rfl,rfl,rfl,rfl,rfl⟩ rfl rfl rfl rfl rfl (by kernel_rfl) func3 (wJb j0 j1 j2 j3 j4 j5 j6 j7 j8 j9 j10 j11 j12 j13 j14 j15 j16 j17 j18 j19 j20 j21 j22 j23 j24 j25 j26 j27 j28 j29 j30 j31)
  (of_decide_eq_true (by kernel_rfl)) (by unfold Func.isWrapper;first | (rw[if_pos (by decide+kernel)];kernel_rfl) | (rw[if_neg (by decide+kernel)];exact ⟨rfl,rfl⟩))
  (fun os started H enc _ F=>by rw[OpenClaim.pre_eq_preRow];exact lifted os started H enc F)
theorem plain (f : FuncId) (fn : Func) (hf : Tryz.pinned.checked.prog.funcNamed "posthouse/posthouselaw4.DigestMatchesSpec" = some f) (hfn : Tryz.pinned.checked.prog.funcs[f]? = some fn) :
 true=Tryz.pinned.checked.prog.looks []/\∀(j:Nat) t,fn.params[j]? =some t->Tryz.pinned.checked.prog.wantsStandIn t=false:=by
 obtain rfl : f = 3 := Option.some.inj ((show prog.funcNamed "posthouse/posthouselaw4.DigestMatchesSpec" = some 3 by kernel_rfl).symm.trans hf) |>.symm
 obtain rfl:fn=Tryz.f3:=(Option.some.inj (func3.symm.trans hfn)).symm;refine ⟨by kernel_rfl,fun j t ht=>?_⟩;rw[Tryz.params3]at ht;have hm:=Array.mem_of_getElem? ht;simp only[List.mem_toArray,jBy,List.not_mem_nil,or_false]at hm;rcases hm with rfl | rfl | rfl
 .exact (show prog.wantsStandIn 9=false by kernel_rfl)
 .exact (show prog.wantsStandIn 22=false by kernel_rfl)
 exact (show prog.wantsStandIn 3=false by kernel_rfl)
theorem proved:Rows.DigestMatchesSpecUptoCardSaid:=
 Claim7.holds_tied_plain_at .later [] _ _ _ _ said (fun _ h=>by cases h) (by kernel_rfl) (fun _ h=>by cases h) digestMatchesSpecUpto_row_tie rfl ⟨rfl,rfl⟩ (by kernel_rfl) rfl plain (by kernel_rfl)
#print axioms proved
end Go.Proofs.YtpphhgbmooofgaaGreatDoor.digestMatchesSpec
