/- The law DigestReadMatchesSpec holds for every input of bulk up to the given bound: it returns true and leaves its arguments as they were. Written by program. -/
import Derived.Test.YthbbeodmpnmopaaGreatDoorKDigestReadMatchesSpec6
set_option linter.unusedVariables false
set_option linter.unusedSimpArgs false
set_option maxRecDepth 100000
set_option maxHeartbeats 40000000
namespace Go.Proofs.YthbbeodmpnmopaaGreatDoor
open Go.RowKit Go.Proofs.Tryz
private theorem KRa(a0:Int)(r:Str)(hr:yOa a0=some r):Run prog 11 [.i a0] (.s r):=by
 unfold yOa at hr;refine rfx (fn:=f11) func11 fun g0 hg=>?_
 refine ax 12 4 hr (fun hr=>?_) fun hr=>?_
 .refine rn tk 5 rfl ?_;obtain ⟨v2,h3,hr⟩:=zaa hr;refine Vha tk h3 rfl rfl rfl rfl rfl ?_;exact kx 5 hr
 refine rn tk 5 rfl<|wq (k5a rfl rfl rfl) rfl rfl rfl ?_;cases hr
private theorem KSa(a0:Int)(r:Str)(hr:yPa a0=some r):Run prog 11 [.i a0] (.s r):=by
 unfold yPa at hr;refine rfx (fn:=f11) func11 fun g0 hg=>?_
 refine ax 12 4 hr (fun hr=>?_) fun hr=>?_
 .refine rn tk 5 rfl ?_;obtain ⟨v2,h3,hr⟩:=zaa hr;refine Vha tk h3 rfl rfl rfl rfl rfl ?_;exact kx 5 hr
 refine rn tk 5 rfl<|wq (k5a rfl rfl rfl) rfl rfl rfl ?_;refine clx 0 hr (KRa _) fun v4 _ hr=>?_
 refine rn tk 1 rfl<|wq (qka rfl rfl rfl) rfl rfl rfl ?_;refine clx 0 hr (KRa _) fun v6 _ hr=>?_
 obtain ⟨v8,h9,hr⟩:=zaa hr;refine wc h9 rfl rfl rfl ?_;exact kx 4 hr
private theorem KTa(a0:Int)(r:Str)(hr:yQa a0=some r):Run prog 11 [.i a0] (.s r):=by
 unfold yQa at hr;refine rfx (fn:=f11) func11 fun g0 hg=>?_
 refine ax 12 4 hr (fun hr=>?_) fun hr=>?_
 .refine rn tk 5 rfl ?_;obtain ⟨v2,h3,hr⟩:=zaa hr;refine Vha tk h3 rfl rfl rfl rfl rfl ?_;exact kx 5 hr
 refine rn tk 5 rfl<|wq (k5a rfl rfl rfl) rfl rfl rfl ?_;refine clx 0 hr (KSa _) fun v4 _ hr=>?_
 refine rn tk 1 rfl<|wq (qka rfl rfl rfl) rfl rfl rfl ?_;refine clx 0 hr (KSa _) fun v6 _ hr=>?_
 obtain ⟨v8,h9,hr⟩:=zaa hr;refine wc h9 rfl rfl rfl ?_;exact kx 4 hr
private theorem KUa(a0:Int)(r:Str)(hr:yRa a0=some r):Run prog 11 [.i a0] (.s r):=by
 unfold yRa at hr;refine rfx (fn:=f11) func11 fun g0 hg=>?_
 refine ax 12 4 hr (fun hr=>?_) fun hr=>?_
 .refine rn tk 5 rfl ?_;obtain ⟨v2,h3,hr⟩:=zaa hr;refine Vha tk h3 rfl rfl rfl rfl rfl ?_;exact kx 5 hr
 refine rn tk 5 rfl<|wq (k5a rfl rfl rfl) rfl rfl rfl ?_;refine clx 0 hr (KTa _) fun v4 _ hr=>?_
 refine rn tk 1 rfl<|wq (qka rfl rfl rfl) rfl rfl rfl ?_;refine clx 0 hr (KTa _) fun v6 _ hr=>?_
 obtain ⟨v8,h9,hr⟩:=zaa hr;refine wc h9 rfl rfl rfl ?_;exact kx 4 hr
private theorem KVa(a0:Int)(r:Str)(hr:ySa a0=some r):Run prog 11 [.i a0] (.s r):=by
 unfold ySa at hr;refine rfx (fn:=f11) func11 fun g0 hg=>?_
 refine ax 12 4 hr (fun hr=>?_) fun hr=>?_
 .refine rn tk 5 rfl ?_;obtain ⟨v2,h3,hr⟩:=zaa hr;refine Vha tk h3 rfl rfl rfl rfl rfl ?_;exact kx 5 hr
 refine rn tk 5 rfl<|wq (k5a rfl rfl rfl) rfl rfl rfl ?_;refine clx 0 hr (KUa _) fun v4 _ hr=>?_
 refine rn tk 1 rfl<|wq (qka rfl rfl rfl) rfl rfl rfl ?_;refine clx 0 hr (KUa _) fun v6 _ hr=>?_
 obtain ⟨v8,h9,hr⟩:=zaa hr;refine wc h9 rfl rfl rfl ?_;exact kx 4 hr
private theorem KWa(a0:Int)(r:Str)(hr:yTa a0=some r):Run prog 11 [.i a0] (.s r):=by
 unfold yTa at hr;refine rfx (fn:=f11) func11 fun g0 hg=>?_
 refine ax 12 4 hr (fun hr=>?_) fun hr=>?_
 .refine rn tk 5 rfl ?_;obtain ⟨v2,h3,hr⟩:=zaa hr;refine Vha tk h3 rfl rfl rfl rfl rfl ?_;exact kx 5 hr
 refine rn tk 5 rfl<|wq (k5a rfl rfl rfl) rfl rfl rfl ?_;refine clx 0 hr (KVa _) fun v4 _ hr=>?_
 refine rn tk 1 rfl<|wq (qka rfl rfl rfl) rfl rfl rfl ?_;refine clx 0 hr (KVa _) fun v6 _ hr=>?_
 obtain ⟨v8,h9,hr⟩:=zaa hr;refine wc h9 rfl rfl rfl ?_;exact kx 4 hr
private theorem KXa(a0:Int)(r:Str)(hr:yUa a0=some r):Run prog 11 [.i a0] (.s r):=by
 unfold yUa at hr;refine rfx (fn:=f11) func11 fun g0 hg=>?_
 refine ax 12 4 hr (fun hr=>?_) fun hr=>?_
 .refine rn tk 5 rfl ?_;obtain ⟨v2,h3,hr⟩:=zaa hr;refine Vha tk h3 rfl rfl rfl rfl rfl ?_;exact kx 5 hr
 refine rn tk 5 rfl<|wq (k5a rfl rfl rfl) rfl rfl rfl ?_;refine clx 0 hr (KWa _) fun v4 _ hr=>?_
 refine rn tk 1 rfl<|wq (qka rfl rfl rfl) rfl rfl rfl ?_;refine clx 0 hr (KWa _) fun v6 _ hr=>?_
 obtain ⟨v8,h9,hr⟩:=zaa hr;refine wc h9 rfl rfl rfl ?_;exact kx 4 hr
private theorem KYa(a0:Int)(r:Str)(hr:yVa a0=some r):Run prog 11 [.i a0] (.s r):=by
 unfold yVa at hr;refine rfx (fn:=f11) func11 fun g0 hg=>?_
 refine ax 12 4 hr (fun hr=>?_) fun hr=>?_
 .refine rn tk 5 rfl ?_;obtain ⟨v2,h3,hr⟩:=zaa hr;refine Vha tk h3 rfl rfl rfl rfl rfl ?_;exact kx 5 hr
 refine rn tk 5 rfl<|wq (k5a rfl rfl rfl) rfl rfl rfl ?_;refine clx 0 hr (KXa _) fun v4 _ hr=>?_
 refine rn tk 1 rfl<|wq (qka rfl rfl rfl) rfl rfl rfl ?_;refine clx 0 hr (KXa _) fun v6 _ hr=>?_
 obtain ⟨v8,h9,hr⟩:=zaa hr;refine wc h9 rfl rfl rfl ?_;exact kx 4 hr
private theorem KZa(a0:Int)(r:Str)(hr:yWa a0=some r):Run prog 11 [.i a0] (.s r):=by
 unfold yWa at hr;refine rfx (fn:=f11) func11 fun g0 hg=>?_
 refine ax 12 4 hr (fun hr=>?_) fun hr=>?_
 .refine rn tk 5 rfl ?_;obtain ⟨v2,h3,hr⟩:=zaa hr;refine Vha tk h3 rfl rfl rfl rfl rfl ?_;exact kx 5 hr
 refine rn tk 5 rfl<|wq (k5a rfl rfl rfl) rfl rfl rfl ?_;refine clx 0 hr (KYa _) fun v4 _ hr=>?_
 refine rn tk 1 rfl<|wq (qka rfl rfl rfl) rfl rfl rfl ?_;refine clx 0 hr (KYa _) fun v6 _ hr=>?_
 obtain ⟨v8,h9,hr⟩:=zaa hr;refine wc h9 rfl rfl rfl ?_;exact kx 4 hr
private theorem K0a(a0:Int)(r:Str)(hr:yXa a0=some r):Run prog 11 [.i a0] (.s r):=by
 unfold yXa at hr;refine rfx (fn:=f11) func11 fun g0 hg=>?_
 refine ax 12 4 hr (fun hr=>?_) fun hr=>?_
 .refine rn tk 5 rfl ?_;obtain ⟨v2,h3,hr⟩:=zaa hr;refine Vha tk h3 rfl rfl rfl rfl rfl ?_;exact kx 5 hr
 refine rn tk 5 rfl<|wq (k5a rfl rfl rfl) rfl rfl rfl ?_;refine clx 0 hr (KZa _) fun v4 _ hr=>?_
 refine rn tk 1 rfl<|wq (qka rfl rfl rfl) rfl rfl rfl ?_;refine clx 0 hr (KZa _) fun v6 _ hr=>?_
 obtain ⟨v8,h9,hr⟩:=zaa hr;refine wc h9 rfl rfl rfl ?_;exact kx 4 hr
private theorem Z0a(a0:Int)(r:Str)(hr:wTa a0=some r):Run prog 11 [.i a0] (.s r):=by
 unfold wTa at hr;refine rfx (fn:=f11) func11 fun g0 hg=>?_
 refine ax 12 4 hr (fun hr=>?_) fun hr=>?_
 .refine rn tk 5 rfl ?_;obtain ⟨v2,h3,hr⟩:=zaa hr;refine Vha tk h3 rfl rfl rfl rfl rfl ?_;exact kx 5 hr
 refine rn tk 5 rfl<|wq (k5a rfl rfl rfl) rfl rfl rfl ?_;refine clx 0 hr (K0a _) fun v4 _ hr=>?_
 refine rn tk 1 rfl<|wq (qka rfl rfl rfl) rfl rfl rfl ?_;refine clx 0 hr (K0a _) fun v6 _ hr=>?_
 obtain ⟨v8,h9,hr⟩:=zaa hr;refine wc h9 rfl rfl rfl ?_;exact kx 4 hr
private theorem Z1a(a0:Int)(r:Str)(hr:wUa a0=some r):Run prog 11 [.i a0] (.s r):=by
 unfold wUa at hr;refine rfx (fn:=f11) func11 fun g0 hg=>?_
 refine ax 12 4 hr (fun hr=>?_) fun hr=>?_
 .refine rn tk 5 rfl ?_;obtain ⟨v2,h3,hr⟩:=zaa hr;refine Vha tk h3 rfl rfl rfl rfl rfl ?_;exact kx 5 hr
 refine rn tk 5 rfl<|wq (k5a rfl rfl rfl) rfl rfl rfl ?_;refine clx 0 hr (Z0a _) fun v4 _ hr=>?_
 refine rn tk 1 rfl<|wq (qka rfl rfl rfl) rfl rfl rfl ?_;refine clx 0 hr (Z0a _) fun v6 _ hr=>?_
 obtain ⟨v8,h9,hr⟩:=zaa hr;refine wc h9 rfl rfl rfl ?_;exact kx 4 hr
theorem qRb(a0:Int)(r:Str)(hr:Qea a0=some r):Run prog 11 [.i a0] (.s r):=by
 unfold Qea at hr;refine rfx (fn:=f11) func11 fun g0 hg=>?_
 refine ax 12 4 hr (fun hr=>?_) fun hr=>?_
 .refine rn tk 5 rfl ?_;obtain ⟨v2,h3,hr⟩:=zaa hr;refine Vha tk h3 rfl rfl rfl rfl rfl ?_;exact kx 5 hr
 refine rn tk 5 rfl<|wq (k5a rfl rfl rfl) rfl rfl rfl ?_;refine clx 0 hr (Z1a _) fun v4 _ hr=>?_
 refine rn tk 1 rfl<|wq (qka rfl rfl rfl) rfl rfl rfl ?_;refine clx 0 hr (Z1a _) fun v6 _ hr=>?_
 obtain ⟨v8,h9,hr⟩:=zaa hr;refine wc h9 rfl rfl rfl ?_;exact kx 4 hr
theorem Yha(a0:Int)(a1:Int)(a2:Int)(r:Bool)(hr:R_In a0 a1 a2=some r):Run prog 8 [.i a0,.i a1,.i a2] (.bo r):=by
 unfold R_In at hr;refine rfx (fn:=f8) func8 fun g0 hg=>?_
 refine jq 5 hr [] [] (fun j1=>[(6,.bo j1)]) (fun _=>[]) (fun j1 hr=>?_) (fun j1 hr=>?_)
 .refine bx 5 10 hr (fun c2 hr=>?_) fun c2 hr=>?_
  .exact jx 6 hr
  exact jx 6 hr
 exact kx 1 hr
theorem qca(a0:UInt8)(r:Bool)(hr:qTa a0=some r):Run prog 31 [.u8 a0] (.bo r):=by
 unfold qTa at hr;refine rfx (fn:=f31) func31 fun g0 hg=>?_
 refine jq 5 hr [] [] (fun j1=>[(2,.bo j1)]) (fun _=>[]) (fun j1 hr=>?_) (fun j1 hr=>?_)
 .refine bx 4 5 hr (fun c2 hr=>?_) fun c2 hr=>?_
  .exact jx 5 hr
  exact jx 5 hr
 exact kx 1 hr
theorem Z2a(a0:Str)(a1:Str)(r:List Str)(hr:vOa a0 a1=some r):Run prog 34 [.s a0,.s a1] (.l cS r):=by
 unfold vOa at hr;refine rfx (fn:=f34) func34 fun g0 hg=>?_
 refine rn tk 8 rfl ?_;obtain ⟨v1,h2,hr⟩:=zaa hr;refine wc h2 rfl rfl rfl<|rn tk 1 rfl ?_;obtain ⟨v3,h4,hr⟩:=zaa hr;refine wc h4 rfl rfl rfl<|rn tk 14 rfl ?_;refine zUa 1007 (d:=7) 9 1 rfl rfl rfl (hO ?_);refine aq1 4 hr [7] [] (fun s5=>[(5,.s s5.1),(6,.i s5.2.1)]) (fun s5=>[(1007,.row 9 false 1 (List.map cS s5.2.2))]) (.exit 0) [7] [] (fun b6=>[(5,.s b6.1)]) (fun b6=>[(1007,.row 9 false 1 (List.map cS b6.2))]) (fun s5 x7 hr=>?_) (fun b6 hr=>?_)
 .unfold q2a at hr;refine ax 8 20 hr (fun hr=>?_) fun hr=>?_
  .refine aq1 15 hr [5,6,7] [1007] (fun s9=>[(8,.i s9.1),(9,.i s9.2)]) (fun _=>[]) (.exit 2) [5,6,7] [1007] (fun b10=>[(8,.i b10)]) (fun _=>[]) (fun s9 x11 hr=>?_) (fun b10 hr=>?_)
   .unfold kra at hr;refine jq 1 hr [5,6,7,8,9] [1007] (fun j12=>[(26,.bo j12)]) (fun _=>[]) (fun j12 hr=>?_) (fun j12 hr=>?_)
    .refine bx 4 23 hr (fun c13 hr=>?_) fun c13 hr=>?_
     .exact jx 4 hr
     exact jx 4 hr
    refine ax 0 26 hr (fun hr=>?_) fun hr=>?_
    .refine jq 2 hr [5,6,7,9] [1007] (fun j15=>[(8,.i j15)]) (fun _=>[]) (fun j15 hr=>?_) (fun j15 hr=>?_)
     .refine jq 1 hr [5,6,7,8,9] [1007] (fun j16=>[(45,.bo j16)]) (fun _=>[]) (fun j16 hr=>?_) (fun j16 hr=>?_)
      .refine bx 5 32 hr (fun c17 hr=>?_) fun c17 hr=>?_
       .refine rn tk 2 rfl ?_;obtain ⟨v18,h19,hr⟩:=zaa hr;refine ug rfl rfl rfl<|ws tk h19 rfl rfl rfl rfl ?_;obtain ⟨v20,h21,hr⟩:=zaa hr;refine ug rfl rfl rfl<|cl (qca _ _ h21) rfl rfl ?_;refine bx 2 38 hr (fun c22 hr=>?_) fun c22 hr=>?_
        .refine rn tk 3 rfl ?_;obtain ⟨v23,h24,hr⟩:=zaa hr;refine ug rfl rfl rfl<|ws tk h24 rfl rfl rfl rfl ?_;obtain ⟨v25,h26,hr⟩:=zaa hr;refine ug rfl rfl rfl<|cl (qca _ _ h26) rfl rfl ?_;exact jx 3 hr
        exact jx 8 hr
       exact jx 14 hr
      refine ax 0 45 hr (fun hr=>?_) fun hr=>?_
      .exact jx 5 hr
      exact jx 2 hr
     exact cx 5 hr
    exact ox 2 hr
   refine aq1 9 hr [5,6,7] [1007] (fun s28=>[(8,.i s28.1),(10,.i s28.2)]) (fun _=>[]) (.exit 4) [5,7] [1007] (fun b29=>[(8,.i b29)]) (fun _=>[]) (fun s28 x30 hr=>?_) (fun b29 hr=>?_)
   .unfold z7a at hr;refine jq 1 hr [5,6,7,8,10] [1007] (fun j31=>[(54,.bo j31)]) (fun _=>[]) (fun j31 hr=>?_) (fun j31 hr=>?_)
    .refine bx 6 51 hr (fun c32 hr=>?_) fun c32 hr=>?_
     .exact jx 4 hr
     exact jx 4 hr
    refine ax 0 54 hr (fun hr=>?_) fun hr=>?_
    .refine jq 2 hr [5,6,7,10] [1007] (fun j34=>[(8,.i j34)]) (fun _=>[]) (fun j34 hr=>?_) (fun j34 hr=>?_)
     .refine jq 1 hr [5,6,7,8,10] [1007] (fun j35=>[(73,.bo j35)]) (fun _=>[]) (fun j35 hr=>?_) (fun j35 hr=>?_)
      .refine bx 5 60 hr (fun c36 hr=>?_) fun c36 hr=>?_
       .refine rn tk 2 rfl ?_;obtain ⟨v37,h38,hr⟩:=zaa hr;refine ug rfl rfl rfl<|ws tk h38 rfl rfl rfl rfl ?_;obtain ⟨v39,h40,hr⟩:=zaa hr;refine ug rfl rfl rfl<|cl (qca _ _ h40) rfl rfl ?_;refine bx 2 66 hr (fun c41 hr=>?_) fun c41 hr=>?_
        .refine rn tk 3 rfl ?_;obtain ⟨v42,h43,hr⟩:=zaa hr;refine ug rfl rfl rfl<|ws tk h43 rfl rfl rfl rfl ?_;obtain ⟨v44,h45,hr⟩:=zaa hr;refine ug rfl rfl rfl<|cl (qca _ _ h45) rfl rfl ?_;exact jx 3 hr
        exact jx 8 hr
       exact jx 14 hr
      refine ax 0 73 hr (fun hr=>?_) fun hr=>?_
      .exact jx 5 hr
      exact jx 2 hr
     exact cx 5 hr
    exact ox 2 hr
   refine ax 9 76 hr (fun hr=>?_) fun hr=>?_
   .exact ox 3 hr
   refine rn tk 7 rfl ?_;obtain ⟨v48,h49,hr⟩:=zaa hr;refine wscH tk h49 rfl rfl rfl rfl<|wz cS ([v48]:List Str) tk rfl rfl (fun _=>rfl) rfl rfl rfl ?_;obtain ⟨v50,h51,hr⟩:=zaa hr;refine wa tk h51 rfl rfl rfl rfl (fun _=>rfl) rfl rfl<|rn tk 7 rfl ?_;obtain ⟨v52,h53,hr⟩:=zaa hr;refine wscL tk h53 rfl rfl rfl rfl ?_;exact cx 7 hr
  exact ox 2 hr
 refine rn tk 6 rfl<|wz cS ([b6.1]:List Str) tk rfl rfl (fun _=>rfl) rfl rfl rfl ?_;obtain ⟨v54,h55,hr⟩:=zaa hr;refine wa tk h55 rfl rfl rfl rfl (fun _=>rfl) rfl rfl<|rn tk 3 rfl ?_;refine kTa (d:=4) (F:=cS) (l:=v54) rfl rfl (hC ?_);exact kx 1 hr
theorem jxa(a0:zda)(r:List UInt8)(hr:kCa a0=some r):Run prog 13 [.agg [.l zba.pc a0.Fields,.l cU a0.Body]] (.l cU r):=by
 unfold kCa at hr;refine rfx (fn:=f13) func13 fun g0 hg=>?_
 refine rn tk 9 rfl ?_;refine zUa 1003 (d:=3) 5 1 rfl rfl rfl (hO ?_);refine aq1 9 hr [1,3] [1] (fun s1=>[(4,.i s1.1)]) (fun s1=>[(1003,.row 5 false 1 (List.map cU s1.2))]) (.exit 0) [1,3] [1] (fun _=>[]) (fun b2=>[(1003,.row 5 false 1 (List.map cU b2))]) (fun s1 x3 hr=>?_) (fun b2 hr=>?_)
 .unfold qpa at hr;refine rn tk 6 rfl<|wn tk rfl rfl rfl ?_;refine ax 3 11 hr (fun hr=>?_) fun hr=>?_
  .refine rn tk 5 rfl ?_;obtain ⟨v5,h6,hr⟩:=zaa hr;obtain ⟨v7,h8,hr⟩:=zaa hr;obtain ⟨v9,h10,hr⟩:=zaa hr;refine mdq 0 [(3,.ep [pS v5.Name,pS v5.Value]),(9,.ep [pS v7.Name,pS v7.Value]),(12,.l cS v9)] [1,3,4,5] (.cons rfl rfl (t0 (zGa (ZSa (f:=zba.pc) rfl rfl zya zMa rfl h6))) (.cons rfl rfl (t0 (zGa (ZSa (f:=zba.pc) rfl rfl zya zMa rfl h8))) (.cons rfl rfl (t0 (zua (Z2a v5.Name v7.Value v9 h10) rfl)) .nil))) ?_ mixed;refine aq1 7 hr [1,3,4,5] [1] (fun s11=>[(6,.i s11.1)]) (fun s11=>[(1003,.row 5 false 1 (List.map cU s11.2))]) (.exit 2) [1,3,4] [1] (fun _=>[]) (fun b12=>[(1003,.row 5 false 1 (List.map cU b12))]) (fun s11 x13 hr=>?_) (fun b12 hr=>?_)
   .unfold qoa at hr;refine rn tk 5 rfl<|wn tk rfl rfl rfl ?_;refine ax 3 30 hr (fun hr=>?_) fun hr=>?_
    .refine rn tk 9 rfl ?_;obtain ⟨v15,h16,hr⟩:=zaa hr;refine wi tk h16 rfl rfl rfl rfl rfl<|rn tk 1 rfl ?_;obtain ⟨v17,h18,hr⟩:=zaa hr;refine wo (wJa (k:=38) (l:=s11.2) (s:=v15) (lim:=140737488355328) rfl rfl rfl rfl zra zoa.u zxa rfl h18) rfl<|rn tk 5 rfl<|wz cU ([(13:UInt8),(10:UInt8)]:List UInt8) tk rfl rfl (fun _=>rfl) rfl rfl rfl ?_;obtain ⟨v19,h20,hr⟩:=zaa hr;refine wa tk h20 rfl rfl rfl rfl (fun _=>rfl) rfl rfl ?_;exact cx 9 hr
    exact ox 2 hr
   exact cx 8 hr
  exact ox 2 hr
 refine rn tk 5 rfl<|wz cU ([(13:UInt8),(10:UInt8)]:List UInt8) tk rfl rfl (fun _=>rfl) rfl rfl rfl ?_;obtain ⟨v21,h22,hr⟩:=zaa hr;refine wa tk h22 rfl rfl rfl rfl (fun _=>rfl) rfl rfl<|rn tk 8 rfl ?_;obtain ⟨v23,h24,hr⟩:=zaa hr;refine wa tk h24 rfl rfl rfl rfl (fun _=>rfl) rfl rfl<|rn tk 3 rfl ?_;refine kTa (d:=2) (F:=cU) (l:=v23) rfl rfl (hC ?_);exact kx 1 hr
theorem VMa(a0:Int)(a1:Int)(r:zja)(hr:R_At a0 a1=some r):Run prog 15 [.i a0,.i a1] (.agg [.i r.Code,.i r.Index]):=by
 unfold R_At at hr;refine rfx (fn:=Tryz.f15) func15 fun g0 hg=>?_
 exact kx 14 hr
theorem K1a(a0:zba)(r:Int)(hr:wqa a0=some r):Run prog 16 [.agg [.s a0.Name,.s a0.Value]] (.i r):=by
 unfold wqa at hr;refine rfx (fn:=f16) func16 fun g0 hg=>?_
 refine aq2 13 hr [1] [1] (fun s1=>[(3,.i s1)]) (fun _=>[]) (.exit 0) [1] [1] (fun _=>[]) (fun _=>[]) .ret [] [] (fun b3=>[(2,.i b3)]) (fun _=>[]) (fun s1 x5 hr=>?_) (fun b2 hr=>?_) (fun b3 hr=>?_)
 .unfold vpa at hr;refine ax 10 12 hr (fun hr=>?_) fun hr=>?_
  .refine jq 4 hr [1,3] [1] (fun j7=>[(28,.bo j7)]) (fun _=>[]) (fun j7 hr=>?_) (fun j7 hr=>?_)
   .refine rn tk 4 rfl ?_;obtain ⟨v8,h9,hr⟩:=zaa hr;refine ws tk h9 rfl rfl rfl rfl<|wu tk rfl rfl rfl ?_;refine clx 0 hr (Yha _ _ _) fun v10 _ hr=>?_
    refine bx 2 22 hr (fun c12 hr=>?_) fun c12 hr=>?_
    .exact jx 7 hr
    refine rn tk 3 rfl ?_;obtain ⟨v13,h14,hr⟩:=zaa hr;refine ug rfl rfl rfl<|ws tk h14 rfl rfl rfl rfl ?_;exact jx 3 hr
   refine ax 0 28 hr (fun hr=>?_) fun hr=>?_
   .exact ox 8 hr
   exact cx 8 hr
  exact ox 2 hr
 .refine clx 8 hr (Yha _ _ _) fun v16 _ hr=>?_
  refine ax 3 33 hr (fun hr=>?_) fun hr=>?_
  .exact kx 7 hr
  refine ax 11 37 hr (fun hr=>?_) fun hr=>?_
  .exact kx 7 hr
  refine aq2 17 hr [1,4] [1] (fun s20=>[(5,.i s20)]) (fun _=>[]) (.exit 2) [1,4] [1] (fun _=>[]) (fun _=>[]) .ret [] [] (fun b22=>[(2,.i b22)]) (fun _=>[]) (fun s20 x24 hr=>?_) (fun b21 hr=>?_) (fun b22 hr=>?_)
  .unfold vqa at hr;refine ax 8 43 hr (fun hr=>?_) fun hr=>?_
   .refine jq 4 hr [1,4,5] [1] (fun j26=>[(64,.bo j26)]) (fun _=>[]) (fun j26 hr=>?_) (fun j26 hr=>?_)
    .refine rn tk 4 rfl ?_;obtain ⟨v27,h28,hr⟩:=zaa hr;refine ws tk h28 rfl rfl rfl rfl ?_;refine bx 2 51 hr (fun c29 hr=>?_) fun c29 hr=>?_
     .exact jx 14 hr
     refine rn tk 3 rfl ?_;obtain ⟨v30,h31,hr⟩:=zaa hr;refine ug rfl rfl rfl<|ws tk h31 rfl rfl rfl rfl ?_;refine bx 3 58 hr (fun c32 hr=>?_) fun c32 hr=>?_
     .exact jx 7 hr
     refine rn tk 3 rfl ?_;obtain ⟨v33,h34,hr⟩:=zaa hr;refine ug rfl rfl rfl<|ws tk h34 rfl rfl rfl rfl ?_;exact jx 3 hr
    refine ax 0 64 hr (fun hr=>?_) fun hr=>?_
    .exact ox 8 hr
    exact cx 8 hr
   exact ox 2 hr
  .refine jq 3 hr [1] [1] (fun j36=>[(80,.bo j36)]) (fun _=>[]) (fun j36 hr=>?_) (fun j36 hr=>?_)
   .refine bx 4 67 hr (fun c37 hr=>?_) fun c37 hr=>?_
    .refine rn tk 2 rfl ?_;obtain ⟨v38,h39,hr⟩:=zaa hr;refine ug rfl rfl rfl<|ws tk h39 rfl rfl rfl rfl ?_;obtain ⟨v40,h41,hr⟩:=zaa hr;refine ug rfl rfl rfl<|cl (qca _ _ h41) rfl rfl ?_;refine bx 1 72 hr (fun c42 hr=>?_) fun c42 hr=>?_
     .exact jx 9 hr
     refine rn tk 4 rfl ?_;obtain ⟨v43,h44,hr⟩:=zaa hr;refine ug rfl rfl rfl<|ws tk h44 rfl rfl rfl rfl ?_;obtain ⟨v45,h46,hr⟩:=zaa hr;refine ug rfl rfl rfl<|cl (qca _ _ h46) rfl rfl ?_;exact jx 3 hr
    exact jx 14 hr
   refine ax 0 80 hr (fun hr=>?_) fun hr=>?_
   .exact kx 7 hr
   refine clx 8 hr (Z2a _ _) fun v48 _ hr=>?_
   refine aq2 10 hr [6] [] (fun s50=>[(7,.i s50)]) (fun _=>[]) (.exit 4) [] [] (fun _=>[]) (fun _=>[]) .ret [] [] (fun b52=>[(2,.i b52)]) (fun _=>[]) (fun s50 x54 hr=>?_) (fun b51 hr=>?_) (fun b52 hr=>?_)
   .unfold vra at hr;refine rn tk 5 rfl<|wn tk rfl rfl rfl ?_;refine ax 3 89 hr (fun hr=>?_) fun hr=>?_
    .refine rn tk 8 rfl ?_;obtain ⟨v56,h57,hr⟩:=zaa hr;refine wi tk h57 rfl rfl rfl rfl rfl ?_;refine ax 5 97 hr (fun hr=>?_) fun hr=>?_
     .exact ox 8 hr
     exact cx 8 hr
    exact ox 2 hr
   .exact kx 8 hr
   exact kx 2 hr
  exact kx 2 hr
 exact kx 2 hr
theorem jya(a0:zda)(r:zja)(hr:qPa a0=some r):Run prog 4 [.agg [.l zba.pc a0.Fields,.l cU a0.Body]] (.agg [.i r.Code,.i r.Index]):=by
 unfold qPa at hr;refine rfx (fn:=f4) func4 fun g0 hg=>?_
 refine rn tk 11 rfl<|wn tk rfl rfl rfl ?_;refine ax 3 11 hr (fun hr=>?_) fun hr=>?_
 .refine clx 2 hr (VMa _ _) fun v2 _ hr=>?_
  exact kx 5 hr
 refine aq2 9 hr [1,2] [2,1] (fun s4=>[(3,.i s4)]) (fun _=>[]) (.exit 0) [1,2] [2,1] (fun _=>[]) (fun _=>[]) .ret [2] [] (fun _=>[]) (fun b6=>[(2,.cells [.i b6.Code,.i b6.Index])]) (fun s4 x8 hr=>?_) (fun b5 hr=>?_) (fun b6 hr=>?_)
 .unfold vfa at hr;refine rn tk 6 rfl<|wn tk rfl rfl rfl ?_;refine ax 3 17 hr (fun hr=>?_) fun hr=>?_
  .refine rn tk 9 rfl ?_;obtain ⟨v10,h11,hr⟩:=zaa hr;refine wi tk h11 rfl rfl rfl rfl rfl ?_;refine clx 1 hr (K1a _) fun v12 _ hr=>?_
   refine ax 9 27 hr (fun hr=>?_) fun hr=>?_
   .refine clx 4 hr (VMa _ _) fun v15 _ hr=>?_
    exact ox 6 hr
   exact cx 8 hr
  exact ox 2 hr
 .refine jq 3 hr [1,2] [2,1] (fun j17=>[(40,.bo j17)]) (fun _=>[]) (fun j17 hr=>?_) (fun j17 hr=>?_)
  .refine rn tk 3 rfl<|wn tk rfl rfl rfl ?_;refine bx 2 35 hr (fun c18 hr=>?_) fun c18 hr=>?_
   .exact jx 6 hr
   refine rn tk 1 rfl ?_;obtain ⟨v19,h20,hr⟩:=zaa hr;refine ug rfl rfl rfl<|cl (jxa _ _ h20) rfl rfl<|ug rfl rfl rfl<|wn tk rfl rfl rfl ?_;exact jx 3 hr
  refine ax 0 40 hr (fun hr=>?_) fun hr=>?_
  .refine clx 2 hr (VMa _ _) fun v22 _ hr=>?_
   exact kx 5 hr
  refine aq2 14 hr [1,2] [2,1] (fun s24=>[(5,.i s24.1),(6,.i s24.2)]) (fun _=>[]) (.exit 2) [2] [2] (fun _=>[]) (fun _=>[]) .ret [2] [] (fun _=>[]) (fun b26=>[(2,.cells [.i b26.Code,.i b26.Index])]) (fun s24 x28 hr=>?_) (fun b25 hr=>?_) (fun b26 hr=>?_)
  .unfold kHa at hr;refine rn tk 6 rfl<|wn tk rfl rfl rfl ?_;refine ax 3 46 hr (fun hr=>?_) fun hr=>?_
   .refine jkq 2 [1,2] [2,1] (fun j30=>[(5,.i j30.1),(6,.i j30.2)]) (fun _=>[]) (fun j30=>qqa j30=some x28) ?_ ?_
    .refine rn tk 6 rfl ?_;obtain ⟨v31,h32,hr⟩:=zaa hr;refine wi tk h32 rfl rfl rfl rfl rfl ?_;refine jq 5 hr [1,2,5,6,7] [2,1] (fun j33=>[(72,.bo j33)]) (fun _=>[]) (fun j33 hr=>?_) (fun j33 hr=>?_)
     .refine bx 4 56 hr (fun c34 hr=>?_) fun c34 hr=>?_
      .refine rn tk 4 rfl<|ug rfl rfl rfl<|wn tk rfl rfl rfl ?_;refine bx 3 64 hr (fun c35 hr=>?_) fun c35 hr=>?_
       .refine rn tk 4 rfl ?_;obtain ⟨v36,h37,hr⟩:=zaa hr;refine ug rfl rfl rfl<|wi tk h37 rfl rfl rfl rfl rfl ?_;exact jx 4 hr
       exact jx 9 hr
      exact jx 17 hr
     refine ax 0 72 hr (fun hr=>?_) fun hr=>?_
     .refine rn tk 15 rfl<|jn ((0,(w64 (s24.2+1)))) hr rfl rfl
     refine jq 3 hr [1,2,5,6] [2,1] (fun j39=>[(80,.bo j39)]) (fun _=>[]) (fun j39 hr=>?_) (fun j39 hr=>?_)
     .refine bx 4 77 hr (fun c40 hr=>?_) fun c40 hr=>?_
      .exact jx 4 hr
      exact jx 4 hr
     refine ax 0 80 hr (fun hr=>?_) fun hr=>?_
     .refine clx 2 hr (VMa _ _) fun v42 _ hr=>?_
      exact ox 7 hr
     refine ax 15 85 hr (fun hr=>?_) fun hr=>?_
     .refine clx 2 hr (VMa _ _) fun v45 _ hr=>?_
      exact ox 6 hr
     refine rn tk 2 rfl<|jn (((w64 (s24.1+1)),s24.2)) hr rfl rfl
    intro j30 hr;unfold qqa at hr;exact cx 5 hr
   exact ox 2 hr
  .exact kx 9 hr
  exact kx 2 hr
 exact kx 2 hr
theorem khb(a0:Str)(r:Str)(hr:Kua a0=some r):Run prog 33 [.s a0] (.s r):=by
 unfold Kua at hr;refine rfx (fn:=f33) func33 fun g0 hg=>?_
 refine rn tk 8 rfl ?_;refine zUa 1003 (d:=3) 5 1 rfl rfl rfl (hO ?_);refine aq1 9 hr [0,3] [] (fun s1=>[(4,.i s1.1)]) (fun s1=>[(1003,.row 5 false 1 (List.map cU s1.2))]) (.exit 0) [3] [] (fun _=>[]) (fun b2=>[(1003,.row 5 false 1 (List.map cU b2))]) (fun s1 x3 hr=>?_) (fun b2 hr=>?_)
 .unfold vQa at hr;refine ax 9 9 hr (fun hr=>?_) fun hr=>?_
  .refine rn tk 8 rfl ?_;obtain ⟨v5,h6,hr⟩:=zaa hr;refine ws tk h6 rfl rfl rfl rfl ?_;refine jq 3 hr [0,3,4] [1003] (fun j7=>[(5,.u8 j7)]) (fun _=>[]) (fun j7 hr=>?_) (fun j7 hr=>?_)
   .refine jq 0 hr [0,3,4,5] [1003] (fun j8=>[(20,.bo j8)]) (fun _=>[]) (fun j8 hr=>?_) (fun j8 hr=>?_)
    .refine bx 4 17 hr (fun c9 hr=>?_) fun c9 hr=>?_
     .exact jx 4 hr
     exact jx 4 hr
    refine ax 0 20 hr (fun hr=>?_) fun hr=>?_
    .exact jx 3 hr
    exact jx 1 hr
   refine rn tk 3 rfl<|wz cU ([j7]:List UInt8) tk rfl rfl (fun _=>rfl) rfl rfl rfl ?_;obtain ⟨v11,h12,hr⟩:=zaa hr;refine wa tk h12 rfl rfl rfl rfl (fun _=>rfl) rfl rfl ?_;exact cx 9 hr
  exact ox 2 hr
 refine aq1 4 hr [3] [] (fun _=>[]) (fun s13=>[(1003,.row 5 false 1 (List.map cU s13))]) (.exit 2) [3] [] (fun _=>[]) (fun b14=>[(1003,.row 5 false 1 (List.map cU b14))]) (fun s13 x15 hr=>?_) (fun b14 hr=>?_)
 .unfold wZa at hr;refine jq 1 hr [3] [1003] (fun j16=>[(33,.bo j16)]) (fun _=>[]) (fun j16 hr=>?_) (fun j16 hr=>?_)
  .refine rn tk 2 rfl<|wnh tk rfl rfl rfl rfl ?_;refine bx 2 28 hr (fun c17 hr=>?_) fun c17 hr=>?_
   .refine rn tk 1 rfl ?_;refine jia (d:=29) (F:=cU) (l:=s13) rfl rfl (hO ?_);obtain ⟨v18,h19,hr⟩:=zaa hr;refine ug rfl rfl rfl<|wi tk h19 rfl rfl rfl rfl rfl<|rn tk 1 rfl ?_;obtain ⟨v20,h21,hr⟩:=zaa hr;refine ug rfl rfl rfl<|cl (qca _ _ h21) rfl rfl ?_;exact jx 2 hr
   exact jx 6 hr
  refine ax 0 33 hr (fun hr=>?_) fun hr=>?_
  .refine rn tk 5 rfl ?_;obtain ⟨v23,h24,hr⟩:=zaa hr;refine wo (wNb (k:=35) (F:=cU) (l:=s13) rfl rfl rfl rfl zra zxa h24) rfl ?_;exact cx 3 hr
  exact ox 2 hr
 refine rn tk 4 rfl ?_;refine kTa (d:=3) (F:=cU) (l:=b14) rfl rfl (hC ?_);refine aq1 0 hr [] [] (fun s26=>[(3,.l cU s26)]) (fun _=>[]) (.exit 4) [] [] (fun b27=>[(3,.l cU b27)]) (fun _=>[]) (fun s26 x28 hr=>?_) (fun b27 hr=>?_)
 .unfold w0a at hr;refine jq 1 hr [3] [] (fun j29=>[(47,.bo j29)]) (fun _=>[]) (fun j29 hr=>?_) (fun j29 hr=>?_)
  .refine rn tk 2 rfl<|wn tk rfl rfl rfl ?_;refine bx 2 39 hr (fun c30 hr=>?_) fun c30 hr=>?_
   .refine rn tk 2 rfl<|ug rfl rfl rfl<|wn tk rfl rfl rfl<|rn tk 1 rfl ?_;obtain ⟨v31,h32,hr⟩:=zaa hr;refine ug rfl rfl rfl<|wi tk h32 rfl rfl rfl rfl rfl<|rn tk 1 rfl ?_;obtain ⟨v33,h34,hr⟩:=zaa hr;refine ug rfl rfl rfl<|cl (qca _ _ h34) rfl rfl ?_;exact jx 2 hr
   exact jx 9 hr
  refine ax 0 47 hr (fun hr=>?_) fun hr=>?_
  .refine rn tk 6 rfl<|wn tk rfl rfl rfl<|rn tk 1 rfl ?_;obtain ⟨v36,h37,hr⟩:=zaa hr;refine wlH tk h37 rfl rfl rfl (fun _=>rfl) rfl ?_;exact cx 3 hr
  exact ox 2 hr
 refine rn tk 5 rfl<|wb tk rfl rfl rfl ?_;exact kx 4 hr
theorem vYb(a0:Str)(r:Str × Str)(hr:YMa a0=some r):Run prog 32 [.s a0] (.tup [.s r.1,.s r.2]):=by
 unfold YMa at hr;refine rfx (fn:=f32) func32 fun g0 hg=>?_
 refine aq2 13 hr [0] [] (fun s1=>[(4,.i s1)]) (fun _=>[]) (.exit 0) [] [] (fun _=>[]) (fun _=>[]) .ret [] [] (fun b3=>[(2,.s b3.1),(3,.s b3.2)]) (fun _=>[]) (fun s1 x5 hr=>?_) (fun b2 hr=>?_) (fun b3 hr=>?_)
 .unfold Qfa at hr;refine ax 9 9 hr (fun hr=>?_) fun hr=>?_
  .refine rn tk 9 rfl ?_;obtain ⟨v7,h8,hr⟩:=zaa hr;refine ws tk h8 rfl rfl rfl rfl ?_;refine ax 3 15 hr (fun hr=>?_) fun hr=>?_
   .exact cx 9 hr
   refine aq1 10 hr [0,4] [] (fun s10=>[(5,.i s10)]) (fun _=>[]) (.exit 2) [0,4] [] (fun b11=>[(5,.i b11)]) (fun _=>[]) (fun s10 x12 hr=>?_) (fun b11 hr=>?_)
   .unfold yza at hr;refine jq 1 hr [0,4,5] [] (fun j13=>[(25,.bo j13)]) (fun _=>[]) (fun j13 hr=>?_) (fun j13 hr=>?_)
    .refine bx 4 19 hr (fun c14 hr=>?_) fun c14 hr=>?_
     .refine rn tk 3 rfl ?_;obtain ⟨v15,h16,hr⟩:=zaa hr;refine ug rfl rfl rfl<|ws tk h16 rfl rfl rfl rfl ?_;obtain ⟨v17,h18,hr⟩:=zaa hr;refine ug rfl rfl rfl<|cl (qca _ _ h18) rfl rfl ?_;exact jx 2 hr
     exact jx 7 hr
    refine ax 0 25 hr (fun hr=>?_) fun hr=>?_
    .exact cx 9 hr
    exact ox 2 hr
   refine rn tk 7 rfl ?_;obtain ⟨v20,h21,hr⟩:=zaa hr;refine wscH tk h21 rfl rfl rfl rfl ?_;refine clx 1 hr (K1a _) fun v22 _ hr=>?_
   refine ax 3 33 hr (fun hr=>?_) fun hr=>?_
   .refine rn tk 1 rfl ?_;obtain ⟨v25,h26,hr⟩:=zaa hr;obtain ⟨v27,h28,hr⟩:=zaa hr;refine mdq 0 [(2,.s v25),(6,.s v27)] [2,3] (.cons rfl rfl (t0 (zGa (v3b rfl rfl zoa h26))) (.cons rfl rfl (t0 (zGa (ztb rfl rfl zoa h28))) .nil)) ?_ mixed;exact ox 5 hr
   exact ox 11 hr
  exact ox 2 hr
 .exact kx 9 hr
 exact kx 2 hr
theorem JHa(a0:List UInt8)(r:Str × Int)(hr:Zba a0=some r):Run prog 30 [.l cU a0] (.tup [.s r.1,.i r.2]):=by
 unfold Zba at hr;refine rfx (fn:=f30) func30 fun g0 hg=>?_
 refine aq2 13 hr [0] [] (fun s1=>[(4,.i s1)]) (fun _=>[]) (.exit 0) [0] [] (fun _=>[]) (fun _=>[]) .ret [] [] (fun b3=>[(2,.s b3.1),(3,.i b3.2)]) (fun _=>[]) (fun s1 x5 hr=>?_) (fun b2 hr=>?_) (fun b3 hr=>?_)
 .unfold yoa at hr;refine rn tk 5 rfl<|wn tk rfl rfl rfl ?_;refine ax 3 8 hr (fun hr=>?_) fun hr=>?_
  .refine rn tk 9 rfl ?_;obtain ⟨v7,h8,hr⟩:=zaa hr;refine wi tk h8 rfl rfl rfl rfl rfl ?_;refine ax 4 15 hr (fun hr=>?_) fun hr=>?_
   .exact cx 9 hr
   refine jq 3 hr [0,4] [] (fun j10=>[(25,.bo j10)]) (fun _=>[]) (fun j10 hr=>?_) (fun j10 hr=>?_)
   .refine bx 4 18 hr (fun c11 hr=>?_) fun c11 hr=>?_
    .refine rn tk 3 rfl ?_;obtain ⟨v12,h13,hr⟩:=zaa hr;refine ug rfl rfl rfl<|wi tk h13 rfl rfl rfl rfl rfl ?_;exact jx 4 hr
    exact jx 8 hr
   refine ax 0 25 hr (fun hr=>?_) fun hr=>?_
   .refine rn tk 5 rfl ?_;obtain ⟨v15,h16,hr⟩:=zaa hr;refine wlH tk h16 rfl rfl rfl (fun _=>rfl) rfl<|wb tk rfl rfl rfl ?_;exact ox 10 hr
   refine rn tk 6 rfl ?_;obtain ⟨v17,h18,hr⟩:=zaa hr;refine wlH tk h18 rfl rfl rfl (fun _=>rfl) rfl<|wb tk rfl rfl rfl ?_;exact ox 9 hr
  exact ox 2 hr
 .refine rn tk 5 rfl<|wb tk rfl rfl rfl<|rn tk 1 rfl<|wn tk rfl rfl rfl ?_;exact kx 5 hr
 exact kx 2 hr
theorem Jha(a0:List UInt8)(r:zda × Bool)(hr:wsa a0=some r):Run prog 12 [.l cU a0] (.tup [.agg [.l zba.pc r.1.Fields,.l cU r.1.Body],.bo r.2]):=by
 unfold wsa at hr;refine rfx (fn:=f12) func12 fun g0 hg=>?_
 refine rn tk 9 rfl ?_;refine Wra 1004 (o:=4) (j:=0) 51 2 rfl rfl rfl rfl (hO ?_);refine zza 2004 (o:=4) (j:=1) 5 1 rfl rfl rfl rfl (hO ?_);refine aq1 9 hr [0,2,4] [2004,4] (fun s1=>[(5,.i s1.1)]) (fun s1=>[(1004,.row 51 true 2 (List.map zba.pc s1.2)),(2,.cells [.l zba.pc ([]),.l cU ([])])]) (.exit 0) [0,2,4] [2004,4] (fun b2=>[(5,.i b2.1)]) (fun b2=>[(1004,.row 51 true 2 (List.map zba.pc b2.2)),(2,.cells [.l zba.pc ([]),.l cU ([])])]) (fun s1 x3 hr=>?_) (fun b2 hr=>?_)
 .unfold vua at hr;refine rn tk 5 rfl<|wn tk rfl rfl rfl ?_;refine ax 3 16 hr (fun hr=>?_) fun hr=>?_
  .refine rn tk 7 rfl ?_;obtain ⟨v5,h6,hr⟩:=zaa hr;refine wlL tk h6 rfl rfl rfl (fun _=>rfl) rfl ?_;refine clx 0 hr (JHa _) fun v7 _ hr=>?_
   refine ax 14 25 hr (fun hr=>?_) fun hr=>?_
   .exact ox 11 hr
   refine rn tk 6 rfl<|wnh tk rfl rfl rfl rfl ?_;refine jq 5 hr [0,2,4,5,6,7] [2004,1004,4,2] (fun j10=>[(8,.i j10.1),(39,.bo j10.2)]) (fun _=>[]) (fun j10 hr=>?_) (fun j10 hr=>?_)
   .refine rn tk 2 rfl ?_;obtain ⟨v11,h12,hr⟩:=zaa hr;refine ws tk h12 rfl rfl rfl rfl ?_;refine clx 0 hr (qca _) fun v13 _ hr=>?_
    refine bx 1 36 hr (fun c15 hr=>?_) fun c15 hr=>?_
    .exact jx 4 hr
    exact jx 4 hr
   refine ax 0 39 hr (fun hr=>?_) fun hr=>?_
   .refine rn tk 1 rfl ?_;obtain ⟨v17,h18,hr⟩:=zaa hr;obtain ⟨v19,h20,hr⟩:=zaa hr;obtain ⟨v21,h22,hr⟩:=zaa hr;obtain ⟨v23,h24,hr⟩:=zaa hr;obtain ⟨v25,h26,hr⟩:=zaa hr;refine mz [some (.ptr 4 0),some (.hs 1004 0),some (.i j10.1),some (.ptr 4 0),some (.hs 1004 0),some (.i j10.1),some (.hp 1004 (Int.toNat j10.1) 0),some (.hp 1004 (Int.toNat j10.1) 1),some (.s v19.Value),some (.s v7.1),some (.s v21),some (.hp 1004 (Int.toNat j10.1) 0),some (.hp 1004 (Int.toNat j10.1) 1),none] (fun f s=>[((bt 14 0),f,s),((bt 14 8192),f,(Sto.upd s 1004 (.row 51 true 2 (List.map zba.pc ((List.set s1.2 (Int.toNat j10.1) ((zba.mk v25.Name v21))))))))]) mixed (by kernel_rfl) (.cons (mn tk [6,8,10,11,13] (by kernel_rfl) (.cons (.pure rfl rfl (zGa (Zza (F:=zba.pc) (l:=s1.2) (n:=j10.1) rfl rfl rfl zya zMa h18))) (.cons (.pure rfl rfl (zGa (v1a (F:=zba.pc) (l:=s1.2) (n:=j10.1) (j:=1) rfl rfl zoa rfl h20 rfl))) (.cons (.pure rfl rfl (zGa (vWa rfl rfl h22))) (.cons (.pure rfl rfl (zGa (Zza (F:=zba.pc) (l:=s1.2) (n:=j10.1) rfl rfl rfl zya zMa h24))) (.cons (mst 1 rfl (kJb (F:=zba.pc) (l:=s1.2) (n:=j10.1) (j:=1) (v:=v25) (v' :=((zba.mk v25.Name v21))) (pcs:=[pS v21]) rfl rfl rfl zoa rfl h26 rfl rfl) (by kernel_rfl)) .nil)))))) (.cons (mf tk [] [(0,.l cU a0),(2,.ptr 2 0),(4,.ptr 4 0),(5,.i s1.1),(7,.i v7.2)] (by kernel_rfl) .nil (fc rfl (fc rfl (fc rfl (fc rfl (fc rfl fn))))) (hA ?_)) .nil));exact cx 12 hr
   refine clx 5 hr (vYb _) fun v27 _ hr=>?_
   refine ax 14 62 hr (fun hr=>?_) fun hr=>?_
   .exact ox 3 hr
   refine rn tk 9 rfl<|wz zba.pc ([(zba.mk v27.1 v27.2)]:List zba) tk rfl rfl (fun _=>rfl) rfl rfl rfl ?_;obtain ⟨v30,h31,hr⟩:=zaa hr;refine wa tk h31 rfl rfl rfl rfl (fun _=>rfl) rfl rfl ?_;exact cx 11 hr
  exact ox 2 hr
 refine rn tk 7 rfl<|wnh tk rfl rfl rfl rfl ?_;refine ax 3 77 hr (fun hr=>?_) fun hr=>?_
 .exact kx 9 hr
 refine aq1 9 hr [0,2,4,5] [2004,4,2] (fun s33=>[(11,.i s33.1)]) (fun s33=>[(1004,.row 51 true 2 (List.map zba.pc s33.2))]) (.exit 2) [0,2,4,5] [2004,4,2] (fun _=>[]) (fun b34=>[(1004,.row 51 true 2 (List.map zba.pc b34))]) (fun s33 x35 hr=>?_) (fun b34 hr=>?_)
 .unfold vva at hr;refine rn tk 6 rfl<|wnh tk rfl rfl rfl rfl ?_;refine ax 3 83 hr (fun hr=>?_) fun hr=>?_
  .refine rn tk 4 rfl ?_;obtain ⟨v37,h38,hr⟩:=zaa hr;obtain ⟨v39,h40,hr⟩:=zaa hr;obtain ⟨v41,h42,hr⟩:=zaa hr;obtain ⟨v43,h44,hr⟩:=zaa hr;obtain ⟨v45,h46,hr⟩:=zaa hr;refine mz [some (.ptr 4 0),some (.hs 1004 0),some (.i s33.1),some (.ptr 4 0),some (.hs 1004 0),some (.i s33.1),some (.hp 1004 (Int.toNat s33.1) 0),some (.hp 1004 (Int.toNat s33.1) 1),some (.s v39.Value),some (.s v41),some (.hp 1004 (Int.toNat s33.1) 0),some (.hp 1004 (Int.toNat s33.1) 1),none] (fun f s=>[((bt 13 0),f,s),((bt 13 4096),f,(Sto.upd s 1004 (.row 51 true 2 (List.map zba.pc ((List.set s33.2 (Int.toNat s33.1) ((zba.mk v45.Name v41))))))))]) mixed (by kernel_rfl) (.cons (mn tk [6,8,9,10,12] (by kernel_rfl) (.cons (.pure rfl rfl (zGa (Zza (F:=zba.pc) (l:=s33.2) (n:=s33.1) rfl rfl rfl zya zMa h38))) (.cons (.pure rfl rfl (zGa (v1a (F:=zba.pc) (l:=s33.2) (n:=s33.1) (j:=1) rfl rfl zoa rfl h40 rfl))) (.cons (.pure rfl rfl (zua (khb v39.Value v41 h42) rfl)) (.cons (.pure rfl rfl (zGa (Zza (F:=zba.pc) (l:=s33.2) (n:=s33.1) rfl rfl rfl zya zMa h44))) (.cons (mst 1 rfl (kJb (F:=zba.pc) (l:=s33.2) (n:=s33.1) (j:=1) (v:=v45) (v' :=((zba.mk v45.Name v41))) (pcs:=[pS v41]) rfl rfl rfl zoa rfl h46 rfl rfl) (by kernel_rfl)) .nil)))))) (.cons (mf tk [] [(0,.l cU a0),(2,.ptr 2 0),(4,.ptr 4 0),(5,.i b2.1),(11,.i s33.1)] (by kernel_rfl) .nil (fc rfl (fc rfl (fc rfl (fc rfl (fc rfl fn))))) (hA ?_)) .nil));exact cx 7 hr
  exact ox 2 hr
 refine aq1 10 hr [0,2,4] [1004,4,2] (fun s47=>[(12,.i s47.1)]) (fun s47=>[(2004,.row 5 false 1 (List.map cU s47.2))]) (.exit 4) [2,4] [1004,4,2] (fun _=>[]) (fun b48=>[(2004,.row 5 false 1 (List.map cU b48))]) (fun s47 x49 hr=>?_) (fun b48 hr=>?_)
 .unfold qSa at hr;refine rn tk 5 rfl<|wn tk rfl rfl rfl ?_;refine ax 3 102 hr (fun hr=>?_) fun hr=>?_
  .refine jq 2 hr [0,2,4] [1004,4,2] (fun j51=>[(12,.i j51.1)]) (fun j51=>[(2004,.row 5 false 1 (List.map cU j51.2))]) (fun j51 hr=>?_) (fun j51 hr=>?_)
   .refine jq 2 hr [0,2,4,12] [2004,1004,4,2] (fun j52=>[(116,.bo j52)]) (fun _=>[]) (fun j52 hr=>?_) (fun j52 hr=>?_)
    .refine rn tk 3 rfl ?_;obtain ⟨v53,h54,hr⟩:=zaa hr;refine wi tk h54 rfl rfl rfl rfl rfl ?_;refine bx 3 110 hr (fun c55 hr=>?_) fun c55 hr=>?_
     .exact jx 7 hr
     refine rn tk 2 rfl ?_;obtain ⟨v56,h57,hr⟩:=zaa hr;refine ug rfl rfl rfl<|wi tk h57 rfl rfl rfl rfl rfl ?_;exact jx 4 hr
    refine ax 0 116 hr (fun hr=>?_) fun hr=>?_
    .refine rn tk 4 rfl<|wz cU ([(13:UInt8),(10:UInt8)]:List UInt8) tk rfl rfl (fun _=>rfl) rfl rfl rfl ?_;obtain ⟨v59,h60,hr⟩:=zaa hr;refine wa tk h60 rfl rfl rfl rfl (fun _=>rfl) rfl rfl ?_;refine jq 4 hr [0,2,4] [2004,1004,4,2] (fun j61=>[(12,.i j61)]) (fun _=>[]) (fun j61 hr=>?_) (fun j61 hr=>?_)
     .refine jq 0 hr [0,2,4,12] [2004,1004,4,2] (fun j62=>[(141,.bo j62)]) (fun _=>[]) (fun j62 hr=>?_) (fun j62 hr=>?_)
      .refine rn tk 3 rfl ?_;obtain ⟨v63,h64,hr⟩:=zaa hr;refine wi tk h64 rfl rfl rfl rfl rfl ?_;refine bx 3 127 hr (fun c65 hr=>?_) fun c65 hr=>?_
       .refine rn tk 3 rfl<|ug rfl rfl rfl<|wn tk rfl rfl rfl ?_;refine bx 3 134 hr (fun c66 hr=>?_) fun c66 hr=>?_
        .refine rn tk 3 rfl ?_;obtain ⟨v67,h68,hr⟩:=zaa hr;refine ug rfl rfl rfl<|wi tk h68 rfl rfl rfl rfl rfl ?_;exact jx 4 hr
        exact jx 8 hr
       exact jx 15 hr
      refine ax 0 141 hr (fun hr=>?_) fun hr=>?_
      .exact jx 5 hr
      exact jx 1 hr
     exact jx 3 hr
    refine rn tk 2 rfl ?_;obtain ⟨v70,h71,hr⟩:=zaa hr;obtain ⟨v72,h73,hr⟩:=zaa hr;refine mz [some (.ptr 4 1),none,some (.l cU a0),some (.i s47.1),some (.ep [pU v70]),some (.u8 v70),some (.l cU (([v70]:List UInt8))),none,some (.ptr 4 1),none] (fun f s=>[((bt 10 0),f,s),((bt 10 2),((145,.hs 2004 0)::f),s),((bt 10 130),((151,.hs 2004 0)::(Fr.clrs [2004] ((145,.hs 2004 0)::f))),(Sto.upd (Sto.clr 2004 s) 2004 (.row 5 false 1 (List.map cU v72)))),((bt 10 642),((151,.hs 2004 0)::(Fr.clrs [2004] ((145,.hs 2004 0)::f))),(Sto.upd (Sto.upd (Sto.clr 2004 s) 2004 (.row 5 false 1 (List.map cU v72))) 4 (.cells [.hs 1004 0,.hs 2004 0])))]) mixed (by kernel_rfl) (.cons (mn tk [1,4,6] (by kernel_rfl) (.cons (mdt 1 rfl (hv_g rfl rfl (mqz tk rfl)) (by kernel_rfl)) (.cons (.pure rfl rfl (zGa (ZSa (f:=cU) rfl rfl zra zxa rfl h71))) (.cons (.pure rfl rfl (yba (F:=cU) (l:=([v70]:List UInt8)) zra zxa rfl (fun _=>rfl) rfl rfl)) .nil)))) (.cons (mn tk [4,6,7] (by kernel_rfl) (.cons (.pure rfl rfl (zGa (ZSa (f:=cU) rfl rfl zra zxa rfl h71))) (.cons (.pure rfl rfl (yba (F:=cU) (l:=([v70]:List UInt8)) zra zxa rfl (fun _=>rfl) rfl rfl)) (.cons (mdt 2 rfl (YBa (F:=cU) (l:=s47.2) (xs:=(([v70]:List UInt8))) (lim:=140737488355328) rfl rfl rfl rfl zra zxa rfl rfl (fun _=>rfl) rfl h73) (by kernel_rfl)) .nil)))) (.cons (mn tk [9] (by kernel_rfl) (.cons (mst 3 rfl (hv_store rfl rfl rfl zra rfl rfl) (by kernel_rfl)) .nil)) (.cons (mf tk [] [(0,.l cU a0),(2,.ptr 2 0),(4,.ptr 4 0),(12,.i s47.1)] (by kernel_rfl) .nil (fc rfl (fc rfl (fc rfl (fc rfl fn)))) (hA ?_)) .nil))));exact jx 1 hr
   exact cx 5 hr
  exact ox 2 hr
 refine rn tk 6 rfl ?_;refine Vea 1004 rfl (hO ?_);refine v2a (d' :=153) (j:=0) (F:=zba.pc) (l:=b34) rfl rfl rfl (hO ?_);refine v2a (d' :=153) (j:=1) (F:=cU) (l:=b48) rfl rfl rfl (hO ?_);refine clx 0 hr (jya _) fun v74 _ hr=>?_
 refine ax 4 156 hr (fun hr=>?_) fun hr=>?_
 .exact kx 9 hr
 refine rn tk 9 rfl ?_;refine Zta (o:=2) (j:=0) (F:=zba.pc) (l:=b34) rfl rfl rfl (hC ?_);refine Zta (o:=2) (j:=1) (F:=cU) (l:=b48) rfl rfl rfl (hC ?_);exact kx 1 hr
theorem Wla(a0:zda)(a1:zda)(r:Bool)(hr:v5a a0 a1=some r):Run prog 14 [.agg [.l zba.pc a0.Fields,.l cU a0.Body],.agg [.l zba.pc a1.Fields,.l cU a1.Body]] (.bo r):=by
 unfold v5a at hr;refine rfx (fn:=Tryz.f14) func14 fun g0 hg=>?_
 refine jq 8 hr [2,3] [3,2] (fun j1=>[(21,.bo j1)]) (fun _=>[]) (fun j1 hr=>?_) (fun j1 hr=>?_)
 .refine rn tk 3 rfl<|wn tk rfl rfl rfl<|rn tk 2 rfl<|wn tk rfl rfl rfl ?_;refine bx 2 13 hr (fun c2 hr=>?_) fun c2 hr=>?_
  .exact jx 9 hr
  refine rn tk 2 rfl<|ug rfl rfl rfl<|wb tk rfl rfl rfl<|rn tk 2 rfl<|ug rfl rfl rfl<|wb tk rfl rfl rfl ?_;exact jx 3 hr
 refine ax 0 21 hr (fun hr=>?_) fun hr=>?_
 .exact kx 7 hr
 refine aq2 9 hr [2,3] [3,2] (fun s4=>[(5,.i s4)]) (fun _=>[]) (.exit 0) [] [] (fun _=>[]) (fun _=>[]) .ret [] [] (fun b6=>[(4,.bo b6)]) (fun _=>[]) (fun s4 x8 hr=>?_) (fun b5 hr=>?_) (fun b6 hr=>?_)
 .unfold vAa at hr;refine rn tk 6 rfl<|wn tk rfl rfl rfl ?_;refine ax 3 26 hr (fun hr=>?_) fun hr=>?_
  .refine rn tk 5 rfl ?_;obtain ⟨v10,h11,hr⟩:=zaa hr;obtain ⟨v12,h13,hr⟩:=zaa hr;refine mdq 0 [(3,.ep [pS v10.Name,pS v10.Value]),(8,.ep [pS v12.Name,pS v12.Value]),(10,.bo ((!(Z4a [(v10.Name==v12.Name),(v10.Value==v12.Value)]))))] [2,3,5,39] (.cons rfl rfl (t0 (zGa (ZSa (f:=zba.pc) rfl rfl zya zMa rfl h11))) (.cons rfl rfl (t0 (zGa (ZSa (f:=zba.pc) rfl rfl zya zMa rfl h13))) (.cons rfl rfl (t0 (zGa (Yna rfl rfl zMa zQb (.str rfl (by decide) zoa (.str rfl (by decide) zoa .nil))))) .nil))) ?_ mixed;refine ax 1 39 hr (fun hr=>?_) fun hr=>?_
   .exact ox 8 hr
   exact cx 8 hr
  exact ox 2 hr
 .exact kx 8 hr
 exact kx 2 hr
theorem wia(a0:List Str)(a1:List Str)(r:Bool)(hr:qJa a0 a1=some r):Run prog 9 [.l cS a0,.l cS a1] (.bo r):=by
 unfold qJa at hr;refine rfx (fn:=f9) func9 fun g0 hg=>?_
 refine rn tk 9 rfl<|wn tk rfl rfl rfl<|rn tk 1 rfl<|wn tk rfl rfl rfl ?_;refine ax 3 10 hr (fun hr=>?_) fun hr=>?_
 .exact kx 7 hr
 refine rn tk 9 rfl<|al2 hr (fun s2=>[(0,.l cS a0),(1,.l cS a1),(5,.i s2)]) (fun s2=>[]) (.exit 0) (fun b3=>[]) (fun b3=>[]) .ret (fun b4=>[(4,.bo b4)]) (fun b4=>[]) rfl rfl (fun s2 x6 hr=>?_) (fun b3 hr=>?_) (fun b4 hr=>?_)
 .unfold jma at hr;refine rn tk 5 rfl<|wn tk rfl rfl rfl ?_;refine ax 3 14 hr (fun hr=>?_) fun hr=>?_
  .refine rn tk 5 rfl ?_;obtain ⟨v8,h9,hr⟩:=zaa hr;obtain ⟨v10,h11,hr⟩:=zaa hr;refine dr 8 [(24,.s v10),(23,.ep [pS v10]),(22,.i s2),(21,.l cS a1),(20,.s v8),(19,.ep [pS v8]),(18,.i s2),(17,.l cS a0)] mixed (by kernel_rfl) rfl rfl (pq tk rfl (.plain rfl) (pq tk rfl (.plain rfl) (.run (.plain rfl) (zGa (ZSa (f:=cS) rfl rfl qya zoa rfl h9)) (pq tk rfl (.plain rfl) (pq tk rfl (.plain rfl) (pq tk rfl (.plain rfl) (.run (.plain rfl) (zGa (ZSa (f:=cS) rfl rfl qya zoa rfl h11)) (pq tk rfl (.plain rfl) .nil)))))))) rfl ?_;refine ax 3 25 hr (fun hr=>?_) fun hr=>?_
   .exact ox 8 hr
   exact cx 8 hr
  exact ox 2 hr
 .exact kx 8 hr
 exact kx 2 hr
theorem Jia(a0:Str)(r:Str)(hr:V5a a0=some r):Run prog 55 [.s a0] (.s r):=by
 unfold V5a at hr;refine rfx (fn:=f55) func55 fun g0 hg=>?_
 refine rn tk 8 rfl ?_;refine zUa 1003 (d:=3) 5 1 rfl rfl rfl (hO ?_);refine aq1 9 hr [0,3] [] (fun s1=>[(4,.i s1.1)]) (fun s1=>[(1003,.row 5 false 1 (List.map cU s1.2))]) (.exit 0) [3] [] (fun _=>[]) (fun b2=>[(1003,.row 5 false 1 (List.map cU b2))]) (fun s1 x3 hr=>?_) (fun b2 hr=>?_)
 .unfold j9a at hr;refine ax 9 9 hr (fun hr=>?_) fun hr=>?_
  .refine rn tk 8 rfl ?_;obtain ⟨v5,h6,hr⟩:=zaa hr;refine ws tk h6 rfl rfl rfl rfl ?_;refine jq 3 hr [0,3,4] [1003] (fun j7=>[(5,.u8 j7)]) (fun _=>[]) (fun j7 hr=>?_) (fun j7 hr=>?_)
   .refine rn tk 3 rfl<|wu tk rfl rfl rfl ?_;refine clx 0 hr (Yha _ _ _) fun v8 _ hr=>?_
    refine ax 2 17 hr (fun hr=>?_) fun hr=>?_
    .refine rn tk 2 rfl<|wq (W1a (a:=v5) (b:=(32:UInt8)) rfl rfl) rfl rfl rfl ?_;exact jx 2 hr
    exact jx 1 hr
   refine rn tk 3 rfl<|wz cU ([j7]:List UInt8) tk rfl rfl (fun _=>rfl) rfl rfl rfl ?_;obtain ⟨v11,h12,hr⟩:=zaa hr;refine wa tk h12 rfl rfl rfl rfl (fun _=>rfl) rfl rfl ?_;exact cx 9 hr
  exact ox 2 hr
 refine rn tk 5 rfl ?_;refine jia (d:=24) (F:=cU) (l:=b2) rfl rfl (hO ?_);refine wb tk rfl rfl rfl ?_;exact kx 4 hr
theorem yJb(a0:Str)(a1:Str)(r:Bool)(hr:k4b a0 a1=some r):Run prog 29 [.s a0,.s a1] (.bo r):=by
 unfold k4b at hr;refine rfx (fn:=Tryz.f29) func29 fun g0 hg=>?_
 refine clx 8 hr (Jia _) fun v1 _ hr=>?_
 refine clx 1 hr (Jia _) fun v3 _ hr=>?_
 exact kx 5 hr
theorem yaa(a0:zda)(a1:Str)(r:List Str)(hr:vBa a0 a1=some r):Run prog 10 [.agg [.l zba.pc a0.Fields,.l cU a0.Body],.s a1] (.l cS r):=by
 unfold vBa at hr;refine rfx (fn:=f10) func10 fun g0 hg=>?_
 refine rn tk 9 rfl ?_;refine zUa 1005 (d:=5) 9 1 rfl rfl rfl (hO ?_);refine rn tk 9 rfl<|al1 hr (fun s1=>[(1,.s a1),(2,.ptr 2 0),(5,.hs 1005 0),(6,.i s1.1)]) (fun s1=>[(1005,.row 9 false 1 (List.map cS s1.2)),(2,.cells [.l zba.pc a0.Fields,.l cU a0.Body])]) (.exit 0) (fun b2=>[(5,.hs 1005 0)]) (fun b2=>[(1005,.row 9 false 1 (List.map cS b2))]) rfl rfl (fun s1 x3 hr=>?_) (fun b2 hr=>?_)
 .unfold yNa at hr;refine rn tk 6 rfl<|wn tk rfl rfl rfl ?_;refine ax 3 11 hr (fun hr=>?_) fun hr=>?_
  .refine rn tk 2 rfl<|jb hr (fun j5=>[(1,.s a1),(2,.ptr 2 0),(5,.hs 1005 0),(6,.i s1.1)]) (fun j5=>[(1005,.row 9 false 1 (List.map cS j5)),(2,.cells [.l zba.pc a0.Fields,.l cU a0.Body])]) (fun j5 hr=>?_) (fun j5 hr=>?_)
   .refine rn tk 6 rfl ?_;obtain ⟨v6,h7,hr⟩:=zaa hr;refine wi tk h7 rfl rfl rfl rfl rfl ?_;refine clx 3 hr (yJb _ _) fun v8 _ hr=>?_
    refine ax 2 21 hr (fun hr=>?_) fun hr=>?_
    .refine rn tk 5 rfl ?_;obtain ⟨v11,h12,hr⟩:=zaa hr;refine wi tk h12 rfl rfl rfl rfl rfl<|rn tk 2 rfl<|wz cS ([v11.Value]:List Str) tk rfl rfl (fun _=>rfl) rfl rfl rfl ?_;obtain ⟨v13,h14,hr⟩:=zaa hr;refine wa tk h14 rfl rfl rfl rfl (fun _=>rfl) rfl rfl ?_;exact jx 3 hr
    exact jx 2 hr
   exact cx 5 hr
  exact ox 2 hr
 refine rn tk 8 rfl ?_;refine kTa (d:=4) (F:=cS) (l:=b2) rfl rfl (hC ?_);exact kx 1 hr
theorem yva(a0:zda)(r:Bool)(hr:kwa a0=some r):Run prog 3 [.agg [.l zba.pc a0.Fields,.l cU a0.Body]] (.bo r):=by
 unfold kwa at hr;refine rfx (fn:=Tryz.f3) func3 fun g0 hg=>?_
 refine clx 9 hr (jya _) fun v1 _ hr=>?_
 refine clx 7 hr (jba _) fun v3 _ hr=>?_
 refine jq 11 hr [1,3,4,5,6] [6,3,1] (fun j5=>[(35,.bo j5)]) (fun _=>[]) (fun j5 hr=>?_) (fun j5 hr=>?_)
 .refine clx 1 hr QMa fun v6 _ hr=>?_
  refine bx 2 26 hr (fun c8 hr=>?_) fun c8 hr=>?_
  .exact jx 10 hr
  refine rn tk 2 rfl<|ug rfl rfl rfl<|wq (Yna rfl rfl Kla Vna (.int rfl (by decide) yJa (.int rfl (by decide) yJa .nil))) rfl rfl rfl ?_;refine bx 2 31 hr (fun c9 hr=>?_) fun c9 hr=>?_
  .exact jx 5 hr
  exact jx 5 hr
 refine ax 0 35 hr (fun hr=>?_) fun hr=>?_
 .refine jq 0 hr [] [] (fun j11=>[(2,.bo j11)]) (fun _=>[]) (fun j11 hr=>?_) (fun j11 hr=>?_)
  .refine clx 1 hr QMa fun v12 _ hr=>?_
   refine bx 1 37 hr (fun c14 hr=>?_) fun c14 hr=>?_
   .refine rn tk 2 rfl<|ug rfl rfl rfl<|wq (q2b rfl rfl Kla Vna (.int rfl (by decide) yJa (.int rfl (by decide) yJa .nil))) rfl rfl rfl ?_;refine bx 2 42 hr (fun c15 hr=>?_) fun c15 hr=>?_
    .refine bx 4 46 hr (fun c16 hr=>?_) fun c16 hr=>?_
     .refine rn tk 1 rfl<|ug rfl rfl rfl<|wn tk rfl rfl rfl ?_;exact jx 4 hr
     exact jx 6 hr
    exact jx 10 hr
   exact jx 15 hr
  exact kx 2 hr
 refine clx 5 hr (jwa _) fun v17 _ hr=>?_
 refine rn tk 12 rfl ?_;refine zUa 1009 (d:=9) 25 2 rfl rfl rfl (hO ?_);refine jq 2 hr [4,5,7,9] [1009,7] (fun j19=>[(10,.bo j19)]) (fun _=>[]) (fun j19 hr=>?_) (fun j19 hr=>?_)
 .refine bx 5 59 hr (fun c20 hr=>?_) fun c20 hr=>?_
  .refine rn tk 2 rfl<|ug rfl rfl rfl<|wn tk rfl rfl rfl ?_;obtain ⟨v21,h22,hr⟩:=zaa hr;refine ug rfl rfl rfl<|cl (Yha _ _ _ _ h22) rfl rfl ?_;exact jx 3 hr
  exact jx 7 hr
 refine jq 0 hr [4,5,7,9] [1009,7] (fun j23=>[(10,.bo j23)]) (fun _=>[]) (fun j23 hr=>?_) (fun j23 hr=>?_)
 .refine kFa j19 (fun c24=>?_) (fun c24=>?_)
  .replace hr:=jVa c24 hr
   obtain ⟨v25,h26,hr⟩:=zaa hr;obtain ⟨v27,h28,hr⟩:=zaa hr;refine kFa v27 (fun c29=>?_) (fun c29=>?_)
   .replace hr:=jVa c29 hr
    obtain ⟨v30,h31,hr⟩:=zaa hr;refine dq 0 17 [(66,true),(74,true)] [(5,.l cS v25),(6,.l cS (([([109,117,108,116,105,112,97,114,116,47,100,105,103,101,115,116]:Str)]:List Str))),(7,.bo v27),(13,.l cS v30),(16,.i ((v17.1.Parts.length:Int)))] (.cons rfl c24 (.cons rfl c29 .nil)) (.cons rfl rfl (zua (yaa ((zda.mk v17.1.Fields ([]))) (([67,111,110,116,101,110,116,45,84,121,112,101]:Str)) v25 h26) rfl) (.cons rfl rfl (yba (F:=cS) (l:=([([109,117,108,116,105,112,97,114,116,47,100,105,103,101,115,116]:Str)]:List Str)) qya zoa rfl (fun _=>rfl) rfl rfl) (.cons rfl rfl (zua (wia v25 (([([109,117,108,116,105,112,97,114,116,47,100,105,103,101,115,116]:Str)]:List Str)) v27 h28) rfl) (.cons rfl rfl (zua (yaa ((zda.mk v17.1.Fields ([]))) (([88,45,68,105,103,101,115,116]:Str)) v30 h31) rfl) (.cons rfl rfl (zGa (VRa (f:=(zka.pcn 8)) rfl vba.u)) .nil))))) ?_ mixed;refine kn 74 c29 rfl ?_;obtain ⟨v32,h33,hr⟩:=zaa hr;refine ug rfl rfl rfl<|cl (qRb _ _ h33) rfl rfl<|ug rfl rfl rfl<|wz cS ([v32]:List Str) tk rfl rfl (fun _=>rfl) rfl rfl rfl ?_;obtain ⟨v34,h35,hr⟩:=zaa hr;refine ug rfl rfl rfl<|cl (wia _ _ _ h35) rfl rfl ?_;exact jx 3 hr
   replace hr:=jWa c29 hr
   refine dq 0 17 [(66,true),(74,false)] [(5,.l cS v25),(6,.l cS (([([109,117,108,116,105,112,97,114,116,47,100,105,103,101,115,116]:Str)]:List Str))),(7,.bo v27)] (.cons rfl c24 (.cons rfl c29 .nil)) (.cons rfl rfl (zua (yaa ((zda.mk v17.1.Fields ([]))) (([67,111,110,116,101,110,116,45,84,121,112,101]:Str)) v25 h26) rfl) (.cons rfl rfl (yba (F:=cS) (l:=([([109,117,108,116,105,112,97,114,116,47,100,105,103,101,115,116]:Str)]:List Str)) qya zoa rfl (fun _=>rfl) rfl rfl) (.cons rfl rfl (zua (wia v25 (([([109,117,108,116,105,112,97,114,116,47,100,105,103,101,115,116]:Str)]:List Str)) v27 h28) rfl) .nil))) ?_ mixed;refine kn 74 c29 rfl ?_;exact jx 6 hr
  replace hr:=jWa c24 hr
  refine dq 0 17 [(66,false)] [] (.cons rfl c24 .nil) .nil ?_ mixed;exact jx 6 hr
 refine aq1 7 hr [4,5,7,9] [7] (fun s36=>[(10,.bo s36.1),(11,.i s36.2.1)]) (fun s36=>[(1009,.row 25 false 2 (List.map zda.pc s36.2.2))]) (.exit 0) [4,5,9] [] (fun b37=>[(10,.bo b37.1)]) (fun b37=>[(1009,.row 25 false 2 (List.map zda.pc b37.2))]) (fun s36 x38 hr=>?_) (fun b37 hr=>?_)
 .unfold z8a at hr;refine jq 1 hr [4,5,7,9,10,11] [1009,7] (fun j39=>[(93,.bo j39)]) (fun _=>[]) (fun j39 hr=>?_) (fun j39 hr=>?_)
  .refine rn tk 4 rfl<|wn tk rfl rfl rfl ?_;refine bx 2 91 hr (fun c40 hr=>?_) fun c40 hr=>?_
   .exact jx 3 hr
   exact jx 3 hr
  refine ax 0 93 hr (fun hr=>?_) fun hr=>?_
  .refine rn tk 9 rfl ?_;obtain ⟨v42,h43,hr⟩:=zaa hr;refine wi tk h43 rfl rfl rfl rfl rfl ?_;refine clx 9 hr (Jha _) fun v44 _ hr=>?_
   refine jq 8 hr [4,5,7,9,11,13] [13,1009,7] (fun j46=>[(10,.bo j46)]) (fun _=>[]) (fun j46 hr=>?_) (fun j46 hr=>?_)
   .refine kFa v44.2 (fun c47=>?_) (fun c47=>?_)
    .replace hr:=jVa c47 hr
     refine kFa (((v42.Parts.length:Int)==0)) (fun c48=>?_) (fun c48=>?_)
     .replace hr:=jVa c48 hr
      obtain ⟨v49,h50,hr⟩:=zaa hr;obtain ⟨v51,h52,hr⟩:=zaa hr;refine kFa v51 (fun c53=>?_) (fun c53=>?_)
      .replace hr:=jVa c53 hr
       obtain ⟨v54,h55,hr⟩:=zaa hr;refine dq 0 22 [(108,true),(114,true),(122,true)] [(4,.i ((v42.Parts.length:Int))),(11,.l cS v49),(12,.l cS (([([109,101,115,115,97,103,101,47,105,116,101,109]:Str)]:List Str))),(13,.bo v51),(17,.l cU v54),(18,.s v54),(21,.s v42.Body)] (.cons rfl c47 (.cons rfl c48 (.cons rfl c53 .nil))) (.cons rfl rfl (zGa (VRa (f:=(zka.pcn 7)) rfl vba.u)) (.cons rfl rfl (zua (yaa ((zda.mk v42.Fields ([]))) (([67,111,110,116,101,110,116,45,84,121,112,101]:Str)) v49 h50) rfl) (.cons rfl rfl (yba (F:=cS) (l:=([([109,101,115,115,97,103,101,47,105,116,101,109]:Str)]:List Str)) qya zoa rfl (fun _=>rfl) rfl rfl) (.cons rfl rfl (zua (wia v49 (([([109,101,115,115,97,103,101,47,105,116,101,109]:Str)]:List Str)) v51 h52) rfl) (.cons rfl rfl (zua (jxa v44.1 v54 h55) rfl) (.cons rfl rfl (zGa (VSa rfl zra zxa zoa)) (.cons rfl rfl (zGa (VSa rfl zra zxa zoa)) .nil))))))) ?_ mixed;refine kn 122 c53 rfl ?_;exact jx 4 hr
      replace hr:=jWa c53 hr
      refine dq 0 22 [(108,true),(114,true),(122,false)] [(4,.i ((v42.Parts.length:Int))),(11,.l cS v49),(12,.l cS (([([109,101,115,115,97,103,101,47,105,116,101,109]:Str)]:List Str))),(13,.bo v51)] (.cons rfl c47 (.cons rfl c48 (.cons rfl c53 .nil))) (.cons rfl rfl (zGa (VRa (f:=(zka.pcn 7)) rfl vba.u)) (.cons rfl rfl (zua (yaa ((zda.mk v42.Fields ([]))) (([67,111,110,116,101,110,116,45,84,121,112,101]:Str)) v49 h50) rfl) (.cons rfl rfl (yba (F:=cS) (l:=([([109,101,115,115,97,103,101,47,105,116,101,109]:Str)]:List Str)) qya zoa rfl (fun _=>rfl) rfl rfl) (.cons rfl rfl (zua (wia v49 (([([109,101,115,115,97,103,101,47,105,116,101,109]:Str)]:List Str)) v51 h52) rfl) .nil)))) ?_ mixed;refine kn 122 c53 rfl ?_;exact jx 4 hr
     replace hr:=jWa c48 hr
     refine dq 0 22 [(108,true),(114,false)] [(4,.i ((v42.Parts.length:Int)))] (.cons rfl c47 (.cons rfl c48 .nil)) (.cons rfl rfl (zGa (VRa (f:=(zka.pcn 7)) rfl vba.u)) .nil) ?_ mixed;exact jx 4 hr
    replace hr:=jWa c47 hr
    refine dq 0 22 [(108,false)] [] (.cons rfl c47 .nil) .nil ?_ mixed;exact jx 4 hr
   refine rn tk 3 rfl<|wz zda.pc ([v44.1]:List zda) tk rfl rfl (fun _=>rfl) rfl rfl rfl ?_;obtain ⟨v56,h57,hr⟩:=zaa hr;refine wa tk h57 rfl rfl rfl rfl (fun _=>rfl) rfl rfl ?_;exact cx 9 hr
  exact ox 2 hr
 refine ax 9 136 hr (fun hr=>?_) fun hr=>?_
 .refine jq 0 hr [] [] (fun j59=>[(2,.bo j59)]) (fun _=>[]) (fun j59 hr=>?_) (fun j59 hr=>?_)
  .refine bx 4 139 hr (fun c60 hr=>?_) fun c60 hr=>?_
   .refine rn tk 1 rfl<|ug rfl rfl rfl<|wn tk rfl rfl rfl ?_;exact jx 4 hr
   exact jx 6 hr
  exact kx 2 hr
 refine jq 3 hr [4,9] [1009] (fun j61=>[(152,.bo j61)]) (fun _=>[]) (fun j61 hr=>?_) (fun j61 hr=>?_)
 .refine bx 4 146 hr (fun c62 hr=>?_) fun c62 hr=>?_
  .exact jx 7 hr
  refine rn tk 1 rfl<|ug rfl rfl rfl<|wn tk rfl rfl rfl<|rn tk 1 rfl<|ug rfl rfl rfl<|wnh tk rfl rfl rfl rfl ?_;exact jx 3 hr
 refine ax 0 152 hr (fun hr=>?_) fun hr=>?_
 .exact kx 7 hr
 refine aq2 9 hr [4,9] [1009] (fun s64=>[(15,.i s64)]) (fun _=>[]) (.exit 2) [] [] (fun _=>[]) (fun _=>[]) .ret [] [] (fun b66=>[(2,.bo b66)]) (fun _=>[]) (fun s64 x68 hr=>?_) (fun b65 hr=>?_) (fun b66 hr=>?_)
 .unfold z9a at hr;refine rn tk 5 rfl<|wn tk rfl rfl rfl ?_;refine ax 3 156 hr (fun hr=>?_) fun hr=>?_
  .refine rn tk 5 rfl ?_;obtain ⟨v70,h71,hr⟩:=zaa hr;obtain ⟨v72,h73,hr⟩:=zaa hr;obtain ⟨v74,h75,hr⟩:=zaa hr;refine dq 0 8 [] [(2,.ep [pL zba.pc v70.Fields,pL cU v70.Body]),(6,.hp 1009 (Int.toNat s64) 0),(7,.agg [.l zba.pc v74.Fields,.l cU v74.Body])] .nil (.cons rfl rfl (zGa (ZSa (f:=zda.pc) rfl rfl yca qOa rfl h71)) (.cons rfl rfl (zGa (Zza (F:=zda.pc) (l:=b37.2) (n:=s64) rfl rfl rfl yca qOa h73)) (.cons rfl rfl (zGa (Ysa (F:=zda.pc) (l:=b37.2) (n:=s64) (j:=0) rfl rfl qOa rfl h75 rfl)) .nil))) ?_ mixed;refine clx 0 hr (Wla _ _) fun v76 _ hr=>?_
   refine ax 3 168 hr (fun hr=>?_) fun hr=>?_
   .exact ox 8 hr
   exact cx 8 hr
  exact ox 2 hr
 .exact kx 8 hr
 exact kx 2 hr
end Go.Proofs.YthbbeodmpnmopaaGreatDoor
namespace Go.Proofs.YthbbeodmpnmopaaGreatDoor.digestReadMatchesSpec
open Go.ChangeShapes Go.WideShapes Go.ChangeAt Go.RowKit Go.Proofs.Tryz
theorem contract(H:Type)(enc:TypeId × Value->H)(W:World)(base:Nat)(args:Array Value)(ds gs:List (DataW H))(before:List MemPlace)
 (hval:∀(j:Nat) t v,Tryz.f3.params[j]? =some t->args[j]? =some v->Value.okWide prog W .any base t v)
 (hW:DataW.Whole enc prog Tryz.f3.params.toList Rows.digestReadMatchesSpecSpec.vars false W args.toList ds gs before) (hk:Rows.uptoSmall H (ds++gs)=true) (hgl:Gl (gAll W)):
 Calls prog 3 args W fun e W' =>∃v,e=.returned v/\Rows.digestReadMatchesSpecSpec.post enc prog Tryz.f3 false true false false W args v W' :=by
 have hW' :=hW;obtain ⟨p,q,hA0,hV,rfl,hfz,hnd⟩:=hW;have hA:DataW.TrodAll enc prog W 0 (fun _=>true) true Tryz.f3.params.toList args.toList ds p:=hA0;rw[Tryz.params3]at hA hval;obtain ⟨v0,vs0,d0,ds0,p0,q0,hargs,rfl,rfl,h0,r0⟩:=trodAll_cons hA;obtain ⟨rfl,rfl,rfl⟩:=trodAll_nil r0;obtain rfl:args= #[v0]:=by cases args;simp_all
 obtain ⟨rfl,rfl⟩:=trodVars_none hV;obtain ⟨a0,e0,o0,k0⟩:=arg_agg Jpa (by obtain ⟨cs,h,_⟩:=okWide_struct qOa.u (hval 0 _ v0 rfl rfl);exact ⟨cs,h⟩) h0;have hk2:=of_decide_eq_true hk;simp only[jDc,Rows.uptoBulkAll]at hk2;have ht:=yfa a0 o0 (by (try dsimp only);omega);have key:Calls prog 3 #[v0] W fun e W' =>e=.returned (.bool true)/\Below W.heap.size W W' :=kEb (yva a0 true ht) hgl (w0b (.cons e0 .nil))
 refine key.mono fun e W' ⟨he,hb⟩=>⟨_,he,?_⟩
 exact jwb laidOut (by kernel_rfl) underlying4 (by kernel_rfl) rfl rfl hW' hb
noncomputable def wit(os:Os):World:=let w0:=World.doorLaid prog 72 os
 {w0 with heap:=w0.heap.modify 2 fun
  | .cells _ t fz=>.cells (Lib.firstTab.map fun z=>Value.int .u8 z).toArray t fz
  | o=>o}
theorem reads(os:Os){H:Type}(enc:TypeId × Value->H):∃places,DataW.whole enc prog ((wit os).forCall (fun _ _=>0) ⟨#[], #[.agg #[.slice none 0 0,.slice none 0 0]],[]⟩).memory Tryz.f3.params.toList (Rows.OpenSpec.upto Rows.digestReadMatchesSpecSpec).vars false (#[.agg #[.slice none 0 0,.slice none 0 0]]:Array Value).toList 8=some ([.agg [.nil,.nil]],[],places):=
 ⟨[],by kernel_rfl⟩
theorem lifted(os:Os)(started:os.Started)(H:Type)(enc:TypeId × Value->H)(F:Stop.Interp):
 ReturnsInHanded {} Tryz.checked os 3 .any ((Rows.OpenSpec.upto Rows.digestReadMatchesSpecSpec).preRow enc prog Tryz.f3 Rows.digestReadMatchesSpecUptoRow.domain false Rows.digestReadMatchesSpecUptoRow.laid) (((Rows.OpenSpec.upto Rows.digestReadMatchesSpecSpec).at F).post enc prog Tryz.f3 false true false false):=by
 obtain ⟨places,hx⟩:=reads os enc;refine returnsInHanded_of_row (C:=Tryz.checked) (s:=Rows.OpenSpec.upto Rows.digestReadMatchesSpecSpec) own started (by kernel_rfl) func3
  (witness_row_atRef (enc:=enc) (C:=Tryz.checked) false (wit os) #[.agg #[.slice none 0 0,.slice none 0 0]] rfl (by kernel_rfl) (by kernel_rfl) (by kernel_rfl)
   (OpenSpec.preRow_of_cond 8 hx (by kernel_rfl) (fun k hk=>by cases hk;kernel_rfl) (by kernel_rfl) (laidMet_of_run' 8 (by kernel_rfl) (by kernel_rfl)))) ?_
 intro W base args ds gs before hval hW _ hk _ hL hsh _;exact contract H enc W base args ds gs before hval hW (hk _ rfl) (vob (rest:=Rows.digestReadMatchesSpecUptoRow.laid.drop 7) hsh (by kernel_rfl) hL)
theorem j0:jf0 Tryz.pinned.checked.prog 3 Tryz.f3 (Rows.OpenSpec.upto Rows.digestReadMatchesSpecSpec).bare Rows.digestReadMatchesSpecUptoRow=true:=by kernel_rfl
theorem j1:jf1 Tryz.pinned.checked.prog 3 Tryz.f3 (Rows.OpenSpec.upto Rows.digestReadMatchesSpecSpec).bare Rows.digestReadMatchesSpecUptoRow=true:=by kernel_rfl
theorem j2:jf2 Tryz.pinned.checked.prog 3 Tryz.f3 (Rows.OpenSpec.upto Rows.digestReadMatchesSpecSpec).bare Rows.digestReadMatchesSpecUptoRow=true:=by kernel_rfl
theorem j3:jf3 Tryz.pinned.checked.prog 3 Tryz.f3 (Rows.OpenSpec.upto Rows.digestReadMatchesSpecSpec).bare Rows.digestReadMatchesSpecUptoRow=true:=by kernel_rfl
theorem j4:jf4 Tryz.pinned.checked.prog 3 Tryz.f3 (Rows.OpenSpec.upto Rows.digestReadMatchesSpecSpec).bare Rows.digestReadMatchesSpecUptoRow=true:=by kernel_rfl
theorem j5:jf5 Tryz.pinned.checked.prog 3 Tryz.f3 (Rows.OpenSpec.upto Rows.digestReadMatchesSpecSpec).bare Rows.digestReadMatchesSpecUptoRow=true:=by kernel_rfl
theorem j6:jf6 Tryz.pinned.checked.prog 3 Tryz.f3 (Rows.OpenSpec.upto Rows.digestReadMatchesSpecSpec).bare Rows.digestReadMatchesSpecUptoRow=true:=by kernel_rfl
theorem j7:jf7 Tryz.pinned.checked.prog 3 Tryz.f3 (Rows.OpenSpec.upto Rows.digestReadMatchesSpecSpec).bare Rows.digestReadMatchesSpecUptoRow=true:=by kernel_rfl
theorem j8:jf8 Tryz.pinned.checked.prog 3 Tryz.f3 (Rows.OpenSpec.upto Rows.digestReadMatchesSpecSpec).bare Rows.digestReadMatchesSpecUptoRow=true:=by kernel_rfl
theorem j9:jf9 Tryz.pinned.checked.prog 3 Tryz.f3 (Rows.OpenSpec.upto Rows.digestReadMatchesSpecSpec).bare Rows.digestReadMatchesSpecUptoRow=true:=by kernel_rfl
theorem j10:jf10 Tryz.pinned.checked.prog 3 Tryz.f3 (Rows.OpenSpec.upto Rows.digestReadMatchesSpecSpec).bare Rows.digestReadMatchesSpecUptoRow=true:=by kernel_rfl
theorem j11:jf11 Tryz.pinned.checked.prog 3 Tryz.f3 (Rows.OpenSpec.upto Rows.digestReadMatchesSpecSpec).bare Rows.digestReadMatchesSpecUptoRow=true:=by kernel_rfl
theorem j12:jf12 Tryz.pinned.checked.prog 3 Tryz.f3 (Rows.OpenSpec.upto Rows.digestReadMatchesSpecSpec).bare Rows.digestReadMatchesSpecUptoRow=true:=by kernel_rfl
theorem j13:jf13 Tryz.pinned.checked.prog 3 Tryz.f3 (Rows.OpenSpec.upto Rows.digestReadMatchesSpecSpec).bare Rows.digestReadMatchesSpecUptoRow=true:=by kernel_rfl
theorem j14:jf14 Tryz.pinned.checked.prog 3 Tryz.f3 (Rows.OpenSpec.upto Rows.digestReadMatchesSpecSpec).bare Rows.digestReadMatchesSpecUptoRow=true:=by kernel_rfl
theorem j15:jf15 Tryz.pinned.checked.prog 3 Tryz.f3 (Rows.OpenSpec.upto Rows.digestReadMatchesSpecSpec).bare Rows.digestReadMatchesSpecUptoRow=true:=by kernel_rfl
theorem j16:jf16 Tryz.pinned.checked.prog 3 Tryz.f3 (Rows.OpenSpec.upto Rows.digestReadMatchesSpecSpec).bare Rows.digestReadMatchesSpecUptoRow=true:=by kernel_rfl
theorem j17:jf17 Tryz.pinned.checked.prog 3 Tryz.f3 (Rows.OpenSpec.upto Rows.digestReadMatchesSpecSpec).bare Rows.digestReadMatchesSpecUptoRow=true:=by kernel_rfl
theorem j18:jf18 Tryz.pinned.checked.prog 3 Tryz.f3 (Rows.OpenSpec.upto Rows.digestReadMatchesSpecSpec).bare Rows.digestReadMatchesSpecUptoRow=true:=by kernel_rfl
theorem j19:jf19 Tryz.pinned.checked.prog 3 Tryz.f3 (Rows.OpenSpec.upto Rows.digestReadMatchesSpecSpec).bare Rows.digestReadMatchesSpecUptoRow=true:=by kernel_rfl
theorem j20:jf20 Tryz.pinned.checked.prog 3 Tryz.f3 (Rows.OpenSpec.upto Rows.digestReadMatchesSpecSpec).bare Rows.digestReadMatchesSpecUptoRow=true:=by kernel_rfl
theorem j21:jf21 Tryz.pinned.checked.prog 3 Tryz.f3 (Rows.OpenSpec.upto Rows.digestReadMatchesSpecSpec).bare Rows.digestReadMatchesSpecUptoRow=true:=by kernel_rfl
theorem j22:jf22 Tryz.pinned.checked.prog 3 Tryz.f3 (Rows.OpenSpec.upto Rows.digestReadMatchesSpecSpec).bare Rows.digestReadMatchesSpecUptoRow=true:=by kernel_rfl
theorem j23:jf23 Tryz.pinned.checked.prog 3 Tryz.f3 (Rows.OpenSpec.upto Rows.digestReadMatchesSpecSpec).bare Rows.digestReadMatchesSpecUptoRow=true:=by kernel_rfl
theorem j24:jf24 Tryz.pinned.checked.prog 3 Tryz.f3 (Rows.OpenSpec.upto Rows.digestReadMatchesSpecSpec).bare Rows.digestReadMatchesSpecUptoRow=true:=by kernel_rfl
theorem j25:jf25 Tryz.pinned.checked.prog 3 Tryz.f3 (Rows.OpenSpec.upto Rows.digestReadMatchesSpecSpec).bare Rows.digestReadMatchesSpecUptoRow=true:=by kernel_rfl
theorem j26:jf26 Tryz.pinned.checked.prog 3 Tryz.f3 (Rows.OpenSpec.upto Rows.digestReadMatchesSpecSpec).bare Rows.digestReadMatchesSpecUptoRow=true:=by kernel_rfl
theorem j27:jf27 Tryz.pinned.checked.prog 3 Tryz.f3 (Rows.OpenSpec.upto Rows.digestReadMatchesSpecSpec).bare Rows.digestReadMatchesSpecUptoRow=true:=by kernel_rfl
theorem j28:jf28 Tryz.pinned.checked.prog 3 Tryz.f3 (Rows.OpenSpec.upto Rows.digestReadMatchesSpecSpec).bare Rows.digestReadMatchesSpecUptoRow=true:=by kernel_rfl
theorem j29:jf29 Tryz.pinned.checked.prog 3 Tryz.f3 (Rows.OpenSpec.upto Rows.digestReadMatchesSpecSpec).bare Rows.digestReadMatchesSpecUptoRow=true:=by kernel_rfl
theorem j30:jf30 Tryz.pinned.checked.prog 3 Tryz.f3 (Rows.OpenSpec.upto Rows.digestReadMatchesSpecSpec).bare Rows.digestReadMatchesSpecUptoRow=true:=by kernel_rfl
theorem j31:jf31 Tryz.pinned.checked.prog 3 Tryz.f3 (Rows.OpenSpec.upto Rows.digestReadMatchesSpecSpec).bare Rows.digestReadMatchesSpecUptoRow=true:=by kernel_rfl
theorem said:Rows.digestReadMatchesSpecUptoRow.holds Tryz.pinned (Rows.OpenSpec.upto Rows.digestReadMatchesSpecSpec):=
 OpenClaim.holds_of_cond 3 Tryz.f3 rfl rfl rfl rfl rfl rfl rfl ⟨rfl,rfl,rfl,rfl,rfl⟩ rfl rfl rfl rfl rfl (by kernel_rfl) func3 (jxb j0 j1 j2 j3 j4 j5 j6 j7 j8 j9 j10 j11 j12 j13 j14 j15 j16 j17 j18 j19 j20 j21 j22 j23 j24 j25 j26 j27 j28 j29 j30 j31)
  (of_decide_eq_true (by kernel_rfl)) (by unfold Func.isWrapper;first | (rw[if_pos (by decide+kernel)];kernel_rfl) | (rw[if_neg (by decide+kernel)];exact ⟨rfl,rfl⟩))
  (fun os started H enc _ F=>by rw[OpenClaim.pre_eq_preRow];exact lifted os started H enc F)
theorem plain (f : FuncId) (fn : Func) (hf : Tryz.pinned.checked.prog.funcNamed "posthouse/posthouselaw4.DigestReadMatchesSpec" = some f) (hfn : Tryz.pinned.checked.prog.funcs[f]? = some fn) :
 true=Tryz.pinned.checked.prog.looks []/\∀(j:Nat) t,fn.params[j]? =some t->Tryz.pinned.checked.prog.wantsStandIn t=false:=by
 obtain rfl : f = 3 := Option.some.inj ((show prog.funcNamed "posthouse/posthouselaw4.DigestReadMatchesSpec" = some 3 by kernel_rfl).symm.trans hf) |>.symm
 obtain rfl:fn=Tryz.f3:=(Option.some.inj (func3.symm.trans hfn)).symm;refine ⟨by kernel_rfl,fun j t ht=>?_⟩;rw[Tryz.params3]at ht;have hm:=Array.mem_of_getElem? ht;simp only[List.mem_toArray,jDl,List.not_mem_nil,or_false]at hm;rcases hm with rfl
 exact (show prog.wantsStandIn 25=false by kernel_rfl)
theorem proved:Rows.DigestReadMatchesSpecUptoCardSaid:=
 Claim7.holds_tied_plain_at .later [] _ _ _ _ said (fun _ h=>by cases h) (by kernel_rfl) (fun _ h=>by cases h) digestReadMatchesSpecUpto_row_tie rfl ⟨rfl,rfl⟩ (by kernel_rfl) rfl plain (by kernel_rfl)
#print axioms proved
end Go.Proofs.YthbbeodmpnmopaaGreatDoor.digestReadMatchesSpec
