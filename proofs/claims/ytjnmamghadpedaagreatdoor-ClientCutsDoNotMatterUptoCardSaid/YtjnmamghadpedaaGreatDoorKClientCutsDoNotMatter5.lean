/- The law ClientCutsDoNotMatter holds for every input of bulk up to the given bound: it returns true and leaves its arguments as they were. Written by program. -/
import Derived.Test.YtjnmamghadpedaaGreatDoorKClientCutsDoNotMatter4
set_option linter.unusedVariables false
set_option linter.unusedSimpArgs false
namespace Go.Proofs.YtjnmamghadpedaaGreatDoor
open Go.RowKit
set_option maxRecDepth 100000
set_option maxHeartbeats 40000000
theorem q3a (a0:zda) (r:zda) (hr:zXa a0=some r):RunS Tryz.prog 90 [.ptr 90000000 0] [(90000000, .cells [.s a0.Client.Name, .s a0.Client.Mail.Envelope.From, .l zca.pc a0.Client.Mail.Envelope.To, .s a0.Client.Mail.Envelope.Id, .l zfa.pc a0.Client.Mail.Message.Fields, .l cU a0.Client.Mail.Message.Body, .bo a0.Client.Pipelined, .l cU a0.Client.Buffer, .i a0.Client.Expected, .bo a0.Client.Whole, .bo a0.Client.Done, .hs 90000012 0, .l cU a0.content, .bo a0.chunk, .hs 90000015 0]),(90000012, .row 3 true 1 (List.map cI a0.Client.Results)),(90000015, .row 5 false 1 (List.map cU a0.out))] (.tup []) [(90000000, .cells [.s r.Client.Name, .s r.Client.Mail.Envelope.From, .l zca.pc r.Client.Mail.Envelope.To, .s r.Client.Mail.Envelope.Id, .l zfa.pc r.Client.Mail.Message.Fields, .l cU r.Client.Mail.Message.Body, .bo r.Client.Pipelined, .l cU r.Client.Buffer, .i r.Client.Expected, .bo r.Client.Whole, .bo r.Client.Done, .hs 90000012 0, .l cU r.content, .bo r.chunk, .hs 90000015 0]),(90000012, .row 3 true 1 (List.map cI r.Client.Results)),(90000015, .row 5 false 1 (List.map cU r.out))] 90000000 [90000012,90000015]:=by
 unfold zXa at hr
 refine rfS (fn:=Tryz.f90) (H:=90000999) (.ptr 90000000 0) ⟨Tryz.func90,rfl,by kernel_rfl⟩ rfl (hasT rfl) (.inl ⟨rfl,rfl⟩) rfl rfl rfl rfl fun g0 hg S sg T=> ?_
 refine rn tk 17 rfl ?_
 obtain ⟨v1,h2,hr⟩:=zaa hr
 refine wo (zAa (k:=14) (qia ((zda.mk ((zia.mk a0.Client.Name a0.Client.Mail a0.Client.Pipelined a0.Client.Buffer ((w64 (a0.Client.Expected+1))) a0.Client.Whole a0.Client.Done a0.Client.Results)) a0.content a0.chunk a0.out)) v1 h2) rfl rfl (zba rfl (zba rfl (zba rfl zga)))) rfl ?_
 refine rn tk 4 rfl ?_
 refine jb hr (fun j3=> [(0, .ptr 90000000 0),(2, .i j3.1)]) (fun j3=> [(90000000, .cells [.s j3.2.Client.Name, .s j3.2.Client.Mail.Envelope.From, .l zca.pc j3.2.Client.Mail.Envelope.To, .s j3.2.Client.Mail.Envelope.Id, .l zfa.pc j3.2.Client.Mail.Message.Fields, .l cU j3.2.Client.Mail.Message.Body, .bo j3.2.Client.Pipelined, .l cU j3.2.Client.Buffer, .i j3.2.Client.Expected, .bo j3.2.Client.Whole, .bo j3.2.Client.Done, .hs 90000012 0, .l cU j3.2.content, .bo j3.2.chunk, .hs 90000015 0]),(90000012, .row 3 true 1 (List.map cI j3.2.Client.Results)),(90000015, .row 5 false 1 (List.map cU j3.2.out)),(90000999, .hold (.ptr 90000000 0) (T.getD 0 undef))]) (fun j3 hr=> ?_) (fun j3 hr=> ?_)
 ·
  refine rn tk 1 rfl ?_
  refine jb hr (fun j4=> [(0, .ptr 90000000 0),(2, .i j4.1),(16, .bo j4.2)]) (fun j4=> [(90000000, .cells [.s v1.2.Client.Name, .s v1.2.Client.Mail.Envelope.From, .l zca.pc v1.2.Client.Mail.Envelope.To, .s v1.2.Client.Mail.Envelope.Id, .l zfa.pc v1.2.Client.Mail.Message.Fields, .l cU v1.2.Client.Mail.Message.Body, .bo v1.2.Client.Pipelined, .l cU v1.2.Client.Buffer, .i v1.2.Client.Expected, .bo v1.2.Client.Whole, .bo v1.2.Client.Done, .hs 90000012 0, .l cU v1.2.content, .bo v1.2.chunk, .hs 90000015 0]),(90000012, .row 3 true 1 (List.map cI v1.2.Client.Results)),(90000015, .row 5 false 1 (List.map cU v1.2.out)),(90000999, .hold (.ptr 90000000 0) (T.getD 0 undef))]) (fun j4 hr=> ?_) (fun j4 hr=> ?_)
  ·
   refine rn tk 8 rfl ?_
   refine bs 23 hr rfl (fun c5 hr=> ?_) (fun c5 hr=> ?_)
   ·
    refine rn tk 9 rfl ?_
    cases hr
    exact jn _ rfl rfl rfl
   ·
    refine rn tk 9 rfl ?_
    cases hr
    exact jn _ rfl rfl rfl
  ·
   refine ac 16 hr rfl (fun c6 hr=> ?_) (fun c6 hr=> ?_)
   ·
    refine rn tk 7 rfl ?_
    obtain ⟨v7,h8,hr⟩:=zaa hr
    refine wo (zAa (k:=37) (qTa v1.2 v1.2.Client.Expected v7 h8) rfl rfl (zba rfl (zba rfl (zba rfl zga)))) rfl ?_
    refine rn tk 2 rfl ?_
    cases hr
    exact jn _ rfl rfl rfl
   ·
    refine rn tk 11 rfl ?_
    refine ac 38 hr rfl (fun c9 hr=> ?_) (fun c9 hr=> ?_)
    ·
     refine rn tk 6 rfl ?_
     refine al1 hr (fun s10=> [(0, .ptr 90000000 0),(2, .i j4.1),(3, .i s10.1)]) (fun s10=> [(90000000, .cells [.s s10.2.Client.Name, .s s10.2.Client.Mail.Envelope.From, .l zca.pc s10.2.Client.Mail.Envelope.To, .s s10.2.Client.Mail.Envelope.Id, .l zfa.pc s10.2.Client.Mail.Message.Fields, .l cU s10.2.Client.Mail.Message.Body, .bo s10.2.Client.Pipelined, .l cU s10.2.Client.Buffer, .i s10.2.Client.Expected, .bo s10.2.Client.Whole, .bo s10.2.Client.Done, .hs 90000012 0, .l cU s10.2.content, .bo s10.2.chunk, .hs 90000015 0]),(90000012, .row 3 true 1 (List.map cI s10.2.Client.Results)),(90000015, .row 5 false 1 (List.map cU s10.2.out)),(90000999, .hold (.ptr 90000000 0) (T.getD 0 undef))]) (.exit 1) (fun b11=> [(0, .ptr 90000000 0),(2, .i j4.1)]) (fun b11=> [(90000000, .cells [.s b11.Client.Name, .s b11.Client.Mail.Envelope.From, .l zca.pc b11.Client.Mail.Envelope.To, .s b11.Client.Mail.Envelope.Id, .l zfa.pc b11.Client.Mail.Message.Fields, .l cU b11.Client.Mail.Message.Body, .bo b11.Client.Pipelined, .l cU b11.Client.Buffer, .i b11.Client.Expected, .bo b11.Client.Whole, .bo b11.Client.Done, .hs 90000012 0, .l cU b11.content, .bo b11.chunk, .hs 90000015 0]),(90000012, .row 3 true 1 (List.map cI b11.Client.Results)),(90000015, .row 5 false 1 (List.map cU b11.out)),(90000999, .hold (.ptr 90000000 0) (T.getD 0 undef))]) rfl rfl (fun s10 x12 hr=> ?_) (fun b11 hr=> ?_)
     ·
      unfold zHa at hr
      refine rn tk 8 rfl ?_
      refine ac 47 hr rfl (fun c13 hr=> ?_) (fun c13 hr=> ?_)
      ·
       refine rn tk 7 rfl ?_
       obtain ⟨v14,h15,hr⟩:=zaa hr
       refine wo (zAa (k:=52) (qTa s10.2 s10.1 v14 h15) rfl rfl (zba rfl (zba rfl (zba rfl zga)))) rfl ?_
       refine rn tk 8 rfl ?_
       cases hr
       exact atc rfl rfl
      ·
       refine rn tk 2 rfl ?_
       cases hr
       exact ato rfl rfl rfl rfl
     ·
      refine rn tk 2 rfl ?_
      cases hr
      exact jn _ rfl rfl rfl
    ·
     refine rn tk 2 rfl ?_
     cases hr
     exact jn _ rfl rfl rfl
 ·
  refine jb hr (fun j16=> [(0, .ptr 90000000 0),(65, .bo j16)]) (fun j16=> [(90000000, .cells [.s j3.2.Client.Name, .s j3.2.Client.Mail.Envelope.From, .l zca.pc j3.2.Client.Mail.Envelope.To, .s j3.2.Client.Mail.Envelope.Id, .l zfa.pc j3.2.Client.Mail.Message.Fields, .l cU j3.2.Client.Mail.Message.Body, .bo j3.2.Client.Pipelined, .l cU j3.2.Client.Buffer, .i j3.2.Client.Expected, .bo j3.2.Client.Whole, .bo j3.2.Client.Done, .hs 90000012 0, .l cU j3.2.content, .bo j3.2.chunk, .hs 90000015 0]),(90000012, .row 3 true 1 (List.map cI j3.2.Client.Results)),(90000015, .row 5 false 1 (List.map cU j3.2.out)),(90000999, .hold (.ptr 90000000 0) (T.getD 0 undef))]) (fun j16 hr=> ?_) (fun j16 hr=> ?_)
  ·
   refine rn tk 9 rfl ?_
   refine bs 60 hr rfl (fun c17 hr=> ?_) (fun c17 hr=> ?_)
   ·
    refine rn tk 6 rfl ?_
    cases hr
    exact jn _ rfl rfl rfl
   ·
    refine rn tk 6 rfl ?_
    cases hr
    exact jn _ rfl rfl rfl
  ·
   refine ac 65 hr rfl (fun c18 hr=> ?_) (fun c18 hr=> ?_)
   ·
    refine rn tk 12 rfl ?_
    cases hr
    exact krS tk (.inl rfl) rfl rfl (zba rfl (zba rfl (zba rfl (zba rfl zga))))
   ·
    refine rn tk 1 rfl ?_
    cases hr
    exact krS tk (.inl rfl) rfl rfl (zba rfl (zba rfl (zba rfl (zba rfl zga))))
theorem jLa (a0:Int) (r:Bool) (hr:wga a0=some r):Run Tryz.prog 105 [.i a0] (.bo r):=by
 unfold wga at hr
 refine rf (fn:=Tryz.f105) ⟨Tryz.func105,rfl,by kernel_rfl⟩ rfl (fun _=> rfl) fun g0 hg=> ?_
 refine rn tk 5 rfl ?_
 refine jb hr (fun j1=> [(2, .bo j1)]) (fun j1=> []) (fun j1 hr=> ?_) (fun j1 hr=> ?_)
 ·
  refine rn tk 4 rfl ?_
  refine bs 5 hr rfl (fun c2 hr=> ?_) (fun c2 hr=> ?_)
  ·
   refine rn tk 5 rfl ?_
   cases hr
   exact jn _ rfl rfl rfl
  ·
   refine rn tk 5 rfl ?_
   cases hr
   exact jn _ rfl rfl rfl
 ·
  refine rn tk 1 rfl ?_
  cases hr
  exact kr tk (.inr rfl) rfl rfl
theorem ZHa (a0:kta) (r:zta) (hr:qYa a0=some r):Run Tryz.prog 106 [.agg [.i a0.Code, .l cS a0.Lines]] (.agg [.i r.Code, .i r.Index]):=by
 unfold qYa at hr
 refine rf (fn:=Tryz.f106) ⟨Tryz.func106,rfl,by kernel_rfl⟩ rfl (fun _=> rfl) fun g0 hg=> ?_
 refine rn tk 11 rfl ?_
 obtain ⟨v1,h2,hr⟩:=zaa hr
 refine cl (jLa _ _ h2) rfl rfl ?_
 refine rn tk 3 rfl ?_
 refine ac 8 hr rfl (fun c3 hr=> ?_) (fun c3 hr=> ?_)
 ·
  refine rn tk 2 rfl ?_
  obtain ⟨v4,h5,hr⟩:=zaa hr
  refine cl (zla _ _ _ h5) rfl rfl ?_
  refine rn tk 5 rfl ?_
  cases hr
  exact kr tk (.inr rfl) rfl rfl
 ·
  refine rn tk 3 rfl ?_
  refine jb hr (fun j6=> [(1, .ptr 1 0),(2, .ptr 2 0),(19, .bo j6)]) (fun j6=> [(2, .cells [.i 0, .i 0]),(1, .cells [.i a0.Code, .l cS a0.Lines])]) (fun j6 hr=> ?_) (fun j6 hr=> ?_)
  ·
   refine rn tk 3 rfl ?_
   refine wn tk rfl rfl rfl ?_
   refine rn tk 2 rfl ?_
   refine bs 14 hr rfl (fun c7 hr=> ?_) (fun c7 hr=> ?_)
   ·
    refine rn tk 6 rfl ?_
    cases hr
    exact jn _ rfl rfl rfl
   ·
    refine rn tk 2 rfl ?_
    refine ug rfl rfl rfl ?_
    refine wn tk rfl rfl rfl ?_
    refine rn tk 3 rfl ?_
    cases hr
    exact jn _ rfl rfl rfl
  ·
   refine ac 19 hr rfl (fun c8 hr=> ?_) (fun c8 hr=> ?_)
   ·
    refine rn tk 2 rfl ?_
    obtain ⟨v9,h10,hr⟩:=zaa hr
    refine cl (zla _ _ _ h10) rfl rfl ?_
    refine rn tk 5 rfl ?_
    cases hr
    exact kr tk (.inr rfl) rfl rfl
   ·
    refine rn tk 7 rfl ?_
    refine wn tk rfl rfl rfl ?_
    refine rn tk 4 rfl ?_
    refine al2 hr (fun s11=> [(2, .ptr 2 0),(22, .l cS a0.Lines),(23, .i ((a0.Lines.length:Int))),(24, .i s11)]) (fun s11=> [(2, .cells [.i 0, .i 0])]) (.exit 0) (fun b12=> [(2, .ptr 2 0)]) (fun b12=> [(2, .cells [.i 0, .i 0])]) .ret (fun b13=> [(2, .ptr 2 0)]) (fun b13=> [(2, .cells [.i b13.Code, .i b13.Index])]) rfl rfl (fun s11 x15 hr=> ?_) (fun b12 hr=> ?_) (fun b13 hr=> ?_)
    ·
     unfold qRa at hr
     refine rn tk 6 rfl ?_
     refine ac 25 hr rfl (fun c16 hr=> ?_) (fun c16 hr=> ?_)
     ·
      refine rn tk 7 rfl ?_
      obtain ⟨v17,h18,hr⟩:=zaa hr
      refine wi tk h18 rfl rfl rfl rfl rfl ?_
      refine rn tk 13 rfl ?_
      refine ac 31 hr rfl (fun c19 hr=> ?_) (fun c19 hr=> ?_)
      ·
       refine rn tk 3 rfl ?_
       obtain ⟨v20,h21,hr⟩:=zaa hr
       refine cl (zla _ _ _ h21) rfl rfl ?_
       refine rn tk 7 rfl ?_
       cases hr
       exact ato rfl rfl rfl rfl
      ·
       refine rn tk 5 rfl ?_
       obtain ⟨v22,h23,hr⟩:=zaa hr
       refine cl (kCa _ _ _ h23) rfl rfl ?_
       refine rn tk 2 rfl ?_
       refine ac 35 hr rfl (fun c24 hr=> ?_) (fun c24 hr=> ?_)
       ·
        refine rn tk 3 rfl ?_
        obtain ⟨v25,h26,hr⟩:=zaa hr
        refine cl (zla _ _ _ h26) rfl rfl ?_
        refine rn tk 6 rfl ?_
        cases hr
        exact ato rfl rfl rfl rfl
       ·
        refine rn tk 7 rfl ?_
        cases hr
        exact atc rfl rfl
     ·
      refine rn tk 2 rfl ?_
      cases hr
      exact ato rfl rfl rfl rfl
    ·
     refine rn tk 4 rfl ?_
     obtain ⟨v27,h28,hr⟩:=zaa hr
     refine cl (zEa _ h28) rfl rfl ?_
     refine rn tk 4 rfl ?_
     cases hr
     exact kr tk (.inr rfl) rfl rfl
    ·
     refine rn tk 2 rfl ?_
     cases hr
     exact kr tk (.inr rfl) rfl rfl
theorem Qva (a0:kta) (r:Int × zta) (hr:wqa a0=some r):Run Tryz.prog 86 [.agg [.i a0.Code, .l cS a0.Lines]] (.tup [.i r.1, .agg [.i r.2.Code, .i r.2.Index]]):=by
 unfold wqa at hr
 refine rf (fn:=Tryz.f86) ⟨Tryz.func86,rfl,by kernel_rfl⟩ rfl (fun _=> rfl) fun g0 hg=> ?_
 refine rn tk 11 rfl ?_
 obtain ⟨v1,h2,hr⟩:=zaa hr
 refine cl (ZHa _ _ h2) rfl rfl ?_
 refine rn tk 7 rfl ?_
 obtain ⟨v3,h4,hr⟩:=zaa hr
 refine cl (zKa _ _ h4) rfl rfl ?_
 refine rn tk 2 rfl ?_
 refine ac 8 hr rfl (fun c5 hr=> ?_) (fun c5 hr=> ?_)
 ·
  refine rn tk 1 rfl ?_
  refine dr 2 [(2, .i 0),(9, .agg [.i v1.Code, .i v1.Index])] mixed (by kernel_rfl) rfl rfl (pq tk rfl (.plain rfl) (pq tk rfl (.plain rfl) .nil)) rfl ?_
  refine rn tk 5 rfl ?_
  cases hr
  exact kr tk (.inr rfl) rfl rfl
 ·
  refine rn tk 3 rfl ?_
  obtain ⟨v6,h7,hr⟩:=zaa hr
  refine dr 4 [(13, .agg [.i v6.Code, .i v6.Index]),(12, .i ((iQuo a0.Code 100))),(11, .i a0.Code),(10, .ptr 1 0)] mixed (by kernel_rfl) rfl rfl (pq tk rfl (.plain rfl) (pq tk rfl (.plain rfl) (.run (.plain rfl) (wRa (ev_iquo rfl rfl rfl)) (.run (.plain rfl) (qMa (zEa v6 h7) rfl) .nil)))) rfl ?_
  refine rn tk 5 rfl ?_
  cases hr
  exact kr tk (.inr rfl) rfl rfl
theorem ywa (a0:zda) (a1:kta) (r:zda) (hr:kra a0 a1=some r):RunS Tryz.prog 61 [.ptr 90000000 0, .agg [.i a1.Code, .l cS a1.Lines]] [(90000000, .cells [.s a0.Client.Name, .s a0.Client.Mail.Envelope.From, .l zca.pc a0.Client.Mail.Envelope.To, .s a0.Client.Mail.Envelope.Id, .l zfa.pc a0.Client.Mail.Message.Fields, .l cU a0.Client.Mail.Message.Body, .bo a0.Client.Pipelined, .l cU a0.Client.Buffer, .i a0.Client.Expected, .bo a0.Client.Whole, .bo a0.Client.Done, .hs 90000012 0, .l cU a0.content, .bo a0.chunk, .hs 90000015 0]),(90000012, .row 3 true 1 (List.map cI a0.Client.Results)),(90000015, .row 5 false 1 (List.map cU a0.out))] (.tup []) [(90000000, .cells [.s r.Client.Name, .s r.Client.Mail.Envelope.From, .l zca.pc r.Client.Mail.Envelope.To, .s r.Client.Mail.Envelope.Id, .l zfa.pc r.Client.Mail.Message.Fields, .l cU r.Client.Mail.Message.Body, .bo r.Client.Pipelined, .l cU r.Client.Buffer, .i r.Client.Expected, .bo r.Client.Whole, .bo r.Client.Done, .hs 90000012 0, .l cU r.content, .bo r.chunk, .hs 90000015 0]),(90000012, .row 3 true 1 (List.map cI r.Client.Results)),(90000015, .row 5 false 1 (List.map cU r.out))] 90000000 [90000012,90000015]:=by
 unfold kra at hr
 refine rfS (fn:=Tryz.f61) (H:=90000999) (.ptr 90000000 0) ⟨Tryz.func61,rfl,by kernel_rfl⟩ rfl (hasT rfl) (.inl ⟨rfl,rfl⟩) rfl rfl rfl rfl fun g0 hg S sg T=> ?_
 refine rn tk 8 rfl ?_
 obtain ⟨v1,h2,hr⟩:=zaa hr
 refine cl (Qva _ _ h2) rfl rfl ?_
 refine rn tk 11 rfl ?_
 obtain ⟨v3,h4,hr⟩:=zaa hr
 refine wo (zAa (k:=13) (qia a0 v3 h4) rfl rfl (zba rfl (zba rfl (zba rfl zga)))) rfl ?_
 refine rn tk 16 rfl ?_
 refine ac 19 hr rfl (fun c5 hr=> ?_) (fun c5 hr=> ?_)
 ·
  refine rn tk 7 rfl ?_
  refine ac 27 hr rfl (fun c6 hr=> ?_) (fun c6 hr=> ?_)
  ·
   refine rn tk 4 rfl ?_
   obtain ⟨v7,h8,hr⟩:=zaa hr
   refine cl (qua _ _ h8) rfl rfl ?_
   obtain ⟨v9,h10,hr⟩:=zaa hr
   refine wo (zAa (k:=31) (kea v3.2 v7 v9 h10) rfl rfl (zba rfl (zba rfl (zba rfl zga)))) rfl ?_
   refine rn tk 5 rfl ?_
   cases hr
   exact krS tk (.inr rfl) rfl rfl (zba rfl (zba rfl (zba rfl (zba rfl zga))))
  ·
   refine rn tk 4 rfl ?_
   obtain ⟨v11,h12,hr⟩:=zaa hr
   refine wo (zAa (k:=33) (q3a v3.2 v11 h12) rfl rfl (zba rfl (zba rfl (zba rfl zga)))) rfl ?_
   refine rn tk 2 rfl ?_
   cases hr
   exact krS tk (.inl rfl) rfl rfl (zba rfl (zba rfl (zba rfl (zba rfl zga))))
 ·
  refine rn tk 12 rfl ?_
  refine ac 34 hr rfl (fun c13 hr=> ?_) (fun c13 hr=> ?_)
  ·
   refine jb hr (fun j14=> [(0, .ptr 90000000 0),(6, .i j14.1)]) (fun j14=> [(90000000, .cells [.s j14.2.Client.Name, .s j14.2.Client.Mail.Envelope.From, .l zca.pc j14.2.Client.Mail.Envelope.To, .s j14.2.Client.Mail.Envelope.Id, .l zfa.pc j14.2.Client.Mail.Message.Fields, .l cU j14.2.Client.Mail.Message.Body, .bo j14.2.Client.Pipelined, .l cU j14.2.Client.Buffer, .i j14.2.Client.Expected, .bo j14.2.Client.Whole, .bo j14.2.Client.Done, .hs 90000012 0, .l cU j14.2.content, .bo j14.2.chunk, .hs 90000015 0]),(90000012, .row 3 true 1 (List.map cI j14.2.Client.Results)),(90000015, .row 5 false 1 (List.map cU j14.2.out)),(90000999, .hold (.ptr 90000000 0) (T.getD 0 undef))]) (fun j14 hr=> ?_) (fun j14 hr=> ?_)
   ·
    refine rn tk 6 rfl ?_
    refine ac 43 hr rfl (fun c15 hr=> ?_) (fun c15 hr=> ?_)
    ·
     obtain ⟨v16,h17,hr⟩:=zaa hr
     refine dr 13 [(56, .i v16),(55, .i v1.1),(54, .i ((w64 (v3.2.Client.Expected - 3)))),(53, .i v3.2.Client.Expected),(52, .ptr 90000000 8),(51, .ptr 90000000 0),(50, .ptr 90000000 0),(49, .ptr 90000000 0),(48, .hs 90000012 0),(47, .ptr 90000000 11),(46, .ptr 90000000 0),(45, .ptr 90000000 0),(44, .ptr 90000000 0)] mixed (by kernel_rfl) rfl rfl (pq tk rfl (.plain rfl) (pq tk rfl (.plain rfl) (pq tk rfl (.plain rfl) (pq tk rfl (.plain rfl) (pq tk rfl (.plain rfl) (pq tk rfl (.plain rfl) (pq tk rfl (.plain rfl) (pq tk rfl (.plain rfl) (pq tk rfl (.plain rfl) (pq tk rfl (.plain rfl) (pq tk rfl (.plain rfl) (pq tk rfl (.plain rfl) (.run (.plain rfl) (qMa (qua v1.1 v16 h17) rfl) .nil))))))))))))) rfl ?_
     obtain ⟨v18,h19,hr⟩:=zaa hr
     refine wih tk h19 rfl rfl rfl rfl rfl ?_
     obtain ⟨v20,h21,hr⟩:=zaa hr
     refine wo (KSa (F:=cI) (l:=v3.2.Client.Results) (n:=((w64 (v3.2.Client.Expected - 3)))) (j:=0) (v:=v20) (v' :=v16) (pcs:= [pI v16]) rfl rfl rfl v4a rfl h21 rfl rfl) rfl ?_
     refine rn tk 1 rfl ?_
     cases hr
     exact jn _ rfl rfl rfl
    ·
     refine rn tk 1 rfl ?_
     cases hr
     exact jn _ rfl rfl rfl
   ·
    refine rn tk 1 rfl ?_
    refine jb hr (fun j22=> [(0, .ptr 90000000 0),(77, .bo j22.1)]) (fun j22=> [(90000000, .cells [.s j22.2.Client.Name, .s j22.2.Client.Mail.Envelope.From, .l zca.pc j22.2.Client.Mail.Envelope.To, .s j22.2.Client.Mail.Envelope.Id, .l zfa.pc j22.2.Client.Mail.Message.Fields, .l cU j22.2.Client.Mail.Message.Body, .bo j22.2.Client.Pipelined, .l cU j22.2.Client.Buffer, .i j22.2.Client.Expected, .bo j22.2.Client.Whole, .bo j22.2.Client.Done, .hs 90000012 0, .l cU j22.2.content, .bo j22.2.chunk, .hs 90000015 0]),(90000012, .row 3 true 1 (List.map cI j22.2.Client.Results)),(90000015, .row 5 false 1 (List.map cU j22.2.out)),(90000999, .hold (.ptr 90000000 0) (T.getD 0 undef))]) (fun j22 hr=> ?_) (fun j22 hr=> ?_)
    ·
     refine rn tk 10 rfl ?_
     refine bs 66 hr rfl (fun c23 hr=> ?_) (fun c23 hr=> ?_)
     ·
      refine rn tk 8 rfl ?_
      refine bs 74 hr rfl (fun c24 hr=> ?_) (fun c24 hr=> ?_)
      ·
       refine rn tk 1 rfl ?_
       obtain ⟨v25,h26,hr⟩:=zaa hr
       refine ug rfl rfl rfl ?_
       refine wo (zAa (k:=76) (vBa j14.2 v25 h26) rfl rfl (zba rfl (zba rfl (zba rfl zga)))) rfl ?_
       refine rn tk 2 rfl ?_
       cases hr
       exact jn _ rfl rfl rfl
      ·
       refine rn tk 4 rfl ?_
       cases hr
       exact jn _ rfl rfl rfl
     ·
      refine rn tk 12 rfl ?_
      cases hr
      exact jn _ rfl rfl rfl
    ·
     refine ac 77 hr rfl (fun c27 hr=> ?_) (fun c27 hr=> ?_)
     ·
      refine rn tk 3 rfl ?_
      obtain ⟨v28,h29,hr⟩:=zaa hr
      refine wo (zAa (k:=79) (kea j22.2 2 v28 h29) rfl rfl (zba rfl (zba rfl (zba rfl zga)))) rfl ?_
      refine rn tk 5 rfl ?_
      cases hr
      exact krS tk (.inr rfl) rfl rfl (zba rfl (zba rfl (zba rfl (zba rfl zga))))
     ·
      refine rn tk 4 rfl ?_
      obtain ⟨v30,h31,hr⟩:=zaa hr
      refine wo (zAa (k:=81) (q3a j22.2 v30 h31) rfl rfl (zba rfl (zba rfl (zba rfl zga)))) rfl ?_
      refine rn tk 2 rfl ?_
      cases hr
      exact krS tk (.inl rfl) rfl rfl (zba rfl (zba rfl (zba rfl (zba rfl zga))))
  ·
   refine rn tk 12 rfl ?_
   refine ac 82 hr rfl (fun c32 hr=> ?_) (fun c32 hr=> ?_)
   ·
    refine rn tk 3 rfl ?_
    obtain ⟨v33,h34,hr⟩:=zaa hr
    refine wo (zAa (k:=92) (yba v3.2 v1.1 v33 h34) rfl rfl (zba rfl (zba rfl (zba rfl zga)))) rfl ?_
    refine rn tk 2 rfl ?_
    cases hr
    exact krS tk (.inl rfl) rfl rfl (zba rfl (zba rfl (zba rfl (zba rfl zga))))
   ·
    refine rn tk 7 rfl ?_
    refine ac 93 hr rfl (fun c35 hr=> ?_) (fun c35 hr=> ?_)
    ·
     refine rn tk 2 rfl ?_
     obtain ⟨v36,h37,hr⟩:=zaa hr
     refine wo (zAa (k:=97) (kea v3.2 1 v36 h37) rfl rfl (zba rfl (zba rfl (zba rfl zga)))) rfl ?_
     refine rn tk 2 rfl ?_
     cases hr
     exact krS tk (.inl rfl) rfl rfl (zba rfl (zba rfl (zba rfl (zba rfl zga))))
    ·
     refine rn tk 3 rfl ?_
     obtain ⟨v38,h39,hr⟩:=zaa hr
     refine cl (qua _ _ h39) rfl rfl ?_
     obtain ⟨v40,h41,hr⟩:=zaa hr
     refine wo (zAa (k:=18) (kea v3.2 v38 v40 h41) rfl rfl (zba rfl (zba rfl (zba rfl zga)))) rfl ?_
     refine rn tk 2 rfl ?_
     cases hr
     exact krS tk (.inl rfl) rfl rfl (zba rfl (zba rfl (zba rfl (zba rfl zga))))
end Go.Proofs.YtjnmamghadpedaaGreatDoor
namespace Go.Proofs.YtjnmamghadpedaaGreatDoor
open Go.RowKit
set_option maxRecDepth 100000
theorem W3a (g:G) (e:TypeId) (s:ByteArray):Old (fun _=> False) g ⟨Lib.bytesWorld g.w e s,g.u,g.loc⟩:=by
 generalize hw:Lib.bytesWorld g.w e s=w'
 unfold Lib.bytesWorld at hw
 have hother:∀q,q < g.w.heap.size→w'.heap[q]? =g.w.heap[q]? :=by
  intro q hq
  subst hw
  simp only [World.freeze,Nat.one_ne_zero,if_false,Array.getElem?_modify]
  rw [if_neg (by omega)]
  exact Below.heap_alloc g.w.drew _ _ hq
 have hws:w'.heap.size=g.w.heap.size+1:=by subst hw;simp [World.freeze]
 refine ⟨by subst hw;first | (simp [World.freeze];done) | (simp [World.freeze];rfl),by subst hw;first | (simp [World.freeze];done) | (simp [World.freeze];rfl),by subst hw;first | (simp [World.freeze];done) | (simp [World.freeze];rfl),⟨by show g.w.heap.size≤w'.heap.size;omega,fun _ _=> Nat.le_refl _,fun k i hk hi=> ?_,fun r hr=> (hother r (kAa hr)).trans hr⟩,fun k hk _=> ⟨hother k hk,rfl⟩⟩
 simp only [World.cell?];rw [hother k hk]
theorem zjb {g:G} {w' :World} (h:Below g.w.heap.size g.w w'):Old (fun _=> False) g ⟨w',g.u,g.loc⟩:=
 ⟨h.os,h.tape,h.output,⟨h.size,fun _ _=> Nat.le_refl _,fun k i hk _=> by simp only [World.cell?];rw [h.block k hk],fun r hr=> (h.block r (kAa hr)).trans hr⟩,fun k hk _=> ⟨h.block k hk,rfl⟩⟩
theorem err_var {g : G} (hg : Gl g) : ∃ tp p, g.w.var? Tryz.prog "strconv.ErrSyntax" = some #[.iface tp p] := by
 obtain ⟨tp,x,t,fz,h⟩:=hg.2.2 1 (by simp [Jua])
 have hn : Tryz.prog.globalNamed "strconv.ErrSyntax" = some 1 := by kernel_rfl
 refine ⟨tp,x, ?_⟩
 unfold World.var?
 rw [hn]
 simp only [Option.bind_some]
 rw [h]
theorem KDa (s:Str) (r:Int × Bool) (hr:qba s=some r):Run Tryz.prog 104 [.s s] (.tup [.i r.1, .ifc r.2]):=by
 unfold qba at hr
 split at hr
 case isFalse=> cases hr
 rename_i hlen
 refine ⟨⟨_,_,⟨Tryz.func104,rfl,by kernel_rfl⟩⟩,fun g vs hw hg ha=> ?_⟩
 obtain ⟨hsz,hrel⟩:=ha
 obtain ⟨l⟩:=vs
 match l,hsz with
 | [x],_=>
  obtain rfl:=str_argN (hrel 0 _ rfl)
  cases hn:Lib.atoi s with
  | none=>
   rw [hn] at hr
   cases hr
   obtain ⟨tp,p,hvar⟩:=err_var hg
   refine callsIn_wide.2 ((Tryz.strconv_Atoi_err_var (strB s) (by rw [zZa];exact hlen) (by simpa [strB] using hn) tp p g.w hvar).mono ?_)
   rintro e w' ⟨N,rfl,_,_,hb⟩
   exact ⟨⟨w',g.u,g.loc⟩,_,rfl,rfl,zjb hb,fun k hk=> hw k (Nat.le_trans hb.size hk),rfl, .tup rfl fun i c hi=> by
    match i,hi with
    | 0,rfl=> exact .pv (.b rfl)
    | 1,rfl=> exact .ifc rfl⟩
  | some n=>
   rw [hn] at hr
   cases hr
   refine callsIn_wide.2 ((Tryz.strconv_Atoi (strB s) n (by rw [zZa];exact hlen) (by simpa [strB] using hn) g.w).mono ?_)
   rintro e w' ⟨rfl,t,rfl⟩
   exact ⟨⟨_,g.u,g.loc⟩,_,rfl,rfl,W3a g _ _,fun k hk=> hw k (Nat.le_trans (W3a g _ _).ext.size hk),rfl, .tup rfl fun i c hi=> by
    match i,hi with
    | 0,rfl=> exact .pv (.b rfl)
    | 1,rfl=> exact .ifc rfl⟩
end Go.Proofs.YtjnmamghadpedaaGreatDoor
namespace Go.Proofs.YtjnmamghadpedaaGreatDoor
open Go.RowKit
set_option maxRecDepth 100000
set_option maxHeartbeats 40000000
theorem yEa (a0:Str) (r:Bool) (hr:qEa a0=some r):Run Tryz.prog 102 [.s a0] (.bo r):=by
 unfold qEa at hr
 refine rf (fn:=Tryz.f102) ⟨Tryz.func102,rfl,by kernel_rfl⟩ rfl (fun _=> rfl) fun g0 hg=> ?_
 refine rn tk 14 rfl ?_
 refine al2 hr (fun s1=> [(0, .s a0),(5, .i ((a0.length:Int))),(6, .i s1)]) (fun s1=> []) (.exit 0) (fun b2=> [(0, .s a0)]) (fun b2=> []) .ret (fun b3=> [(2, .bo b3)]) (fun b3=> []) rfl rfl (fun s1 x5 hr=> ?_) (fun b2 hr=> ?_) (fun b3 hr=> ?_)
 ·
  unfold vua at hr
  refine rn tk 6 rfl ?_
  refine ac 7 hr rfl (fun c6 hr=> ?_) (fun c6 hr=> ?_)
  ·
   refine rn tk 10 rfl ?_
   refine jb hr (fun j7=> [(0, .s a0),(5, .i ((a0.length:Int))),(6, .i s1),(18, .bo j7)]) (fun j7=> []) (fun j7 hr=> ?_) (fun j7 hr=> ?_)
   ·
    refine rn tk 3 rfl ?_
    obtain ⟨v8,h9,hr⟩:=zaa hr
    refine ws tk h9 rfl rfl rfl rfl ?_
    refine rn tk 2 rfl ?_
    refine bs 13 hr rfl (fun c10 hr=> ?_) (fun c10 hr=> ?_)
    ·
     refine rn tk 6 rfl ?_
     cases hr
     exact jn _ rfl rfl rfl
    ·
     refine rn tk 2 rfl ?_
     obtain ⟨v11,h12,hr⟩:=zaa hr
     refine ug rfl rfl rfl ?_
     refine ws tk h12 rfl rfl rfl rfl ?_
     refine rn tk 3 rfl ?_
     cases hr
     exact jn _ rfl rfl rfl
   ·
    refine ac 18 hr rfl (fun c13 hr=> ?_) (fun c13 hr=> ?_)
    ·
     refine rn tk 8 rfl ?_
     cases hr
     exact ato rfl rfl rfl rfl
    ·
     refine rn tk 7 rfl ?_
     cases hr
     exact atc rfl rfl
  ·
   refine rn tk 2 rfl ?_
   cases hr
   exact ato rfl rfl rfl rfl
 ·
  refine rn tk 10 rfl ?_
  cases hr
  exact kr tk (.inr rfl) rfl rfl
 ·
  refine rn tk 2 rfl ?_
  cases hr
  exact kr tk (.inr rfl) rfl rfl
theorem QOa (a0:Str) (r:Int × Str × Bool × Bool) (hr:w7a a0=some r):Run Tryz.prog 85 [.s a0] (.tup [.i r.1, .s r.2.1, .bo r.2.2.1, .bo r.2.2.2]):=by
 unfold w7a at hr
 refine rf (fn:=Tryz.f85) ⟨Tryz.func85,rfl,by kernel_rfl⟩ rfl (fun _=> rfl) fun g0 hg=> ?_
 refine rn tk 9 rfl ?_
 refine jb hr (fun j1=> [(0, .s a0),(30, .bo j1)]) (fun j1=> []) (fun j1 hr=> ?_) (fun j1 hr=> ?_)
 ·
  refine rn tk 5 rfl ?_
  refine bs 11 hr rfl (fun c2 hr=> ?_) (fun c2 hr=> ?_)
  ·
   refine rn tk 20 rfl ?_
   cases hr
   exact jn _ rfl rfl rfl
  ·
   refine rn tk 1 rfl ?_
   obtain ⟨v3,h4,hr⟩:=zaa hr
   refine ug rfl rfl rfl ?_
   refine ws tk h4 rfl rfl rfl rfl ?_
   refine rn tk 2 rfl ?_
   refine bs 15 hr rfl (fun c5 hr=> ?_) (fun c5 hr=> ?_)
   ·
    refine rn tk 1 rfl ?_
    obtain ⟨v6,h7,hr⟩:=zaa hr
    refine ug rfl rfl rfl ?_
    refine ws tk h7 rfl rfl rfl rfl ?_
    refine rn tk 4 rfl ?_
    refine bs 21 hr rfl (fun c8 hr=> ?_) (fun c8 hr=> ?_)
    ·
     refine rn tk 10 rfl ?_
     cases hr
     exact jn _ rfl rfl rfl
    ·
     refine rn tk 1 rfl ?_
     obtain ⟨v9,h10,hr⟩:=zaa hr
     refine ug rfl rfl rfl ?_
     refine wscH tk h10 rfl rfl rfl rfl ?_
     obtain ⟨v11,h12,hr⟩:=zaa hr
     refine ug rfl rfl rfl ?_
     refine cl (yEa _ _ h12) rfl rfl ?_
     refine rn tk 3 rfl ?_
     refine bs 27 hr rfl (fun c13 hr=> ?_) (fun c13 hr=> ?_)
     ·
      refine rn tk 4 rfl ?_
      cases hr
      exact jn _ rfl rfl rfl
     ·
      refine rn tk 1 rfl ?_
      obtain ⟨v14,h15,hr⟩:=zaa hr
      refine ug rfl rfl rfl ?_
      refine cl (kCa _ _ _ h15) rfl rfl ?_
      refine rn tk 2 rfl ?_
      cases hr
      exact jn _ rfl rfl rfl
   ·
    refine rn tk 7 rfl ?_
    obtain ⟨v16,h17,hr⟩:=zaa hr
    refine ug rfl rfl rfl ?_
    refine wscH tk h17 rfl rfl rfl rfl ?_
    obtain ⟨v18,h19,hr⟩:=zaa hr
    refine ug rfl rfl rfl ?_
    refine cl (yEa _ _ h19) rfl rfl ?_
    refine rn tk 3 rfl ?_
    refine bs 27 hr rfl (fun c20 hr=> ?_) (fun c20 hr=> ?_)
    ·
     refine rn tk 4 rfl ?_
     cases hr
     exact jn _ rfl rfl rfl
    ·
     refine rn tk 1 rfl ?_
     obtain ⟨v21,h22,hr⟩:=zaa hr
     refine ug rfl rfl rfl ?_
     refine cl (kCa _ _ _ h22) rfl rfl ?_
     refine rn tk 2 rfl ?_
     cases hr
     exact jn _ rfl rfl rfl
 ·
  refine ac 30 hr rfl (fun c23 hr=> ?_) (fun c23 hr=> ?_)
  ·
   refine rn tk 10 rfl ?_
   cases hr
   exact kr tk (.inr rfl) rfl rfl
  ·
   refine rn tk 5 rfl ?_
   obtain ⟨v24,h25,hr⟩:=zaa hr
   refine wscH tk h25 rfl rfl rfl rfl ?_
   obtain ⟨v26,h27,hr⟩:=zaa hr
   refine cl (KDa _ _ h27) rfl rfl ?_
   refine rn tk 8 rfl ?_
   obtain ⟨v28,h29,hr⟩:=zaa hr
   obtain ⟨v30,h31,hr⟩:=zaa hr
   obtain ⟨v32,h33,hr⟩:=zaa hr
   refine dr 10 [(3, .s v28),(2, .i v26.1),(44, .bo v32),(43, .i v26.1),(42, .bo (((v30.toNat:Int)==32))),(41, .u8 v30),(40, .s a0),(39, .s v28),(38, .s a0),(37, .i v26.1)] mixed (by kernel_rfl) rfl rfl (pq tk rfl (.plain rfl) (pq tk rfl (.plain rfl) (.run (.plain rfl) (wRa (Vqa rfl rfl zQa h29)) (pq tk rfl (.plain rfl) (.run (.plain rfl) (wRa (jMa rfl rfl zQa h31)) (pq tk rfl (.plain rfl) (pq tk rfl (.plain rfl) (.run (.plain rfl) (qMa (jLa v26.1 v32 h33) rfl) (pq tk rfl (.plain rfl) (pq tk rfl (.plain rfl) .nil)))))))))) rfl ?_
   refine rn tk 5 rfl ?_
   cases hr
   exact kr tk (.inr rfl) rfl rfl
theorem Qwa (a0:List Str) (r:kta × Int × zta) (hr:wpa a0=some r):Run Tryz.prog 60 [.l cS a0] (.tup [.agg [.i r.1.Code, .l cS r.1.Lines], .i r.2.1, .agg [.i r.2.2.Code, .i r.2.2.Index]]):=by
 unfold wpa at hr
 refine rf (fn:=Tryz.f60) ⟨Tryz.func60,rfl,by kernel_rfl⟩ rfl (fun _=> rfl) fun g0 hg=> ?_
 refine rn tk 11 rfl ?_
 refine wn tk rfl rfl rfl ?_
 refine rn tk 3 rfl ?_
 refine ac 15 hr rfl (fun c1 hr=> ?_) (fun c1 hr=> ?_)
 ·
  refine rn tk 3 rfl ?_
  obtain ⟨v2,h3,hr⟩:=zaa hr
  refine cl (zla _ _ _ h3) rfl rfl ?_
  refine rn tk 7 rfl ?_
  cases hr
  exact kr tk (.inr rfl) rfl rfl
 ·
  refine rn tk 5 rfl ?_
  refine vGa 1005 (o:=5) (j:=1) 9 1 rfl rfl rfl rfl (hO ?_)
  refine rn tk 6 rfl ?_
  refine wn tk rfl rfl rfl ?_
  refine rn tk 4 rfl ?_
  refine al2 hr (fun s4=> [(2, .ptr 2 0),(4, .ptr 4 0),(5, .ptr 5 0),(18, .l cS a0),(19, .i ((a0.length:Int))),(20, .i s4.1)]) (fun s4=> [(1005, .row 9 false 1 (List.map cS s4.2.1)),(5, .cells [.i s4.2.2, .hs 1005 0]),(4, .cells [.i 0, .i 0]),(2, .cells [.i 0, .l cS ([])])]) (.exit 0) (fun b5=> [(2, .ptr 2 0),(4, .ptr 4 0)]) (fun b5=> [(4, .cells [.i 0, .i 0]),(2, .cells [.i 0, .l cS ([])])]) .ret (fun b6=> [(2, .ptr 2 0),(3, .i b6.2.1),(4, .ptr 4 0)]) (fun b6=> [(2, .cells [.i b6.1.Code, .l cS b6.1.Lines]),(4, .cells [.i b6.2.2.Code, .i b6.2.2.Index])]) rfl rfl (fun s4 x8 hr=> ?_) (fun b5 hr=> ?_) (fun b6 hr=> ?_)
  ·
   unfold vPa at hr
   refine rn tk 6 rfl ?_
   refine ac 21 hr rfl (fun c9 hr=> ?_) (fun c9 hr=> ?_)
   ·
    refine rn tk 7 rfl ?_
    obtain ⟨v10,h11,hr⟩:=zaa hr
    refine wi tk h11 rfl rfl rfl rfl rfl ?_
    refine rn tk 8 rfl ?_
    obtain ⟨v12,h13,hr⟩:=zaa hr
    refine cl (QOa _ _ h13) rfl rfl ?_
    refine rn tk 16 rfl ?_
    refine jb hr (fun j14=> [(2, .ptr 2 0),(4, .ptr 4 0),(5, .ptr 5 0),(6, .i s4.1),(8, .i v12.1),(9, .s v12.2.1),(10, .bo v12.2.2.1),(12, .i j14),(18, .l cS a0),(19, .i ((a0.length:Int))),(20, .i s4.1)]) (fun j14=> [(1005, .row 9 false 1 (List.map cS s4.2.1)),(5, .cells [.i s4.2.2, .hs 1005 0]),(4, .cells [.i 0, .i 0]),(2, .cells [.i 0, .l cS ([])])]) (fun j14 hr=> ?_) (fun j14 hr=> ?_)
    ·
     refine rn tk 8 rfl ?_
     refine ac 32 hr rfl (fun c15 hr=> ?_) (fun c15 hr=> ?_)
     ·
      refine rn tk 4 rfl ?_
      cases hr
      exact jn _ rfl rfl rfl
     ·
      refine rn tk 7 rfl ?_
      refine ac 35 hr rfl (fun c16 hr=> ?_) (fun c16 hr=> ?_)
      ·
       refine rn tk 4 rfl ?_
       cases hr
       exact jn _ rfl rfl rfl
      ·
       refine rn tk 8 rfl ?_
       refine ac 38 hr rfl (fun c17 hr=> ?_) (fun c17 hr=> ?_)
       ·
        refine rn tk 4 rfl ?_
        cases hr
        exact jn _ rfl rfl rfl
       ·
        refine jb hr (fun j18=> [(2, .ptr 2 0),(4, .ptr 4 0),(5, .ptr 5 0),(6, .i s4.1),(8, .i v12.1),(9, .s v12.2.1),(10, .bo v12.2.2.1),(12, .i 0),(18, .l cS a0),(19, .i ((a0.length:Int))),(20, .i s4.1),(42, .bo j18)]) (fun j18=> [(1005, .row 9 false 1 (List.map cS s4.2.1)),(5, .cells [.i s4.2.2, .hs 1005 0]),(4, .cells [.i 0, .i 0]),(2, .cells [.i 0, .l cS ([])])]) (fun j18 hr=> ?_) (fun j18 hr=> ?_)
        ·
         refine rn tk 4 rfl ?_
         refine bs 45 hr rfl (fun c19 hr=> ?_) (fun c19 hr=> ?_)
         ·
          refine rn tk 7 rfl ?_
          cases hr
          exact jn _ rfl rfl rfl
         ·
          refine rn tk 7 rfl ?_
          cases hr
          exact jn _ rfl rfl rfl
        ·
         refine ac 42 hr rfl (fun c20 hr=> ?_) (fun c20 hr=> ?_)
         ·
          refine rn tk 4 rfl ?_
          cases hr
          exact jn _ rfl rfl rfl
         ·
          refine rn tk 2 rfl ?_
          cases hr
          exact jn _ rfl rfl rfl
    ·
     refine rn tk 7 rfl ?_
     refine ac 52 hr rfl (fun c21 hr=> ?_) (fun c21 hr=> ?_)
     ·
      refine rn tk 5 rfl ?_
      obtain ⟨v22,h23,hr⟩:=zaa hr
      refine cl (zla _ _ _ h23) rfl rfl ?_
      refine rn tk 9 rfl ?_
      cases hr
      exact ato rfl rfl rfl rfl
     ·
      refine rn tk 14 rfl ?_
      refine wz cS ([v12.2.1]:List Str) tk rfl rfl (fun _=> rfl) rfl rfl rfl ?_
      obtain ⟨v24,h25,hr⟩:=zaa hr
      refine wa tk h25 rfl rfl rfl rfl (fun _=> rfl) rfl rfl ?_
      refine rn tk 9 rfl ?_
      refine ac 65 hr rfl (fun c26 hr=> ?_) (fun c26 hr=> ?_)
      ·
       refine rn tk 1 rfl ?_
       obtain ⟨v27,h28,hr⟩:=zaa hr
       refine drX 4 5 4 8 [1,2] [(69, .agg [.i v27.Code, .i v27.Index]),(68, .i ((w64 (s4.1+1)))),(67, .i s4.1),(66, .agg [.i v12.1, .hs 1005 0])] [(2, .ptr 2 0),(4, .ptr 4 0),(68, .i ((w64 (s4.1+1)))),(69, .agg [.i v27.Code, .i v27.Index])] [(1005, .row 9 false 1 (List.map cS v24)),(5, .cells [.i v12.1, .hs 1005 0]),(4, .cells [.i 0, .i 0]),(2, .cells [.i v12.1, .hs 1005 0])] tk mixed (by kernel_rfl) rfl rfl rfl (pqX tk rfl (.plain rfl) (pqX tk rfl (.plain rfl) (pqX tk rfl (.plain rfl) (.run (.plain rfl) (qMa (zEa v27 h28) rfl) .nil)))) rfl rfl rfl rfl (by kernel_rfl) ?_
       refine rn tk 4 rfl ?_
       refine KFa (o:=2) (j:=1) (F:=cS) (l:=v24) rfl rfl rfl (hC ?_)
       refine rn tk 3 rfl ?_
       cases hr
       exact ato rfl rfl rfl rfl
      ·
       refine rn tk 7 rfl ?_
       cases hr
       exact atc rfl rfl
   ·
    refine rn tk 2 rfl ?_
    cases hr
    exact ato rfl rfl rfl rfl
  ·
   refine rn tk 5 rfl ?_
   obtain ⟨v29,h30,hr⟩:=zaa hr
   refine cl (zla _ _ _ h30) rfl rfl ?_
   refine rn tk 6 rfl ?_
   cases hr
   exact kr tk (.inr rfl) rfl rfl
  ·
   refine rn tk 2 rfl ?_
   cases hr
   exact kr tk (.inr rfl) rfl rfl
theorem yxa (a0:zda) (r:Bool × zda) (hr:ksa a0=some r):RunS Tryz.prog 36 [.ptr 90000000 0] [(90000000, .cells [.s a0.Client.Name, .s a0.Client.Mail.Envelope.From, .l zca.pc a0.Client.Mail.Envelope.To, .s a0.Client.Mail.Envelope.Id, .l zfa.pc a0.Client.Mail.Message.Fields, .l cU a0.Client.Mail.Message.Body, .bo a0.Client.Pipelined, .l cU a0.Client.Buffer, .i a0.Client.Expected, .bo a0.Client.Whole, .bo a0.Client.Done, .hs 90000012 0, .l cU a0.content, .bo a0.chunk, .hs 90000015 0]),(90000012, .row 3 true 1 (List.map cI a0.Client.Results)),(90000015, .row 5 false 1 (List.map cU a0.out))] (.bo r.1) [(90000000, .cells [.s r.2.Client.Name, .s r.2.Client.Mail.Envelope.From, .l zca.pc r.2.Client.Mail.Envelope.To, .s r.2.Client.Mail.Envelope.Id, .l zfa.pc r.2.Client.Mail.Message.Fields, .l cU r.2.Client.Mail.Message.Body, .bo r.2.Client.Pipelined, .l cU r.2.Client.Buffer, .i r.2.Client.Expected, .bo r.2.Client.Whole, .bo r.2.Client.Done, .hs 90000012 0, .l cU r.2.content, .bo r.2.chunk, .hs 90000015 0]),(90000012, .row 3 true 1 (List.map cI r.2.Client.Results)),(90000015, .row 5 false 1 (List.map cU r.2.out))] 90000000 [90000012,90000015]:=by
 unfold ksa at hr
 refine rfS (fn:=Tryz.f36) (H:=90000999) (.ptr 90000000 0) ⟨Tryz.func36,rfl,by kernel_rfl⟩ rfl (hasT rfl) (.inl ⟨rfl,rfl⟩) rfl rfl rfl rfl fun g0 hg S sg T=> ?_
 refine rn tk 8 rfl ?_
 refine qLa 1003 (d:=3) 9 1 rfl rfl rfl (hO ?_)
 refine rn tk 8 rfl ?_
 refine al1 hr (fun s1=> [(0, .ptr 90000000 0),(3, .hs 1003 0),(4, .i s1.1)]) (fun s1=> [(1003, .row 9 false 1 (List.map cS s1.2)),(90000999, .hold (.ptr 90000000 0) (T.getD 0 undef)),(90000000, .cells [.s a0.Client.Name, .s a0.Client.Mail.Envelope.From, .l zca.pc a0.Client.Mail.Envelope.To, .s a0.Client.Mail.Envelope.Id, .l zfa.pc a0.Client.Mail.Message.Fields, .l cU a0.Client.Mail.Message.Body, .bo a0.Client.Pipelined, .l cU a0.Client.Buffer, .i a0.Client.Expected, .bo a0.Client.Whole, .bo a0.Client.Done, .hs 90000012 0, .l cU a0.content, .bo a0.chunk, .hs 90000015 0]),(90000012, .row 3 true 1 (List.map cI a0.Client.Results)),(90000015, .row 5 false 1 (List.map cU a0.out))]) .ret (fun b2=> [(2, .bo b2.1)]) (fun b2=> [(90000000, .cells [.s b2.2.Client.Name, .s b2.2.Client.Mail.Envelope.From, .l zca.pc b2.2.Client.Mail.Envelope.To, .s b2.2.Client.Mail.Envelope.Id, .l zfa.pc b2.2.Client.Mail.Message.Fields, .l cU b2.2.Client.Mail.Message.Body, .bo b2.2.Client.Pipelined, .l cU b2.2.Client.Buffer, .i b2.2.Client.Expected, .bo b2.2.Client.Whole, .bo b2.2.Client.Done, .hs 90000012 0, .l cU b2.2.content, .bo b2.2.chunk, .hs 90000015 0]),(90000012, .row 3 true 1 (List.map cI b2.2.Client.Results)),(90000015, .row 5 false 1 (List.map cU b2.2.out)),(90000999, .hold (.ptr 90000000 0) (T.getD 0 undef))]) rfl rfl (fun s1 x3 hr=> ?_) (fun b2 hr=> ?_)
 ·
  unfold z5a at hr
  refine rn tk 9 rfl ?_
  obtain ⟨v4,h5,hr⟩:=zaa hr
  refine wlL tk h5 rfl rfl rfl (fun _=> rfl) rfl ?_
  refine qwa rfl (wHa (F:=cU) (l:=([(13:UInt8),(10:UInt8)]:List UInt8)) zha zva rfl (fun _=> rfl) rfl rfl) zha zva (zna rfl) (zna rfl) rfl (hO ?_)
  obtain ⟨v6,h7,hr⟩:=zaa hr
  refine cl (jfa _ _ _ h7) rfl rfl ?_
  refine rn tk 10 rfl ?_
  refine ac 20 hr rfl (fun c8 hr=> ?_) (fun c8 hr=> ?_)
  ·
   refine rn tk 8 rfl ?_
   cases hr
   exact ato rfl rfl rfl rfl
  ·
   refine rn tk 14 rfl ?_
   obtain ⟨v9,h10,hr⟩:=zaa hr
   refine wlLH tk h10 rfl rfl rfl rfl (fun _=> rfl) rfl ?_
   refine wb tk rfl rfl rfl ?_
   refine wz cS ([v9]:List Str) tk rfl rfl (fun _=> rfl) rfl rfl rfl ?_
   obtain ⟨v11,h12,hr⟩:=zaa hr
   refine wa tk h12 rfl rfl rfl rfl (fun _=> rfl) rfl rfl ?_
   refine rn tk 15 rfl ?_
   refine Vsa (d:=40) (F:=cS) (l:=v11) rfl rfl (hO ?_)
   obtain ⟨v13,h14,hr⟩:=zaa hr
   refine cl (Qwa _ _ h14) rfl rfl ?_
   refine rn tk 12 rfl ?_
   refine jb hr (fun j15=> [(0, .ptr 90000000 0),(3, .hs 1003 0),(4, .i j15.1),(6, .ptr 6 0),(8, .ptr 8 0),(45, .bo j15.2)]) (fun j15=> [(8, .cells [.i v13.2.2.Code, .i v13.2.2.Index]),(6, .cells [.i v13.1.Code, .l cS v13.1.Lines]),(1003, .row 9 false 1 (List.map cS v11)),(90000999, .hold (.ptr 90000000 0) (T.getD 0 undef)),(90000000, .cells [.s a0.Client.Name, .s a0.Client.Mail.Envelope.From, .l zca.pc a0.Client.Mail.Envelope.To, .s a0.Client.Mail.Envelope.Id, .l zfa.pc a0.Client.Mail.Message.Fields, .l cU a0.Client.Mail.Message.Body, .bo a0.Client.Pipelined, .l cU a0.Client.Buffer, .i a0.Client.Expected, .bo a0.Client.Whole, .bo a0.Client.Done, .hs 90000012 0, .l cU a0.content, .bo a0.chunk, .hs 90000015 0]),(90000012, .row 3 true 1 (List.map cI a0.Client.Results)),(90000015, .row 5 false 1 (List.map cU a0.out))]) (fun j15 hr=> ?_) (fun j15 hr=> ?_)
   ·
    refine rn tk 4 rfl ?_
    refine bs 48 hr rfl (fun c16 hr=> ?_) (fun c16 hr=> ?_)
    ·
     refine rn tk 11 rfl ?_
     cases hr
     exact jn _ rfl rfl rfl
    ·
     refine rn tk 4 rfl ?_
     refine bs 52 hr rfl (fun c17 hr=> ?_) (fun c17 hr=> ?_)
     ·
      refine rn tk 7 rfl ?_
      cases hr
      exact jn _ rfl rfl rfl
     ·
      refine rn tk 7 rfl ?_
      cases hr
      exact jn _ rfl rfl rfl
   ·
    refine ac 45 hr rfl (fun c18 hr=> ?_) (fun c18 hr=> ?_)
    ·
     refine rn tk 3 rfl ?_
     obtain ⟨v19,h20,hr⟩:=zaa hr
     refine wo (zAa (k:=59) (vza a0 v19 h20) rfl rfl (zba rfl (zba rfl (zba rfl zga)))) rfl ?_
     refine rn tk 10 rfl ?_
     cases hr
     exact ato rfl rfl rfl rfl
    ·
     refine rn tk 8 rfl ?_
     refine ac 60 hr rfl (fun c21 hr=> ?_) (fun c21 hr=> ?_)
     ·
      refine rn tk 9 rfl ?_
      obtain ⟨v22,h23,hr⟩:=zaa hr
      refine wlL tk h23 rfl rfl rfl (fun _=> rfl) rfl ?_
      refine rn tk 10 rfl ?_
      obtain ⟨v24,h25,hr⟩:=zaa hr
      refine wo (zAa (k:=77) (ywa ((zda.mk ((zia.mk a0.Client.Name a0.Client.Mail a0.Client.Pipelined v22 a0.Client.Expected a0.Client.Whole a0.Client.Done a0.Client.Results)) a0.content a0.chunk a0.out)) v13.1 v24 h25) rfl rfl (zba rfl (zba rfl (zba rfl zga)))) rfl ?_
      refine rn tk 10 rfl ?_
      cases hr
      exact ato rfl rfl rfl rfl
     ·
      refine rn tk 3 rfl ?_
      cases hr
      exact atc rfl rfl
 ·
  refine rn tk 1 rfl ?_
  cases hr
  exact krS tk (.inr rfl) rfl rfl (zba rfl (zba rfl (zba rfl (zba rfl zga))))
theorem wya (a0:List (List UInt8)) (r:List UInt8) (hr:kfa a0=some r):Run Tryz.prog 34 [.l (cL cU) a0] (.l cU r):=by
 unfold kfa at hr
 refine rf (fn:=Tryz.f34) ⟨Tryz.func34,rfl,by kernel_rfl⟩ rfl (fun _=> rfl) fun g0 hg=> ?_
 refine rn tk 14 rfl ?_
 refine wn tk rfl rfl rfl ?_
 refine rn tk 4 rfl ?_
 refine al1 hr (fun s1=> [(0, .l (cL cU) a0),(3, .i s1.1),(9, .l (cL cU) a0),(10, .i ((a0.length:Int))),(11, .i s1.2)]) (fun s1=> []) (.exit 0) (fun b2=> [(0, .l (cL cU) a0),(3, .i b2)]) (fun b2=> []) rfl rfl (fun s1 x3 hr=> ?_) (fun b2 hr=> ?_)
 ·
  unfold z0a at hr
  refine rn tk 6 rfl ?_
  refine ac 12 hr rfl (fun c4 hr=> ?_) (fun c4 hr=> ?_)
  ·
   refine rn tk 6 rfl ?_
   obtain ⟨v5,h6,hr⟩:=zaa hr
   refine wi tk h6 rfl rfl rfl rfl rfl ?_
   refine rn tk 8 rfl ?_
   refine wn tk rfl rfl rfl ?_
   refine rn tk 10 rfl ?_
   refine ac 20 hr rfl (fun c7 hr=> ?_) (fun c7 hr=> ?_)
   ·
    refine rn tk 1 rfl ?_
    cases hr
   ·
    refine rn tk 7 rfl ?_
    cases hr
    exact atc rfl rfl
  ·
   refine rn tk 2 rfl ?_
   cases hr
   exact ato rfl rfl rfl rfl
 ·
  refine rn tk 5 rfl ?_
  refine il (fn:=Tryz.f56) (args:= [.pv (.sl (some true) []), .i b2]) 100000 199999 [(0, .l (cL cU) a0)] rfl ⟨Tryz.func56,rfl,by kernel_rfl⟩ rfl rfl rfl fun T1 ds1=> ?_
  refine rn tk 12 rfl ?_
  refine ac 6 hr rfl (fun c8 hr=> ?_) (fun c8 hr=> ?_)
  ·
   refine rn tk 1 rfl ?_
   cases hr
  ·
   refine rn tk 7 rfl ?_
   refine wq (Wka rfl zha.u) rfl rfl rfl ?_
   refine rn tk 1 rfl ?_
   refine wq (Wla rfl zha.u) rfl rfl rfl ?_
   refine rn tk 11 rfl ?_
   refine ac 16 hr rfl (fun c9 hr=> ?_) (fun c9 hr=> ?_)
   ·
    refine rn tk 3 rfl ?_
    refine wq (Wka rfl zha.u) rfl rfl rfl ?_
    refine wq (ev_slnil rfl rfl zha zva) rfl rfl rfl ?_
    refine rn tk 1 rfl ?_
    obtain ⟨v10,h11,hr⟩:=zaa hr
    refine wo (Wma (k:=22) (F:=cU) (z:=((0:UInt8):UInt8)) (lim:=140737488355328) 1022 rfl rfl rfl rfl rfl zha v4a zva rfl rfl rfl h11) rfl ?_
    refine rn tk 1 rfl ?_
    refine wq (Wla rfl zha.u) rfl rfl rfl ?_
    obtain ⟨v12,h13,hr⟩:=zaa hr
    refine wo (JDa (k:=25) (F:=cU) (l:=v10) rfl rfl rfl rfl zha zva h13) rfl ?_
    refine rn tk 10 rfl ?_
    refine ie tk [.hs 1022 0] [(0, .l (cL cU) a0)] [(1022, .row 5 true 1 (List.map cU v12))] (.inr rfl) rfl rfl rfl rfl (hO ?_)
    refine rn tk 7 rfl ?_
    refine wn tk rfl rfl rfl ?_
    refine rn tk 4 rfl ?_
    refine al1 hr (fun s14=> [(6, .hs 1022 0),(25, .l (cL cU) a0),(26, .i ((a0.length:Int))),(27, .i s14.1)]) (fun s14=> [(1022, .row 5 true 1 (List.map cU s14.2))]) (.exit 2) (fun b15=> [(6, .hs 1022 0)]) (fun b15=> [(1022, .row 5 true 1 (List.map cU b15))]) rfl rfl (fun s14 x16 hr=> ?_) (fun b15 hr=> ?_)
    ·
     unfold z1a at hr
     refine rn tk 6 rfl ?_
     refine ac 28 hr rfl (fun c17 hr=> ?_) (fun c17 hr=> ?_)
     ·
      refine rn tk 6 rfl ?_
      obtain ⟨v18,h19,hr⟩:=zaa hr
      refine wi tk h19 rfl rfl rfl rfl rfl ?_
      refine rn tk 7 rfl ?_
      obtain ⟨v20,h21,hr⟩:=zaa hr
      refine wa tk h21 rfl rfl rfl rfl (fun _=> rfl) rfl rfl ?_
      refine rn tk 8 rfl ?_
      cases hr
      exact atc rfl rfl
     ·
      refine rn tk 2 rfl ?_
      cases hr
      exact ato rfl rfl rfl rfl
    ·
     refine rn tk 8 rfl ?_
     refine yma 1022 rfl (hC ?_)
     refine vHa (d:=2) (F:=cU) (l:=b15) rfl rfl (hC ?_)
     refine rn tk 1 rfl ?_
     cases hr
     exact kr tk (.inr rfl) rfl rfl
   ·
    refine rn tk 5 rfl ?_
    refine qLa 1026 (d:=26) 5 1 rfl rfl rfl (hO ?_)
    refine rn tk 4 rfl ?_
    refine ie tk [.hs 1026 0] [(0, .l (cL cU) a0)] [(1026, .row 5 false 1 (List.map cU (([]:List UInt8))))] (.inr rfl) rfl rfl rfl rfl (hO ?_)
    refine rn tk 7 rfl ?_
    refine wn tk rfl rfl rfl ?_
    refine rn tk 4 rfl ?_
    refine al1 hr (fun s22=> [(6, .hs 1026 0),(25, .l (cL cU) a0),(26, .i ((a0.length:Int))),(27, .i s22.1)]) (fun s22=> [(1026, .row 5 false 1 (List.map cU s22.2))]) (.exit 2) (fun b23=> [(6, .hs 1026 0)]) (fun b23=> [(1026, .row 5 false 1 (List.map cU b23))]) rfl rfl (fun s22 x24 hr=> ?_) (fun b23 hr=> ?_)
    ·
     unfold kja at hr
     refine rn tk 6 rfl ?_
     refine ac 28 hr rfl (fun c25 hr=> ?_) (fun c25 hr=> ?_)
     ·
      refine rn tk 6 rfl ?_
      obtain ⟨v26,h27,hr⟩:=zaa hr
      refine wi tk h27 rfl rfl rfl rfl rfl ?_
      refine rn tk 7 rfl ?_
      obtain ⟨v28,h29,hr⟩:=zaa hr
      refine wa tk h29 rfl rfl rfl rfl (fun _=> rfl) rfl rfl ?_
      refine rn tk 8 rfl ?_
      cases hr
      exact atc rfl rfl
     ·
      refine rn tk 2 rfl ?_
      cases hr
      exact ato rfl rfl rfl rfl
    ·
     refine rn tk 8 rfl ?_
     refine vHa (d:=2) (F:=cU) (l:=b23) rfl rfl (hC ?_)
     refine rn tk 1 rfl ?_
     cases hr
     exact kr tk (.inr rfl) rfl rfl
theorem qJa (a0:zia) (a1:List UInt8) (r:zia × (List UInt8) × zta) (hr:qha a0 a1=some r):Run Tryz.prog 15 [.agg [.s a0.Name, .s a0.Mail.Envelope.From, .l zca.pc a0.Mail.Envelope.To, .s a0.Mail.Envelope.Id, .l zfa.pc a0.Mail.Message.Fields, .l cU a0.Mail.Message.Body, .bo a0.Pipelined, .l cU a0.Buffer, .i a0.Expected, .bo a0.Whole, .bo a0.Done, .l cI a0.Results], .l cU a1] (.tup [.agg [.s r.1.Name, .s r.1.Mail.Envelope.From, .l zca.pc r.1.Mail.Envelope.To, .s r.1.Mail.Envelope.Id, .l zfa.pc r.1.Mail.Message.Fields, .l cU r.1.Mail.Message.Body, .bo r.1.Pipelined, .l cU r.1.Buffer, .i r.1.Expected, .bo r.1.Whole, .bo r.1.Done, .l cI r.1.Results], .l cU r.2.1, .agg [.i r.2.2.Code, .i r.2.2.Index]]):=by
 unfold qha at hr
 refine rf (fn:=Tryz.f15) ⟨Tryz.func15,rfl,by kernel_rfl⟩ rfl (fun _=> rfl) fun g0 hg=> ?_
 refine rn tk 12 rfl ?_
 obtain ⟨v1,h2,hr⟩:=zaa hr
 refine cl (yCa _ _ h2) rfl rfl ?_
 refine rn tk 7 rfl ?_
 obtain ⟨v3,h4,hr⟩:=zaa hr
 refine cl (zKa _ _ h4) rfl rfl ?_
 refine rn tk 2 rfl ?_
 refine ac 12 hr rfl (fun c5 hr=> ?_) (fun c5 hr=> ?_)
 ·
  refine rn tk 1 rfl ?_
  refine drX 2 4 4 4 [1] [(14, .agg [.i v1.Code, .i v1.Index]),(13, .agg [.s (([]:Str)), .s (([]:Str)), .pv (.sl (some true) []), .s (([]:Str)), .pv (.sl (some true) []), .pv (.sl (some true) []), .bo false, .pv (.sl (some true) []), .i 0, .bo false, .bo false, .pv (.sl (some true) [])])] [(4, .ptr 4 0),(5, .pv (.sl (some true) [])),(6, .ptr 6 0),(14, .agg [.i v1.Code, .i v1.Index])] [(7, .cells [.i v1.Code, .i v1.Index]),(6, .cells [.i 0, .i 0]),(4, .cells [.s (([]:Str)), .s (([]:Str)), .pv (.sl (some true) []), .s (([]:Str)), .pv (.sl (some true) []), .pv (.sl (some true) []), .bo false, .pv (.sl (some true) []), .i 0, .bo false, .bo false, .pv (.sl (some true) [])]),(2, .cells [.s a0.Name, .s a0.Mail.Envelope.From, .l zca.pc a0.Mail.Envelope.To, .s a0.Mail.Envelope.Id, .l zfa.pc a0.Mail.Message.Fields, .l cU a0.Mail.Message.Body, .bo a0.Pipelined, .l cU a0.Buffer, .i a0.Expected, .bo a0.Whole, .bo a0.Done, .l cI a0.Results])] tk mixed (by kernel_rfl) rfl rfl rfl (pqX tk rfl (.plain rfl) (pqX tk rfl (.plain rfl) .nil)) rfl rfl rfl rfl (by kernel_rfl) ?_
  refine rn tk 5 rfl ?_
  cases hr
  exact kr tk (.inr rfl) rfl rfl
 ·
  refine rn tk 7 rfl ?_
  refine wn tk rfl rfl rfl ?_
  refine rn tk 1 rfl ?_
  refine wn tk rfl rfl rfl ?_
  refine rn tk 4 rfl ?_
  refine ac 21 hr rfl (fun c6 hr=> ?_) (fun c6 hr=> ?_)
  ·
   refine rn tk 3 rfl ?_
   obtain ⟨v7,h8,hr⟩:=zaa hr
   refine cl (zla _ _ _ h8) rfl rfl ?_
   refine rn tk 7 rfl ?_
   cases hr
   exact kr tk (.inr rfl) rfl rfl
  ·
   refine rn tk 3 rfl ?_
   obtain ⟨v9,h10,hr⟩:=zaa hr
   obtain ⟨v11,h12,hr⟩:=zaa hr
   refine drX 7 7 1 1 [] [(30, .ptr 2 1),(29, .hs 1029 0),(28, .l cI a0.Results),(27, .ptr 2 11),(26, .agg [.s v9.Envelope.From, .l zca.pc v9.Envelope.To, .s v9.Envelope.Id, .l zfa.pc v9.Message.Fields, .l cU v9.Message.Body]),(25, .agg [.s a0.Mail.Envelope.From, .l zca.pc a0.Mail.Envelope.To, .s a0.Mail.Envelope.Id, .l zfa.pc a0.Mail.Message.Fields, .l cU a0.Mail.Message.Body]),(24, .ptr 2 1)] [(1, .l cU a1),(2, .ptr 2 0),(4, .ptr 4 0),(6, .ptr 6 0),(26, .agg [.s v9.Envelope.From, .l zca.pc v9.Envelope.To, .s v9.Envelope.Id, .l zfa.pc v9.Message.Fields, .l cU v9.Message.Body]),(29, .hs 1029 0),(30, .ptr 2 1)] [(1029, .row 3 true 1 (List.map cI v11)),(7, .cells [.i v1.Code, .i v1.Index]),(6, .cells [.i 0, .i 0]),(4, .cells [.s (([]:Str)), .s (([]:Str)), .pv (.sl (some true) []), .s (([]:Str)), .pv (.sl (some true) []), .pv (.sl (some true) []), .bo false, .pv (.sl (some true) []), .i 0, .bo false, .bo false, .pv (.sl (some true) [])]),(2, .cells [.s a0.Name, .s a0.Mail.Envelope.From, .l zca.pc a0.Mail.Envelope.To, .s a0.Mail.Envelope.Id, .l zfa.pc a0.Mail.Message.Fields, .l cU a0.Mail.Message.Body, .bo a0.Pipelined, .l cU a0.Buffer, .i a0.Expected, .bo a0.Whole, .bo a0.Done, .l cI a0.Results])] tk mixed (by kernel_rfl) rfl rfl rfl (pqX tk rfl (.plain rfl) (pqX tk rfl (.plain rfl) (.run (.plain rfl) (qMa (vNa a0.Mail v9 h10) rfl) (pqX tk rfl (.plain rfl) (pqX tk rfl (.plain rfl) (.new 1029 (.plain rfl) (Kja 1029 (q2a a0.Results v11 h12) rfl) (pqX tk rfl (.plain rfl) .nil))))))) rfl rfl rfl rfl (by kernel_rfl) ?_
   refine rn tk 10 rfl ?_
   refine wz (cL cU) ([a0.Buffer,a1]:List (List UInt8)) tk rfl rfl (fun _=> rfl) rfl rfl rfl ?_
   obtain ⟨v13,h14,hr⟩:=zaa hr
   refine cl (wya _ _ h14) rfl rfl ?_
   refine rn tk 8 rfl ?_
   refine wo (j9a (k:=40) 90000000 rfl rfl rfl rfl rfl) rfl ?_
   refine rn tk 1 rfl ?_
   refine Y6a 1029 90000012 rfl rfl rfl rfl rfl rfl (hO ?_)
   refine vGa 90000015 (o:=90000000) (j:=14) 5 1 rfl rfl rfl rfl (hO ?_)
   refine rn tk 9 rfl ?_
   obtain ⟨v15,h16,hr⟩:=zaa hr
   refine cl (wOa _ _ h16) rfl rfl ?_
   refine rn tk 13 rfl ?_
   refine al1 hr (fun s17=> [(4, .ptr 4 0),(6, .ptr 6 0),(8, .ptr 90000000 0)]) (fun s17=> [(90000015, .row 5 false 1 (List.map cU s17.out)),(90000012, .row 3 true 1 (List.map cI s17.Client.Results)),(90000000, .cells [.s s17.Client.Name, .s s17.Client.Mail.Envelope.From, .l zca.pc s17.Client.Mail.Envelope.To, .s s17.Client.Mail.Envelope.Id, .l zfa.pc s17.Client.Mail.Message.Fields, .l cU s17.Client.Mail.Message.Body, .bo s17.Client.Pipelined, .l cU s17.Client.Buffer, .i s17.Client.Expected, .bo s17.Client.Whole, .bo s17.Client.Done, .hs 90000012 0, .l cU s17.content, .bo s17.chunk, .hs 90000015 0]),(6, .cells [.i 0, .i 0]),(4, .cells [.s (([]:Str)), .s (([]:Str)), .l zca.pc ([]), .s (([]:Str)), .l zfa.pc ([]), .l cU ([]), .bo false, .l cU ([]), .i 0, .bo false, .bo false, .l cI ([])])]) (.exit 0) (fun b18=> [(4, .ptr 4 0),(6, .ptr 6 0),(8, .ptr 90000000 0)]) (fun b18=> [(90000000, .cells [.s b18.Client.Name, .s b18.Client.Mail.Envelope.From, .l zca.pc b18.Client.Mail.Envelope.To, .s b18.Client.Mail.Envelope.Id, .l zfa.pc b18.Client.Mail.Message.Fields, .l cU b18.Client.Mail.Message.Body, .bo b18.Client.Pipelined, .l cU b18.Client.Buffer, .i b18.Client.Expected, .bo b18.Client.Whole, .bo b18.Client.Done, .hs 90000012 0, .l cU b18.content, .bo b18.chunk, .hs 90000015 0]),(90000012, .row 3 true 1 (List.map cI b18.Client.Results)),(90000015, .row 5 false 1 (List.map cU b18.out)),(6, .cells [.i 0, .i 0]),(4, .cells [.s (([]:Str)), .s (([]:Str)), .l zca.pc ([]), .s (([]:Str)), .l zfa.pc ([]), .l cU ([]), .bo false, .l cU ([]), .i 0, .bo false, .bo false, .l cI ([])])]) rfl rfl (fun s17 x19 hr=> ?_) (fun b18 hr=> ?_)
   ·
    unfold kWa at hr
    refine rn tk 1 rfl ?_
    refine jb hr (fun j20=> [(4, .ptr 4 0),(6, .ptr 6 0),(8, .ptr 90000000 0),(63, .bo j20.1)]) (fun j20=> [(90000000, .cells [.s j20.2.Client.Name, .s j20.2.Client.Mail.Envelope.From, .l zca.pc j20.2.Client.Mail.Envelope.To, .s j20.2.Client.Mail.Envelope.Id, .l zfa.pc j20.2.Client.Mail.Message.Fields, .l cU j20.2.Client.Mail.Message.Body, .bo j20.2.Client.Pipelined, .l cU j20.2.Client.Buffer, .i j20.2.Client.Expected, .bo j20.2.Client.Whole, .bo j20.2.Client.Done, .hs 90000012 0, .l cU j20.2.content, .bo j20.2.chunk, .hs 90000015 0]),(90000012, .row 3 true 1 (List.map cI j20.2.Client.Results)),(90000015, .row 5 false 1 (List.map cU j20.2.out)),(6, .cells [.i 0, .i 0]),(4, .cells [.s (([]:Str)), .s (([]:Str)), .l zca.pc ([]), .s (([]:Str)), .l zfa.pc ([]), .l cU ([]), .bo false, .l cU ([]), .i 0, .bo false, .bo false, .l cI ([])])]) (fun j20 hr=> ?_) (fun j20 hr=> ?_)
    ·
     refine rn tk 8 rfl ?_
     refine bs 60 hr rfl (fun c21 hr=> ?_) (fun c21 hr=> ?_)
     ·
      refine rn tk 1 rfl ?_
      obtain ⟨v22,h23,hr⟩:=zaa hr
      refine ug rfl rfl rfl ?_
      refine wo (zAa (k:=62) (yxa s17 v22 h23) rfl rfl (zba rfl (zba rfl (zba rfl zga)))) rfl ?_
      refine rn tk 2 rfl ?_
      cases hr
      exact jn _ rfl rfl rfl
     ·
      refine rn tk 4 rfl ?_
      cases hr
      exact jn _ rfl rfl rfl
    ·
     refine ac 63 hr rfl (fun c24 hr=> ?_) (fun c24 hr=> ?_)
     ·
      refine rn tk 5 rfl ?_
      cases hr
      exact atc rfl rfl
     ·
      refine rn tk 2 rfl ?_
      cases hr
      exact ato rfl rfl rfl rfl
   ·
    refine rn tk 2 rfl ?_
    refine jb hr (fun j25=> [(4, .ptr 4 0),(6, .ptr 6 0),(8, .ptr 90000000 0)]) (fun j25=> [(90000000, .cells [.s j25.Client.Name, .s j25.Client.Mail.Envelope.From, .l zca.pc j25.Client.Mail.Envelope.To, .s j25.Client.Mail.Envelope.Id, .l zfa.pc j25.Client.Mail.Message.Fields, .l cU j25.Client.Mail.Message.Body, .bo j25.Client.Pipelined, .l cU j25.Client.Buffer, .i j25.Client.Expected, .bo j25.Client.Whole, .bo j25.Client.Done, .hs 90000012 0, .l cU j25.content, .bo j25.chunk, .hs 90000015 0]),(90000012, .row 3 true 1 (List.map cI j25.Client.Results)),(90000015, .row 5 false 1 (List.map cU j25.out)),(6, .cells [.i 0, .i 0]),(4, .cells [.s (([]:Str)), .s (([]:Str)), .l zca.pc ([]), .s (([]:Str)), .l zfa.pc ([]), .l cU ([]), .bo false, .l cU ([]), .i 0, .bo false, .bo false, .l cI ([])])]) (fun j25 hr=> ?_) (fun j25 hr=> ?_)
    ·
     refine rn tk 8 rfl ?_
     refine ct hr (fun j26=> [(4, .ptr 4 0),(6, .ptr 6 0),(8, .ptr 90000000 0),(64, .ptr 90000000 0),(70, .l cU j26)]) (fun j26=> [(90000000, .cells [.s b18.Client.Name, .s b18.Client.Mail.Envelope.From, .l zca.pc b18.Client.Mail.Envelope.To, .s b18.Client.Mail.Envelope.Id, .l zfa.pc b18.Client.Mail.Message.Fields, .l cU b18.Client.Mail.Message.Body, .bo b18.Client.Pipelined, .l cU b18.Client.Buffer, .i b18.Client.Expected, .bo b18.Client.Whole, .bo b18.Client.Done, .hs 90000012 0, .l cU b18.content, .bo b18.chunk, .hs 90000015 0]),(90000012, .row 3 true 1 (List.map cI b18.Client.Results)),(90000015, .row 5 false 1 (List.map cU b18.out)),(6, .cells [.i 0, .i 0]),(4, .cells [.s (([]:Str)), .s (([]:Str)), .l zca.pc ([]), .s (([]:Str)), .l zfa.pc ([]), .l cU ([]), .bo false, .l cU ([]), .i 0, .bo false, .bo false, .l cI ([])])]) (fun j26 hr jump2=> ?_) (fun j26 hr=> ?_)
     ·
      refine il (fn:=Tryz.f37) (args:= [.l cU b18.Client.Buffer]) 200000 299999 [(4, .ptr 4 0),(6, .ptr 6 0),(8, .ptr 90000000 0),(64, .ptr 90000000 0)] rfl ⟨Tryz.func37,rfl,by kernel_rfl⟩ rfl rfl rfl fun T2 ds2=> ?_
      refine rn tk 9 rfl ?_
      refine w0a (d:=3) (F:=cU) (l:=b18.Client.Buffer) rfl rfl rfl zha (fun c27=> hO ?_) (hO ?_)
      ·
       replace hr:=Zga c27 hr
       refine rn tk 10 rfl ?_
       refine ie tk [.pv (.sl (some true) [])] [(4, .ptr 4 0),(6, .ptr 6 0),(8, .ptr 90000000 0),(64, .ptr 90000000 0)] [(90000000, .cells [.s b18.Client.Name, .s b18.Client.Mail.Envelope.From, .l zca.pc b18.Client.Mail.Envelope.To, .s b18.Client.Mail.Envelope.Id, .l zfa.pc b18.Client.Mail.Message.Fields, .l cU b18.Client.Mail.Message.Body, .bo b18.Client.Pipelined, .l cU b18.Client.Buffer, .i b18.Client.Expected, .bo b18.Client.Whole, .bo b18.Client.Done, .hs 90000012 0, .l cU b18.content, .bo b18.chunk, .hs 90000015 0]),(90000012, .row 3 true 1 (List.map cI b18.Client.Results)),(90000015, .row 5 false 1 (List.map cU b18.out)),(6, .cells [.i 0, .i 0]),(4, .cells [.s (([]:Str)), .s (([]:Str)), .l zca.pc ([]), .s (([]:Str)), .l zfa.pc ([]), .l cU ([]), .bo false, .l cU ([]), .i 0, .bo false, .bo false, .l cI ([])])] (.inr rfl) rfl rfl rfl rfl ?_
       cases hr
       exact jump2 _ _ rfl rfl
      ·
       replace hr:=Zha hr
       refine rn tk 7 rfl ?_
       refine wo (yQa (k:=5) rfl zha zva) rfl ?_
       refine rn tk 1 rfl ?_
       obtain ⟨v28,h29,hr⟩:=zaa hr
       refine wo (vRa (k:=7) (F:=cU) (xs:=b18.Client.Buffer) (lim:=140737488355328) 1002 rfl rfl rfl zha zva rfl rfl (fun _=> rfl) rfl rfl rfl h29) rfl ?_
       refine rn tk 3 rfl ?_
       refine yma 1002 rfl (hC ?_)
       refine vHa (d:=2) (F:=cU) (l:=v28) rfl rfl (hC ?_)
       refine rn tk 1 rfl ?_
       refine ie tk [.l cU v28] [(4, .ptr 4 0),(6, .ptr 6 0),(8, .ptr 90000000 0),(64, .ptr 90000000 0)] [(1002, .row 5 false 1 (List.map cU v28)),(90000000, .cells [.s b18.Client.Name, .s b18.Client.Mail.Envelope.From, .l zca.pc b18.Client.Mail.Envelope.To, .s b18.Client.Mail.Envelope.Id, .l zfa.pc b18.Client.Mail.Message.Fields, .l cU b18.Client.Mail.Message.Body, .bo b18.Client.Pipelined, .l cU b18.Client.Buffer, .i b18.Client.Expected, .bo b18.Client.Whole, .bo b18.Client.Done, .hs 90000012 0, .l cU b18.content, .bo b18.chunk, .hs 90000015 0]),(90000012, .row 3 true 1 (List.map cI b18.Client.Results)),(90000015, .row 5 false 1 (List.map cU b18.out)),(6, .cells [.i 0, .i 0]),(4, .cells [.s (([]:Str)), .s (([]:Str)), .l zca.pc ([]), .s (([]:Str)), .l zfa.pc ([]), .l cU ([]), .bo false, .l cU ([]), .i 0, .bo false, .bo false, .l cI ([])])] (.inr rfl) rfl rfl rfl rfl ?_
       cases hr
       exact jump2 _ _ rfl rfl
     ·
      refine rn tk 15 rfl ?_
      refine ac 78 hr rfl (fun c30 hr=> ?_) (fun c30 hr=> ?_)
      ·
       refine rn tk 7 rfl ?_
       cases hr
       exact jn _ rfl rfl rfl
      ·
       refine rn tk 1 rfl ?_
       cases hr
       exact jn _ rfl rfl rfl
    ·
     refine rn tk 1 rfl ?_
     obtain ⟨v31,h32,hr⟩:=zaa hr
     refine drX 9 10 6 73 [4,5,6,7] [(91, .agg [.i v31.Code, .i v31.Index]),(90, .hs 90000015 0),(89, .ptr 90000000 14),(88, .ptr 90000000 0),(87, .ptr 90000000 0),(86, .agg [.s j25.Client.Name, .s j25.Client.Mail.Envelope.From, .l zca.pc j25.Client.Mail.Envelope.To, .s j25.Client.Mail.Envelope.Id, .l zfa.pc j25.Client.Mail.Message.Fields, .l cU j25.Client.Mail.Message.Body, .bo j25.Client.Pipelined, .l cU j25.Client.Buffer, .i j25.Client.Expected, .bo j25.Client.Whole, .bo j25.Client.Done, .hs 90000012 0]),(85, .ptr 90000000 0),(84, .ptr 90000000 0),(83, .ptr 90000000 0)] [(4, .ptr 4 0),(6, .ptr 6 0),(90, .hs 90000015 0),(91, .agg [.i v31.Code, .i v31.Index])] [(90000000, .cells [.s j25.Client.Name, .s j25.Client.Mail.Envelope.From, .l zca.pc j25.Client.Mail.Envelope.To, .s j25.Client.Mail.Envelope.Id, .l zfa.pc j25.Client.Mail.Message.Fields, .l cU j25.Client.Mail.Message.Body, .bo j25.Client.Pipelined, .l cU j25.Client.Buffer, .i j25.Client.Expected, .bo j25.Client.Whole, .bo j25.Client.Done, .hs 90000012 0, .l cU j25.content, .bo j25.chunk, .hs 90000015 0]),(90000012, .row 3 true 1 (List.map cI j25.Client.Results)),(90000015, .row 5 false 1 (List.map cU j25.out)),(6, .cells [.i 0, .i 0]),(4, .cells [.s j25.Client.Name, .s j25.Client.Mail.Envelope.From, .l zca.pc j25.Client.Mail.Envelope.To, .s j25.Client.Mail.Envelope.Id, .l zfa.pc j25.Client.Mail.Message.Fields, .l cU j25.Client.Mail.Message.Body, .bo j25.Client.Pipelined, .l cU j25.Client.Buffer, .i j25.Client.Expected, .bo j25.Client.Whole, .bo j25.Client.Done, .hs 90000012 0])] tk mixed (by kernel_rfl) rfl rfl rfl (pqX tk rfl (.plain rfl) (pqX tk rfl (.plain rfl) (pqX tk rfl (.plain rfl) (pqX tk rfl (.plain rfl) (pqX tk rfl (.plain rfl) (pqX tk rfl (.plain rfl) (pqX tk rfl (.plain rfl) (pqX tk rfl (.plain rfl) (.run (.plain rfl) (qMa (zEa v31 h32) rfl) .nil))))))))) rfl rfl rfl rfl (by kernel_rfl) ?_
     refine rn tk 4 rfl ?_
     refine yma 90000012 rfl (hC ?_)
     refine KFa (o:=4) (j:=11) (F:=cI) (l:=j25.Client.Results) rfl rfl rfl (hC ?_)
     refine vHa (d:=5) (F:=cU) (l:=j25.out) rfl rfl (hC ?_)
     refine rn tk 1 rfl ?_
     cases hr
     exact kr tk (.inr rfl) rfl rfl
theorem KEa (a0:Str) (a1:kca) (a2:Bool) (r:zia × zta) (hr:vXa a0 a1 a2=some r):Run Tryz.prog 7 [.s a0, .agg [.s a1.Envelope.From, .l zca.pc a1.Envelope.To, .s a1.Envelope.Id, .l zfa.pc a1.Message.Fields, .l cU a1.Message.Body], .bo a2] (.tup [.agg [.s r.1.Name, .s r.1.Mail.Envelope.From, .l zca.pc r.1.Mail.Envelope.To, .s r.1.Mail.Envelope.Id, .l zfa.pc r.1.Mail.Message.Fields, .l cU r.1.Mail.Message.Body, .bo r.1.Pipelined, .l cU r.1.Buffer, .i r.1.Expected, .bo r.1.Whole, .bo r.1.Done, .l cI r.1.Results], .agg [.i r.2.Code, .i r.2.Index]]):=by
 unfold vXa at hr
 refine rf (fn:=Tryz.f7) ⟨Tryz.func7,rfl,by kernel_rfl⟩ rfl (fun _=> rfl) fun g0 hg=> ?_
 refine rn tk 12 rfl ?_
 obtain ⟨v1,h2,hr⟩:=zaa hr
 refine cl (yBa _ _ _ h2) rfl rfl ?_
 refine rn tk 7 rfl ?_
 obtain ⟨v3,h4,hr⟩:=zaa hr
 refine cl (zKa _ _ h4) rfl rfl ?_
 refine rn tk 2 rfl ?_
 refine ac 13 hr rfl (fun c5 hr=> ?_) (fun c5 hr=> ?_)
 ·
  refine rn tk 1 rfl ?_
  refine drX 2 3 3 3 [1] [(15, .agg [.i v1.Code, .i v1.Index]),(14, .agg [.s (([]:Str)), .s (([]:Str)), .pv (.sl (some true) []), .s (([]:Str)), .pv (.sl (some true) []), .pv (.sl (some true) []), .bo false, .pv (.sl (some true) []), .i 0, .bo false, .bo false, .pv (.sl (some true) [])])] [(6, .ptr 6 0),(7, .ptr 7 0),(15, .agg [.i v1.Code, .i v1.Index])] [(8, .cells [.i v1.Code, .i v1.Index]),(7, .cells [.i 0, .i 0]),(6, .cells [.s (([]:Str)), .s (([]:Str)), .pv (.sl (some true) []), .s (([]:Str)), .pv (.sl (some true) []), .pv (.sl (some true) []), .bo false, .pv (.sl (some true) []), .i 0, .bo false, .bo false, .pv (.sl (some true) [])]),(4, .cells [.s a1.Envelope.From, .l zca.pc a1.Envelope.To, .s a1.Envelope.Id, .l zfa.pc a1.Message.Fields, .l cU a1.Message.Body])] tk mixed (by kernel_rfl) rfl rfl rfl (pqX tk rfl (.plain rfl) (pqX tk rfl (.plain rfl) .nil)) rfl rfl rfl rfl (by kernel_rfl) ?_
  refine rn tk 5 rfl ?_
  cases hr
  exact kr tk (.inr rfl) rfl rfl
 ·
  refine rn tk 3 rfl ?_
  obtain ⟨v6,h7,hr⟩:=zaa hr
  obtain ⟨v8,h9,hr⟩:=zaa hr
  obtain ⟨v10,h11,hr⟩:=zaa hr
  refine dr 11 [(26, .agg [.i v10.Code, .i v10.Index]),(25, .agg [.s a0, .s v6.Envelope.From, .l zca.pc v6.Envelope.To, .s v6.Envelope.Id, .l zfa.pc v6.Message.Fields, .l cU v6.Message.Body, .bo a2, .pv (.sl (some true) []), .i 0, .bo false, .bo false, .l cI v8]),(24, .l cI v8),(23, .i ((a1.Envelope.To.length:Int))),(22, .l zca.pc a1.Envelope.To),(21, .ptr 4 1),(20, .ptr 4 0),(19, .bo a2),(18, .agg [.s v6.Envelope.From, .l zca.pc v6.Envelope.To, .s v6.Envelope.Id, .l zfa.pc v6.Message.Fields, .l cU v6.Message.Body]),(17, .agg [.s a1.Envelope.From, .l zca.pc a1.Envelope.To, .s a1.Envelope.Id, .l zfa.pc a1.Message.Fields, .l cU a1.Message.Body]),(16, .s a0)] mixed (by kernel_rfl) rfl rfl (pq tk rfl (.plain rfl) (pq tk rfl (.plain rfl) (.run (.plain rfl) (qMa (vNa a1 v6 h7) rfl) (pq tk rfl (.plain rfl) (pq tk rfl (.plain rfl) (pq tk rfl (.plain rfl) (pq tk rfl (.plain rfl) (.run (.plain rfl) (wRa (v0a (f:=zca.pc) rfl zPa.u)) (.run (.plain rfl) (opG_make (F:=cI) (z:=(0:Int)) (lim:=17592186044416) rfl wKa v4a (fun _=> rfl) rfl rfl rfl h9) (pq tk rfl (.plain rfl) (.run (.plain rfl) (qMa (zEa v10 h11) rfl) .nil))))))))))) rfl ?_
  refine rn tk 5 rfl ?_
  cases hr
  exact kr tk (.inr rfl) rfl rfl
theorem Kpa (r:Bool) (hr:jma=some r):Run Tryz.prog 11 [] (.bo r):=by
 unfold jma at hr
 refine rf (fn:=Tryz.f11) ⟨Tryz.func11,rfl,by kernel_rfl⟩ rfl (fun _=> rfl) fun g0 hg=> ?_
 refine rn tk 7 rfl ?_
 refine wz cS ([([97,64,121]:Str)]:List Str) tk rfl rfl (fun _=> rfl) rfl rfl rfl ?_
 obtain ⟨v1,h2,hr⟩:=zaa hr
 refine cl (W0a _ _ h2) rfl rfl ?_
 obtain ⟨v3,h4,hr⟩:=zaa hr
 refine cl (KEa _ _ _ _ h4) rfl rfl ?_
 refine rn tk 12 rfl ?_
 refine qwa rfl (wHa (F:=cU) (l:=([(50:UInt8),(50:UInt8),(48:UInt8),(32:UInt8),(109:UInt8),(120:UInt8),(13:UInt8),(10:UInt8)]:List UInt8)) zha zva rfl (fun _=> rfl) rfl (by kernel_rfl)) zha zva (zna rfl) (zna rfl) rfl (hO ?_)
 obtain ⟨v5,h6,hr⟩:=zaa hr
 refine cl (qJa _ _ _ h6) rfl rfl ?_
 refine rn tk 14 rfl ?_
 refine qwa rfl (wHa (F:=cU) (l:=([(50:UInt8),(53:UInt8),(48:UInt8),(45:UInt8),(109:UInt8),(120:UInt8),(13:UInt8),(10:UInt8),(50:UInt8),(53:UInt8),(48:UInt8),(32:UInt8),(111:UInt8),(107:UInt8),(13:UInt8),(10:UInt8)]:List UInt8)) zha zva rfl (fun _=> rfl) rfl (by kernel_rfl)) zha zva (zna rfl) (zna rfl) rfl (hO ?_)
 obtain ⟨v7,h8,hr⟩:=zaa hr
 refine cl (qJa _ _ _ h8) rfl rfl ?_
 refine rn tk 14 rfl ?_
 obtain ⟨v9,h10,hr⟩:=zaa hr
 refine cl (KAa _ _ h10) rfl rfl ?_
 refine rn tk 9 rfl ?_
 refine jb hr (fun j11=> [(0, .bo j11)]) (fun j11=> []) (fun j11 hr=> ?_) (fun j11 hr=> ?_)
 ·
  refine rn tk 5 rfl ?_
  refine bs 41 hr rfl (fun c12 hr=> ?_) (fun c12 hr=> ?_)
  ·
   refine rn tk 5 rfl ?_
   refine bs 46 hr rfl (fun c13 hr=> ?_) (fun c13 hr=> ?_)
   ·
    refine rn tk 5 rfl ?_
    refine bs 51 hr rfl (fun c14 hr=> ?_) (fun c14 hr=> ?_)
    ·
     refine rn tk 5 rfl ?_
     refine bs 56 hr rfl (fun c15 hr=> ?_) (fun c15 hr=> ?_)
     ·
      refine rn tk 1 rfl ?_
      refine ug rfl rfl rfl ?_
      refine wb tk rfl rfl rfl ?_
      refine rn tk 3 rfl ?_
      refine bs 61 hr rfl (fun c16 hr=> ?_) (fun c16 hr=> ?_)
      ·
       refine rn tk 1 rfl ?_
       refine ug rfl rfl rfl ?_
       refine wb tk rfl rfl rfl ?_
       refine rn tk 3 rfl ?_
       refine bs 66 hr rfl (fun c17 hr=> ?_) (fun c17 hr=> ?_)
       ·
        refine rn tk 5 rfl ?_
        refine bs 71 hr rfl (fun c18 hr=> ?_) (fun c18 hr=> ?_)
        ·
         refine rn tk 4 rfl ?_
         refine bs 75 hr rfl (fun c19 hr=> ?_) (fun c19 hr=> ?_)
         ·
          refine rn tk 2 rfl ?_
          refine ug rfl rfl rfl ?_
          refine wz cI ([2]:List Int) tk rfl rfl (fun _=> rfl) rfl rfl rfl ?_
          obtain ⟨v20,h21,hr⟩:=zaa hr
          refine ug rfl rfl rfl ?_
          refine cl (Vka _ _ _ h21) rfl rfl ?_
          refine rn tk 3 rfl ?_
          cases hr
          exact jn _ rfl rfl rfl
         ·
          refine rn tk 7 rfl ?_
          cases hr
          exact jn _ rfl rfl rfl
        ·
         refine rn tk 11 rfl ?_
         cases hr
         exact jn _ rfl rfl rfl
       ·
        refine rn tk 16 rfl ?_
        cases hr
        exact jn _ rfl rfl rfl
      ·
       refine rn tk 21 rfl ?_
       cases hr
       exact jn _ rfl rfl rfl
     ·
      refine rn tk 26 rfl ?_
      cases hr
      exact jn _ rfl rfl rfl
    ·
     refine rn tk 31 rfl ?_
     cases hr
     exact jn _ rfl rfl rfl
   ·
    refine rn tk 36 rfl ?_
    cases hr
    exact jn _ rfl rfl rfl
  ·
   refine rn tk 41 rfl ?_
   cases hr
   exact jn _ rfl rfl rfl
 ·
  refine rn tk 1 rfl ?_
  cases hr
  exact kr tk (.inr rfl) rfl rfl
theorem Z8a (a0:zsa) (a1:zsa) (r:Bool) (hr:vta a0 a1=some r):Run Tryz.prog 51 [.agg [.l zfa.pc a0.Fields, .l cU a0.Body], .agg [.l zfa.pc a1.Fields, .l cU a1.Body]] (.bo r):=by
 unfold vta at hr
 refine rf (fn:=Tryz.f51) ⟨Tryz.func51,rfl,by kernel_rfl⟩ rfl (fun _=> rfl) fun g0 hg=> ?_
 refine rn tk 8 rfl ?_
 refine jb hr (fun j1=> [(2, .ptr 2 0),(3, .ptr 3 0),(21, .bo j1)]) (fun j1=> [(3, .cells [.l zfa.pc a1.Fields, .l cU a1.Body]),(2, .cells [.l zfa.pc a0.Fields, .l cU a0.Body])]) (fun j1 hr=> ?_) (fun j1 hr=> ?_)
 ·
  refine rn tk 3 rfl ?_
  refine wn tk rfl rfl rfl ?_
  refine rn tk 2 rfl ?_
  refine wn tk rfl rfl rfl ?_
  refine rn tk 2 rfl ?_
  refine bs 13 hr rfl (fun c2 hr=> ?_) (fun c2 hr=> ?_)
  ·
   refine rn tk 9 rfl ?_
   cases hr
   exact jn _ rfl rfl rfl
  ·
   refine rn tk 2 rfl ?_
   refine ug rfl rfl rfl ?_
   refine wb tk rfl rfl rfl ?_
   refine rn tk 2 rfl ?_
   refine ug rfl rfl rfl ?_
   refine wb tk rfl rfl rfl ?_
   refine rn tk 3 rfl ?_
   cases hr
   exact jn _ rfl rfl rfl
 ·
  refine ac 21 hr rfl (fun c3 hr=> ?_) (fun c3 hr=> ?_)
  ·
   refine rn tk 7 rfl ?_
   cases hr
   exact kr tk (.inr rfl) rfl rfl
  ·
   refine rn tk 9 rfl ?_
   refine al2 hr (fun s4=> [(2, .ptr 2 0),(3, .ptr 3 0),(5, .i s4)]) (fun s4=> [(3, .cells [.l zfa.pc a1.Fields, .l cU a1.Body]),(2, .cells [.l zfa.pc a0.Fields, .l cU a0.Body])]) (.exit 0) (fun b5=> []) (fun b5=> []) .ret (fun b6=> [(4, .bo b6)]) (fun b6=> []) rfl rfl (fun s4 x8 hr=> ?_) (fun b5 hr=> ?_) (fun b6 hr=> ?_)
   ·
    unfold q5a at hr
    refine rn tk 6 rfl ?_
    refine wn tk rfl rfl rfl ?_
    refine rn tk 3 rfl ?_
    refine ac 26 hr rfl (fun c9 hr=> ?_) (fun c9 hr=> ?_)
    ·
     refine rn tk 5 rfl ?_
     obtain ⟨v10,h11,hr⟩:=zaa hr
     obtain ⟨v12,h13,hr⟩:=zaa hr
     refine dr 10 [(38, .agg [.s v12.Name, .s v12.Value]),(37, .ep [pS v12.Name,pS v12.Value]),(36, .i s4),(35, .l zfa.pc a1.Fields),(34, .ptr 3 0),(33, .agg [.s v10.Name, .s v10.Value]),(32, .ep [pS v10.Name,pS v10.Value]),(31, .i s4),(30, .l zfa.pc a0.Fields),(29, .ptr 2 0)] mixed (by kernel_rfl) rfl rfl (pq tk rfl (.plain rfl) (pq tk rfl (.plain rfl) (pq tk rfl (.plain rfl) (.run (.plain rfl) (wRa (Kda (f:=zfa.pc) rfl rfl kVa qya rfl h11)) (pq tk rfl (.plain rfl) (pq tk rfl (.plain rfl) (pq tk rfl (.plain rfl) (pq tk rfl (.plain rfl) (.run (.plain rfl) (wRa (Kda (f:=zfa.pc) rfl rfl kVa qya rfl h13)) (pq tk rfl (.plain rfl) .nil)))))))))) rfl ?_
     refine wq (jPa rfl rfl qya VJa (.str rfl (by decide) zQa (.str rfl (by decide) zQa .nil))) rfl rfl rfl ?_
     refine rn tk 2 rfl ?_
     refine ac 39 hr rfl (fun c14 hr=> ?_) (fun c14 hr=> ?_)
     ·
      refine rn tk 8 rfl ?_
      cases hr
      exact ato rfl rfl rfl rfl
     ·
      refine rn tk 8 rfl ?_
      cases hr
      exact atc rfl rfl
    ·
     refine rn tk 2 rfl ?_
     cases hr
     exact ato rfl rfl rfl rfl
   ·
    refine rn tk 8 rfl ?_
    cases hr
    exact kr tk (.inr rfl) rfl rfl
   ·
    refine rn tk 2 rfl ?_
    cases hr
    exact kr tk (.inr rfl) rfl rfl
theorem QPa (a0:kca) (a1:kca) (r:Bool) (hr:w6a a0 a1=some r):Run Tryz.prog 28 [.agg [.s a0.Envelope.From, .l zca.pc a0.Envelope.To, .s a0.Envelope.Id, .l zfa.pc a0.Message.Fields, .l cU a0.Message.Body], .agg [.s a1.Envelope.From, .l zca.pc a1.Envelope.To, .s a1.Envelope.Id, .l zfa.pc a1.Message.Fields, .l cU a1.Message.Body]] (.bo r):=by
 unfold w6a at hr
 refine rf (fn:=Tryz.f28) ⟨Tryz.func28,rfl,by kernel_rfl⟩ rfl (fun _=> rfl) fun g0 hg=> ?_
 refine rn tk 8 rfl ?_
 refine jb hr (fun j1=> [(2, .ptr 2 0),(3, .ptr 3 0),(32, .bo j1)]) (fun j1=> [(3, .cells [.s a1.Envelope.From, .l zca.pc a1.Envelope.To, .s a1.Envelope.Id, .l zfa.pc a1.Message.Fields, .l cU a1.Message.Body]),(2, .cells [.s a0.Envelope.From, .l zca.pc a0.Envelope.To, .s a0.Envelope.Id, .l zfa.pc a0.Message.Fields, .l cU a0.Message.Body])]) (fun j1 hr=> ?_) (fun j1 hr=> ?_)
 ·
  refine rn tk 9 rfl ?_
  refine bs 13 hr rfl (fun c2 hr=> ?_) (fun c2 hr=> ?_)
  ·
   refine rn tk 20 rfl ?_
   cases hr
   exact jn _ rfl rfl rfl
  ·
   refine rn tk 9 rfl ?_
   refine bs 22 hr rfl (fun c3 hr=> ?_) (fun c3 hr=> ?_)
   ·
    refine rn tk 11 rfl ?_
    cases hr
    exact jn _ rfl rfl rfl
   ·
    refine rn tk 3 rfl ?_
    refine ug rfl rfl rfl ?_
    refine wn tk rfl rfl rfl ?_
    refine rn tk 3 rfl ?_
    refine ug rfl rfl rfl ?_
    refine wn tk rfl rfl rfl ?_
    refine rn tk 3 rfl ?_
    cases hr
    exact jn _ rfl rfl rfl
 ·
  refine ac 32 hr rfl (fun c4 hr=> ?_) (fun c4 hr=> ?_)
  ·
   refine rn tk 7 rfl ?_
   cases hr
   exact kr tk (.inr rfl) rfl rfl
  ·
   refine rn tk 9 rfl ?_
   refine al2 hr (fun s5=> [(2, .ptr 2 0),(3, .ptr 3 0),(5, .i s5)]) (fun s5=> [(3, .cells [.s a1.Envelope.From, .l zca.pc a1.Envelope.To, .s a1.Envelope.Id, .l zfa.pc a1.Message.Fields, .l cU a1.Message.Body]),(2, .cells [.s a0.Envelope.From, .l zca.pc a0.Envelope.To, .s a0.Envelope.Id, .l zfa.pc a0.Message.Fields, .l cU a0.Message.Body])]) (.exit 0) (fun b6=> [(2, .ptr 2 0),(3, .ptr 3 0)]) (fun b6=> [(3, .cells [.s a1.Envelope.From, .l zca.pc a1.Envelope.To, .s a1.Envelope.Id, .l zfa.pc a1.Message.Fields, .l cU a1.Message.Body]),(2, .cells [.s a0.Envelope.From, .l zca.pc a0.Envelope.To, .s a0.Envelope.Id, .l zfa.pc a0.Message.Fields, .l cU a0.Message.Body])]) .ret (fun b7=> [(4, .bo b7)]) (fun b7=> []) rfl rfl (fun s5 x9 hr=> ?_) (fun b6 hr=> ?_) (fun b7 hr=> ?_)
   ·
    unfold waa at hr
    refine rn tk 7 rfl ?_
    refine wn tk rfl rfl rfl ?_
    refine rn tk 3 rfl ?_
    refine ac 38 hr rfl (fun c10 hr=> ?_) (fun c10 hr=> ?_)
    ·
     refine rn tk 5 rfl ?_
     obtain ⟨v11,h12,hr⟩:=zaa hr
     obtain ⟨v13,h14,hr⟩:=zaa hr
     refine dr 12 [(52, .agg [.s v13.Address, .i v13.Notify]),(51, .ep [pS v13.Address,pI v13.Notify]),(50, .i s5),(49, .l zca.pc a1.Envelope.To),(48, .ptr 3 1),(47, .ptr 3 0),(46, .agg [.s v11.Address, .i v11.Notify]),(45, .ep [pS v11.Address,pI v11.Notify]),(44, .i s5),(43, .l zca.pc a0.Envelope.To),(42, .ptr 2 1),(41, .ptr 2 0)] mixed (by kernel_rfl) rfl rfl (pq tk rfl (.plain rfl) (pq tk rfl (.plain rfl) (pq tk rfl (.plain rfl) (pq tk rfl (.plain rfl) (.run (.plain rfl) (wRa (Kda (f:=zca.pc) rfl rfl zPa kia rfl h12)) (pq tk rfl (.plain rfl) (pq tk rfl (.plain rfl) (pq tk rfl (.plain rfl) (pq tk rfl (.plain rfl) (pq tk rfl (.plain rfl) (.run (.plain rfl) (wRa (Kda (f:=zca.pc) rfl rfl zPa kia rfl h14)) (pq tk rfl (.plain rfl) .nil)))))))))))) rfl ?_
     refine wq (jPa rfl rfl kia ZSa (.str rfl (by decide) zQa (.int rfl (by decide) v4a .nil))) rfl rfl rfl ?_
     refine rn tk 2 rfl ?_
     refine ac 53 hr rfl (fun c15 hr=> ?_) (fun c15 hr=> ?_)
     ·
      refine rn tk 8 rfl ?_
      cases hr
      exact ato rfl rfl rfl rfl
     ·
      refine rn tk 8 rfl ?_
      cases hr
      exact atc rfl rfl
    ·
     refine rn tk 2 rfl ?_
     cases hr
     exact ato rfl rfl rfl rfl
   ·
    refine rn tk 8 rfl ?_
    obtain ⟨v16,h17,hr⟩:=zaa hr
    refine cl (Z8a _ _ _ h17) rfl rfl ?_
    refine rn tk 4 rfl ?_
    cases hr
    exact kr tk (.inr rfl) rfl rfl
   ·
    refine rn tk 2 rfl ?_
    cases hr
    exact kr tk (.inr rfl) rfl rfl
theorem Z9a (a0:zia) (a1:zia) (r:Bool) (hr:qSa a0 a1=some r):Run Tryz.prog 12 [.agg [.s a0.Name, .s a0.Mail.Envelope.From, .l zca.pc a0.Mail.Envelope.To, .s a0.Mail.Envelope.Id, .l zfa.pc a0.Mail.Message.Fields, .l cU a0.Mail.Message.Body, .bo a0.Pipelined, .l cU a0.Buffer, .i a0.Expected, .bo a0.Whole, .bo a0.Done, .l cI a0.Results], .agg [.s a1.Name, .s a1.Mail.Envelope.From, .l zca.pc a1.Mail.Envelope.To, .s a1.Mail.Envelope.Id, .l zfa.pc a1.Mail.Message.Fields, .l cU a1.Mail.Message.Body, .bo a1.Pipelined, .l cU a1.Buffer, .i a1.Expected, .bo a1.Whole, .bo a1.Done, .l cI a1.Results]] (.bo r):=by
 unfold qSa at hr
 refine rf (fn:=Tryz.f12) ⟨Tryz.func12,rfl,by kernel_rfl⟩ rfl (fun _=> rfl) fun g0 hg=> ?_
 refine rn tk 7 rfl ?_
 refine jb hr (fun j1=> [(4, .bo j1)]) (fun j1=> []) (fun j1 hr=> ?_) (fun j1 hr=> ?_)
 ·
  refine rn tk 7 rfl ?_
  refine bs 10 hr rfl (fun c2 hr=> ?_) (fun c2 hr=> ?_)
  ·
   refine rn tk 7 rfl ?_
   refine bs 17 hr rfl (fun c3 hr=> ?_) (fun c3 hr=> ?_)
   ·
    refine rn tk 7 rfl ?_
    refine bs 24 hr rfl (fun c4 hr=> ?_) (fun c4 hr=> ?_)
    ·
     refine rn tk 7 rfl ?_
     refine bs 31 hr rfl (fun c5 hr=> ?_) (fun c5 hr=> ?_)
     ·
      refine rn tk 7 rfl ?_
      refine bs 38 hr rfl (fun c6 hr=> ?_) (fun c6 hr=> ?_)
      ·
       refine rn tk 2 rfl ?_
       refine ug rfl rfl rfl ?_
       refine wb tk rfl rfl rfl ?_
       refine rn tk 2 rfl ?_
       refine ug rfl rfl rfl ?_
       refine wb tk rfl rfl rfl ?_
       refine rn tk 3 rfl ?_
       refine bs 47 hr rfl (fun c7 hr=> ?_) (fun c7 hr=> ?_)
       ·
        refine rn tk 4 rfl ?_
        obtain ⟨v8,h9,hr⟩:=zaa hr
        refine ug rfl rfl rfl ?_
        refine cl (Vka _ _ _ h9) rfl rfl ?_
        refine rn tk 2 rfl ?_
        refine bs 54 hr rfl (fun c10 hr=> ?_) (fun c10 hr=> ?_)
        ·
         refine rn tk 4 rfl ?_
         obtain ⟨v11,h12,hr⟩:=zaa hr
         refine ug rfl rfl rfl ?_
         refine cl (QPa _ _ _ h12) rfl rfl ?_
         refine rn tk 3 rfl ?_
         cases hr
         exact jn _ rfl rfl rfl
        ·
         refine rn tk 8 rfl ?_
         cases hr
         exact jn _ rfl rfl rfl
       ·
        refine rn tk 15 rfl ?_
        cases hr
        exact jn _ rfl rfl rfl
      ·
       refine rn tk 24 rfl ?_
       cases hr
       exact jn _ rfl rfl rfl
     ·
      refine rn tk 31 rfl ?_
      cases hr
      exact jn _ rfl rfl rfl
    ·
     refine rn tk 38 rfl ?_
     cases hr
     exact jn _ rfl rfl rfl
   ·
    refine rn tk 45 rfl ?_
    cases hr
    exact jn _ rfl rfl rfl
  ·
   refine rn tk 52 rfl ?_
   cases hr
   exact jn _ rfl rfl rfl
 ·
  refine rn tk 1 rfl ?_
  cases hr
  exact kr tk (.inr rfl) rfl rfl
theorem wca (a0:zia) (a1:List UInt8) (a2:List UInt8) (r:Bool) (hr:kxa a0 a1 a2=some r):Run Tryz.prog 5 [.agg [.s a0.Name, .s a0.Mail.Envelope.From, .l zca.pc a0.Mail.Envelope.To, .s a0.Mail.Envelope.Id, .l zfa.pc a0.Mail.Message.Fields, .l cU a0.Mail.Message.Body, .bo a0.Pipelined, .l cU a0.Buffer, .i a0.Expected, .bo a0.Whole, .bo a0.Done, .l cI a0.Results], .l cU a1, .l cU a2] (.bo r):=by
 unfold kxa at hr
 refine rf (fn:=Tryz.f5) ⟨Tryz.func5,rfl,by kernel_rfl⟩ rfl (fun _=> rfl) fun g0 hg=> ?_
 refine rn tk 9 rfl ?_
 refine qLa 1007 (d:=7) 5 1 rfl rfl rfl (hO ?_)
 refine rn tk 6 rfl ?_
 obtain ⟨v1,h2,hr⟩:=zaa hr
 refine wa tk h2 rfl rfl rfl rfl (fun _=> rfl) rfl rfl ?_
 refine rn tk 7 rfl ?_
 obtain ⟨v3,h4,hr⟩:=zaa hr
 refine wa tk h4 rfl rfl rfl rfl (fun _=> rfl) rfl rfl ?_
 refine rn tk 7 rfl ?_
 obtain ⟨v5,h6,hr⟩:=zaa hr
 refine cl (qJa _ _ _ h6) rfl rfl ?_
 refine rn tk 15 rfl ?_
 refine Vsa (d:=32) (F:=cU) (l:=v3) rfl rfl (hO ?_)
 obtain ⟨v7,h8,hr⟩:=zaa hr
 refine cl (qJa _ _ _ h8) rfl rfl ?_
 refine rn tk 12 rfl ?_
 refine jb hr (fun j9=> [(2, .l cU a2),(8, .ptr 8 0),(9, .l cU v5.2.1),(10, .ptr 10 0),(11, .ptr 11 0),(12, .l cU v7.2.1),(48, .bo j9)]) (fun j9=> [(11, .cells [.s v7.1.Name, .s v7.1.Mail.Envelope.From, .l zca.pc v7.1.Mail.Envelope.To, .s v7.1.Mail.Envelope.Id, .l zfa.pc v7.1.Mail.Message.Fields, .l cU v7.1.Mail.Message.Body, .bo v7.1.Pipelined, .l cU v7.1.Buffer, .i v7.1.Expected, .bo v7.1.Whole, .bo v7.1.Done, .l cI v7.1.Results]),(10, .cells [.i v5.2.2.Code, .i v5.2.2.Index]),(8, .cells [.s v5.1.Name, .s v5.1.Mail.Envelope.From, .l zca.pc v5.1.Mail.Envelope.To, .s v5.1.Mail.Envelope.Id, .l zfa.pc v5.1.Mail.Message.Fields, .l cU v5.1.Mail.Message.Body, .bo v5.1.Pipelined, .l cU v5.1.Buffer, .i v5.1.Expected, .bo v5.1.Whole, .bo v5.1.Done, .l cI v5.1.Results])]) (fun j9 hr=> ?_) (fun j9 hr=> ?_)
 ·
  refine rn tk 1 rfl ?_
  obtain ⟨v10,h11,hr⟩:=zaa hr
  refine cl (Kpa _ h11) rfl rfl ?_
  refine rn tk 2 rfl ?_
  refine bs 39 hr rfl (fun c12 hr=> ?_) (fun c12 hr=> ?_)
  ·
   refine rn tk 10 rfl ?_
   cases hr
   exact jn _ rfl rfl rfl
  ·
   refine rn tk 5 rfl ?_
   refine bs 44 hr rfl (fun c13 hr=> ?_) (fun c13 hr=> ?_)
   ·
    refine rn tk 5 rfl ?_
    cases hr
    exact jn _ rfl rfl rfl
   ·
    refine rn tk 5 rfl ?_
    cases hr
    exact jn _ rfl rfl rfl
 ·
  refine ac 48 hr rfl (fun c14 hr=> ?_) (fun c14 hr=> ?_)
  ·
   refine jb hr (fun j15=> [(6, .bo j15)]) (fun j15=> []) (fun j15 hr=> ?_) (fun j15 hr=> ?_)
   ·
    refine rn tk 1 rfl ?_
    obtain ⟨v16,h17,hr⟩:=zaa hr
    refine cl (Kpa _ h17) rfl rfl ?_
    refine rn tk 1 rfl ?_
    refine bs 50 hr rfl (fun c18 hr=> ?_) (fun c18 hr=> ?_)
    ·
     refine rn tk 4 rfl ?_
     refine bs 54 hr rfl (fun c19 hr=> ?_) (fun c19 hr=> ?_)
     ·
      refine rn tk 7 rfl ?_
      cases hr
      exact jn _ rfl rfl rfl
     ·
      refine rn tk 1 rfl ?_
      refine ug rfl rfl rfl ?_
      refine wn tk rfl rfl rfl ?_
      refine rn tk 5 rfl ?_
      cases hr
      exact jn _ rfl rfl rfl
    ·
     refine rn tk 11 rfl ?_
     cases hr
     exact jn _ rfl rfl rfl
   ·
    refine rn tk 2 rfl ?_
    cases hr
    exact kr tk (.inr rfl) rfl rfl
  ·
   refine rn tk 6 rfl ?_
   obtain ⟨v20,h21,hr⟩:=zaa hr
   refine cl (qJa _ _ _ h21) rfl rfl ?_
   refine rn tk 11 rfl ?_
   refine jb hr (fun j22=> [(6, .bo j22)]) (fun j22=> []) (fun j22 hr=> ?_) (fun j22 hr=> ?_)
   ·
    refine rn tk 5 rfl ?_
    refine bs 70 hr rfl (fun c23 hr=> ?_) (fun c23 hr=> ?_)
    ·
     refine rn tk 2 rfl ?_
     obtain ⟨v24,h25,hr⟩:=zaa hr
     refine ug rfl rfl rfl ?_
     refine cl (Z9a _ _ _ h25) rfl rfl ?_
     refine rn tk 2 rfl ?_
     refine bs 75 hr rfl (fun c26 hr=> ?_) (fun c26 hr=> ?_)
     ·
      refine rn tk 1 rfl ?_
      refine ug rfl rfl rfl ?_
      refine wb tk rfl rfl rfl ?_
      refine rn tk 1 rfl ?_
      refine ug rfl rfl rfl ?_
      refine wb tk rfl rfl rfl ?_
      refine rn tk 1 rfl ?_
      refine ug rfl rfl rfl ?_
      refine wb tk rfl rfl rfl ?_
      obtain ⟨v27,h28,hr⟩:=zaa hr
      refine ug rfl rfl rfl ?_
      refine wc h28 rfl rfl rfl ?_
      refine rn tk 4 rfl ?_
      cases hr
      exact jn _ rfl rfl rfl
     ·
      refine rn tk 11 rfl ?_
      cases hr
      exact jn _ rfl rfl rfl
    ·
     refine rn tk 16 rfl ?_
     cases hr
     exact jn _ rfl rfl rfl
   ·
    refine rn tk 1 rfl ?_
    cases hr
    exact kr tk (.inr rfl) rfl rfl
end Go.Proofs.YtjnmamghadpedaaGreatDoor
namespace Go.Proofs.YtjnmamghadpedaaGreatDoor.clientCutsDoNotMatter
open Go.ChangeShapes Go.WideShapes Go.ChangeAt Go.RowKit
set_option maxRecDepth 100000
theorem contract (H:Type) (enc:TypeId × Value→H) (W:World) (base:Nat) (args:Array Value) (ds gs:List (DataW H)) (before:List MemPlace)
  (hval:∀(j:Nat) t v,Tryz.f5.params[j]? =some t→args[j]? =some v→Value.okWide Tryz.prog W .any base t v)
  (hW:DataW.Whole enc Tryz.prog Tryz.f5.params.toList Rows.clientCutsDoNotMatterSpec.vars false W args.toList ds gs before) (hk:Rows.uptoSmall H (ds++gs)=true) (hgl:Gl (gAll W)):
  Calls Tryz.prog 5 args W fun e W' => ∃v,e= .returned v∧Rows.clientCutsDoNotMatterSpec.post enc Tryz.prog Tryz.f5 false true false false W args v W' :=by
 have hW' :=hW
 obtain ⟨p,q,hA0,hV,rfl,hfz,hnd⟩:=hW
 have hA:DataW.TrodAll enc Tryz.prog W 0 (fun _=> true) true Tryz.f5.params.toList args.toList ds p:=hA0
 rw [Tryz.params5] at hA hval
 obtain ⟨v0,vs0,d0,ds0,p0,q0,hargs,rfl,rfl,h0,r0⟩:=trodAll_cons hA
 obtain ⟨v1,vs1,d1,ds1,p1,q1,rfl,rfl,rfl,h1,r1⟩:=trodAll_cons r0
 obtain ⟨v2,vs2,d2,ds2,p2,q2,rfl,rfl,rfl,h2,r2⟩:=trodAll_cons r1
 obtain ⟨rfl,rfl,rfl⟩:=trodAll_nil r2
 obtain rfl:args= #[v0,v1,v2]:=by cases args;simp_all
 obtain ⟨rfl,rfl⟩:=trodVars_none hV
 obtain ⟨a0,e0,o0,k0⟩:=arg_agg VLa (by obtain ⟨cs,h,_⟩:=okWide_struct yqa.u (hval 0 _ v0 rfl rfl);exact ⟨cs,h⟩) h0
 obtain ⟨a1,e1,o1,k1⟩:=z3b wfa (by obtain ⟨_,_,_,h⟩:=okWide_slice zha.u (hval 1 _ v1 rfl rfl);rw [h];rfl) h1
 obtain ⟨a2,e2,o2,k2⟩:=z3b wfa (by obtain ⟨_,_,_,h⟩:=okWide_slice zha.u (hval 2 _ v2 rfl rfl);rw [h];rfl) h2
 have hk2:=of_decide_eq_true hk
 simp only [List.append_nil,Rows.uptoBulkAll] at hk2
 have ht:=v2a a0 a1 a2 o0 o1 o2 (by (try dsimp only);omega)
 have key:Calls Tryz.prog 5 #[v0,v1,v2] W fun e W' => e= .returned (.bool true)∧Below W.heap.size W W' :=Wra (wca a0 a1 a2 true ht) hgl (JNa (.cons e0 (.cons (e1 _ rfl) (.cons (e2 _ rfl) .nil))))
 refine key.mono fun e W' ⟨he,hb⟩=> ⟨_,he, ?_⟩
 exact z4b laidOut (by kernel_rfl) Tryz.underlying4 (by kernel_rfl) rfl rfl hW' hb
noncomputable def wit (os:Os):World:=World.doorLaid Tryz.prog 62 os
theorem reads (os:Os) {H:Type} (enc:TypeId × Value→H):∃places,DataW.whole enc Tryz.prog ((wit os).forCall (fun _ _=> 0) ⟨#[], #[.agg #[.string ⟨#[]⟩, .string ⟨#[]⟩, .slice none 0 0, .string ⟨#[]⟩, .slice none 0 0, .slice none 0 0, .bool false, .slice none 0 0, .int .i64 0, .bool false, .bool false, .slice none 0 0], .slice none 0 0, .slice none 0 0], []⟩).memory Tryz.f5.params.toList (Rows.OpenSpec.upto Rows.clientCutsDoNotMatterSpec).vars false (#[.agg #[.string ⟨#[]⟩, .string ⟨#[]⟩, .slice none 0 0, .string ⟨#[]⟩, .slice none 0 0, .slice none 0 0, .bool false, .slice none 0 0, .int .i64 0, .bool false, .bool false, .slice none 0 0], .slice none 0 0, .slice none 0 0]:Array Value).toList 8=some ([.agg [.lit (.string []), .agg [.agg [.lit (.string []), .nil, .lit (.string [])], .agg [.nil, .nil]], .lit (.bool false), .nil, .lit (.int .i64 0), .lit (.bool false), .lit (.bool false), .nil], .nil, .nil], [],places):=
 ⟨[],by kernel_rfl⟩
theorem lifted (os:Os) (started:os.Started) (H:Type) (enc:TypeId × Value→H) (F:Stop.Interp):
  ReturnsInHanded {} Tryz.checked os 5 .any ((Rows.OpenSpec.upto Rows.clientCutsDoNotMatterSpec).preRow enc Tryz.prog Tryz.f5 Rows.clientCutsDoNotMatterUptoRow.domain false Rows.clientCutsDoNotMatterUptoRow.laid) (((Rows.OpenSpec.upto Rows.clientCutsDoNotMatterSpec).at F).post enc Tryz.prog Tryz.f5 false true false false):=by
 obtain ⟨places,hx⟩:=reads os enc
 refine returnsInHanded_of_row (C:=Tryz.checked) (s:=Rows.OpenSpec.upto Rows.clientCutsDoNotMatterSpec) own started (by kernel_rfl) Tryz.func5
  (witness_row_atRef (enc:=enc) (C:=Tryz.checked) false (wit os) #[.agg #[.string ⟨#[]⟩, .string ⟨#[]⟩, .slice none 0 0, .string ⟨#[]⟩, .slice none 0 0, .slice none 0 0, .bool false, .slice none 0 0, .int .i64 0, .bool false, .bool false, .slice none 0 0], .slice none 0 0, .slice none 0 0] rfl (by kernel_rfl) (by kernel_rfl) (by kernel_rfl)
   (OpenSpec.preRow_of_cond 8 hx (by kernel_rfl) (fun k hk=> by cases hk;kernel_rfl) (by kernel_rfl) (laidMet_of_run' 8 (by kernel_rfl) (by kernel_rfl)))) ?_
 intro W base args ds gs before hval hW _ hk _ hL hsh _
 exact contract H enc W base args ds gs before hval hW (hk _ rfl) (JOa (rest:=Rows.clientCutsDoNotMatterUptoRow.laid.drop 3) hsh (by kernel_rfl) hL (fun hm=> JPa hm.tail.tail.tail.tail))
theorem j0:jf0 Tryz.pinned.checked.prog 5 Tryz.f5 (Rows.OpenSpec.upto Rows.clientCutsDoNotMatterSpec).bare Rows.clientCutsDoNotMatterUptoRow=true:=by kernel_rfl
theorem j1:jf1 Tryz.pinned.checked.prog 5 Tryz.f5 (Rows.OpenSpec.upto Rows.clientCutsDoNotMatterSpec).bare Rows.clientCutsDoNotMatterUptoRow=true:=by kernel_rfl
theorem j2:jf2 Tryz.pinned.checked.prog 5 Tryz.f5 (Rows.OpenSpec.upto Rows.clientCutsDoNotMatterSpec).bare Rows.clientCutsDoNotMatterUptoRow=true:=by kernel_rfl
theorem j3:jf3 Tryz.pinned.checked.prog 5 Tryz.f5 (Rows.OpenSpec.upto Rows.clientCutsDoNotMatterSpec).bare Rows.clientCutsDoNotMatterUptoRow=true:=by kernel_rfl
theorem j4:jf4 Tryz.pinned.checked.prog 5 Tryz.f5 (Rows.OpenSpec.upto Rows.clientCutsDoNotMatterSpec).bare Rows.clientCutsDoNotMatterUptoRow=true:=by kernel_rfl
theorem j5:jf5 Tryz.pinned.checked.prog 5 Tryz.f5 (Rows.OpenSpec.upto Rows.clientCutsDoNotMatterSpec).bare Rows.clientCutsDoNotMatterUptoRow=true:=by kernel_rfl
theorem j6:jf6 Tryz.pinned.checked.prog 5 Tryz.f5 (Rows.OpenSpec.upto Rows.clientCutsDoNotMatterSpec).bare Rows.clientCutsDoNotMatterUptoRow=true:=by kernel_rfl
theorem j7:jf7 Tryz.pinned.checked.prog 5 Tryz.f5 (Rows.OpenSpec.upto Rows.clientCutsDoNotMatterSpec).bare Rows.clientCutsDoNotMatterUptoRow=true:=by kernel_rfl
theorem j8:jf8 Tryz.pinned.checked.prog 5 Tryz.f5 (Rows.OpenSpec.upto Rows.clientCutsDoNotMatterSpec).bare Rows.clientCutsDoNotMatterUptoRow=true:=by kernel_rfl
theorem j9:jf9 Tryz.pinned.checked.prog 5 Tryz.f5 (Rows.OpenSpec.upto Rows.clientCutsDoNotMatterSpec).bare Rows.clientCutsDoNotMatterUptoRow=true:=by kernel_rfl
theorem j10:jf10 Tryz.pinned.checked.prog 5 Tryz.f5 (Rows.OpenSpec.upto Rows.clientCutsDoNotMatterSpec).bare Rows.clientCutsDoNotMatterUptoRow=true:=by kernel_rfl
theorem j11:jf11 Tryz.pinned.checked.prog 5 Tryz.f5 (Rows.OpenSpec.upto Rows.clientCutsDoNotMatterSpec).bare Rows.clientCutsDoNotMatterUptoRow=true:=by kernel_rfl
theorem j12:jf12 Tryz.pinned.checked.prog 5 Tryz.f5 (Rows.OpenSpec.upto Rows.clientCutsDoNotMatterSpec).bare Rows.clientCutsDoNotMatterUptoRow=true:=by kernel_rfl
theorem j13:jf13 Tryz.pinned.checked.prog 5 Tryz.f5 (Rows.OpenSpec.upto Rows.clientCutsDoNotMatterSpec).bare Rows.clientCutsDoNotMatterUptoRow=true:=by kernel_rfl
theorem j14:jf14 Tryz.pinned.checked.prog 5 Tryz.f5 (Rows.OpenSpec.upto Rows.clientCutsDoNotMatterSpec).bare Rows.clientCutsDoNotMatterUptoRow=true:=by kernel_rfl
theorem j15:jf15 Tryz.pinned.checked.prog 5 Tryz.f5 (Rows.OpenSpec.upto Rows.clientCutsDoNotMatterSpec).bare Rows.clientCutsDoNotMatterUptoRow=true:=by kernel_rfl
theorem j16:jf16 Tryz.pinned.checked.prog 5 Tryz.f5 (Rows.OpenSpec.upto Rows.clientCutsDoNotMatterSpec).bare Rows.clientCutsDoNotMatterUptoRow=true:=by kernel_rfl
theorem j17:jf17 Tryz.pinned.checked.prog 5 Tryz.f5 (Rows.OpenSpec.upto Rows.clientCutsDoNotMatterSpec).bare Rows.clientCutsDoNotMatterUptoRow=true:=by kernel_rfl
theorem j18:jf18 Tryz.pinned.checked.prog 5 Tryz.f5 (Rows.OpenSpec.upto Rows.clientCutsDoNotMatterSpec).bare Rows.clientCutsDoNotMatterUptoRow=true:=by kernel_rfl
theorem j19:jf19 Tryz.pinned.checked.prog 5 Tryz.f5 (Rows.OpenSpec.upto Rows.clientCutsDoNotMatterSpec).bare Rows.clientCutsDoNotMatterUptoRow=true:=by kernel_rfl
theorem j20:jf20 Tryz.pinned.checked.prog 5 Tryz.f5 (Rows.OpenSpec.upto Rows.clientCutsDoNotMatterSpec).bare Rows.clientCutsDoNotMatterUptoRow=true:=by kernel_rfl
theorem j21:jf21 Tryz.pinned.checked.prog 5 Tryz.f5 (Rows.OpenSpec.upto Rows.clientCutsDoNotMatterSpec).bare Rows.clientCutsDoNotMatterUptoRow=true:=by kernel_rfl
theorem j22:jf22 Tryz.pinned.checked.prog 5 Tryz.f5 (Rows.OpenSpec.upto Rows.clientCutsDoNotMatterSpec).bare Rows.clientCutsDoNotMatterUptoRow=true:=by kernel_rfl
theorem j23:jf23 Tryz.pinned.checked.prog 5 Tryz.f5 (Rows.OpenSpec.upto Rows.clientCutsDoNotMatterSpec).bare Rows.clientCutsDoNotMatterUptoRow=true:=by kernel_rfl
theorem j24:jf24 Tryz.pinned.checked.prog 5 Tryz.f5 (Rows.OpenSpec.upto Rows.clientCutsDoNotMatterSpec).bare Rows.clientCutsDoNotMatterUptoRow=true:=by kernel_rfl
theorem j25:jf25 Tryz.pinned.checked.prog 5 Tryz.f5 (Rows.OpenSpec.upto Rows.clientCutsDoNotMatterSpec).bare Rows.clientCutsDoNotMatterUptoRow=true:=by kernel_rfl
theorem j26:jf26 Tryz.pinned.checked.prog 5 Tryz.f5 (Rows.OpenSpec.upto Rows.clientCutsDoNotMatterSpec).bare Rows.clientCutsDoNotMatterUptoRow=true:=by kernel_rfl
theorem j27:jf27 Tryz.pinned.checked.prog 5 Tryz.f5 (Rows.OpenSpec.upto Rows.clientCutsDoNotMatterSpec).bare Rows.clientCutsDoNotMatterUptoRow=true:=by kernel_rfl
theorem j28:jf28 Tryz.pinned.checked.prog 5 Tryz.f5 (Rows.OpenSpec.upto Rows.clientCutsDoNotMatterSpec).bare Rows.clientCutsDoNotMatterUptoRow=true:=by kernel_rfl
theorem j29:jf29 Tryz.pinned.checked.prog 5 Tryz.f5 (Rows.OpenSpec.upto Rows.clientCutsDoNotMatterSpec).bare Rows.clientCutsDoNotMatterUptoRow=true:=by kernel_rfl
theorem j30:jf30 Tryz.pinned.checked.prog 5 Tryz.f5 (Rows.OpenSpec.upto Rows.clientCutsDoNotMatterSpec).bare Rows.clientCutsDoNotMatterUptoRow=true:=by kernel_rfl
theorem j31:jf31 Tryz.pinned.checked.prog 5 Tryz.f5 (Rows.OpenSpec.upto Rows.clientCutsDoNotMatterSpec).bare Rows.clientCutsDoNotMatterUptoRow=true:=by kernel_rfl
theorem said:Rows.clientCutsDoNotMatterUptoRow.holds Tryz.pinned (Rows.OpenSpec.upto Rows.clientCutsDoNotMatterSpec):=
 OpenClaim.holds_of_cond 5 Tryz.f5 rfl rfl rfl rfl rfl rfl rfl ⟨rfl,rfl,rfl,rfl,rfl⟩ rfl rfl rfl rfl rfl (by kernel_rfl) Tryz.func5 (z5b j0 j1 j2 j3 j4 j5 j6 j7 j8 j9 j10 j11 j12 j13 j14 j15 j16 j17 j18 j19 j20 j21 j22 j23 j24 j25 j26 j27 j28 j29 j30 j31)
  (of_decide_eq_true (by kernel_rfl)) (by unfold Func.isWrapper;first | (rw [if_pos (by decide+kernel)];kernel_rfl) | (rw [if_neg (by decide+kernel)];exact ⟨rfl,rfl⟩))
  (fun os started H enc _ F=> by rw [OpenClaim.pre_eq_preRow];exact lifted os started H enc F)
theorem plain (f : FuncId) (fn : Func) (hf : Tryz.pinned.checked.prog.funcNamed "posthouse/posthouselaw4.ClientCutsDoNotMatter" = some f) (hfn : Tryz.pinned.checked.prog.funcs[f]? = some fn) :
  true=Tryz.pinned.checked.prog.looks []∧∀(j:Nat) t,fn.params[j]? =some t→Tryz.pinned.checked.prog.wantsStandIn t=false:=by
 obtain rfl : f = 5 := Option.some.inj ((show Tryz.prog.funcNamed "posthouse/posthouselaw4.ClientCutsDoNotMatter" = some 5 by kernel_rfl).symm.trans hf) |>.symm
 obtain rfl:fn=Tryz.f5:=(Option.some.inj (Tryz.func5.symm.trans hfn)).symm
 refine ⟨by kernel_rfl,fun j t ht=> ?_⟩
 rw [Tryz.params5] at ht
 have hm:=Array.mem_of_getElem? ht
 simp only [List.mem_toArray,List.mem_cons,List.not_mem_nil,or_false] at hm
 rcases hm with rfl | rfl | rfl
 ·exact (show Tryz.prog.wantsStandIn 33=false by kernel_rfl)
 ·exact (show Tryz.prog.wantsStandIn 26=false by kernel_rfl)
 ·exact (show Tryz.prog.wantsStandIn 26=false by kernel_rfl)
theorem proved:Rows.ClientCutsDoNotMatterUptoCardSaid:=
 Claim7.holds_tied_plain_at .later [] _ _ _ _ said (fun _ h=> by cases h) (by kernel_rfl) (fun _ h=> by cases h) clientCutsDoNotMatterUpto_row_tie rfl ⟨rfl,rfl⟩ (by kernel_rfl) rfl plain (by kernel_rfl)
#print axioms proved
end Go.Proofs.YtjnmamghadpedaaGreatDoor.clientCutsDoNotMatter
