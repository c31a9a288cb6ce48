/- The law ClientMatchesSpec holds for every input of bulk up to the given bound: it returns true and leaves its arguments as they were. Written by program. -/
import Derived.Test.YtjnmamghadpedaaGreatDoorKClientMatchesSpec5
set_option linter.unusedVariables false
set_option linter.unusedSimpArgs false
namespace Go.Proofs.YtjnmamghadpedaaGreatDoor
open Go.RowKit
set_option maxRecDepth 100000
set_option maxHeartbeats 40000000
theorem Jxa (a0:zea) (a1:Int) (r:zea) (hr:VXa a0 a1=some r):RunS Tryz.prog 94 [.agg [.s a0.C.Name, .s a0.C.Mail.Envelope.From, .l zca.pc a0.C.Mail.Envelope.To, .s a0.C.Mail.Envelope.Id, .l zga.pc a0.C.Mail.Message.Fields, .l cU a0.C.Mail.Message.Body, .bo a0.C.Pipelined, .l cU a0.C.Buffer, .i a0.C.Expected, .bo a0.C.Whole, .bo a0.C.Done, .l cI a0.C.Results, .hs 90001013 0], .i a1] [(90001013, .row 5 false 1 (List.map cU a0.Out))] (.agg [.s r.C.Name, .s r.C.Mail.Envelope.From, .l zca.pc r.C.Mail.Envelope.To, .s r.C.Mail.Envelope.Id, .l zga.pc r.C.Mail.Message.Fields, .l cU r.C.Mail.Message.Body, .bo r.C.Pipelined, .l cU r.C.Buffer, .i r.C.Expected, .bo r.C.Whole, .bo r.C.Done, .l cI r.C.Results, .hs 90001013 0]) [(90001013, .row 5 false 1 (List.map cU r.Out))] 90001000 [90001013]:=by
 unfold VXa at hr
 refine rfS (fn:=Tryz.f94) (H:=90001999) .any ⟨Tryz.func94,rfl,by kernel_rfl⟩ rfl (hasT rfl) (.inr ⟨rfl,rfl⟩) rfl rfl rfl rfl fun g0 hg S sg T=> ?_
 refine rn tk 4 rfl ?_
 refine zWa 1004 (o:=4) (j:=12) 5 1 rfl rfl rfl rfl (hO ?_)
 refine rn tk 18 rfl ?_
 obtain ⟨v1,h2,hr⟩:=zaa hr
 refine cl (q6a _ _ h2) rfl rfl ?_
 refine rn tk 10 rfl ?_
 refine ac 18 hr rfl (fun c3 hr=> ?_) (fun c3 hr=> ?_)
 ·
  refine rn tk 7 rfl ?_
  obtain ⟨v4,h5,hr⟩:=zaa hr
  refine wo (zya (k:=24) (wUa a0 ((zta.mk 1 a0.C.Name (([]:Str)) 0 0 false)) v4 h5) rfl rfl (zba rfl zha)) rfl ?_
  refine rn tk 5 rfl ?_
  cases hr
  exact krS tk (.inr rfl) rfl rfl (zba rfl (zba rfl zha))
 ·
  refine rn tk 9 rfl ?_
  refine ac 26 hr rfl (fun c6 hr=> ?_) (fun c6 hr=> ?_)
  ·
   refine rn tk 9 rfl ?_
   refine wn tk rfl rfl rfl ?_
   refine rn tk 1 rfl ?_
   obtain ⟨v7,h8,hr⟩:=zaa hr
   refine wo (zya (k:=36) (wUa a0 ((zta.mk 2 (([]:Str)) a0.C.Mail.Envelope.From ((v1.length:Int)) 0 false)) v7 h8) rfl rfl (zba rfl zha)) rfl ?_
   refine rn tk 5 rfl ?_
   cases hr
   exact krS tk (.inr rfl) rfl rfl (zba rfl (zba rfl zha))
  ·
   refine rn tk 7 rfl ?_
   refine wn tk rfl rfl rfl ?_
   refine rn tk 4 rfl ?_
   refine ac 41 hr rfl (fun c9 hr=> ?_) (fun c9 hr=> ?_)
   ·
    refine rn tk 1 rfl ?_
    obtain ⟨v10,h11,hr⟩:=zaa hr
    obtain ⟨v12,h13,hr⟩:=zaa hr
    refine dr 14 [(55, .agg [.i 3, .s (([]:Str)), .s v10.Address, .i 0, .i v12.Notify, .bo false]),(54, .i v12.Notify),(53, .ep [pI v12.Notify]),(52, .ep [pS v12.Address,pI v12.Notify]),(51, .i ((w64 (a1 - 3)))),(50, .i a1),(49, .l zca.pc a0.C.Mail.Envelope.To),(48, .s v10.Address),(47, .ep [pS v10.Address,pI v10.Notify]),(46, .ep [pS v10.Address,pI v10.Notify]),(45, .i ((w64 (a1 - 3)))),(44, .i a1),(43, .l zca.pc a0.C.Mail.Envelope.To),(42, .agg [.s a0.C.Name, .s a0.C.Mail.Envelope.From, .l zca.pc a0.C.Mail.Envelope.To, .s a0.C.Mail.Envelope.Id, .l zga.pc a0.C.Mail.Message.Fields, .l cU a0.C.Mail.Message.Body, .bo a0.C.Pipelined, .l cU a0.C.Buffer, .i a0.C.Expected, .bo a0.C.Whole, .bo a0.C.Done, .l cI a0.C.Results, .hs 90001013 0])] mixed (by kernel_rfl) rfl rfl (pq tk rfl (.plain rfl) (pq tk rfl (.plain rfl) (pq tk rfl (.plain rfl) (pq tk rfl (.plain rfl) (.run (.plain rfl) (qda (wca (f:=zca.pc) rfl rfl zLa zVa rfl h11)) (pq tk rfl (.plain rfl) (pq tk rfl (.plain rfl) (pq tk rfl (.plain rfl) (pq tk rfl (.plain rfl) (pq tk rfl (.plain rfl) (.run (.plain rfl) (qda (wca (f:=zca.pc) rfl rfl zLa zVa rfl h13)) (pq tk rfl (.plain rfl) (pq tk rfl (.plain rfl) (pq tk rfl (.plain rfl) .nil)))))))))))))) rfl ?_
    obtain ⟨v14,h15,hr⟩:=zaa hr
    refine wo (zya (k:=56) (wUa a0 ((zta.mk 3 (([]:Str)) v10.Address 0 v12.Notify false)) v14 h15) rfl rfl (zba rfl zha)) rfl ?_
    refine rn tk 5 rfl ?_
    cases hr
    exact krS tk (.inr rfl) rfl rfl (zba rfl (zba rfl zha))
   ·
    refine rn tk 9 rfl ?_
    obtain ⟨v16,h17,hr⟩:=zaa hr
    refine cl (VMa _ _ h17) rfl rfl ?_
    refine rn tk 3 rfl ?_
    refine ac 62 hr rfl (fun c18 hr=> ?_) (fun c18 hr=> ?_)
    ·
     refine rn tk 4 rfl ?_
     obtain ⟨v19,h20,hr⟩:=zaa hr
     refine wo (zya (k:=65) (wUa a0 ((zta.mk 4 (([]:Str)) (([]:Str)) 0 0 false)) v19 h20) rfl rfl (zba rfl zha)) rfl ?_
     refine rn tk 5 rfl ?_
     cases hr
     exact krS tk (.inr rfl) rfl rfl (zba rfl (zba rfl zha))
    ·
     refine rn tk 6 rfl ?_
     refine wn tk rfl rfl rfl ?_
     refine rn tk 1 rfl ?_
     obtain ⟨v21,h22,hr⟩:=zaa hr
     refine wo (zya (k:=70) (wUa a0 ((zta.mk 5 (([]:Str)) (([]:Str)) ((v1.length:Int)) 0 true)) v21 h22) rfl rfl (zba rfl zha)) rfl ?_
     refine rn tk 8 rfl ?_
     obtain ⟨v23,h24,hr⟩:=zaa hr
     refine wa tk h24 rfl rfl rfl rfl (fun _=> rfl) rfl rfl ?_
     refine rn tk 18 rfl ?_
     cases hr
     exact krS tk (.inr rfl) rfl rfl (zba rfl (zba rfl zha))
theorem YCa (a0:zea) (r:zea) (hr:Vza a0=some r):RunS Tryz.prog 66 [.agg [.s a0.C.Name, .s a0.C.Mail.Envelope.From, .l zca.pc a0.C.Mail.Envelope.To, .s a0.C.Mail.Envelope.Id, .l zga.pc a0.C.Mail.Message.Fields, .l cU a0.C.Mail.Message.Body, .bo a0.C.Pipelined, .l cU a0.C.Buffer, .i a0.C.Expected, .bo a0.C.Whole, .bo a0.C.Done, .l cI a0.C.Results, .hs 90001013 0]] [(90001013, .row 5 false 1 (List.map cU a0.Out))] (.agg [.s r.C.Name, .s r.C.Mail.Envelope.From, .l zca.pc r.C.Mail.Envelope.To, .s r.C.Mail.Envelope.Id, .l zga.pc r.C.Mail.Message.Fields, .l cU r.C.Mail.Message.Body, .bo r.C.Pipelined, .l cU r.C.Buffer, .i r.C.Expected, .bo r.C.Whole, .bo r.C.Done, .l cI r.C.Results, .hs 90001013 0]) [(90001013, .row 5 false 1 (List.map cU r.Out))] 90001000 [90001013]:=by
 unfold Vza at hr
 refine rfS (fn:=Tryz.f66) (H:=90001999) .any ⟨Tryz.func66,rfl,by kernel_rfl⟩ rfl (hasT rfl) (.inr ⟨rfl,rfl⟩) rfl rfl rfl rfl fun g0 hg S sg T=> ?_
 refine rn tk 4 rfl ?_
 refine zWa 1002 (o:=2) (j:=12) 5 1 rfl rfl rfl rfl (hO ?_)
 refine rn tk 7 rfl ?_
 refine wn tk rfl rfl rfl ?_
 refine rn tk 14 rfl ?_
 refine jb hr (fun j1=> [(1, .ptr 1 0),(2, .ptr 2 0),(3, .i ((a0.C.Results.length:Int)))]) (fun j1=> [(1, .cells [.s j1.C.Name, .s j1.C.Mail.Envelope.From, .l zca.pc j1.C.Mail.Envelope.To, .s j1.C.Mail.Envelope.Id, .l zga.pc j1.C.Mail.Message.Fields, .l cU j1.C.Mail.Message.Body, .bo j1.C.Pipelined, .l cU j1.C.Buffer, .i j1.C.Expected, .bo j1.C.Whole, .bo j1.C.Done, .l cI j1.C.Results, .hs 90001013 0]),(90001013, .row 5 false 1 (List.map cU j1.Out)),(1002, .row 5 false 1 (List.map cU (([]:List UInt8)))),(2, .cells [.s (([]:Str)), .s (([]:Str)), .l zca.pc ([]), .s (([]:Str)), .l zga.pc ([]), .l cU ([]), .bo false, .l cU ([]), .i 0, .bo false, .bo false, .l cI ([]), .hs 1002 0]),(90001999, .hold (.any) (T.getD 0 undef))]) (fun j1 hr=> ?_) (fun j1 hr=> ?_)
 ·
  refine jb hr (fun j2=> [(1, .ptr 1 0),(2, .ptr 2 0),(3, .i ((a0.C.Results.length:Int))),(24, .bo j2.1)]) (fun j2=> [(1, .cells [.s j2.2.C.Name, .s j2.2.C.Mail.Envelope.From, .l zca.pc j2.2.C.Mail.Envelope.To, .s j2.2.C.Mail.Envelope.Id, .l zga.pc j2.2.C.Mail.Message.Fields, .l cU j2.2.C.Mail.Message.Body, .bo j2.2.C.Pipelined, .l cU j2.2.C.Buffer, .i j2.2.C.Expected, .bo j2.2.C.Whole, .bo j2.2.C.Done, .l cI j2.2.C.Results, .hs 90001013 0]),(90001013, .row 5 false 1 (List.map cU j2.2.Out)),(1002, .row 5 false 1 (List.map cU (([]:List UInt8)))),(2, .cells [.s (([]:Str)), .s (([]:Str)), .l zca.pc ([]), .s (([]:Str)), .l zga.pc ([]), .l cU ([]), .bo false, .l cU ([]), .i 0, .bo false, .bo false, .l cI ([]), .hs 1002 0]),(90001999, .hold (.any) (T.getD 0 undef))]) (fun j2 hr=> ?_) (fun j2 hr=> ?_)
  ·
   refine rn tk 6 rfl ?_
   refine bs 19 hr rfl (fun c3 hr=> ?_) (fun c3 hr=> ?_)
   ·
    refine rn tk 6 rfl ?_
    cases hr
    exact jn _ rfl rfl rfl
   ·
    refine rn tk 6 rfl ?_
    cases hr
    exact jn _ rfl rfl rfl
  ·
   refine ac 24 hr rfl (fun c4 hr=> ?_) (fun c4 hr=> ?_)
   ·
    refine rn tk 5 rfl ?_
    obtain ⟨v5,h6,hr⟩:=zaa hr
    refine wo (zya (k:=29) (Jxa j2.2 j2.2.C.Expected v5 h6) rfl rfl (zba rfl zha)) rfl ?_
    refine rn tk 2 rfl ?_
    cases hr
    exact jn _ rfl rfl rfl
   ·
    refine rn tk 8 rfl ?_
    refine ac 33 hr rfl (fun c7 hr=> ?_) (fun c7 hr=> ?_)
    ·
     refine rn tk 6 rfl ?_
     refine al1 hr (fun s8=> [(1, .ptr 1 0),(2, .ptr 2 0),(3, .i ((a0.C.Results.length:Int))),(4, .i s8.1)]) (fun s8=> [(1, .cells [.s s8.2.C.Name, .s s8.2.C.Mail.Envelope.From, .l zca.pc s8.2.C.Mail.Envelope.To, .s s8.2.C.Mail.Envelope.Id, .l zga.pc s8.2.C.Mail.Message.Fields, .l cU s8.2.C.Mail.Message.Body, .bo s8.2.C.Pipelined, .l cU s8.2.C.Buffer, .i s8.2.C.Expected, .bo s8.2.C.Whole, .bo s8.2.C.Done, .l cI s8.2.C.Results, .hs 90001013 0]),(90001013, .row 5 false 1 (List.map cU s8.2.Out)),(1002, .row 5 false 1 (List.map cU (([]:List UInt8)))),(2, .cells [.s (([]:Str)), .s (([]:Str)), .l zca.pc ([]), .s (([]:Str)), .l zga.pc ([]), .l cU ([]), .bo false, .l cU ([]), .i 0, .bo false, .bo false, .l cI ([]), .hs 1002 0]),(90001999, .hold (.any) (T.getD 0 undef))]) (.exit 0) (fun b9=> [(1, .ptr 1 0),(2, .ptr 2 0),(3, .i ((a0.C.Results.length:Int)))]) (fun b9=> [(1, .cells [.s b9.C.Name, .s b9.C.Mail.Envelope.From, .l zca.pc b9.C.Mail.Envelope.To, .s b9.C.Mail.Envelope.Id, .l zga.pc b9.C.Mail.Message.Fields, .l cU b9.C.Mail.Message.Body, .bo b9.C.Pipelined, .l cU b9.C.Buffer, .i b9.C.Expected, .bo b9.C.Whole, .bo b9.C.Done, .l cI b9.C.Results, .hs 90001013 0]),(90001013, .row 5 false 1 (List.map cU b9.Out)),(1002, .row 5 false 1 (List.map cU (([]:List UInt8)))),(2, .cells [.s (([]:Str)), .s (([]:Str)), .l zca.pc ([]), .s (([]:Str)), .l zga.pc ([]), .l cU ([]), .bo false, .l cU ([]), .i 0, .bo false, .bo false, .l cI ([]), .hs 1002 0]),(90001999, .hold (.any) (T.getD 0 undef))]) rfl rfl (fun s8 x10 hr=> ?_) (fun b9 hr=> ?_)
     ·
      unfold wPa at hr
      refine rn tk 9 rfl ?_
      refine ac 37 hr rfl (fun c11 hr=> ?_) (fun c11 hr=> ?_)
      ·
       refine rn tk 7 rfl ?_
       obtain ⟨v12,h13,hr⟩:=zaa hr
       refine wo (zya (k:=42) (Jxa s8.2 s8.1 v12 h13) rfl rfl (zba rfl zha)) rfl ?_
       refine rn tk 9 rfl ?_
       cases hr
       exact atc rfl rfl
      ·
       refine rn tk 2 rfl ?_
       cases hr
       exact ato rfl rfl rfl rfl
     ·
      refine rn tk 1 rfl ?_
      cases hr
      exact jn _ rfl rfl rfl
    ·
     refine rn tk 1 rfl ?_
     cases hr
     exact jn _ rfl rfl rfl
 ·
  refine jb hr (fun j14=> [(1, .ptr 1 0),(2, .ptr 2 0)]) (fun j14=> [(1, .cells [.s j14.C.Name, .s j14.C.Mail.Envelope.From, .l zca.pc j14.C.Mail.Envelope.To, .s j14.C.Mail.Envelope.Id, .l zga.pc j14.C.Mail.Message.Fields, .l cU j14.C.Mail.Message.Body, .bo j14.C.Pipelined, .l cU j14.C.Buffer, .i j14.C.Expected, .bo j14.C.Whole, .bo j14.C.Done, .l cI j14.C.Results, .hs 90001013 0]),(90001013, .row 5 false 1 (List.map cU j14.Out)),(1002, .row 5 false 1 (List.map cU (([]:List UInt8)))),(2, .cells [.s (([]:Str)), .s (([]:Str)), .l zca.pc ([]), .s (([]:Str)), .l zga.pc ([]), .l cU ([]), .bo false, .l cU ([]), .i 0, .bo false, .bo false, .l cI ([]), .hs 1002 0]),(90001999, .hold (.any) (T.getD 0 undef))]) (fun j14 hr=> ?_) (fun j14 hr=> ?_)
  ·
   refine jb hr (fun j15=> [(1, .ptr 1 0),(2, .ptr 2 0),(3, .i ((a0.C.Results.length:Int))),(55, .bo j15)]) (fun j15=> [(1, .cells [.s j1.C.Name, .s j1.C.Mail.Envelope.From, .l zca.pc j1.C.Mail.Envelope.To, .s j1.C.Mail.Envelope.Id, .l zga.pc j1.C.Mail.Message.Fields, .l cU j1.C.Mail.Message.Body, .bo j1.C.Pipelined, .l cU j1.C.Buffer, .i j1.C.Expected, .bo j1.C.Whole, .bo j1.C.Done, .l cI j1.C.Results, .hs 90001013 0]),(90001013, .row 5 false 1 (List.map cU j1.Out)),(1002, .row 5 false 1 (List.map cU (([]:List UInt8)))),(2, .cells [.s (([]:Str)), .s (([]:Str)), .l zca.pc ([]), .s (([]:Str)), .l zga.pc ([]), .l cU ([]), .bo false, .l cU ([]), .i 0, .bo false, .bo false, .l cI ([]), .hs 1002 0]),(90001999, .hold (.any) (T.getD 0 undef))]) (fun j15 hr=> ?_) (fun j15 hr=> ?_)
   ·
    refine rn tk 8 rfl ?_
    refine bs 49 hr rfl (fun c16 hr=> ?_) (fun c16 hr=> ?_)
    ·
     refine rn tk 4 rfl ?_
     obtain ⟨v17,h18,hr⟩:=zaa hr
     refine ug rfl rfl rfl ?_
     refine cl (VMa _ _ h18) rfl rfl ?_
     refine rn tk 2 rfl ?_
     cases hr
     exact jn _ rfl rfl rfl
    ·
     refine rn tk 7 rfl ?_
     cases hr
     exact jn _ rfl rfl rfl
   ·
    refine ac 55 hr rfl (fun c19 hr=> ?_) (fun c19 hr=> ?_)
    ·
     refine rn tk 7 rfl ?_
     cases hr
     exact jn _ rfl rfl rfl
    ·
     refine rn tk 1 rfl ?_
     cases hr
     exact jn _ rfl rfl rfl
  ·
   refine rn tk 7 rfl ?_
   cases hr
   exact krS tk (.inr rfl) rfl rfl (zba rfl (zba rfl zha))
theorem Qwa (a0:zea) (a1:Int) (r:zea) (hr:Qla a0 a1=some r):RunS Tryz.prog 38 [.agg [.s a0.C.Name, .s a0.C.Mail.Envelope.From, .l zca.pc a0.C.Mail.Envelope.To, .s a0.C.Mail.Envelope.Id, .l zga.pc a0.C.Mail.Message.Fields, .l cU a0.C.Mail.Message.Body, .bo a0.C.Pipelined, .l cU a0.C.Buffer, .i a0.C.Expected, .bo a0.C.Whole, .bo a0.C.Done, .l cI a0.C.Results, .hs 90001013 0], .i a1] [(90001013, .row 5 false 1 (List.map cU a0.Out))] (.agg [.s r.C.Name, .s r.C.Mail.Envelope.From, .l zca.pc r.C.Mail.Envelope.To, .s r.C.Mail.Envelope.Id, .l zga.pc r.C.Mail.Message.Fields, .l cU r.C.Mail.Message.Body, .bo r.C.Pipelined, .l cU r.C.Buffer, .i r.C.Expected, .bo r.C.Whole, .bo r.C.Done, .l cI r.C.Results, .hs 90001013 0]) [(90001013, .row 5 false 1 (List.map cU r.Out))] 90001000 [90001013]:=by
 unfold Qla at hr
 refine rfS (fn:=Tryz.f38) (H:=90001999) .any ⟨Tryz.func38,rfl,by kernel_rfl⟩ rfl (hasT rfl) (.inr ⟨rfl,rfl⟩) rfl rfl rfl rfl fun g0 hg S sg T=> ?_
 refine rn tk 4 rfl ?_
 refine zWa 1004 (o:=4) (j:=12) 5 1 rfl rfl rfl rfl (hO ?_)
 refine rn tk 5 rfl ?_
 refine ksa 1005 (d:=5) 3 1 rfl rfl rfl (hO ?_)
 refine rn tk 9 rfl ?_
 refine al1 hr (fun s1=> [(1, .i a1),(2, .ptr 2 0),(4, .ptr 4 0),(5, .hs 1005 0),(6, .i s1.1)]) (fun s1=> [(1005, .row 3 false 1 (List.map cI s1.2)),(1004, .row 5 false 1 (List.map cU (([]:List UInt8)))),(4, .cells [.s (([]:Str)), .s (([]:Str)), .l zca.pc ([]), .s (([]:Str)), .l zga.pc ([]), .l cU ([]), .bo false, .l cU ([]), .i 0, .bo false, .bo false, .l cI ([]), .hs 1004 0]),(2, .cells [.s a0.C.Name, .s a0.C.Mail.Envelope.From, .l zca.pc a0.C.Mail.Envelope.To, .s a0.C.Mail.Envelope.Id, .l zga.pc a0.C.Mail.Message.Fields, .l cU a0.C.Mail.Message.Body, .bo a0.C.Pipelined, .l cU a0.C.Buffer, .i a0.C.Expected, .bo a0.C.Whole, .bo a0.C.Done, .l cI a0.C.Results, .hs 90001013 0]),(90001999, .hold (.any) (T.getD 0 undef)),(90001013, .row 5 false 1 (List.map cU a0.Out))]) (.exit 0) (fun b2=> [(2, .ptr 2 0),(4, .ptr 4 0),(5, .hs 1005 0)]) (fun b2=> [(1005, .row 3 false 1 (List.map cI b2)),(1004, .row 5 false 1 (List.map cU (([]:List UInt8)))),(4, .cells [.s (([]:Str)), .s (([]:Str)), .l zca.pc ([]), .s (([]:Str)), .l zga.pc ([]), .l cU ([]), .bo false, .l cU ([]), .i 0, .bo false, .bo false, .l cI ([]), .hs 1004 0]),(2, .cells [.s a0.C.Name, .s a0.C.Mail.Envelope.From, .l zca.pc a0.C.Mail.Envelope.To, .s a0.C.Mail.Envelope.Id, .l zga.pc a0.C.Mail.Message.Fields, .l cU a0.C.Mail.Message.Body, .bo a0.C.Pipelined, .l cU a0.C.Buffer, .i a0.C.Expected, .bo a0.C.Whole, .bo a0.C.Done, .l cI a0.C.Results, .hs 90001013 0]),(90001999, .hold (.any) (T.getD 0 undef)),(90001013, .row 5 false 1 (List.map cU a0.Out))]) rfl rfl (fun s1 x3 hr=> ?_) (fun b2 hr=> ?_)
 ·
  unfold jXa at hr
  refine rn tk 7 rfl ?_
  refine wn tk rfl rfl rfl ?_
  refine rn tk 3 rfl ?_
  refine ac 13 hr rfl (fun c4 hr=> ?_) (fun c4 hr=> ?_)
  ·
   refine rn tk 10 rfl ?_
   obtain ⟨v5,h6,hr⟩:=zaa hr
   refine wi tk h6 rfl rfl rfl rfl rfl ?_
   refine rn tk 4 rfl ?_
   refine jb hr (fun j7=> [(1, .i a1),(2, .ptr 2 0),(4, .ptr 4 0),(5, .hs 1005 0),(6, .i s1.1),(7, .i j7)]) (fun j7=> [(1005, .row 3 false 1 (List.map cI s1.2)),(1004, .row 5 false 1 (List.map cU (([]:List UInt8)))),(4, .cells [.s (([]:Str)), .s (([]:Str)), .l zca.pc ([]), .s (([]:Str)), .l zga.pc ([]), .l cU ([]), .bo false, .l cU ([]), .i 0, .bo false, .bo false, .l cI ([]), .hs 1004 0]),(2, .cells [.s a0.C.Name, .s a0.C.Mail.Envelope.From, .l zca.pc a0.C.Mail.Envelope.To, .s a0.C.Mail.Envelope.Id, .l zga.pc a0.C.Mail.Message.Fields, .l cU a0.C.Mail.Message.Body, .bo a0.C.Pipelined, .l cU a0.C.Buffer, .i a0.C.Expected, .bo a0.C.Whole, .bo a0.C.Done, .l cI a0.C.Results, .hs 90001013 0]),(90001999, .hold (.any) (T.getD 0 undef)),(90001013, .row 5 false 1 (List.map cU a0.Out))]) (fun j7 hr=> ?_) (fun j7 hr=> ?_)
   ·
    refine rn tk 6 rfl ?_
    refine ac 23 hr rfl (fun c8 hr=> ?_) (fun c8 hr=> ?_)
    ·
     refine rn tk 4 rfl ?_
     cases hr
     exact jn _ rfl rfl rfl
    ·
     refine rn tk 1 rfl ?_
     cases hr
     exact jn _ rfl rfl rfl
   ·
    refine rn tk 3 rfl ?_
    refine wz cI ([j7]:List Int) tk rfl rfl (fun _=> rfl) rfl rfl rfl ?_
    obtain ⟨v9,h10,hr⟩:=zaa hr
    refine wa tk h10 rfl rfl rfl rfl (fun _=> rfl) rfl rfl ?_
    refine rn tk 9 rfl ?_
    cases hr
    exact atc rfl rfl
  ·
   refine rn tk 2 rfl ?_
   cases hr
   exact ato rfl rfl rfl rfl
 ·
  refine rn tk 8 rfl ?_
  refine WOa (o:=2) (j:=11) (F:=cI) (l:=b2) rfl rfl rfl (hO ?_)
  refine rn tk 23 rfl ?_
  cases hr
  exact krS tk (.inr rfl) rfl rfl (zba rfl (zba rfl zha))
theorem yca (a0:zea) (a1:Int) (r:zea) (hr:ysa a0 a1=some r):RunS Tryz.prog 64 [.agg [.s a0.C.Name, .s a0.C.Mail.Envelope.From, .l zca.pc a0.C.Mail.Envelope.To, .s a0.C.Mail.Envelope.Id, .l zga.pc a0.C.Mail.Message.Fields, .l cU a0.C.Mail.Message.Body, .bo a0.C.Pipelined, .l cU a0.C.Buffer, .i a0.C.Expected, .bo a0.C.Whole, .bo a0.C.Done, .l cI a0.C.Results, .hs 90001013 0], .i a1] [(90001013, .row 5 false 1 (List.map cU a0.Out))] (.agg [.s r.C.Name, .s r.C.Mail.Envelope.From, .l zca.pc r.C.Mail.Envelope.To, .s r.C.Mail.Envelope.Id, .l zga.pc r.C.Mail.Message.Fields, .l cU r.C.Mail.Message.Body, .bo r.C.Pipelined, .l cU r.C.Buffer, .i r.C.Expected, .bo r.C.Whole, .bo r.C.Done, .l cI r.C.Results, .hs 90001013 0]) [(90001013, .row 5 false 1 (List.map cU r.Out))] 90001000 [90001013]:=by
 unfold ysa at hr
 refine rfS (fn:=Tryz.f64) (H:=90001999) .any ⟨Tryz.func64,rfl,by kernel_rfl⟩ rfl (hasT rfl) (.inr ⟨rfl,rfl⟩) rfl rfl rfl rfl fun g0 hg S sg T=> ?_
 refine rn tk 4 rfl ?_
 refine zWa 1004 (o:=4) (j:=12) 5 1 rfl rfl rfl rfl (hO ?_)
 refine rn tk 6 rfl ?_
 obtain ⟨v1,h2,hr⟩:=zaa hr
 refine wo (zya (k:=7) (Qwa a0 a1 v1 h2) rfl rfl (zba rfl zha)) rfl ?_
 refine rn tk 1 rfl ?_
 obtain ⟨v3,h4,hr⟩:=zaa hr
 refine wo (zya (k:=9) (wUa v1 ((zta.mk 8 (([]:Str)) (([]:Str)) 0 0 false)) v3 h4) rfl rfl (zba rfl zha)) rfl ?_
 refine rn tk 4 rfl ?_
 cases hr
 exact krS tk (.inr rfl) rfl rfl (zba rfl (zba rfl zha))
theorem vqa (a0:Int) (r:Int) (hr:jta a0=some r):Run Tryz.prog 65 [.i a0] (.i r):=by
 unfold jta at hr
 refine rf (fn:=Tryz.f65) ⟨Tryz.func65,rfl,by kernel_rfl⟩ rfl (fun _=> rfl) fun g0 hg=> ?_
 refine rn tk 12 rfl ?_
 refine ac 4 hr rfl (fun c1 hr=> ?_) (fun c1 hr=> ?_)
 ·
  refine rn tk 7 rfl ?_
  cases hr
  exact kr tk (.inr rfl) rfl rfl
 ·
  refine rn tk 8 rfl ?_
  cases hr
  exact kr tk (.inr rfl) rfl rfl
theorem vRb (a0:List UInt8) (r:List UInt8) (hr:Jba a0=some r):Run Tryz.prog 68 [.l cU a0] (.l cU r):=by
 unfold Jba at hr
 refine wKa (fn:=Tryz.f68) ⟨Tryz.func68,rfl,by kernel_rfl⟩ rfl (fun _=> rfl) fun g0 hg=> ?_
 refine zNa ?_
 refine zpa ?_
 refine zia rfl (zja (d:=2) rfl rfl zBa) ?_
 refine ksa 1002 (d:=2) 5 1 rfl rfl rfl ?_
 refine zwa ?_
 refine zma ?_
 refine zNa ?_
 refine zpa ?_
 refine zia rfl (zja (d:=8) rfl rfl zqa) ?_
 refine JGa (fn:=Tryz.f40) (args:= [.l cU a0]) 100000 199999 [] (zra rfl) rfl ⟨Tryz.func40,rfl,by kernel_rfl⟩ rfl rfl .nil fun T1 ds1 hT1=> ?_
 refine zNa ?_
 refine zpa ?_
 refine zia rfl (zja (d:=2) rfl rfl zBa) ?_
 refine zia rfl (zja (d:=3) rfl rfl zBa) ?_
 refine zwa ?_
 refine zma ?_
 refine zNa ?_
 refine zpa ?_
 refine zia rfl (zja (d:=4) rfl rfl zBa) ?_
 refine ksa 1004 (d:=4) 9 1 rfl rfl rfl ?_
 refine zwa ?_
 refine zma ?_
 refine zNa ?_
 refine zpa ?_
 refine zia rfl (zja (d:=5) rfl rfl zBa) ?_
 refine zwa ?_
 refine zma ?_
 refine zNa ?_
 refine zNa ?_
 refine zpa ?_
 refine zia rfl (zja (d:=6) rfl rfl zBa) ?_
 refine zwa ?_
 refine zma ?_
 refine q8a ?_
 obtain ⟨b2,hl,hr⟩:=zaa hr
 refine Qza (QPa a0) (fun s1=> [(0, .l cU a0),(4, .hs 1004 0),(5, .i s1.1),(6, .i s1.2.1)]) (fun s1=> [(1004, .row 9 false 1 (List.map cS s1.2.2)),(199999, .sus g0.w.heap.size ds1)]) (fun b2=> At (.exit 0) [(0, .l cU a0),(4, .hs 1004 0),(5, .i b2.1)] [(1004, .row 9 false 1 (List.map cS b2.2)),(199999, .sus g0.w.heap.size ds1)]) ?_ ((0,1,([]:List Str))) hl (zda rfl (zda rfl (zda rfl (zda rfl zva)))) (zba rfl (zba rfl zha)) ?_
 ·intro s1 x3 hr
  unfold QPa at hr
  refine zNa ?_
  refine zNa ?_
  refine zpa ?_
  refine zia rfl (zja (d:=7) rfl rfl zqa) ?_
  refine zia rfl (zja (d:=8) rfl rfl zqa) ?_
  refine zia rfl (zja (d:=9) rfl rfl (vDa (f:=cU) rfl zka.u)) ?_
  refine zia rfl (zja (d:=10) rfl rfl (Y0a rfl rfl)) ?_
  refine zwa ?_
  refine zma ?_
  refine qZa rfl (fun c4=> ?_) (fun c4=> ?_)
  ·replace hr:=vAa c4 hr
   refine vWa ?_
   refine zma ?_
   obtain ⟨j5,hx,hy⟩:=zaa hr
   refine q0a (fun j5=> [(0, .l cU a0),(4, .hs 1004 0),(5, .i j5.1),(6, .i s1.2.1)]) (fun j5=> [(1004, .row 9 false 1 (List.map cS j5.2)),(199999, .sus g0.w.heap.size ds1)]) (fun z=> j5=z) ?_ ?_
   ·have hr:=hx
    clear hx hy
    refine q8a ?_
    obtain ⟨j6,hx,hy⟩:=zaa hr
    refine q0a (fun j6=> [(0, .l cU a0),(4, .hs 1004 0),(5, .i s1.1),(6, .i s1.2.1),(30, .bo j6)]) (fun j6=> [(1004, .row 9 false 1 (List.map cS s1.2.2)),(199999, .sus g0.w.heap.size ds1)]) (fun z=> j6=z) ?_ ?_
    ·have hr:=hx
     clear hx hy
     refine zpa ?_
     refine zia rfl (zja (d:=13) rfl rfl zqa) ?_
     refine zia rfl (zja (d:=14) rfl rfl zqa) ?_
     obtain ⟨v7,h8,hr⟩:=zaa hr
     refine zia rfl (zja (d:=15) rfl rfl (wca (f:=cU) rfl rfl zka zua rfl h8)) ?_
     refine zia rfl (zja (d:=16) rfl rfl (waa rfl zua rfl rfl)) ?_
     refine zia rfl (zja (d:=17) rfl rfl (YZa rfl rfl)) ?_
     refine zia rfl (zja (d:=18) rfl rfl zqa) ?_
     refine qya (((v7.toNat:Int)==10)) (fun c9=> ?_) (fun c9=> ?_)
     ·replace hr:=vAa c9 hr
      refine zEa (d:=18) rfl rfl rfl c9 (zja (d:=19) rfl rfl zqa) ?_
      refine zEa (d:=18) rfl rfl rfl c9 (zja (d:=20) rfl rfl zqa) ?_
      refine zEa (d:=18) rfl rfl rfl c9 (zja (d:=21) rfl rfl (WDa rfl rfl)) ?_
      obtain ⟨v10,h11,hr⟩:=zaa hr
      refine zEa (d:=18) rfl rfl rfl c9 (zja (d:=22) rfl rfl (wca (f:=cU) rfl rfl zka zua rfl h11)) ?_
      refine zEa (d:=18) rfl rfl rfl c9 (zja (d:=23) rfl rfl (waa rfl zua rfl rfl)) ?_
      refine zEa (d:=18) rfl rfl rfl c9 (zja (d:=24) rfl rfl (YZa rfl rfl)) ?_
      refine zia rfl (zja (d:=25) rfl rfl (qPa rfl c9)) ?_
      refine zia rfl (zja (d:=26) rfl rfl zqa) ?_
      refine qya (((v10.toNat:Int)==13)) (fun c12=> ?_) (fun c12=> ?_)
      ·replace hr:=vAa c12 hr
       refine zEa (d:=26) rfl rfl rfl c12 (zja (d:=27) rfl rfl zqa) ?_
       refine zEa (d:=26) rfl rfl rfl c12 (zja (d:=28) rfl rfl zqa) ?_
       refine zEa (d:=26) rfl rfl rfl c12 (zja (d:=29) rfl rfl (Y1a rfl rfl)) ?_
       refine zia rfl (zja (d:=30) rfl rfl (qPa rfl c12)) ?_
       refine zwa ?_
       cases hr
       exact zIa _ rfl (zda rfl (zda rfl (zda rfl (zda rfl (zda rfl zva))))) (zba rfl (zba rfl zha))
      ·replace hr:=vBa c12 hr
       refine zGa (d:=26) rfl rfl rfl c12 ?_
       refine zGa (d:=26) rfl rfl rfl c12 ?_
       refine zGa (d:=26) rfl rfl rfl c12 ?_
       refine zia rfl (zja (d:=30) rfl rfl (qxa rfl c12)) ?_
       refine zwa ?_
       cases hr
       exact zIa _ rfl (zda rfl (zda rfl (zda rfl (zda rfl (zda rfl zva))))) (zba rfl (zba rfl zha))
     ·replace hr:=vBa c9 hr
      refine zGa (d:=18) rfl rfl rfl c9 ?_
      refine zGa (d:=18) rfl rfl rfl c9 ?_
      refine zGa (d:=18) rfl rfl rfl c9 ?_
      refine zGa (d:=18) rfl rfl rfl c9 ?_
      refine zGa (d:=18) rfl rfl rfl c9 ?_
      refine zGa (d:=18) rfl rfl rfl c9 ?_
      refine zia rfl (zja (d:=25) rfl rfl (qxa rfl c9)) ?_
      refine zia rfl (zja (d:=26) rfl rfl zqa) ?_
      refine zGa (d:=26) rfl rfl rfl rfl ?_
      refine zGa (d:=26) rfl rfl rfl rfl ?_
      refine zGa (d:=26) rfl rfl rfl rfl ?_
      refine zia rfl (zja (d:=30) rfl rfl (qxa rfl rfl)) ?_
      refine zwa ?_
      cases hr
      exact zIa _ rfl (zda rfl (zda rfl (zda rfl (zda rfl (zda rfl zva))))) (zba rfl (zba rfl zha))
    ·rintro _ rfl
     have hr:=hy
     clear hx hy
     refine qZa rfl (fun c13=> ?_) (fun c13=> ?_)
     ·replace hr:=vAa c13 hr
      refine zNa ?_
      refine zpa ?_
      refine zia rfl (zja (d:=31) rfl rfl zqa) ?_
      refine zia rfl (zja (d:=32) rfl rfl zqa) ?_
      refine zia rfl (zja (d:=33) rfl rfl zqa) ?_
      refine zia rfl (zja (d:=34) rfl rfl zqa) ?_
      refine zia rfl (zja (d:=35) rfl rfl (WDa rfl rfl)) ?_
      obtain ⟨v14,h15,hr⟩:=zaa hr
      refine zia rfl (zja (d:=36) rfl rfl (Wsa (F:=cU) rfl rfl rfl zka zua (fun _=> rfl) h15)) ?_
      refine zia rfl (zja (d:=37) rfl rfl (ywa rfl zka zua zDa)) ?_
      refine zia rfl (jma (d:=38) rfl rfl (vEa (F:=cS) (l:=([v14]:List Str)) kva zDa rfl (fun _=> rfl) rfl rfl)) ?_
      obtain ⟨v16,h17,hr⟩:=zaa hr
      refine zia rfl (kHa (k:=39) (F:=cS) (l:=s1.2.2) (xs:=(([v14]:List Str))) (lim:=8796093022208) rfl rfl rfl rfl kva zDa rfl rfl (fun _=> rfl) rfl h17) ?_
      refine zia rfl (zja (d:=4) rfl rfl zBa) ?_
      refine zwa ?_
      refine zma ?_
      refine zpa ?_
      refine zia rfl (zja (d:=40) rfl rfl zqa) ?_
      refine zia rfl (zja (d:=41) rfl rfl (jIa rfl rfl)) ?_
      refine zia rfl (zja (d:=5) rfl rfl zBa) ?_
      refine zwa ?_
      refine k0a ?_
      cases hr
      exact zIa _ rfl (zda rfl (zda rfl (zda rfl (zda rfl zva)))) (zba rfl (zba rfl zha))
     ·replace hr:=vBa c13 hr
      refine vWa ?_
      refine k0a ?_
      cases hr
      exact zIa _ rfl (zda rfl (zda rfl (zda rfl (zda rfl zva)))) (zba rfl (zba rfl zha))
   ·rintro _ rfl
    have hr:=hy
    clear hx hy
    refine zpa ?_
    refine zia rfl (zja (d:=11) rfl rfl zqa) ?_
    refine zia rfl (zja (d:=12) rfl rfl (jIa rfl rfl)) ?_
    refine zia rfl (zja (d:=6) rfl rfl zBa) ?_
    refine zwa ?_
    cases hr
    exact ⟨rfl,(zda rfl (zda rfl (zda rfl (zda rfl zva)))),(zba rfl (zba rfl zha))⟩
  ·replace hr:=vBa c4 hr
   refine Wqa ?_
   refine Vha ?_
   cases hr
   exact ⟨by simp,rfl,(zda rfl (zda rfl (zda rfl zva))),(zba rfl (zba rfl zha))⟩
 ·intro e fr2 st2 hq
  obtain ⟨rfl,hf,hs⟩:=hq
  refine j6a ?_
  refine zma ?_
  refine WCa hf hs ?_
  refine zNa ?_
  obtain ⟨v18,h19,hr⟩:=zaa hr
  refine WHa 5 [(2, .hs 1004 0),(45, .l cU v18),(44, .i b2.1),(43, .l cU a0),(42, .hs 1004 0)] mixed (by kernel_rfl) rfl rfl (.run (.plain rfl) (qda zqa) (.run (.plain rfl) (qda zqa) (.run (.plain rfl) (qda zqa) (.run (.plain rfl) (qda (WFa (F:=cU) rfl rfl zka zua (fun _=> rfl) h19)) (.run (.plain rfl) (qda zBa) .nil))))) rfl ?_
  refine zia rfl (zja (d:=3) rfl rfl zBa) ?_
  refine zwa ?_
  refine zma ?_
  refine yda ?_
  refine inlK (cs:= [.hs 1004 0, .l cU v18]) (fr'' := []) (σ'' := [(1004, .row 9 false 1 (List.map cS b2.2))]) (.inl rfl) wWa jGa (.cons (wJa rfl) (.cons (wJa rfl) .nil)) .nil rfl (zba rfl zha) ?_
  refine zia rfl (zja (d:=7) rfl rfl zqa) ?_
  refine zia rfl (zja (d:=10) rfl rfl (Vka rfl rfl)) ?_
  refine zia rfl (zja (d:=11) rfl rfl (Vka rfl rfl)) ?_
  refine zia rfl (zja (d:=3) rfl rfl zBa) ?_
  refine zia rfl (zja (d:=4) rfl rfl zBa) ?_
  refine zwa ?_
  refine zma ?_
  refine zNa ?_
  refine zpa ?_
  refine zia rfl (zja (d:=12) rfl rfl zqa) ?_
  refine zia rfl (zja (d:=13) rfl rfl zqa) ?_
  refine zia rfl (zja (d:=14) rfl rfl (ywa rfl zka zua zDa)) ?_
  refine zia rfl (jma (d:=15) rfl rfl (vEa (F:=cS) (l:=([v18]:List Str)) kva zDa rfl (fun _=> rfl) rfl rfl)) ?_
  obtain ⟨v20,h21,hr⟩:=zaa hr
  refine zia rfl (kHa (k:=16) (F:=cS) (l:=b2.2) (xs:=(([v18]:List Str))) (lim:=8796093022208) rfl rfl rfl rfl kva zDa rfl rfl (fun _=> rfl) rfl h21) ?_
  refine zia rfl (zja (d:=3) rfl rfl zBa) ?_
  refine zwa ?_
  refine zma ?_
  refine zNa ?_
  refine zpa ?_
  refine zia rfl (zja (d:=5) rfl rfl zBa) ?_
  refine ksa 1005 (d:=5) 5 1 rfl rfl rfl ?_
  refine zwa ?_
  refine zma ?_
  refine zNa ?_
  refine zNa ?_
  refine zpa ?_
  refine zia rfl (zja (d:=6) rfl rfl zBa) ?_
  refine zwa ?_
  refine zma ?_
  refine q8a ?_
  obtain ⟨b23,hl,hr⟩:=zaa hr
  refine Qza (Z0a v20) (fun s22=> [(3, .hs 1004 0),(5, .hs 1005 0),(6, .i s22.1)]) (fun s22=> [(1005, .row 5 false 1 (List.map cU s22.2)),(1004, .row 9 false 1 (List.map cS v20))]) (fun b23=> At (.exit 0) [(5, .hs 1005 0)] [(1005, .row 5 false 1 (List.map cU b23))]) ?_ ((0,([]:List UInt8))) hl (zda rfl (zda rfl (zda rfl zva))) (zba rfl (zba rfl zha)) ?_
  ·intro s22 x24 hr
   unfold Z0a at hr
   refine zNa ?_
   refine zNa ?_
   refine zpa ?_
   refine zia rfl (zja (d:=17) rfl rfl zqa) ?_
   refine zia rfl (zja (d:=18) rfl rfl zqa) ?_
   refine zia rfl (zja (d:=19) rfl rfl (kxb (F:=cS) rfl rfl kva.u)) ?_
   refine zia rfl (zja (d:=20) rfl rfl (Y0a rfl rfl)) ?_
   refine zwa ?_
   refine zma ?_
   refine qZa rfl (fun c25=> ?_) (fun c25=> ?_)
   ·replace hr:=vAa c25 hr
    refine vWa ?_
    refine zma ?_
    obtain ⟨j26,hx,hy⟩:=zaa hr
    refine q0a (fun j26=> [(3, .hs 1004 0),(5, .hs 1005 0),(6, .i s22.1)]) (fun j26=> [(1005, .row 5 false 1 (List.map cU j26)),(1004, .row 9 false 1 (List.map cS v20))]) (fun z=> j26=z) ?_ ?_
    ·have hr:=hx
     clear hx hy
     refine q8a ?_
     obtain ⟨j27,hx,hy⟩:=zaa hr
     refine q0a (fun j27=> [(3, .hs 1004 0),(5, .hs 1005 0),(6, .i s22.1)]) (fun j27=> [(1005, .row 5 false 1 (List.map cU j27)),(1004, .row 9 false 1 (List.map cS v20))]) (fun z=> j27=z) ?_ ?_
     ·have hr:=hx
      clear hx hy
      obtain ⟨j28,hx,hy⟩:=zaa hr
      refine q0a (fun j28=> [(3, .hs 1004 0),(5, .hs 1005 0),(6, .i s22.1),(36, .bo j28)]) (fun j28=> [(1005, .row 5 false 1 (List.map cU s22.2)),(1004, .row 9 false 1 (List.map cS v20))]) (fun z=> j28=z) ?_ ?_
      ·have hr:=hx
       clear hx hy
       refine zpa ?_
       refine zia rfl (zja (d:=23) rfl rfl zqa) ?_
       refine zia rfl (zja (d:=24) rfl rfl zqa) ?_
       refine j9a (d:=23) (F:=cS) (l:=v20) rfl rfl ?_
       obtain ⟨v29,h30,hr⟩:=zaa hr
       refine zia rfl (zja (d:=25) rfl rfl (wca (f:=cS) rfl rfl kva zDa rfl h30)) ?_
       refine zia rfl (zja (d:=26) rfl rfl (waa rfl zDa rfl rfl)) ?_
       refine zia rfl (zja (d:=27) rfl rfl (v0b rfl zDa.u)) ?_
       refine zia rfl (zja (d:=28) rfl rfl (Y1a rfl rfl)) ?_
       refine zia rfl (zja (d:=29) rfl rfl zqa) ?_
       refine qya (decide (0 < (v29.length:Int))) (fun c31=> ?_) (fun c31=> ?_)
       ·replace hr:=vAa c31 hr
        refine zEa (d:=29) rfl rfl rfl c31 (zja (d:=30) rfl rfl zqa) ?_
        refine zEa (d:=29) rfl rfl rfl c31 (zja (d:=31) rfl rfl zqa) ?_
        refine j9a (d:=30) (F:=cS) (l:=v20) rfl rfl ?_
        obtain ⟨v32,h33,hr⟩:=zaa hr
        refine zEa (d:=29) rfl rfl rfl c31 (zja (d:=32) rfl rfl (wca (f:=cS) rfl rfl kva zDa rfl h33)) ?_
        refine zEa (d:=29) rfl rfl rfl c31 (zja (d:=33) rfl rfl (waa rfl zDa rfl rfl)) ?_
        obtain ⟨v34,h35,hr⟩:=zaa hr
        refine zEa (d:=29) rfl rfl rfl c31 (zja (d:=34) rfl rfl (ZPa rfl rfl zDa h35)) ?_
        refine zEa (d:=29) rfl rfl rfl c31 (zja (d:=35) rfl rfl (YZa rfl rfl)) ?_
        refine zia rfl (zja (d:=36) rfl rfl (qPa rfl c31)) ?_
        refine zwa ?_
        cases hr
        exact zIa _ rfl (zda rfl (zda rfl (zda rfl (zda rfl zva)))) (zba rfl (zba rfl zha))
       ·replace hr:=vBa c31 hr
        refine zGa (d:=29) rfl rfl rfl c31 ?_
        refine zGa (d:=29) rfl rfl rfl c31 ?_
        refine zGa (d:=29) rfl rfl rfl c31 ?_
        refine zGa (d:=29) rfl rfl rfl c31 ?_
        refine zGa (d:=29) rfl rfl rfl c31 ?_
        refine zGa (d:=29) rfl rfl rfl c31 ?_
        refine zia rfl (zja (d:=36) rfl rfl (qxa rfl c31)) ?_
        refine zwa ?_
        cases hr
        exact zIa _ rfl (zda rfl (zda rfl (zda rfl (zda rfl zva)))) (zba rfl (zba rfl zha))
      ·rintro _ rfl
       have hr:=hy
       clear hx hy
       refine qZa rfl (fun c36=> ?_) (fun c36=> ?_)
       ·replace hr:=vAa c36 hr
        refine zpa ?_
        refine zia rfl (zja (d:=37) rfl rfl zqa) ?_
        refine zia rfl (jma (d:=38) rfl rfl (vEa (F:=cU) (l:=([(46:UInt8)]:List UInt8)) zka zua rfl (fun _=> rfl) rfl rfl)) ?_
        obtain ⟨v37,h38,hr⟩:=zaa hr
        refine zia rfl (kHa (k:=39) (F:=cU) (l:=s22.2) (xs:=(([(46:UInt8)]:List UInt8))) (lim:=140737488355328) rfl rfl rfl rfl zka zua rfl rfl (fun _=> rfl) rfl h38) ?_
        refine zia rfl (zja (d:=5) rfl rfl zBa) ?_
        refine zwa ?_
        cases hr
        exact zIa _ rfl (zda rfl (zda rfl (zda rfl zva))) (zba rfl (zba rfl zha))
       ·replace hr:=vBa c36 hr
        refine vWa ?_
        cases hr
        exact zIa _ rfl (zda rfl (zda rfl (zda rfl zva))) (zba rfl (zba rfl zha))
     ·rintro _ rfl
      have hr:=hy
      clear hx hy
      refine zNa ?_
      refine zpa ?_
      refine zia rfl (zja (d:=40) rfl rfl zqa) ?_
      refine zia rfl (zja (d:=41) rfl rfl zqa) ?_
      refine zia rfl (zja (d:=42) rfl rfl zqa) ?_
      refine j9a (d:=41) (F:=cS) (l:=v20) rfl rfl ?_
      obtain ⟨v39,h40,hr⟩:=zaa hr
      refine zia rfl (zja (d:=43) rfl rfl (wca (f:=cS) rfl rfl kva zDa rfl h40)) ?_
      refine zia rfl (zja (d:=44) rfl rfl (waa rfl zDa rfl rfl)) ?_
      obtain ⟨v41,h42,hr⟩:=zaa hr
      refine zia rfl (vaa (k:=45) (l:=j27) (s:=v39) (lim:=140737488355328) rfl rfl rfl rfl zka zDa.u zua rfl h42) ?_
      refine zia rfl (zja (d:=5) rfl rfl zBa) ?_
      refine zwa ?_
      refine zma ?_
      refine zNa ?_
      refine zpa ?_
      refine zia rfl (zja (d:=46) rfl rfl zqa) ?_
      refine zia rfl (zja (d:=47) rfl rfl (jIa rfl rfl)) ?_
      refine zia rfl (zja (d:=48) rfl rfl zqa) ?_
      refine zia rfl (zja (d:=49) rfl rfl (kxb (F:=cS) rfl rfl kva.u)) ?_
      refine zia rfl (zja (d:=50) rfl rfl (Y0a rfl rfl)) ?_
      refine zwa ?_
      refine zma ?_
      refine qZa rfl (fun c43=> ?_) (fun c43=> ?_)
      ·replace hr:=vAa c43 hr
       refine zpa ?_
       refine zia rfl (zja (d:=51) rfl rfl zqa) ?_
       refine zia rfl (jma (d:=52) rfl rfl (vEa (F:=cU) (l:=([(13:UInt8),(10:UInt8)]:List UInt8)) zka zua rfl (fun _=> rfl) rfl rfl)) ?_
       obtain ⟨v44,h45,hr⟩:=zaa hr
       refine zia rfl (kHa (k:=53) (F:=cU) (l:=v41) (xs:=(([(13:UInt8),(10:UInt8)]:List UInt8))) (lim:=140737488355328) rfl rfl rfl rfl zka zua rfl rfl (fun _=> rfl) rfl h45) ?_
       refine zia rfl (zja (d:=5) rfl rfl zBa) ?_
       refine zwa ?_
       refine k0a ?_
       cases hr
       exact zIa _ rfl (zda rfl (zda rfl (zda rfl zva))) (zba rfl (zba rfl zha))
      ·replace hr:=vBa c43 hr
       refine vWa ?_
       refine k0a ?_
       cases hr
       exact zIa _ rfl (zda rfl (zda rfl (zda rfl zva))) (zba rfl (zba rfl zha))
    ·rintro _ rfl
     have hr:=hy
     clear hx hy
     refine zpa ?_
     refine zia rfl (zja (d:=21) rfl rfl zqa) ?_
     refine zia rfl (zja (d:=22) rfl rfl (jIa rfl rfl)) ?_
     refine zia rfl (zja (d:=6) rfl rfl zBa) ?_
     refine zwa ?_
     cases hr
     exact ⟨rfl,(zda rfl (zda rfl (zda rfl zva))),(zba rfl (zba rfl zha))⟩
   ·replace hr:=vBa c25 hr
    refine Wqa ?_
    refine Vha ?_
    cases hr
    exact ⟨by simp,rfl,(zda rfl zva),(zba rfl zha)⟩
  ·intro e fr2 st2 hq
   obtain ⟨rfl,hf,hs⟩:=hq
   refine j6a ?_
   refine zma ?_
   refine WCa hf hs ?_
   refine zNa ?_
   refine zpa ?_
   refine zia rfl (zja (d:=54) rfl rfl zqa) ?_
   refine zia rfl (jma (d:=55) rfl rfl (vEa (F:=cU) (l:=([(46:UInt8),(13:UInt8),(10:UInt8)]:List UInt8)) zka zua rfl (fun _=> rfl) rfl rfl)) ?_
   obtain ⟨v46,h47,hr⟩:=zaa hr
   refine zia rfl (kHa (k:=56) (F:=cU) (l:=b23) (xs:=(([(46:UInt8),(13:UInt8),(10:UInt8)]:List UInt8))) (lim:=140737488355328) rfl rfl rfl rfl zka zua rfl rfl (fun _=> rfl) rfl h47) ?_
   refine zia rfl (zja (d:=2) rfl rfl zBa) ?_
   refine zwa ?_
   refine zma ?_
   refine vba (d:=2) (F:=cU) (l:=v46) rfl rfl ?_
   refine yda ?_
   cases hr
   exact zrb rfl (.cons (wJa rfl) .nil) rfl
theorem knb (a0:zea) (a1:Int) (r:zea) (hr:KCa a0 a1=some r):RunS Tryz.prog 42 [.agg [.s a0.C.Name, .s a0.C.Mail.Envelope.From, .l zca.pc a0.C.Mail.Envelope.To, .s a0.C.Mail.Envelope.Id, .l zga.pc a0.C.Mail.Message.Fields, .l cU a0.C.Mail.Message.Body, .bo a0.C.Pipelined, .l cU a0.C.Buffer, .i a0.C.Expected, .bo a0.C.Whole, .bo a0.C.Done, .l cI a0.C.Results, .hs 90001013 0], .i a1] [(90001013, .row 5 false 1 (List.map cU a0.Out))] (.agg [.s r.C.Name, .s r.C.Mail.Envelope.From, .l zca.pc r.C.Mail.Envelope.To, .s r.C.Mail.Envelope.Id, .l zga.pc r.C.Mail.Message.Fields, .l cU r.C.Mail.Message.Body, .bo r.C.Pipelined, .l cU r.C.Buffer, .i r.C.Expected, .bo r.C.Whole, .bo r.C.Done, .l cI r.C.Results, .hs 90001013 0]) [(90001013, .row 5 false 1 (List.map cU r.Out))] 90001000 [90001013]:=by
 unfold KCa at hr
 refine rfS (fn:=Tryz.f42) (H:=90001999) .any ⟨Tryz.func42,rfl,by kernel_rfl⟩ rfl (hasT rfl) (.inr ⟨rfl,rfl⟩) rfl rfl rfl rfl fun g0 hg S sg T=> ?_
 refine rn tk 4 rfl ?_
 refine zWa 1004 (o:=4) (j:=12) 5 1 rfl rfl rfl rfl (hO ?_)
 refine rn tk 7 rfl ?_
 refine wn tk rfl rfl rfl ?_
 refine rn tk 18 rfl ?_
 refine ac 16 hr rfl (fun c1 hr=> ?_) (fun c1 hr=> ?_)
 ·
  refine rn tk 7 rfl ?_
  refine ac 18 hr rfl (fun c2 hr=> ?_) (fun c2 hr=> ?_)
  ·
   refine rn tk 1 rfl ?_
   obtain ⟨v3,h4,hr⟩:=zaa hr
   refine drF 2 0 [(20, .i a1),(19, .agg [.s a0.C.Name, .s a0.C.Mail.Envelope.From, .l zca.pc a0.C.Mail.Envelope.To, .s a0.C.Mail.Envelope.Id, .l zga.pc a0.C.Mail.Message.Fields, .l cU a0.C.Mail.Message.Body, .bo a0.C.Pipelined, .l cU a0.C.Buffer, .i a0.C.Expected, .bo a0.C.Whole, .bo a0.C.Done, .l cI a0.C.Results, .hs 90001013 0])] [(20, .i a1),(19, .any)] [(4, .ptr 4 0),(19, .agg [.s a0.C.Name, .s a0.C.Mail.Envelope.From, .l zca.pc a0.C.Mail.Envelope.To, .s a0.C.Mail.Envelope.Id, .l zga.pc a0.C.Mail.Message.Fields, .l cU a0.C.Mail.Message.Body, .bo a0.C.Pipelined, .l cU a0.C.Buffer, .i a0.C.Expected, .bo a0.C.Whole, .bo a0.C.Done, .l cI a0.C.Results, .hs 90001013 0]),(21, .i v3)] [(1004, .row 5 false 1 (List.map cU (([]:List UInt8)))),(4, .cells [.s (([]:Str)), .s (([]:Str)), .pv (.sl (some true) []), .s (([]:Str)), .pv (.sl (some true) []), .pv (.sl (some true) []), .bo false, .pv (.sl (some true) []), .i 0, .bo false, .bo false, .pv (.sl (some true) []), .hs 1004 0]),(2, .cells [.s a0.C.Name, .s a0.C.Mail.Envelope.From, .l zca.pc a0.C.Mail.Envelope.To, .s a0.C.Mail.Envelope.Id, .l zga.pc a0.C.Mail.Message.Fields, .l cU a0.C.Mail.Message.Body, .bo a0.C.Pipelined, .l cU a0.C.Buffer, .i a0.C.Expected, .bo a0.C.Whole, .bo a0.C.Done, .l cI a0.C.Results, .hs 90001013 0]),(90001999, .hold (.any) (T.getD 0 undef)),(90001013, .row 5 false 1 (List.map cU a0.Out))] mixed (by kernel_rfl) rfl rfl rfl rfl rfl (pqA tk rfl (.plain rfl) (pqA tk rfl (.plain rfl) .nil)) rfl rfl rfl rfl rfl (fun hJ=> ?_) (fun hJ=> ?_) ?_
   ·
    refine cl (vqa _ _ h4) rfl rfl ?_
    exact hJ _ _ rfl rfl
   ·
    refine cl (vqa _ _ h4) rfl rfl ?_
    refine rn tk 1 rfl ?_
    exact hJ _ _ rfl rfl
   obtain ⟨v5,h6,hr⟩:=zaa hr
   refine wo (zya (k:=22) (yca a0 v3 v5 h6) rfl rfl (zba rfl zha)) rfl ?_
   refine rn tk 6 rfl ?_
   cases hr
   exact krS tk (.inr rfl) rfl rfl (zba rfl (zba rfl zha))
  ·
   refine rn tk 5 rfl ?_
   obtain ⟨v7,h8,hr⟩:=zaa hr
   refine wo (zya (k:=24) (YCa a0 v7 h8) rfl rfl (zba rfl zha)) rfl ?_
   refine rn tk 5 rfl ?_
   cases hr
   exact krS tk (.inr rfl) rfl rfl (zba rfl (zba rfl zha))
 ·
  refine rn tk 11 rfl ?_
  refine ac 28 hr rfl (fun c9 hr=> ?_) (fun c9 hr=> ?_)
  ·
   refine jb hr (fun j10=> [(2, .ptr 2 0),(4, .ptr 4 0),(5, .i ((a0.C.Results.length:Int))),(6, .i a0.C.Expected)]) (fun j10=> [(2, .cells [.s j10.C.Name, .s j10.C.Mail.Envelope.From, .l zca.pc j10.C.Mail.Envelope.To, .s j10.C.Mail.Envelope.Id, .l zga.pc j10.C.Mail.Message.Fields, .l cU j10.C.Mail.Message.Body, .bo j10.C.Pipelined, .l cU j10.C.Buffer, .i j10.C.Expected, .bo j10.C.Whole, .bo j10.C.Done, .l cI j10.C.Results, .hs 90001013 0]),(90001013, .row 5 false 1 (List.map cU j10.Out)),(1004, .row 5 false 1 (List.map cU (([]:List UInt8)))),(4, .cells [.s (([]:Str)), .s (([]:Str)), .l zca.pc ([]), .s (([]:Str)), .l zga.pc ([]), .l cU ([]), .bo false, .l cU ([]), .i 0, .bo false, .bo false, .l cI ([]), .hs 1004 0]),(90001999, .hold (.any) (T.getD 0 undef))]) (fun j10 hr=> ?_) (fun j10 hr=> ?_)
   ·
    refine rn tk 6 rfl ?_
    refine ac 30 hr rfl (fun c11 hr=> ?_) (fun c11 hr=> ?_)
    ·
     refine rn tk 3 rfl ?_
     refine Qca 1007 (d:=7) 3 1 rfl rfl rfl (hO ?_)
     refine rn tk 8 rfl ?_
     obtain ⟨v12,h13,hr⟩:=zaa hr
     refine wa tk h13 rfl rfl rfl rfl (fun _=> rfl) rfl rfl ?_
     refine rn tk 9 rfl ?_
     obtain ⟨v14,h15,hr⟩:=zaa hr
     refine cl (vqa _ _ h15) rfl rfl ?_
     obtain ⟨v16,h17,hr⟩:=zaa hr
     refine wih tk h17 rfl rfl rfl rfl rfl ?_
     obtain ⟨v18,h19,hr⟩:=zaa hr
     refine wo (Qha (F:=cI) (l:=v12) (n:=((w64 (a0.C.Expected - 3)))) (j:=0) (v:=v18) (v' :=v14) (pcs:= [pI v14]) rfl rfl rfl qia rfl h19 rfl rfl) rfl ?_
     refine rn tk 7 rfl ?_
     refine web 1007 rfl (hO ?_)
     refine WOa (o:=2) (j:=11) (F:=cI) (l:=((List.set v12 (Int.toNat ((w64 (a0.C.Expected - 3)))) v14))) rfl rfl rfl (hO ?_)
     refine rn tk 1 rfl ?_
     cases hr
     exact jn _ rfl rfl rfl
    ·
     refine rn tk 1 rfl ?_
     cases hr
     exact jn _ rfl rfl rfl
   ·
    refine rn tk 1 rfl ?_
    refine jb hr (fun j20=> [(2, .ptr 2 0),(4, .ptr 4 0),(60, .bo j20)]) (fun j20=> [(2, .cells [.s j10.C.Name, .s j10.C.Mail.Envelope.From, .l zca.pc j10.C.Mail.Envelope.To, .s j10.C.Mail.Envelope.Id, .l zga.pc j10.C.Mail.Message.Fields, .l cU j10.C.Mail.Message.Body, .bo j10.C.Pipelined, .l cU j10.C.Buffer, .i j10.C.Expected, .bo j10.C.Whole, .bo j10.C.Done, .l cI j10.C.Results, .hs 90001013 0]),(90001013, .row 5 false 1 (List.map cU j10.Out)),(1004, .row 5 false 1 (List.map cU (([]:List UInt8)))),(4, .cells [.s (([]:Str)), .s (([]:Str)), .l zca.pc ([]), .s (([]:Str)), .l zga.pc ([]), .l cU ([]), .bo false, .l cU ([]), .i 0, .bo false, .bo false, .l cI ([]), .hs 1004 0]),(90001999, .hold (.any) (T.getD 0 undef))]) (fun j20 hr=> ?_) (fun j20 hr=> ?_)
    ·
     refine rn tk 6 rfl ?_
     refine bs 49 hr rfl (fun c21 hr=> ?_) (fun c21 hr=> ?_)
     ·
      refine rn tk 6 rfl ?_
      refine bs 55 hr rfl (fun c22 hr=> ?_) (fun c22 hr=> ?_)
      ·
       refine rn tk 2 rfl ?_
       obtain ⟨v23,h24,hr⟩:=zaa hr
       refine ug rfl rfl rfl ?_
       refine cl (Qaa _ _ h24) rfl rfl ?_
       refine rn tk 3 rfl ?_
       cases hr
       exact jn _ rfl rfl rfl
      ·
       refine rn tk 6 rfl ?_
       cases hr
       exact jn _ rfl rfl rfl
     ·
      refine rn tk 12 rfl ?_
      cases hr
      exact jn _ rfl rfl rfl
    ·
     refine ac 60 hr rfl (fun c25 hr=> ?_) (fun c25 hr=> ?_)
     ·
      refine rn tk 3 rfl ?_
      obtain ⟨v26,h27,hr⟩:=zaa hr
      refine wo (zya (k:=62) (yca j10 2 v26 h27) rfl rfl (zba rfl zha)) rfl ?_
      refine rn tk 6 rfl ?_
      cases hr
      exact krS tk (.inr rfl) rfl rfl (zba rfl (zba rfl zha))
     ·
      refine rn tk 5 rfl ?_
      obtain ⟨v28,h29,hr⟩:=zaa hr
      refine wo (zya (k:=64) (YCa j10 v28 h29) rfl rfl (zba rfl zha)) rfl ?_
      refine rn tk 5 rfl ?_
      cases hr
      exact krS tk (.inr rfl) rfl rfl (zba rfl (zba rfl zha))
  ·
   refine rn tk 11 rfl ?_
   refine ac 68 hr rfl (fun c30 hr=> ?_) (fun c30 hr=> ?_)
   ·
    refine rn tk 7 rfl ?_
    refine ac 70 hr rfl (fun c31 hr=> ?_) (fun c31 hr=> ?_)
    ·
     refine rn tk 1 rfl ?_
     obtain ⟨v32,h33,hr⟩:=zaa hr
     refine drF 2 0 [(72, .i a1),(71, .agg [.s a0.C.Name, .s a0.C.Mail.Envelope.From, .l zca.pc a0.C.Mail.Envelope.To, .s a0.C.Mail.Envelope.Id, .l zga.pc a0.C.Mail.Message.Fields, .l cU a0.C.Mail.Message.Body, .bo a0.C.Pipelined, .l cU a0.C.Buffer, .i a0.C.Expected, .bo a0.C.Whole, .bo a0.C.Done, .l cI a0.C.Results, .hs 90001013 0])] [(72, .i a1),(71, .any)] [(4, .ptr 4 0),(71, .agg [.s a0.C.Name, .s a0.C.Mail.Envelope.From, .l zca.pc a0.C.Mail.Envelope.To, .s a0.C.Mail.Envelope.Id, .l zga.pc a0.C.Mail.Message.Fields, .l cU a0.C.Mail.Message.Body, .bo a0.C.Pipelined, .l cU a0.C.Buffer, .i a0.C.Expected, .bo a0.C.Whole, .bo a0.C.Done, .l cI a0.C.Results, .hs 90001013 0]),(73, .i v32)] [(1004, .row 5 false 1 (List.map cU (([]:List UInt8)))),(4, .cells [.s (([]:Str)), .s (([]:Str)), .pv (.sl (some true) []), .s (([]:Str)), .pv (.sl (some true) []), .pv (.sl (some true) []), .bo false, .pv (.sl (some true) []), .i 0, .bo false, .bo false, .pv (.sl (some true) []), .hs 1004 0]),(2, .cells [.s a0.C.Name, .s a0.C.Mail.Envelope.From, .l zca.pc a0.C.Mail.Envelope.To, .s a0.C.Mail.Envelope.Id, .l zga.pc a0.C.Mail.Message.Fields, .l cU a0.C.Mail.Message.Body, .bo a0.C.Pipelined, .l cU a0.C.Buffer, .i a0.C.Expected, .bo a0.C.Whole, .bo a0.C.Done, .l cI a0.C.Results, .hs 90001013 0]),(90001999, .hold (.any) (T.getD 0 undef)),(90001013, .row 5 false 1 (List.map cU a0.Out))] mixed (by kernel_rfl) rfl rfl rfl rfl rfl (pqA tk rfl (.plain rfl) (pqA tk rfl (.plain rfl) .nil)) rfl rfl rfl rfl rfl (fun hJ=> ?_) (fun hJ=> ?_) ?_
     ·
      refine cl (vqa _ _ h33) rfl rfl ?_
      exact hJ _ _ rfl rfl
     ·
      refine cl (vqa _ _ h33) rfl rfl ?_
      refine rn tk 1 rfl ?_
      exact hJ _ _ rfl rfl
     obtain ⟨v34,h35,hr⟩:=zaa hr
     refine wo (zya (k:=74) (yca a0 v32 v34 h35) rfl rfl (zba rfl zha)) rfl ?_
     refine rn tk 6 rfl ?_
     cases hr
     exact krS tk (.inr rfl) rfl rfl (zba rfl (zba rfl zha))
    ·
     refine rn tk 7 rfl ?_
     obtain ⟨v36,h37,hr⟩:=zaa hr
     refine cl (Qaa _ _ h37) rfl rfl ?_
     refine rn tk 3 rfl ?_
     refine ac 78 hr rfl (fun c38 hr=> ?_) (fun c38 hr=> ?_)
     ·
      refine rn tk 3 rfl ?_
      obtain ⟨v39,h40,hr⟩:=zaa hr
      refine wo (zya (k:=80) (Qwa a0 2 v39 h40) rfl rfl (zba rfl zha)) rfl ?_
      refine rn tk 6 rfl ?_
      cases hr
      exact krS tk (.inr rfl) rfl rfl (zba rfl (zba rfl zha))
     ·
      refine rn tk 3 rfl ?_
      obtain ⟨v41,h42,hr⟩:=zaa hr
      obtain ⟨v43,h44,hr⟩:=zaa hr
      refine dr 8 [(88, .l cU v43),(87, .l cU v41),(86, .agg [.l zga.pc a0.C.Mail.Message.Fields, .l cU a0.C.Mail.Message.Body]),(85, .ptr 2 4),(84, .ptr 2 1),(83, .ptr 2 0),(82, .hs 90001013 0),(81, .ptr 2 12)] mixed (by kernel_rfl) rfl rfl (pq tk rfl (.plain rfl) (pq tk rfl (.plain rfl) (pq tk rfl (.plain rfl) (pq tk rfl (.plain rfl) (pq tk rfl (.plain rfl) (pq tk rfl (.plain rfl) (.run (.plain rfl) (kda (q6a a0.C.Mail.Message v41 h42) rfl) (.run (.plain rfl) (kda (vRb v41 v43 h44) rfl) .nil)))))))) rfl ?_
      obtain ⟨v45,h46,hr⟩:=zaa hr
      refine wa tk h46 rfl rfl rfl rfl (fun _=> rfl) rfl rfl ?_
      refine rn tk 28 rfl ?_
      cases hr
      exact krS tk (.inr rfl) rfl rfl (zba rfl (zba rfl zha))
   ·
    refine rn tk 9 rfl ?_
    refine ac 99 hr rfl (fun c47 hr=> ?_) (fun c47 hr=> ?_)
    ·
     refine rn tk 3 rfl ?_
     obtain ⟨v48,h49,hr⟩:=zaa hr
     refine wo (zya (k:=101) (yca a0 1 v48 h49) rfl rfl (zba rfl zha)) rfl ?_
     refine rn tk 5 rfl ?_
     cases hr
     exact krS tk (.inr rfl) rfl rfl (zba rfl (zba rfl zha))
    ·
     refine rn tk 3 rfl ?_
     obtain ⟨v50,h51,hr⟩:=zaa hr
     refine drF 2 0 [(103, .i a1),(102, .agg [.s a0.C.Name, .s a0.C.Mail.Envelope.From, .l zca.pc a0.C.Mail.Envelope.To, .s a0.C.Mail.Envelope.Id, .l zga.pc a0.C.Mail.Message.Fields, .l cU a0.C.Mail.Message.Body, .bo a0.C.Pipelined, .l cU a0.C.Buffer, .i a0.C.Expected, .bo a0.C.Whole, .bo a0.C.Done, .l cI a0.C.Results, .hs 90001013 0])] [(103, .i a1),(102, .any)] [(4, .ptr 4 0),(102, .agg [.s a0.C.Name, .s a0.C.Mail.Envelope.From, .l zca.pc a0.C.Mail.Envelope.To, .s a0.C.Mail.Envelope.Id, .l zga.pc a0.C.Mail.Message.Fields, .l cU a0.C.Mail.Message.Body, .bo a0.C.Pipelined, .l cU a0.C.Buffer, .i a0.C.Expected, .bo a0.C.Whole, .bo a0.C.Done, .l cI a0.C.Results, .hs 90001013 0]),(104, .i v50)] [(1004, .row 5 false 1 (List.map cU (([]:List UInt8)))),(4, .cells [.s (([]:Str)), .s (([]:Str)), .pv (.sl (some true) []), .s (([]:Str)), .pv (.sl (some true) []), .pv (.sl (some true) []), .bo false, .pv (.sl (some true) []), .i 0, .bo false, .bo false, .pv (.sl (some true) []), .hs 1004 0]),(2, .cells [.s a0.C.Name, .s a0.C.Mail.Envelope.From, .l zca.pc a0.C.Mail.Envelope.To, .s a0.C.Mail.Envelope.Id, .l zga.pc a0.C.Mail.Message.Fields, .l cU a0.C.Mail.Message.Body, .bo a0.C.Pipelined, .l cU a0.C.Buffer, .i a0.C.Expected, .bo a0.C.Whole, .bo a0.C.Done, .l cI a0.C.Results, .hs 90001013 0]),(90001999, .hold (.any) (T.getD 0 undef)),(90001013, .row 5 false 1 (List.map cU a0.Out))] mixed (by kernel_rfl) rfl rfl rfl rfl rfl (pqA tk rfl (.plain rfl) (pqA tk rfl (.plain rfl) .nil)) rfl rfl rfl rfl rfl (fun hJ=> ?_) (fun hJ=> ?_) ?_
     ·
      refine cl (vqa _ _ h51) rfl rfl ?_
      exact hJ _ _ rfl rfl
     ·
      refine cl (vqa _ _ h51) rfl rfl ?_
      refine rn tk 1 rfl ?_
      exact hJ _ _ rfl rfl
     obtain ⟨v52,h53,hr⟩:=zaa hr
     refine wo (zya (k:=105) (yca a0 v50 v52 h53) rfl rfl (zba rfl zha)) rfl ?_
     refine rn tk 4 rfl ?_
     cases hr
     exact krS tk (.inr rfl) rfl rfl (zba rfl (zba rfl zha))
theorem qtb (a0:List UInt8) (r:(List Str) × (List UInt8)) (hr:Vya a0=some r):Run Tryz.prog 40 [.l cU a0] (.tup [.l cS r.1, .l cU r.2]):=by
 unfold Vya at hr
 refine wKa (fn:=Tryz.f40) ⟨Tryz.func40,rfl,by kernel_rfl⟩ rfl (fun _=> rfl) fun g0 hg=> ?_
 refine zNa ?_
 refine zpa ?_
 refine zia rfl (zja (d:=2) rfl rfl zBa) ?_
 refine zia rfl (zja (d:=3) rfl rfl zBa) ?_
 refine zwa ?_
 refine zma ?_
 refine zNa ?_
 refine zpa ?_
 refine zia rfl (zja (d:=4) rfl rfl zBa) ?_
 refine ksa 1004 (d:=4) 9 1 rfl rfl rfl ?_
 refine zwa ?_
 refine zma ?_
 refine zNa ?_
 refine zpa ?_
 refine zia rfl (zja (d:=5) rfl rfl zBa) ?_
 refine zwa ?_
 refine zma ?_
 refine zNa ?_
 refine zNa ?_
 refine zpa ?_
 refine zia rfl (zja (d:=6) rfl rfl zBa) ?_
 refine zwa ?_
 refine zma ?_
 refine q8a ?_
 obtain ⟨b2,hl,hr⟩:=zaa hr
 refine Qza (kIa a0) (fun s1=> [(0, .l cU a0),(4, .hs 1004 0),(5, .i s1.1),(6, .i s1.2.1)]) (fun s1=> [(1004, .row 9 false 1 (List.map cS s1.2.2))]) (fun b2=> At (.exit 0) [(0, .l cU a0),(4, .hs 1004 0),(5, .i b2.1)] [(1004, .row 9 false 1 (List.map cS b2.2))]) ?_ ((0,1,([]:List Str))) hl (zda rfl (zda rfl (zda rfl (zda rfl zva)))) (zba rfl zha) ?_
 ·intro s1 x3 hr
  unfold kIa at hr
  refine zNa ?_
  refine zNa ?_
  refine zpa ?_
  refine zia rfl (zja (d:=7) rfl rfl zqa) ?_
  refine zia rfl (zja (d:=8) rfl rfl zqa) ?_
  refine zia rfl (zja (d:=9) rfl rfl (vDa (f:=cU) rfl zka.u)) ?_
  refine zia rfl (zja (d:=10) rfl rfl (Y0a rfl rfl)) ?_
  refine zwa ?_
  refine zma ?_
  refine qZa rfl (fun c4=> ?_) (fun c4=> ?_)
  ·replace hr:=vAa c4 hr
   refine vWa ?_
   refine zma ?_
   obtain ⟨j5,hx,hy⟩:=zaa hr
   refine q0a (fun j5=> [(0, .l cU a0),(4, .hs 1004 0),(5, .i j5.1),(6, .i s1.2.1)]) (fun j5=> [(1004, .row 9 false 1 (List.map cS j5.2))]) (fun z=> j5=z) ?_ ?_
   ·have hr:=hx
    clear hx hy
    refine q8a ?_
    obtain ⟨j6,hx,hy⟩:=zaa hr
    refine q0a (fun j6=> [(0, .l cU a0),(4, .hs 1004 0),(5, .i s1.1),(6, .i s1.2.1),(30, .bo j6)]) (fun j6=> [(1004, .row 9 false 1 (List.map cS s1.2.2))]) (fun z=> j6=z) ?_ ?_
    ·have hr:=hx
     clear hx hy
     refine zpa ?_
     refine zia rfl (zja (d:=13) rfl rfl zqa) ?_
     refine zia rfl (zja (d:=14) rfl rfl zqa) ?_
     obtain ⟨v7,h8,hr⟩:=zaa hr
     refine zia rfl (zja (d:=15) rfl rfl (wca (f:=cU) rfl rfl zka zua rfl h8)) ?_
     refine zia rfl (zja (d:=16) rfl rfl (waa rfl zua rfl rfl)) ?_
     refine zia rfl (zja (d:=17) rfl rfl (YZa rfl rfl)) ?_
     refine zia rfl (zja (d:=18) rfl rfl zqa) ?_
     refine qya (((v7.toNat:Int)==10)) (fun c9=> ?_) (fun c9=> ?_)
     ·replace hr:=vAa c9 hr
      refine zEa (d:=18) rfl rfl rfl c9 (zja (d:=19) rfl rfl zqa) ?_
      refine zEa (d:=18) rfl rfl rfl c9 (zja (d:=20) rfl rfl zqa) ?_
      refine zEa (d:=18) rfl rfl rfl c9 (zja (d:=21) rfl rfl (WDa rfl rfl)) ?_
      obtain ⟨v10,h11,hr⟩:=zaa hr
      refine zEa (d:=18) rfl rfl rfl c9 (zja (d:=22) rfl rfl (wca (f:=cU) rfl rfl zka zua rfl h11)) ?_
      refine zEa (d:=18) rfl rfl rfl c9 (zja (d:=23) rfl rfl (waa rfl zua rfl rfl)) ?_
      refine zEa (d:=18) rfl rfl rfl c9 (zja (d:=24) rfl rfl (YZa rfl rfl)) ?_
      refine zia rfl (zja (d:=25) rfl rfl (qPa rfl c9)) ?_
      refine zia rfl (zja (d:=26) rfl rfl zqa) ?_
      refine qya (((v10.toNat:Int)==13)) (fun c12=> ?_) (fun c12=> ?_)
      ·replace hr:=vAa c12 hr
       refine zEa (d:=26) rfl rfl rfl c12 (zja (d:=27) rfl rfl zqa) ?_
       refine zEa (d:=26) rfl rfl rfl c12 (zja (d:=28) rfl rfl zqa) ?_
       refine zEa (d:=26) rfl rfl rfl c12 (zja (d:=29) rfl rfl (Y1a rfl rfl)) ?_
       refine zia rfl (zja (d:=30) rfl rfl (qPa rfl c12)) ?_
       refine zwa ?_
       cases hr
       exact zIa _ rfl (zda rfl (zda rfl (zda rfl (zda rfl (zda rfl zva))))) (zba rfl zha)
      ·replace hr:=vBa c12 hr
       refine zGa (d:=26) rfl rfl rfl c12 ?_
       refine zGa (d:=26) rfl rfl rfl c12 ?_
       refine zGa (d:=26) rfl rfl rfl c12 ?_
       refine zia rfl (zja (d:=30) rfl rfl (qxa rfl c12)) ?_
       refine zwa ?_
       cases hr
       exact zIa _ rfl (zda rfl (zda rfl (zda rfl (zda rfl (zda rfl zva))))) (zba rfl zha)
     ·replace hr:=vBa c9 hr
      refine zGa (d:=18) rfl rfl rfl c9 ?_
      refine zGa (d:=18) rfl rfl rfl c9 ?_
      refine zGa (d:=18) rfl rfl rfl c9 ?_
      refine zGa (d:=18) rfl rfl rfl c9 ?_
      refine zGa (d:=18) rfl rfl rfl c9 ?_
      refine zGa (d:=18) rfl rfl rfl c9 ?_
      refine zia rfl (zja (d:=25) rfl rfl (qxa rfl c9)) ?_
      refine zia rfl (zja (d:=26) rfl rfl zqa) ?_
      refine zGa (d:=26) rfl rfl rfl rfl ?_
      refine zGa (d:=26) rfl rfl rfl rfl ?_
      refine zGa (d:=26) rfl rfl rfl rfl ?_
      refine zia rfl (zja (d:=30) rfl rfl (qxa rfl rfl)) ?_
      refine zwa ?_
      cases hr
      exact zIa _ rfl (zda rfl (zda rfl (zda rfl (zda rfl (zda rfl zva))))) (zba rfl zha)
    ·rintro _ rfl
     have hr:=hy
     clear hx hy
     refine qZa rfl (fun c13=> ?_) (fun c13=> ?_)
     ·replace hr:=vAa c13 hr
      refine zNa ?_
      refine zpa ?_
      refine zia rfl (zja (d:=31) rfl rfl zqa) ?_
      refine zia rfl (zja (d:=32) rfl rfl zqa) ?_
      refine zia rfl (zja (d:=33) rfl rfl zqa) ?_
      refine zia rfl (zja (d:=34) rfl rfl zqa) ?_
      refine zia rfl (zja (d:=35) rfl rfl (WDa rfl rfl)) ?_
      obtain ⟨v14,h15,hr⟩:=zaa hr
      refine zia rfl (zja (d:=36) rfl rfl (Wsa (F:=cU) rfl rfl rfl zka zua (fun _=> rfl) h15)) ?_
      refine zia rfl (zja (d:=37) rfl rfl (ywa rfl zka zua zDa)) ?_
      refine zia rfl (jma (d:=38) rfl rfl (vEa (F:=cS) (l:=([v14]:List Str)) kva zDa rfl (fun _=> rfl) rfl rfl)) ?_
      obtain ⟨v16,h17,hr⟩:=zaa hr
      refine zia rfl (kHa (k:=39) (F:=cS) (l:=s1.2.2) (xs:=(([v14]:List Str))) (lim:=8796093022208) rfl rfl rfl rfl kva zDa rfl rfl (fun _=> rfl) rfl h17) ?_
      refine zia rfl (zja (d:=4) rfl rfl zBa) ?_
      refine zwa ?_
      refine zma ?_
      refine zpa ?_
      refine zia rfl (zja (d:=40) rfl rfl zqa) ?_
      refine zia rfl (zja (d:=41) rfl rfl (jIa rfl rfl)) ?_
      refine zia rfl (zja (d:=5) rfl rfl zBa) ?_
      refine zwa ?_
      refine k0a ?_
      cases hr
      exact zIa _ rfl (zda rfl (zda rfl (zda rfl (zda rfl zva)))) (zba rfl zha)
     ·replace hr:=vBa c13 hr
      refine vWa ?_
      refine k0a ?_
      cases hr
      exact zIa _ rfl (zda rfl (zda rfl (zda rfl (zda rfl zva)))) (zba rfl zha)
   ·rintro _ rfl
    have hr:=hy
    clear hx hy
    refine zpa ?_
    refine zia rfl (zja (d:=11) rfl rfl zqa) ?_
    refine zia rfl (zja (d:=12) rfl rfl (jIa rfl rfl)) ?_
    refine zia rfl (zja (d:=6) rfl rfl zBa) ?_
    refine zwa ?_
    cases hr
    exact ⟨rfl,(zda rfl (zda rfl (zda rfl (zda rfl zva)))),(zba rfl zha)⟩
  ·replace hr:=vBa c4 hr
   refine Wqa ?_
   refine Vha ?_
   cases hr
   exact ⟨by simp,rfl,(zda rfl (zda rfl (zda rfl zva))),(zba rfl zha)⟩
 ·intro e fr2 st2 hq
  obtain ⟨rfl,hf,hs⟩:=hq
  refine j6a ?_
  refine zma ?_
  refine WCa hf hs ?_
  refine zNa ?_
  obtain ⟨v18,h19,hr⟩:=zaa hr
  refine WHa 5 [(2, .hs 1004 0),(45, .l cU v18),(44, .i b2.1),(43, .l cU a0),(42, .hs 1004 0)] mixed (by kernel_rfl) rfl rfl (.run (.plain rfl) (qda zqa) (.run (.plain rfl) (qda zqa) (.run (.plain rfl) (qda zqa) (.run (.plain rfl) (qda (WFa (F:=cU) rfl rfl zka zua (fun _=> rfl) h19)) (.run (.plain rfl) (qda zBa) .nil))))) rfl ?_
  refine zia rfl (zja (d:=3) rfl rfl zBa) ?_
  refine zwa ?_
  refine zma ?_
  refine vba (d:=2) (F:=cS) (l:=b2.2) rfl rfl ?_
  refine yda ?_
  cases hr
  exact zrb rfl (.cons (wJa rfl) (.cons (wJa rfl) .nil)) rfl
theorem kob (a0:Str) (r:Int) (hr:KBa a0=some r):Run Tryz.prog 63 [.s a0] (.i r):=by
 unfold KBa at hr
 refine rf (fn:=Tryz.f63) ⟨Tryz.func63,rfl,by kernel_rfl⟩ rfl (fun _=> rfl) fun g0 hg=> ?_
 refine rn tk 6 rfl ?_
 refine jb hr (fun j1=> [(0, .s a0),(18, .bo j1)]) (fun j1=> []) (fun j1 hr=> ?_) (fun j1 hr=> ?_)
 ·
  refine rn tk 3 rfl ?_
  obtain ⟨v2,h3,hr⟩:=zaa hr
  refine cl (qla _ _ _ _ h3) rfl rfl ?_
  refine rn tk 2 rfl ?_
  refine bs 9 hr rfl (fun c4 hr=> ?_) (fun c4 hr=> ?_)
  ·
   refine rn tk 10 rfl ?_
   cases hr
   exact jn _ rfl rfl rfl
  ·
   refine rn tk 4 rfl ?_
   refine bs 13 hr rfl (fun c5 hr=> ?_) (fun c5 hr=> ?_)
   ·
    refine rn tk 1 rfl ?_
    obtain ⟨v6,h7,hr⟩:=zaa hr
    refine ug rfl rfl rfl ?_
    refine ws tk h7 rfl rfl rfl rfl ?_
    refine rn tk 4 rfl ?_
    cases hr
    exact jn _ rfl rfl rfl
   ·
    refine rn tk 6 rfl ?_
    cases hr
    exact jn _ rfl rfl rfl
 ·
  refine ac 18 hr rfl (fun c8 hr=> ?_) (fun c8 hr=> ?_)
  ·
   refine rn tk 7 rfl ?_
   cases hr
   exact kr tk (.inr rfl) rfl rfl
  ·
   refine rn tk 14 rfl ?_
   refine al2 hr (fun s9=> [(0, .s a0),(3, .i s9.1),(4, .i s9.2)]) (fun s9=> []) (.exit 0) (fun b10=> [(3, .i b10)]) (fun b10=> []) .ret (fun b11=> [(2, .i b11)]) (fun b11=> []) rfl rfl (fun s9 x13 hr=> ?_) (fun b10 hr=> ?_) (fun b11 hr=> ?_)
   ·
    unfold y0a at hr
    refine rn tk 9 rfl ?_
    refine ac 22 hr rfl (fun c14 hr=> ?_) (fun c14 hr=> ?_)
    ·
     refine rn tk 9 rfl ?_
     obtain ⟨v15,h16,hr⟩:=zaa hr
     refine ws tk h16 rfl rfl rfl rfl ?_
     refine wu tk rfl rfl rfl ?_
     obtain ⟨v17,h18,hr⟩:=zaa hr
     refine cl (qla _ _ _ _ h18) rfl rfl ?_
     refine rn tk 3 rfl ?_
     refine ac 30 hr rfl (fun c19 hr=> ?_) (fun c19 hr=> ?_)
     ·
      refine rn tk 9 rfl ?_
      cases hr
      exact ato rfl rfl rfl rfl
     ·
      refine rn tk 7 rfl ?_
      obtain ⟨v20,h21,hr⟩:=zaa hr
      refine ws tk h21 rfl rfl rfl rfl ?_
      refine wq (ev_u8sub (a:=v20) (b:=(48:UInt8)) rfl rfl) rfl rfl rfl ?_
      refine wu tk rfl rfl rfl ?_
      refine rn tk 10 rfl ?_
      cases hr
      exact atc rfl rfl
    ·
     refine rn tk 2 rfl ?_
     cases hr
     exact ato rfl rfl rfl rfl
   ·
    refine rn tk 9 rfl ?_
    cases hr
    exact kr tk (.inr rfl) rfl rfl
   ·
    refine rn tk 2 rfl ?_
    cases hr
    exact kr tk (.inr rfl) rfl rfl
theorem Jya (a0:Str) (r:Bool) (hr:VVa a0=some r):Run Tryz.prog 62 [.s a0] (.bo r):=by
 unfold VVa at hr
 refine rf (fn:=Tryz.f62) ⟨Tryz.func62,rfl,by kernel_rfl⟩ rfl (fun _=> rfl) fun g0 hg=> ?_
 refine rn tk 12 rfl ?_
 refine al2 hr (fun s1=> [(0, .s a0),(3, .i s1)]) (fun s1=> []) (.exit 0) (fun b2=> []) (fun b2=> []) .ret (fun b3=> [(2, .bo b3)]) (fun b3=> []) rfl rfl (fun s1 x5 hr=> ?_) (fun b2 hr=> ?_) (fun b3 hr=> ?_)
 ·
  unfold QQa at hr
  refine rn tk 9 rfl ?_
  refine ac 7 hr rfl (fun c6 hr=> ?_) (fun c6 hr=> ?_)
  ·
   refine rn tk 4 rfl ?_
   refine jb hr (fun j7=> [(0, .s a0),(3, .i s1),(19, .bo j7)]) (fun j7=> []) (fun j7 hr=> ?_) (fun j7 hr=> ?_)
   ·
    refine rn tk 3 rfl ?_
    obtain ⟨v8,h9,hr⟩:=zaa hr
    refine ws tk h9 rfl rfl rfl rfl ?_
    refine rn tk 2 rfl ?_
    refine bs 14 hr rfl (fun c10 hr=> ?_) (fun c10 hr=> ?_)
    ·
     refine rn tk 6 rfl ?_
     cases hr
     exact jn _ rfl rfl rfl
    ·
     refine rn tk 2 rfl ?_
     obtain ⟨v11,h12,hr⟩:=zaa hr
     refine ug rfl rfl rfl ?_
     refine ws tk h12 rfl rfl rfl rfl ?_
     refine rn tk 3 rfl ?_
     cases hr
     exact jn _ rfl rfl rfl
   ·
    refine ac 19 hr rfl (fun c13 hr=> ?_) (fun c13 hr=> ?_)
    ·
     refine rn tk 8 rfl ?_
     cases hr
     exact ato rfl rfl rfl rfl
    ·
     refine rn tk 8 rfl ?_
     cases hr
     exact atc rfl rfl
  ·
   refine rn tk 2 rfl ?_
   cases hr
   exact ato rfl rfl rfl rfl
 ·
  refine rn tk 8 rfl ?_
  cases hr
  exact kr tk (.inr rfl) rfl rfl
 ·
  refine rn tk 2 rfl ?_
  cases hr
  exact kr tk (.inr rfl) rfl rfl
theorem zkb (a0:List Str) (r:kba × Int × zza) (hr:Z3a a0=some r):Run Tryz.prog 41 [.l cS a0] (.tup [.agg [.i r.1.Code, .l cS r.1.Lines], .i r.2.1, .agg [.i r.2.2.Code, .i r.2.2.Index]]):=by
 unfold Z3a at hr
 refine rf (fn:=Tryz.f41) ⟨Tryz.func41,rfl,by kernel_rfl⟩ rfl (fun _=> rfl) fun g0 hg=> ?_
 refine rn tk 18 rfl ?_
 refine wn tk rfl rfl rfl ?_
 refine rn tk 3 rfl ?_
 refine ac 13 hr rfl (fun c1 hr=> ?_) (fun c1 hr=> ?_)
 ·
  refine rn tk 1 rfl ?_
  obtain ⟨v2,h3,hr⟩:=zaa hr
  refine dr 2 [(15, .agg [.i v2.Code, .i v2.Index]),(14, .agg [.i 0, .pv (.sl (some true) [])])] mixed (by kernel_rfl) rfl rfl (pq tk rfl (.plain rfl) (.run (.plain rfl) (kda (kya 2 ((-1)) v2 h3) rfl) .nil)) rfl ?_
  refine rn tk 7 rfl ?_
  cases hr
  exact kr tk (.inr rfl) rfl rfl
 ·
  refine rn tk 6 rfl ?_
  refine zWa 1006 (o:=6) (j:=1) 9 1 rfl rfl rfl rfl (hO ?_)
  refine rn tk 1 rfl ?_
  refine zWa 2006 (o:=6) (j:=1) 9 1 rfl rfl rfl rfl (hO ?_)
  refine rn tk 9 rfl ?_
  refine al2 hr (fun s4=> [(0, .l cS a0),(2, .ptr 2 0),(4, .ptr 4 0),(5, .ptr 5 0),(6, .ptr 6 0),(7, .i s4.1)]) (fun s4=> [(2006, .row 9 false 1 (List.map cS s4.2.1)),(6, .cells [.i s4.2.2, .hs 2006 0]),(5, .cells [.i 0, .l cS ([])]),(4, .cells [.i 0, .i 0]),(2, .cells [.i 0, .l cS ([])])]) (.exit 0) (fun b5=> [(2, .ptr 2 0),(4, .ptr 4 0),(5, .ptr 5 0)]) (fun b5=> [(5, .cells [.i 0, .l cS ([])]),(4, .cells [.i 0, .i 0]),(2, .cells [.i 0, .l cS ([])])]) .ret (fun b6=> [(2, .ptr 2 0),(3, .i b6.2.1),(4, .ptr 4 0)]) (fun b6=> [(2, .cells [.i b6.1.Code, .l cS b6.1.Lines]),(4, .cells [.i b6.2.2.Code, .i b6.2.2.Index])]) rfl rfl (fun s4 x8 hr=> ?_) (fun b5 hr=> ?_) (fun b6 hr=> ?_)
  ·
   unfold jsa at hr
   refine rn tk 5 rfl ?_
   refine wn tk rfl rfl rfl ?_
   refine rn tk 3 rfl ?_
   refine ac 20 hr rfl (fun c9 hr=> ?_) (fun c9 hr=> ?_)
   ·
    refine rn tk 8 rfl ?_
    obtain ⟨v10,h11,hr⟩:=zaa hr
    refine wi tk h11 rfl rfl rfl rfl rfl ?_
    refine rn tk 11 rfl ?_
    refine ac 28 hr rfl (fun c12 hr=> ?_) (fun c12 hr=> ?_)
    ·
     refine rn tk 1 rfl ?_
     obtain ⟨v13,h14,hr⟩:=zaa hr
     refine dr 3 [(31, .agg [.i v13.Code, .i v13.Index]),(30, .i s4.1),(29, .agg [.i 0, .l cS ([])])] mixed (by kernel_rfl) rfl rfl (pq tk rfl (.plain rfl) (pq tk rfl (.plain rfl) (.run (.plain rfl) (kda (kya 2 s4.1 v13 h14) rfl) .nil))) rfl ?_
     refine rn tk 9 rfl ?_
     cases hr
     exact ato rfl rfl rfl rfl
    ·
     refine rn tk 7 rfl ?_
     refine jb hr (fun j15=> [(0, .l cS a0),(2, .ptr 2 0),(4, .ptr 4 0),(5, .ptr 5 0),(6, .ptr 6 0),(7, .i s4.1),(8, .s v10),(9, .i j15)]) (fun j15=> [(2006, .row 9 false 1 (List.map cS s4.2.1)),(6, .cells [.i s4.2.2, .hs 2006 0]),(5, .cells [.i 0, .l cS ([])]),(4, .cells [.i 0, .i 0]),(2, .cells [.i 0, .l cS ([])])]) (fun j15 hr=> ?_) (fun j15 hr=> ?_)
     ·
      refine jb hr (fun j16=> [(0, .l cS a0),(2, .ptr 2 0),(4, .ptr 4 0),(5, .ptr 5 0),(6, .ptr 6 0),(7, .i s4.1),(8, .s v10),(9, .i ((-1))),(49, .bo j16)]) (fun j16=> [(2006, .row 9 false 1 (List.map cS s4.2.1)),(6, .cells [.i s4.2.2, .hs 2006 0]),(5, .cells [.i 0, .l cS ([])]),(4, .cells [.i 0, .i 0]),(2, .cells [.i 0, .l cS ([])])]) (fun j16 hr=> ?_) (fun j16 hr=> ?_)
      ·
       refine rn tk 5 rfl ?_
       refine bs 35 hr rfl (fun c17 hr=> ?_) (fun c17 hr=> ?_)
       ·
        refine rn tk 1 rfl ?_
        obtain ⟨v18,h19,hr⟩:=zaa hr
        refine ug rfl rfl rfl ?_
        refine ws tk h19 rfl rfl rfl rfl ?_
        refine rn tk 2 rfl ?_
        refine bs 39 hr rfl (fun c20 hr=> ?_) (fun c20 hr=> ?_)
        ·
         refine rn tk 7 rfl ?_
         obtain ⟨v21,h22,hr⟩:=zaa hr
         refine ug rfl rfl rfl ?_
         refine cl (Jya _ _ h22) rfl rfl ?_
         refine rn tk 3 rfl ?_
         cases hr
         exact jn _ rfl rfl rfl
        ·
         refine rn tk 1 rfl ?_
         obtain ⟨v23,h24,hr⟩:=zaa hr
         refine ug rfl rfl rfl ?_
         refine ws tk h24 rfl rfl rfl rfl ?_
         refine rn tk 4 rfl ?_
         refine bs 45 hr rfl (fun c25 hr=> ?_) (fun c25 hr=> ?_)
         ·
          refine rn tk 1 rfl ?_
          obtain ⟨v26,h27,hr⟩:=zaa hr
          refine ug rfl rfl rfl ?_
          refine cl (Jya _ _ h27) rfl rfl ?_
          refine rn tk 3 rfl ?_
          cases hr
          exact jn _ rfl rfl rfl
         ·
          refine rn tk 5 rfl ?_
          cases hr
          exact jn _ rfl rfl rfl
       ·
        refine rn tk 15 rfl ?_
        cases hr
        exact jn _ rfl rfl rfl
      ·
       refine ac 49 hr rfl (fun c28 hr=> ?_) (fun c28 hr=> ?_)
       ·
        refine rn tk 2 rfl ?_
        obtain ⟨v29,h30,hr⟩:=zaa hr
        refine wscH tk h30 rfl rfl rfl rfl ?_
        obtain ⟨v31,h32,hr⟩:=zaa hr
        refine cl (kob _ _ h32) rfl rfl ?_
        refine rn tk 2 rfl ?_
        cases hr
        exact jn _ rfl rfl rfl
       ·
        refine rn tk 1 rfl ?_
        cases hr
        exact jn _ rfl rfl rfl
     ·
      refine rn tk 4 rfl ?_
      obtain ⟨v33,h34,hr⟩:=zaa hr
      refine cl (qla _ _ _ _ h34) rfl rfl ?_
      refine rn tk 3 rfl ?_
      refine ac 55 hr rfl (fun c35 hr=> ?_) (fun c35 hr=> ?_)
      ·
       refine rn tk 1 rfl ?_
       obtain ⟨v36,h37,hr⟩:=zaa hr
       refine dr 3 [(58, .agg [.i v36.Code, .i v36.Index]),(57, .i s4.1),(56, .agg [.i 0, .l cS ([])])] mixed (by kernel_rfl) rfl rfl (pq tk rfl (.plain rfl) (pq tk rfl (.plain rfl) (.run (.plain rfl) (kda (kya 11 s4.1 v36 h37) rfl) .nil))) rfl ?_
       refine rn tk 9 rfl ?_
       cases hr
       exact ato rfl rfl rfl rfl
      ·
       refine rn tk 10 rfl ?_
       refine ac 61 hr rfl (fun c38 hr=> ?_) (fun c38 hr=> ?_)
       ·
        refine rn tk 1 rfl ?_
        obtain ⟨v39,h40,hr⟩:=zaa hr
        refine dr 3 [(64, .agg [.i v39.Code, .i v39.Index]),(63, .i s4.1),(62, .agg [.i 0, .l cS ([])])] mixed (by kernel_rfl) rfl rfl (pq tk rfl (.plain rfl) (pq tk rfl (.plain rfl) (.run (.plain rfl) (kda (kya 1 s4.1 v39 h40) rfl) .nil))) rfl ?_
        refine rn tk 9 rfl ?_
        cases hr
        exact ato rfl rfl rfl rfl
       ·
        refine rn tk 3 rfl ?_
        refine jb hr (fun j41=> [(0, .l cS a0),(2, .ptr 2 0),(4, .ptr 4 0),(5, .ptr 5 0),(6, .ptr 6 0),(7, .i s4.1),(8, .s v10),(9, .i j15),(72, .bo j41)]) (fun j41=> [(2006, .row 9 false 1 (List.map cS s4.2.1)),(6, .cells [.i s4.2.2, .hs 2006 0]),(5, .cells [.i 0, .l cS ([])]),(4, .cells [.i 0, .i 0]),(2, .cells [.i 0, .l cS ([])])]) (fun j41 hr=> ?_) (fun j41 hr=> ?_)
        ·
         refine rn tk 4 rfl ?_
         refine bs 67 hr rfl (fun c42 hr=> ?_) (fun c42 hr=> ?_)
         ·
          refine rn tk 6 rfl ?_
          cases hr
          exact jn _ rfl rfl rfl
         ·
          refine rn tk 6 rfl ?_
          cases hr
          exact jn _ rfl rfl rfl
        ·
         refine ac 72 hr rfl (fun c43 hr=> ?_) (fun c43 hr=> ?_)
         ·
          refine rn tk 1 rfl ?_
          obtain ⟨v44,h45,hr⟩:=zaa hr
          refine dr 3 [(75, .agg [.i v44.Code, .i v44.Index]),(74, .i s4.1),(73, .agg [.i 0, .l cS ([])])] mixed (by kernel_rfl) rfl rfl (pq tk rfl (.plain rfl) (pq tk rfl (.plain rfl) (.run (.plain rfl) (kda (kya 5 s4.1 v44 h45) rfl) .nil))) rfl ?_
          refine rn tk 9 rfl ?_
          cases hr
          exact ato rfl rfl rfl rfl
         ·
          refine rn tk 10 rfl ?_
          obtain ⟨v46,h47,hr⟩:=zaa hr
          refine dr 5 [(82, .l cS (([v46]:List Str))),(81, .s v46),(80, .s v10),(79, .hs 2006 0),(78, .ptr 6 1)] mixed (by kernel_rfl) rfl rfl (pq tk rfl (.plain rfl) (pq tk rfl (.plain rfl) (pq tk rfl (.plain rfl) (.run (.plain rfl) (qda (Wra rfl rfl zDa h47)) (.run (.plain rfl) (vEa (F:=cS) (l:=([v46]:List Str)) kva zDa rfl (fun _=> rfl) rfl rfl) .nil))))) rfl ?_
          obtain ⟨v48,h49,hr⟩:=zaa hr
          refine wa tk h49 rfl rfl rfl rfl (fun _=> rfl) rfl rfl ?_
          refine rn tk 7 rfl ?_
          obtain ⟨v50,h51,hr⟩:=zaa hr
          refine ws tk h51 rfl rfl rfl rfl ?_
          refine rn tk 3 rfl ?_
          refine ac 87 hr rfl (fun c52 hr=> ?_) (fun c52 hr=> ?_)
          ·
           refine rn tk 11 rfl ?_
           refine Kua (o:=2) (j:=1) (F:=cS) (l:=v48) rfl rfl rfl (hC ?_)
           refine rn tk 3 rfl ?_
           cases hr
           exact ato rfl rfl rfl rfl
          ·
           refine rn tk 8 rfl ?_
           cases hr
           exact atc rfl rfl
   ·
    refine rn tk 2 rfl ?_
    cases hr
    exact ato rfl rfl rfl rfl
  ·
   refine rn tk 3 rfl ?_
   obtain ⟨v53,h54,hr⟩:=zaa hr
   refine dr 2 [(93, .agg [.i v53.Code, .i v53.Index]),(92, .agg [.i 0, .l cS ([])])] mixed (by kernel_rfl) rfl rfl (pq tk rfl (.plain rfl) (.run (.plain rfl) (kda (kya 9 ((-2)) v53 h54) rfl) .nil)) rfl ?_
   refine rn tk 6 rfl ?_
   cases hr
   exact kr tk (.inr rfl) rfl rfl
  ·
   refine rn tk 2 rfl ?_
   cases hr
   exact kr tk (.inr rfl) rfl rfl
theorem kpb (a0:zla) (a1:List UInt8) (r:zea) (hr:QRa a0 a1=some r):RunS Tryz.prog 17 [.agg [.s a0.Name, .s a0.Mail.Envelope.From, .l zca.pc a0.Mail.Envelope.To, .s a0.Mail.Envelope.Id, .l zga.pc a0.Mail.Message.Fields, .l cU a0.Mail.Message.Body, .bo a0.Pipelined, .l cU a0.Buffer, .i a0.Expected, .bo a0.Whole, .bo a0.Done, .l cI a0.Results], .l cU a1] [] (.agg [.s r.C.Name, .s r.C.Mail.Envelope.From, .l zca.pc r.C.Mail.Envelope.To, .s r.C.Mail.Envelope.Id, .l zga.pc r.C.Mail.Message.Fields, .l cU r.C.Mail.Message.Body, .bo r.C.Pipelined, .l cU r.C.Buffer, .i r.C.Expected, .bo r.C.Whole, .bo r.C.Done, .l cI r.C.Results, .hs 90001013 0]) [(90001013, .row 5 false 1 (List.map cU r.Out))] 90001000 [90001013]:=by
 unfold QRa at hr
 refine rfS (fn:=Tryz.f17) (H:=90001999) .any ⟨Tryz.func17,rfl,by kernel_rfl⟩ rfl (hasT rfl) (.inr ⟨rfl,rfl⟩) rfl rfl rfl rfl fun g0 hg S sg T=> ?_
 refine rn tk 4 rfl ?_
 refine zWa 1004 (o:=4) (j:=12) 5 1 rfl rfl rfl rfl (hO ?_)
 refine rn tk 7 rfl ?_
 refine zWa 1005 (o:=5) (j:=12) 5 1 rfl rfl rfl rfl (hO ?_)
 refine rn tk 1 rfl ?_
 refine zWa 2005 (o:=5) (j:=12) 5 1 rfl rfl rfl rfl (hO ?_)
 refine JSa 2005 90001013 rfl rfl rfl rfl rfl rfl (hO ?_)
 refine rn tk 5 rfl ?_
 refine ksa 1006 (d:=6) 5 1 rfl rfl rfl (hO ?_)
 refine rn tk 7 rfl ?_
 obtain ⟨v1,h2,hr⟩:=zaa hr
 refine wa tk h2 rfl rfl rfl rfl (fun _=> rfl) rfl rfl ?_
 refine rn tk 7 rfl ?_
 obtain ⟨v3,h4,hr⟩:=zaa hr
 refine wa tk h4 rfl rfl rfl rfl (fun _=> rfl) rfl rfl ?_
 refine rn tk 5 rfl ?_
 refine al2 hr (fun s5=> [(4, .ptr 4 0),(5, .ptr 5 0),(6, .hs 1006 0)]) (fun s5=> [(1006, .row 5 false 1 (List.map cU s5.2)),(90001013, .row 5 false 1 (List.map cU s5.1.Out)),(5, .cells [.s s5.1.C.Name, .s s5.1.C.Mail.Envelope.From, .l zca.pc s5.1.C.Mail.Envelope.To, .s s5.1.C.Mail.Envelope.Id, .l zga.pc s5.1.C.Mail.Message.Fields, .l cU s5.1.C.Mail.Message.Body, .bo s5.1.C.Pipelined, .l cU s5.1.C.Buffer, .i s5.1.C.Expected, .bo s5.1.C.Whole, .bo s5.1.C.Done, .l cI s5.1.C.Results, .hs 90001013 0]),(1004, .row 5 false 1 (List.map cU (([]:List UInt8)))),(4, .cells [.s (([]:Str)), .s (([]:Str)), .l zca.pc ([]), .s (([]:Str)), .l zga.pc ([]), .l cU ([]), .bo false, .l cU ([]), .i 0, .bo false, .bo false, .l cI ([]), .hs 1004 0]),(90001999, .hold (.any) (T.getD 0 undef))]) (.exit 0) (fun b6=> [(4, .ptr 4 0),(5, .ptr 5 0)]) (fun b6=> [(5, .cells [.s b6.C.Name, .s b6.C.Mail.Envelope.From, .l zca.pc b6.C.Mail.Envelope.To, .s b6.C.Mail.Envelope.Id, .l zga.pc b6.C.Mail.Message.Fields, .l cU b6.C.Mail.Message.Body, .bo b6.C.Pipelined, .l cU b6.C.Buffer, .i b6.C.Expected, .bo b6.C.Whole, .bo b6.C.Done, .l cI b6.C.Results, .hs 90001013 0]),(90001013, .row 5 false 1 (List.map cU b6.Out)),(1004, .row 5 false 1 (List.map cU (([]:List UInt8)))),(4, .cells [.s (([]:Str)), .s (([]:Str)), .l zca.pc ([]), .s (([]:Str)), .l zga.pc ([]), .l cU ([]), .bo false, .l cU ([]), .i 0, .bo false, .bo false, .l cI ([]), .hs 1004 0]),(90001999, .hold (.any) (T.getD 0 undef))]) .ret (fun b7=> [(4, .ptr 4 0)]) (fun b7=> [(4, .cells [.s b7.C.Name, .s b7.C.Mail.Envelope.From, .l zca.pc b7.C.Mail.Envelope.To, .s b7.C.Mail.Envelope.Id, .l zga.pc b7.C.Mail.Message.Fields, .l cU b7.C.Mail.Message.Body, .bo b7.C.Pipelined, .l cU b7.C.Buffer, .i b7.C.Expected, .bo b7.C.Whole, .bo b7.C.Done, .l cI b7.C.Results, .hs 90001013 0]),(90001013, .row 5 false 1 (List.map cU b7.Out)),(90001999, .hold (.any) (T.getD 0 undef))]) rfl rfl (fun s5 x9 hr=> ?_) (fun b6 hr=> ?_) (fun b7 hr=> ?_)
 ·
  unfold qqa at hr
  refine rn tk 9 rfl ?_
  refine ac 27 hr rfl (fun c10 hr=> ?_) (fun c10 hr=> ?_)
  ·
   refine rn tk 6 rfl ?_
   refine j9a (d:=29) (F:=cU) (l:=s5.2) rfl rfl (hO ?_)
   obtain ⟨v11,h12,hr⟩:=zaa hr
   refine cl (qtb _ _ h12) rfl rfl ?_
   refine rn tk 24 rfl ?_
   refine al2 hr (fun s13=> [(4, .ptr 4 0),(5, .ptr 5 0),(6, .hs 1006 0),(7, .l cS v11.1),(9, .bo s13.1),(10, .i s13.2.1),(11, .i s13.2.2.1)]) (fun s13=> [(1006, .row 5 false 1 (List.map cU s13.2.2.2.2)),(90001013, .row 5 false 1 (List.map cU s13.2.2.2.1.Out)),(5, .cells [.s s13.2.2.2.1.C.Name, .s s13.2.2.2.1.C.Mail.Envelope.From, .l zca.pc s13.2.2.2.1.C.Mail.Envelope.To, .s s13.2.2.2.1.C.Mail.Envelope.Id, .l zga.pc s13.2.2.2.1.C.Mail.Message.Fields, .l cU s13.2.2.2.1.C.Mail.Message.Body, .bo s13.2.2.2.1.C.Pipelined, .l cU s13.2.2.2.1.C.Buffer, .i s13.2.2.2.1.C.Expected, .bo s13.2.2.2.1.C.Whole, .bo s13.2.2.2.1.C.Done, .l cI s13.2.2.2.1.C.Results, .hs 90001013 0]),(1004, .row 5 false 1 (List.map cU (([]:List UInt8)))),(4, .cells [.s (([]:Str)), .s (([]:Str)), .l zca.pc ([]), .s (([]:Str)), .l zga.pc ([]), .l cU ([]), .bo false, .l cU ([]), .i 0, .bo false, .bo false, .l cI ([]), .hs 1004 0]),(90001999, .hold (.any) (T.getD 0 undef))]) (.exit 2) (fun b14=> [(4, .ptr 4 0),(5, .ptr 5 0),(6, .hs 1006 0),(9, .bo b14.1)]) (fun b14=> [(5, .cells [.s b14.2.1.C.Name, .s b14.2.1.C.Mail.Envelope.From, .l zca.pc b14.2.1.C.Mail.Envelope.To, .s b14.2.1.C.Mail.Envelope.Id, .l zga.pc b14.2.1.C.Mail.Message.Fields, .l cU b14.2.1.C.Mail.Message.Body, .bo b14.2.1.C.Pipelined, .l cU b14.2.1.C.Buffer, .i b14.2.1.C.Expected, .bo b14.2.1.C.Whole, .bo b14.2.1.C.Done, .l cI b14.2.1.C.Results, .hs 90001013 0]),(90001013, .row 5 false 1 (List.map cU b14.2.1.Out)),(1006, .row 5 false 1 (List.map cU b14.2.2)),(1004, .row 5 false 1 (List.map cU (([]:List UInt8)))),(4, .cells [.s (([]:Str)), .s (([]:Str)), .l zca.pc ([]), .s (([]:Str)), .l zga.pc ([]), .l cU ([]), .bo false, .l cU ([]), .i 0, .bo false, .bo false, .l cI ([]), .hs 1004 0]),(90001999, .hold (.any) (T.getD 0 undef))]) .ret (fun b15=> [(4, .ptr 4 0)]) (fun b15=> [(4, .cells [.s b15.C.Name, .s b15.C.Mail.Envelope.From, .l zca.pc b15.C.Mail.Envelope.To, .s b15.C.Mail.Envelope.Id, .l zga.pc b15.C.Mail.Message.Fields, .l cU b15.C.Mail.Message.Body, .bo b15.C.Pipelined, .l cU b15.C.Buffer, .i b15.C.Expected, .bo b15.C.Whole, .bo b15.C.Done, .l cI b15.C.Results, .hs 90001013 0]),(90001013, .row 5 false 1 (List.map cU b15.Out)),(90001999, .hold (.any) (T.getD 0 undef))]) rfl rfl (fun s13 x17 hr=> ?_) (fun b14 hr=> ?_) (fun b15 hr=> ?_)
   ·
    unfold qpa at hr
    refine rn tk 1 rfl ?_
    refine jb hr (fun j18=> [(4, .ptr 4 0),(5, .ptr 5 0),(6, .hs 1006 0),(7, .l cS v11.1),(9, .bo s13.1),(10, .i s13.2.1),(11, .i s13.2.2.1),(40, .bo j18)]) (fun j18=> [(1006, .row 5 false 1 (List.map cU s13.2.2.2.2)),(90001013, .row 5 false 1 (List.map cU s13.2.2.2.1.Out)),(5, .cells [.s s13.2.2.2.1.C.Name, .s s13.2.2.2.1.C.Mail.Envelope.From, .l zca.pc s13.2.2.2.1.C.Mail.Envelope.To, .s s13.2.2.2.1.C.Mail.Envelope.Id, .l zga.pc s13.2.2.2.1.C.Mail.Message.Fields, .l cU s13.2.2.2.1.C.Mail.Message.Body, .bo s13.2.2.2.1.C.Pipelined, .l cU s13.2.2.2.1.C.Buffer, .i s13.2.2.2.1.C.Expected, .bo s13.2.2.2.1.C.Whole, .bo s13.2.2.2.1.C.Done, .l cI s13.2.2.2.1.C.Results, .hs 90001013 0]),(1004, .row 5 false 1 (List.map cU (([]:List UInt8)))),(4, .cells [.s (([]:Str)), .s (([]:Str)), .l zca.pc ([]), .s (([]:Str)), .l zga.pc ([]), .l cU ([]), .bo false, .l cU ([]), .i 0, .bo false, .bo false, .l cI ([]), .hs 1004 0]),(90001999, .hold (.any) (T.getD 0 undef))]) (fun j18 hr=> ?_) (fun j18 hr=> ?_)
    ·
     refine rn tk 3 rfl ?_
     refine wn tk rfl rfl rfl ?_
     refine rn tk 2 rfl ?_
     refine bs 37 hr rfl (fun c19 hr=> ?_) (fun c19 hr=> ?_)
     ·
      refine rn tk 4 rfl ?_
      cases hr
      exact jn _ rfl rfl rfl
     ·
      refine rn tk 4 rfl ?_
      cases hr
      exact jn _ rfl rfl rfl
    ·
     refine ac 40 hr rfl (fun c20 hr=> ?_) (fun c20 hr=> ?_)
     ·
      refine rn tk 2 rfl ?_
      refine jk (fun j21=> [(4, .ptr 4 0),(5, .ptr 5 0),(6, .hs 1006 0),(7, .l cS v11.1),(9, .bo j21.1),(10, .i j21.2.1),(11, .i s13.2.2.1)]) (fun j21=> [(5, .cells [.s j21.2.2.1.C.Name, .s j21.2.2.1.C.Mail.Envelope.From, .l zca.pc j21.2.2.1.C.Mail.Envelope.To, .s j21.2.2.1.C.Mail.Envelope.Id, .l zga.pc j21.2.2.1.C.Mail.Message.Fields, .l cU j21.2.2.1.C.Mail.Message.Body, .bo j21.2.2.1.C.Pipelined, .l cU j21.2.2.1.C.Buffer, .i j21.2.2.1.C.Expected, .bo j21.2.2.1.C.Whole, .bo j21.2.2.1.C.Done, .l cI j21.2.2.1.C.Results, .hs 90001013 0]),(90001013, .row 5 false 1 (List.map cU j21.2.2.1.Out)),(1006, .row 5 false 1 (List.map cU j21.2.2.2)),(1004, .row 5 false 1 (List.map cU (([]:List UInt8)))),(4, .cells [.s (([]:Str)), .s (([]:Str)), .l zca.pc ([]), .s (([]:Str)), .l zga.pc ([]), .l cU ([]), .bo false, .l cU ([]), .i 0, .bo false, .bo false, .l cI ([]), .hs 1004 0]),(90001999, .hold (.any) (T.getD 0 undef))]) (fun j21=> y2a s13 j21=some x17) ?_ ?_
      ·
       refine rn tk 6 rfl ?_
       obtain ⟨v22,h23,hr⟩:=zaa hr
       refine wi tk h23 rfl rfl rfl rfl rfl ?_
       refine rn tk 12 rfl ?_
       obtain ⟨v24,h25,hr⟩:=zaa hr
       refine wlH tk h25 rfl rfl rfl (fun _=> rfl) rfl ?_
       obtain ⟨v26,h27,hr⟩:=zaa hr
       refine cl (zkb _ _ h27) rfl rfl ?_
       refine rn tk 12 rfl ?_
       refine jb hr (fun j28=> [(4, .ptr 4 0),(5, .ptr 5 0),(6, .hs 1006 0),(7, .l cS v11.1),(9, .bo s13.1),(10, .i j28.1),(11, .i s13.2.2.1),(12, .ptr 12 0),(14, .ptr 14 0),(75, .bo j28.2)]) (fun j28=> [(14, .cells [.i v26.2.2.Code, .i v26.2.2.Index]),(12, .cells [.i v26.1.Code, .l cS v26.1.Lines]),(1006, .row 5 false 1 (List.map cU s13.2.2.2.2)),(90001013, .row 5 false 1 (List.map cU s13.2.2.2.1.Out)),(5, .cells [.s s13.2.2.2.1.C.Name, .s s13.2.2.2.1.C.Mail.Envelope.From, .l zca.pc s13.2.2.2.1.C.Mail.Envelope.To, .s s13.2.2.2.1.C.Mail.Envelope.Id, .l zga.pc s13.2.2.2.1.C.Mail.Message.Fields, .l cU s13.2.2.2.1.C.Mail.Message.Body, .bo s13.2.2.2.1.C.Pipelined, .l cU s13.2.2.2.1.C.Buffer, .i s13.2.2.2.1.C.Expected, .bo s13.2.2.2.1.C.Whole, .bo s13.2.2.2.1.C.Done, .l cI s13.2.2.2.1.C.Results, .hs 90001013 0]),(1004, .row 5 false 1 (List.map cU (([]:List UInt8)))),(4, .cells [.s (([]:Str)), .s (([]:Str)), .l zca.pc ([]), .s (([]:Str)), .l zga.pc ([]), .l cU ([]), .bo false, .l cU ([]), .i 0, .bo false, .bo false, .l cI ([]), .hs 1004 0]),(90001999, .hold (.any) (T.getD 0 undef))]) (fun j28 hr=> ?_) (fun j28 hr=> ?_)
       ·
        refine rn tk 3 rfl ?_
        obtain ⟨v29,h30,hr⟩:=zaa hr
        refine wi tk h30 rfl rfl rfl rfl rfl ?_
        refine rn tk 4 rfl ?_
        refine bs 66 hr rfl (fun c31 hr=> ?_) (fun c31 hr=> ?_)
        ·
         refine rn tk 10 rfl ?_
         cases hr
         exact jn _ rfl rfl rfl
        ·
         refine rn tk 4 rfl ?_
         refine bs 70 hr rfl (fun c32 hr=> ?_) (fun c32 hr=> ?_)
         ·
          refine rn tk 6 rfl ?_
          cases hr
          exact jn _ rfl rfl rfl
         ·
          refine rn tk 6 rfl ?_
          cases hr
          exact jn _ rfl rfl rfl
       ·
        refine ac 75 hr rfl (fun c33 hr=> ?_) (fun c33 hr=> ?_)
        ·
         refine rn tk 1 rfl ?_
         obtain ⟨v34,h35,hr⟩:=zaa hr
         refine drF 3 0 [(78, .agg [.s s13.2.2.2.1.C.Name, .s s13.2.2.2.1.C.Mail.Envelope.From, .l zca.pc s13.2.2.2.1.C.Mail.Envelope.To, .s s13.2.2.2.1.C.Mail.Envelope.Id, .l zga.pc s13.2.2.2.1.C.Mail.Message.Fields, .l cU s13.2.2.2.1.C.Mail.Message.Body, .bo s13.2.2.2.1.C.Pipelined, .l cU s13.2.2.2.1.C.Buffer, .i s13.2.2.2.1.C.Expected, .bo s13.2.2.2.1.C.Whole, .bo s13.2.2.2.1.C.Done, .l cI s13.2.2.2.1.C.Results]),(77, .ptr 5 0),(76, .agg [.s s13.2.2.2.1.C.Name, .s s13.2.2.2.1.C.Mail.Envelope.From, .l zca.pc s13.2.2.2.1.C.Mail.Envelope.To, .s s13.2.2.2.1.C.Mail.Envelope.Id, .l zga.pc s13.2.2.2.1.C.Mail.Message.Fields, .l cU s13.2.2.2.1.C.Mail.Message.Body, .bo s13.2.2.2.1.C.Pipelined, .l cU s13.2.2.2.1.C.Buffer, .i s13.2.2.2.1.C.Expected, .bo s13.2.2.2.1.C.Whole, .bo s13.2.2.2.1.C.Done, .l cI s13.2.2.2.1.C.Results, .hs 90001013 0])] [(78, .agg [.s s13.2.2.2.1.C.Name, .s s13.2.2.2.1.C.Mail.Envelope.From, .l zca.pc s13.2.2.2.1.C.Mail.Envelope.To, .s s13.2.2.2.1.C.Mail.Envelope.Id, .l zga.pc s13.2.2.2.1.C.Mail.Message.Fields, .l cU s13.2.2.2.1.C.Mail.Message.Body, .bo s13.2.2.2.1.C.Pipelined, .l cU s13.2.2.2.1.C.Buffer, .i s13.2.2.2.1.C.Expected, .bo s13.2.2.2.1.C.Whole, .bo s13.2.2.2.1.C.Done, .l cI s13.2.2.2.1.C.Results]),(77, .ptr 5 0),(76, .any)] [(4, .ptr 4 0),(76, .agg [.s s13.2.2.2.1.C.Name, .s s13.2.2.2.1.C.Mail.Envelope.From, .l zca.pc s13.2.2.2.1.C.Mail.Envelope.To, .s s13.2.2.2.1.C.Mail.Envelope.Id, .l zga.pc s13.2.2.2.1.C.Mail.Message.Fields, .l cU s13.2.2.2.1.C.Mail.Message.Body, .bo s13.2.2.2.1.C.Pipelined, .l cU s13.2.2.2.1.C.Buffer, .i s13.2.2.2.1.C.Expected, .bo s13.2.2.2.1.C.Whole, .bo s13.2.2.2.1.C.Done, .l cI s13.2.2.2.1.C.Results, .hs 90001013 0]),(79, .i v34)] [(14, .cells [.i v26.2.2.Code, .i v26.2.2.Index]),(12, .cells [.i v26.1.Code, .l cS v26.1.Lines]),(1006, .row 5 false 1 (List.map cU s13.2.2.2.2)),(90001013, .row 5 false 1 (List.map cU s13.2.2.2.1.Out)),(5, .cells [.s s13.2.2.2.1.C.Name, .s s13.2.2.2.1.C.Mail.Envelope.From, .l zca.pc s13.2.2.2.1.C.Mail.Envelope.To, .s s13.2.2.2.1.C.Mail.Envelope.Id, .l zga.pc s13.2.2.2.1.C.Mail.Message.Fields, .l cU s13.2.2.2.1.C.Mail.Message.Body, .bo s13.2.2.2.1.C.Pipelined, .l cU s13.2.2.2.1.C.Buffer, .i s13.2.2.2.1.C.Expected, .bo s13.2.2.2.1.C.Whole, .bo s13.2.2.2.1.C.Done, .l cI s13.2.2.2.1.C.Results, .hs 90001013 0]),(1004, .row 5 false 1 (List.map cU (([]:List UInt8)))),(4, .cells [.s (([]:Str)), .s (([]:Str)), .l zca.pc ([]), .s (([]:Str)), .l zga.pc ([]), .l cU ([]), .bo false, .l cU ([]), .i 0, .bo false, .bo false, .l cI ([]), .hs 1004 0]),(90001999, .hold (.any) (T.getD 0 undef))] mixed (by kernel_rfl) rfl rfl rfl rfl rfl (pqA tk rfl (.plain rfl) (pqA tk rfl (.plain rfl) (pqA tk rfl (.plain rfl) .nil))) rfl rfl rfl rfl rfl (fun hJ=> ?_) (fun hJ=> ?_) ?_
         ·
          refine cl (Zua _ _ h35) rfl rfl ?_
          exact hJ _ _ rfl rfl
         ·
          refine cl (Zua _ _ h35) rfl rfl ?_
          refine rn tk 1 rfl ?_
          exact hJ _ _ rfl rfl
         obtain ⟨v36,h37,hr⟩:=zaa hr
         refine wo (zya (k:=80) (Qwa s13.2.2.2.1 v34 v36 h37) rfl rfl (zba rfl zha)) rfl ?_
         refine rn tk 7 rfl ?_
         cases hr
         exact ato rfl rfl rfl rfl
        ·
         refine rn tk 9 rfl ?_
         refine ac 83 hr rfl (fun c38 hr=> ?_) (fun c38 hr=> ?_)
         ·
          refine rn tk 9 rfl ?_
          obtain ⟨v39,h40,hr⟩:=zaa hr
          refine wo (q8b (k:=86) (F:=cU) (l:=s13.2.2.2.2) rfl rfl rfl rfl zka zua h40) rfl ?_
          refine rn tk 7 rfl ?_
          refine wq (v1a rfl rfl rfl) rfl rfl rfl ?_
          obtain ⟨v41,h42,hr⟩:=zaa hr
          refine wo (zya (k:=91) (knb s13.2.2.2.1 ((iQuo v26.1.Code 100)) v41 h42) rfl rfl (zba rfl zha)) rfl ?_
          refine rn tk 3 rfl ?_
          exact jn ((true,j28.1,v41,v39)) hr rfl rfl
         ·
          refine rn tk 2 rfl ?_
          exact jn ((s13.1,j28.1,s13.2.2.2.1,s13.2.2.2.2)) hr rfl rfl
      ·
       intro j21 hr
       unfold y2a at hr
       refine rn tk 5 rfl ?_
       cases hr
       exact atc rfl rfl
     ·
      refine rn tk 2 rfl ?_
      cases hr
      exact ato rfl rfl rfl rfl
   ·
    refine rn tk 8 rfl ?_
    refine ac 93 hr rfl (fun c43 hr=> ?_) (fun c43 hr=> ?_)
    ·
     refine rn tk 6 rfl ?_
     refine WOa (o:=5) (j:=7) (F:=cU) (l:=b14.2.2) rfl rfl rfl (hO ?_)
     refine rn tk 10 rfl ?_
     cases hr
     exact ato rfl rfl rfl rfl
    ·
     refine rn tk 2 rfl ?_
     cases hr
     exact atc rfl rfl
   ·
    refine rn tk 3 rfl ?_
    cases hr
    exact ato rfl rfl rfl rfl
  ·
   refine rn tk 2 rfl ?_
   cases hr
   exact ato rfl rfl rfl rfl
 ·
  refine rn tk 16 rfl ?_
  cases hr
  exact krS tk (.inr rfl) rfl rfl (zba rfl (zba rfl zha))
 ·
  refine rn tk 2 rfl ?_
  cases hr
  exact krS tk (.inr rfl) rfl rfl (zba rfl (zba rfl zha))
theorem VOa (a0:zxa) (a1:zxa) (r:Bool) (hr:wya a0 a1=some r):Run Tryz.prog 51 [.agg [.l zga.pc a0.Fields, .l cU a0.Body], .agg [.l zga.pc a1.Fields, .l cU a1.Body]] (.bo r):=by
 unfold wya at hr
 refine rf (fn:=Tryz.f51) ⟨Tryz.func51,rfl,by kernel_rfl⟩ rfl (fun _=> rfl) fun g0 hg=> ?_
 refine rn tk 8 rfl ?_
 refine jb hr (fun j1=> [(2, .ptr 2 0),(3, .ptr 3 0),(21, .bo j1)]) (fun j1=> [(3, .cells [.l zga.pc a1.Fields, .l cU a1.Body]),(2, .cells [.l zga.pc a0.Fields, .l cU a0.Body])]) (fun j1 hr=> ?_) (fun j1 hr=> ?_)
 ·
  refine rn tk 3 rfl ?_
  refine wn tk rfl rfl rfl ?_
  refine rn tk 2 rfl ?_
  refine wn tk rfl rfl rfl ?_
  refine rn tk 2 rfl ?_
  refine bs 13 hr rfl (fun c2 hr=> ?_) (fun c2 hr=> ?_)
  ·
   refine rn tk 9 rfl ?_
   cases hr
   exact jn _ rfl rfl rfl
  ·
   refine rn tk 2 rfl ?_
   refine ug rfl rfl rfl ?_
   refine wb tk rfl rfl rfl ?_
   refine rn tk 2 rfl ?_
   refine ug rfl rfl rfl ?_
   refine wb tk rfl rfl rfl ?_
   refine rn tk 3 rfl ?_
   cases hr
   exact jn _ rfl rfl rfl
 ·
  refine ac 21 hr rfl (fun c3 hr=> ?_) (fun c3 hr=> ?_)
  ·
   refine rn tk 7 rfl ?_
   cases hr
   exact kr tk (.inr rfl) rfl rfl
  ·
   refine rn tk 9 rfl ?_
   refine al2 hr (fun s4=> [(2, .ptr 2 0),(3, .ptr 3 0),(5, .i s4)]) (fun s4=> [(3, .cells [.l zga.pc a1.Fields, .l cU a1.Body]),(2, .cells [.l zga.pc a0.Fields, .l cU a0.Body])]) (.exit 0) (fun b5=> []) (fun b5=> []) .ret (fun b6=> [(4, .bo b6)]) (fun b6=> []) rfl rfl (fun s4 x8 hr=> ?_) (fun b5 hr=> ?_) (fun b6 hr=> ?_)
   ·
    unfold vXa at hr
    refine rn tk 6 rfl ?_
    refine wn tk rfl rfl rfl ?_
    refine rn tk 3 rfl ?_
    refine ac 26 hr rfl (fun c9 hr=> ?_) (fun c9 hr=> ?_)
    ·
     refine rn tk 5 rfl ?_
     obtain ⟨v10,h11,hr⟩:=zaa hr
     obtain ⟨v12,h13,hr⟩:=zaa hr
     refine dr 10 [(38, .agg [.s v12.Name, .s v12.Value]),(37, .ep [pS v12.Name,pS v12.Value]),(36, .i s4),(35, .l zga.pc a1.Fields),(34, .ptr 3 0),(33, .agg [.s v10.Name, .s v10.Value]),(32, .ep [pS v10.Name,pS v10.Value]),(31, .i s4),(30, .l zga.pc a0.Fields),(29, .ptr 2 0)] mixed (by kernel_rfl) rfl rfl (pq tk rfl (.plain rfl) (pq tk rfl (.plain rfl) (pq tk rfl (.plain rfl) (.run (.plain rfl) (qda (wca (f:=zga.pc) rfl rfl kOa qha rfl h11)) (pq tk rfl (.plain rfl) (pq tk rfl (.plain rfl) (pq tk rfl (.plain rfl) (pq tk rfl (.plain rfl) (.run (.plain rfl) (qda (wca (f:=zga.pc) rfl rfl kOa qha rfl h13)) (pq tk rfl (.plain rfl) .nil)))))))))) rfl ?_
     refine wq (Zba rfl rfl qha JTa (.str rfl (by decide) zDa (.str rfl (by decide) zDa .nil))) rfl rfl rfl ?_
     refine rn tk 2 rfl ?_
     refine ac 39 hr rfl (fun c14 hr=> ?_) (fun c14 hr=> ?_)
     ·
      refine rn tk 8 rfl ?_
      cases hr
      exact ato rfl rfl rfl rfl
     ·
      refine rn tk 8 rfl ?_
      cases hr
      exact atc rfl rfl
    ·
     refine rn tk 2 rfl ?_
     cases hr
     exact ato rfl rfl rfl rfl
   ·
    refine rn tk 8 rfl ?_
    cases hr
    exact kr tk (.inr rfl) rfl rfl
   ·
    refine rn tk 2 rfl ?_
    cases hr
    exact kr tk (.inr rfl) rfl rfl
theorem YWa (a0:kea) (a1:kea) (r:Bool) (hr:jUa a0 a1=some r):Run Tryz.prog 28 [.agg [.s a0.Envelope.From, .l zca.pc a0.Envelope.To, .s a0.Envelope.Id, .l zga.pc a0.Message.Fields, .l cU a0.Message.Body], .agg [.s a1.Envelope.From, .l zca.pc a1.Envelope.To, .s a1.Envelope.Id, .l zga.pc a1.Message.Fields, .l cU a1.Message.Body]] (.bo r):=by
 unfold jUa at hr
 refine rf (fn:=Tryz.f28) ⟨Tryz.func28,rfl,by kernel_rfl⟩ rfl (fun _=> rfl) fun g0 hg=> ?_
 refine rn tk 8 rfl ?_
 refine jb hr (fun j1=> [(2, .ptr 2 0),(3, .ptr 3 0),(32, .bo j1)]) (fun j1=> [(3, .cells [.s a1.Envelope.From, .l zca.pc a1.Envelope.To, .s a1.Envelope.Id, .l zga.pc a1.Message.Fields, .l cU a1.Message.Body]),(2, .cells [.s a0.Envelope.From, .l zca.pc a0.Envelope.To, .s a0.Envelope.Id, .l zga.pc a0.Message.Fields, .l cU a0.Message.Body])]) (fun j1 hr=> ?_) (fun j1 hr=> ?_)
 ·
  refine rn tk 9 rfl ?_
  refine bs 13 hr rfl (fun c2 hr=> ?_) (fun c2 hr=> ?_)
  ·
   refine rn tk 20 rfl ?_
   cases hr
   exact jn _ rfl rfl rfl
  ·
   refine rn tk 9 rfl ?_
   refine bs 22 hr rfl (fun c3 hr=> ?_) (fun c3 hr=> ?_)
   ·
    refine rn tk 11 rfl ?_
    cases hr
    exact jn _ rfl rfl rfl
   ·
    refine rn tk 3 rfl ?_
    refine ug rfl rfl rfl ?_
    refine wn tk rfl rfl rfl ?_
    refine rn tk 3 rfl ?_
    refine ug rfl rfl rfl ?_
    refine wn tk rfl rfl rfl ?_
    refine rn tk 3 rfl ?_
    cases hr
    exact jn _ rfl rfl rfl
 ·
  refine ac 32 hr rfl (fun c4 hr=> ?_) (fun c4 hr=> ?_)
  ·
   refine rn tk 7 rfl ?_
   cases hr
   exact kr tk (.inr rfl) rfl rfl
  ·
   refine rn tk 9 rfl ?_
   refine al2 hr (fun s5=> [(2, .ptr 2 0),(3, .ptr 3 0),(5, .i s5)]) (fun s5=> [(3, .cells [.s a1.Envelope.From, .l zca.pc a1.Envelope.To, .s a1.Envelope.Id, .l zga.pc a1.Message.Fields, .l cU a1.Message.Body]),(2, .cells [.s a0.Envelope.From, .l zca.pc a0.Envelope.To, .s a0.Envelope.Id, .l zga.pc a0.Message.Fields, .l cU a0.Message.Body])]) (.exit 0) (fun b6=> [(2, .ptr 2 0),(3, .ptr 3 0)]) (fun b6=> [(3, .cells [.s a1.Envelope.From, .l zca.pc a1.Envelope.To, .s a1.Envelope.Id, .l zga.pc a1.Message.Fields, .l cU a1.Message.Body]),(2, .cells [.s a0.Envelope.From, .l zca.pc a0.Envelope.To, .s a0.Envelope.Id, .l zga.pc a0.Message.Fields, .l cU a0.Message.Body])]) .ret (fun b7=> [(4, .bo b7)]) (fun b7=> []) rfl rfl (fun s5 x9 hr=> ?_) (fun b6 hr=> ?_) (fun b7 hr=> ?_)
   ·
    unfold yqa at hr
    refine rn tk 7 rfl ?_
    refine wn tk rfl rfl rfl ?_
    refine rn tk 3 rfl ?_
    refine ac 38 hr rfl (fun c10 hr=> ?_) (fun c10 hr=> ?_)
    ·
     refine rn tk 5 rfl ?_
     obtain ⟨v11,h12,hr⟩:=zaa hr
     obtain ⟨v13,h14,hr⟩:=zaa hr
     refine dr 12 [(52, .agg [.s v13.Address, .i v13.Notify]),(51, .ep [pS v13.Address,pI v13.Notify]),(50, .i s5),(49, .l zca.pc a1.Envelope.To),(48, .ptr 3 1),(47, .ptr 3 0),(46, .agg [.s v11.Address, .i v11.Notify]),(45, .ep [pS v11.Address,pI v11.Notify]),(44, .i s5),(43, .l zca.pc a0.Envelope.To),(42, .ptr 2 1),(41, .ptr 2 0)] mixed (by kernel_rfl) rfl rfl (pq tk rfl (.plain rfl) (pq tk rfl (.plain rfl) (pq tk rfl (.plain rfl) (pq tk rfl (.plain rfl) (.run (.plain rfl) (qda (wca (f:=zca.pc) rfl rfl zLa zVa rfl h12)) (pq tk rfl (.plain rfl) (pq tk rfl (.plain rfl) (pq tk rfl (.plain rfl) (pq tk rfl (.plain rfl) (pq tk rfl (.plain rfl) (.run (.plain rfl) (qda (wca (f:=zca.pc) rfl rfl zLa zVa rfl h14)) (pq tk rfl (.plain rfl) .nil)))))))))))) rfl ?_
     refine wq (Zba rfl rfl zVa Vua (.str rfl (by decide) zDa (.int rfl (by decide) qia .nil))) rfl rfl rfl ?_
     refine rn tk 2 rfl ?_
     refine ac 53 hr rfl (fun c15 hr=> ?_) (fun c15 hr=> ?_)
     ·
      refine rn tk 8 rfl ?_
      cases hr
      exact ato rfl rfl rfl rfl
     ·
      refine rn tk 8 rfl ?_
      cases hr
      exact atc rfl rfl
    ·
     refine rn tk 2 rfl ?_
     cases hr
     exact ato rfl rfl rfl rfl
   ·
    refine rn tk 8 rfl ?_
    obtain ⟨v16,h17,hr⟩:=zaa hr
    refine cl (VOa _ _ _ h17) rfl rfl ?_
    refine rn tk 4 rfl ?_
    cases hr
    exact kr tk (.inr rfl) rfl rfl
   ·
    refine rn tk 2 rfl ?_
    cases hr
    exact kr tk (.inr rfl) rfl rfl
theorem qHa (a0:zla) (a1:zla) (r:Bool) (hr:z5a a0 a1=some r):Run Tryz.prog 12 [.agg [.s a0.Name, .s a0.Mail.Envelope.From, .l zca.pc a0.Mail.Envelope.To, .s a0.Mail.Envelope.Id, .l zga.pc a0.Mail.Message.Fields, .l cU a0.Mail.Message.Body, .bo a0.Pipelined, .l cU a0.Buffer, .i a0.Expected, .bo a0.Whole, .bo a0.Done, .l cI a0.Results], .agg [.s a1.Name, .s a1.Mail.Envelope.From, .l zca.pc a1.Mail.Envelope.To, .s a1.Mail.Envelope.Id, .l zga.pc a1.Mail.Message.Fields, .l cU a1.Mail.Message.Body, .bo a1.Pipelined, .l cU a1.Buffer, .i a1.Expected, .bo a1.Whole, .bo a1.Done, .l cI a1.Results]] (.bo r):=by
 unfold z5a at hr
 refine rf (fn:=Tryz.f12) ⟨Tryz.func12,rfl,by kernel_rfl⟩ rfl (fun _=> rfl) fun g0 hg=> ?_
 refine rn tk 7 rfl ?_
 refine jb hr (fun j1=> [(4, .bo j1)]) (fun j1=> []) (fun j1 hr=> ?_) (fun j1 hr=> ?_)
 ·
  refine rn tk 7 rfl ?_
  refine bs 10 hr rfl (fun c2 hr=> ?_) (fun c2 hr=> ?_)
  ·
   refine rn tk 7 rfl ?_
   refine bs 17 hr rfl (fun c3 hr=> ?_) (fun c3 hr=> ?_)
   ·
    refine rn tk 7 rfl ?_
    refine bs 24 hr rfl (fun c4 hr=> ?_) (fun c4 hr=> ?_)
    ·
     refine rn tk 7 rfl ?_
     refine bs 31 hr rfl (fun c5 hr=> ?_) (fun c5 hr=> ?_)
     ·
      refine rn tk 7 rfl ?_
      refine bs 38 hr rfl (fun c6 hr=> ?_) (fun c6 hr=> ?_)
      ·
       refine rn tk 2 rfl ?_
       refine ug rfl rfl rfl ?_
       refine wb tk rfl rfl rfl ?_
       refine rn tk 2 rfl ?_
       refine ug rfl rfl rfl ?_
       refine wb tk rfl rfl rfl ?_
       refine rn tk 3 rfl ?_
       refine bs 47 hr rfl (fun c7 hr=> ?_) (fun c7 hr=> ?_)
       ·
        refine rn tk 4 rfl ?_
        obtain ⟨v8,h9,hr⟩:=zaa hr
        refine ug rfl rfl rfl ?_
        refine cl (Jta _ _ _ h9) rfl rfl ?_
        refine rn tk 2 rfl ?_
        refine bs 54 hr rfl (fun c10 hr=> ?_) (fun c10 hr=> ?_)
        ·
         refine rn tk 4 rfl ?_
         obtain ⟨v11,h12,hr⟩:=zaa hr
         refine ug rfl rfl rfl ?_
         refine cl (YWa _ _ _ h12) rfl rfl ?_
         refine rn tk 3 rfl ?_
         cases hr
         exact jn _ rfl rfl rfl
        ·
         refine rn tk 8 rfl ?_
         cases hr
         exact jn _ rfl rfl rfl
       ·
        refine rn tk 15 rfl ?_
        cases hr
        exact jn _ rfl rfl rfl
      ·
       refine rn tk 24 rfl ?_
       cases hr
       exact jn _ rfl rfl rfl
     ·
      refine rn tk 31 rfl ?_
      cases hr
      exact jn _ rfl rfl rfl
    ·
     refine rn tk 38 rfl ?_
     cases hr
     exact jn _ rfl rfl rfl
   ·
    refine rn tk 45 rfl ?_
    cases hr
    exact jn _ rfl rfl rfl
  ·
   refine rn tk 52 rfl ?_
   cases hr
   exact jn _ rfl rfl rfl
 ·
  refine rn tk 1 rfl ?_
  cases hr
  exact kr tk (.inr rfl) rfl rfl
theorem j5a (a0:zla) (a1:List UInt8) (r:Bool) (hr:qwa a0 a1=some r):Run Tryz.prog 4 [.agg [.s a0.Name, .s a0.Mail.Envelope.From, .l zca.pc a0.Mail.Envelope.To, .s a0.Mail.Envelope.Id, .l zga.pc a0.Mail.Message.Fields, .l cU a0.Mail.Message.Body, .bo a0.Pipelined, .l cU a0.Buffer, .i a0.Expected, .bo a0.Whole, .bo a0.Done, .l cI a0.Results], .l cU a1] (.bo r):=by
 unfold qwa at hr
 refine rf (fn:=Tryz.f4) ⟨Tryz.func4,rfl,by kernel_rfl⟩ rfl (fun _=> rfl) fun g0 hg=> ?_
 refine rn tk 9 rfl ?_
 obtain ⟨v1,h2,hr⟩:=zaa hr
 refine cl (Vfa _ _ h2) rfl rfl ?_
 refine rn tk 7 rfl ?_
 obtain ⟨v3,h4,hr⟩:=zaa hr
 refine cl (ZBa _ _ h4) rfl rfl ?_
 refine rn tk 13 rfl ?_
 obtain ⟨v5,h6,hr⟩:=zaa hr
 refine cl (jea _ _ _ h6) rfl rfl ?_
 refine rn tk 12 rfl ?_
 refine jb hr (fun j7=> [(1, .l cU a1),(2, .ptr 2 0),(5, .ptr 5 0),(6, .ptr 6 0),(7, .ptr 7 0),(8, .ptr 8 0),(9, .l cU v5.2.1),(10, .ptr 10 0),(37, .bo j7)]) (fun j7=> [(10, .cells [.i v5.2.2.Code, .i v5.2.2.Index]),(8, .cells [.s v5.1.Name, .s v5.1.Mail.Envelope.From, .l zca.pc v5.1.Mail.Envelope.To, .s v5.1.Mail.Envelope.Id, .l zga.pc v5.1.Mail.Message.Fields, .l cU v5.1.Mail.Message.Body, .bo v5.1.Pipelined, .l cU v5.1.Buffer, .i v5.1.Expected, .bo v5.1.Whole, .bo v5.1.Done, .l cI v5.1.Results]),(7, .cells [.i v3.2.Code, .i v3.2.Index]),(6, .cells [.s v3.1.Name, .s v3.1.Mail.Envelope.From, .l zca.pc v3.1.Mail.Envelope.To, .s v3.1.Mail.Envelope.Id, .l zga.pc v3.1.Mail.Message.Fields, .l cU v3.1.Mail.Message.Body, .bo v3.1.Pipelined, .l cU v3.1.Buffer, .i v3.1.Expected, .bo v3.1.Whole, .bo v3.1.Done, .l cI v3.1.Results]),(5, .cells [.i v1.Code, .i v1.Index]),(2, .cells [.s a0.Name, .s a0.Mail.Envelope.From, .l zca.pc a0.Mail.Envelope.To, .s a0.Mail.Envelope.Id, .l zga.pc a0.Mail.Message.Fields, .l cU a0.Mail.Message.Body, .bo a0.Pipelined, .l cU a0.Buffer, .i a0.Expected, .bo a0.Whole, .bo a0.Done, .l cI a0.Results])]) (fun j7 hr=> ?_) (fun j7 hr=> ?_)
 ·
  refine rn tk 1 rfl ?_
  obtain ⟨v8,h9,hr⟩:=zaa hr
  refine cl (V8a _ h9) rfl rfl ?_
  refine rn tk 2 rfl ?_
  refine bs 28 hr rfl (fun c10 hr=> ?_) (fun c10 hr=> ?_)
  ·
   refine rn tk 10 rfl ?_
   cases hr
   exact jn _ rfl rfl rfl
  ·
   refine rn tk 2 rfl ?_
   refine ug rfl rfl rfl ?_
   refine wq (Zba rfl rfl kja vta (.int rfl (by decide) qia (.int rfl (by decide) qia .nil))) rfl rfl rfl ?_
   refine rn tk 2 rfl ?_
   refine bs 33 hr rfl (fun c11 hr=> ?_) (fun c11 hr=> ?_)
   ·
    refine rn tk 5 rfl ?_
    cases hr
    exact jn _ rfl rfl rfl
   ·
    refine rn tk 5 rfl ?_
    cases hr
    exact jn _ rfl rfl rfl
 ·
  refine ac 37 hr rfl (fun c12 hr=> ?_) (fun c12 hr=> ?_)
  ·
   refine jb hr (fun j13=> [(4, .bo j13)]) (fun j13=> []) (fun j13 hr=> ?_) (fun j13 hr=> ?_)
   ·
    refine rn tk 1 rfl ?_
    obtain ⟨v14,h15,hr⟩:=zaa hr
    refine cl (V8a _ h15) rfl rfl ?_
    refine rn tk 1 rfl ?_
    refine bs 39 hr rfl (fun c16 hr=> ?_) (fun c16 hr=> ?_)
    ·
     refine rn tk 2 rfl ?_
     refine ug rfl rfl rfl ?_
     refine wq (yHa rfl rfl kja vta (.int rfl (by decide) qia (.int rfl (by decide) qia .nil))) rfl rfl rfl ?_
     refine rn tk 2 rfl ?_
     refine bs 44 hr rfl (fun c17 hr=> ?_) (fun c17 hr=> ?_)
     ·
      refine rn tk 2 rfl ?_
      refine ug rfl rfl rfl ?_
      refine wq (yHa rfl rfl kja vta (.int rfl (by decide) qia (.int rfl (by decide) qia .nil))) rfl rfl rfl ?_
      refine rn tk 2 rfl ?_
      refine bs 49 hr rfl (fun c18 hr=> ?_) (fun c18 hr=> ?_)
      ·
       refine rn tk 1 rfl ?_
       refine ug rfl rfl rfl ?_
       refine wn tk rfl rfl rfl ?_
       refine rn tk 3 rfl ?_
       refine bs 54 hr rfl (fun c19 hr=> ?_) (fun c19 hr=> ?_)
       ·
        refine rn tk 2 rfl ?_
        obtain ⟨v20,h21,hr⟩:=zaa hr
        refine ug rfl rfl rfl ?_
        refine cl (qHa _ _ _ h21) rfl rfl ?_
        refine rn tk 2 rfl ?_
        refine bs 59 hr rfl (fun c22 hr=> ?_) (fun c22 hr=> ?_)
        ·
         refine rn tk 2 rfl ?_
         obtain ⟨v23,h24,hr⟩:=zaa hr
         refine ug rfl rfl rfl ?_
         refine cl (qHa _ _ _ h24) rfl rfl ?_
         refine rn tk 3 rfl ?_
         cases hr
         exact jn _ rfl rfl rfl
        ·
         refine rn tk 6 rfl ?_
         cases hr
         exact jn _ rfl rfl rfl
       ·
        refine rn tk 11 rfl ?_
        cases hr
        exact jn _ rfl rfl rfl
      ·
       refine rn tk 16 rfl ?_
       cases hr
       exact jn _ rfl rfl rfl
     ·
      refine rn tk 21 rfl ?_
      cases hr
      exact jn _ rfl rfl rfl
    ·
     refine rn tk 26 rfl ?_
     cases hr
     exact jn _ rfl rfl rfl
   ·
    refine rn tk 2 rfl ?_
    cases hr
    exact kr tk (.inr rfl) rfl rfl
  ·
   refine rn tk 4 rfl ?_
   obtain ⟨v25,h26,hr⟩:=zaa hr
   refine drF 2 0 [(65, .agg [.s a0.Name, .s a0.Mail.Envelope.From, .l zca.pc a0.Mail.Envelope.To, .s a0.Mail.Envelope.Id, .l zga.pc a0.Mail.Message.Fields, .l cU a0.Mail.Message.Body, .bo a0.Pipelined, .l cU a0.Buffer, .i a0.Expected, .bo a0.Whole, .bo a0.Done, .l cI a0.Results]),(64, .agg [.s v3.1.Name, .s v3.1.Mail.Envelope.From, .l zca.pc v3.1.Mail.Envelope.To, .s v3.1.Mail.Envelope.Id, .l zga.pc v3.1.Mail.Message.Fields, .l cU v3.1.Mail.Message.Body, .bo v3.1.Pipelined, .l cU v3.1.Buffer, .i v3.1.Expected, .bo v3.1.Whole, .bo v3.1.Done, .l cI v3.1.Results])] [(65, .agg [.s a0.Name, .s a0.Mail.Envelope.From, .l zca.pc a0.Mail.Envelope.To, .s a0.Mail.Envelope.Id, .l zga.pc a0.Mail.Message.Fields, .l cU a0.Mail.Message.Body, .bo a0.Pipelined, .l cU a0.Buffer, .i a0.Expected, .bo a0.Whole, .bo a0.Done, .l cI a0.Results]),(64, .any)] [(1, .l cU a1),(2, .ptr 2 0),(8, .ptr 8 0),(9, .l cU v5.2.1),(10, .ptr 10 0),(64, .agg [.s v3.1.Name, .s v3.1.Mail.Envelope.From, .l zca.pc v3.1.Mail.Envelope.To, .s v3.1.Mail.Envelope.Id, .l zga.pc v3.1.Mail.Message.Fields, .l cU v3.1.Mail.Message.Body, .bo v3.1.Pipelined, .l cU v3.1.Buffer, .i v3.1.Expected, .bo v3.1.Whole, .bo v3.1.Done, .l cI v3.1.Results]),(66, .agg [.s v25.Name, .s v25.Mail.Envelope.From, .l zca.pc v25.Mail.Envelope.To, .s v25.Mail.Envelope.Id, .l zga.pc v25.Mail.Message.Fields, .l cU v25.Mail.Message.Body, .bo v25.Pipelined, .l cU v25.Buffer, .i v25.Expected, .bo v25.Whole, .bo v25.Done, .l cI v25.Results])] [(10, .cells [.i v5.2.2.Code, .i v5.2.2.Index]),(8, .cells [.s v5.1.Name, .s v5.1.Mail.Envelope.From, .l zca.pc v5.1.Mail.Envelope.To, .s v5.1.Mail.Envelope.Id, .l zga.pc v5.1.Mail.Message.Fields, .l cU v5.1.Mail.Message.Body, .bo v5.1.Pipelined, .l cU v5.1.Buffer, .i v5.1.Expected, .bo v5.1.Whole, .bo v5.1.Done, .l cI v5.1.Results]),(7, .cells [.i v3.2.Code, .i v3.2.Index]),(6, .cells [.s v3.1.Name, .s v3.1.Mail.Envelope.From, .l zca.pc v3.1.Mail.Envelope.To, .s v3.1.Mail.Envelope.Id, .l zga.pc v3.1.Mail.Message.Fields, .l cU v3.1.Mail.Message.Body, .bo v3.1.Pipelined, .l cU v3.1.Buffer, .i v3.1.Expected, .bo v3.1.Whole, .bo v3.1.Done, .l cI v3.1.Results]),(5, .cells [.i v1.Code, .i v1.Index]),(2, .cells [.s a0.Name, .s a0.Mail.Envelope.From, .l zca.pc a0.Mail.Envelope.To, .s a0.Mail.Envelope.Id, .l zga.pc a0.Mail.Message.Fields, .l cU a0.Mail.Message.Body, .bo a0.Pipelined, .l cU a0.Buffer, .i a0.Expected, .bo a0.Whole, .bo a0.Done, .l cI a0.Results])] mixed (by kernel_rfl) rfl rfl rfl rfl rfl (pqA tk rfl (.plain rfl) (pqA tk rfl (.plain rfl) .nil)) rfl rfl rfl rfl rfl (fun hJ=> ?_) (fun hJ=> ?_) ?_
   ·
    refine cl (Vga _ _ h26) rfl rfl ?_
    exact hJ _ _ rfl rfl
   ·
    refine cl (Vga _ _ h26) rfl rfl ?_
    refine rn tk 1 rfl ?_
    exact hJ _ _ rfl rfl
   obtain ⟨v27,h28,hr⟩:=zaa hr
   refine cl (qHa _ _ _ h28) rfl rfl ?_
   refine rn tk 3 rfl ?_
   refine ac 68 hr rfl (fun c29 hr=> ?_) (fun c29 hr=> ?_)
   ·
    refine rn tk 7 rfl ?_
    cases hr
    exact kr tk (.inr rfl) rfl rfl
   ·
    refine rn tk 7 rfl ?_
    refine wn tk rfl rfl rfl ?_
    refine rn tk 1 rfl ?_
    refine wn tk rfl rfl rfl ?_
    refine rn tk 4 rfl ?_
    refine ac 75 hr rfl (fun c30 hr=> ?_) (fun c30 hr=> ?_)
    ·
     refine jb hr (fun j31=> [(4, .bo j31)]) (fun j31=> []) (fun j31 hr=> ?_) (fun j31 hr=> ?_)
     ·
      obtain ⟨v32,h33,hr⟩:=zaa hr
      refine qya ((q7a [(v5.2.2.Code==v32.Code),(v5.2.2.Index==v32.Index)])) (fun c34=> ?_) (fun c34=> ?_)
      ·
       replace hr:=vAa c34 hr
       refine qya (((v5.2.1.length:Int)==0)) (fun c35=> ?_) (fun c35=> ?_)
       ·
        replace hr:=vAa c35 hr
        refine dr 11 [(86, .agg [.s (([]:Str)), .s (([]:Str)), .pv (.sl (some true) []), .s (([]:Str)), .pv (.sl (some true) []), .pv (.sl (some true) []), .bo false, .pv (.sl (some true) []), .i 0, .bo false, .bo false, .pv (.sl (some true) [])]),(85, .agg [.s v5.1.Name, .s v5.1.Mail.Envelope.From, .l zca.pc v5.1.Mail.Envelope.To, .s v5.1.Mail.Envelope.Id, .l zga.pc v5.1.Mail.Message.Fields, .l cU v5.1.Mail.Message.Body, .bo v5.1.Pipelined, .l cU v5.1.Buffer, .i v5.1.Expected, .bo v5.1.Whole, .bo v5.1.Done, .l cI v5.1.Results]),(84, .bo (((v5.2.1.length:Int)==0))),(83, .bo (((v5.2.1.length:Int)==0))),(82, .bo (((v5.2.1.length:Int)==0))),(81, .i ((v5.2.1.length:Int))),(80, .l cU v5.2.1),(79, .bo ((q7a [(v5.2.2.Code==v32.Code),(v5.2.2.Index==v32.Index)]))),(78, .bo ((q7a [(v5.2.2.Code==v32.Code),(v5.2.2.Index==v32.Index)]))),(77, .agg [.i v32.Code, .i v32.Index]),(76, .agg [.i v5.2.2.Code, .i v5.2.2.Index])] mixed (by kernel_rfl) rfl rfl (pq tk rfl (.plain rfl) (.run (.plain rfl) (kda (kya 1 ((-1)) v32 h33) rfl) (.run (.plain rfl) (qda (yHa rfl rfl kja vta (.int rfl (by decide) qia (.int rfl (by decide) qia .nil)))) (pq tk rfl (.plain rfl) (pq tk rfl (.yes (d:=79) rfl rfl rfl c34) (.run (.yes (d:=79) rfl rfl rfl c34) (qda (vDa (f:=cU) rfl zka.u)) (pq tk rfl (.yes (d:=79) rfl rfl rfl c34) (.run (.plain rfl) (qda (qPa rfl c34)) (pq tk rfl (.plain rfl) (pq tk rfl (.yes (d:=84) rfl rfl rfl c35) (pq tk rfl (.yes (d:=84) rfl rfl rfl c35) .nil))))))))))) rfl ?_
        refine kn 84 c35 rfl ?_
        obtain ⟨v36,h37,hr⟩:=zaa hr
        refine ug rfl rfl rfl ?_
        refine cl (qHa _ _ _ h37) rfl rfl ?_
        refine rn tk 3 rfl ?_
        cases hr
        exact jn _ rfl rfl rfl
       ·
        replace hr:=vBa c35 hr
        refine dr 11 [(86, .tup []),(85, .tup []),(84, .bo (((v5.2.1.length:Int)==0))),(83, .bo (((v5.2.1.length:Int)==0))),(82, .bo (((v5.2.1.length:Int)==0))),(81, .i ((v5.2.1.length:Int))),(80, .l cU v5.2.1),(79, .bo ((q7a [(v5.2.2.Code==v32.Code),(v5.2.2.Index==v32.Index)]))),(78, .bo ((q7a [(v5.2.2.Code==v32.Code),(v5.2.2.Index==v32.Index)]))),(77, .agg [.i v32.Code, .i v32.Index]),(76, .agg [.i v5.2.2.Code, .i v5.2.2.Index])] mixed (by kernel_rfl) rfl rfl (pq tk rfl (.plain rfl) (.run (.plain rfl) (kda (kya 1 ((-1)) v32 h33) rfl) (.run (.plain rfl) (qda (yHa rfl rfl kja vta (.int rfl (by decide) qia (.int rfl (by decide) qia .nil)))) (pq tk rfl (.plain rfl) (pq tk rfl (.yes (d:=79) rfl rfl rfl c34) (.run (.yes (d:=79) rfl rfl rfl c34) (qda (vDa (f:=cU) rfl zka.u)) (pq tk rfl (.yes (d:=79) rfl rfl rfl c34) (.run (.plain rfl) (qda (qPa rfl c34)) (pq tk rfl (.plain rfl) (.skip (.no (d:=84) rfl rfl rfl c35) (.skip (.no (d:=84) rfl rfl rfl c35) .nil))))))))))) rfl ?_
        refine kn 84 c35 rfl ?_
        refine rn tk 4 rfl ?_
        cases hr
        exact jn _ rfl rfl rfl
      ·
       replace hr:=vBa c34 hr
       refine dr 11 [(86, .tup []),(85, .tup []),(84, .bo false),(83, .bo false),(82, .tup []),(81, .tup []),(80, .tup []),(79, .bo ((q7a [(v5.2.2.Code==v32.Code),(v5.2.2.Index==v32.Index)]))),(78, .bo ((q7a [(v5.2.2.Code==v32.Code),(v5.2.2.Index==v32.Index)]))),(77, .agg [.i v32.Code, .i v32.Index]),(76, .agg [.i v5.2.2.Code, .i v5.2.2.Index])] mixed (by kernel_rfl) rfl rfl (pq tk rfl (.plain rfl) (.run (.plain rfl) (kda (kya 1 ((-1)) v32 h33) rfl) (.run (.plain rfl) (qda (yHa rfl rfl kja vta (.int rfl (by decide) qia (.int rfl (by decide) qia .nil)))) (pq tk rfl (.plain rfl) (.skip (.no (d:=79) rfl rfl rfl c34) (.skip (.no (d:=79) rfl rfl rfl c34) (.skip (.no (d:=79) rfl rfl rfl c34) (.run (.plain rfl) (qda (qxa rfl c34)) (pq tk rfl (.plain rfl) (.skip (.no (d:=84) rfl rfl rfl rfl) (.skip (.no (d:=84) rfl rfl rfl rfl) .nil))))))))))) rfl ?_
       refine rn tk 4 rfl ?_
       cases hr
       exact jn _ rfl rfl rfl
     ·
      refine rn tk 2 rfl ?_
      cases hr
      exact kr tk (.inr rfl) rfl rfl
    ·
     refine rn tk 6 rfl ?_
     obtain ⟨v38,h39,hr⟩:=zaa hr
     refine wo (zya (k:=91) (kpb a0 a1 v38 h39) rfl rfl zha) rfl ?_
     refine rn tk 1 rfl ?_
     refine zWa 1011 (o:=11) (j:=12) 5 1 rfl rfl rfl rfl (hO ?_)
     refine rn tk 3 rfl ?_
     refine jb hr (fun j40=> [(4, .bo j40)]) (fun j40=> []) (fun j40 hr=> ?_) (fun j40 hr=> ?_)
     ·
      refine rn tk 5 rfl ?_
      refine bs 95 hr rfl (fun c41 hr=> ?_) (fun c41 hr=> ?_)
      ·
       refine rn tk 3 rfl ?_
       obtain ⟨v42,h43,hr⟩:=zaa hr
       refine ug rfl rfl rfl ?_
       refine cl (qHa _ _ _ h43) rfl rfl ?_
       refine rn tk 2 rfl ?_
       refine bs 101 hr rfl (fun c44 hr=> ?_) (fun c44 hr=> ?_)
       ·
        refine rn tk 1 rfl ?_
        refine ug rfl rfl rfl ?_
        refine wb tk rfl rfl rfl ?_
        refine rn tk 2 rfl ?_
        refine j9a (d:=105) (F:=cU) (l:=v38.Out) rfl rfl (hO ?_)
        refine ug rfl rfl rfl ?_
        refine wb tk rfl rfl rfl ?_
        refine rn tk 4 rfl ?_
        cases hr
        exact jn _ rfl rfl rfl
       ·
        refine rn tk 9 rfl ?_
        cases hr
        exact jn _ rfl rfl rfl
      ·
       refine rn tk 15 rfl ?_
       cases hr
       exact jn _ rfl rfl rfl
     ·
      refine rn tk 1 rfl ?_
      cases hr
      exact kr tk (.inr rfl) rfl rfl
end Go.Proofs.YtjnmamghadpedaaGreatDoor
namespace Go.Proofs.YtjnmamghadpedaaGreatDoor.clientMatchesSpec
open Go.ChangeShapes Go.WideShapes Go.ChangeAt Go.RowKit
set_option maxRecDepth 100000
theorem contract (H:Type) (enc:TypeId × Value→H) (W:World) (base:Nat) (args:Array Value) (ds gs:List (DataW H)) (before:List MemPlace)
  (hval:∀(j:Nat) t v,Tryz.f4.params[j]? =some t→args[j]? =some v→Value.okWide Tryz.prog W .any base t v)
  (hW:DataW.Whole enc Tryz.prog Tryz.f4.params.toList Rows.clientMatchesSpecSpec.vars false W args.toList ds gs before) (hk:Rows.uptoSmall H (ds++gs)=true) (hgl:Gl (gAll W)):
  Calls Tryz.prog 4 args W fun e W' => ∃v,e= .returned v∧Rows.clientMatchesSpecSpec.post enc Tryz.prog Tryz.f4 false true false false W args v W' :=by
 have hW' :=hW
 obtain ⟨p,q,hA0,hV,rfl,hfz,hnd⟩:=hW
 have hA:DataW.TrodAll enc Tryz.prog W 0 (fun _=> true) true Tryz.f4.params.toList args.toList ds p:=hA0
 rw [Tryz.params4] at hA hval
 obtain ⟨v0,vs0,d0,ds0,p0,q0,hargs,rfl,rfl,h0,r0⟩:=trodAll_cons hA
 obtain ⟨v1,vs1,d1,ds1,p1,q1,rfl,rfl,rfl,h1,r1⟩:=trodAll_cons r0
 obtain ⟨rfl,rfl,rfl⟩:=trodAll_nil r1
 obtain rfl:args= #[v0,v1]:=by cases args;simp_all
 obtain ⟨rfl,rfl⟩:=trodVars_none hV
 obtain ⟨a0,e0,o0,k0⟩:=arg_agg JVa (by obtain ⟨cs,h,_⟩:=okWide_struct Zia.u (hval 0 _ v0 rfl rfl);exact ⟨cs,h⟩) h0
 obtain ⟨a1,e1,o1,k1⟩:=arg_one jOa (by obtain ⟨_,_,_,h⟩:=okWide_slice zka.u (hval 1 _ v1 rfl rfl);rw [h];rfl) h1
 have hk2:=of_decide_eq_true hk
 simp only [List.append_nil,Rows.uptoBulkAll] at hk2
 have ht:=jEa a0 a1 o0 o1 (by (try dsimp only);omega)
 have key:Calls Tryz.prog 4 #[v0,v1] W fun e W' => e= .returned (.bool true)∧Below W.heap.size W W' :=zDb (j5a a0 a1 true ht) hgl (vlb (.cons e0 (.cons (e1 _ rfl) .nil)))
 refine key.mono fun e W' ⟨he,hb⟩=> ⟨_,he, ?_⟩
 exact wzb laidOut (by kernel_rfl) Tryz.underlying4 (by kernel_rfl) rfl rfl hW' hb
noncomputable def wit (os:Os):World:=World.doorLaid Tryz.prog 62 os
theorem reads (os:Os) {H:Type} (enc:TypeId × Value→H):∃places,DataW.whole enc Tryz.prog ((wit os).forCall (fun _ _=> 0) ⟨#[], #[.agg #[.string ⟨#[]⟩, .string ⟨#[]⟩, .slice none 0 0, .string ⟨#[]⟩, .slice none 0 0, .slice none 0 0, .bool false, .slice none 0 0, .int .i64 0, .bool false, .bool false, .slice none 0 0], .slice none 0 0], []⟩).memory Tryz.f4.params.toList (Rows.OpenSpec.upto Rows.clientMatchesSpecSpec).vars false (#[.agg #[.string ⟨#[]⟩, .string ⟨#[]⟩, .slice none 0 0, .string ⟨#[]⟩, .slice none 0 0, .slice none 0 0, .bool false, .slice none 0 0, .int .i64 0, .bool false, .bool false, .slice none 0 0], .slice none 0 0]:Array Value).toList 8=some ([.agg [.lit (.string []), .agg [.agg [.lit (.string []), .nil, .lit (.string [])], .agg [.nil, .nil]], .lit (.bool false), .nil, .lit (.int .i64 0), .lit (.bool false), .lit (.bool false), .nil], .nil], [],places):=
 ⟨[],by kernel_rfl⟩
theorem lifted (os:Os) (started:os.Started) (H:Type) (enc:TypeId × Value→H) (F:Stop.Interp):
  ReturnsInHanded {} Tryz.checked os 4 .any ((Rows.OpenSpec.upto Rows.clientMatchesSpecSpec).preRow enc Tryz.prog Tryz.f4 Rows.clientMatchesSpecUptoRow.domain false Rows.clientMatchesSpecUptoRow.laid) (((Rows.OpenSpec.upto Rows.clientMatchesSpecSpec).at F).post enc Tryz.prog Tryz.f4 false true false false):=by
 obtain ⟨places,hx⟩:=reads os enc
 refine returnsInHanded_of_row (C:=Tryz.checked) (s:=Rows.OpenSpec.upto Rows.clientMatchesSpecSpec) own started (by kernel_rfl) Tryz.func4
  (witness_row_atRef (enc:=enc) (C:=Tryz.checked) false (wit os) #[.agg #[.string ⟨#[]⟩, .string ⟨#[]⟩, .slice none 0 0, .string ⟨#[]⟩, .slice none 0 0, .slice none 0 0, .bool false, .slice none 0 0, .int .i64 0, .bool false, .bool false, .slice none 0 0], .slice none 0 0] rfl (by kernel_rfl) (by kernel_rfl) (by kernel_rfl)
   (OpenSpec.preRow_of_cond 8 hx (by kernel_rfl) (fun k hk=> by cases hk;kernel_rfl) (by kernel_rfl) (laidMet_of_run' 8 (by kernel_rfl) (by kernel_rfl)))) ?_
 intro W base args ds gs before hval hW _ hk _ hL hsh _
 exact contract H enc W base args ds gs before hval hW (hk _ rfl) (vmb (rest:=Rows.clientMatchesSpecUptoRow.laid.drop 3) hsh (by kernel_rfl) hL (fun hm=> vnb hm.tail.tail.tail.tail))
theorem j0:jf0 Tryz.pinned.checked.prog 4 Tryz.f4 (Rows.OpenSpec.upto Rows.clientMatchesSpecSpec).bare Rows.clientMatchesSpecUptoRow=true:=by kernel_rfl
theorem j1:jf1 Tryz.pinned.checked.prog 4 Tryz.f4 (Rows.OpenSpec.upto Rows.clientMatchesSpecSpec).bare Rows.clientMatchesSpecUptoRow=true:=by kernel_rfl
theorem j2:jf2 Tryz.pinned.checked.prog 4 Tryz.f4 (Rows.OpenSpec.upto Rows.clientMatchesSpecSpec).bare Rows.clientMatchesSpecUptoRow=true:=by kernel_rfl
theorem j3:jf3 Tryz.pinned.checked.prog 4 Tryz.f4 (Rows.OpenSpec.upto Rows.clientMatchesSpecSpec).bare Rows.clientMatchesSpecUptoRow=true:=by kernel_rfl
theorem j4:jf4 Tryz.pinned.checked.prog 4 Tryz.f4 (Rows.OpenSpec.upto Rows.clientMatchesSpecSpec).bare Rows.clientMatchesSpecUptoRow=true:=by kernel_rfl
theorem j5:jf5 Tryz.pinned.checked.prog 4 Tryz.f4 (Rows.OpenSpec.upto Rows.clientMatchesSpecSpec).bare Rows.clientMatchesSpecUptoRow=true:=by kernel_rfl
theorem j6:jf6 Tryz.pinned.checked.prog 4 Tryz.f4 (Rows.OpenSpec.upto Rows.clientMatchesSpecSpec).bare Rows.clientMatchesSpecUptoRow=true:=by kernel_rfl
theorem j7:jf7 Tryz.pinned.checked.prog 4 Tryz.f4 (Rows.OpenSpec.upto Rows.clientMatchesSpecSpec).bare Rows.clientMatchesSpecUptoRow=true:=by kernel_rfl
theorem j8:jf8 Tryz.pinned.checked.prog 4 Tryz.f4 (Rows.OpenSpec.upto Rows.clientMatchesSpecSpec).bare Rows.clientMatchesSpecUptoRow=true:=by kernel_rfl
theorem j9:jf9 Tryz.pinned.checked.prog 4 Tryz.f4 (Rows.OpenSpec.upto Rows.clientMatchesSpecSpec).bare Rows.clientMatchesSpecUptoRow=true:=by kernel_rfl
theorem j10:jf10 Tryz.pinned.checked.prog 4 Tryz.f4 (Rows.OpenSpec.upto Rows.clientMatchesSpecSpec).bare Rows.clientMatchesSpecUptoRow=true:=by kernel_rfl
theorem j11:jf11 Tryz.pinned.checked.prog 4 Tryz.f4 (Rows.OpenSpec.upto Rows.clientMatchesSpecSpec).bare Rows.clientMatchesSpecUptoRow=true:=by kernel_rfl
theorem j12:jf12 Tryz.pinned.checked.prog 4 Tryz.f4 (Rows.OpenSpec.upto Rows.clientMatchesSpecSpec).bare Rows.clientMatchesSpecUptoRow=true:=by kernel_rfl
theorem j13:jf13 Tryz.pinned.checked.prog 4 Tryz.f4 (Rows.OpenSpec.upto Rows.clientMatchesSpecSpec).bare Rows.clientMatchesSpecUptoRow=true:=by kernel_rfl
theorem j14:jf14 Tryz.pinned.checked.prog 4 Tryz.f4 (Rows.OpenSpec.upto Rows.clientMatchesSpecSpec).bare Rows.clientMatchesSpecUptoRow=true:=by kernel_rfl
theorem j15:jf15 Tryz.pinned.checked.prog 4 Tryz.f4 (Rows.OpenSpec.upto Rows.clientMatchesSpecSpec).bare Rows.clientMatchesSpecUptoRow=true:=by kernel_rfl
theorem j16:jf16 Tryz.pinned.checked.prog 4 Tryz.f4 (Rows.OpenSpec.upto Rows.clientMatchesSpecSpec).bare Rows.clientMatchesSpecUptoRow=true:=by kernel_rfl
theorem j17:jf17 Tryz.pinned.checked.prog 4 Tryz.f4 (Rows.OpenSpec.upto Rows.clientMatchesSpecSpec).bare Rows.clientMatchesSpecUptoRow=true:=by kernel_rfl
theorem j18:jf18 Tryz.pinned.checked.prog 4 Tryz.f4 (Rows.OpenSpec.upto Rows.clientMatchesSpecSpec).bare Rows.clientMatchesSpecUptoRow=true:=by kernel_rfl
theorem j19:jf19 Tryz.pinned.checked.prog 4 Tryz.f4 (Rows.OpenSpec.upto Rows.clientMatchesSpecSpec).bare Rows.clientMatchesSpecUptoRow=true:=by kernel_rfl
theorem j20:jf20 Tryz.pinned.checked.prog 4 Tryz.f4 (Rows.OpenSpec.upto Rows.clientMatchesSpecSpec).bare Rows.clientMatchesSpecUptoRow=true:=by kernel_rfl
theorem j21:jf21 Tryz.pinned.checked.prog 4 Tryz.f4 (Rows.OpenSpec.upto Rows.clientMatchesSpecSpec).bare Rows.clientMatchesSpecUptoRow=true:=by kernel_rfl
theorem j22:jf22 Tryz.pinned.checked.prog 4 Tryz.f4 (Rows.OpenSpec.upto Rows.clientMatchesSpecSpec).bare Rows.clientMatchesSpecUptoRow=true:=by kernel_rfl
theorem j23:jf23 Tryz.pinned.checked.prog 4 Tryz.f4 (Rows.OpenSpec.upto Rows.clientMatchesSpecSpec).bare Rows.clientMatchesSpecUptoRow=true:=by kernel_rfl
theorem j24:jf24 Tryz.pinned.checked.prog 4 Tryz.f4 (Rows.OpenSpec.upto Rows.clientMatchesSpecSpec).bare Rows.clientMatchesSpecUptoRow=true:=by kernel_rfl
theorem j25:jf25 Tryz.pinned.checked.prog 4 Tryz.f4 (Rows.OpenSpec.upto Rows.clientMatchesSpecSpec).bare Rows.clientMatchesSpecUptoRow=true:=by kernel_rfl
theorem j26:jf26 Tryz.pinned.checked.prog 4 Tryz.f4 (Rows.OpenSpec.upto Rows.clientMatchesSpecSpec).bare Rows.clientMatchesSpecUptoRow=true:=by kernel_rfl
theorem j27:jf27 Tryz.pinned.checked.prog 4 Tryz.f4 (Rows.OpenSpec.upto Rows.clientMatchesSpecSpec).bare Rows.clientMatchesSpecUptoRow=true:=by kernel_rfl
theorem j28:jf28 Tryz.pinned.checked.prog 4 Tryz.f4 (Rows.OpenSpec.upto Rows.clientMatchesSpecSpec).bare Rows.clientMatchesSpecUptoRow=true:=by kernel_rfl
theorem j29:jf29 Tryz.pinned.checked.prog 4 Tryz.f4 (Rows.OpenSpec.upto Rows.clientMatchesSpecSpec).bare Rows.clientMatchesSpecUptoRow=true:=by kernel_rfl
theorem j30:jf30 Tryz.pinned.checked.prog 4 Tryz.f4 (Rows.OpenSpec.upto Rows.clientMatchesSpecSpec).bare Rows.clientMatchesSpecUptoRow=true:=by kernel_rfl
theorem j31:jf31 Tryz.pinned.checked.prog 4 Tryz.f4 (Rows.OpenSpec.upto Rows.clientMatchesSpecSpec).bare Rows.clientMatchesSpecUptoRow=true:=by kernel_rfl
theorem said:Rows.clientMatchesSpecUptoRow.holds Tryz.pinned (Rows.OpenSpec.upto Rows.clientMatchesSpecSpec):=
 OpenClaim.holds_of_cond 4 Tryz.f4 rfl rfl rfl rfl rfl rfl rfl ⟨rfl,rfl,rfl,rfl,rfl⟩ rfl rfl rfl rfl rfl (by kernel_rfl) Tryz.func4 (wAb j0 j1 j2 j3 j4 j5 j6 j7 j8 j9 j10 j11 j12 j13 j14 j15 j16 j17 j18 j19 j20 j21 j22 j23 j24 j25 j26 j27 j28 j29 j30 j31)
  (of_decide_eq_true (by kernel_rfl)) (by unfold Func.isWrapper;first | (rw [if_pos (by decide+kernel)];kernel_rfl) | (rw [if_neg (by decide+kernel)];exact ⟨rfl,rfl⟩))
  (fun os started H enc _ F=> by rw [OpenClaim.pre_eq_preRow];exact lifted os started H enc F)
theorem plain (f : FuncId) (fn : Func) (hf : Tryz.pinned.checked.prog.funcNamed "posthouse/posthouselaw4.ClientMatchesSpec" = some f) (hfn : Tryz.pinned.checked.prog.funcs[f]? = some fn) :
  true=Tryz.pinned.checked.prog.looks []∧∀(j:Nat) t,fn.params[j]? =some t→Tryz.pinned.checked.prog.wantsStandIn t=false:=by
 obtain rfl : f = 4 := Option.some.inj ((show Tryz.prog.funcNamed "posthouse/posthouselaw4.ClientMatchesSpec" = some 4 by kernel_rfl).symm.trans hf) |>.symm
 obtain rfl:fn=Tryz.f4:=(Option.some.inj (Tryz.func4.symm.trans hfn)).symm
 refine ⟨by kernel_rfl,fun j t ht=> ?_⟩
 rw [Tryz.params4] at ht
 have hm:=Array.mem_of_getElem? ht
 simp only [List.mem_toArray,List.mem_cons,List.not_mem_nil,or_false] at hm
 rcases hm with rfl | rfl
 ·exact (show Tryz.prog.wantsStandIn 33=false by kernel_rfl)
 ·exact (show Tryz.prog.wantsStandIn 26=false by kernel_rfl)
theorem proved:Rows.ClientMatchesSpecUptoCardSaid:=
 Claim7.holds_tied_plain_at .later [] _ _ _ _ said (fun _ h=> by cases h) (by kernel_rfl) (fun _ h=> by cases h) clientMatchesSpecUpto_row_tie rfl ⟨rfl,rfl⟩ (by kernel_rfl) rfl plain (by kernel_rfl)
#print axioms proved
end Go.Proofs.YtjnmamghadpedaaGreatDoor.clientMatchesSpec
