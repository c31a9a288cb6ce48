/- The law ClientResultsStay holds for every input of bulk up to the given bound: it returns true and leaves its arguments as they were. Written by program. -/
import Derived.Test.YtjnmamghadpedaaGreatDoorKClientResultsStay4
set_option linter.unusedVariables false
set_option linter.unusedSimpArgs false
namespace Go.Proofs.YtjnmamghadpedaaGreatDoor
open Go.RowKit
set_option maxRecDepth 100000
set_option maxHeartbeats 40000000
theorem yqa (a0:zda) (a1:kva) (r:zda) (hr:kpa a0 a1=some r):RunS Tryz.prog 61 [.ptr 90000000 0, .agg [.i a1.Code, .l cS a1.Lines]] [(90000000, .cells [.s a0.Client.Name, .s a0.Client.Mail.Envelope.From, .l zca.pc a0.Client.Mail.Envelope.To, .s a0.Client.Mail.Envelope.Id, .l zfa.pc a0.Client.Mail.Message.Fields, .l cU a0.Client.Mail.Message.Body, .bo a0.Client.Pipelined, .l cU a0.Client.Buffer, .i a0.Client.Expected, .bo a0.Client.Whole, .bo a0.Client.Done, .hs 90000012 0, .l cU a0.content, .bo a0.chunk, .hs 90000015 0]),(90000012, .row 3 true 1 (List.map cI a0.Client.Results)),(90000015, .row 5 false 1 (List.map cU a0.out))] (.tup []) [(90000000, .cells [.s r.Client.Name, .s r.Client.Mail.Envelope.From, .l zca.pc r.Client.Mail.Envelope.To, .s r.Client.Mail.Envelope.Id, .l zfa.pc r.Client.Mail.Message.Fields, .l cU r.Client.Mail.Message.Body, .bo r.Client.Pipelined, .l cU r.Client.Buffer, .i r.Client.Expected, .bo r.Client.Whole, .bo r.Client.Done, .hs 90000012 0, .l cU r.content, .bo r.chunk, .hs 90000015 0]),(90000012, .row 3 true 1 (List.map cI r.Client.Results)),(90000015, .row 5 false 1 (List.map cU r.out))] 90000000 [90000012,90000015]:=by
 unfold kpa at hr
 refine rfS (fn:=Tryz.f61) (H:=90000999) (.ptr 90000000 0) ⟨Tryz.func61,rfl,by kernel_rfl⟩ rfl (hasT rfl) (.inl ⟨rfl,rfl⟩) rfl rfl rfl rfl fun g0 hg S sg T=> ?_
 refine rn tk 8 rfl ?_
 obtain ⟨v1,h2,hr⟩:=zaa hr
 refine cl (Qfa _ _ h2) rfl rfl ?_
 refine rn tk 11 rfl ?_
 obtain ⟨v3,h4,hr⟩:=zaa hr
 refine wo (zAa (k:=13) (qea a0 v3 h4) rfl rfl (zba rfl (zba rfl (zba rfl zga)))) rfl ?_
 refine rn tk 16 rfl ?_
 refine ac 19 hr rfl (fun c5 hr=> ?_) (fun c5 hr=> ?_)
 ·
  refine rn tk 7 rfl ?_
  refine ac 27 hr rfl (fun c6 hr=> ?_) (fun c6 hr=> ?_)
  ·
   refine rn tk 4 rfl ?_
   obtain ⟨v7,h8,hr⟩:=zaa hr
   refine cl (qra _ _ h8) rfl rfl ?_
   obtain ⟨v9,h10,hr⟩:=zaa hr
   refine wo (zAa (k:=31) (kca v3.2 v7 v9 h10) rfl rfl (zba rfl (zba rfl (zba rfl zga)))) rfl ?_
   refine rn tk 5 rfl ?_
   cases hr
   exact krS tk (.inr rfl) rfl rfl (zba rfl (zba rfl (zba rfl (zba rfl zga))))
  ·
   refine rn tk 4 rfl ?_
   obtain ⟨v11,h12,hr⟩:=zaa hr
   refine wo (zAa (k:=33) (qYa v3.2 v11 h12) rfl rfl (zba rfl (zba rfl (zba rfl zga)))) rfl ?_
   refine rn tk 2 rfl ?_
   cases hr
   exact krS tk (.inl rfl) rfl rfl (zba rfl (zba rfl (zba rfl (zba rfl zga))))
 ·
  refine rn tk 12 rfl ?_
  refine ac 34 hr rfl (fun c13 hr=> ?_) (fun c13 hr=> ?_)
  ·
   refine jb hr (fun j14=> [(0, .ptr 90000000 0),(6, .i j14.1)]) (fun j14=> [(90000000, .cells [.s j14.2.Client.Name, .s j14.2.Client.Mail.Envelope.From, .l zca.pc j14.2.Client.Mail.Envelope.To, .s j14.2.Client.Mail.Envelope.Id, .l zfa.pc j14.2.Client.Mail.Message.Fields, .l cU j14.2.Client.Mail.Message.Body, .bo j14.2.Client.Pipelined, .l cU j14.2.Client.Buffer, .i j14.2.Client.Expected, .bo j14.2.Client.Whole, .bo j14.2.Client.Done, .hs 90000012 0, .l cU j14.2.content, .bo j14.2.chunk, .hs 90000015 0]),(90000012, .row 3 true 1 (List.map cI j14.2.Client.Results)),(90000015, .row 5 false 1 (List.map cU j14.2.out)),(90000999, .hold (.ptr 90000000 0) (T.getD 0 undef))]) (fun j14 hr=> ?_) (fun j14 hr=> ?_)
   ·
    refine rn tk 6 rfl ?_
    refine ac 43 hr rfl (fun c15 hr=> ?_) (fun c15 hr=> ?_)
    ·
     obtain ⟨v16,h17,hr⟩:=zaa hr
     refine dr 13 [(56, .i v16),(55, .i v1.1),(54, .i ((w64 (v3.2.Client.Expected - 3)))),(53, .i v3.2.Client.Expected),(52, .ptr 90000000 8),(51, .ptr 90000000 0),(50, .ptr 90000000 0),(49, .ptr 90000000 0),(48, .hs 90000012 0),(47, .ptr 90000000 11),(46, .ptr 90000000 0),(45, .ptr 90000000 0),(44, .ptr 90000000 0)] mixed (by kernel_rfl) rfl rfl (pq tk rfl (.plain rfl) (pq tk rfl (.plain rfl) (pq tk rfl (.plain rfl) (pq tk rfl (.plain rfl) (pq tk rfl (.plain rfl) (pq tk rfl (.plain rfl) (pq tk rfl (.plain rfl) (pq tk rfl (.plain rfl) (pq tk rfl (.plain rfl) (pq tk rfl (.plain rfl) (pq tk rfl (.plain rfl) (pq tk rfl (.plain rfl) (.run (.plain rfl) (qGa (qra v1.1 v16 h17) rfl) .nil))))))))))))) rfl ?_
     obtain ⟨v18,h19,hr⟩:=zaa hr
     refine wih tk h19 rfl rfl rfl rfl rfl ?_
     obtain ⟨v20,h21,hr⟩:=zaa hr
     refine wo (KBa (F:=cI) (l:=v3.2.Client.Results) (n:=((w64 (v3.2.Client.Expected - 3)))) (j:=0) (v:=v20) (v' :=v16) (pcs:= [pI v16]) rfl rfl rfl vla rfl h21 rfl rfl) rfl ?_
     refine rn tk 1 rfl ?_
     cases hr
     exact jn _ rfl rfl rfl
    ·
     refine rn tk 1 rfl ?_
     cases hr
     exact jn _ rfl rfl rfl
   ·
    refine rn tk 1 rfl ?_
    refine jb hr (fun j22=> [(0, .ptr 90000000 0),(77, .bo j22.1)]) (fun j22=> [(90000000, .cells [.s j22.2.Client.Name, .s j22.2.Client.Mail.Envelope.From, .l zca.pc j22.2.Client.Mail.Envelope.To, .s j22.2.Client.Mail.Envelope.Id, .l zfa.pc j22.2.Client.Mail.Message.Fields, .l cU j22.2.Client.Mail.Message.Body, .bo j22.2.Client.Pipelined, .l cU j22.2.Client.Buffer, .i j22.2.Client.Expected, .bo j22.2.Client.Whole, .bo j22.2.Client.Done, .hs 90000012 0, .l cU j22.2.content, .bo j22.2.chunk, .hs 90000015 0]),(90000012, .row 3 true 1 (List.map cI j22.2.Client.Results)),(90000015, .row 5 false 1 (List.map cU j22.2.out)),(90000999, .hold (.ptr 90000000 0) (T.getD 0 undef))]) (fun j22 hr=> ?_) (fun j22 hr=> ?_)
    ·
     refine rn tk 10 rfl ?_
     refine bs 66 hr rfl (fun c23 hr=> ?_) (fun c23 hr=> ?_)
     ·
      refine rn tk 8 rfl ?_
      refine bs 74 hr rfl (fun c24 hr=> ?_) (fun c24 hr=> ?_)
      ·
       refine rn tk 1 rfl ?_
       obtain ⟨v25,h26,hr⟩:=zaa hr
       refine ug rfl rfl rfl ?_
       refine wo (zAa (k:=76) (vwa j14.2 v25 h26) rfl rfl (zba rfl (zba rfl (zba rfl zga)))) rfl ?_
       refine rn tk 2 rfl ?_
       cases hr
       exact jn _ rfl rfl rfl
      ·
       refine rn tk 4 rfl ?_
       cases hr
       exact jn _ rfl rfl rfl
     ·
      refine rn tk 12 rfl ?_
      cases hr
      exact jn _ rfl rfl rfl
    ·
     refine ac 77 hr rfl (fun c27 hr=> ?_) (fun c27 hr=> ?_)
     ·
      refine rn tk 3 rfl ?_
      obtain ⟨v28,h29,hr⟩:=zaa hr
      refine wo (zAa (k:=79) (kca j22.2 2 v28 h29) rfl rfl (zba rfl (zba rfl (zba rfl zga)))) rfl ?_
      refine rn tk 5 rfl ?_
      cases hr
      exact krS tk (.inr rfl) rfl rfl (zba rfl (zba rfl (zba rfl (zba rfl zga))))
     ·
      refine rn tk 4 rfl ?_
      obtain ⟨v30,h31,hr⟩:=zaa hr
      refine wo (zAa (k:=81) (qYa j22.2 v30 h31) rfl rfl (zba rfl (zba rfl (zba rfl zga)))) rfl ?_
      refine rn tk 2 rfl ?_
      cases hr
      exact krS tk (.inl rfl) rfl rfl (zba rfl (zba rfl (zba rfl (zba rfl zga))))
  ·
   refine rn tk 12 rfl ?_
   refine ac 82 hr rfl (fun c32 hr=> ?_) (fun c32 hr=> ?_)
   ·
    refine rn tk 3 rfl ?_
    obtain ⟨v33,h34,hr⟩:=zaa hr
    refine wo (zAa (k:=92) (w4a v3.2 v1.1 v33 h34) rfl rfl (zba rfl (zba rfl (zba rfl zga)))) rfl ?_
    refine rn tk 2 rfl ?_
    cases hr
    exact krS tk (.inl rfl) rfl rfl (zba rfl (zba rfl (zba rfl (zba rfl zga))))
   ·
    refine rn tk 7 rfl ?_
    refine ac 93 hr rfl (fun c35 hr=> ?_) (fun c35 hr=> ?_)
    ·
     refine rn tk 2 rfl ?_
     obtain ⟨v36,h37,hr⟩:=zaa hr
     refine wo (zAa (k:=97) (kca v3.2 1 v36 h37) rfl rfl (zba rfl (zba rfl (zba rfl zga)))) rfl ?_
     refine rn tk 2 rfl ?_
     cases hr
     exact krS tk (.inl rfl) rfl rfl (zba rfl (zba rfl (zba rfl (zba rfl zga))))
    ·
     refine rn tk 3 rfl ?_
     obtain ⟨v38,h39,hr⟩:=zaa hr
     refine cl (qra _ _ h39) rfl rfl ?_
     obtain ⟨v40,h41,hr⟩:=zaa hr
     refine wo (zAa (k:=18) (kca v3.2 v38 v40 h41) rfl rfl (zba rfl (zba rfl (zba rfl zga)))) rfl ?_
     refine rn tk 2 rfl ?_
     cases hr
     exact krS tk (.inl rfl) rfl rfl (zba rfl (zba rfl (zba rfl (zba rfl zga))))
end Go.Proofs.YtjnmamghadpedaaGreatDoor
namespace Go.Proofs.YtjnmamghadpedaaGreatDoor
open Go.RowKit
set_option maxRecDepth 100000
theorem WHa (g:G) (e:TypeId) (s:ByteArray):Old (fun _=> False) g ⟨Lib.bytesWorld g.w e s,g.u,g.loc⟩:=by
 generalize hw:Lib.bytesWorld g.w e s=w'
 unfold Lib.bytesWorld at hw
 have hother:∀q,q < g.w.heap.size→w'.heap[q]? =g.w.heap[q]? :=by
  intro q hq
  subst hw
  simp only [World.freeze,Nat.one_ne_zero,if_false,Array.getElem?_modify]
  rw [if_neg (by omega)]
  exact Below.heap_alloc g.w.drew _ _ hq
 have hws:w'.heap.size=g.w.heap.size+1:=by subst hw;simp [World.freeze]
 refine ⟨by subst hw;first | (simp [World.freeze];done) | (simp [World.freeze];rfl),by subst hw;first | (simp [World.freeze];done) | (simp [World.freeze];rfl),by subst hw;first | (simp [World.freeze];done) | (simp [World.freeze];rfl),⟨by show g.w.heap.size≤w'.heap.size;omega,fun _ _=> Nat.le_refl _,fun k i hk hi=> ?_,fun r hr=> (hother r (kya hr)).trans hr⟩,fun k hk _=> ⟨hother k hk,rfl⟩⟩
 simp only [World.cell?];rw [hother k hk]
theorem JVa {g:G} {w' :World} (h:Below g.w.heap.size g.w w'):Old (fun _=> False) g ⟨w',g.u,g.loc⟩:=
 ⟨h.os,h.tape,h.output,⟨h.size,fun _ _=> Nat.le_refl _,fun k i hk _=> by simp only [World.cell?];rw [h.block k hk],fun r hr=> (h.block r (kya hr)).trans hr⟩,fun k hk _=> ⟨h.block k hk,rfl⟩⟩
theorem err_var {g : G} (hg : Gl g) : ∃ tp p, g.w.var? Tryz.prog "strconv.ErrSyntax" = some #[.iface tp p] := by
 obtain ⟨tp,x,t,fz,h⟩:=hg.2.2 1 (by simp [Y8a])
 have hn : Tryz.prog.globalNamed "strconv.ErrSyntax" = some 1 := by kernel_rfl
 refine ⟨tp,x, ?_⟩
 unfold World.var?
 rw [hn]
 simp only [Option.bind_some]
 rw [h]
theorem Kma (s:Str) (r:Int × Bool) (hr:k7a s=some r):Run Tryz.prog 104 [.s s] (.tup [.i r.1, .ifc r.2]):=by
 unfold k7a at hr
 split at hr
 case isFalse=> cases hr
 rename_i hlen
 refine ⟨⟨_,_,⟨Tryz.func104,rfl,by kernel_rfl⟩⟩,fun g vs hw hg ha=> ?_⟩
 obtain ⟨hsz,hrel⟩:=ha
 obtain ⟨l⟩:=vs
 match l,hsz with
 | [x],_=>
  obtain rfl:=str_argN (hrel 0 _ rfl)
  cases hn:Lib.atoi s with
  | none=>
   rw [hn] at hr
   cases hr
   obtain ⟨tp,p,hvar⟩:=err_var hg
   refine callsIn_wide.2 ((Tryz.strconv_Atoi_err_var (strB s) (by rw [zXa];exact hlen) (by simpa [strB] using hn) tp p g.w hvar).mono ?_)
   rintro e w' ⟨N,rfl,_,_,hb⟩
   exact ⟨⟨w',g.u,g.loc⟩,_,rfl,rfl,JVa hb,fun k hk=> hw k (Nat.le_trans hb.size hk),rfl, .tup rfl fun i c hi=> by
    match i,hi with
    | 0,rfl=> exact .pv (.b rfl)
    | 1,rfl=> exact .ifc rfl⟩
  | some n=>
   rw [hn] at hr
   cases hr
   refine callsIn_wide.2 ((Tryz.strconv_Atoi (strB s) n (by rw [zXa];exact hlen) (by simpa [strB] using hn) g.w).mono ?_)
   rintro e w' ⟨rfl,t,rfl⟩
   exact ⟨⟨_,g.u,g.loc⟩,_,rfl,rfl,WHa g _ _,fun k hk=> hw k (Nat.le_trans (WHa g _ _).ext.size hk),rfl, .tup rfl fun i c hi=> by
    match i,hi with
    | 0,rfl=> exact .pv (.b rfl)
    | 1,rfl=> exact .ifc rfl⟩
end Go.Proofs.YtjnmamghadpedaaGreatDoor
namespace Go.Proofs.YtjnmamghadpedaaGreatDoor
open Go.RowKit
set_option maxRecDepth 100000
set_option maxHeartbeats 40000000
theorem yya (a0:Str) (r:Bool) (hr:qAa a0=some r):Run Tryz.prog 102 [.s a0] (.bo r):=by
 unfold qAa at hr
 refine rf (fn:=Tryz.f102) ⟨Tryz.func102,rfl,by kernel_rfl⟩ rfl (fun _=> rfl) fun g0 hg=> ?_
 refine rn tk 14 rfl ?_
 refine al2 hr (fun s1=> [(0, .s a0),(5, .i ((a0.length:Int))),(6, .i s1)]) (fun s1=> []) (.exit 0) (fun b2=> [(0, .s a0)]) (fun b2=> []) .ret (fun b3=> [(2, .bo b3)]) (fun b3=> []) rfl rfl (fun s1 x5 hr=> ?_) (fun b2 hr=> ?_) (fun b3 hr=> ?_)
 ·
  unfold voa at hr
  refine rn tk 6 rfl ?_
  refine ac 7 hr rfl (fun c6 hr=> ?_) (fun c6 hr=> ?_)
  ·
   refine rn tk 10 rfl ?_
   refine jb hr (fun j7=> [(0, .s a0),(5, .i ((a0.length:Int))),(6, .i s1),(18, .bo j7)]) (fun j7=> []) (fun j7 hr=> ?_) (fun j7 hr=> ?_)
   ·
    refine rn tk 3 rfl ?_
    obtain ⟨v8,h9,hr⟩:=zaa hr
    refine ws tk h9 rfl rfl rfl rfl ?_
    refine rn tk 2 rfl ?_
    refine bs 13 hr rfl (fun c10 hr=> ?_) (fun c10 hr=> ?_)
    ·
     refine rn tk 6 rfl ?_
     cases hr
     exact jn _ rfl rfl rfl
    ·
     refine rn tk 2 rfl ?_
     obtain ⟨v11,h12,hr⟩:=zaa hr
     refine ug rfl rfl rfl ?_
     refine ws tk h12 rfl rfl rfl rfl ?_
     refine rn tk 3 rfl ?_
     cases hr
     exact jn _ rfl rfl rfl
   ·
    refine ac 18 hr rfl (fun c13 hr=> ?_) (fun c13 hr=> ?_)
    ·
     refine rn tk 8 rfl ?_
     cases hr
     exact ato rfl rfl rfl rfl
    ·
     refine rn tk 7 rfl ?_
     cases hr
     exact atc rfl rfl
  ·
   refine rn tk 2 rfl ?_
   cases hr
   exact ato rfl rfl rfl rfl
 ·
  refine rn tk 10 rfl ?_
  cases hr
  exact kr tk (.inr rfl) rfl rfl
 ·
  refine rn tk 2 rfl ?_
  cases hr
  exact kr tk (.inr rfl) rfl rfl
theorem Qxa (a0:Str) (r:Int × Str × Bool × Bool) (hr:w1a a0=some r):Run Tryz.prog 85 [.s a0] (.tup [.i r.1, .s r.2.1, .bo r.2.2.1, .bo r.2.2.2]):=by
 unfold w1a at hr
 refine rf (fn:=Tryz.f85) ⟨Tryz.func85,rfl,by kernel_rfl⟩ rfl (fun _=> rfl) fun g0 hg=> ?_
 refine rn tk 9 rfl ?_
 refine jb hr (fun j1=> [(0, .s a0),(30, .bo j1)]) (fun j1=> []) (fun j1 hr=> ?_) (fun j1 hr=> ?_)
 ·
  refine rn tk 5 rfl ?_
  refine bs 11 hr rfl (fun c2 hr=> ?_) (fun c2 hr=> ?_)
  ·
   refine rn tk 20 rfl ?_
   cases hr
   exact jn _ rfl rfl rfl
  ·
   refine rn tk 1 rfl ?_
   obtain ⟨v3,h4,hr⟩:=zaa hr
   refine ug rfl rfl rfl ?_
   refine ws tk h4 rfl rfl rfl rfl ?_
   refine rn tk 2 rfl ?_
   refine bs 15 hr rfl (fun c5 hr=> ?_) (fun c5 hr=> ?_)
   ·
    refine rn tk 1 rfl ?_
    obtain ⟨v6,h7,hr⟩:=zaa hr
    refine ug rfl rfl rfl ?_
    refine ws tk h7 rfl rfl rfl rfl ?_
    refine rn tk 4 rfl ?_
    refine bs 21 hr rfl (fun c8 hr=> ?_) (fun c8 hr=> ?_)
    ·
     refine rn tk 10 rfl ?_
     cases hr
     exact jn _ rfl rfl rfl
    ·
     refine rn tk 1 rfl ?_
     obtain ⟨v9,h10,hr⟩:=zaa hr
     refine ug rfl rfl rfl ?_
     refine wscH tk h10 rfl rfl rfl rfl ?_
     obtain ⟨v11,h12,hr⟩:=zaa hr
     refine ug rfl rfl rfl ?_
     refine cl (yya _ _ h12) rfl rfl ?_
     refine rn tk 3 rfl ?_
     refine bs 27 hr rfl (fun c13 hr=> ?_) (fun c13 hr=> ?_)
     ·
      refine rn tk 4 rfl ?_
      cases hr
      exact jn _ rfl rfl rfl
     ·
      refine rn tk 1 rfl ?_
      obtain ⟨v14,h15,hr⟩:=zaa hr
      refine ug rfl rfl rfl ?_
      refine cl (kBa _ _ _ h15) rfl rfl ?_
      refine rn tk 2 rfl ?_
      cases hr
      exact jn _ rfl rfl rfl
   ·
    refine rn tk 7 rfl ?_
    obtain ⟨v16,h17,hr⟩:=zaa hr
    refine ug rfl rfl rfl ?_
    refine wscH tk h17 rfl rfl rfl rfl ?_
    obtain ⟨v18,h19,hr⟩:=zaa hr
    refine ug rfl rfl rfl ?_
    refine cl (yya _ _ h19) rfl rfl ?_
    refine rn tk 3 rfl ?_
    refine bs 27 hr rfl (fun c20 hr=> ?_) (fun c20 hr=> ?_)
    ·
     refine rn tk 4 rfl ?_
     cases hr
     exact jn _ rfl rfl rfl
    ·
     refine rn tk 1 rfl ?_
     obtain ⟨v21,h22,hr⟩:=zaa hr
     refine ug rfl rfl rfl ?_
     refine cl (kBa _ _ _ h22) rfl rfl ?_
     refine rn tk 2 rfl ?_
     cases hr
     exact jn _ rfl rfl rfl
 ·
  refine ac 30 hr rfl (fun c23 hr=> ?_) (fun c23 hr=> ?_)
  ·
   refine rn tk 10 rfl ?_
   cases hr
   exact kr tk (.inr rfl) rfl rfl
  ·
   refine rn tk 5 rfl ?_
   obtain ⟨v24,h25,hr⟩:=zaa hr
   refine wscH tk h25 rfl rfl rfl rfl ?_
   obtain ⟨v26,h27,hr⟩:=zaa hr
   refine cl (Kma _ _ h27) rfl rfl ?_
   refine rn tk 8 rfl ?_
   obtain ⟨v28,h29,hr⟩:=zaa hr
   obtain ⟨v30,h31,hr⟩:=zaa hr
   obtain ⟨v32,h33,hr⟩:=zaa hr
   refine dr 10 [(3, .s v28),(2, .i v26.1),(44, .bo v32),(43, .i v26.1),(42, .bo (((v30.toNat:Int)==32))),(41, .u8 v30),(40, .s a0),(39, .s v28),(38, .s a0),(37, .i v26.1)] mixed (by kernel_rfl) rfl rfl (pq tk rfl (.plain rfl) (pq tk rfl (.plain rfl) (.run (.plain rfl) (wMa (Q4a rfl rfl z4a h29)) (pq tk rfl (.plain rfl) (.run (.plain rfl) (wMa (jEa rfl rfl z4a h31)) (pq tk rfl (.plain rfl) (pq tk rfl (.plain rfl) (.run (.plain rfl) (qGa (jDa v26.1 v32 h33) rfl) (pq tk rfl (.plain rfl) (pq tk rfl (.plain rfl) .nil)))))))))) rfl ?_
   refine rn tk 5 rfl ?_
   cases hr
   exact kr tk (.inr rfl) rfl rfl
theorem Qga (a0:List Str) (r:kva × Int × zsa) (hr:wha a0=some r):Run Tryz.prog 60 [.l cS a0] (.tup [.agg [.i r.1.Code, .l cS r.1.Lines], .i r.2.1, .agg [.i r.2.2.Code, .i r.2.2.Index]]):=by
 unfold wha at hr
 refine rf (fn:=Tryz.f60) ⟨Tryz.func60,rfl,by kernel_rfl⟩ rfl (fun _=> rfl) fun g0 hg=> ?_
 refine rn tk 11 rfl ?_
 refine wn tk rfl rfl rfl ?_
 refine rn tk 3 rfl ?_
 refine ac 15 hr rfl (fun c1 hr=> ?_) (fun c1 hr=> ?_)
 ·
  refine rn tk 3 rfl ?_
  obtain ⟨v2,h3,hr⟩:=zaa hr
  refine cl (zla _ _ _ h3) rfl rfl ?_
  refine rn tk 7 rfl ?_
  cases hr
  exact kr tk (.inr rfl) rfl rfl
 ·
  refine rn tk 5 rfl ?_
  refine vAa 1005 (o:=5) (j:=1) 9 1 rfl rfl rfl rfl (hO ?_)
  refine rn tk 6 rfl ?_
  refine wn tk rfl rfl rfl ?_
  refine rn tk 4 rfl ?_
  refine al2 hr (fun s4=> [(2, .ptr 2 0),(4, .ptr 4 0),(5, .ptr 5 0),(18, .l cS a0),(19, .i ((a0.length:Int))),(20, .i s4.1)]) (fun s4=> [(1005, .row 9 false 1 (List.map cS s4.2.1)),(5, .cells [.i s4.2.2, .hs 1005 0]),(4, .cells [.i 0, .i 0]),(2, .cells [.i 0, .l cS ([])])]) (.exit 0) (fun b5=> [(2, .ptr 2 0),(4, .ptr 4 0)]) (fun b5=> [(4, .cells [.i 0, .i 0]),(2, .cells [.i 0, .l cS ([])])]) .ret (fun b6=> [(2, .ptr 2 0),(3, .i b6.2.1),(4, .ptr 4 0)]) (fun b6=> [(2, .cells [.i b6.1.Code, .l cS b6.1.Lines]),(4, .cells [.i b6.2.2.Code, .i b6.2.2.Index])]) rfl rfl (fun s4 x8 hr=> ?_) (fun b5 hr=> ?_) (fun b6 hr=> ?_)
  ·
   unfold vKa at hr
   refine rn tk 6 rfl ?_
   refine ac 21 hr rfl (fun c9 hr=> ?_) (fun c9 hr=> ?_)
   ·
    refine rn tk 7 rfl ?_
    obtain ⟨v10,h11,hr⟩:=zaa hr
    refine wi tk h11 rfl rfl rfl rfl rfl ?_
    refine rn tk 8 rfl ?_
    obtain ⟨v12,h13,hr⟩:=zaa hr
    refine cl (Qxa _ _ h13) rfl rfl ?_
    refine rn tk 16 rfl ?_
    refine jb hr (fun j14=> [(2, .ptr 2 0),(4, .ptr 4 0),(5, .ptr 5 0),(6, .i s4.1),(8, .i v12.1),(9, .s v12.2.1),(10, .bo v12.2.2.1),(12, .i j14),(18, .l cS a0),(19, .i ((a0.length:Int))),(20, .i s4.1)]) (fun j14=> [(1005, .row 9 false 1 (List.map cS s4.2.1)),(5, .cells [.i s4.2.2, .hs 1005 0]),(4, .cells [.i 0, .i 0]),(2, .cells [.i 0, .l cS ([])])]) (fun j14 hr=> ?_) (fun j14 hr=> ?_)
    ·
     refine rn tk 8 rfl ?_
     refine ac 32 hr rfl (fun c15 hr=> ?_) (fun c15 hr=> ?_)
     ·
      refine rn tk 4 rfl ?_
      cases hr
      exact jn _ rfl rfl rfl
     ·
      refine rn tk 7 rfl ?_
      refine ac 35 hr rfl (fun c16 hr=> ?_) (fun c16 hr=> ?_)
      ·
       refine rn tk 4 rfl ?_
       cases hr
       exact jn _ rfl rfl rfl
      ·
       refine rn tk 8 rfl ?_
       refine ac 38 hr rfl (fun c17 hr=> ?_) (fun c17 hr=> ?_)
       ·
        refine rn tk 4 rfl ?_
        cases hr
        exact jn _ rfl rfl rfl
       ·
        refine jb hr (fun j18=> [(2, .ptr 2 0),(4, .ptr 4 0),(5, .ptr 5 0),(6, .i s4.1),(8, .i v12.1),(9, .s v12.2.1),(10, .bo v12.2.2.1),(12, .i 0),(18, .l cS a0),(19, .i ((a0.length:Int))),(20, .i s4.1),(42, .bo j18)]) (fun j18=> [(1005, .row 9 false 1 (List.map cS s4.2.1)),(5, .cells [.i s4.2.2, .hs 1005 0]),(4, .cells [.i 0, .i 0]),(2, .cells [.i 0, .l cS ([])])]) (fun j18 hr=> ?_) (fun j18 hr=> ?_)
        ·
         refine rn tk 4 rfl ?_
         refine bs 45 hr rfl (fun c19 hr=> ?_) (fun c19 hr=> ?_)
         ·
          refine rn tk 7 rfl ?_
          cases hr
          exact jn _ rfl rfl rfl
         ·
          refine rn tk 7 rfl ?_
          cases hr
          exact jn _ rfl rfl rfl
        ·
         refine ac 42 hr rfl (fun c20 hr=> ?_) (fun c20 hr=> ?_)
         ·
          refine rn tk 4 rfl ?_
          cases hr
          exact jn _ rfl rfl rfl
         ·
          refine rn tk 2 rfl ?_
          cases hr
          exact jn _ rfl rfl rfl
    ·
     refine rn tk 7 rfl ?_
     refine ac 52 hr rfl (fun c21 hr=> ?_) (fun c21 hr=> ?_)
     ·
      refine rn tk 5 rfl ?_
      obtain ⟨v22,h23,hr⟩:=zaa hr
      refine cl (zla _ _ _ h23) rfl rfl ?_
      refine rn tk 9 rfl ?_
      cases hr
      exact ato rfl rfl rfl rfl
     ·
      refine rn tk 14 rfl ?_
      refine wz cS ([v12.2.1]:List Str) tk rfl rfl (fun _=> rfl) rfl rfl rfl ?_
      obtain ⟨v24,h25,hr⟩:=zaa hr
      refine wa tk h25 rfl rfl rfl rfl (fun _=> rfl) rfl rfl ?_
      refine rn tk 9 rfl ?_
      refine ac 65 hr rfl (fun c26 hr=> ?_) (fun c26 hr=> ?_)
      ·
       refine rn tk 1 rfl ?_
       obtain ⟨v27,h28,hr⟩:=zaa hr
       refine drX 4 5 4 8 [1,2] [(69, .agg [.i v27.Code, .i v27.Index]),(68, .i ((w64 (s4.1+1)))),(67, .i s4.1),(66, .agg [.i v12.1, .hs 1005 0])] [(2, .ptr 2 0),(4, .ptr 4 0),(68, .i ((w64 (s4.1+1)))),(69, .agg [.i v27.Code, .i v27.Index])] [(1005, .row 9 false 1 (List.map cS v24)),(5, .cells [.i v12.1, .hs 1005 0]),(4, .cells [.i 0, .i 0]),(2, .cells [.i v12.1, .hs 1005 0])] tk mixed (by kernel_rfl) rfl rfl rfl (pqX tk rfl (.plain rfl) (pqX tk rfl (.plain rfl) (pqX tk rfl (.plain rfl) (.run (.plain rfl) (qGa (zEa v27 h28) rfl) .nil)))) rfl rfl rfl rfl (by kernel_rfl) ?_
       refine rn tk 4 rfl ?_
       refine Koa (o:=2) (j:=1) (F:=cS) (l:=v24) rfl rfl rfl (hC ?_)
       refine rn tk 3 rfl ?_
       cases hr
       exact ato rfl rfl rfl rfl
      ·
       refine rn tk 7 rfl ?_
       cases hr
       exact atc rfl rfl
   ·
    refine rn tk 2 rfl ?_
    cases hr
    exact ato rfl rfl rfl rfl
  ·
   refine rn tk 5 rfl ?_
   obtain ⟨v29,h30,hr⟩:=zaa hr
   refine cl (zla _ _ _ h30) rfl rfl ?_
   refine rn tk 6 rfl ?_
   cases hr
   exact kr tk (.inr rfl) rfl rfl
  ·
   refine rn tk 2 rfl ?_
   cases hr
   exact kr tk (.inr rfl) rfl rfl
theorem yra (a0:zda) (r:Bool × zda) (hr:kqa a0=some r):RunS Tryz.prog 36 [.ptr 90000000 0] [(90000000, .cells [.s a0.Client.Name, .s a0.Client.Mail.Envelope.From, .l zca.pc a0.Client.Mail.Envelope.To, .s a0.Client.Mail.Envelope.Id, .l zfa.pc a0.Client.Mail.Message.Fields, .l cU a0.Client.Mail.Message.Body, .bo a0.Client.Pipelined, .l cU a0.Client.Buffer, .i a0.Client.Expected, .bo a0.Client.Whole, .bo a0.Client.Done, .hs 90000012 0, .l cU a0.content, .bo a0.chunk, .hs 90000015 0]),(90000012, .row 3 true 1 (List.map cI a0.Client.Results)),(90000015, .row 5 false 1 (List.map cU a0.out))] (.bo r.1) [(90000000, .cells [.s r.2.Client.Name, .s r.2.Client.Mail.Envelope.From, .l zca.pc r.2.Client.Mail.Envelope.To, .s r.2.Client.Mail.Envelope.Id, .l zfa.pc r.2.Client.Mail.Message.Fields, .l cU r.2.Client.Mail.Message.Body, .bo r.2.Client.Pipelined, .l cU r.2.Client.Buffer, .i r.2.Client.Expected, .bo r.2.Client.Whole, .bo r.2.Client.Done, .hs 90000012 0, .l cU r.2.content, .bo r.2.chunk, .hs 90000015 0]),(90000012, .row 3 true 1 (List.map cI r.2.Client.Results)),(90000015, .row 5 false 1 (List.map cU r.2.out))] 90000000 [90000012,90000015]:=by
 unfold kqa at hr
 refine rfS (fn:=Tryz.f36) (H:=90000999) (.ptr 90000000 0) ⟨Tryz.func36,rfl,by kernel_rfl⟩ rfl (hasT rfl) (.inl ⟨rfl,rfl⟩) rfl rfl rfl rfl fun g0 hg S sg T=> ?_
 refine rn tk 8 rfl ?_
 refine q8a 1003 (d:=3) 9 1 rfl rfl rfl (hO ?_)
 refine rn tk 8 rfl ?_
 refine al1 hr (fun s1=> [(0, .ptr 90000000 0),(3, .hs 1003 0),(4, .i s1.1)]) (fun s1=> [(1003, .row 9 false 1 (List.map cS s1.2)),(90000999, .hold (.ptr 90000000 0) (T.getD 0 undef)),(90000000, .cells [.s a0.Client.Name, .s a0.Client.Mail.Envelope.From, .l zca.pc a0.Client.Mail.Envelope.To, .s a0.Client.Mail.Envelope.Id, .l zfa.pc a0.Client.Mail.Message.Fields, .l cU a0.Client.Mail.Message.Body, .bo a0.Client.Pipelined, .l cU a0.Client.Buffer, .i a0.Client.Expected, .bo a0.Client.Whole, .bo a0.Client.Done, .hs 90000012 0, .l cU a0.content, .bo a0.chunk, .hs 90000015 0]),(90000012, .row 3 true 1 (List.map cI a0.Client.Results)),(90000015, .row 5 false 1 (List.map cU a0.out))]) .ret (fun b2=> [(2, .bo b2.1)]) (fun b2=> [(90000000, .cells [.s b2.2.Client.Name, .s b2.2.Client.Mail.Envelope.From, .l zca.pc b2.2.Client.Mail.Envelope.To, .s b2.2.Client.Mail.Envelope.Id, .l zfa.pc b2.2.Client.Mail.Message.Fields, .l cU b2.2.Client.Mail.Message.Body, .bo b2.2.Client.Pipelined, .l cU b2.2.Client.Buffer, .i b2.2.Client.Expected, .bo b2.2.Client.Whole, .bo b2.2.Client.Done, .hs 90000012 0, .l cU b2.2.content, .bo b2.2.chunk, .hs 90000015 0]),(90000012, .row 3 true 1 (List.map cI b2.2.Client.Results)),(90000015, .row 5 false 1 (List.map cU b2.2.out)),(90000999, .hold (.ptr 90000000 0) (T.getD 0 undef))]) rfl rfl (fun s1 x3 hr=> ?_) (fun b2 hr=> ?_)
 ·
  unfold z3a at hr
  refine rn tk 9 rfl ?_
  obtain ⟨v4,h5,hr⟩:=zaa hr
  refine wlL tk h5 rfl rfl rfl (fun _=> rfl) rfl ?_
  refine qta rfl (wCa (F:=cU) (l:=([(13:UInt8),(10:UInt8)]:List UInt8)) zha zua rfl (fun _=> rfl) rfl rfl) zha zua (zna rfl) (zna rfl) rfl (hO ?_)
  obtain ⟨v6,h7,hr⟩:=zaa hr
  refine cl (y8a _ _ _ h7) rfl rfl ?_
  refine rn tk 10 rfl ?_
  refine ac 20 hr rfl (fun c8 hr=> ?_) (fun c8 hr=> ?_)
  ·
   refine rn tk 8 rfl ?_
   cases hr
   exact ato rfl rfl rfl rfl
  ·
   refine rn tk 14 rfl ?_
   obtain ⟨v9,h10,hr⟩:=zaa hr
   refine wlLH tk h10 rfl rfl rfl rfl (fun _=> rfl) rfl ?_
   refine wb tk rfl rfl rfl ?_
   refine wz cS ([v9]:List Str) tk rfl rfl (fun _=> rfl) rfl rfl rfl ?_
   obtain ⟨v11,h12,hr⟩:=zaa hr
   refine wa tk h12 rfl rfl rfl rfl (fun _=> rfl) rfl rfl ?_
   refine rn tk 15 rfl ?_
   refine YBa (d:=40) (F:=cS) (l:=v11) rfl rfl (hO ?_)
   obtain ⟨v13,h14,hr⟩:=zaa hr
   refine cl (Qga _ _ h14) rfl rfl ?_
   refine rn tk 12 rfl ?_
   refine jb hr (fun j15=> [(0, .ptr 90000000 0),(3, .hs 1003 0),(4, .i j15.1),(6, .ptr 6 0),(8, .ptr 8 0),(45, .bo j15.2)]) (fun j15=> [(8, .cells [.i v13.2.2.Code, .i v13.2.2.Index]),(6, .cells [.i v13.1.Code, .l cS v13.1.Lines]),(1003, .row 9 false 1 (List.map cS v11)),(90000999, .hold (.ptr 90000000 0) (T.getD 0 undef)),(90000000, .cells [.s a0.Client.Name, .s a0.Client.Mail.Envelope.From, .l zca.pc a0.Client.Mail.Envelope.To, .s a0.Client.Mail.Envelope.Id, .l zfa.pc a0.Client.Mail.Message.Fields, .l cU a0.Client.Mail.Message.Body, .bo a0.Client.Pipelined, .l cU a0.Client.Buffer, .i a0.Client.Expected, .bo a0.Client.Whole, .bo a0.Client.Done, .hs 90000012 0, .l cU a0.content, .bo a0.chunk, .hs 90000015 0]),(90000012, .row 3 true 1 (List.map cI a0.Client.Results)),(90000015, .row 5 false 1 (List.map cU a0.out))]) (fun j15 hr=> ?_) (fun j15 hr=> ?_)
   ·
    refine rn tk 4 rfl ?_
    refine bs 48 hr rfl (fun c16 hr=> ?_) (fun c16 hr=> ?_)
    ·
     refine rn tk 11 rfl ?_
     cases hr
     exact jn _ rfl rfl rfl
    ·
     refine rn tk 4 rfl ?_
     refine bs 52 hr rfl (fun c17 hr=> ?_) (fun c17 hr=> ?_)
     ·
      refine rn tk 7 rfl ?_
      cases hr
      exact jn _ rfl rfl rfl
     ·
      refine rn tk 7 rfl ?_
      cases hr
      exact jn _ rfl rfl rfl
   ·
    refine ac 45 hr rfl (fun c18 hr=> ?_) (fun c18 hr=> ?_)
    ·
     refine rn tk 3 rfl ?_
     obtain ⟨v19,h20,hr⟩:=zaa hr
     refine wo (zAa (k:=59) (vua a0 v19 h20) rfl rfl (zba rfl (zba rfl (zba rfl zga)))) rfl ?_
     refine rn tk 10 rfl ?_
     cases hr
     exact ato rfl rfl rfl rfl
    ·
     refine rn tk 8 rfl ?_
     refine ac 60 hr rfl (fun c21 hr=> ?_) (fun c21 hr=> ?_)
     ·
      refine rn tk 9 rfl ?_
      obtain ⟨v22,h23,hr⟩:=zaa hr
      refine wlL tk h23 rfl rfl rfl (fun _=> rfl) rfl ?_
      refine rn tk 10 rfl ?_
      obtain ⟨v24,h25,hr⟩:=zaa hr
      refine wo (zAa (k:=77) (yqa ((zda.mk ((zja.mk a0.Client.Name a0.Client.Mail a0.Client.Pipelined v22 a0.Client.Expected a0.Client.Whole a0.Client.Done a0.Client.Results)) a0.content a0.chunk a0.out)) v13.1 v24 h25) rfl rfl (zba rfl (zba rfl (zba rfl zga)))) rfl ?_
      refine rn tk 10 rfl ?_
      cases hr
      exact ato rfl rfl rfl rfl
     ·
      refine rn tk 3 rfl ?_
      cases hr
      exact atc rfl rfl
 ·
  refine rn tk 1 rfl ?_
  cases hr
  exact krS tk (.inr rfl) rfl rfl (zba rfl (zba rfl (zba rfl (zba rfl zga))))
theorem wsa (a0:List (List UInt8)) (r:List UInt8) (hr:kea a0=some r):Run Tryz.prog 34 [.l (cL cU) a0] (.l cU r):=by
 unfold kea at hr
 refine rf (fn:=Tryz.f34) ⟨Tryz.func34,rfl,by kernel_rfl⟩ rfl (fun _=> rfl) fun g0 hg=> ?_
 refine rn tk 14 rfl ?_
 refine wn tk rfl rfl rfl ?_
 refine rn tk 4 rfl ?_
 refine al1 hr (fun s1=> [(0, .l (cL cU) a0),(3, .i s1.1),(9, .l (cL cU) a0),(10, .i ((a0.length:Int))),(11, .i s1.2)]) (fun s1=> []) (.exit 0) (fun b2=> [(0, .l (cL cU) a0),(3, .i b2)]) (fun b2=> []) rfl rfl (fun s1 x3 hr=> ?_) (fun b2 hr=> ?_)
 ·
  unfold zYa at hr
  refine rn tk 6 rfl ?_
  refine ac 12 hr rfl (fun c4 hr=> ?_) (fun c4 hr=> ?_)
  ·
   refine rn tk 6 rfl ?_
   obtain ⟨v5,h6,hr⟩:=zaa hr
   refine wi tk h6 rfl rfl rfl rfl rfl ?_
   refine rn tk 8 rfl ?_
   refine wn tk rfl rfl rfl ?_
   refine rn tk 10 rfl ?_
   refine ac 20 hr rfl (fun c7 hr=> ?_) (fun c7 hr=> ?_)
   ·
    refine rn tk 1 rfl ?_
    cases hr
   ·
    refine rn tk 7 rfl ?_
    cases hr
    exact atc rfl rfl
  ·
   refine rn tk 2 rfl ?_
   cases hr
   exact ato rfl rfl rfl rfl
 ·
  refine rn tk 5 rfl ?_
  refine il (fn:=Tryz.f56) (args:= [.pv (.sl (some true) []), .i b2]) 100000 199999 [(0, .l (cL cU) a0)] rfl ⟨Tryz.func56,rfl,by kernel_rfl⟩ rfl rfl rfl fun T1 ds1=> ?_
  refine rn tk 12 rfl ?_
  refine ac 6 hr rfl (fun c8 hr=> ?_) (fun c8 hr=> ?_)
  ·
   refine rn tk 1 rfl ?_
   cases hr
  ·
   refine rn tk 7 rfl ?_
   refine wq (VXa rfl zha.u) rfl rfl rfl ?_
   refine rn tk 1 rfl ?_
   refine wq (VYa rfl zha.u) rfl rfl rfl ?_
   refine rn tk 11 rfl ?_
   refine ac 16 hr rfl (fun c9 hr=> ?_) (fun c9 hr=> ?_)
   ·
    refine rn tk 3 rfl ?_
    refine wq (VXa rfl zha.u) rfl rfl rfl ?_
    refine wq (ev_slnil rfl rfl zha zua) rfl rfl rfl ?_
    refine rn tk 1 rfl ?_
    obtain ⟨v10,h11,hr⟩:=zaa hr
    refine wo (VZa (k:=22) (F:=cU) (z:=((0:UInt8):UInt8)) (lim:=140737488355328) 1022 rfl rfl rfl rfl rfl zha vla zua rfl rfl rfl h11) rfl ?_
    refine rn tk 1 rfl ?_
    refine wq (VYa rfl zha.u) rfl rfl rfl ?_
    obtain ⟨v12,h13,hr⟩:=zaa hr
    refine wo (Jha (k:=25) (F:=cU) (l:=v10) rfl rfl rfl rfl zha zua h13) rfl ?_
    refine rn tk 10 rfl ?_
    refine ie tk [.hs 1022 0] [(0, .l (cL cU) a0)] [(1022, .row 5 true 1 (List.map cU v12))] (.inr rfl) rfl rfl rfl rfl (hO ?_)
    refine rn tk 7 rfl ?_
    refine wn tk rfl rfl rfl ?_
    refine rn tk 4 rfl ?_
    refine al1 hr (fun s14=> [(6, .hs 1022 0),(25, .l (cL cU) a0),(26, .i ((a0.length:Int))),(27, .i s14.1)]) (fun s14=> [(1022, .row 5 true 1 (List.map cU s14.2))]) (.exit 2) (fun b15=> [(6, .hs 1022 0)]) (fun b15=> [(1022, .row 5 true 1 (List.map cU b15))]) rfl rfl (fun s14 x16 hr=> ?_) (fun b15 hr=> ?_)
    ·
     unfold zZa at hr
     refine rn tk 6 rfl ?_
     refine ac 28 hr rfl (fun c17 hr=> ?_) (fun c17 hr=> ?_)
     ·
      refine rn tk 6 rfl ?_
      obtain ⟨v18,h19,hr⟩:=zaa hr
      refine wi tk h19 rfl rfl rfl rfl rfl ?_
      refine rn tk 7 rfl ?_
      obtain ⟨v20,h21,hr⟩:=zaa hr
      refine wa tk h21 rfl rfl rfl rfl (fun _=> rfl) rfl rfl ?_
      refine rn tk 8 rfl ?_
      cases hr
      exact atc rfl rfl
     ·
      refine rn tk 2 rfl ?_
      cases hr
      exact ato rfl rfl rfl rfl
    ·
     refine rn tk 8 rfl ?_
     refine yga 1022 rfl (hC ?_)
     refine vBa (d:=2) (F:=cU) (l:=b15) rfl rfl (hC ?_)
     refine rn tk 1 rfl ?_
     cases hr
     exact kr tk (.inr rfl) rfl rfl
   ·
    refine rn tk 5 rfl ?_
    refine q8a 1026 (d:=26) 5 1 rfl rfl rfl (hO ?_)
    refine rn tk 4 rfl ?_
    refine ie tk [.hs 1026 0] [(0, .l (cL cU) a0)] [(1026, .row 5 false 1 (List.map cU (([]:List UInt8))))] (.inr rfl) rfl rfl rfl rfl (hO ?_)
    refine rn tk 7 rfl ?_
    refine wn tk rfl rfl rfl ?_
    refine rn tk 4 rfl ?_
    refine al1 hr (fun s22=> [(6, .hs 1026 0),(25, .l (cL cU) a0),(26, .i ((a0.length:Int))),(27, .i s22.1)]) (fun s22=> [(1026, .row 5 false 1 (List.map cU s22.2))]) (.exit 2) (fun b23=> [(6, .hs 1026 0)]) (fun b23=> [(1026, .row 5 false 1 (List.map cU b23))]) rfl rfl (fun s22 x24 hr=> ?_) (fun b23 hr=> ?_)
    ·
     unfold kga at hr
     refine rn tk 6 rfl ?_
     refine ac 28 hr rfl (fun c25 hr=> ?_) (fun c25 hr=> ?_)
     ·
      refine rn tk 6 rfl ?_
      obtain ⟨v26,h27,hr⟩:=zaa hr
      refine wi tk h27 rfl rfl rfl rfl rfl ?_
      refine rn tk 7 rfl ?_
      obtain ⟨v28,h29,hr⟩:=zaa hr
      refine wa tk h29 rfl rfl rfl rfl (fun _=> rfl) rfl rfl ?_
      refine rn tk 8 rfl ?_
      cases hr
      exact atc rfl rfl
     ·
      refine rn tk 2 rfl ?_
      cases hr
      exact ato rfl rfl rfl rfl
    ·
     refine rn tk 8 rfl ?_
     refine vBa (d:=2) (F:=cU) (l:=b23) rfl rfl (hC ?_)
     refine rn tk 1 rfl ?_
     cases hr
     exact kr tk (.inr rfl) rfl rfl
theorem vxa (a0:zja) (a1:List UInt8) (r:zja × (List UInt8) × zsa) (hr:qDa a0 a1=some r):Run Tryz.prog 15 [.agg [.s a0.Name, .s a0.Mail.Envelope.From, .l zca.pc a0.Mail.Envelope.To, .s a0.Mail.Envelope.Id, .l zfa.pc a0.Mail.Message.Fields, .l cU a0.Mail.Message.Body, .bo a0.Pipelined, .l cU a0.Buffer, .i a0.Expected, .bo a0.Whole, .bo a0.Done, .l cI a0.Results], .l cU a1] (.tup [.agg [.s r.1.Name, .s r.1.Mail.Envelope.From, .l zca.pc r.1.Mail.Envelope.To, .s r.1.Mail.Envelope.Id, .l zfa.pc r.1.Mail.Message.Fields, .l cU r.1.Mail.Message.Body, .bo r.1.Pipelined, .l cU r.1.Buffer, .i r.1.Expected, .bo r.1.Whole, .bo r.1.Done, .l cI r.1.Results], .l cU r.2.1, .agg [.i r.2.2.Code, .i r.2.2.Index]]):=by
 unfold qDa at hr
 refine rf (fn:=Tryz.f15) ⟨Tryz.func15,rfl,by kernel_rfl⟩ rfl (fun _=> rfl) fun g0 hg=> ?_
 refine rn tk 12 rfl ?_
 obtain ⟨v1,h2,hr⟩:=zaa hr
 refine cl (ywa _ _ h2) rfl rfl ?_
 refine rn tk 7 rfl ?_
 obtain ⟨v3,h4,hr⟩:=zaa hr
 refine cl (zKa _ _ h4) rfl rfl ?_
 refine rn tk 2 rfl ?_
 refine ac 12 hr rfl (fun c5 hr=> ?_) (fun c5 hr=> ?_)
 ·
  refine rn tk 1 rfl ?_
  refine drX 2 4 4 4 [1] [(14, .agg [.i v1.Code, .i v1.Index]),(13, .agg [.s (([]:Str)), .s (([]:Str)), .pv (.sl (some true) []), .s (([]:Str)), .pv (.sl (some true) []), .pv (.sl (some true) []), .bo false, .pv (.sl (some true) []), .i 0, .bo false, .bo false, .pv (.sl (some true) [])])] [(4, .ptr 4 0),(5, .pv (.sl (some true) [])),(6, .ptr 6 0),(14, .agg [.i v1.Code, .i v1.Index])] [(7, .cells [.i v1.Code, .i v1.Index]),(6, .cells [.i 0, .i 0]),(4, .cells [.s (([]:Str)), .s (([]:Str)), .pv (.sl (some true) []), .s (([]:Str)), .pv (.sl (some true) []), .pv (.sl (some true) []), .bo false, .pv (.sl (some true) []), .i 0, .bo false, .bo false, .pv (.sl (some true) [])]),(2, .cells [.s a0.Name, .s a0.Mail.Envelope.From, .l zca.pc a0.Mail.Envelope.To, .s a0.Mail.Envelope.Id, .l zfa.pc a0.Mail.Message.Fields, .l cU a0.Mail.Message.Body, .bo a0.Pipelined, .l cU a0.Buffer, .i a0.Expected, .bo a0.Whole, .bo a0.Done, .l cI a0.Results])] tk mixed (by kernel_rfl) rfl rfl rfl (pqX tk rfl (.plain rfl) (pqX tk rfl (.plain rfl) .nil)) rfl rfl rfl rfl (by kernel_rfl) ?_
  refine rn tk 5 rfl ?_
  cases hr
  exact kr tk (.inr rfl) rfl rfl
 ·
  refine rn tk 7 rfl ?_
  refine wn tk rfl rfl rfl ?_
  refine rn tk 1 rfl ?_
  refine wn tk rfl rfl rfl ?_
  refine rn tk 4 rfl ?_
  refine ac 21 hr rfl (fun c6 hr=> ?_) (fun c6 hr=> ?_)
  ·
   refine rn tk 3 rfl ?_
   obtain ⟨v7,h8,hr⟩:=zaa hr
   refine cl (zla _ _ _ h8) rfl rfl ?_
   refine rn tk 7 rfl ?_
   cases hr
   exact kr tk (.inr rfl) rfl rfl
  ·
   refine rn tk 3 rfl ?_
   obtain ⟨v9,h10,hr⟩:=zaa hr
   obtain ⟨v11,h12,hr⟩:=zaa hr
   refine drX 7 7 1 1 [] [(30, .ptr 2 1),(29, .hs 1029 0),(28, .l cI a0.Results),(27, .ptr 2 11),(26, .agg [.s v9.Envelope.From, .l zca.pc v9.Envelope.To, .s v9.Envelope.Id, .l zfa.pc v9.Message.Fields, .l cU v9.Message.Body]),(25, .agg [.s a0.Mail.Envelope.From, .l zca.pc a0.Mail.Envelope.To, .s a0.Mail.Envelope.Id, .l zfa.pc a0.Mail.Message.Fields, .l cU a0.Mail.Message.Body]),(24, .ptr 2 1)] [(1, .l cU a1),(2, .ptr 2 0),(4, .ptr 4 0),(6, .ptr 6 0),(26, .agg [.s v9.Envelope.From, .l zca.pc v9.Envelope.To, .s v9.Envelope.Id, .l zfa.pc v9.Message.Fields, .l cU v9.Message.Body]),(29, .hs 1029 0),(30, .ptr 2 1)] [(1029, .row 3 true 1 (List.map cI v11)),(7, .cells [.i v1.Code, .i v1.Index]),(6, .cells [.i 0, .i 0]),(4, .cells [.s (([]:Str)), .s (([]:Str)), .pv (.sl (some true) []), .s (([]:Str)), .pv (.sl (some true) []), .pv (.sl (some true) []), .bo false, .pv (.sl (some true) []), .i 0, .bo false, .bo false, .pv (.sl (some true) [])]),(2, .cells [.s a0.Name, .s a0.Mail.Envelope.From, .l zca.pc a0.Mail.Envelope.To, .s a0.Mail.Envelope.Id, .l zfa.pc a0.Mail.Message.Fields, .l cU a0.Mail.Message.Body, .bo a0.Pipelined, .l cU a0.Buffer, .i a0.Expected, .bo a0.Whole, .bo a0.Done, .l cI a0.Results])] tk mixed (by kernel_rfl) rfl rfl rfl (pqX tk rfl (.plain rfl) (pqX tk rfl (.plain rfl) (.run (.plain rfl) (qGa (vIa a0.Mail v9 h10) rfl) (pqX tk rfl (.plain rfl) (pqX tk rfl (.plain rfl) (.new 1029 (.plain rfl) (Z3a 1029 (qXa a0.Results v11 h12) rfl) (pqX tk rfl (.plain rfl) .nil))))))) rfl rfl rfl rfl (by kernel_rfl) ?_
   refine rn tk 10 rfl ?_
   refine wz (cL cU) ([a0.Buffer,a1]:List (List UInt8)) tk rfl rfl (fun _=> rfl) rfl rfl rfl ?_
   obtain ⟨v13,h14,hr⟩:=zaa hr
   refine cl (wsa _ _ h14) rfl rfl ?_
   refine rn tk 8 rfl ?_
   refine wo (j0a (k:=40) 90000000 rfl rfl rfl rfl rfl) rfl ?_
   refine rn tk 1 rfl ?_
   refine YKa 1029 90000012 rfl rfl rfl rfl rfl rfl (hO ?_)
   refine vAa 90000015 (o:=90000000) (j:=14) 5 1 rfl rfl rfl rfl (hO ?_)
   refine rn tk 9 rfl ?_
   obtain ⟨v15,h16,hr⟩:=zaa hr
   refine cl (wJa _ _ h16) rfl rfl ?_
   refine rn tk 13 rfl ?_
   refine al1 hr (fun s17=> [(4, .ptr 4 0),(6, .ptr 6 0),(8, .ptr 90000000 0)]) (fun s17=> [(90000015, .row 5 false 1 (List.map cU s17.out)),(90000012, .row 3 true 1 (List.map cI s17.Client.Results)),(90000000, .cells [.s s17.Client.Name, .s s17.Client.Mail.Envelope.From, .l zca.pc s17.Client.Mail.Envelope.To, .s s17.Client.Mail.Envelope.Id, .l zfa.pc s17.Client.Mail.Message.Fields, .l cU s17.Client.Mail.Message.Body, .bo s17.Client.Pipelined, .l cU s17.Client.Buffer, .i s17.Client.Expected, .bo s17.Client.Whole, .bo s17.Client.Done, .hs 90000012 0, .l cU s17.content, .bo s17.chunk, .hs 90000015 0]),(6, .cells [.i 0, .i 0]),(4, .cells [.s (([]:Str)), .s (([]:Str)), .l zca.pc ([]), .s (([]:Str)), .l zfa.pc ([]), .l cU ([]), .bo false, .l cU ([]), .i 0, .bo false, .bo false, .l cI ([])])]) (.exit 0) (fun b18=> [(4, .ptr 4 0),(6, .ptr 6 0),(8, .ptr 90000000 0)]) (fun b18=> [(90000000, .cells [.s b18.Client.Name, .s b18.Client.Mail.Envelope.From, .l zca.pc b18.Client.Mail.Envelope.To, .s b18.Client.Mail.Envelope.Id, .l zfa.pc b18.Client.Mail.Message.Fields, .l cU b18.Client.Mail.Message.Body, .bo b18.Client.Pipelined, .l cU b18.Client.Buffer, .i b18.Client.Expected, .bo b18.Client.Whole, .bo b18.Client.Done, .hs 90000012 0, .l cU b18.content, .bo b18.chunk, .hs 90000015 0]),(90000012, .row 3 true 1 (List.map cI b18.Client.Results)),(90000015, .row 5 false 1 (List.map cU b18.out)),(6, .cells [.i 0, .i 0]),(4, .cells [.s (([]:Str)), .s (([]:Str)), .l zca.pc ([]), .s (([]:Str)), .l zfa.pc ([]), .l cU ([]), .bo false, .l cU ([]), .i 0, .bo false, .bo false, .l cI ([])])]) rfl rfl (fun s17 x19 hr=> ?_) (fun b18 hr=> ?_)
   ·
    unfold kSa at hr
    refine rn tk 1 rfl ?_
    refine jb hr (fun j20=> [(4, .ptr 4 0),(6, .ptr 6 0),(8, .ptr 90000000 0),(63, .bo j20.1)]) (fun j20=> [(90000000, .cells [.s j20.2.Client.Name, .s j20.2.Client.Mail.Envelope.From, .l zca.pc j20.2.Client.Mail.Envelope.To, .s j20.2.Client.Mail.Envelope.Id, .l zfa.pc j20.2.Client.Mail.Message.Fields, .l cU j20.2.Client.Mail.Message.Body, .bo j20.2.Client.Pipelined, .l cU j20.2.Client.Buffer, .i j20.2.Client.Expected, .bo j20.2.Client.Whole, .bo j20.2.Client.Done, .hs 90000012 0, .l cU j20.2.content, .bo j20.2.chunk, .hs 90000015 0]),(90000012, .row 3 true 1 (List.map cI j20.2.Client.Results)),(90000015, .row 5 false 1 (List.map cU j20.2.out)),(6, .cells [.i 0, .i 0]),(4, .cells [.s (([]:Str)), .s (([]:Str)), .l zca.pc ([]), .s (([]:Str)), .l zfa.pc ([]), .l cU ([]), .bo false, .l cU ([]), .i 0, .bo false, .bo false, .l cI ([])])]) (fun j20 hr=> ?_) (fun j20 hr=> ?_)
    ·
     refine rn tk 8 rfl ?_
     refine bs 60 hr rfl (fun c21 hr=> ?_) (fun c21 hr=> ?_)
     ·
      refine rn tk 1 rfl ?_
      obtain ⟨v22,h23,hr⟩:=zaa hr
      refine ug rfl rfl rfl ?_
      refine wo (zAa (k:=62) (yra s17 v22 h23) rfl rfl (zba rfl (zba rfl (zba rfl zga)))) rfl ?_
      refine rn tk 2 rfl ?_
      cases hr
      exact jn _ rfl rfl rfl
     ·
      refine rn tk 4 rfl ?_
      cases hr
      exact jn _ rfl rfl rfl
    ·
     refine ac 63 hr rfl (fun c24 hr=> ?_) (fun c24 hr=> ?_)
     ·
      refine rn tk 5 rfl ?_
      cases hr
      exact atc rfl rfl
     ·
      refine rn tk 2 rfl ?_
      cases hr
      exact ato rfl rfl rfl rfl
   ·
    refine rn tk 2 rfl ?_
    refine jb hr (fun j25=> [(4, .ptr 4 0),(6, .ptr 6 0),(8, .ptr 90000000 0)]) (fun j25=> [(90000000, .cells [.s j25.Client.Name, .s j25.Client.Mail.Envelope.From, .l zca.pc j25.Client.Mail.Envelope.To, .s j25.Client.Mail.Envelope.Id, .l zfa.pc j25.Client.Mail.Message.Fields, .l cU j25.Client.Mail.Message.Body, .bo j25.Client.Pipelined, .l cU j25.Client.Buffer, .i j25.Client.Expected, .bo j25.Client.Whole, .bo j25.Client.Done, .hs 90000012 0, .l cU j25.content, .bo j25.chunk, .hs 90000015 0]),(90000012, .row 3 true 1 (List.map cI j25.Client.Results)),(90000015, .row 5 false 1 (List.map cU j25.out)),(6, .cells [.i 0, .i 0]),(4, .cells [.s (([]:Str)), .s (([]:Str)), .l zca.pc ([]), .s (([]:Str)), .l zfa.pc ([]), .l cU ([]), .bo false, .l cU ([]), .i 0, .bo false, .bo false, .l cI ([])])]) (fun j25 hr=> ?_) (fun j25 hr=> ?_)
    ·
     refine rn tk 8 rfl ?_
     refine ct hr (fun j26=> [(4, .ptr 4 0),(6, .ptr 6 0),(8, .ptr 90000000 0),(64, .ptr 90000000 0),(70, .l cU j26)]) (fun j26=> [(90000000, .cells [.s b18.Client.Name, .s b18.Client.Mail.Envelope.From, .l zca.pc b18.Client.Mail.Envelope.To, .s b18.Client.Mail.Envelope.Id, .l zfa.pc b18.Client.Mail.Message.Fields, .l cU b18.Client.Mail.Message.Body, .bo b18.Client.Pipelined, .l cU b18.Client.Buffer, .i b18.Client.Expected, .bo b18.Client.Whole, .bo b18.Client.Done, .hs 90000012 0, .l cU b18.content, .bo b18.chunk, .hs 90000015 0]),(90000012, .row 3 true 1 (List.map cI b18.Client.Results)),(90000015, .row 5 false 1 (List.map cU b18.out)),(6, .cells [.i 0, .i 0]),(4, .cells [.s (([]:Str)), .s (([]:Str)), .l zca.pc ([]), .s (([]:Str)), .l zfa.pc ([]), .l cU ([]), .bo false, .l cU ([]), .i 0, .bo false, .bo false, .l cI ([])])]) (fun j26 hr jump2=> ?_) (fun j26 hr=> ?_)
     ·
      refine il (fn:=Tryz.f37) (args:= [.l cU b18.Client.Buffer]) 200000 299999 [(4, .ptr 4 0),(6, .ptr 6 0),(8, .ptr 90000000 0),(64, .ptr 90000000 0)] rfl ⟨Tryz.func37,rfl,by kernel_rfl⟩ rfl rfl rfl fun T2 ds2=> ?_
      refine rn tk 9 rfl ?_
      refine wUa (d:=3) (F:=cU) (l:=b18.Client.Buffer) rfl rfl rfl zha (fun c27=> hO ?_) (hO ?_)
      ·
       replace hr:=j9a c27 hr
       refine rn tk 10 rfl ?_
       refine ie tk [.pv (.sl (some true) [])] [(4, .ptr 4 0),(6, .ptr 6 0),(8, .ptr 90000000 0),(64, .ptr 90000000 0)] [(90000000, .cells [.s b18.Client.Name, .s b18.Client.Mail.Envelope.From, .l zca.pc b18.Client.Mail.Envelope.To, .s b18.Client.Mail.Envelope.Id, .l zfa.pc b18.Client.Mail.Message.Fields, .l cU b18.Client.Mail.Message.Body, .bo b18.Client.Pipelined, .l cU b18.Client.Buffer, .i b18.Client.Expected, .bo b18.Client.Whole, .bo b18.Client.Done, .hs 90000012 0, .l cU b18.content, .bo b18.chunk, .hs 90000015 0]),(90000012, .row 3 true 1 (List.map cI b18.Client.Results)),(90000015, .row 5 false 1 (List.map cU b18.out)),(6, .cells [.i 0, .i 0]),(4, .cells [.s (([]:Str)), .s (([]:Str)), .l zca.pc ([]), .s (([]:Str)), .l zfa.pc ([]), .l cU ([]), .bo false, .l cU ([]), .i 0, .bo false, .bo false, .l cI ([])])] (.inr rfl) rfl rfl rfl rfl ?_
       cases hr
       exact jump2 _ _ rfl rfl
      ·
       replace hr:=Zaa hr
       refine rn tk 7 rfl ?_
       refine wo (yKa (k:=5) rfl zha zua) rfl ?_
       refine rn tk 1 rfl ?_
       obtain ⟨v28,h29,hr⟩:=zaa hr
       refine wo (vMa (k:=7) (F:=cU) (xs:=b18.Client.Buffer) (lim:=140737488355328) 1002 rfl rfl rfl zha zua rfl rfl (fun _=> rfl) rfl rfl rfl h29) rfl ?_
       refine rn tk 3 rfl ?_
       refine yga 1002 rfl (hC ?_)
       refine vBa (d:=2) (F:=cU) (l:=v28) rfl rfl (hC ?_)
       refine rn tk 1 rfl ?_
       refine ie tk [.l cU v28] [(4, .ptr 4 0),(6, .ptr 6 0),(8, .ptr 90000000 0),(64, .ptr 90000000 0)] [(1002, .row 5 false 1 (List.map cU v28)),(90000000, .cells [.s b18.Client.Name, .s b18.Client.Mail.Envelope.From, .l zca.pc b18.Client.Mail.Envelope.To, .s b18.Client.Mail.Envelope.Id, .l zfa.pc b18.Client.Mail.Message.Fields, .l cU b18.Client.Mail.Message.Body, .bo b18.Client.Pipelined, .l cU b18.Client.Buffer, .i b18.Client.Expected, .bo b18.Client.Whole, .bo b18.Client.Done, .hs 90000012 0, .l cU b18.content, .bo b18.chunk, .hs 90000015 0]),(90000012, .row 3 true 1 (List.map cI b18.Client.Results)),(90000015, .row 5 false 1 (List.map cU b18.out)),(6, .cells [.i 0, .i 0]),(4, .cells [.s (([]:Str)), .s (([]:Str)), .l zca.pc ([]), .s (([]:Str)), .l zfa.pc ([]), .l cU ([]), .bo false, .l cU ([]), .i 0, .bo false, .bo false, .l cI ([])])] (.inr rfl) rfl rfl rfl rfl ?_
       cases hr
       exact jump2 _ _ rfl rfl
     ·
      refine rn tk 15 rfl ?_
      refine ac 78 hr rfl (fun c30 hr=> ?_) (fun c30 hr=> ?_)
      ·
       refine rn tk 7 rfl ?_
       cases hr
       exact jn _ rfl rfl rfl
      ·
       refine rn tk 1 rfl ?_
       cases hr
       exact jn _ rfl rfl rfl
    ·
     refine rn tk 1 rfl ?_
     obtain ⟨v31,h32,hr⟩:=zaa hr
     refine drX 9 10 6 73 [4,5,6,7] [(91, .agg [.i v31.Code, .i v31.Index]),(90, .hs 90000015 0),(89, .ptr 90000000 14),(88, .ptr 90000000 0),(87, .ptr 90000000 0),(86, .agg [.s j25.Client.Name, .s j25.Client.Mail.Envelope.From, .l zca.pc j25.Client.Mail.Envelope.To, .s j25.Client.Mail.Envelope.Id, .l zfa.pc j25.Client.Mail.Message.Fields, .l cU j25.Client.Mail.Message.Body, .bo j25.Client.Pipelined, .l cU j25.Client.Buffer, .i j25.Client.Expected, .bo j25.Client.Whole, .bo j25.Client.Done, .hs 90000012 0]),(85, .ptr 90000000 0),(84, .ptr 90000000 0),(83, .ptr 90000000 0)] [(4, .ptr 4 0),(6, .ptr 6 0),(90, .hs 90000015 0),(91, .agg [.i v31.Code, .i v31.Index])] [(90000000, .cells [.s j25.Client.Name, .s j25.Client.Mail.Envelope.From, .l zca.pc j25.Client.Mail.Envelope.To, .s j25.Client.Mail.Envelope.Id, .l zfa.pc j25.Client.Mail.Message.Fields, .l cU j25.Client.Mail.Message.Body, .bo j25.Client.Pipelined, .l cU j25.Client.Buffer, .i j25.Client.Expected, .bo j25.Client.Whole, .bo j25.Client.Done, .hs 90000012 0, .l cU j25.content, .bo j25.chunk, .hs 90000015 0]),(90000012, .row 3 true 1 (List.map cI j25.Client.Results)),(90000015, .row 5 false 1 (List.map cU j25.out)),(6, .cells [.i 0, .i 0]),(4, .cells [.s j25.Client.Name, .s j25.Client.Mail.Envelope.From, .l zca.pc j25.Client.Mail.Envelope.To, .s j25.Client.Mail.Envelope.Id, .l zfa.pc j25.Client.Mail.Message.Fields, .l cU j25.Client.Mail.Message.Body, .bo j25.Client.Pipelined, .l cU j25.Client.Buffer, .i j25.Client.Expected, .bo j25.Client.Whole, .bo j25.Client.Done, .hs 90000012 0])] tk mixed (by kernel_rfl) rfl rfl rfl (pqX tk rfl (.plain rfl) (pqX tk rfl (.plain rfl) (pqX tk rfl (.plain rfl) (pqX tk rfl (.plain rfl) (pqX tk rfl (.plain rfl) (pqX tk rfl (.plain rfl) (pqX tk rfl (.plain rfl) (pqX tk rfl (.plain rfl) (.run (.plain rfl) (qGa (zEa v31 h32) rfl) .nil))))))))) rfl rfl rfl rfl (by kernel_rfl) ?_
     refine rn tk 4 rfl ?_
     refine yga 90000012 rfl (hC ?_)
     refine Koa (o:=4) (j:=11) (F:=cI) (l:=j25.Client.Results) rfl rfl rfl (hC ?_)
     refine vBa (d:=5) (F:=cU) (l:=j25.out) rfl rfl (hC ?_)
     refine rn tk 1 rfl ?_
     cases hr
     exact kr tk (.inr rfl) rfl rfl
theorem Kna (a0:Str) (a1:kla) (a2:Bool) (r:zja × zsa) (hr:vSa a0 a1 a2=some r):Run Tryz.prog 7 [.s a0, .agg [.s a1.Envelope.From, .l zca.pc a1.Envelope.To, .s a1.Envelope.Id, .l zfa.pc a1.Message.Fields, .l cU a1.Message.Body], .bo a2] (.tup [.agg [.s r.1.Name, .s r.1.Mail.Envelope.From, .l zca.pc r.1.Mail.Envelope.To, .s r.1.Mail.Envelope.Id, .l zfa.pc r.1.Mail.Message.Fields, .l cU r.1.Mail.Message.Body, .bo r.1.Pipelined, .l cU r.1.Buffer, .i r.1.Expected, .bo r.1.Whole, .bo r.1.Done, .l cI r.1.Results], .agg [.i r.2.Code, .i r.2.Index]]):=by
 unfold vSa at hr
 refine rf (fn:=Tryz.f7) ⟨Tryz.func7,rfl,by kernel_rfl⟩ rfl (fun _=> rfl) fun g0 hg=> ?_
 refine rn tk 12 rfl ?_
 obtain ⟨v1,h2,hr⟩:=zaa hr
 refine cl (yva _ _ _ h2) rfl rfl ?_
 refine rn tk 7 rfl ?_
 obtain ⟨v3,h4,hr⟩:=zaa hr
 refine cl (zKa _ _ h4) rfl rfl ?_
 refine rn tk 2 rfl ?_
 refine ac 13 hr rfl (fun c5 hr=> ?_) (fun c5 hr=> ?_)
 ·
  refine rn tk 1 rfl ?_
  refine drX 2 3 3 3 [1] [(15, .agg [.i v1.Code, .i v1.Index]),(14, .agg [.s (([]:Str)), .s (([]:Str)), .pv (.sl (some true) []), .s (([]:Str)), .pv (.sl (some true) []), .pv (.sl (some true) []), .bo false, .pv (.sl (some true) []), .i 0, .bo false, .bo false, .pv (.sl (some true) [])])] [(6, .ptr 6 0),(7, .ptr 7 0),(15, .agg [.i v1.Code, .i v1.Index])] [(8, .cells [.i v1.Code, .i v1.Index]),(7, .cells [.i 0, .i 0]),(6, .cells [.s (([]:Str)), .s (([]:Str)), .pv (.sl (some true) []), .s (([]:Str)), .pv (.sl (some true) []), .pv (.sl (some true) []), .bo false, .pv (.sl (some true) []), .i 0, .bo false, .bo false, .pv (.sl (some true) [])]),(4, .cells [.s a1.Envelope.From, .l zca.pc a1.Envelope.To, .s a1.Envelope.Id, .l zfa.pc a1.Message.Fields, .l cU a1.Message.Body])] tk mixed (by kernel_rfl) rfl rfl rfl (pqX tk rfl (.plain rfl) (pqX tk rfl (.plain rfl) .nil)) rfl rfl rfl rfl (by kernel_rfl) ?_
  refine rn tk 5 rfl ?_
  cases hr
  exact kr tk (.inr rfl) rfl rfl
 ·
  refine rn tk 3 rfl ?_
  obtain ⟨v6,h7,hr⟩:=zaa hr
  obtain ⟨v8,h9,hr⟩:=zaa hr
  obtain ⟨v10,h11,hr⟩:=zaa hr
  refine dr 11 [(26, .agg [.i v10.Code, .i v10.Index]),(25, .agg [.s a0, .s v6.Envelope.From, .l zca.pc v6.Envelope.To, .s v6.Envelope.Id, .l zfa.pc v6.Message.Fields, .l cU v6.Message.Body, .bo a2, .pv (.sl (some true) []), .i 0, .bo false, .bo false, .l cI v8]),(24, .l cI v8),(23, .i ((a1.Envelope.To.length:Int))),(22, .l zca.pc a1.Envelope.To),(21, .ptr 4 1),(20, .ptr 4 0),(19, .bo a2),(18, .agg [.s v6.Envelope.From, .l zca.pc v6.Envelope.To, .s v6.Envelope.Id, .l zfa.pc v6.Message.Fields, .l cU v6.Message.Body]),(17, .agg [.s a1.Envelope.From, .l zca.pc a1.Envelope.To, .s a1.Envelope.Id, .l zfa.pc a1.Message.Fields, .l cU a1.Message.Body]),(16, .s a0)] mixed (by kernel_rfl) rfl rfl (pq tk rfl (.plain rfl) (pq tk rfl (.plain rfl) (.run (.plain rfl) (qGa (vIa a1 v6 h7) rfl) (pq tk rfl (.plain rfl) (pq tk rfl (.plain rfl) (pq tk rfl (.plain rfl) (pq tk rfl (.plain rfl) (.run (.plain rfl) (wMa (vWa (f:=zca.pc) rfl kda.u)) (.run (.plain rfl) (opG_make (F:=cI) (z:=(0:Int)) (lim:=17592186044416) rfl q0a vla (fun _=> rfl) rfl rfl rfl h9) (pq tk rfl (.plain rfl) (.run (.plain rfl) (qGa (zEa v10 h11) rfl) .nil))))))))))) rfl ?_
  refine rn tk 5 rfl ?_
  cases hr
  exact kr tk (.inr rfl) rfl rfl
theorem Z9a (r:Bool) (hr:jea=some r):Run Tryz.prog 11 [] (.bo r):=by
 unfold jea at hr
 refine rf (fn:=Tryz.f11) ⟨Tryz.func11,rfl,by kernel_rfl⟩ rfl (fun _=> rfl) fun g0 hg=> ?_
 refine rn tk 7 rfl ?_
 refine wz cS ([([97,64,121]:Str)]:List Str) tk rfl rfl (fun _=> rfl) rfl rfl rfl ?_
 obtain ⟨v1,h2,hr⟩:=zaa hr
 refine cl (WEa _ _ h2) rfl rfl ?_
 obtain ⟨v3,h4,hr⟩:=zaa hr
 refine cl (Kna _ _ _ _ h4) rfl rfl ?_
 refine rn tk 12 rfl ?_
 refine qta rfl (wCa (F:=cU) (l:=([(50:UInt8),(50:UInt8),(48:UInt8),(32:UInt8),(109:UInt8),(120:UInt8),(13:UInt8),(10:UInt8)]:List UInt8)) zha zua rfl (fun _=> rfl) rfl (by kernel_rfl)) zha zua (zna rfl) (zna rfl) rfl (hO ?_)
 obtain ⟨v5,h6,hr⟩:=zaa hr
 refine cl (vxa _ _ _ h6) rfl rfl ?_
 refine rn tk 14 rfl ?_
 refine qta rfl (wCa (F:=cU) (l:=([(50:UInt8),(53:UInt8),(48:UInt8),(45:UInt8),(109:UInt8),(120:UInt8),(13:UInt8),(10:UInt8),(50:UInt8),(53:UInt8),(48:UInt8),(32:UInt8),(111:UInt8),(107:UInt8),(13:UInt8),(10:UInt8)]:List UInt8)) zha zua rfl (fun _=> rfl) rfl (by kernel_rfl)) zha zua (zna rfl) (zna rfl) rfl (hO ?_)
 obtain ⟨v7,h8,hr⟩:=zaa hr
 refine cl (vxa _ _ _ h8) rfl rfl ?_
 refine rn tk 14 rfl ?_
 obtain ⟨v9,h10,hr⟩:=zaa hr
 refine cl (Kja _ _ h10) rfl rfl ?_
 refine rn tk 9 rfl ?_
 refine jb hr (fun j11=> [(0, .bo j11)]) (fun j11=> []) (fun j11 hr=> ?_) (fun j11 hr=> ?_)
 ·
  refine rn tk 5 rfl ?_
  refine bs 41 hr rfl (fun c12 hr=> ?_) (fun c12 hr=> ?_)
  ·
   refine rn tk 5 rfl ?_
   refine bs 46 hr rfl (fun c13 hr=> ?_) (fun c13 hr=> ?_)
   ·
    refine rn tk 5 rfl ?_
    refine bs 51 hr rfl (fun c14 hr=> ?_) (fun c14 hr=> ?_)
    ·
     refine rn tk 5 rfl ?_
     refine bs 56 hr rfl (fun c15 hr=> ?_) (fun c15 hr=> ?_)
     ·
      refine rn tk 1 rfl ?_
      refine ug rfl rfl rfl ?_
      refine wb tk rfl rfl rfl ?_
      refine rn tk 3 rfl ?_
      refine bs 61 hr rfl (fun c16 hr=> ?_) (fun c16 hr=> ?_)
      ·
       refine rn tk 1 rfl ?_
       refine ug rfl rfl rfl ?_
       refine wb tk rfl rfl rfl ?_
       refine rn tk 3 rfl ?_
       refine bs 66 hr rfl (fun c17 hr=> ?_) (fun c17 hr=> ?_)
       ·
        refine rn tk 5 rfl ?_
        refine bs 71 hr rfl (fun c18 hr=> ?_) (fun c18 hr=> ?_)
        ·
         refine rn tk 4 rfl ?_
         refine bs 75 hr rfl (fun c19 hr=> ?_) (fun c19 hr=> ?_)
         ·
          refine rn tk 2 rfl ?_
          refine ug rfl rfl rfl ?_
          refine wz cI ([2]:List Int) tk rfl rfl (fun _=> rfl) rfl rfl rfl ?_
          obtain ⟨v20,h21,hr⟩:=zaa hr
          refine ug rfl rfl rfl ?_
          refine cl (QYa _ _ _ h21) rfl rfl ?_
          refine rn tk 3 rfl ?_
          cases hr
          exact jn _ rfl rfl rfl
         ·
          refine rn tk 7 rfl ?_
          cases hr
          exact jn _ rfl rfl rfl
        ·
         refine rn tk 11 rfl ?_
         cases hr
         exact jn _ rfl rfl rfl
       ·
        refine rn tk 16 rfl ?_
        cases hr
        exact jn _ rfl rfl rfl
      ·
       refine rn tk 21 rfl ?_
       cases hr
       exact jn _ rfl rfl rfl
     ·
      refine rn tk 26 rfl ?_
      cases hr
      exact jn _ rfl rfl rfl
    ·
     refine rn tk 31 rfl ?_
     cases hr
     exact jn _ rfl rfl rfl
   ·
    refine rn tk 36 rfl ?_
    cases hr
    exact jn _ rfl rfl rfl
  ·
   refine rn tk 41 rfl ?_
   cases hr
   exact jn _ rfl rfl rfl
 ·
  refine rn tk 1 rfl ?_
  cases hr
  exact kr tk (.inr rfl) rfl rfl
theorem w5a (a0:zja) (a1:List UInt8) (a2:List UInt8) (r:Bool) (hr:kZa a0 a1 a2=some r):Run Tryz.prog 6 [.agg [.s a0.Name, .s a0.Mail.Envelope.From, .l zca.pc a0.Mail.Envelope.To, .s a0.Mail.Envelope.Id, .l zfa.pc a0.Mail.Message.Fields, .l cU a0.Mail.Message.Body, .bo a0.Pipelined, .l cU a0.Buffer, .i a0.Expected, .bo a0.Whole, .bo a0.Done, .l cI a0.Results], .l cU a1, .l cU a2] (.bo r):=by
 unfold kZa at hr
 refine rf (fn:=Tryz.f6) ⟨Tryz.func6,rfl,by kernel_rfl⟩ rfl (fun _=> rfl) fun g0 hg=> ?_
 refine rn tk 10 rfl ?_
 obtain ⟨v1,h2,hr⟩:=zaa hr
 refine cl (vxa _ _ _ h2) rfl rfl ?_
 refine rn tk 12 rfl ?_
 refine jb hr (fun j3=> [(2, .l cU a2),(3, .ptr 3 0),(7, .ptr 7 0),(9, .ptr 9 0),(36, .bo j3)]) (fun j3=> [(9, .cells [.i v1.2.2.Code, .i v1.2.2.Index]),(7, .cells [.s v1.1.Name, .s v1.1.Mail.Envelope.From, .l zca.pc v1.1.Mail.Envelope.To, .s v1.1.Mail.Envelope.Id, .l zfa.pc v1.1.Mail.Message.Fields, .l cU v1.1.Mail.Message.Body, .bo v1.1.Pipelined, .l cU v1.1.Buffer, .i v1.1.Expected, .bo v1.1.Whole, .bo v1.1.Done, .l cI v1.1.Results]),(3, .cells [.s a0.Name, .s a0.Mail.Envelope.From, .l zca.pc a0.Mail.Envelope.To, .s a0.Mail.Envelope.Id, .l zfa.pc a0.Mail.Message.Fields, .l cU a0.Mail.Message.Body, .bo a0.Pipelined, .l cU a0.Buffer, .i a0.Expected, .bo a0.Whole, .bo a0.Done, .l cI a0.Results])]) (fun j3 hr=> ?_) (fun j3 hr=> ?_)
 ·
  refine rn tk 1 rfl ?_
  obtain ⟨v4,h5,hr⟩:=zaa hr
  refine cl (Z9a _ h5) rfl rfl ?_
  refine rn tk 2 rfl ?_
  refine bs 23 hr rfl (fun c6 hr=> ?_) (fun c6 hr=> ?_)
  ·
   refine rn tk 14 rfl ?_
   cases hr
   exact jn _ rfl rfl rfl
  ·
   refine rn tk 5 rfl ?_
   refine bs 28 hr rfl (fun c7 hr=> ?_) (fun c7 hr=> ?_)
   ·
    refine rn tk 9 rfl ?_
    cases hr
    exact jn _ rfl rfl rfl
   ·
    refine rn tk 2 rfl ?_
    refine ug rfl rfl rfl ?_
    refine wn tk rfl rfl rfl ?_
    refine rn tk 2 rfl ?_
    refine ug rfl rfl rfl ?_
    refine wn tk rfl rfl rfl ?_
    refine rn tk 3 rfl ?_
    cases hr
    exact jn _ rfl rfl rfl
 ·
  refine ac 36 hr rfl (fun c8 hr=> ?_) (fun c8 hr=> ?_)
  ·
   refine jb hr (fun j9=> [(6, .bo j9)]) (fun j9=> []) (fun j9 hr=> ?_) (fun j9 hr=> ?_)
   ·
    refine rn tk 1 rfl ?_
    obtain ⟨v10,h11,hr⟩:=zaa hr
    refine cl (Z9a _ h11) rfl rfl ?_
    refine rn tk 1 rfl ?_
    refine bs 38 hr rfl (fun c12 hr=> ?_) (fun c12 hr=> ?_)
    ·
     refine rn tk 5 rfl ?_
     refine bs 43 hr rfl (fun c13 hr=> ?_) (fun c13 hr=> ?_)
     ·
      refine rn tk 2 rfl ?_
      refine ug rfl rfl rfl ?_
      refine wn tk rfl rfl rfl ?_
      refine rn tk 4 rfl ?_
      cases hr
      exact jn _ rfl rfl rfl
     ·
      refine rn tk 7 rfl ?_
      cases hr
      exact jn _ rfl rfl rfl
    ·
     refine rn tk 12 rfl ?_
     cases hr
     exact jn _ rfl rfl rfl
   ·
    refine rn tk 2 rfl ?_
    cases hr
    exact kr tk (.inr rfl) rfl rfl
  ·
   refine rn tk 9 rfl ?_
   refine al2 hr (fun s14=> [(2, .l cU a2),(3, .ptr 3 0),(7, .ptr 7 0),(10, .i s14)]) (fun s14=> [(7, .cells [.s v1.1.Name, .s v1.1.Mail.Envelope.From, .l zca.pc v1.1.Mail.Envelope.To, .s v1.1.Mail.Envelope.Id, .l zfa.pc v1.1.Mail.Message.Fields, .l cU v1.1.Mail.Message.Body, .bo v1.1.Pipelined, .l cU v1.1.Buffer, .i v1.1.Expected, .bo v1.1.Whole, .bo v1.1.Done, .l cI v1.1.Results]),(3, .cells [.s a0.Name, .s a0.Mail.Envelope.From, .l zca.pc a0.Mail.Envelope.To, .s a0.Mail.Envelope.Id, .l zfa.pc a0.Mail.Message.Fields, .l cU a0.Mail.Message.Body, .bo a0.Pipelined, .l cU a0.Buffer, .i a0.Expected, .bo a0.Whole, .bo a0.Done, .l cI a0.Results])]) (.exit 0) (fun b15=> [(2, .l cU a2),(7, .ptr 7 0)]) (fun b15=> [(7, .cells [.s v1.1.Name, .s v1.1.Mail.Envelope.From, .l zca.pc v1.1.Mail.Envelope.To, .s v1.1.Mail.Envelope.Id, .l zfa.pc v1.1.Mail.Message.Fields, .l cU v1.1.Mail.Message.Body, .bo v1.1.Pipelined, .l cU v1.1.Buffer, .i v1.1.Expected, .bo v1.1.Whole, .bo v1.1.Done, .l cI v1.1.Results])]) .ret (fun b16=> [(6, .bo b16)]) (fun b16=> []) rfl rfl (fun s14 x18 hr=> ?_) (fun b15 hr=> ?_) (fun b16 hr=> ?_)
   ·
    unfold kAa at hr
    refine rn tk 6 rfl ?_
    refine wn tk rfl rfl rfl ?_
    refine rn tk 3 rfl ?_
    refine ac 53 hr rfl (fun c19 hr=> ?_) (fun c19 hr=> ?_)
    ·
     refine rn tk 4 rfl ?_
     refine jb hr (fun j20=> [(2, .l cU a2),(3, .ptr 3 0),(7, .ptr 7 0),(10, .i s14),(74, .bo j20)]) (fun j20=> [(7, .cells [.s v1.1.Name, .s v1.1.Mail.Envelope.From, .l zca.pc v1.1.Mail.Envelope.To, .s v1.1.Mail.Envelope.Id, .l zfa.pc v1.1.Mail.Message.Fields, .l cU v1.1.Mail.Message.Body, .bo v1.1.Pipelined, .l cU v1.1.Buffer, .i v1.1.Expected, .bo v1.1.Whole, .bo v1.1.Done, .l cI v1.1.Results]),(3, .cells [.s a0.Name, .s a0.Mail.Envelope.From, .l zca.pc a0.Mail.Envelope.To, .s a0.Mail.Envelope.Id, .l zfa.pc a0.Mail.Message.Fields, .l cU a0.Mail.Message.Body, .bo a0.Pipelined, .l cU a0.Buffer, .i a0.Expected, .bo a0.Whole, .bo a0.Done, .l cI a0.Results])]) (fun j20 hr=> ?_) (fun j20 hr=> ?_)
     ·
      obtain ⟨v21,h22,hr⟩:=zaa hr
      refine wVa ((v21 !=0)) (fun c23=> ?_) (fun c23=> ?_)
      ·
       replace hr:=j3a c23 hr
       obtain ⟨v24,h25,hr⟩:=zaa hr
       obtain ⟨v26,h27,hr⟩:=zaa hr
       refine dr 17 [(72, .i v26),(71, .ep [pI v26]),(70, .i s14),(69, .l cI a0.Results),(68, .ptr 3 11),(67, .i v24),(66, .ep [pI v24]),(65, .i s14),(64, .l cI v1.1.Results),(63, .ptr 7 11),(62, .bo ((v21 !=0))),(61, .bo ((v21 !=0))),(60, .i v21),(59, .ep [pI v21]),(58, .i s14),(57, .l cI a0.Results),(56, .ptr 3 11)] mixed (by kernel_rfl) rfl rfl (pq tk rfl (.plain rfl) (pq tk rfl (.plain rfl) (pq tk rfl (.plain rfl) (.run (.plain rfl) (wMa (ZXa (f:=cI) rfl rfl q0a vla rfl h22)) (pq tk rfl (.plain rfl) (pq tk rfl (.plain rfl) (pq tk rfl (.plain rfl) (pq tk rfl (.yes (d:=62) rfl rfl rfl c23) (pq tk rfl (.yes (d:=62) rfl rfl rfl c23) (pq tk rfl (.yes (d:=62) rfl rfl rfl c23) (.run (.yes (d:=62) rfl rfl rfl c23) (wMa (ZXa (f:=cI) rfl rfl q0a vla rfl h25)) (pq tk rfl (.yes (d:=62) rfl rfl rfl c23) (pq tk rfl (.yes (d:=62) rfl rfl rfl c23) (pq tk rfl (.yes (d:=62) rfl rfl rfl c23) (pq tk rfl (.yes (d:=62) rfl rfl rfl c23) (.run (.yes (d:=62) rfl rfl rfl c23) (wMa (ZXa (f:=cI) rfl rfl q0a vla rfl h27)) (pq tk rfl (.yes (d:=62) rfl rfl rfl c23) .nil))))))))))))))))) rfl ?_
       refine kn 62 c23 rfl ?_
       refine rn tk 3 rfl ?_
       cases hr
       exact jn _ rfl rfl rfl
      ·
       replace hr:=j4a c23 hr
       refine dr 17 [(72, .tup []),(71, .tup []),(70, .tup []),(69, .tup []),(68, .tup []),(67, .tup []),(66, .tup []),(65, .tup []),(64, .tup []),(63, .tup []),(62, .bo ((v21 !=0))),(61, .bo ((v21 !=0))),(60, .i v21),(59, .ep [pI v21]),(58, .i s14),(57, .l cI a0.Results),(56, .ptr 3 11)] mixed (by kernel_rfl) rfl rfl (pq tk rfl (.plain rfl) (pq tk rfl (.plain rfl) (pq tk rfl (.plain rfl) (.run (.plain rfl) (wMa (ZXa (f:=cI) rfl rfl q0a vla rfl h22)) (pq tk rfl (.plain rfl) (pq tk rfl (.plain rfl) (pq tk rfl (.plain rfl) (.skip (.no (d:=62) rfl rfl rfl c23) (.skip (.no (d:=62) rfl rfl rfl c23) (.skip (.no (d:=62) rfl rfl rfl c23) (.skip (.no (d:=62) rfl rfl rfl c23) (.skip (.no (d:=62) rfl rfl rfl c23) (.skip (.no (d:=62) rfl rfl rfl c23) (.skip (.no (d:=62) rfl rfl rfl c23) (.skip (.no (d:=62) rfl rfl rfl c23) (.skip (.no (d:=62) rfl rfl rfl c23) (.skip (.no (d:=62) rfl rfl rfl c23) .nil))))))))))))))))) rfl ?_
       refine kn 62 c23 rfl ?_
       refine rn tk 3 rfl ?_
       cases hr
       exact jn _ rfl rfl rfl
     ·
      refine ac 74 hr rfl (fun c28 hr=> ?_) (fun c28 hr=> ?_)
      ·
       refine rn tk 8 rfl ?_
       cases hr
       exact ato rfl rfl rfl rfl
      ·
       refine rn tk 8 rfl ?_
       cases hr
       exact atc rfl rfl
    ·
     refine rn tk 2 rfl ?_
     cases hr
     exact ato rfl rfl rfl rfl
   ·
    refine rn tk 10 rfl ?_
    refine ac 77 hr rfl (fun c29 hr=> ?_) (fun c29 hr=> ?_)
    ·
     refine rn tk 7 rfl ?_
     cases hr
     exact kr tk (.inr rfl) rfl rfl
    ·
     refine rn tk 6 rfl ?_
     obtain ⟨v30,h31,hr⟩:=zaa hr
     refine cl (vxa _ _ _ h31) rfl rfl ?_
     refine rn tk 11 rfl ?_
     refine jb hr (fun j32=> [(6, .bo j32)]) (fun j32=> []) (fun j32 hr=> ?_) (fun j32 hr=> ?_)
     ·
      refine rn tk 2 rfl ?_
      refine wn tk rfl rfl rfl ?_
      refine rn tk 2 rfl ?_
      refine bs 88 hr rfl (fun c33 hr=> ?_) (fun c33 hr=> ?_)
      ·
       refine rn tk 18 rfl ?_
       cases hr
       exact jn _ rfl rfl rfl
      ·
       refine rn tk 4 rfl ?_
       refine bs 92 hr rfl (fun c34 hr=> ?_) (fun c34 hr=> ?_)
       ·
        refine rn tk 1 rfl ?_
        refine ug rfl rfl rfl ?_
        refine wn tk rfl rfl rfl ?_
        refine rn tk 3 rfl ?_
        refine bs 97 hr rfl (fun c35 hr=> ?_) (fun c35 hr=> ?_)
        ·
         refine rn tk 4 rfl ?_
         obtain ⟨v36,h37,hr⟩:=zaa hr
         refine ug rfl rfl rfl ?_
         refine cl (QYa _ _ _ h37) rfl rfl ?_
         refine rn tk 4 rfl ?_
         cases hr
         exact jn _ rfl rfl rfl
        ·
         refine rn tk 9 rfl ?_
         cases hr
         exact jn _ rfl rfl rfl
       ·
        refine rn tk 14 rfl ?_
        cases hr
        exact jn _ rfl rfl rfl
     ·
      refine rn tk 1 rfl ?_
      cases hr
      exact kr tk (.inr rfl) rfl rfl
   ·
    refine rn tk 2 rfl ?_
    cases hr
    exact kr tk (.inr rfl) rfl rfl
end Go.Proofs.YtjnmamghadpedaaGreatDoor
namespace Go.Proofs.YtjnmamghadpedaaGreatDoor.clientResultsStay
open Go.ChangeShapes Go.WideShapes Go.ChangeAt Go.RowKit
set_option maxRecDepth 100000
theorem contract (H:Type) (enc:TypeId × Value→H) (W:World) (base:Nat) (args:Array Value) (ds gs:List (DataW H)) (before:List MemPlace)
  (hval:∀(j:Nat) t v,Tryz.f6.params[j]? =some t→args[j]? =some v→Value.okWide Tryz.prog W .any base t v)
  (hW:DataW.Whole enc Tryz.prog Tryz.f6.params.toList Rows.clientResultsStaySpec.vars false W args.toList ds gs before) (hk:Rows.uptoSmall H (ds++gs)=true) (hgl:Gl (gAll W)):
  Calls Tryz.prog 6 args W fun e W' => ∃v,e= .returned v∧Rows.clientResultsStaySpec.post enc Tryz.prog Tryz.f6 false true false false W args v W' :=by
 have hW' :=hW
 obtain ⟨p,q,hA0,hV,rfl,hfz,hnd⟩:=hW
 have hA:DataW.TrodAll enc Tryz.prog W 0 (fun _=> true) true Tryz.f6.params.toList args.toList ds p:=hA0
 rw [Tryz.params6] at hA hval
 obtain ⟨v0,vs0,d0,ds0,p0,q0,hargs,rfl,rfl,h0,r0⟩:=trodAll_cons hA
 obtain ⟨v1,vs1,d1,ds1,p1,q1,rfl,rfl,rfl,h1,r1⟩:=trodAll_cons r0
 obtain ⟨v2,vs2,d2,ds2,p2,q2,rfl,rfl,rfl,h2,r2⟩:=trodAll_cons r1
 obtain ⟨rfl,rfl,rfl⟩:=trodAll_nil r2
 obtain rfl:args= #[v0,v1,v2]:=by cases args;simp_all
 obtain ⟨rfl,rfl⟩:=trodVars_none hV
 obtain ⟨a0,e0,o0,k0⟩:=arg_agg Vna (by obtain ⟨cs,h,_⟩:=okWide_struct yka.u (hval 0 _ v0 rfl rfl);exact ⟨cs,h⟩) h0
 obtain ⟨a1,e1,o1,k1⟩:=zEb v7a (by obtain ⟨_,_,_,h⟩:=okWide_slice zha.u (hval 1 _ v1 rfl rfl);rw [h];rfl) h1
 obtain ⟨a2,e2,o2,k2⟩:=zEb v7a (by obtain ⟨_,_,_,h⟩:=okWide_slice zha.u (hval 2 _ v2 rfl rfl);rw [h];rfl) h2
 have hk2:=of_decide_eq_true hk
 simp only [List.append_nil,Rows.uptoBulkAll] at hk2
 have ht:=wOa a0 a1 a2 o0 o1 o2 (by (try dsimp only);omega)
 have key:Calls Tryz.prog 6 #[v0,v1,v2] W fun e W' => e= .returned (.bool true)∧Below W.heap.size W W' :=V4a (w5a a0 a1 a2 true ht) hgl (Jra (.cons e0 (.cons (e1 _ rfl) (.cons (e2 _ rfl) .nil))))
 refine key.mono fun e W' ⟨he,hb⟩=> ⟨_,he, ?_⟩
 exact zFb laidOut (by kernel_rfl) Tryz.underlying4 (by kernel_rfl) rfl rfl hW' hb
noncomputable def wit (os:Os):World:=World.doorLaid Tryz.prog 62 os
theorem reads (os:Os) {H:Type} (enc:TypeId × Value→H):∃places,DataW.whole enc Tryz.prog ((wit os).forCall (fun _ _=> 0) ⟨#[], #[.agg #[.string ⟨#[]⟩, .string ⟨#[]⟩, .slice none 0 0, .string ⟨#[]⟩, .slice none 0 0, .slice none 0 0, .bool false, .slice none 0 0, .int .i64 0, .bool false, .bool false, .slice none 0 0], .slice none 0 0, .slice none 0 0], []⟩).memory Tryz.f6.params.toList (Rows.OpenSpec.upto Rows.clientResultsStaySpec).vars false (#[.agg #[.string ⟨#[]⟩, .string ⟨#[]⟩, .slice none 0 0, .string ⟨#[]⟩, .slice none 0 0, .slice none 0 0, .bool false, .slice none 0 0, .int .i64 0, .bool false, .bool false, .slice none 0 0], .slice none 0 0, .slice none 0 0]:Array Value).toList 8=some ([.agg [.lit (.string []), .agg [.agg [.lit (.string []), .nil, .lit (.string [])], .agg [.nil, .nil]], .lit (.bool false), .nil, .lit (.int .i64 0), .lit (.bool false), .lit (.bool false), .nil], .nil, .nil], [],places):=
 ⟨[],by kernel_rfl⟩
theorem lifted (os:Os) (started:os.Started) (H:Type) (enc:TypeId × Value→H) (F:Stop.Interp):
  ReturnsInHanded {} Tryz.checked os 6 .any ((Rows.OpenSpec.upto Rows.clientResultsStaySpec).preRow enc Tryz.prog Tryz.f6 Rows.clientResultsStayUptoRow.domain false Rows.clientResultsStayUptoRow.laid) (((Rows.OpenSpec.upto Rows.clientResultsStaySpec).at F).post enc Tryz.prog Tryz.f6 false true false false):=by
 obtain ⟨places,hx⟩:=reads os enc
 refine returnsInHanded_of_row (C:=Tryz.checked) (s:=Rows.OpenSpec.upto Rows.clientResultsStaySpec) own started (by kernel_rfl) Tryz.func6
  (witness_row_atRef (enc:=enc) (C:=Tryz.checked) false (wit os) #[.agg #[.string ⟨#[]⟩, .string ⟨#[]⟩, .slice none 0 0, .string ⟨#[]⟩, .slice none 0 0, .slice none 0 0, .bool false, .slice none 0 0, .int .i64 0, .bool false, .bool false, .slice none 0 0], .slice none 0 0, .slice none 0 0] rfl (by kernel_rfl) (by kernel_rfl) (by kernel_rfl)
   (OpenSpec.preRow_of_cond 8 hx (by kernel_rfl) (fun k hk=> by cases hk;kernel_rfl) (by kernel_rfl) (laidMet_of_run' 8 (by kernel_rfl) (by kernel_rfl)))) ?_
 intro W base args ds gs before hval hW _ hk _ hL hsh _
 exact contract H enc W base args ds gs before hval hW (hk _ rfl) (Jsa (rest:=Rows.clientResultsStayUptoRow.laid.drop 3) hsh (by kernel_rfl) hL (fun hm=> Jta hm.tail.tail.tail.tail))
theorem j0:jf0 Tryz.pinned.checked.prog 6 Tryz.f6 (Rows.OpenSpec.upto Rows.clientResultsStaySpec).bare Rows.clientResultsStayUptoRow=true:=by kernel_rfl
theorem j1:jf1 Tryz.pinned.checked.prog 6 Tryz.f6 (Rows.OpenSpec.upto Rows.clientResultsStaySpec).bare Rows.clientResultsStayUptoRow=true:=by kernel_rfl
theorem j2:jf2 Tryz.pinned.checked.prog 6 Tryz.f6 (Rows.OpenSpec.upto Rows.clientResultsStaySpec).bare Rows.clientResultsStayUptoRow=true:=by kernel_rfl
theorem j3:jf3 Tryz.pinned.checked.prog 6 Tryz.f6 (Rows.OpenSpec.upto Rows.clientResultsStaySpec).bare Rows.clientResultsStayUptoRow=true:=by kernel_rfl
theorem j4:jf4 Tryz.pinned.checked.prog 6 Tryz.f6 (Rows.OpenSpec.upto Rows.clientResultsStaySpec).bare Rows.clientResultsStayUptoRow=true:=by kernel_rfl
theorem j5:jf5 Tryz.pinned.checked.prog 6 Tryz.f6 (Rows.OpenSpec.upto Rows.clientResultsStaySpec).bare Rows.clientResultsStayUptoRow=true:=by kernel_rfl
theorem j6:jf6 Tryz.pinned.checked.prog 6 Tryz.f6 (Rows.OpenSpec.upto Rows.clientResultsStaySpec).bare Rows.clientResultsStayUptoRow=true:=by kernel_rfl
theorem j7:jf7 Tryz.pinned.checked.prog 6 Tryz.f6 (Rows.OpenSpec.upto Rows.clientResultsStaySpec).bare Rows.clientResultsStayUptoRow=true:=by kernel_rfl
theorem j8:jf8 Tryz.pinned.checked.prog 6 Tryz.f6 (Rows.OpenSpec.upto Rows.clientResultsStaySpec).bare Rows.clientResultsStayUptoRow=true:=by kernel_rfl
theorem j9:jf9 Tryz.pinned.checked.prog 6 Tryz.f6 (Rows.OpenSpec.upto Rows.clientResultsStaySpec).bare Rows.clientResultsStayUptoRow=true:=by kernel_rfl
theorem j10:jf10 Tryz.pinned.checked.prog 6 Tryz.f6 (Rows.OpenSpec.upto Rows.clientResultsStaySpec).bare Rows.clientResultsStayUptoRow=true:=by kernel_rfl
theorem j11:jf11 Tryz.pinned.checked.prog 6 Tryz.f6 (Rows.OpenSpec.upto Rows.clientResultsStaySpec).bare Rows.clientResultsStayUptoRow=true:=by kernel_rfl
theorem j12:jf12 Tryz.pinned.checked.prog 6 Tryz.f6 (Rows.OpenSpec.upto Rows.clientResultsStaySpec).bare Rows.clientResultsStayUptoRow=true:=by kernel_rfl
theorem j13:jf13 Tryz.pinned.checked.prog 6 Tryz.f6 (Rows.OpenSpec.upto Rows.clientResultsStaySpec).bare Rows.clientResultsStayUptoRow=true:=by kernel_rfl
theorem j14:jf14 Tryz.pinned.checked.prog 6 Tryz.f6 (Rows.OpenSpec.upto Rows.clientResultsStaySpec).bare Rows.clientResultsStayUptoRow=true:=by kernel_rfl
theorem j15:jf15 Tryz.pinned.checked.prog 6 Tryz.f6 (Rows.OpenSpec.upto Rows.clientResultsStaySpec).bare Rows.clientResultsStayUptoRow=true:=by kernel_rfl
theorem j16:jf16 Tryz.pinned.checked.prog 6 Tryz.f6 (Rows.OpenSpec.upto Rows.clientResultsStaySpec).bare Rows.clientResultsStayUptoRow=true:=by kernel_rfl
theorem j17:jf17 Tryz.pinned.checked.prog 6 Tryz.f6 (Rows.OpenSpec.upto Rows.clientResultsStaySpec).bare Rows.clientResultsStayUptoRow=true:=by kernel_rfl
theorem j18:jf18 Tryz.pinned.checked.prog 6 Tryz.f6 (Rows.OpenSpec.upto Rows.clientResultsStaySpec).bare Rows.clientResultsStayUptoRow=true:=by kernel_rfl
theorem j19:jf19 Tryz.pinned.checked.prog 6 Tryz.f6 (Rows.OpenSpec.upto Rows.clientResultsStaySpec).bare Rows.clientResultsStayUptoRow=true:=by kernel_rfl
theorem j20:jf20 Tryz.pinned.checked.prog 6 Tryz.f6 (Rows.OpenSpec.upto Rows.clientResultsStaySpec).bare Rows.clientResultsStayUptoRow=true:=by kernel_rfl
theorem j21:jf21 Tryz.pinned.checked.prog 6 Tryz.f6 (Rows.OpenSpec.upto Rows.clientResultsStaySpec).bare Rows.clientResultsStayUptoRow=true:=by kernel_rfl
theorem j22:jf22 Tryz.pinned.checked.prog 6 Tryz.f6 (Rows.OpenSpec.upto Rows.clientResultsStaySpec).bare Rows.clientResultsStayUptoRow=true:=by kernel_rfl
theorem j23:jf23 Tryz.pinned.checked.prog 6 Tryz.f6 (Rows.OpenSpec.upto Rows.clientResultsStaySpec).bare Rows.clientResultsStayUptoRow=true:=by kernel_rfl
theorem j24:jf24 Tryz.pinned.checked.prog 6 Tryz.f6 (Rows.OpenSpec.upto Rows.clientResultsStaySpec).bare Rows.clientResultsStayUptoRow=true:=by kernel_rfl
theorem j25:jf25 Tryz.pinned.checked.prog 6 Tryz.f6 (Rows.OpenSpec.upto Rows.clientResultsStaySpec).bare Rows.clientResultsStayUptoRow=true:=by kernel_rfl
theorem j26:jf26 Tryz.pinned.checked.prog 6 Tryz.f6 (Rows.OpenSpec.upto Rows.clientResultsStaySpec).bare Rows.clientResultsStayUptoRow=true:=by kernel_rfl
theorem j27:jf27 Tryz.pinned.checked.prog 6 Tryz.f6 (Rows.OpenSpec.upto Rows.clientResultsStaySpec).bare Rows.clientResultsStayUptoRow=true:=by kernel_rfl
theorem j28:jf28 Tryz.pinned.checked.prog 6 Tryz.f6 (Rows.OpenSpec.upto Rows.clientResultsStaySpec).bare Rows.clientResultsStayUptoRow=true:=by kernel_rfl
theorem j29:jf29 Tryz.pinned.checked.prog 6 Tryz.f6 (Rows.OpenSpec.upto Rows.clientResultsStaySpec).bare Rows.clientResultsStayUptoRow=true:=by kernel_rfl
theorem j30:jf30 Tryz.pinned.checked.prog 6 Tryz.f6 (Rows.OpenSpec.upto Rows.clientResultsStaySpec).bare Rows.clientResultsStayUptoRow=true:=by kernel_rfl
theorem j31:jf31 Tryz.pinned.checked.prog 6 Tryz.f6 (Rows.OpenSpec.upto Rows.clientResultsStaySpec).bare Rows.clientResultsStayUptoRow=true:=by kernel_rfl
theorem said:Rows.clientResultsStayUptoRow.holds Tryz.pinned (Rows.OpenSpec.upto Rows.clientResultsStaySpec):=
 OpenClaim.holds_of_cond 6 Tryz.f6 rfl rfl rfl rfl rfl rfl rfl ⟨rfl,rfl,rfl,rfl,rfl⟩ rfl rfl rfl rfl rfl (by kernel_rfl) Tryz.func6 (zGb j0 j1 j2 j3 j4 j5 j6 j7 j8 j9 j10 j11 j12 j13 j14 j15 j16 j17 j18 j19 j20 j21 j22 j23 j24 j25 j26 j27 j28 j29 j30 j31)
  (of_decide_eq_true (by kernel_rfl)) (by unfold Func.isWrapper;first | (rw [if_pos (by decide+kernel)];kernel_rfl) | (rw [if_neg (by decide+kernel)];exact ⟨rfl,rfl⟩))
  (fun os started H enc _ F=> by rw [OpenClaim.pre_eq_preRow];exact lifted os started H enc F)
theorem plain (f : FuncId) (fn : Func) (hf : Tryz.pinned.checked.prog.funcNamed "posthouse/posthouselaw4.ClientResultsStay" = some f) (hfn : Tryz.pinned.checked.prog.funcs[f]? = some fn) :
  true=Tryz.pinned.checked.prog.looks []∧∀(j:Nat) t,fn.params[j]? =some t→Tryz.pinned.checked.prog.wantsStandIn t=false:=by
 obtain rfl : f = 6 := Option.some.inj ((show Tryz.prog.funcNamed "posthouse/posthouselaw4.ClientResultsStay" = some 6 by kernel_rfl).symm.trans hf) |>.symm
 obtain rfl:fn=Tryz.f6:=(Option.some.inj (Tryz.func6.symm.trans hfn)).symm
 refine ⟨by kernel_rfl,fun j t ht=> ?_⟩
 rw [Tryz.params6] at ht
 have hm:=Array.mem_of_getElem? ht
 simp only [List.mem_toArray,List.mem_cons,List.not_mem_nil,or_false] at hm
 rcases hm with rfl | rfl | rfl
 ·exact (show Tryz.prog.wantsStandIn 33=false by kernel_rfl)
 ·exact (show Tryz.prog.wantsStandIn 26=false by kernel_rfl)
 ·exact (show Tryz.prog.wantsStandIn 26=false by kernel_rfl)
theorem proved:Rows.ClientResultsStayUptoCardSaid:=
 Claim7.holds_tied_plain_at .later [] _ _ _ _ said (fun _ h=> by cases h) (by kernel_rfl) (fun _ h=> by cases h) clientResultsStayUpto_row_tie rfl ⟨rfl,rfl⟩ (by kernel_rfl) rfl plain (by kernel_rfl)
#print axioms proved
end Go.Proofs.YtjnmamghadpedaaGreatDoor.clientResultsStay
