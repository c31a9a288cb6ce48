/- Part 6 of the proof of the law DigestReadMatchesSpec: what it needs. -/
import Derived.Test.YthbbeodmpnmopaaGreatDoorKDigestReadMatchesSpec5
import Derived.Shelf.Strings.SlTrimAscii
import Derived.Test.YthbbeodmpnmopaaGreatDoorProg
import Derived.Tactics
import Derived.Tactics2
import Derived.Defers
import Derived.Laws.Pointers
import Derived.Laws.LoneSync
import Derived.RegionTactic
import Derived.RegionCalls
import Derived.ChangeAlike
import Derived.WalkKit
import Derived.Lib.Walk
import Derived.Lib.Strings
import Derived.Lib.IndexBytes
import Derived.Lib.AsciiSet
import Derived.Laws.Strings3
import Derived.Laws.ResultCell
import Derived.Deep.LoopGhost
import Derived.Deep.WholeRow
import Derived.Shelf.RegionOpenPlain
import Derived.Laws.NewBlocks
import Derived.Laws.Cover3
import Derived.Laws.IdiomStrings
import Derived.Laws.BytesArg
import Derived.Lib.TrimByte
import Derived.Laws.MakeOwn
import Derived.Laws.OwnMore
import Derived.StillTailTactics
import Derived.Laws.CopyRow
import Derived.Laws.Tables
import Derived.Great.BuildSlice
set_option linter.unusedVariables false
set_option linter.unusedSimpArgs false
set_option maxRecDepth 100000
set_option maxHeartbeats 40000000
namespace Go.Proofs.YthbbeodmpnmopaaGreatDoor
open Go.RowKit Go.Proofs.Tryz
theorem Y2a(a0:Str)(r:zYa × Bool)(hr:yZa a0=some r):RunS prog 159 [.s a0] [] (.tup [.agg [.s r.1.Type_,.s r.1.Sub,.hs 90011003 0],.bo r.2]) [(90011003,.row 137 false 2 (List.map zia.pc r.1.Params))] 90011000 [90011003]:=by
 unfold yZa at hr;refine rfS (fn:=f159) (H:=90011999) .any ⟨func159,rfl,by kernel_rfl⟩ rfl (hasT rfl) (.inr ⟨rfl,rfl⟩) rfl rfl rfl rfl fun g0 hg S sg T=>?_
 refine rn tk 3 rfl ?_;refine zza 1002 (o:=2) (j:=2) 137 2 rfl rfl rfl rfl (hO ?_);refine rn tk 7 rfl<|wo (vVa (k:=13) 90008000 rfl rfl rfl rfl rfl) rfl<|rn tk 6 rfl ?_;refine zza 1005 (o:=5) (j:=2) 137 2 rfl rfl rfl rfl (hO ?_);refine Yaa 1005 90011003 rfl rfl rfl rfl rfl rfl (hO ?_);refine iq 5 100000 [2,4,5] (fn:=f190) ⟨func190,rfl,by kernel_rfl⟩ fun T1 ds1=>?_
 refine csx 8 hr (zQa _) fun v1 _ hr=>?_
 refine aq1 9 hr [0,1] [90008000,199999,100002,100004,100005,90011003,5,1002,2,90011999] (fun s3=>[(5,.i s3)]) (fun _=>[]) (.exit 0) [0] [90008000,199999,100002,100004,100005,90011003,5,1002,2,90011999] (fun b4=>[(5,.i b4)]) (fun _=>[]) (fun s3 x5 hr=>?_) (fun b4 hr=>?_)
 .unfold jKa at hr;refine jq 1 hr [0,1,5] [90008000,199999,100002,100004,100005,90011003,5,1002,2,90011999] (fun j6=>[(25,.bo j6)]) (fun _=>[]) (fun j6 hr=>?_) (fun j6 hr=>?_)
  .refine bx 9 16 hr (fun c7 hr=>?_) fun c7 hr=>?_
   .refine rn tk 6 rfl ?_;obtain ⟨v8,h9,hr⟩:=zaa hr;refine ug rfl rfl rfl<|ws tk h9 rfl rfl rfl rfl<|ug rfl rfl rfl ?_;refine iq 0 500000 [0,1,5,16,17,18,19,20,21,22,23] (fn:=f191) ⟨func191,rfl,by kernel_rfl⟩ fun T5 ds5=>?_
    refine jq 5 hr [] [599999,500000,500001,500005,500016,500017,500018,500019,500020,500021,500022,500023,90008000,199999,100002,100004,100005,90011003,5,1002,2,90011999] (fun j10=>[(2,.bo j10)]) (fun _=>[]) (fun j10 hr=>?_) (fun j10 hr=>?_)
    .refine bx 4 5 hr (fun c11 hr=>?_) fun c11 hr=>?_
     .refine bx 4 9 hr (fun c12 hr=>?_) fun c12 hr=>?_
      .refine rn tk 1 rfl ?_;obtain ⟨v13,h14,hr⟩:=zaa hr;refine ug rfl rfl rfl<|cl (zNa _ _ _ h14) rfl rfl ?_;exact jx 4 hr
      exact jx 6 hr
     exact jx 10 hr
    refine ieq 1 (hO ?_);exact jx 2 hr
   exact jx 10 hr
  refine ax 0 25 hr (fun hr=>?_) fun hr=>?_
  .exact cx 9 hr
  exact ox 2 hr
 refine rn tk 9 rfl ?_;obtain ⟨v16,h17,hr⟩:=zaa hr;refine wscH tk h17 rfl rfl rfl rfl<|rn tk 11 rfl ?_;obtain ⟨v18,h19,hr⟩:=zaa hr;refine wscL tk h19 rfl rfl rfl rfl ?_;refine ieq 12 (hO ?_);refine csx 7 hr (k3a _ _) fun v20 _ hr=>?_
 refine iq 6 600000 [2,4,5,6] (fn:=f190) ⟨func190,rfl,by kernel_rfl⟩ fun T6 ds6=>?_
 refine csx 8 hr (zQa v20.2) fun v22 _ hr=>?_
 refine aq1 9 hr [0,1] [90008000,699999,600002,600004,600005,600006,90011003,5,1002,2,90011999] (fun s24=>[(5,.i s24)]) (fun _=>[]) (.exit 0) [0] [90008000,699999,600002,600004,600005,600006,90011003,5,1002,2,90011999] (fun b25=>[(5,.i b25)]) (fun _=>[]) (fun s24 x26 hr=>?_) (fun b25 hr=>?_)
 .unfold jLa at hr;refine jq 1 hr [0,1,5] [90008000,699999,600002,600004,600005,600006,90011003,5,1002,2,90011999] (fun j27=>[(25,.bo j27)]) (fun _=>[]) (fun j27 hr=>?_) (fun j27 hr=>?_)
  .refine bx 9 16 hr (fun c28 hr=>?_) fun c28 hr=>?_
   .refine rn tk 6 rfl ?_;obtain ⟨v29,h30,hr⟩:=zaa hr;refine ug rfl rfl rfl<|ws tk h30 rfl rfl rfl rfl<|ug rfl rfl rfl ?_;refine iq 0 1000000 [0,1,5,16,17,18,19,20,21,22,23] (fn:=f191) ⟨func191,rfl,by kernel_rfl⟩ fun T10 ds10=>?_
    refine jq 5 hr [] [1099999,1000000,1000001,1000005,1000016,1000017,1000018,1000019,1000020,1000021,1000022,1000023,90008000,699999,600002,600004,600005,600006,90011003,5,1002,2,90011999] (fun j31=>[(2,.bo j31)]) (fun _=>[]) (fun j31 hr=>?_) (fun j31 hr=>?_)
    .refine bx 4 5 hr (fun c32 hr=>?_) fun c32 hr=>?_
     .refine bx 4 9 hr (fun c33 hr=>?_) fun c33 hr=>?_
      .refine rn tk 1 rfl ?_;obtain ⟨v34,h35,hr⟩:=zaa hr;refine ug rfl rfl rfl<|cl (zNa _ _ _ h35) rfl rfl ?_;exact jx 4 hr
      exact jx 6 hr
     exact jx 10 hr
    refine ieq 1 (hO ?_);exact jx 2 hr
   exact jx 10 hr
  refine ax 0 25 hr (fun hr=>?_) fun hr=>?_
  .exact cx 9 hr
  exact ox 2 hr
 refine rn tk 9 rfl ?_;obtain ⟨v37,h38,hr⟩:=zaa hr;refine wscH tk h38 rfl rfl rfl rfl<|rn tk 11 rfl ?_;obtain ⟨v39,h40,hr⟩:=zaa hr;refine wscL tk h40 rfl rfl rfl rfl ?_;refine ieq 12 (hO ?_);refine jq 5 hr [2,4,5] [90008000,90011003,5,1002,2,90011999] (fun j41=>[(33,.bo j41)]) (fun _=>[]) (fun j41 hr=>?_) (fun j41 hr=>?_)
 .refine bx 5 25 hr (fun c42 hr=>?_) fun c42 hr=>?_
  .exact jx 9 hr
  refine bx 4 29 hr (fun c43 hr=>?_) fun c43 hr=>?_
  .exact jx 5 hr
  exact jx 5 hr
 refine ax 0 33 hr (fun hr=>?_) fun hr=>?_
 .exact sxx 9 hr
 refine rn tk 5 rfl ?_;refine zUa 1007 (d:=7) 251 4 rfl rfl rfl (hO ?_);refine aq2 4 hr [2,4,5,7] [90011003,5,1002,2,90011999] (fun _=>[]) (fun s45=>(zfa.sto s45.1)++ [(1007,.row 251 false 4 (List.map zca.pc s45.2))]) (.exit 0) [2,4,5,7] [90011003,5,1002,2,90011999] (fun _=>[]) (fun b46=>(zfa.sto b46.1)++ [(1007,.row 251 false 4 (List.map zca.pc b46.2))]) .ret [2] [90011003,90011999] (fun _=>[(3,.bo false)]) (fun _=>[(2,.cells [.s v16,.s v37,.hs 90011003 0])]) (fun s45 x49 hr=>?_) (fun b46 hr=>?_) (fun b47 hr=>?_)
 .unfold wBa at hr;refine csx 4 hr (k3a _ _) fun v50 _ hr=>?_
  refine ax 2 36 hr (fun hr=>?_) fun hr=>?_
  .refine csx 6 hr (KGa v50.2) fun v53 _ hr=>?_
   refine ax 15 43 hr (fun hr=>?_) fun hr=>?_
   .exact ox 10 hr
   refine rn tk 5 rfl<|wz zca.pc ([v53.1]:List zca) tk rfl rfl (fun _=>rfl) rfl rfl rfl ?_;obtain ⟨v56,h57,hr⟩:=zaa hr;refine wa tk h57 rfl rfl rfl rfl (fun _=>rfl) rfl rfl ?_;exact cx 3 hr
  exact ox 2 hr
 .refine csx 5 hr (zQa b46.1) fun v58 _ hr=>?_
  refine iq 10 1100000 [2,4,5] (fn:=Tryz.f195) ⟨func195,rfl,by kernel_rfl⟩ fun T11 ds11=>?_
  refine rn tk 9 rfl ?_;refine zUa 1004 (d:=4) 137 2 rfl rfl rfl (hO ?_);refine rn tk 6 rfl<|wnh tk rfl rfl rfl rfl<|rn tk 4 rfl ?_;refine kTa (d:=13) (F:=zca.pc) (l:=b46.2) rfl rfl (hC ?_);refine aq2 0 hr [0,4,13,14] [1199999,1100002,1100004,1100005,90008000,1007,90011003,5,1002,2,90011999] (fun s61=>[(15,.i s61.1)]) (fun s61=>[(1004,.row 137 false 2 (List.map zia.pc s61.2))]) (.exit 0) [4] [1199999,1100002,1100004,1100005,90008000,90011003,5,1002,2,90011999] (fun _=>[]) (fun b62=>[(1004,.row 137 false 2 (List.map zia.pc b62))]) .ret [3] [1199999,1100002,1100004,1100005,90008000,90011003,5,1002,2,90011999] (fun _=>[(2,.pv (.sl (some true) []))]) (fun _=>[]) (fun s61 x65 hr=>?_) (fun b62 hr=>?_) (fun b63 hr=>?_)
  .unfold wEa at hr;refine ax 6 16 hr (fun hr=>?_) fun hr=>?_
   .refine jkq 2 [0,4,13,14,15] [1199999,1100002,1100004,1100005,90008000,1007,90011003,5,1002,2,90011999] (fun _=>[]) (fun j67=>[(1004,.row 137 false 2 (List.map zia.pc j67))]) (fun j67=>vwa s61 j67=some x65) ?_ ?_
    .refine rn tk 4 rfl ?_;obtain ⟨v68,h69,hr⟩:=zaa hr;refine wi tk h69 rfl rfl rfl rfl rfl<|rn tk 17 rfl ?_;refine jia (d:=21) (F:=zca.pc) (l:=b46.2) rfl rfl (hO ?_);obtain ⟨v70,h71,hr⟩:=zaa hr;refine wlH tk h71 rfl rfl rfl (fun _=>rfl) rfl ?_;refine iq 1 9600000 [0,4,6,7,13,14,15] (fn:=Tryz.f217) ⟨func217,rfl,by kernel_rfl⟩ fun T96 ds96=>?_
     refine ctq 9 hr [] [9699999,9600000,9600004,9600013,9600014,9600015,9600006,9600007,6,1004,1199999,1100002,1100004,1100005,90008000,1007,90011003,5,1002,2,90011999] (fun j72=>[(7,.i j72)]) (fun _=>[]) (fun j72 hr jump97=>?_) (fun j72 hr=>?_)
     .refine iq 0 9700000 [] (fn:=Tryz.f231) ⟨func231,rfl,by kernel_rfl⟩ fun T97 ds97=>?_
      refine rn tk 9 rfl<|wn tk rfl rfl rfl ?_;refine aq2 4 hr [0,1,7] [9799999,9699999,9600000,9600004,9600013,9600014,9600015,9600006,9600007,6,1004,1199999,1100002,1100004,1100005,90008000,1007,90011003,5,1002,2,90011999] (fun s73=>[(8,.i s73)]) (fun _=>[]) (.exit 0) [] [9799999,9699999,9600000,9600004,9600013,9600014,9600015,9600006,9600007,6,1004,1199999,1100002,1100004,1100005,90008000,1007,90011003,5,1002,2,90011999] (fun _=>[]) (fun _=>[]) .ret [] [9799999,9699999,9600000,9600004,9600013,9600014,9600015,9600006,9600007,6,1004,1199999,1100002,1100004,1100005,90008000,1007,90011003,5,1002,2,90011999] (fun b75=>[(4,.i b75)]) (fun _=>[]) (fun s73 x77 hr=>?_) (fun b74 hr=>?_) (fun b75 hr=>?_)
      .unfold wCa at hr;refine ax 6 9 hr (fun hr=>?_) fun hr=>?_
       .refine rn tk 15 rfl ?_;obtain ⟨v79,h80,hr⟩:=zaa hr;refine wi tk h80 rfl rfl rfl rfl rfl ?_;refine iq 1 9900000 [0,1,5,7,8] (fn:=f216) ⟨func216,rfl,by kernel_rfl⟩ fun T99 ds99=>?_
        refine rn tk 2 rfl<|wo (vVa (k:=2) 2002 rfl rfl rfl rfl rfl) rfl ?_;refine clx 9 hr (zWa _ _) fun v81 _ hr=>?_
        refine ieq 4 (hO ?_);refine ax 2 16 hr (fun hr=>?_) fun hr=>?_
        .exact ox 9 hr
        exact cx 7 hr
       exact ox 2 hr
      .refine ieq 8 ?_;cases hr;exact jump97 _ _ rfl rfl
      refine ieq 2 ?_;cases hr;exact jump97 _ _ rfl rfl
     refine ieq 5 (hO ?_);refine ax 2 25 hr (fun hr=>?_) fun hr=>?_
     .refine rn tk 3 rfl<|jn s61.2 hr rfl rfl
     refine rn tk 5 rfl ?_;refine qYa 1008 (d:=8) 251 4 rfl rfl rfl (hO ?_);refine rn tk 6 rfl<|wnh tk rfl rfl rfl rfl<|rn tk 4 rfl ?_;refine kTa (d:=26) (F:=zca.pc) (l:=b46.2) rfl rfl (hC ?_);refine aq1 0 hr [0,4,6,7,8,13,14,15,26,27] [6,1004,1199999,1100002,1100004,1100005,90008000,1007,90011003,5,1002,2,90011999] (fun s86=>[(28,.i s86.1)]) (fun s86=>[(1008,.row 251 true 4 (List.map zca.pc s86.2))]) (.exit 2) [0,4,6,8,13,14,15] [6,1004,1199999,1100002,1100004,1100005,90008000,1007,90011003,5,1002,2,90011999] (fun _=>[]) (fun b87=>[(1008,.row 251 true 4 (List.map zca.pc b87))]) (fun s86 x88 hr=>?_) (fun b87 hr=>?_)
     .unfold wDa at hr;refine ax 6 29 hr (fun hr=>?_) fun hr=>?_
      .refine jq 2 hr [0,4,6,7,8,13,14,15,26,27,28] [6,1004,1199999,1100002,1100004,1100005,90008000,1007,90011003,5,1002,2,90011999] (fun _=>[]) (fun j90=>[(1008,.row 251 true 4 (List.map zca.pc j90))]) (fun j90 hr=>?_) (fun j90 hr=>?_)
       .refine rn tk 3 rfl ?_;obtain ⟨v91,h92,hr⟩:=zaa hr;refine wi tk h92 rfl rfl rfl rfl rfl ?_;refine iq 9 10700000 [0,4,6,7,8,10,13,14,15,26,27,28] (fn:=f216) ⟨func216,rfl,by kernel_rfl⟩ fun T107 ds107=>?_
        refine rn tk 2 rfl<|wo (vVa (k:=2) 2002 rfl rfl rfl rfl rfl) rfl ?_;refine clx 9 hr (zWa _ _) fun v93 _ hr=>?_
        refine ieq 4 (hO ?_);refine ax 2 34 hr (fun hr=>?_) fun hr=>?_
        .refine rn tk 3 rfl<|wz zca.pc ([v91]:List zca) tk rfl rfl (fun _=>rfl) rfl rfl rfl ?_;obtain ⟨v96,h97,hr⟩:=zaa hr;refine wa tk h97 rfl rfl rfl rfl (fun _=>rfl) rfl rfl ?_;exact jx 3 hr
        exact jx 2 hr
       exact cx 4 hr
      exact ox 2 hr
     refine rn tk 5 rfl ?_;refine Yaa 1008 90009000 rfl rfl rfl rfl rfl rfl (hO ?_);refine csx 0 hr (WLa b87) fun v98 _ hr=>?_
     obtain ⟨p98,b98⟩:=v98;cases b98 with
     | false=>exact ox 26 hr
     | true=>
      simp only[jBo,cond_false]at hr;refine rn tk 29 rfl<|wz zia.pc ([(zia.mk v68.name p98.Value)]:List zia) tk rfl rfl (fun _=>rfl) rfl rfl rfl ?_;obtain ⟨v101,h102,hr⟩:=zaa hr;refine wa tk h102 rfl rfl rfl rfl (fun _=>rfl) rfl rfl<|rn tk 3 rfl<|jn v101 hr rfl rfl
    intro j67 hr;unfold vwa at hr;exact cx 4 hr
   exact ox 2 hr
  .refine ieq 10 (hO ?_);refine rn tk 6 rfl ?_;refine zcb 90011003 ?_;refine Yaa 1004 90011003 rfl rfl rfl rfl rfl rfl (hO ?_);refine rn tk 3 rfl<|drX 9 10 8 948 [3,4,5,6,7,8] [(65,.bo ((v58.s==([]:Str)))),(64,.bo ((v58.s==([]:Str)))),(63,.s v58.s),(62,.ptr 90008000 0),(61,.ptr 90008000 0),(60,.ptr 90008000 0),(59,.bo true),(58,.bo true),(57,.agg [.s v16,.s v37,.hs 90011003 0])] [(2,.ptr 2 0),(65,.bo ((v58.s==([]:Str))))] [(90011003,.row 137 false 2 (List.map zia.pc b62)),(90008000,.cells [.s v58.s]),(5,.cells [.s v16,.s v37,.hs 90011003 0]),(1002,.row 137 false 2 (List.map zia.pc (([]:List zia)))),(2,.cells [.s v16,.s v37,.hs 90011003 0]),(90011999,.hold (.any) (T.getD 0 undef))] tk mixed (by kernel_rfl) rfl rfl rfl (pqX tk rfl (.plain rfl) (pqX tk rfl (.plain rfl) (pqX tk rfl (.plain rfl) (pqX tk rfl (.yes (d:=59) rfl rfl rfl rfl) (pqX tk rfl (.yes (d:=59) rfl rfl rfl rfl) (pqX tk rfl (.yes (d:=59) rfl rfl rfl rfl) (pqX tk rfl (.yes (d:=59) rfl rfl rfl rfl) (pqX tk rfl (.yes (d:=59) rfl rfl rfl rfl) (pqX tk rfl (.plain rfl) .nil))))))))) rfl rfl rfl rfl (by kernel_rfl) ?_;exact sxx 4 hr
  refine ieq 2 (hO ?_);refine rn tk 5 rfl ?_;refine zza 1005 (o:=5) (j:=2) 137 2 rfl rfl rfl rfl (hO ?_);refine rn tk 1 rfl ?_;refine zcb 90011003 ?_;refine Yaa 1005 90011003 rfl rfl rfl rfl rfl rfl (hO ?_);refine rn tk 3 rfl<|drX 9 10 8 948 [3,4,5,6,7,8] [(65,.bo false),(64,.tup []),(63,.tup []),(62,.tup []),(61,.tup []),(60,.tup []),(59,.bo false),(58,.bo false),(57,.agg [.s v16,.s v37,.hs 90011003 0])] [(2,.ptr 2 0),(65,.bo false)] [(90011003,.row 137 false 2 (List.map zia.pc (([]:List zia)))),(90008000,.cells [.s v58.s]),(5,.cells [.s v16,.s v37,.hs 90011003 0]),(1002,.row 137 false 2 (List.map zia.pc (([]:List zia)))),(2,.cells [.s v16,.s v37,.hs 90011003 0]),(90011999,.hold (.any) (T.getD 0 undef))] tk mixed (by kernel_rfl) rfl rfl rfl (pqX tk rfl (.plain rfl) (pqX tk rfl (.plain rfl) (pqX tk rfl (.plain rfl) (.skip (.no (d:=59) rfl rfl rfl rfl) (.skip (.no (d:=59) rfl rfl rfl rfl) (.skip (.no (d:=59) rfl rfl rfl rfl) (.skip (.no (d:=59) rfl rfl rfl rfl) (.skip (.no (d:=59) rfl rfl rfl rfl) (pqX tk rfl (.plain rfl) .nil))))))))) rfl rfl rfl rfl (by kernel_rfl) ?_;exact sxx 4 hr
 exact sxx 2 hr
theorem Y3a(a0:Str)(r:zYa × zja)(hr:y0a a0=some r):RunS prog 121 [.s a0] [] (.tup [.agg [.s r.1.Type_,.s r.1.Sub,.hs 90011003 0],.agg [.i r.2.Code,.i r.2.Index]]) [(90011003,.row 137 false 2 (List.map zia.pc r.1.Params))] 90011000 [90011003]:=by
 unfold y0a at hr;refine rfS (fn:=f121) (H:=90011999) .any ⟨func121,rfl,by kernel_rfl⟩ rfl (hasT rfl) (.inr ⟨rfl,rfl⟩) rfl rfl rfl rfl fun g0 hg S sg T=>?_
 refine rn tk 3 rfl ?_;refine zza 1002 (o:=2) (j:=2) 137 2 rfl rfl rfl rfl (hO ?_);refine ax 11 9 hr (fun hr=>?_) fun hr=>?_
 .refine clx 3 hr (zga _ _) fun v2 _ hr=>?_
  refine rn tk 1 rfl ?_;refine zza 2002 (o:=2) (j:=2) 137 2 rfl rfl rfl rfl (hO ?_);refine rn tk 3 rfl ?_;refine YAa 2002 90011003 rfl rfl rfl rfl rfl rfl (hC ?_);exact sxx 2 hr
 refine csx 5 hr (Y2a a0) fun v4 _ hr=>?_
 refine rn tk 4 rfl ?_;refine zza 1004 (o:=4) (j:=2) 137 2 rfl rfl rfl rfl (hO ?_);refine ax 11 18 hr (fun hr=>?_) fun hr=>?_
 .refine clx 3 hr (zga _ _) fun v7 _ hr=>?_
  refine rn tk 1 rfl ?_;refine zza 2002 (o:=2) (j:=2) 137 2 rfl rfl rfl rfl (hO ?_);refine rn tk 3 rfl ?_;refine qzb 90011003 ?_;refine YAa 2002 90011003 rfl rfl rfl rfl rfl rfl (hC ?_);exact sxx 2 hr
 refine rn tk 6 rfl ?_;refine v2a (d' :=21) (j:=2) (F:=zia.pc) (l:=v4.1.Params) rfl rfl rfl (hO ?_);refine clx 0 hr (wfa _) fun v9 _ hr=>?_
 refine clx 7 hr (zha _) fun v11 _ hr=>?_
 refine ax 2 24 hr (fun hr=>?_) fun hr=>?_
 .refine clx 5 hr (zga _ _) fun v14 _ hr=>?_
  refine rn tk 1 rfl ?_;refine zza 2002 (o:=2) (j:=2) 137 2 rfl rfl rfl rfl (hO ?_);refine rn tk 3 rfl ?_;refine qzb 90011003 ?_;refine YAa 2002 90011003 rfl rfl rfl rfl rfl rfl (hC ?_);exact sxx 2 hr
 refine rn tk 3 rfl ?_;obtain ⟨v16,h17,hr⟩:=zaa hr;refine drF 1 0 [(29,.agg [.s v4.1.Type_,.s v4.1.Sub,.hs 90011003 0])] [(29,.any)] [(2,.ptr 2 0),(3,.ptr 3 0),(29,.agg [.s v4.1.Type_,.s v4.1.Sub,.hs 90011003 0]),(30,.agg [.i v16.Code,.i v16.Index])] [(6,.cells [.i v9.Code,.i v9.Index]),(1004,.row 137 false 2 (List.map zia.pc (([]:List zia)))),(4,.cells [.s v4.1.Type_,.s v4.1.Sub,.hs 90011003 0]),(90011003,.row 137 false 2 (List.map zia.pc v4.1.Params)),(3,.cells [.i 0,.i 0]),(1002,.row 137 false 2 (List.map zia.pc (([]:List zia)))),(2,.cells [.s (([]:Str)),.s (([]:Str)),.hs 1002 0]),(90011999,.hold (.any) (T.getD 0 undef))] mixed (by kernel_rfl) rfl rfl rfl rfl rfl (pqF tk rfl (.plain rfl) .nil) rfl rfl rfl rfl rfl (fun hJ=>?_) (fun hJ=>?_) ?_
 .refine cl (zma _ h17) rfl rfl ?_;exact hJ _ _ rfl rfl
 .refine cl (zma _ h17) rfl rfl<|rn tk 1 rfl ?_;exact hJ _ _ rfl rfl
 exact sxx 5 hr
theorem wHa(a0:List zba)(r:zYa × Int × Bool)(hr:qua a0=some r):RunS prog 76 [.l zba.pc a0] [] (.tup [.agg [.s r.1.Type_,.s r.1.Sub,.hs 90011003 0],.i r.2.1,.bo r.2.2]) [(90011003,.row 137 false 2 (List.map zia.pc r.1.Params))] 90011000 [90011003]:=by
 unfold qua at hr;refine rfS (fn:=f76) (H:=90011999) .any ⟨func76,rfl,by kernel_rfl⟩ rfl (hasT rfl) (.inr ⟨rfl,rfl⟩) rfl rfl rfl rfl fun g0 hg S sg T=>?_
 refine rn tk 3 rfl ?_;refine zza 1002 (o:=2) (j:=2) 137 2 rfl rfl rfl rfl (hO ?_);refine rn tk 13 rfl<|wn tk rfl rfl rfl ?_;refine aq2 4 hr [0,2,10,11] [1002,2,90011999] (fun s1=>[(5,.i s1.1),(12,.i s1.2)]) (fun _=>[]) (.exit 0) [0,2] [1002,2,90011999] (fun b2=>[(5,.i b2)]) (fun _=>[]) .ret [2,3,4] [90011999] (fun _=>[]) (fun _=>[(90011003,.row 137 false 2 (List.map zia.pc (([]:List zia)))),(2,.cells [.s (([]:Str)),.s (([]:Str)),.hs 90011003 0])]) (fun s1 x5 hr=>?_) (fun b2 hr=>?_) (fun b3 hr=>?_)
 .unfold ZFa at hr;refine ax 6 13 hr (fun hr=>?_) fun hr=>?_
  .refine jkq 2 [0,2,10,11,12] [1002,2,90011999] (fun j7=>[(5,.i j7)]) (fun _=>[]) (fun j7=>wba s1 j7=some x5) ?_ ?_
   .refine rn tk 4 rfl ?_;obtain ⟨v8,h9,hr⟩:=zaa hr;refine wi tk h9 rfl rfl rfl rfl rfl ?_;refine clx 10 hr (zWa _ _) fun v10 _ hr=>?_
    refine ax 2 19 hr (fun hr=>?_) fun hr=>?_
    .refine ax 7 21 hr (fun hr=>?_) fun hr=>?_
     .refine rn tk 4 rfl ?_;refine zza 2002 (o:=2) (j:=2) 137 2 rfl rfl rfl rfl (hO ?_);refine rn tk 4 rfl ?_;refine YAa 2002 90011003 rfl rfl rfl rfl rfl rfl (hC ?_);exact ox 4 hr
     refine rn tk 7 rfl<|jn s1.2 hr rfl rfl
    refine rn tk 2 rfl<|jn s1.1 hr rfl rfl
   intro j7 hr;unfold wba at hr;exact cx 4 hr
  exact ox 2 hr
 .refine ax 9 26 hr (fun hr=>?_) fun hr=>?_
  .refine rn tk 4 rfl ?_;refine zza 2002 (o:=2) (j:=2) 137 2 rfl rfl rfl rfl (hO ?_);refine rn tk 4 rfl ?_;refine YAa 2002 90011003 rfl rfl rfl rfl rfl rfl (hC ?_);exact sxx 2 hr
  refine rn tk 6 rfl ?_;obtain ⟨v15,h16,hr⟩:=zaa hr;refine wi tk h16 rfl rfl rfl rfl rfl ?_;refine csx 2 hr (Y3a v15.Value) fun v17 _ hr=>?_
  refine rn tk 4 rfl ?_;refine zza 1008 (o:=8) (j:=2) 137 2 rfl rfl rfl rfl (hO ?_);refine rn tk 6 rfl ?_;obtain ⟨v19,h20,hr⟩:=zaa hr;refine drX 5 7 5 14 [1,4] [(41,.bo ((!v19))),(40,.bo v19),(39,.agg [.i v17.2.Code,.i v17.2.Index]),(38,.i b2),(37,.agg [.s v17.1.Type_,.s v17.1.Sub,.hs 90011003 0])] [(2,.ptr 2 0),(3,.i b2),(41,.bo ((!v19)))] [(9,.cells [.i v17.2.Code,.i v17.2.Index]),(1008,.row 137 false 2 (List.map zia.pc (([]:List zia)))),(8,.cells [.s v17.1.Type_,.s v17.1.Sub,.hs 90011003 0]),(90011003,.row 137 false 2 (List.map zia.pc v17.1.Params)),(1002,.row 137 false 2 (List.map zia.pc (([]:List zia)))),(2,.cells [.s v17.1.Type_,.s v17.1.Sub,.hs 90011003 0]),(90011999,.hold (.any) (T.getD 0 undef))] tk mixed (by kernel_rfl) rfl rfl rfl (pqX tk rfl (.plain rfl) (pqX tk rfl (.plain rfl) (pqX tk rfl (.plain rfl) (.run (.plain rfl) (zua (zha v17.2 v19 h20) rfl) (pqX tk rfl (.plain rfl) .nil))))) rfl rfl rfl rfl (by kernel_rfl) ?_;exact sxx 4 hr
 exact sxx 2 hr
theorem VKa(a0:List zba)(r:Str × Bool)(hr:vxa a0=some r):Run prog 74 [.l zba.pc a0] (.tup [.s r.1,.bo r.2]):=by
 unfold vxa at hr;refine rfx (fn:=f74) func74 fun g0 hg=>?_
 refine csx 9 hr (wHa a0) fun v1 _ hr=>?_
 refine rn tk 5 rfl ?_;refine zza 1004 (o:=4) (j:=2) 137 2 rfl rfl rfl rfl (hO ?_);refine jq 6 hr [4] [4,90011003] (fun j3=>[(24,.bo j3)]) (fun _=>[]) (fun j3 hr=>?_) (fun j3 hr=>?_)
 .refine bx 4 19 hr (fun c4 hr=>?_) fun c4 hr=>?_
  .exact jx 6 hr
  refine rn tk 2 rfl ?_;obtain ⟨v5,h6,hr⟩:=zaa hr;refine ug rfl rfl rfl<|cl (zWa _ _ _ h6) rfl rfl ?_;exact jx 3 hr
 refine ax 0 24 hr (fun hr=>?_) fun hr=>?_
 .exact kx 8 hr
 refine rn tk 5 rfl ?_;refine v2a (d' :=26) (j:=2) (F:=zia.pc) (l:=v1.1.Params) rfl rfl rfl (hO ?_);refine clx 0 hr (KEa _ _) fun v8 _ hr=>?_
 refine jq 10 hr [7,8] [] (fun j10=>[(10,.bo j10)]) (fun _=>[]) (fun j10 hr=>?_) (fun j10 hr=>?_)
 .refine bx 4 33 hr (fun c11 hr=>?_) fun c11 hr=>?_
  .refine bx 5 38 hr (fun c12 hr=>?_) fun c12 hr=>?_
   .refine rn tk 1 rfl<|ug rfl rfl rfl ?_;refine ctq 0 hr [7,8,38] [] (fun j13=>[(40,.bo j13)]) (fun _=>[]) (fun j13 hr jump4=>?_) (fun j13 hr=>?_)
    .refine iq 0 400000 [7,8,38] (fn:=f102) ⟨func102,rfl,by kernel_rfl⟩ fun T4 ds4=>?_
     refine aq2 14 hr [0,1,7] [499999,400007,400008,400038] (fun s14=>[(8,.i s14)]) (fun _=>[]) (.exit 0) [] [499999,400007,400008,400038] (fun _=>[]) (fun _=>[]) .ret [4] [499999,400007,400008,400038] (fun _=>[]) (fun _=>[]) (fun s14 x18 hr=>?_) (fun b15 hr=>?_) (fun b16 hr=>?_)
     .unfold Zga at hr;refine ax 6 9 hr (fun hr=>?_) fun hr=>?_
      .refine rn tk 15 rfl ?_;obtain ⟨v20,h21,hr⟩:=zaa hr;refine ws tk h21 rfl rfl rfl rfl ?_;refine iq 0 600000 [0,1,7,8] (fn:=Tryz.f117) ⟨func117,rfl,by kernel_rfl⟩ fun T6 ds6=>?_
       refine jq 5 hr [] [699999,600000,600001,600007,600008,499999,400007,400008,400038] (fun j22=>[(2,.bo j22)]) (fun _=>[]) (fun j22 hr=>?_) (fun j22 hr=>?_)
       .refine bx 4 5 hr (fun c23 hr=>?_) fun c23 hr=>?_
        .exact jx 5 hr
        exact jx 5 hr
       refine ieq 1 (hO ?_);refine ax 3 16 hr (fun hr=>?_) fun hr=>?_
       .exact ox 8 hr
       exact cx 7 hr
      exact ox 2 hr
     .refine ieq 8 ?_;cases hr;exact jump4 _ _ rfl rfl
     refine ieq 2 ?_;cases hr;exact jump4 _ _ rfl rfl
    refine bx 2 42 hr (fun c25 hr=>?_) fun c25 hr=>?_
    .refine rn tk 1 rfl ?_;obtain ⟨v26,h27,hr⟩:=zaa hr;refine ug rfl rfl rfl<|cl (w6a _ _ _ h27) rfl rfl ?_;exact jx 4 hr
    exact jx 6 hr
   exact jx 10 hr
  exact jx 15 hr
 refine jq 0 hr [] [] (fun j28=>[(2,.s v8.1),(3,.bo j28)]) (fun _=>[]) (fun j28 hr=>?_) (fun j28 hr=>?_)
 .refine bx 4 49 hr (fun c29 hr=>?_) fun c29 hr=>?_
  .exact jx 5 hr
  exact jx 5 hr
 exact kx 1 hr
def nums(l:List UInt8):List Int:=l.map fun c=>(c.toNat:Int)
theorem Wfa(l:List UInt8):Lib.bytesOf (nums l)=l:=by simp[Lib.bytesOf,nums,Function.comp_def]
theorem zgb(l:List UInt8):∀x∈nums l,0<=x/\x < 256:=by
 intro x hx;obtain ⟨c,_,rfl⟩:=jCe.1 hx;have:=c.toNat_lt;omega
theorem Zvb(l:List UInt8)(i:Nat)(h:i < l.length):(nums l).getD i 0=(l[i].toNat:Int):=by simp[nums,h]
theorem Q0a{g:G}{l:List UInt8}{v:Value}(h:Rel g (.l cU l) v):∃ad cap,v=.slice ad l.length cap/\l.length<=cap/\(l≠ []->∃b off,ad=some ⟨b,off,none⟩/\∀i,i < l.length->g.w.cell? ((⟨b,off,none⟩:Addr).add i)=some (.int .u8 ((nums l).getD i 0))):=by
 cases h with
 | pv h=>
  generalize hE:l.map cU=elems at h;have hEl:elems.length=l.length:=by rw[<-hE];simp
  unfold pL at h;rw[hE]at h;cases h with
  | @sl _ _ a cap size b off val hn h0 hc hz ha hu hcell h=>
   refine ⟨a,cap,by rw[hEl],by omega,fun hne=>⟨b,off,ha (by rw[<-hE];simpa using hne),fun i hi=>?_⟩⟩;have hget:elems[i]? =some (cU l[i]):=by rw[<-hE];simp[hi]
   have hs1:size=1:=by
    have:=hz _ (jAi hget);simpa[cU]using this.symm
   subst hs1;rw[qwa,hcell i (by omega),Zvb l i hi];have:=h i 0 _ (.b (.int .u8 (l[i].toNat:Int))) hget rfl;simp only[jCz,jBy]at this;have e:=zKa (g:=g) (.pv this);rw[e]
theorem KHa(a b:List UInt8)(r:Int)(hr:yKa a b=some r):Run prog 158 [.l cU a,.l cU b] (.i r):=by
 unfold yKa at hr;split at hr
 case isFalse=>cases hr
 rename_i hlen;cases hr;refine ⟨⟨_,_,⟨func158,rfl,by kernel_rfl⟩⟩,fun g vs hw hg ha=>?_⟩;obtain ⟨hsz,hrel⟩:=ha;obtain ⟨l⟩:=vs
 match l,hsz with
 | [x,y],_=>
  have h0:Rel g (.l cU a) x:=hrel 0 _ rfl;have h1:Rel g (.l cU b) y:=hrel 1 _ rfl;obtain ⟨ad,cap,rfl,hcap,hcell⟩:=Q0a h0;obtain ⟨ad2,cap2,rfl,hcap2,hcell2⟩:=Q0a h1;have hb2:=hlen.2;obtain ⟨b2,o2,rfl,hc2⟩:=hcell2 (by rintro rfl;simp at hb2);refine callsIn_wide.2 ?_
  suffices hs:Calls prog 158 #[.slice ad a.length cap,.slice (some ⟨b2,o2,none⟩) b.length cap2] g.w fun e w' =>e=.returned (.int .i64 (Lib.index a b))/\∃q,w' =g.w.drewN q by
   refine hs.mono ?_;rintro e w' ⟨rfl,q,rfl⟩;exact ⟨⟨g.w.drewN q,g.u,g.loc⟩,_,rfl,rfl,qub g q,hw,rfl,.pv (.b rfl)⟩
  by_cases hs:a.length < 2
  .have hi:Lib.index a b= -1:=by
    match a,b,hs,hb2 with
    | [],[p,q],_,_=>rfl
    | [c],[p,q],_,_=>simp[Lib.index]
   rw[hi];exact (Tryz.bytes_Index_longer ad (some ⟨b2,o2,none⟩) a.length cap b.length cap2 g.w (by omega) (by omega) (by omega)).mono fun e w' ⟨h1,h2⟩=>⟨h1,0,h2⟩
  obtain ⟨b1,o1,rfl,hc1⟩:=hcell (by rintro rfl;simp at hs);obtain ⟨_,_,m,hm⟩:=hg.1 (1,0) (by simp[yKb]);have:=Tryz.bytes_Index_at ⟨b1,o1,none⟩ ⟨b2,o2,none⟩ a.length cap b.length cap2 (nums a) (nums b) m g.w (by simp[nums]) (by simp[nums]) (zgb a) (zgb b) hc1 hc2 hcap hlen.1 (by omega) hm;rw[Wfa,Wfa]at this;exact this
theorem qFb{g:G}{s:Str}{v:Value}(h:Rel g (.s s) v):v=.string (strB s):=zKa h
theorem vPb{g:G}{w' :World}(h:Below g.w.heap.size g.w w'):Old (fun _=>False) g ⟨w',g.u,g.loc⟩:=
 ⟨h.os,h.tape,h.output,⟨h.size,fun _ _=>jAm _,fun k i hk _=>by simp only[World.cell?];rw[h.block k hk],fun r hr=>(h.block r (zVa hr)).trans hr⟩,fun k hk _=>⟨h.block k hk,rfl⟩⟩
theorem w7a(s t:Str)(r:Str)(hr:kna s t=some r):Run prog 134 [.s s,.s t] (.s r):=by
 unfold kna at hr;split at hr
 case isFalse=>cases hr
 rename_i hc;obtain ⟨h1,h2,h3⟩:=hc;cases hr;refine ⟨⟨_,_,⟨func134,rfl,by kernel_rfl⟩⟩,fun g vs hw hg ha=>?_⟩;obtain ⟨hsz,hrel⟩:=ha;obtain ⟨l⟩:=vs
 match l,hsz with
 | [x,y],_=>
  obtain rfl:=qFb (hrel 0 _ rfl);obtain rfl:=qFb (hrel 1 _ rfl);have h116:(prog.info? 212).map (fun i=>(i.zero,i.size))=some (some (.agg (Array.replicate 256 (.bool false))),256):=by kernel_rfl
  refine callsIn_wide.2 ((Any.strings_TrimRight_laid Tryz.lays162 h116 (strB s) (strB t) g.w (by rw[zta];exact h1) (by rw[zta];exact h2) (ascii_of_all (by simpa[J3a,strB]using h3))).mono ?_);rintro e w' ⟨rfl,hb⟩;refine ⟨⟨w',g.u,g.loc⟩,_,rfl,(by intros;rfl),vPb hb,fun k hk=>hw k (jAt hb.size hk),rfl,?_⟩;rw[show (strB s).data.toList=s by simp[strB],show (strB t).data.toList=t by simp[strB]];exact .pv (.b rfl)
theorem JDa(a0:Str)(a1:Str)(r:Int)(hr:Zha a0 a1=some r):Run prog 120 [.s a0,.s a1] (.i r):=by
 unfold Zha at hr;refine rfx (fn:=Tryz.f120) func120 fun g0 hg=>?_
 refine clx 9 hr (w7a _ _) fun v1 _ hr=>?_
 refine rn tk 6 rfl ?_;obtain ⟨v3,h4,hr⟩:=zaa hr;refine wc h4 rfl rfl rfl ?_;refine ax 4 7 hr (fun hr=>?_) fun hr=>?_
 .exact kx 8 hr
 refine rn tk 3 rfl ?_;obtain ⟨v6,h7,hr⟩:=zaa hr;refine wc h7 rfl rfl rfl ?_;obtain ⟨v8,h9,hr⟩:=zaa hr;refine wc h9 rfl rfl rfl ?_;refine ax 4 11 hr (fun hr=>?_) fun hr=>?_
 .exact kx 8 hr
 exact kx 9 hr
theorem Q1a(a0:List UInt8)(a1:Str)(r:List (List UInt8))(hr:q6a a0 a1=some r):Run prog 75 [.l cU a0,.s a1] (.l (cL cU) r):=by
 unfold q6a at hr;refine rfx (fn:=f75) func75 fun g0 hg=>?_
 refine rn tk 10 rfl ?_;refine zza 1005 (o:=5) (j:=0) 23 1 rfl rfl rfl rfl (hO ?_);refine iq 12 700000 [2,3,4,5,6] (fn:=Tryz.f119) ⟨func119,rfl,by kernel_rfl⟩ fun T7 ds7=>?_
 refine ieq 13 (hO ?_);refine rn tk 3 rfl ?_;refine K9a (fn0:=f157) 800000 899998 899999 [(2,.ptr 2 0),(3,.ptr 3 0),(4,.ptr 4 0),(5,.ptr 5 0),(6,.ptr 6 0),(11,.fn (.func 157) [] [.ptr 1 0])] rfl rfl rfl ⟨func157,rfl,by kernel_rfl⟩ rfl rfl rfl rfl rfl (.cons rfl (.cons rfl (.cons rfl (.cons rfl (.cons rfl (.cons rfl .nil)))))) fun T8 rb8 L8 ds8 hT8 hLs8 hLp8 hLt8 hLq8 hLa8 hLb8=>hB W5a ?_
 refine aq2 6 hr [0,1] [899999,899998,800002,800003,800004,800005,800006,800011,1,5,3,2] (fun s1=>[(3,.i s1.1)]) (fun s1=>[(6,.cells [.i s1.2.1]),(1005,.row 23 false 1 (List.map (cL cU) s1.2.2)),(4,.cells [.pv (.sl (some true) [])])]) (.exit 0) [] [899999,899998,800002,800003,800004,800005,800006,800011,1,5,3,2] (fun _=>[]) (fun b2=>[(6,.cells [.i b2.1]),(1005,.row 23 false 1 (List.map (cL cU) b2.2)),(4,.cells [.pv (.sl (some true) [])])]) .ret [] [899999,800002,800003,800004,800005,800006,800011,1,5,3,2] (fun _=>[]) (fun b3=>[(899998,.lp rb8 ((stop L8 .ret))),(6,.cells [.i b3.1]),(1005,.row 23 false 1 (List.map (cL cU) b3.2.1)),(4,.cells [.l (cL cU) b3.2.2])]) (fun s1 x5 hr=>?_) (fun b2 hr=>?_) (fun b3 hr=>?_)
 .unfold wca at hr;refine rn tk 5 rfl<|wn tk rfl rfl rfl ?_;refine ax 3 10 hr (fun hr=>?_) fun hr=>?_
  .refine rn tk 7 rfl ?_;obtain ⟨v7,h8,hr⟩:=zaa hr;refine wlL tk h8 rfl rfl rfl (fun _=>rfl) rfl ?_;refine jja rfl (Vda (F:=cU) (l:=([(13:UInt8),(10:UInt8)]:List UInt8)) zra zxa rfl (fun _=>rfl) rfl rfl) zra zxa (z1a rfl) (z1a rfl) rfl (hO ?_);refine clx 0 hr (KHa _ _) fun v9 _ hr=>?_
   refine rn tk 6 rfl<|wn tk rfl rfl rfl ?_;refine jq 9 hr [0,1,3] [899999,899998,800002,800003,800004,800005,800006,800011,1,6,1005,5,3,2] (fun j11=>[(5,.i j11.1),(6,.i j11.2)]) (fun _=>[(4,.cells [.pv (.sl (some true) [])])]) (fun j11 hr=>?_) (fun j11 hr=>?_)
   .refine ax 6 21 hr (fun hr=>?_) fun hr=>?_
    .exact jx 11 hr
    exact jx 1 hr
   refine rn tk 8 rfl ?_;obtain ⟨v13,h14,hr⟩:=zaa hr;refine wlLH tk h14 rfl rfl rfl rfl (fun _=>rfl) rfl<|wb tk rfl rfl rfl ?_;refine Zxa (ps:=[12,13]) (args:=[.i s1.1,.s v13]) 800000 1200000 899998 1299999 [(2,.ptr 2 0),(3,.ptr 3 0),(4,.ptr 4 0),(5,.ptr 5 0),(6,.ptr 6 0),(11,.fn (.func 157) [] [.ptr 1 0])] [(0,.fn (.yield rb8) [] []),(1,.ptr 1 0),(6,.i j11.2)] (z1a rfl) rfl rfl hLs8 hLp8 hLt8 hLq8 hLa8 hLb8 hT8 rfl rfl rfl rfl (.cons rfl (.cons rfl (.cons rfl .nil))) (.cons rfl (.cons rfl (.cons rfl (.cons rfl (.cons rfl (.cons rfl .nil)))))) fun T12 ds12 hT12=>hB W7a ?_
   refine rn tk 8 rfl ?_;refine asgK kza qia rfl (hB W6a ?_);refine clx 5 hr (JDa _ _) fun v15 _ hr=>?_
   refine ax 10 18 hr (fun hr=>?_) fun hr=>?_
   .refine rnq 3 .off (hO ?_);exact cx 11 hr
   refine jq 2 hr [2,4,5,6,7,8,9] [1299999,1200000,1200001,1200006,899999,899998,800002,800003,800004,800005,800006,800011,1,6,5,3,2] (fun _=>[]) (fun j18=>[(1005,.row 23 false 1 (List.map (cL cU) j18)),(4,.cells [.pv (.sl (some true) [])])]) (fun j18 hr=>?_) (fun j18 hr=>?_)
   .refine ax 6 20 hr (fun hr=>?_) fun hr=>?_
    .obtain ⟨v20,h21,hr⟩:=zaa hr;refine dq 0 9 [] [(6,.i ((max s1.2.1 ((w64 (s1.1 - 2)))))),(7,.l cU v20),(8,.l (cL cU) (([v20]:List (List UInt8))))] .nil (.cons rfl rfl (zGa (v6b rfl rfl)) (.cons rfl rfl (zGa (v4b (F:=cU) rfl rfl rfl zra zxa (fun _=>rfl) h21)) (.cons rfl rfl (yba (F:=(cL cU)) (l:=([v20]:List (List UInt8))) Kma zra rfl (fun _=>rfl) rfl rfl) .nil))) ?_ mixed;obtain ⟨v22,h23,hr⟩:=zaa hr;refine wa tk h23 rfl rfl rfl rfl (fun _=>rfl) rfl rfl ?_;exact jx 2 hr
    exact jx 1 hr
   refine ax 7 32 hr (fun hr=>?_) fun hr=>?_
   .refine rn tk 6 rfl ?_;refine Zta (o:=4) (j:=0) (F:=(cL cU)) (l:=j18) rfl rfl rfl (hC ?_);refine rnq 3 .ret (hO ?_);exact ox 7 hr
   refine rn tk 9 rfl<|wn tk rfl rfl rfl<|wq (ev_min rfl rfl) rfl rfl rfl ?_;refine rnq 3 .off (hO ?_);exact cx 11 hr
  exact ox 2 hr
 .refine rn tk 1 rfl ?_;refine itrK (fr' :=[]) (L' :=L8) (fr'' :=[(2,.ptr 2 0),(3,.ptr 3 0),(4,.ptr 4 0),(5,.ptr 5 0),(6,.ptr 6 0),(11,.fn (.func 157) [] [.ptr 1 0])]) (σ'' :=[(1,.cells [.l cU a0]),(6,.cells [.i b2.1]),(1005,.row 23 false 1 (List.map (cL cU) b2.2)),(5,.cells [.hs 1005 0]),(4,.cells [.pv (.sl (some true) [])]),(3,.cells [.s a1]),(2,.cells [.l cU a0])]) (.inr rfl) qia rfl (.cons rfl (.cons rfl (.cons rfl (.cons rfl (.cons rfl (.cons rfl .nil)))))) rfl (zCa rfl (zCa rfl (zCa rfl (zCa rfl (zCa rfl (zCa rfl (zCa rfl kXa))))))) rfl<|.off (hA ?_);refine jq 2 hr [4,5] [5] (fun _=>[]) (fun j25=>[(1005,.row 23 false 1 (List.map (cL cU) j25)),(4,.cells [.pv (.sl (some true) [])])]) (fun j25 hr=>?_) (fun j25 hr=>?_)
  .refine ax 6 43 hr (fun hr=>?_) fun hr=>?_
   .obtain ⟨v27,h28,hr⟩:=zaa hr;refine dq 0 5 [] [(3,.l cU v27),(4,.l (cL cU) (([v27]:List (List UInt8))))] .nil (.cons rfl rfl (zGa (y1b (F:=cU) rfl rfl zra zxa (fun _=>rfl) h28)) (.cons rfl rfl (yba (F:=(cL cU)) (l:=([v27]:List (List UInt8))) Kma zra rfl (fun _=>rfl) rfl rfl) .nil)) ?_ mixed;obtain ⟨v29,h30,hr⟩:=zaa hr;refine wa tk h30 rfl rfl rfl rfl (fun _=>rfl) rfl rfl ?_;exact jx 2 hr
   exact jx 1 hr
  refine rn tk 6 rfl ?_;refine Zta (o:=4) (j:=0) (F:=(cL cU)) (l:=j25) rfl rfl rfl (hC ?_);exact kx 1 hr
 refine rn tk 1 rfl ?_;refine itrK (fr' :=[]) (L' :=(stop L8 .ret)) (fr'' :=[(2,.ptr 2 0),(3,.ptr 3 0),(4,.ptr 4 0),(5,.ptr 5 0),(6,.ptr 6 0),(11,.fn (.func 157) [] [.ptr 1 0])]) (σ'' :=[(1,.cells [.l cU a0]),(6,.cells [.i b3.1]),(1005,.row 23 false 1 (List.map (cL cU) b3.2.1)),(5,.cells [.hs 1005 0]),(4,.cells [.l (cL cU) b3.2.2]),(3,.cells [.s a1]),(2,.cells [.l cU a0])]) (.inl rfl) qia rfl (.cons rfl (.cons rfl (.cons rfl (.cons rfl (.cons rfl (.cons rfl .nil)))))) rfl (zCa rfl (zCa rfl (zCa rfl (zCa rfl (zCa rfl (zCa rfl (zCa rfl kXa))))))) rfl<|.jump (hC ?_);exact kx 3 hr
theorem KIa(a0:List zba)(a1:List UInt8)(a2:Int)(r:List (List UInt8))(hr:wxa a0 a1 a2=some r):Run prog 50 [.l zba.pc a0,.l cU a1,.i a2] (.l (cL cU) r):=by
 unfold wxa at hr;refine rfx (fn:=Tryz.f50) func50 fun g0 hg=>?_
 refine clx 8 hr (VKa _) fun v1 _ hr=>?_
 refine jq 8 hr [1,7] [] (fun j3=>[(19,.bo j3)]) (fun _=>[]) (fun j3 hr=>?_) (fun j3 hr=>?_)
 .refine bx 4 16 hr (fun c4 hr=>?_) fun c4 hr=>?_
  .exact jx 4 hr
  exact jx 4 hr
 refine ax 0 19 hr (fun hr=>?_) fun hr=>?_
 .exact kx 7 hr
 refine clx 6 hr (Q1a _ _) fun v6 _ hr=>?_
 exact kx 4 hr
theorem wzb{E:Env}{FR:Fr}{σ:Sto}{ty:TypeId}{pos:String}{af:Array Edge}{gu:Option (Nat × Bool)}{f:FuncId}{k:Nat}{xs:List Operand}{ats:Array TypeId}{args:List AV}{r:AV}{σ0 σ1:Sto}{O:Nat}{rows:List Nat}(hr:RunS E.P f args σ0 r σ1 O rows)(hN:Nat.ble (k+1) E.N=true)(ha:xs.map (fun x=>(FR.ev x).weak)=args)(hle:zTa σ σ0):
 HvD E ⟨some k,.call ⟨.value (.func f),xs.toArray,ats⟩,ty,pos,af,gu⟩ FR σ k r rows (σ1++(σ.dels (O::rows)).clrs rows):=
 ⟨fun fr he _=>Qca hr hN (by
  rw[<-ha];refine List.map_congr_left fun x hx=>?_
  rw[he x (by simp[Op.operands,Call.operands,hx])]) hle⟩
theorem opG_bl{E:Env}{o:Oper}{FR:Fr}{σ:Sto}{e b:Bool}(h:e=b)(x:OpG E o FR σ (.pv (.b (.bool e)))):OpG E o FR σ (.pv (.b (.bool b))):=h▸x
theorem zhb(w:World):(callFunc 236 #[]).run prog w=.ok (.value (.tuple #[])) w:=run_call_mark0 func236 (by kernel_rfl) (by kernel_rfl) (by kernel_rfl) .disable (by kernel_rfl) w
theorem qGb(w:World):(callFunc 238 #[]).run prog w=.ok (.value (.tuple #[])) w:=run_call_mark0 func238 (by kernel_rfl) (by kernel_rfl) (by kernel_rfl) .enable (by kernel_rfl) w
theorem yCb(a:Addr)(w:World):(callFunc 239 #[.pointer (some a)]).run prog w=.ok (.value (.tuple #[])) w:=run_call_marked func239 (by kernel_rfl) (by kernel_rfl) (by kernel_rfl) .acquire (by kernel_rfl) a w
theorem Y4a(a:Addr)(w:World):(callFunc 241 #[.pointer (some a)]).run prog w=.ok (.value (.tuple #[])) w:=run_call_marked func241 (by kernel_rfl) (by kernel_rfl) (by kernel_rfl) .releaseMerge (by kernel_rfl) a w
theorem Zqa(a:Addr)(x:Value)(u:FrameMode)(w:World)(hc:w.cell? a=some x)(hz:w.frozen? a=false):
 CallsD prog 205 #[.pointer (some a),.bool true] u w fun e u' w' =>u' =u/\(e=.returned (.tuple #[])/\w' =w.drew.setCell a (.int .u32 1)):=by
 have hc' :w.drew.cell? a=some x:=by go_simp
 have hz' :w.drew.frozen? a=false:=by go_simp
 have hst:=run_call_store (P:=prog) func223 (by kernel_rfl) (by kernel_rfl) (by kernel_rfl) (by kernel_rfl) (k:=.u32) (y:=1) hc' hz';go_enter_d func205,Tryz.ntmps205
 go_wp2
 go_region_calls
 all_goals (go_end0;exact ⟨rfl,rfl⟩)
theorem jva(a:Addr)(u:FrameMode)(w:World)(hc:w.cell? a=some (.int .i32 1))(hz:w.frozen? a=false):
 CallsD prog 204 #[.pointer (some a)] u w fun e u' w' =>u' =u/\(e=.returned (.tuple #[])/\w' =w.setCell a (.int .i32 0)):=by
 have hd:=zhb;have he:=qGb;have hr:=Y4a;have hadd:=run_call_add (P:=prog) func242 (by kernel_rfl) (by kernel_rfl) (by kernel_rfl) .i32 (by kernel_rfl) (y:= -1) (s:=0) hc hz (by simp[go_sem];rfl);have hcv:=run_convert_to_unsafe (P:=prog) (src:=307) (dst:=241) underlying307 underlying241 (by kernel_rfl) hc;go_enter_d func204,Tryz.ntmps204
 go_wp2
 go_end0
 go_wp2
 all_goals (go_end0;all_goals exact ⟨rfl,rfl⟩)
theorem WAa(a:Addr)(w:World)(hc:w.cell? a=some (.int .i32 0))(hz:w.frozen? a=false):
 Calls prog 203 #[.pointer (some a)] w fun e w' =>e=.returned (.tuple #[])/\w' =w.setCell a (.int .i32 1):=by
 have hd:=zhb;have he:=qGb;have ha:=yCb;have hcas:=run_call_cas_hit (P:=prog) func237 (by kernel_rfl) (by kernel_rfl) (by kernel_rfl) .i32 (by kernel_rfl) (y:=1) hc hz;have hc' :(w.setCell a (.int .i32 1)).cell? a=some (.int .i32 1):=World.cell?_setCell_same w a _ hc;have hcv:=run_convert_to_unsafe (P:=prog) (src:=307) (dst:=241) underlying307 underlying241 (by kernel_rfl) hc';go_enter func203,Tryz.ntmps203
 go_wp2
 first | go_end0 | (simp only[Exit.inBlock,Exit.then];refine bodyPost_ret (results_none rfl _ _ _) rfl ?_) | refine bodyPost_ret (results_none rfl _ _ _) rfl ?_
 go_wp2
 all_goals (go_end0;all_goals exact ⟨rfl,rfl⟩)
section
open Go.Shelf Go.RowKit Go.Lib Go.Proofs.Tryz
def kha:Array Value:=((List.range 256).map fun k:Nat=>Value.int .u8 (if k=0∨k=13 then 32 else (k:Int))).toArray
def wga(i:Nat):Array Value:=((List.range 256).map fun k:Nat=>Value.int .u8 (if k < i then (k:Int) else 0)).toArray
structure RpLaid (P:Program):Prop where
 mixed:P.follows Departure.mixedOrders=true
 f:P.funcs[177]? =some f177
 t3:P.underlying 3=some (.int .i64)
 a3:∀w:World,(isAgg 3).run P w=.ok false w
 z3:∀w:World,(Go.sizeOf 3).run P w=.ok 1 w
 v3:∀w:World,(zeroValue 3).run P w=.ok (.int .i64 0) w
 t4:P.underlying 4=some .bool
 a4:∀w:World,(isAgg 4).run P w=.ok false w
 z4:∀w:World,(Go.sizeOf 4).run P w=.ok 1 w
 v4:∀w:World,(zeroValue 4).run P w=.ok (.bool false) w
 t5:P.underlying 5=some (.int .u8)
 a5:∀w:World,(isAgg 5).run P w=.ok false w
 z5:∀w:World,(Go.sizeOf 5).run P w=.ok 1 w
 v5:∀w:World,(zeroValue 5).run P w=.ok (.int .u8 0) w
 t9:P.underlying 9=some .string
 a9:∀w:World,(isAgg 9).run P w=.ok false w
 z9:∀w:World,(Go.sizeOf 9).run P w=.ok 1 w
 v9:∀w:World,(zeroValue 9).run P w=.ok (.string ⟨#[]⟩) w
 t91:P.underlying 40=some (.slice 9)
 a91:∀w:World,(isAgg 40).run P w=.ok false w
 z91:∀w:World,(Go.sizeOf 40).run P w=.ok 1 w
 v91:∀w:World,(zeroValue 40).run P w=.ok (.slice none 0 0) w
 t222:P.underlying 273=some (.array 256 5)
 t170 : P.underlying 209 = some (.struct #[{ name := "once", type := 205, offset := 0, embedded := false, tag := "", pkgPath := "strings", byteOffset := 0 }, { name := "r", type := 207, offset := 3, embedded := false, tag := "", pkgPath := "strings", byteOffset := 16 }, { name := "oldnew", type := 40, offset := 4, embedded := false, tag := "", pkgPath := "strings", byteOffset := 32 }])
 z166:∀w:World,(Go.sizeOf 205).run P w=.ok 3 w
 z168:∀w:World,(Go.sizeOf 207).run P w=.ok 1 w
 hv222:∀w:World,(zeroValue 273).run P w=.ok (.agg (wga 0)) w
 c223:P.concrete 274=true
 z222:∀w:World,(Go.sizeOf 273).run P w=.ok 256 w
 hi222:(P.info? 273).map (·.size)=some 256
theorem rp_laid:RpLaid prog where
 mixed:=by kernel_rfl
 f:=func177
 t3:=underlying3
 a3:=isAgg3
 z3:=sizeOf3
 v3:=zeroValue3
 t4:=underlying4
 a4:=isAgg4
 z4:=sizeOf4
 v4:=zeroValue4
 t5:=underlying5
 a5:=isAgg5
 z5:=sizeOf5
 v5:=zeroValue5
 t9:=underlying9
 a9:=isAgg9
 z9:=sizeOf9
 v9:=zeroValue9
 t91:=underlying40
 a91:=isAgg40
 z91:=sizeOf40
 v91:=zeroValue40
 t222:=underlying273
 t170:=underlying209
 z166:=sizeOf205
 z168:=sizeOf207
 hv222:=fun w=>(zeroValue273 w).trans (by kernel_rfl)
 c223:=by kernel_rfl
 z222:=sizeOf273
 hi222:=by kernel_rfl
theorem zib(i k:Nat)(h:k < 256):(wga i)[k]? =some (.int .u8 (if k < i then (k:Int) else 0)):=by
 unfold wga;simp only[jBk,jAk,List.getElem?_range h,jCw]
theorem vQb(i:Nat)(h:i < 256):(wga i).setIfInBounds i (.int .u8 (i:Int))=wga (i+1):=by
 apply Array.ext_getElem?;intro k;rw[jBq];unfold wga;simp only[jBk,jAk,List.size_toArray,jAx,List.length_range];by_cases hk:i=k
 .subst hk;rw[if_pos rfl,if_pos h,List.getElem?_range h];simp
 rw[if_neg hk];by_cases h2:k < 256
 .rw[List.getElem?_range h2];simp only[jCw];have:(k < i)↔(k < i+1):=by omega
  simp only[this]
 rw[jCv (by simp;omega)];rfl
def wAb:Array Value:=(wga 256).setIfInBounds 13 (.int .u8 32)
theorem yDb:wAb.setIfInBounds 0 (.int .u8 32)=kha:=by kernel_rfl
theorem rp_build{P:Program}(L:RpLaid P)(b d o c:Nat)(w:World)(hr:w.cell? ⟨b,4,none⟩=some (.slice (some ⟨d,o,none⟩) 4 c))(hd:d < w.heap.size)(h0:w.cell? ⟨d,o,none⟩=some (.string ⟨#[0]⟩))(h1:w.cell? ⟨d,o+1,none⟩=some (.string ⟨#[32]⟩))(h2:w.cell? ⟨d,o+2,none⟩=some (.string ⟨#[13]⟩))(h3:w.cell? ⟨d,o+3,none⟩=some (.string ⟨#[32]⟩)):
 Calls P 177 #[.pointer (some ⟨b,0,none⟩)] w fun e w' =>e=.returned (.iface 274 (.pointer (some ⟨w.heap.size,0,none⟩)))/\w' =w.alloc (.cells kha 273):=by
 have t3:=L.t3;have a3:=L.a3;have z3:=L.z3;have v3:=L.v3;have t4:=L.t4;have a4:=L.a4;have z4:=L.z4;have v4:=L.v4;have t5:=L.t5;have a5:=L.a5;have z5:=L.z5;have v5:=L.v5;have t9:=L.t9;have a9:=L.a9;have z9:=L.z9;have v9:=L.v9;have t91:=L.t91;have a91:=L.a91;have z91:=L.z91;have v91:=L.v91;have t170:=L.t170;have z166:=L.z166;have z168:=L.z168;have hv222:=L.hv222;have u222:=run_underlying L.t222;have t222:=L.t222;have u170:=run_underlying L.t170;have u91:=run_underlying L.t91;have u9:=run_underlying L.t9;have u5:=run_underlying L.t5;have u3:=run_underlying L.t3;have u4:=run_underlying L.t4;have hmk:∀(x:Value) (w:World),(Instr.makeInterface 274 x).run P w=.ok (.iface 274 x) w:=fun x w=>run_makeInterface w _ x L.c223
 go_enter L.f,Tryz.ntmps177
 go_wp2
 go_loopg [4,5] 2 (fun g v4 v5 wx=>v4=.bool true/\wx=w/\((g=2/\v5=.int .i64 0)∨(g=1/\v5=.int .i64 2)∨(g=0/\v5=.int .i64 4)))
 case atStart=>exact ⟨rfl,rfl,.inl ⟨rfl,rfl⟩⟩
 case round=>
  obtain ⟨rfl,rfl,hg⟩:=hrel;rcases hg with ⟨rfl,rfl⟩ | ⟨rfl,rfl⟩ | ⟨rfl,rfl⟩
  .go_wp2
   go_roundg 1
   case measure=>omega
   case rel=>exact ⟨rfl,rfl,.inr (.inl ⟨rfl,rfl⟩)⟩
  .go_wp2
   go_roundg 0
   case measure=>omega
   case rel=>exact ⟨rfl,rfl,.inr (.inr ⟨rfl,rfl⟩)⟩
  have hsz:(wga 0).size=256:=by simp[wga]
  have hsc:=run_storeCells_new (P:=P) wr 273 (wga 0) (wga 0) (by rw[hsz];exact L.hi222) rfl (by decide+kernel);go_wp2
  simp only[L.z222,Result.andThen,↓reduceIte,hsc];rw[Oper.upon_skip];go_wp2
  have k0:∀A:Array Value,(wr.alloc (.cells A 273)).cell? ⟨d,o,none⟩=some (.string ⟨#[0]⟩):=fun A=>by rw[World.cell?_alloc_past _ _ _ hd];exact h0
  have k1:∀A:Array Value,(wr.alloc (.cells A 273)).cell? ⟨d,o+1,none⟩=some (.string ⟨#[32]⟩):=fun A=>by rw[World.cell?_alloc_past _ _ _ hd];exact h1
  have k2:∀A:Array Value,(wr.alloc (.cells A 273)).cell? ⟨d,o+2,none⟩=some (.string ⟨#[13]⟩):=fun A=>by rw[World.cell?_alloc_past _ _ _ hd];exact h2
  have k3:∀A:Array Value,(wr.alloc (.cells A 273)).cell? ⟨d,o+3,none⟩=some (.string ⟨#[32]⟩):=fun A=>by rw[World.cell?_alloc_past _ _ _ hd];exact h3
  go_loopg [61] 256 (fun g v61 wx=>∃i:Nat,i+g=256/\v61=.int .i64 i/\wx=wr.alloc (.cells (wga i) 273))
  case atStart=>exact ⟨0,rfl,rfl,rfl⟩
  case round=>
   obtain ⟨i,hig,rfl,rfl⟩:=hrel;cases gk with
   | zero=>
    obtain rfl:i=256:=by omega
    have c13:=zib 256 13 (by omega);have m0:wAb[0]? =some (.int .u8 0):=by kernel_rfl
    have hm1:(wga 256).setIfInBounds 13 (.int .u8 32)=wAb:=rfl;have hm2:=yDb;go_wp2
    go_loopg [8] 2 (fun g v8 wx=>(g=2/\v8=.int .i64 2/\wx=wr.alloc (.cells (wga 256) 273))∨(g=1/\v8=.int .i64 0/\wx=wr.alloc (.cells wAb 273))∨(g=0/\v8=.int .i64 (-2)/\wx=wr.alloc (.cells kha 273)))
    case atStart=>exact .inl ⟨rfl,rfl,rfl⟩
    case round=>
     rcases hrel with ⟨rfl,rfl,rfl⟩ | ⟨rfl,rfl,rfl⟩ | ⟨rfl,rfl,rfl⟩
     .go_wp2
      go_roundg 1
      case measure=>omega
      case rel=>exact .inr (.inl ⟨rfl,rfl,by first | rfl | rw[hm1]⟩)
     .go_wp2
      go_roundg 0
      case measure=>omega
      case rel=>exact .inr (.inr ⟨rfl,rfl,by first | rfl | rw[hm2]⟩)
     go_wp2
     go_ret
     exact ⟨rfl,rfl⟩
   | succ g=>
    have hi:(i:Int) < 256:=by omega
    have hset:=vQb i (by omega);have hcell:=zib i i (by omega);go_wp2
    go_roundg g
    case measure=>omega
    case rel=>exact ⟨i+1,by omega,by first | rfl | simp,by first | rfl | rw[hset]⟩
end
section
open Go.Shelf Go.RowKit Go.Lib Go.Proofs.Tryz
abbrev bI(A:Nat):Value:=.iface 274 (.pointer (some ⟨A,0,none⟩))
theorem kaa{b i j:Nat}(h:i≠j):(⟨b,i,none⟩:Addr)≠⟨b,j,none⟩:=fun e=>h (by cases e;rfl)
theorem KJa{b c i j:Nat}(h:b≠c):(⟨b,i,none⟩:Addr)≠⟨c,j,none⟩:=fun e=>h (by cases e;rfl)
structure yEb (w:World) (b d o c:Nat):Prop where
 hb:b < w.heap.size
 hd:d < w.heap.size
 ne:b≠d
 c0:w.cell? ⟨b,0,none⟩=some (.int .u32 0)
 c1:w.cell? ⟨b,1,none⟩=some (.int .i32 0)
 c3:w.cell? ⟨b,3,none⟩=some .nilIface
 c4:w.cell? ⟨b,4,none⟩=some (.slice (some ⟨d,o,none⟩) 4 c)
 fz:∀i,w.frozen? ⟨b,i,none⟩=false
 s0:w.cell? ⟨d,o,none⟩=some (.string ⟨#[0]⟩)
 s1:w.cell? ⟨d,o+1,none⟩=some (.string ⟨#[32]⟩)
 s2:w.cell? ⟨d,o+2,none⟩=some (.string ⟨#[13]⟩)
 s3:w.cell? ⟨d,o+3,none⟩=some (.string ⟨#[32]⟩)
theorem rp_once(b d o c:Nat)(w:World)(hb:b < w.heap.size)(hd:d < w.heap.size)(c3:w.cell? ⟨b,3,none⟩=some .nilIface)(c4:w.cell? ⟨b,4,none⟩=some (.slice (some ⟨d,o,none⟩) 4 c))(fz:∀i,w.frozen? ⟨b,i,none⟩=false)
 (s0:w.cell? ⟨d,o,none⟩=some (.string ⟨#[0]⟩)) (s1:w.cell? ⟨d,o+1,none⟩=some (.string ⟨#[32]⟩)) (s2:w.cell? ⟨d,o+2,none⟩=some (.string ⟨#[13]⟩)) (s3:w.cell? ⟨d,o+3,none⟩=some (.string ⟨#[32]⟩)):
 Calls prog 143 #[.pointer (some ⟨b,0,none⟩)] w fun e w' =>e=.returned (.tuple #[])/\
  w' =((w.setCell ⟨b,3,none⟩ (bI w.heap.size)).setCell ⟨b,4,none⟩ (.slice none 0 0)).alloc (.cells kha 273):=by
 have a3:(w.alloc (.cells kha 273)).cell? ⟨b,3,none⟩=some .nilIface:=by rw[World.cell?_alloc_past _ _ _ hb];exact c3
 have z3:(w.alloc (.cells kha 273)).frozen? ⟨b,3,none⟩=false:=by rw[World.frozen?_alloc_past _ _ _ hb];exact fz 3
 have a4:((w.alloc (.cells kha 273)).setCell ⟨b,3,none⟩ (bI w.heap.size)).cell? ⟨b,4,none⟩=some (.slice (some ⟨d,o,none⟩) 4 c):=by rw[World.cell?_setCell_other _ _ _ _ (kaa (by decide)),World.cell?_alloc_past _ _ _ hb];exact c4
 have z4:((w.alloc (.cells kha 273)).setCell ⟨b,3,none⟩ (bI w.heap.size)).frozen? ⟨b,4,none⟩=false:=by
  have:=fz 4;have h2:(w.alloc (.cells kha 273)).frozen? ⟨b,4,none⟩=false:=by rw[World.frozen?_alloc_past _ _ _ hb];exact this
  simp[h2]
 go_enter func143,Tryz.ntmps143
 go_wp2_with (go_at_call 177;refine (rp_build rp_laid b d o c _ c4 hd s0 s1 s2 s3).mono ?_;rintro e w' ⟨rfl,rfl⟩)
 go_end0
 exact ⟨rfl,rfl⟩
theorem Yfa(a:Addr)(w:World)(h:w.cell? a=some (.int .u32 0)):Calls prog 175 #[.pointer (some a)] w fun e w' =>e=.returned (.bool false)/\w' =w:=by
 have hl:=run_call_load (P:=prog) func202 (by kernel_rfl) (by kernel_rfl) (by kernel_rfl) .u32 (by kernel_rfl) h;go_enter func175,Tryz.ntmps175
 go_wp2
 go_ret
 exact ⟨rfl,rfl⟩
theorem rp_load1(a:Addr)(w:World)(h:w.cell? a=some (.int .u32 1)):Calls prog 175 #[.pointer (some a)] w fun e w' =>e=.returned (.bool true)/\w' =w:=by
 have hl:=run_call_load (P:=prog) func202 (by kernel_rfl) (by kernel_rfl) (by kernel_rfl) .u32 (by kernel_rfl) h;go_enter func175,Tryz.ntmps175
 go_wp2
 go_ret
 exact ⟨rfl,rfl⟩
def ranW(b:Nat)(w:World):World:=(((((w.setCell ⟨b,1,none⟩ (.int .i32 1)).setCell ⟨b,3,none⟩ (bI w.heap.size)).setCell ⟨b,4,none⟩ (.slice none 0 0)).alloc (.cells kha 273)).drew.setCell ⟨b,0,none⟩ (.int .u32 1)).setCell ⟨b,1,none⟩ (.int .i32 0)
theorem rp_slow(b d o c:Nat)(w:World)(F:yEb w b d o c):
 Calls prog 176 #[.pointer (some ⟨b,0,none⟩),.func (.func 143) #[.pointer (some ⟨b,0,none⟩)] #[]] w fun e w' =>e=.returned (.tuple #[])/\w' =ranW b w:=by
 have hw1:(w.setCell ⟨b,1,none⟩ (.int .i32 1)).heap.size=w.heap.size:=by simp
 have hl:(w.setCell ⟨b,1,none⟩ (.int .i32 1)).cell? ⟨b,0,none⟩=some (.int .u32 0):=(World.cell?_setCell_other _ ⟨b,1,none⟩ ⟨b,0,none⟩ _ (by simp)).trans F.c0;have ho:Calls prog 143 #[.pointer (some ⟨b,0,none⟩)] (w.setCell ⟨b,1,none⟩ (.int .i32 1)) fun e w' =>e=.returned (.tuple #[])/\
  w' =(((w.setCell ⟨b,1,none⟩ (.int .i32 1)).setCell ⟨b,3,none⟩ (bI w.heap.size)).setCell ⟨b,4,none⟩ (.slice none 0 0)).alloc (.cells kha 273):=by
  have h:=rp_once b d o c (w.setCell ⟨b,1,none⟩ (.int .i32 1)) (by rw[hw1];exact F.hb) (by rw[hw1];exact F.hd) ((World.cell?_setCell_other _ _ _ _ (kaa (by decide))).trans F.c3) ((World.cell?_setCell_other _ _ _ _ (kaa (by decide))).trans F.c4) (fun i=>by have:=F.fz i;simp[this])
   ((World.cell?_setCell_other _ _ _ _ (KJa F.ne)).trans F.s0) ((World.cell?_setCell_other _ _ _ _ (KJa F.ne)).trans F.s1) ((World.cell?_setCell_other _ _ _ _ (KJa F.ne)).trans F.s2) ((World.cell?_setCell_other _ _ _ _ (KJa F.ne)).trans F.s3)
  rw[hw1]at h;exact h
 have hnot:∀(x:Bool) (w:World),(Op.unary .not (.bool x)).run prog w=.ok (.bool (!x)) w:=fun _ _=>rfl
 have h1:=F.c1;have f1:=F.fz 1;go_enter_defers func176,Tryz.ntmps176
 go_wp2_with (first | (go_at_call 203;refine (WAa ⟨b,1,none⟩ _ (by go_simp) (by go_simp)).mono ?_;rintro e w' ⟨rfl,rfl⟩) | (go_at_call 175;refine (Yfa ⟨b,0,none⟩ _ hl).mono ?_;rintro e w' ⟨rfl,rfl⟩) | (go_at_call 143;refine ho.mono ?_;rintro e w' ⟨rfl,rfl⟩))
 go_wp2
 have hA0:((((w.setCell ⟨b,1,none⟩ (.int .i32 1)).setCell ⟨b,3,none⟩ (bI w.heap.size)).setCell ⟨b,4,none⟩ (.slice none 0 0)).alloc (.cells kha 273)).cell? ⟨b,0,none⟩=some (.int .u32 0):=by
  rw[World.cell?_alloc_past _ _ _ (by simp;exact F.hb),World.cell?_setCell_other _ _ _ _ (kaa (by decide)),World.cell?_setCell_other _ _ _ _ (kaa (by decide)),World.cell?_setCell_other _ _ _ _ (kaa (by decide))];exact F.c0
 have hA1:((((w.setCell ⟨b,1,none⟩ (.int .i32 1)).setCell ⟨b,3,none⟩ (bI w.heap.size)).setCell ⟨b,4,none⟩ (.slice none 0 0)).alloc (.cells kha 273)).cell? ⟨b,1,none⟩=some (.int .i32 1):=by
  rw[World.cell?_alloc_past _ _ _ (by simp;exact F.hb),World.cell?_setCell_other _ _ _ _ (kaa (by decide)),World.cell?_setCell_other _ _ _ _ (kaa (by decide))];exact World.cell?_setCell_same w _ _ h1
 have hZ:∀i,((((w.setCell ⟨b,1,none⟩ (.int .i32 1)).setCell ⟨b,3,none⟩ (bI w.heap.size)).setCell ⟨b,4,none⟩ (.slice none 0 0)).alloc (.cells kha 273)).frozen? ⟨b,i,none⟩=false:=fun i=>by
  have:=F.fz i;rw[World.frozen?_alloc_past _ _ _ (by simp;exact F.hb)];simp[this]
 refine leaves_cons (f:=205) (args:= #[.pointer (some ⟨b,0,none⟩),.bool true]) (by simp) (by simp[go_sem])<|(Zqa ⟨b,0,none⟩ (.int .u32 0) .returning _ hA0 (hZ 0)).mono ?_;rintro e u' w'' ⟨rfl,rfl,rfl⟩;refine leaves_cons (f:=204) (args:= #[.pointer (some ⟨b,1,none⟩)]) (by simp[settle]) (by simp[go_sem])<|(jva ⟨b,1,none⟩ _ _ ?_ ?_).mono ?_
 .rw[World.cell?_setCell_other _ _ _ _ (kaa (by decide)),World.cell?_drew];exact hA1
 .have:=hZ 1;simp at this ⊢;exact this
 rintro e u' w'' ⟨rfl,rfl,rfl⟩;simp[Leaves,settle,results,Tryz.results176,ranW]
end
section
open Go.Shelf Go.RowKit Go.Lib Go.Proofs.Tryz
theorem vRb(b d o c:Nat)(w:World)(F:yEb w b d o c):
 Calls prog 142 #[.pointer (some ⟨b,0,none⟩),.func (.func 143) #[.pointer (some ⟨b,0,none⟩)] #[]] w fun e w' =>e=.returned (.tuple #[])/\w' =ranW b w:=by
 have hnot:∀(x:Bool) (w:World),(Op.unary .not (.bool x)).run prog w=.ok (.bool (!x)) w:=fun _ _=>rfl
 go_enter func142,Tryz.ntmps142
 go_wp2_with (first | (go_at_call 175;refine (Yfa ⟨b,0,none⟩ _ F.c0).mono ?_;rintro e w' ⟨rfl,rfl⟩) | (go_at_call 176;refine (rp_slow b d o c _ F).mono ?_;rintro e w' ⟨rfl,rfl⟩))
 go_end0
 exact ⟨rfl,rfl⟩
theorem yFb(b:Nat)(fv:Value)(w:World)(h:w.cell? ⟨b,0,none⟩=some (.int .u32 1)):
 Calls prog 142 #[.pointer (some ⟨b,0,none⟩),fv] w fun e w' =>e=.returned (.tuple #[])/\w' =w:=by
 have hnot:∀(x:Bool) (w:World),(Op.unary .not (.bool x)).run prog w=.ok (.bool (!x)) w:=fun _ _=>rfl
 go_enter func142,Tryz.ntmps142
 go_wp2_with (go_at_call 175;refine (rp_load1 ⟨b,0,none⟩ _ h).mono ?_;rintro e w' ⟨rfl,rfl⟩)
 go_end0
 exact ⟨rfl,rfl⟩
def mixL(L:List UInt8)(i:Nat):List UInt8:=(L.take i).map kea++L.drop i
theorem mix_zero(L:List UInt8):mixL L 0=L:=by simp[mixL]
theorem Zwb(L:List UInt8):mixL L L.length=L.map kea:=by simp[mixL]
theorem vSb(L:List UInt8)(i:Nat):(mixL L i).length=L.length:=by simp[mixL];omega
theorem Zxb{L:List UInt8}{i:Nat}{x:UInt8}(h:L[i]? =some x):(mixL L i)[i]? =some x:=by
 have hi:=(jAd.1 h).1;unfold mixL;rw[jAq (by simp;omega)];simp only[jAx,jCh,jBu];rw[show i+(i - min i L.length)=i by omega];exact h
theorem kdb{L:List UInt8}{i:Nat}{x:UInt8}(h:L[i]? =some x):mixL L (i+1)=(mixL L i).set i (kea x):=by
 have hi:=(jAd.1 h).1;have hx:=(jAd.1 h).2;unfold mixL;rw[List.set_append_right _ _ (by simp;omega)];simp only[jAx,jCh];rw[show i - min i L.length=0 by omega,jCp,h,jCg hi,hx];simp
theorem wBb{L:List UInt8}{i:Nat}{x:UInt8}(h:L[i]? =some x)(hc:kea x=x):mixL L (i+1)=mixL L i:=by
 rw[kdb h,hc];apply List.ext_getElem?;intro j;rw[List.getElem?_set];by_cases e:i=j
 .subst e;rw[if_pos rfl,if_pos (by rw[vSb];exact (jAd.1 h).1),Zxb h]
 rw[if_neg e]
theorem zjb{x:UInt8}(h:((kea x).toNat:Int)=(x.toNat:Int)):kea x=x:=jDj.1 (by omega)
def vka(C:Array Value)(l:List UInt8):Prop:=∀(j:Nat) x,l[j]? =some x->C[j]? =some (.int .u8 (x.toNat:Int))
theorem qHb{C:Array Value}{l:List UInt8}{i:Nat}{y:UInt8}(h:vka C l)(hi:i < l.length):vka (C.setIfInBounds i (.int .u8 (y.toNat:Int))) (l.set i y):=by
 intro j x hx;have hC:=h i _ (jAe hi);have hsz:=(jBh.1 hC).1;rw[List.getElem?_set]at hx;rw[jBq];by_cases e:i=j
 .subst e;rw[if_pos rfl,if_pos hi]at hx;cases hx;rw[if_pos rfl,if_pos hsz]
 rw[if_neg e]at hx ⊢;exact h j x hx
theorem Y5a(s:ByteArray)(cap:Nat):vka (bytesRow s cap) s.data.toList:=by
 intro j x hx;have hj:=(jAd.1 hx).1;unfold bytesRow;rw[jAw (by simpa using hj)];simp only[Array.getElem?_map];rw[show s.data[j]? =some x by simpa using hx];rfl
theorem WBa(w:World)(C:Array Value)(t:TypeId)(fz:Nat × Nat)(i:Nat)(v:Value):(w.alloc (.cells C t fz)).setCell ⟨w.heap.size,i,none⟩ v=w.alloc (.cells (C.setIfInBounds i v) t fz):=by
 unfold World.setCell World.alloc
 congr 1
 apply Array.ext_getElem?;intro k;simp only[jBl,Array.getElem?_push];by_cases hk:k=w.heap.size
 .subst hk;simp
 simp[hk,Ne.symm hk]
theorem wCb(A:Nat)(s:ByteArray)(w:World)(hlen:s.size<=4611686018427387904)(hA:A < w.heap.size)(ht:∀x:UInt8,w.cell? ⟨A,x.toNat,none⟩=some (.int .u8 ((kea x).toNat:Int))):
 Calls prog 308 #[.pointer (some ⟨A,0,none⟩),.string s] w fun e w' =>e=.returned (.string ⟨(s.data.toList.map kea).toArray⟩)/\(w' =w∨∃C fz,w' =(w.alloc (.cells C 5 fz)).drew):=by
 have HT:Aside (∀x:UInt8,w.cell? ⟨A,x.toNat,none⟩=some (.int .u8 ((kea x).toNat:Int))):=ht;clear ht;have HT2:Aside (∀(x:UInt8) (C:Array Value) (fz:Nat × Nat),(w.alloc (.cells C 5 fz)).cell? ⟨A,x.toNat,none⟩=some (.int .u8 ((kea x).toNat:Int))):=fun x C fz=>by
  rw[World.cell?_alloc_past _ _ _ hA];exact HT.out x
 have hcv:(convert 9 23 (.string s)).run prog w=.ok (.slice (some ⟨w.heap.size,0,none⟩) s.size (grownCap w s.size 0 5))
  (w.alloc (.cells (bytesRow s (grownCap w s.size 0 5)) 5 ((bytesRow s (grownCap w s.size 0 5)).size,(bytesRow s (grownCap w s.size 0 5)).size+1))).drew:=run_bytes_of_string (P:=prog) w 9 23 5 s underlying9 underlying23 underlying5
 have hn1:∀w:World,(binOp .eql 23 (.slice none 0 0) (.slice none 0 0)).run prog w=.ok (.bool true) w:=fun w=>by
  simp only[binOp];simp[run_equal_slice_nil w 23 5 none 0 0 underlying23]
 have hn2:∀(a:Addr) (l c:Nat) (w:World),(binOp .eql 23 (.slice (some a) l c) (.slice none 0 0)).run prog w=.ok (.bool false) w:=fun a l c w=>by
  simp only[binOp];simp[run_equal_slice_nil w 23 5 (some a) l c underlying23]
 have hL:Lib.Kept (s.data.toList.length=s.size):=rfl;go_enter func308,Tryz.ntmps308
 go_wp2
 go_loopg [5,6] s.size (fun g v5 v6 wx=>∃i:Nat,i+g=s.size/\v6=.int .i64 i/\((v5=.slice none 0 0/\wx=w/\Lib.Kept (mixL s.data.toList i=s.data.toList))∨∃C cap lo hi,v5=.slice (some ⟨w.heap.size,0,none⟩) s.size cap/\wx=(w.alloc (.cells C 5 (lo,hi))).drew/\Lib.Kept (lo=C.size)/\Lib.Kept (vka C (mixL s.data.toList i))))
 case atStart=>exact ⟨0,by omega,rfl,.inl ⟨rfl,rfl,mix_zero _⟩⟩
 case round=>
  obtain ⟨i,hig,rfl,hrel⟩:=hrel;cases gk with
  | zero=>
   obtain rfl:i=s.size:=by omega
   have hiz:¬((s.size:Int) < (s.size:Int)):=by omega
   rcases hrel with ⟨rfl,rfl,hk⟩ | ⟨C,cap,lo,hi,rfl,rfl,hz,hrow⟩
   .go_wp2
    go_ret
    refine ⟨?_,.inl rfl⟩;have hk' :mixL s.data.toList s.size=s.data.toList:=hk;rw[show s.size=s.data.toList.length from rfl,Zwb]at hk';rw[hk'];show Ending.returned (Value.string s)=Ending.returned (Value.string ⟨s.data.toList.toArray⟩);simp
   have hback:=run_convert_bytes_back (P:=prog) ((w.alloc (.cells C 5 (lo,hi))).drew) 23 9 5 ⟨w.heap.size,0,none⟩ cap (s.data.toList.map kea) underlying23 underlying5 underlying9 (fun j hj=>by
    have hr:vka C (mixL s.data.toList s.size):=hrow;rw[show s.size=s.data.toList.length from rfl,Zwb]at hr;have:=hr j _ (jAe hj);rw[show (⟨w.heap.size,0,none⟩:Addr).add j=⟨w.heap.size,j,none⟩ by unfold Addr.add;split <;> simp_all];rw[World.cell?_drew,World.cell?_alloc_mark];exact this)
   rw[show (s.data.toList.map kea).length=s.size by simp]at hback;clear hrow hz;go_wp2
   go_ret
   first | exact ⟨rfl,.inr ⟨C,(lo,hi),rfl⟩⟩ | exact ⟨rfl,.inr ⟨C,lo,hi,rfl⟩⟩
  | succ g=>
   have hi:i < s.size:=by omega
   have hiz:(i:Int) < (s.size:Int):=by omega
   obtain ⟨x,hx⟩:∃x:UInt8,s[i]'hi=x:=⟨_,rfl⟩;have hxl:Lib.Kept (s.data.toList[i]? =some x):=by rw[<-hx];exact Lib.data_getElem? s i hi
   have hx256:(x.toNat:Int) < 256:=by have:=jDe x;omega
   have hwr:wrap64 ((i:Int)+1)=((i:Int)+1):=by unfold wrap64;omega
   rcases hrel with ⟨rfl,rfl,hk⟩ | ⟨C,cap,lo,hi2,rfl,rfl,hz,hrow⟩
   .have hcell:=HT.out x;by_cases hcl:((kea x).toNat:Int)=(x.toNat:Int)
    .go_wp2
     go_roundg g
     case measure=>omega
     case rel=>exact ⟨i+1,by omega,by first | rfl | simp,.inl ⟨rfl,rfl,(wBb hxl (zjb hcl)).trans hk⟩⟩
    have hrow:Lib.Kept (vka (bytesRow s (grownCap wr s.size 0 5)) (mixL s.data.toList i)):=by
     have hk' :mixL s.data.toList i=s.data.toList:=hk;rw[hk'];exact Y5a s _
    generalize bytesRow s (grownCap wr s.size 0 5)=B at hcv hrow;have hBi:B[i]? =some (.int .u8 (x.toNat:Int)):=by
     have hr:vka B (mixL s.data.toList i):=hrow;exact hr i x (Zxb hxl)
    have hBs:i < B.size:=(jBh.1 hBi).1;have hc2:=HT2.out x B (B.size,B.size+1);have hc1:(wr.alloc (.cells B 5 (B.size,B.size+1))).cell? ⟨wr.heap.size,i,none⟩=some (.int .u8 (x.toNat:Int)):=(World.cell?_alloc_mark wr B 5 _ i).trans hBi;have hf1:(wr.alloc (.cells B 5 (B.size,B.size+1))).frozen? ⟨wr.heap.size,i,none⟩=false:=(World.frozen?_alloc_mark wr B 5 _ _ i).trans (by rw[decide_eq_false (by omega)];rfl);have hs1:=WBa wr B 5 (B.size,B.size+1) i (.int .u8 ((kea x).toNat:Int));have HB:Lib.Kept (B[i]? =some (.int .u8 (x.toNat:Int))):=hBi;clear hBi hBs hk;go_wp2
    go_roundg g
    case measure=>omega
    case rel=>
     refine ⟨i+1,by omega,by first | rfl | simp,.inr ⟨_,_,_,_,rfl,by first | rfl | exact congrArg World.drew hs1,?_,?_⟩⟩
     .show B.size=(B.setIfInBounds i _).size;simp
     have hr:vka B (mixL s.data.toList i):=hrow;show vka _ (mixL s.data.toList (i+1));rw[kdb hxl];exact qHb hr (by rw[vSb];exact hi)
   have hBi:C[i]? =some (.int .u8 (x.toNat:Int)):=by
    have hr:vka C (mixL s.data.toList i):=hrow;exact hr i x (Zxb hxl)
   have hBs:i < C.size:=(jBh.1 hBi).1;have hz' :lo=C.size:=hz;have hc2:=HT2.out x C (lo,hi2);have hc1:(w.alloc (.cells C 5 (lo,hi2))).cell? ⟨w.heap.size,i,none⟩=some (.int .u8 (x.toNat:Int)):=(World.cell?_alloc_mark w C 5 _ i).trans hBi;have hf1:(w.alloc (.cells C 5 (lo,hi2))).frozen? ⟨w.heap.size,i,none⟩=false:=(World.frozen?_alloc_mark w C 5 _ _ i).trans (by rw[decide_eq_false (by omega)];rfl);have hs1:=WBa w C 5 (lo,hi2) i (.int .u8 ((kea x).toNat:Int));clear hBi hBs hz';by_cases hcl:((kea x).toNat:Int)=(x.toNat:Int)
   .go_wp2
    go_roundg g
    case measure=>omega
    case rel=>
     refine ⟨i+1,by omega,by first | rfl | simp,.inr ⟨C,cap,lo,hi2,rfl,rfl,hz,?_⟩⟩;show vka C (mixL s.data.toList (i+1));rw[wBb hxl (zjb hcl)];exact hrow
   go_wp2
   go_roundg g
   case measure=>omega
   case rel=>
    refine ⟨i+1,by omega,by first | rfl | simp,.inr ⟨_,_,_,_,rfl,by first | rfl | exact congrArg World.drew hs1,?_,?_⟩⟩
    .show lo=(C.setIfInBounds i _).size;rw[Array.size_setIfInBounds];exact hz
    have hr:vka C (mixL s.data.toList i):=hrow;show vka _ (mixL s.data.toList (i+1));rw[kdb hxl];exact qHb hr (by rw[vSb];exact hi)
end
section
open Go.Shelf Go.RowKit Go.Lib Go.Proofs.Tryz
structure Built (w:World) (b A:Nat):Prop where
 hb:b < w.heap.size
 hA:A < w.heap.size
 c0:w.cell? ⟨b,0,none⟩=some (.int .u32 1)
 c3:w.cell? ⟨b,3,none⟩=some (bI A)
 tab:∀x:UInt8,w.cell? ⟨A,x.toNat,none⟩=some (.int .u8 ((kea x).toNat:Int))
def ranT(T:Array Value)(b:Nat)(w:World):World:=(((((w.setCell ⟨b,1,none⟩ (.int .i32 1)).setCell ⟨b,3,none⟩ (bI w.heap.size)).setCell ⟨b,4,none⟩ (.slice none 0 0)).alloc (.cells T 273)).drew.setCell ⟨b,0,none⟩ (.int .u32 1)).setCell ⟨b,1,none⟩ (.int .i32 0)
theorem qIb(b:Nat)(w:World):ranW b w=ranT kha b w:=rfl
theorem same0{w:World}{a:Addr}{v v0:Value}(h:w.cell? a=some v0):(w.setCell a v).cell? a=some v:=World.cell?_setCell_same w a v h
theorem zkb{b:Nat}{w:World}(T:Array Value)(hb:b < w.heap.size)(c0:w.cell? ⟨b,0,none⟩=some (.int .u32 0))(c3:w.cell? ⟨b,3,none⟩=some .nilIface):
 (ranT T b w).heap.size=w.heap.size+1/\(ranT T b w).cell? ⟨b,0,none⟩=some (.int .u32 1)/\(ranT T b w).cell? ⟨b,3,none⟩=some (bI w.heap.size)/\∀k,(ranT T b w).cell? ⟨w.heap.size,k,none⟩=T[k]? :=by
 have hne:b≠w.heap.size:=by omega
 refine ⟨by unfold ranT;simp,?_,?_,fun k=>?_⟩
 .unfold ranT;rw[World.cell?_setCell_other _ _ _ _ (kaa (by decide))];refine same0 (v0:=.int .u32 0) ?_;rw[World.cell?_drew,World.cell?_alloc_past _ _ _ (by simp;exact hb),World.cell?_setCell_other _ _ _ _ (kaa (by decide)),World.cell?_setCell_other _ _ _ _ (kaa (by decide)),World.cell?_setCell_other _ _ _ _ (kaa (by decide))];exact c0
 .unfold ranT;rw[World.cell?_setCell_other _ _ _ _ (kaa (by decide)),World.cell?_setCell_other _ _ _ _ (kaa (by decide)),World.cell?_drew,World.cell?_alloc_past _ _ _ (by simp;exact hb),World.cell?_setCell_other _ _ _ _ (kaa (by decide))];refine same0 (v0:=.nilIface) ?_;rw[World.cell?_setCell_other _ _ _ _ (kaa (by decide))];exact c3
 unfold ranT;rw[World.cell?_setCell_other _ _ _ _ (KJa hne),World.cell?_setCell_other _ _ _ _ (KJa hne),World.cell?_drew];exact World.cell?_alloc_at T _ _ k (by simp)
theorem tab_at(x:UInt8):kha[x.toNat]? =some (.int .u8 ((kea x).toNat:Int)):=by
 have hx:=jDe x;unfold kha;simp only[jBk,jAk,List.getElem?_range hx,jCw]
 congr 2
 unfold kea;by_cases h:x=0∨x=13
 .rw[if_pos h,if_pos (by rcases h with rfl | rfl <;> decide)];rfl
 rw[if_neg h,if_neg (fun h2=>h (h2.imp (fun e=>jDj.1 e) (fun e=>jDj.1 e)))]
theorem qJb{b d o c:Nat}{w:World}(F:yEb w b d o c):Built (ranW b w) b w.heap.size:=by
 obtain ⟨h1,h2,h3,h4⟩:=zkb kha F.hb F.c0 F.c3;have hb:=F.hb;rw[qIb];exact ⟨by omega,by omega,h2,h3,fun x=>(h4 _).trans (tab_at x)⟩
theorem qKb (n : Nat) (a : Addr) (w : World) : (method (n + 1) 274 (.pointer (some a)) "Replace").run prog w = .ok (308, .pointer (some a)) w := by kernel_rfl
theorem WOa(b A:Nat)(s:ByteArray)(w:World)(hlen:s.size<=4611686018427387904)(B:Built w b A):
 Calls prog 97 #[.pointer (some ⟨b,0,none⟩),.string s] w fun e w' =>e=.returned (.string ⟨(s.data.toList.map kea).toArray⟩)/\(w' =w∨∃C fz,w' =(w.alloc (.cells C 5 fz)).drew):=by
 have hmf:∀(fn:Fn) (first cap:Array Value) (w:World),(Instr.makeFunc fn first cap).run prog w=.ok (.func fn first cap) w:=fun _ _ _ _=>rfl
 have hme:=qKb;have hc3:=B.c3;go_enter func97,Tryz.ntmps97
 go_wp2_with (first | (go_at_call 142;refine (yFb b _ _ B.c0).mono ?_;rintro e w' ⟨rfl,rfl⟩) | (go_at_call 308;refine (wCb A s _ hlen B.hA B.tab).mono ?_;rintro e w' ⟨rfl,hw'⟩))
 go_ret
 exact ⟨rfl,hw'⟩
theorem WPa(b d o c:Nat)(s:ByteArray)(w:World)(hlen:s.size<=4611686018427387904)(F:yEb w b d o c):
 Calls prog 97 #[.pointer (some ⟨b,0,none⟩),.string s] w fun e w' =>e=.returned (.string ⟨(s.data.toList.map kea).toArray⟩)/\(w' =ranW b w∨∃C fz,w' =((ranW b w).alloc (.cells C 5 fz)).drew):=by
 have hmf:∀(fn:Fn) (first cap:Array Value) (w:World),(Instr.makeFunc fn first cap).run prog w=.ok (.func fn first cap) w:=fun _ _ _ _=>rfl
 have hme:=qKb;have B:=qJb F;have hc3:=B.c3;go_enter func97,Tryz.ntmps97
 go_wp2_with (first | (go_at_call 142;refine (vRb b d o c _ F).mono ?_;rintro e w' ⟨rfl,rfl⟩) | (go_at_call 308;refine (wCb _ s _ hlen B.hA B.tab).mono ?_;rintro e w' ⟨rfl,hw'⟩))
 go_ret
 exact ⟨rfl,hw'⟩
end
section
open Go.Shelf Go.RowKit Go.Lib Go.Proofs.Tryz
structure yha (w:World) (A:Nat):Prop where
 hA:A < w.heap.size
 tab:∀k:Nat,k < 256->k≠34->k≠92->w.cell? ⟨A,k,none⟩=some (.slice none 0 0)
 q:∃B cap,w.cell? ⟨A,34,none⟩=some (.slice (some ⟨B,0,none⟩) 2 cap)/\w.cell? ⟨B,0,none⟩=some (.int .u8 92)/\w.cell? ⟨B,1,none⟩=some (.int .u8 34)
 s:∃B cap,w.cell? ⟨A,92,none⟩=some (.slice (some ⟨B,0,none⟩) 2 cap)/\w.cell? ⟨B,0,none⟩=some (.int .u8 92)/\w.cell? ⟨B,1,none⟩=some (.int .u8 92)
 l:∃D cap,w.cell? ⟨A,256,none⟩=some (.slice (some ⟨D,0,none⟩) 2 cap)/\w.cell? ⟨D,0,none⟩=some (.string ⟨#[34]⟩)/\w.cell? ⟨D,1,none⟩=some (.string ⟨#[92]⟩)
def vTb:Array Value:=Array.replicate 257 (Value.slice none 0 0)
def bsZero(D:Nat)(n:Nat):Array Value:=(Array.replicate 256 (Value.slice none 0 0)).push (.slice (some ⟨D,0,none⟩) n 2)
def bsT0(D n:Nat):Array Value:=vTb.setIfInBounds 256 (.slice (some ⟨D,0,none⟩) n 2)
theorem Zyb(D n:Nat):(bsT0 D n).size=257:=by simp[bsT0,vTb]
theorem qLb(D n:Nat):(bsT0 D n)[256]? =some (.slice (some ⟨D,0,none⟩) n 2):=by rw[bsT0,jBq,if_pos rfl,if_pos (by simp[vTb])]
theorem Y6a(D n k:Nat)(h:k < 256):(bsT0 D n)[k]? =some (.slice none 0 0):=by rw[bsT0,jBq,if_neg (by omega),vTb,Array.getElem?_replicate,if_pos (by omega)]
theorem wDb(D n m:Nat):(bsT0 D n).setIfInBounds 256 (.slice (some ⟨D,0,none⟩) m 2)=bsT0 D m:=by rw[bsT0,Array.setIfInBounds_setIfInBounds];rfl
structure Wga (w wx:World) (T:Array Value) (S:Array Value):Prop where
 A:wx.heap[w.heap.size+1]? =some (.cells T 277 (0,0))
 D:wx.heap[w.heap.size]? =some (.cells S 9 (0,0))
 bw:Below w.heap.size w wx
structure RsLaid (P:Program):Prop where
 mixed:P.follows Departure.mixedOrders=true
 f:P.funcs[177]? =some f177
 t3:P.underlying 3=some (.int .i64)
 a3:∀w:World,(isAgg 3).run P w=.ok false w
 z3:∀w:World,(Go.sizeOf 3).run P w=.ok 1 w
 v3:∀w:World,(zeroValue 3).run P w=.ok (.int .i64 0) w
 t4:P.underlying 4=some .bool
 a4:∀w:World,(isAgg 4).run P w=.ok false w
 z4:∀w:World,(Go.sizeOf 4).run P w=.ok 1 w
 v4:∀w:World,(zeroValue 4).run P w=.ok (.bool false) w
 t5:P.underlying 5=some (.int .u8)
 a5:∀w:World,(isAgg 5).run P w=.ok false w
 z5:∀w:World,(Go.sizeOf 5).run P w=.ok 1 w
 v5:∀w:World,(zeroValue 5).run P w=.ok (.int .u8 0) w
 t9:P.underlying 9=some .string
 a9:∀w:World,(isAgg 9).run P w=.ok false w
 z9:∀w:World,(Go.sizeOf 9).run P w=.ok 1 w
 v9:∀w:World,(zeroValue 9).run P w=.ok (.string ⟨#[]⟩) w
 t91:P.underlying 40=some (.slice 9)
 a91:∀w:World,(isAgg 40).run P w=.ok false w
 z91:∀w:World,(Go.sizeOf 40).run P w=.ok 1 w
 v91:∀w:World,(zeroValue 40).run P w=.ok (.slice none 0 0) w
 t23:P.underlying 23=some (.slice 5)
 a23:∀w:World,(isAgg 23).run P w=.ok false w
 z23:∀w:World,(Go.sizeOf 23).run P w=.ok 1 w
 v23:∀w:World,(zeroValue 23).run P w=.ok (.slice none 0 0) w
 t170 : P.underlying 209 = some (.struct #[{ name := "once", type := 205, offset := 0, embedded := false, tag := "", pkgPath := "strings", byteOffset := 0 }, { name := "r", type := 207, offset := 3, embedded := false, tag := "", pkgPath := "strings", byteOffset := 16 }, { name := "oldnew", type := 40, offset := 4, embedded := false, tag := "", pkgPath := "strings", byteOffset := 32 }])
 z166:∀w:World,(Go.sizeOf 205).run P w=.ok 3 w
 z168:∀w:World,(Go.sizeOf 207).run P w=.ok 1 w
 t275:P.underlying 275=some (.array 256 23)
 z275:∀w:World,(Go.sizeOf 275).run P w=.ok 256 w
 t277 : P.underlying 277 = some (.struct #[{ name := "replacements", type := 275, offset := 0, embedded := false, tag := "", pkgPath := "strings", byteOffset := 0 }, { name := "toReplace", type := 40, offset := 256, embedded := false, tag := "", pkgPath := "strings", byteOffset := 6144 }])
 z277:∀w:World,(Go.sizeOf 277).run P w=.ok 257 w
 v277:∀w:World,(zeroValue 277).run P w=.ok (.agg vTb) w
 hi277:(P.info? 277).map (·.size)=some 257
 b277:∀D:Nat,P.built 277 [(1,.slice (some ⟨D,0,none⟩) 0 2)]=some (bsZero D 0)
 c278:P.concrete 278=true
 i9:(P.info? 9).map (fun i=>(i.zero,i.size,i.bytes))=some (some (.string ⟨#[]⟩),1,16)
 i5:(P.info? 5).map (fun i=>(i.zero,i.size,i.bytes))=some (some (.int .u8 0),1,1)
theorem Wha:RsLaid prog where
 mixed:=by kernel_rfl
 f:=func177
 t3:=underlying3
 a3:=isAgg3
 z3:=sizeOf3
 v3:=zeroValue3
 t4:=underlying4
 a4:=isAgg4
 z4:=sizeOf4
 v4:=zeroValue4
 t5:=underlying5
 a5:=isAgg5
 z5:=sizeOf5
 v5:=zeroValue5
 t9:=underlying9
 a9:=isAgg9
 z9:=sizeOf9
 v9:=zeroValue9
 t91:=underlying40
 a91:=isAgg40
 z91:=sizeOf40
 v91:=zeroValue40
 t23:=underlying23
 a23:=isAgg23
 z23:=sizeOf23
 v23:=zeroValue23
 t170:=underlying209
 z166:=sizeOf205
 z168:=sizeOf207
 t275:=underlying275
 z275:=sizeOf275
 t277:=underlying277
 z277:=sizeOf277
 v277:=fun w=>(zeroValue277 w).trans (by kernel_rfl)
 hi277:=by kernel_rfl
 b277:=fun D=>by kernel_rfl
 c278:=by kernel_rfl
 i9:=by kernel_rfl
 i5:=by kernel_rfl
theorem ZPa{w:World}{b:Nat}{vs:Array Value}{t:TypeId}{fz:Nat × Nat}(h:w.heap[b]? =some (.cells vs t fz))(i:Nat)(v:Value):(w.setCell ⟨b,i,none⟩ v).heap[b]? =some (.cells (vs.setIfInBounds i v) t fz):=by
 unfold World.setCell;simp[jBl,h]
theorem qHa{w w' :World}{b:Nat}(h:w'.heap[b]? =w.heap[b]?)(i:Nat):w'.cell? ⟨b,i,none⟩=w.cell? ⟨b,i,none⟩:=by simp only[World.cell?];rw[h]
theorem rs_mid{wo wr:World}{T S:Array Value}(M:Wga wo wr T S)(X Y:Obj)(n:Nat)(v v2:Value):
 Wga wo ((((wr.alloc X).alloc Y).setCell ⟨wo.heap.size,n,none⟩ v).setCell ⟨wo.heap.size+1,256,none⟩ v2) (T.setIfInBounds 256 v2) (S.setIfInBounds n v)/\
 ((((wr.alloc X).alloc Y).setCell ⟨wo.heap.size,n,none⟩ v).setCell ⟨wo.heap.size+1,256,none⟩ v2).heap.size=wr.heap.size+2/\
 ∀B,B < wr.heap.size->wo.heap.size+1 < B->((((wr.alloc X).alloc Y).setCell ⟨wo.heap.size,n,none⟩ v).setCell ⟨wo.heap.size+1,256,none⟩ v2).heap[B]? =wr.heap[B]? :=by
 obtain ⟨hA,hD,hb⟩:=M;have hlA:wo.heap.size+1 < wr.heap.size:=zVa hA;have hz:∀k,k < wr.heap.size->((wr.alloc X).alloc Y).heap[k]? =wr.heap[k]? :=fun k hk=>by rw[Below.heap_alloc _ _ _ (by simp;omega),Below.heap_alloc _ _ _ hk]
 refine ⟨⟨?_,?_,?_⟩,by simp,fun B h1 h2=>?_⟩
 .refine ZPa ?_ _ _;rw[Below.heap_setCell _ _ _ _ (by simp),hz _ hlA];exact hA
 .rw[Below.heap_setCell _ _ _ _ (by simp)];refine ZPa ?_ _ _;rw[hz _ (by omega)];exact hD
 .exact (((hb.alloc (by omega) X).alloc (by simp;omega) Y).setCell (p:=⟨wo.heap.size,n,none⟩) (jAm _) v).setCell (p:=⟨wo.heap.size+1,256,none⟩) (by simp) v2
 rw[Below.heap_setCell _ _ _ _ (by simp;omega),Below.heap_setCell _ _ _ _ (by simp;omega),hz _ h1]
theorem rs_end{wo wr:World}{T S:Array Value}(M:Wga wo wr T S)(C:Array Value)(e:TypeId)(fz:Nat × Nat)(i:Nat)(v:Value):
 Wga wo ((wr.alloc (.cells C e fz)).setCell ⟨wo.heap.size+1,i,none⟩ v).drew (T.setIfInBounds i v) S/\
 ((wr.alloc (.cells C e fz)).setCell ⟨wo.heap.size+1,i,none⟩ v).drew.heap.size=wr.heap.size+1/\
 (∀j,((wr.alloc (.cells C e fz)).setCell ⟨wo.heap.size+1,i,none⟩ v).drew.cell? ⟨wr.heap.size,j,none⟩=C[j]?)/\
 ∀B,B < wr.heap.size->wo.heap.size+1 < B->((wr.alloc (.cells C e fz)).setCell ⟨wo.heap.size+1,i,none⟩ v).drew.heap[B]? =wr.heap[B]? :=by
 obtain ⟨hA,hD,hb⟩:=M;have hlA:wo.heap.size+1 < wr.heap.size:=zVa hA;have hz:∀k,k < wr.heap.size->(wr.alloc (.cells C e fz)).heap[k]? =wr.heap[k]? :=fun k hk=>Below.heap_alloc _ _ _ hk
 refine ⟨⟨?_,?_,?_⟩,by simp,fun j=>?_,fun B h1 h2=>?_⟩
 .refine ZPa ?_ _ _;rw[hz _ hlA];exact hA
 .refine (Below.heap_setCell _ _ _ _ (by simp)).trans ?_;rw[hz _ (by omega)];exact hD
 .exact ((hb.alloc (by omega) _).setCell (p:=⟨wo.heap.size+1,i,none⟩) (by simp) v).drew
 .rw[World.cell?_drew,World.cell?_setCell_other _ _ _ _ (KJa (by omega))];exact World.cell?_alloc_mark wr C e fz j
 refine (Below.heap_setCell _ _ _ _ (by simp;omega)).trans ?_;rw[hz _ h1]
theorem jSa{wo wx:World}{T S:Array Value}(M:Wga wo wx T S)(k:Nat):wx.cell? ⟨wo.heap.size+1,k,none⟩=T[k]? :=by simp[World.cell?,M.A]
theorem Yga{wo wx:World}{T S:Array Value}(M:Wga wo wx T S)(k:Nat):wx.cell? ⟨wo.heap.size,k,none⟩=S[k]? :=by simp[World.cell?,M.D]
theorem wEb{wo wx:World}{T S:Array Value}(M:Wga wo wx T S)(k:Nat):wx.frozen? ⟨wo.heap.size+1,k,none⟩=false:=by simp[World.frozen?,M.A]
theorem Zzb{wo wx:World}{T S:Array Value}(M:Wga wo wx T S)(k:Nat):wx.frozen? ⟨wo.heap.size,k,none⟩=false:=by simp[World.frozen?,M.D]
theorem ZQa{s:ByteArray}{cap j:Nat}{x:UInt8}(h:s.data.toList[j]? =some x):(bytesRow s cap)[j]? =some (.int .u8 (x.toNat:Int)):=Y5a s cap j x h
end
section
open Go.Shelf Go.RowKit Go.Lib Go.Proofs.Tryz
def escN(l:List UInt8):Nat:=(l.flatMap escB).length
theorem keb(x:UInt8):(escB x).length=1∨(escB x).length=2:=by by_cases h:x=92 <;> by_cases h2:x=34 <;> simp[escB,h,h2]
theorem VLa(x:UInt8)(l:List UInt8):escN (x::l)=(escB x).length+escN l:=by simp[escN]
theorem kfb(l:List UInt8):l.length<=escN l:=by
 induction l with
 | nil=>exact jAm _
 | cons x l ih=>rw[VLa,jBj];rcases keb x with h | h <;> omega
theorem vUb(l:List UInt8):escN l<=2 * l.length:=by
 induction l with
 | nil=>exact jAm _
 | cons x l ih=>rw[VLa,jBj];rcases keb x with h | h <;> omega
theorem wFb(l:List UInt8)(h:escN l=l.length):l.flatMap escB=l:=by
 induction l with
 | nil=>rfl
 | cons x l ih=>
  have hg:=kfb l;rw[VLa,jBj]at h;have h1:(escB x).length=1:=by rcases keb x with h | h <;> omega
  have hx:escB x=[x]:=by
   unfold escB at h1 ⊢;split at h1
   .cases h1
   rw[if_neg (by assumption)];split at h1
   .cases h1
   rw[if_neg (by assumption)]
  rw[jCq,ih (by omega),hx];rfl
theorem w8a{l:List UInt8}{i:Nat}{x:UInt8}(h:l[i]? =some x):escN (l.take (i+1))=escN (l.take i)+(escB x).length:=by
 unfold escN;rw[jCp,h];simp
theorem yGb(l:List UInt8):escN l=l.length+Lib.countByte l 34+Lib.countByte l 92:=by
 induction l with
 | nil=>rfl
 | cons x l ih=>
  rw[VLa,ih];unfold escB Lib.countByte;by_cases h1:x=92
  .subst h1;simp[List.countP_cons,List.count_cons,List.filter_cons];omega
  by_cases h2:x=34
  .subst h2;simp[List.countP_cons,List.count_cons,List.filter_cons];omega
  simp[h1,h2,List.countP_cons,List.count_cons,List.filter_cons];omega
structure SmW (w wx:World):Prop where
 heap:wx.heap=w.heap
 bw:Below w.heap.size w wx
theorem yha.look{w:World}{A:Nat}(T:yha w A)(x:UInt8):(escB x=[x]/\w.cell? ⟨A,x.toNat,none⟩=some (.slice none 0 0))∨
 ∃B cap,(escB x).length=2/\w.cell? ⟨A,x.toNat,none⟩=some (.slice (some ⟨B,0,none⟩) 2 cap)/\∀j (y:UInt8),(escB x)[j]? =some y->w.cell? ⟨B,j,none⟩=some (.int .u8 (y.toNat:Int)):=by
 have two:∀{B:Nat} {a b:UInt8},w.cell? ⟨B,0,none⟩=some (.int .u8 (a.toNat:Int))->w.cell? ⟨B,1,none⟩=some (.int .u8 (b.toNat:Int))->∀j (y:UInt8),[a,b][j]? =some y->w.cell? ⟨B,j,none⟩=some (.int .u8 (y.toNat:Int)):=fun h0 h1 j y hy=>by
  match j with
  | 0=>cases hy;exact h0
  | 1=>cases hy;exact h1
  | n+2=>cases hy
 by_cases h1:x=92
 .subst h1;obtain ⟨B,cap,h,h0,h1⟩:=T.s;exact .inr ⟨B,cap,rfl,h,two (a:=92) (b:=92) h0 h1⟩
 by_cases h2:x=34
 .subst h2;obtain ⟨B,cap,h,h0,h1⟩:=T.q;exact .inr ⟨B,cap,rfl,h,two (a:=92) (b:=34) h0 h1⟩
 refine .inl ⟨by unfold escB;rw[if_neg h1,if_neg h2],T.tab _ (jDe x) (fun e=>h2 (jDj.1 e)) (fun e=>h1 (jDj.1 e))⟩
theorem yha.of_heap{w w' :World}{A:Nat}(T:yha w A)(h:∀k,k < w.heap.size->w'.heap[k]? =w.heap[k]?)(hs:w.heap.size<=w'.heap.size):yha w' A:=by
 have hc:∀{b i:Nat} {v:Value},w.cell? ⟨b,i,none⟩=some v->w'.cell? ⟨b,i,none⟩=some v:=fun {b i v} hv=>by
  have hb:b < w.heap.size:=by
   simp only[World.cell?]at hv;refine Classical.byContradiction fun hn=>?_
   rw[Array.getElem?_eq_none (by omega)]at hv;cases hv
  exact (qHa (h b hb) i).trans hv
 obtain ⟨hA,ht,⟨B,c,q0,q1,q2⟩,⟨B',c',s0,s1,s2⟩,⟨D,c'',l0,l1,l2⟩⟩:=T;exact ⟨by omega,fun k h1 h2 h3=>hc (ht k h1 h2 h3),⟨B,c,hc q0,hc q1,hc q2⟩,⟨B',c',hc s0,hc s1,hc s2⟩,⟨D,c'',hc l0,hc l1,hc l2⟩⟩
end
section
open Go.Shelf Go.RowKit Go.Lib Go.Proofs.Tryz
structure RpW (w wx:World) (C:Array Value):Prop where
 row:wx.heap[w.heap.size]? =some (.cells C 5 (0,0))
 bw:Below w.heap.size w wx
theorem Y7a(b j:Nat):(⟨b,0,none⟩:Addr).add j=⟨b,j,none⟩:=by unfold Addr.add;split <;> simp_all
theorem qMb(l:List UInt8)(i:Nat):escN (l.take i)<=escN l:=by
 have h:escN (l.take i)+escN (l.drop i)=escN l:=by
  unfold escN;rw[<-jBs,<-List.flatMap_append,List.take_append_drop]
 omega
theorem RpW.of(w:World)(M:Array Value):RpW w (w.alloc (.cells M 5)) M:=⟨heap_alloc_new w _,(Below.refl _ w).alloc (jAm _) _⟩
theorem RpW.tab{w wx:World}{C:Array Value}{A:Nat}(R:RpW w wx C)(T:yha w A):yha wx A:=T.of_heap (fun k hk=>R.bw.block k hk) R.bw.size
theorem RpW.cell{w wx:World}{C:Array Value}(R:RpW w wx C)(j:Nat):wx.cell? ⟨w.heap.size,j,none⟩=C[j]? :=by simp[World.cell?,R.row]
theorem RpW.frz{w wx:World}{C:Array Value}(R:RpW w wx C)(j:Nat):wx.frozen? ⟨w.heap.size,j,none⟩=false:=by simp[World.frozen?,R.row]
theorem RpW.set{w wx:World}{C:Array Value}(R:RpW w wx C)(j:Nat)(v:Value):RpW w (wx.setCell ⟨w.heap.size,j,none⟩ v) (C.setIfInBounds j v):=⟨ZPa R.row j v,R.bw.setCell (p:=⟨w.heap.size,j,none⟩) (jAm _) v⟩
theorem RpW.drew{w wx:World}{C:Array Value}(R:RpW w wx C):RpW w wx.drew C:=⟨R.row,R.bw.drew⟩
theorem qNb{C:Array Value}{l:List UInt8}{x:UInt8}(h:vka C l)(hl:l.length < C.size):vka (C.setIfInBounds l.length (.int .u8 (x.toNat:Int))) (l++ [x]):=by
 intro j y hy;rw[jBq];by_cases e:l.length=j
 .subst e;rw[if_pos rfl,if_pos hl];simp at hy;rw[hy]
 rw[if_neg e];rw[List.getElem?_append]at hy;split at hy
 .exact h j y hy
 have:j - l.length≠0:=by omega
 rw[List.getElem?_singleton,if_neg this]at hy;cases hy
theorem ZAb{α:Type}{l:List α}{i:Nat}{x:α}(h:l[i]? =some x):i < l.length:=(jAd.1 h).1
theorem ZBb{wo wr:World}{C:Array Value}{J E B cap:Nat}{l:List UInt8}(W:RpW wo wr C)(hC:C.size=E)(hl:l.length=2)(hb:J+2<=E)(hr:∀(j:Nat) (y:UInt8),l[j]? =some y->wr.cell? ⟨B,j,none⟩=some (.int .u8 (y.toNat:Int))):
 ∃W2 C2,(Builtin.copy_ #[23,23] 3 #[.slice (some ⟨wo.heap.size,J,none⟩) (E - J) (E - J),.slice (some ⟨B,0,none⟩) 2 cap]).run prog wr.drew=.ok (.int .i64 2) W2/\RpW wo W2 C2/\C2.size=E/\∀L:List UInt8,L.length=J->vka C L->vka C2 (L++l):=by
 have hlen:(l.map fun y:UInt8=>Value.int .u8 (y.toNat:Int)).length=2:=by simpa using hl
 have h:=run_copy_row (P:=prog) wr.drew 23 23 3 5 wo.heap.size J (E - J) (E - J) ⟨B,0,none⟩ 2 cap C 5 (l.map fun y:UInt8=>Value.int .u8 (y.toNat:Int)) underlying23 (by
  have:=Wha.i5;cases hq:prog.info? 5 with
  | none=>simp[hq]at this
  | some i=>simp[hq]at this ⊢;exact this.2.1) W.row (by rw[hlen];exact (Nat.min_eq_left (by omega)).symm) (fun j v hj=>by
   rw[jAk]at hj;cases hy:l[j]? with
   | none=>rw[hy]at hj;cases hj
   | some y=>
    rw[hy]at hj;cases hj;rw[Y7a];exact hr j y hy) (by rw[hlen];omega) (fun v hv=>by
   obtain ⟨y,_,rfl⟩:=jCe.1 hv;rfl)
 rw[hlen]at h;refine ⟨_,_,h,⟨setRow_heap _ _ _ _ _ _ W.row,?_⟩,?_,fun L hL hrow j y hy=>?_⟩
 .exact ⟨W.bw.os,W.bw.tape,W.bw.output,jAt W.bw.size (jBm (by simp[World.setRow])),fun k hk=>(setRow_other _ _ _ _ (by omega)).trans (W.bw.block k hk)⟩
 .simp;omega
 rw[jBk];rw[List.getElem?_append]at hy;split at hy
 .rename_i hj;rw[jBx,jAy (by simp;omega),jBd (by omega)];simpa using hrow j y hy
 rename_i hj;have hj2:=ZAb hy;rw[jBx,jAq (by simp;omega),jAy (by simp;omega)];rw[show j - (C.toList.take J).length=j - L.length by simp;omega,jAk,hy];rfl
theorem rs_short(A:Nat)(s:ByteArray)(w:World)(hlen:s.size < 16)(T:yha w A):
 Calls prog 310 #[.pointer (some ⟨A,0,none⟩),.string s] w fun e w' =>e=.returned (.string ⟨(s.data.toList.flatMap escB).toArray⟩)/\Below w.heap.size w w' :=by
 have HT:Aside (yha w A):=T;obtain ⟨D,cp,hL,hL0,hL1⟩:=T.l;clear T hL0 hL1;have hn1:∀w:World,(binOp .neq 23 (.slice none 0 0) (.slice none 0 0)).run prog w=.ok (.bool false) w:=fun w=>by
  simp only[binOp];simp[run_equal_slice_nil w 23 5 none 0 0 underlying23]
 have hn2:∀(a:Addr) (l c:Nat) (w:World),(binOp .neq 23 (.slice (some a) l c) (.slice none 0 0)).run prog w=.ok (.bool true) w:=fun a l c w=>by
  simp only[binOp];simp[run_equal_slice_nil w 23 5 (some a) l c underlying23]
 have hlt:¬((16:Int)<=(s.size:Int)):=by omega
 have mixed:prog.follows Departure.mixedOrders=true:=Wha.mixed;obtain ⟨i5,hi5,hz5,hs5,hb5⟩:∃i,prog.info? 5=some i/\i.zero=some (.int .u8 0)/\i.size=1/\i.bytes=1:=by
  have:=Wha.i5;cases hq:prog.info? 5 with
  | none=>simp[hq]at this
  | some i=>simp[hq]at this;exact ⟨i,rfl,this⟩
 have hge:=kfb s.data.toList;have hle:=vUb s.data.toList;have hsz:s.data.toList.length=s.size:=rfl;obtain ⟨N,hN⟩:∃N,escN s.data.toList=N:=⟨_,rfl⟩;have hN' :Lib.Kept (escN s.data.toList=N):=hN;have hNb:N<=2 * s.size:=by omega
 obtain ⟨M,hM,hMs⟩:∃M:Array Value,(∀w:World,(Instr.makeSlice 23 (.int .i64 N) (.int .i64 N)).run prog w=.ok (.slice (some ⟨w.heap.size,0,none⟩) N N) (w.alloc (.cells M 5)))/\Lib.Kept (M.size=N):=by
  refine ⟨madeCells (Value.int .u8 0).cells ((N:Int).toNat * i5.size),fun w=>?_,?_⟩
  .have h:=Go.run_make w 23 5 i5 (.int .u8 0) underlying23 hi5 hz5 .i64 .i64 N N (by omega) (by omega) (by rw[hb5];omega) (by omega);simpa using h
  show (madeCells _ _).size=N;rw[hs5];simp[madeCells,Value.cells]
 clear i5 hi5 hz5 hs5 hb5;have hT:Lib.Kept (s.data.toList.take s.size=s.data.toList):=List.take_of_length_le (jBm hsz);clear hN;go_enter func310,Tryz.ntmps310
 go_wp2
 go_loopg [5,6,10] s.size (fun g v5 v6 v10 wx=>wx=w/\∃i E:Nat,i+g=s.size/\v10=.int .i64 i/\Lib.Kept (E=escN (s.data.toList.take i))/\v5=.int .i64 ((E+g:Nat):Int)/\v6=.bool (decide (E≠i)))
 case atStart=>exact ⟨rfl,0,0,by omega,rfl,rfl,by simp,by simp⟩
 case round=>
  obtain ⟨rfl,i,E,hig,rfl,hE,rfl,rfl⟩:=hrel;cases gk with
  | zero=>
   obtain rfl:i=s.size:=by omega
   obtain rfl:E=N:=by
    have h1:E=escN (s.data.toList.take s.size):=hE;have h2:s.data.toList.take s.size=s.data.toList:=hT;have h3:escN s.data.toList=N:=hN';rw[h2,h3]at h1;exact h1
   have hiz:¬((s.size:Int) < (s.size:Int)):=by omega
   by_cases hsame:E=s.size
   .have hd:decide (E≠s.size)=false:=decide_eq_false (fun h=>h hsame);rw[hd];clear hd;go_wp2
    go_ret
    refine ⟨?_,Below.refl _ _⟩;have h3:escN s.data.toList=E:=hN';rw[wFb _ (by omega)];show Ending.returned (Value.string s)=Ending.returned (Value.string ⟨s.data.toList.toArray⟩);simp
   have hd:decide (E≠s.size)=true:=decide_eq_true hsame;rw[hd];clear hd hsame;obtain ⟨wo,hwo⟩:∃wo,wo=wr:=⟨_,rfl⟩;subst hwo;go_wp2
   go_loopg [13,14] s.size (fun g v13 v14 wx=>∃(i:Nat) (J:Nat) (C:Array Value),i+g=s.size/\v14=.int .i64 i/\v13=.int .i64 J/\Lib.Kept (J=escN (s.data.toList.take i))/\Lib.Kept (RpW wo wx C)/\Lib.Kept (C.size=E)/\Lib.Kept (vka C ((s.data.toList.take i).flatMap escB)))
   case atStart=>exact ⟨0,0,M,by omega,rfl,rfl,rfl,RpW.of wo M,hMs,fun j y hy=>by simp at hy⟩
   case round=>
    obtain ⟨i,J,C,hig,rfl,rfl,hJ,hW,hC,hrow⟩:=hrel;cases gk with
    | zero=>
     obtain rfl:i=s.size:=by omega
     have hiz:¬((s.size:Int) < (s.size:Int)):=by omega
     have hback:(convert 23 9 (.slice (some ⟨wo.heap.size,0,none⟩) E E)).run prog wr=.ok (.string ⟨(s.data.toList.flatMap escB).toArray⟩) wr:=by
      have W:RpW wo wr C:=hW;have h4:vka C ((s.data.toList.take s.size).flatMap escB):=hrow;rw[show s.data.toList.take s.size=s.data.toList from hT]at h4;have h:=run_convert_bytes_back (P:=prog) wr 23 9 5 ⟨wo.heap.size,0,none⟩ E (s.data.toList.flatMap escB) underlying23 underlying5 underlying9 (fun j hj=>by
       rw[Y7a,W.cell j];exact h4 j _ (jAe hj))
      rw[show (s.data.toList.flatMap escB).length=E from hN']at h;exact h
     go_wp2
     go_ret
     have W:RpW wo wr C:=hW;exact ⟨rfl,W.bw⟩
    | succ g=>
     have hi:i < s.size:=by omega
     have hiz:(i:Int) < (s.size:Int):=by omega
     obtain ⟨x,hx⟩:∃x:UInt8,s[i]'hi=x:=⟨_,rfl⟩;have hxl:Lib.Kept (s.data.toList[i]? =some x):=by rw[<-hx];exact Lib.data_getElem? s i hi
     have hx256:(x.toNat:Int) < 256:=by have:=jDe x;omega
     have hwr:wrap64 ((i:Int)+1)=((i:Int)+1):=by unfold wrap64;omega
     have hb1:J+(escB x).length<=E:=by
      have h1:J=escN (s.data.toList.take i):=hJ;have h2:=w8a hxl;have h3:=qMb s.data.toList (i+1);have h4:escN s.data.toList=E:=hN';omega
     have W:RpW wo wr C:=hW;rcases (W.tab HT.out).look x with ⟨he,hc⟩ | ⟨B,cap,he,hc,hr⟩
     .rw[he,jCj]at hb1;have hwj:wrap64 ((J:Int)+1)=((J:Int)+1):=by unfold wrap64;omega
      have hjE:(J:Int) < (E:Int):=by omega
      have hCs:C.size=E:=hC;obtain ⟨v0,hc1⟩:∃v0,wr.cell? ⟨wo.heap.size,J,none⟩=some v0:=⟨_,(W.cell J).trans (jDh (show J < C.size by omega))⟩;have hf1:=W.frz J;have he:Lib.Kept (escB x=[x]):=he;clear W hCs;go_wp2
      go_roundg g
      case measure=>omega
      case rel=>
       have W:RpW wo wr C:=hW;have hCs:C.size=E:=hC;have h1:J=escN (s.data.toList.take i):=hJ;have h2:=w8a hxl;have h3:escB x=[x]:=he;have h4:vka C ((s.data.toList.take i).flatMap escB):=hrow;rw[h3,jCj]at h2;have hl:((s.data.toList.take i).flatMap escB).length=J:=h1.symm;refine ⟨i+1,J+1,C.setIfInBounds J (.int .u8 (x.toNat:Int)),by omega,by simp,by simp,by show J+1=_;omega,W.set _ _,by show (C.setIfInBounds _ _).size=E;simpa using hCs,?_⟩;show vka _ _;rw[jCp,show s.data.toList[i]? =some x from hxl,List.flatMap_append];simp only[Option.toList_some,jCq,List.flatMap_nil,jDc,h3];rw[<-hl];exact qNb h4 (by omega)
     rw[he]at hb1;have hjE:(J:Int)<=(E:Int):=by omega
     have he:Lib.Kept ((escB x).length=2):=he;have hr:Aside (∀(j:Nat) (y:UInt8),(escB x)[j]? =some y->wr.cell? ⟨B,j,none⟩=some (.int .u8 (y.toNat:Int))):=hr;clear W;go_wp2
     have hcD:wr.drew.cell? ⟨A,x.toNat,none⟩=some (.slice (some ⟨B,0,none⟩) 2 cap):=hc;have hEJ:¬E=J:=by omega
     have hwj:wrap64 ((J:Int)+2)=((J:Int)+2):=by unfold wrap64;omega
     obtain ⟨W2,C2,hcp,hR2,hC2,hrow2⟩:=ZBb (cap:=cap) (show RpW wo wr C from hW) (show C.size=E from hC) (show (escB x).length=2 from he) hb1 hr.out;have hR2:Lib.Kept (RpW wo W2 C2):=hR2;have hC2:Lib.Kept (C2.size=E):=hC2;have hrow2:Aside (∀L:List UInt8,L.length=J->vka C L->vka C2 (L++escB x)):=hrow2;go_region
     go_wp2
     go_roundg g
     case measure=>omega
     case rel=>
      have h1:J=escN (s.data.toList.take i):=hJ;have h2:=w8a hxl;have h3:(escB x).length=2:=he;have h4:vka C ((s.data.toList.take i).flatMap escB):=hrow;rw[h3]at h2;have hJ2:J+2=escN (s.data.toList.take (i+1)):=by rw[h2,<-h1]
      refine ⟨i+1,J+2,C2,by omega,by simp,by simp[hwj],hJ2,hR2,hC2,?_⟩;show vka _ _;rw[jCp,show s.data.toList[i]? =some x from hxl,List.flatMap_append];simp only[Option.toList_some,jCq,List.flatMap_nil,jDc];exact hrow2.out _ h1.symm h4
  | succ g=>
   have hi:i < s.size:=by omega
   have hiz:(i:Int) < (s.size:Int):=by omega
   obtain ⟨x,hx⟩:∃x:UInt8,s[i]'hi=x:=⟨_,rfl⟩;have hxl:Lib.Kept (s.data.toList[i]? =some x):=by rw[<-hx];exact Lib.data_getElem? s i hi
   have hx256:(x.toNat:Int) < 256:=by have:=jDe x;omega
   have hwr:wrap64 ((i:Int)+1)=((i:Int)+1):=by unfold wrap64;omega
   have hEl:Lib.Kept (E<=2 * i):=by
    have h1:E=escN (s.data.toList.take i):=hE;have:=vUb (s.data.toList.take i);simp at this;show E<=2 * i;omega
   rcases HT.out.look x with ⟨he,hc⟩ | ⟨B,cap,he,hc,hr⟩
   .have he:Lib.Kept (escB x=[x]):=he;go_wp2
    go_roundg g
    case measure=>omega
    case rel=>
     have h1:E=escN (s.data.toList.take i):=hE;have h2:=w8a hxl;have h3:escB x=[x]:=he;rw[h3,jCj]at h2;exact ⟨rfl,i+1,E+1,by omega,by simp,by show E+1=_;omega,by congr 1;omega,by simp⟩
   have he:Lib.Kept ((escB x).length=2):=he;clear hr;have hw5:wrap64 ((E:Int)+((g:Int)+1)+1)=(E:Int)+((g:Int)+1)+1:=by
    have:E<=2 * i:=hEl;unfold wrap64;omega
   go_wp2
   go_roundg g
   case measure=>omega
   case rel=>
    have h1:E=escN (s.data.toList.take i):=hE;have h2:=w8a hxl;have h3:(escB x).length=2:=he;have h4:=kfb (s.data.toList.take i);simp at h4;exact ⟨rfl,i+1,E+2,by omega,by simp,by show E+2=_;omega,by congr 1;omega,by rw[decide_eq_true (by omega)]⟩
end
section
open Go.Shelf Go.RowKit Go.Lib Go.Proofs.Tryz
theorem rs_long(A:Nat)(s:ByteArray)(w:World)(h16:16<=s.size)(hlen:s.size<=1099511627776)(T:yha w A):
 Calls prog 310 #[.pointer (some ⟨A,0,none⟩),.string s] w fun e w' =>e=.returned (.string ⟨(s.data.toList.flatMap escB).toArray⟩)/\Below w.heap.size w w' :=by
 have HT:Aside (yha w A):=T;obtain ⟨D,cp,hL,hL0,hL1⟩:=T.l;have hn1:∀w:World,(binOp .neq 23 (.slice none 0 0) (.slice none 0 0)).run prog w=.ok (.bool false) w:=fun w=>by
  simp only[binOp];simp[run_equal_slice_nil w 23 5 none 0 0 underlying23]
 have hn2:∀(a:Addr) (l c:Nat) (w:World),(binOp .neq 23 (.slice (some a) l c) (.slice none 0 0)).run prog w=.ok (.bool true) w:=fun a l c w=>by
  simp only[binOp];simp[run_equal_slice_nil w 23 5 (some a) l c underlying23]
 have hlt:(16:Int)<=(s.size:Int):=by omega
 have mixed:prog.follows Departure.mixedOrders=true:=Wha.mixed;obtain ⟨i5,hi5,hz5,hs5,hb5⟩:∃i,prog.info? 5=some i/\i.zero=some (.int .u8 0)/\i.size=1/\i.bytes=1:=by
  have:=Wha.i5;cases hq:prog.info? 5 with
  | none=>simp[hq]at this
  | some i=>simp[hq]at this;exact ⟨i,rfl,this⟩
 have hge:=kfb s.data.toList;have hle:=vUb s.data.toList;have hsz:s.data.toList.length=s.size:=rfl;obtain ⟨N,hN⟩:∃N,escN s.data.toList=N:=⟨_,rfl⟩;have hN' :Lib.Kept (escN s.data.toList=N):=hN;have hNb:N<=2 * s.size:=by omega
 obtain ⟨M,hM,hMs⟩:∃M:Array Value,(∀w:World,(Instr.makeSlice 23 (.int .i64 N) (.int .i64 N)).run prog w=.ok (.slice (some ⟨w.heap.size,0,none⟩) N N) (w.alloc (.cells M 5)))/\Lib.Kept (M.size=N):=by
  refine ⟨madeCells (Value.int .u8 0).cells ((N:Int).toNat * i5.size),fun w=>?_,?_⟩
  .have h:=Go.run_make w 23 5 i5 (.int .u8 0) underlying23 hi5 hz5 .i64 .i64 N N (by omega) (by omega) (by rw[hb5];omega) (by omega);simpa using h
  show (madeCells _ _).size=N;rw[hs5];simp[madeCells,Value.cells]
 clear i5 hi5 hz5 hs5 hb5;have hT:Lib.Kept (s.data.toList.take s.size=s.data.toList):=List.take_of_length_le (jBm hsz);clear hN;obtain ⟨c1,hc1⟩:∃c,Lib.countByte s.data.toList 34=c:=⟨_,rfl⟩;obtain ⟨c2,hc2⟩:∃c,Lib.countByte s.data.toList 92=c:=⟨_,rfl⟩;have hcs:N=s.size+c1+c2:=by
  have h:=yGb s.data.toList;rw[hc1,hc2,hsz]at h;exact (show escN s.data.toList=N from hN').symm.trans h
 have hcnt1:∀w:World,Calls prog 312 #[.string s,.string ⟨#[34]⟩] w fun e w' =>e=.returned (.int .i64 (c1:Int))/\w' =w:=fun w=>by
  have h:=Tryz.strings_Count_one s 34 w;rw[hc1]at h;exact h
 have hcnt2:∀w:World,Calls prog 312 #[.string s,.string ⟨#[92]⟩] w fun e w' =>e=.returned (.int .i64 (c2:Int))/\w' =w:=fun w=>by
  have h:=Tryz.strings_Count_one s 92 w;rw[hc2]at h;exact h
 have HC1:Aside (∀w:World,Calls prog 312 #[.string s,.string ⟨#[34]⟩] w fun e w' =>e=.returned (.int .i64 (c1:Int))/\w' =w):=hcnt1;have HC2:Aside (∀w:World,Calls prog 312 #[.string s,.string ⟨#[92]⟩] w fun e w' =>e=.returned (.int .i64 (c2:Int))/\w' =w):=hcnt2;clear hc1 hc2 hcnt1 hcnt2;have HL:Aside (w.cell? ⟨A,256,none⟩=some (.slice (some ⟨D,0,none⟩) 2 cp)/\w.cell? ⟨D,0,none⟩=some (.string ⟨#[34]⟩)/\w.cell? ⟨D,1,none⟩=some (.string ⟨#[92]⟩)):=⟨hL,hL0,hL1⟩;clear T hL0 hL1;go_enter func310,Tryz.ntmps310
 go_wp2
 clear hL;go_loopg [5,6,32] 2 (fun g v5 v6 v32 wx=>Lib.Kept (SmW w wx)/\((g=2/\v5=.int .i64 (s.size:Int)/\v6=.bool false/\v32=.int .i64 0)∨(g=1/\v5=.int .i64 ((s.size+c1:Nat):Int)/\v6=.bool (decide (c1≠0))/\v32=.int .i64 1)∨(g=0/\v5=.int .i64 (N:Int)/\v6=.bool (decide (N≠s.size))/\v32=.int .i64 2)))
 case atStart=>exact ⟨⟨rfl,Below.refl _ _⟩,.inl ⟨rfl,rfl,rfl,rfl⟩⟩
 case round=>
  obtain ⟨hS,hrel⟩:=hrel;have hcell:∀a:Addr,wr.cell? a=w.cell? a:=fun a=>by
   have h:SmW w wr:=hS;unfold World.cell?;rw[h.heap]
  have hD0:wr.cell? ⟨D,0,none⟩=some (.string ⟨#[34]⟩):=(hcell _).trans HL.out.2.1;have hD1:wr.cell? ⟨D,1,none⟩=some (.string ⟨#[92]⟩):=(hcell _).trans HL.out.2.2;have hHC:Aside (∀a:Addr,wr.cell? a=w.cell? a):=hcell;clear hcell;rcases hrel with ⟨rfl,rfl,rfl,rfl⟩ | ⟨rfl,rfl,rfl,rfl⟩ | ⟨rfl,rfl,rfl,rfl⟩
  .have hx34:∀h,((⟨#[34]⟩:ByteArray)[0]'h).toNat=34:=fun _=>rfl
   by_cases hc:c1=0
   .subst hc;go_wp2_with (go_at_call 312;refine (HC1.out _).mono ?_;rintro e w' ⟨rfl,rfl⟩)
    go_roundg 1
    case measure=>omega
    case rel=>exact ⟨hS,.inr (.inl ⟨rfl,by simp,by simp,by simp⟩)⟩
   have hci:¬((c1:Int)=0):=by omega
   go_wp2_with (go_at_call 312;refine (HC1.out _).mono ?_;rintro e w' ⟨rfl,rfl⟩)
   obtain ⟨B,cap,q0,_,_⟩:=HT.out.q;have hcD:w'.drew.cell? ⟨A,34,none⟩=some (.slice (some ⟨B,0,none⟩) 2 cap):=(hHC.out _).trans q0;clear q0;have hw1:wrap64 ((s.size:Int)+(c1:Int))=(s.size:Int)+(c1:Int):=by unfold wrap64;omega
   have hw2:wrap64 (c1:Int)=(c1:Int):=by unfold wrap64;omega
   go_region
   go_wp2
   go_roundg 1
   case measure=>omega
   case rel=>
    have h:SmW w w' :=hS;exact ⟨⟨h.heap,h.bw.drew⟩,.inr (.inl ⟨rfl,by simp[hw1,hw2],by simp[hc],by simp⟩)⟩
  .have hx92:∀h,((⟨#[92]⟩:ByteArray)[0]'h).toNat=92:=fun _=>rfl
   by_cases hc:c2=0
   .subst hc;go_wp2_with (go_at_call 312;refine (HC2.out _).mono ?_;rintro e w' ⟨rfl,rfl⟩)
    go_roundg 0
    case measure=>omega
    case rel=>exact ⟨hS,.inr (.inr ⟨rfl,by congr 1;omega,congrArg Value.bool (by rw[jBg];simp;omega),by simp⟩)⟩
   have hci:¬((c2:Int)=0):=by omega
   go_wp2_with (go_at_call 312;refine (HC2.out _).mono ?_;rintro e w' ⟨rfl,rfl⟩)
   obtain ⟨B,cap,q0,_,_⟩:=HT.out.s;have hcD:w'.drew.cell? ⟨A,92,none⟩=some (.slice (some ⟨B,0,none⟩) 2 cap):=(hHC.out _).trans q0;clear q0;have hw1:wrap64 ((s.size:Int)+(c1:Int)+(c2:Int))=(s.size:Int)+(c1:Int)+(c2:Int):=by unfold wrap64;omega
   have hw2:wrap64 (c2:Int)=(c2:Int):=by unfold wrap64;omega
   go_region
   go_wp2
   go_roundg 0
   case measure=>omega
   case rel=>
    have h:SmW w w' :=hS;refine ⟨⟨h.heap,h.bw.drew⟩,.inr (.inr ⟨rfl,?_,?_,by simp⟩)⟩
    .simp[hw1,hw2];omega
    rw[decide_eq_true (by omega)]
  have hbw:Lib.Kept (Below w.heap.size w wr):=(show SmW w wr from hS).bw;have HT:Aside (yha wr A):=by
   have h:SmW w wr:=hS;exact HT.out.of_heap (fun k _=>by rw[h.heap]) (jBm (by rw[h.heap]))
  obtain ⟨E,hE⟩:∃E,E=N:=⟨_,rfl⟩;subst hE;clear hD0 hD1 hHC HL HC1 HC2 hS hcs;by_cases hsame:E=s.size
  .have hd:decide (E≠s.size)=false:=decide_eq_false (fun h=>h hsame);rw[hd];clear hd;go_wp2
   go_ret
   refine ⟨?_,hbw⟩;have h3:escN s.data.toList=E:=hN';rw[wFb _ (by omega)];show Ending.returned (Value.string s)=Ending.returned (Value.string ⟨s.data.toList.toArray⟩);simp
  have hd:decide (E≠s.size)=true:=decide_eq_true hsame;rw[hd];clear hd hsame;obtain ⟨wo,hwo⟩:∃wo,wo=wr:=⟨_,rfl⟩;subst hwo;go_wp2
  go_loopg [13,14] s.size (fun g v13 v14 wx=>∃(i:Nat) (J:Nat) (C:Array Value),i+g=s.size/\v14=.int .i64 i/\v13=.int .i64 J/\Lib.Kept (J=escN (s.data.toList.take i))/\Lib.Kept (RpW wo wx C)/\Lib.Kept (C.size=E)/\Lib.Kept (vka C ((s.data.toList.take i).flatMap escB)))
  case atStart=>exact ⟨0,0,M,by omega,rfl,rfl,rfl,RpW.of wo M,hMs,fun j y hy=>by simp at hy⟩
  case round=>
   obtain ⟨i,J,C,hig,rfl,rfl,hJ,hW,hC,hrow⟩:=hrel;cases gk with
   | zero=>
    obtain rfl:i=s.size:=by omega
    have hiz:¬((s.size:Int) < (s.size:Int)):=by omega
    have hback:(convert 23 9 (.slice (some ⟨wo.heap.size,0,none⟩) E E)).run prog wr=.ok (.string ⟨(s.data.toList.flatMap escB).toArray⟩) wr:=by
     have W:RpW wo wr C:=hW;have h4:vka C ((s.data.toList.take s.size).flatMap escB):=hrow;rw[show s.data.toList.take s.size=s.data.toList from hT]at h4;have h:=run_convert_bytes_back (P:=prog) wr 23 9 5 ⟨wo.heap.size,0,none⟩ E (s.data.toList.flatMap escB) underlying23 underlying5 underlying9 (fun j hj=>by
      rw[Y7a,W.cell j];exact h4 j _ (jAe hj))
     rw[show (s.data.toList.flatMap escB).length=E from hN']at h;exact h
    go_wp2
    go_ret
    have W:RpW wo wr C:=hW;exact ⟨rfl,(show Below w.heap.size w wo from hbw).trans (W.bw.mono (show Below w.heap.size w wo from hbw).size)⟩
   | succ g=>
    have hi:i < s.size:=by omega
    have hiz:(i:Int) < (s.size:Int):=by omega
    obtain ⟨x,hx⟩:∃x:UInt8,s[i]'hi=x:=⟨_,rfl⟩;have hxl:Lib.Kept (s.data.toList[i]? =some x):=by rw[<-hx];exact Lib.data_getElem? s i hi
    have hx256:(x.toNat:Int) < 256:=by have:=jDe x;omega
    have hwr:wrap64 ((i:Int)+1)=((i:Int)+1):=by unfold wrap64;omega
    have hb1:J+(escB x).length<=E:=by
     have h1:J=escN (s.data.toList.take i):=hJ;have h2:=w8a hxl;have h3:=qMb s.data.toList (i+1);have h4:escN s.data.toList=E:=hN';omega
    have W:RpW wo wr C:=hW;rcases (W.tab HT.out).look x with ⟨he,hc⟩ | ⟨B,cap,he,hc,hr⟩
    .rw[he,jCj]at hb1;have hwj:wrap64 ((J:Int)+1)=((J:Int)+1):=by unfold wrap64;omega
     have hjE:(J:Int) < (E:Int):=by omega
     have hCs:C.size=E:=hC;obtain ⟨v0,hc1⟩:∃v0,wr.cell? ⟨wo.heap.size,J,none⟩=some v0:=⟨_,(W.cell J).trans (jDh (show J < C.size by omega))⟩;have hf1:=W.frz J;have he:Lib.Kept (escB x=[x]):=he;clear W hCs;go_wp2
     go_roundg g
     case measure=>omega
     case rel=>
      have W:RpW wo wr C:=hW;have hCs:C.size=E:=hC;have h1:J=escN (s.data.toList.take i):=hJ;have h2:=w8a hxl;have h3:escB x=[x]:=he;have h4:vka C ((s.data.toList.take i).flatMap escB):=hrow;rw[h3,jCj]at h2;have hl:((s.data.toList.take i).flatMap escB).length=J:=h1.symm;refine ⟨i+1,J+1,C.setIfInBounds J (.int .u8 (x.toNat:Int)),by omega,by simp,by simp,by show J+1=_;omega,W.set _ _,by show (C.setIfInBounds _ _).size=E;simpa using hCs,?_⟩;show vka _ _;rw[jCp,show s.data.toList[i]? =some x from hxl,List.flatMap_append];simp only[Option.toList_some,jCq,List.flatMap_nil,jDc,h3];rw[<-hl];exact qNb h4 (by omega)
    rw[he]at hb1;have hjE:(J:Int)<=(E:Int):=by omega
    have he:Lib.Kept ((escB x).length=2):=he;have hr:Aside (∀(j:Nat) (y:UInt8),(escB x)[j]? =some y->wr.cell? ⟨B,j,none⟩=some (.int .u8 (y.toNat:Int))):=hr;clear W;go_wp2
    have hcD:wr.drew.cell? ⟨A,x.toNat,none⟩=some (.slice (some ⟨B,0,none⟩) 2 cap):=hc;have hEJ:¬E=J:=by omega
    have hwj:wrap64 ((J:Int)+2)=((J:Int)+2):=by unfold wrap64;omega
    obtain ⟨W2,C2,hcp,hR2,hC2,hrow2⟩:=ZBb (cap:=cap) (show RpW wo wr C from hW) (show C.size=E from hC) (show (escB x).length=2 from he) hb1 hr.out;have hR2:Lib.Kept (RpW wo W2 C2):=hR2;have hC2:Lib.Kept (C2.size=E):=hC2;have hrow2:Aside (∀L:List UInt8,L.length=J->vka C L->vka C2 (L++escB x)):=hrow2;go_region
    go_wp2
    go_roundg g
    case measure=>omega
    case rel=>
     have h1:J=escN (s.data.toList.take i):=hJ;have h2:=w8a hxl;have h3:(escB x).length=2:=he;have h4:vka C ((s.data.toList.take i).flatMap escB):=hrow;rw[h3]at h2;have hJ2:J+2=escN (s.data.toList.take (i+1)):=by rw[h2,<-h1]
     refine ⟨i+1,J+2,C2,by omega,by simp,by simp[hwj],hJ2,hR2,hC2,?_⟩;show vka _ _;rw[jCp,show s.data.toList[i]? =some x from hxl,List.flatMap_append];simp only[Option.toList_some,jCq,List.flatMap_nil,jDc];exact hrow2.out _ h1.symm h4
end
section
open Go.Shelf Go.RowKit Go.Lib Go.Proofs.Tryz
theorem rs_build{P:Program}(L:RsLaid P)(b d o c:Nat)(w:World)(hr:w.cell? ⟨b,4,none⟩=some (.slice (some ⟨d,o,none⟩) 4 c))(hd:d < w.heap.size)(h0:w.cell? ⟨d,o,none⟩=some (.string ⟨#[92]⟩))(h1:w.cell? ⟨d,o+1,none⟩=some (.string ⟨#[92,92]⟩))(h2:w.cell? ⟨d,o+2,none⟩=some (.string ⟨#[34]⟩))(h3:w.cell? ⟨d,o+3,none⟩=some (.string ⟨#[92,34]⟩)):
 Calls P 177 #[.pointer (some ⟨b,0,none⟩)] w fun e w' =>∃A,e=.returned (.iface 278 (.pointer (some ⟨A,0,none⟩)))/\yha w' A/\Below w.heap.size w w' :=by
 have t3:=L.t3;have a3:=L.a3;have z3:=L.z3;have v3:=L.v3;have t4:=L.t4;have a4:=L.a4;have z4:=L.z4;have v4:=L.v4;have t5:=L.t5;have a5:=L.a5;have z5:=L.z5;have v5:=L.v5;have t9:=L.t9;have a9:=L.a9;have z9:=L.z9;have v9:=L.v9;have t23:=L.t23;have a23:=L.a23;have z23:=L.z23;have v23:=L.v23;have t91:=L.t91;have a91:=L.a91;have z91:=L.z91;have v91:=L.v91;have t170:=L.t170;have z166:=L.z166;have z168:=L.z168;have t275:=L.t275;have z275:=L.z275;have t277:=L.t277;have z277:=L.z277;have v277:=L.v277;have u170:=run_underlying L.t170;have u91:=run_underlying L.t91;have u9:=run_underlying L.t9;have u5:=run_underlying L.t5;have u3:=run_underlying L.t3;have u4:=run_underlying L.t4;have u23:=run_underlying L.t23;have u275:=run_underlying L.t275;have u277:=run_underlying L.t277;have hmk:∀(x:Value) (w:World),(Instr.makeInterface 278 x).run P w=.ok (.iface 278 x) w:=fun x w=>run_makeInterface w _ x L.c278
 have hbuilt:∀(D:Nat) (w:World),(Instr.build 277 #[(1,.slice (some ⟨D,0,none⟩) 0 2)]).run P w=.ok (.agg (bsZero D 0)) w:=fun D w=>run_build w _ _ _ (L.b277 D)
 obtain ⟨i9,hi9,hz9,hs9,hb9⟩:∃i,P.info? 9=some i/\i.zero=some (.string ⟨#[]⟩)/\i.size=1/\i.bytes=16:=by
  have:=L.i9;cases hq:P.info? 9 with
  | none=>simp[hq]at this
  | some i=>simp[hq]at this;exact ⟨i,rfl,this⟩
 have hmake:∀w:World,(Instr.makeSlice 40 (.int .i64 0) (.int .i64 2)).run P w=.ok (.slice (some ⟨w.heap.size,0,none⟩) 0 2) (w.alloc (.cells #[.string ⟨#[]⟩,.string ⟨#[]⟩] 9)):=fun w=>by
  have h:=Go.run_make w 40 9 i9 (.string ⟨#[]⟩) t91 hi9 hz9 .i64 .i64 0 2 (by omega) (by omega) (by rw[hb9];omega) (by omega);rw[hs9]at h;have hm:madeCells (Value.string ⟨#[]⟩).cells ((2:Int).toNat * 1)= #[.string ⟨#[]⟩,.string ⟨#[]⟩]:=by kernel_rfl
  rw[hm]at h;exact h
 obtain ⟨i5,hi5,hz5,hs5,hb5⟩:∃i,P.info? 5=some i/\i.zero=some (.int .u8 0)/\i.size=1/\i.bytes=1:=by
  have:=L.i5;cases hq:P.info? 5 with
  | none=>simp[hq]at this
  | some i=>simp[hq]at this;exact ⟨i,rfl,this⟩
 have hn1:∀w:World,(binOp .eql 23 (.slice none 0 0) (.slice none 0 0)).run P w=.ok (.bool true) w:=fun w=>by
  simp only[binOp];simp[run_equal_slice_nil w 23 5 none 0 0 L.t23]
 have hbs5:∀(x:Int) (w:World),(Instr.buildSlice 23 1 #[(0,.int .u8 x)]).run P w=.ok (.slice (some ⟨w.heap.size,0,none⟩) 1 1) (w.alloc (.cells #[.int .u8 x] 5)):=fun x w=>
  run_buildSlice w _ _ 1 _ _ i5 _ L.t23 hi5 hz5 (by rw[hs5];omega) (by rw[hs5];omega) (by rw[hs5];kernel_rfl)
 have hbs9:∀(x:ByteArray) (w:World),(Instr.buildSlice 40 1 #[(0,.string x)]).run P w=.ok (.slice (some ⟨w.heap.size,0,none⟩) 1 1) (w.alloc (.cells #[.string x] 9)):=fun x w=>
  run_buildSlice w _ _ 1 _ _ i9 _ L.t91 hi9 hz9 (by rw[hs9];omega) (by rw[hs9];omega) (by rw[hs9];kernel_rfl)
 have hcv:∀(x:UInt8) (w:World),(convert 23 9 (.slice (some ⟨w.heap.size,0,none⟩) 1 1)).run P (w.alloc (.cells #[.int .u8 (x.toNat:Int)] 5))=.ok (.string ⟨#[x]⟩) (w.alloc (.cells #[.int .u8 (x.toNat:Int)] 5)):=fun x w=>
  run_convert_bytes_back (P:=P) _ _ _ 5 ⟨w.heap.size,0,none⟩ 1 [x] L.t23 L.t5 L.t9 (fun j hj=>by
   obtain rfl:j=0:=by simpa using hj
   simp[Addr.add])
 have happ:∀(x:ByteArray) (D n:Nat) (w:World) (S:Array Value),w.heap[D]? =some (.cells S 9 (0,0))->n < S.size->n+1<=2->(Builtin.append_ #[40,40] 40 #[.slice (some ⟨D,0,none⟩) n 2,.slice (some ⟨w.heap.size,0,none⟩) 1 1]).run P (w.alloc (.cells #[.string x] 9))=.ok (.slice (some ⟨D,0,none⟩) (n+1) 2) ((w.alloc (.cells #[.string x] 9)).setCell ⟨D,n,none⟩ (.string x)):=fun x D n w S hD hn h2=>by
  have hlt:=zVa hD;have hD2:(w.alloc (.cells #[.string x] 9)).heap[D]? =some (.cells S 9 (0,0)):=(Below.heap_alloc _ _ _ hlt).trans hD;rw[run_append_room (P:=P) _ _ _ _ i9 L.t91 hi9 D n 2 S hD2 ⟨w.heap.size,0,none⟩ 1 1 [.string x] (by rw[hs9];rfl) (fun j u hj=>by
   obtain ⟨hj1,rfl⟩:=jAd.1 hj;obtain rfl:j=0:=by simpa using hj1
   simp[Addr.add]) (by simp[Value.oneCell']) h2 (by rw[hs9];simp;omega)]
  rw[setCell_eq_setRow _ D n S 9 (0,0) _ hD2,hs9]
  congr 2
  apply Array.ext';simp[List.set_eq_take_append_cons_drop,hn]
 go_enter L.f,Tryz.ntmps177
 go_wp2
 go_loopg [4,5] 2 (fun g v4 v5 wx=>wx=w/\((g=2/\v4=.bool true/\v5=.int .i64 0)∨(g=1/\v4=.bool false/\v5=.int .i64 2)∨(g=0/\v4=.bool false/\v5=.int .i64 4)))
 case atStart=>exact ⟨rfl,.inl ⟨rfl,rfl,rfl⟩⟩
 case round=>
  obtain ⟨rfl,hg⟩:=hrel;rcases hg with ⟨rfl,rfl,rfl⟩ | ⟨rfl,rfl,rfl⟩ | ⟨rfl,rfl,rfl⟩
  .go_wp2
   go_roundg 1
   case measure=>omega
   case rel=>exact ⟨rfl,.inr (.inl ⟨rfl,rfl,rfl⟩)⟩
  .go_wp2
   go_roundg 0
   case measure=>omega
   case rel=>exact ⟨rfl,.inr (.inr ⟨rfl,rfl,rfl⟩)⟩
  go_wp2
  have hsc:=run_storeCells_new (P:=P) (wr.alloc (.cells #[.string ⟨#[]⟩,.string ⟨#[]⟩] 9)) 277 vTb (bsT0 wr.heap.size 0) (by rw[L.hi277];rfl) rfl (by kernel_rfl);rw[show (bsT0 wr.heap.size 0).toList=vTb.toList.set 256 (.slice (some ⟨wr.heap.size,0,none⟩) 0 2) from Array.toList_setIfInBounds,show (wr.alloc (.cells #[.string ⟨#[]⟩,.string ⟨#[]⟩] 9)).heap.size=wr.heap.size+1 by simp]at hsc;simp only[Result.andThen,↓reduceIte,hsc];rw[Oper.upon_skip];go_wp2
  obtain ⟨W0,hW0⟩:∃W0,(wr.alloc (.cells #[.string ⟨#[]⟩,.string ⟨#[]⟩] 9)).alloc (.cells (bsT0 wr.heap.size 0) 277)=W0:=⟨_,rfl⟩;have M0:Wga wr W0 (bsT0 wr.heap.size 0) #[.string ⟨#[]⟩,.string ⟨#[]⟩]:=by
   subst hW0;refine ⟨?_,?_,((Below.refl _ wr).alloc (jAm _) _).alloc (by simp) _⟩
   .have h:=heap_alloc_new (wr.alloc (.cells #[.string ⟨#[]⟩,.string ⟨#[]⟩] 9)) (.cells (bsT0 wr.heap.size 0) 277);rw[show (wr.alloc (.cells #[.string ⟨#[]⟩,.string ⟨#[]⟩] 9)).heap.size=wr.heap.size+1 by simp]at h;exact h
   rw[Below.heap_alloc _ _ _ (by simp)];exact heap_alloc_new wr _
  rw[hW0];clear hW0 hsc;obtain ⟨wo,hwo⟩:∃wo,wo=wr:=⟨_,rfl⟩;subst hwo;go_loopg [12] 2 (fun g v12 wx=>(g=2/\v12=.int .i64 2/\Wga wo wx (bsT0 wo.heap.size 0) #[.string ⟨#[]⟩,.string ⟨#[]⟩])∨(g=1/\v12=.int .i64 0/\∃B cap,Wga wo wx ((bsT0 wo.heap.size 1).setIfInBounds 34 (.slice (some ⟨B,0,none⟩) 2 cap)) #[.string ⟨#[34]⟩,.string ⟨#[]⟩]/\B < wx.heap.size/\wo.heap.size+1 < B/\wx.cell? ⟨B,0,none⟩=some (.int .u8 92)/\wx.cell? ⟨B,1,none⟩=some (.int .u8 34))∨(g=0/\v12=.int .i64 (-2)/\yha wx (wo.heap.size+1)/\Below wo.heap.size wo wx))
  case atStart=>exact .inl ⟨rfl,rfl,M0⟩
  case round=>
   clear M0;rcases hrel with ⟨rfl,rfl,hA,hD,hbw⟩ | ⟨rfl,rfl,B,cap,⟨hA,hD,hbw⟩,hB1,hB2,hB3,hB4⟩ | ⟨rfl,rfl,hT,hbw⟩
   .have MM:Wga wo wr _ _:=⟨hA,hD,hbw⟩;have k2:wr.cell? ⟨d,o+2,none⟩=some (.string ⟨#[34]⟩):=(qHa (hbw.block d hd) _).trans h2;have k3:wr.cell? ⟨d,o+3,none⟩=some (.string ⟨#[92,34]⟩):=(qHa (hbw.block d hd) _).trans h3;have hs1:wo.heap.size+1 < wr.heap.size:=zVa hA;have cA:wr.cell? ⟨wo.heap.size+1,34,none⟩=some (.slice none 0 0):=(jSa MM _).trans (Y6a _ _ _ (by omega));have cL:wr.cell? ⟨wo.heap.size+1,256,none⟩=some (.slice (some ⟨wo.heap.size,0,none⟩) 0 2):=(jSa MM _).trans (qLb _ _);have fA:=wEb MM;have cD:wr.cell? ⟨wo.heap.size,0,none⟩=some (.string ⟨#[]⟩):=(Yga MM _).trans rfl;have fD:=Zzb MM;have cD2:((wr.alloc (.cells #[.int .u8 34] 5)).alloc (.cells #[.string ⟨#[34]⟩] 9)).cell? ⟨wo.heap.size,0,none⟩=some (.string ⟨#[]⟩):=by rw[World.cell?_alloc_past _ _ _ (by simp;omega),World.cell?_alloc_past _ _ _ (by omega)];exact cD
    have fD2:((wr.alloc (.cells #[.int .u8 34] 5)).alloc (.cells #[.string ⟨#[34]⟩] 9)).frozen? ⟨wo.heap.size,0,none⟩=false:=by rw[World.frozen?_alloc_past _ _ _ (by simp;omega),World.frozen?_alloc_past _ _ _ (by omega)];exact fD _
    have cA2:((wr.alloc (.cells #[.int .u8 34] 5)).alloc (.cells #[.string ⟨#[34]⟩] 9)).cell? ⟨wo.heap.size+1,256,none⟩=some (.slice (some ⟨wo.heap.size,0,none⟩) 0 2):=by rw[World.cell?_alloc_past _ _ _ (by simp;omega),World.cell?_alloc_past _ _ _ (by omega)];exact cL
    have fA2:∀i,((wr.alloc (.cells #[.int .u8 34] 5)).alloc (.cells #[.string ⟨#[34]⟩] 9)).frozen? ⟨wo.heap.size+1,i,none⟩=false:=fun i=>by rw[World.frozen?_alloc_past _ _ _ (by simp;omega),World.frozen?_alloc_past _ _ _ (by omega)];exact fA _
    have hcv1:(convert 23 9 (.slice (some ⟨wr.heap.size,0,none⟩) 1 1)).run P (wr.alloc (.cells #[.int .u8 34] 5))=.ok (.string ⟨#[34]⟩) (wr.alloc (.cells #[.int .u8 34] 5)):=hcv 34 wr;have hx34:∀h,((⟨#[34]⟩:ByteArray)[0]'h).toNat=34:=fun _=>rfl
    obtain ⟨M1,M2,M3⟩:=rs_mid MM (.cells #[.int .u8 34] 5) (.cells #[.string ⟨#[34]⟩] 9) 0 (.string ⟨#[34]⟩) (.slice (some ⟨wo.heap.size,0,none⟩) 1 2);have HM:Aside _:=And.intro M1 (And.intro M2 M3);have HO:Aside _:=MM;clear hA hD hr hcv h0 h1 h2 h3 hmake hbuilt M1 M2 M3 MM;go_wp2
    obtain ⟨W3,hW3⟩:∃W3,((((wr.alloc (.cells #[.int .u8 34] 5)).alloc (.cells #[.string ⟨#[34]⟩] 9)).setCell ⟨wo.heap.size,0,none⟩ (.string ⟨#[34]⟩)).setCell ⟨wo.heap.size+1,256,none⟩ (.slice (some ⟨wo.heap.size,0,none⟩) 1 2))=W3:=⟨_,rfl⟩;rw[hW3];rw[hW3]at HM;have cA4:∀C e fz,(W3.alloc (.cells C e fz)).cell? ⟨wo.heap.size+1,34,none⟩=some (.slice none 0 0):=fun C e fz=>by
     obtain ⟨M1,M2,M3⟩:=HM.out;rw[World.cell?_alloc_past _ _ _ (by omega)];exact (jSa M1 _).trans (by rw[wDb];exact Y6a _ _ _ (by omega))
    have fA4:∀C e fz,(W3.alloc (.cells C e fz)).frozen? ⟨wo.heap.size+1,34,none⟩=false:=fun C e fz=>by
     obtain ⟨M1,M2,M3⟩:=HM.out;rw[World.frozen?_alloc_past _ _ _ (by omega)];exact wEb M1 _
    obtain ⟨cp,hcp⟩:∃cp,grownCap W3 2 0 5=cp:=⟨_,rfl⟩;have hcvB:(convert 9 23 (.string ⟨#[92,34]⟩)).run P W3=.ok (.slice (some ⟨W3.heap.size,0,none⟩) 2 cp) (W3.alloc (.cells (bytesRow ⟨#[92,34]⟩ cp) 5 ((bytesRow ⟨#[92,34]⟩ cp).size,(bytesRow ⟨#[92,34]⟩ cp).size+1))).drew:=by
     rw[<-hcp];exact run_bytes_of_string (P:=P) W3 9 23 5 ⟨#[92,34]⟩ L.t9 L.t23 L.t5
    clear hW3;simp only[Result.andThen,hcvB];rw[Oper.upon_value];go_wp2
    go_roundg 1
    case measure=>omega
    case rel=>
     obtain ⟨M1,M2,M3⟩:=HM.out;obtain ⟨N1,N2,N3,N4⟩:=rs_end M1 (bytesRow ⟨#[92,34]⟩ cp) 5 ((bytesRow ⟨#[92,34]⟩ cp).size,(bytesRow ⟨#[92,34]⟩ cp).size+1) 34 (.slice (some ⟨W3.heap.size,0,none⟩) 2 cp);rw[wDb]at N1;exact .inr (.inl ⟨rfl,rfl,W3.heap.size,cp,N1,by rw[N2];omega,by omega,(N3 0).trans (ZQa (s:=⟨#[92,34]⟩) (x:=92) rfl),(N3 1).trans (ZQa (s:=⟨#[92,34]⟩) (x:=34) rfl)⟩)
   .have MM:Wga wo wr _ _:=⟨hA,hD,hbw⟩;have k2:wr.cell? ⟨d,o,none⟩=some (.string ⟨#[92]⟩):=(qHa (hbw.block d hd) _).trans h0;have k3:wr.cell? ⟨d,o+1,none⟩=some (.string ⟨#[92,92]⟩):=(qHa (hbw.block d hd) _).trans h1;have hs1:wo.heap.size+1 < wr.heap.size:=zVa hA;have cA:wr.cell? ⟨wo.heap.size+1,92,none⟩=some (.slice none 0 0):=(jSa MM _).trans (by rw[jBq,if_neg (by omega)];exact Y6a _ _ _ (by omega));have cL:wr.cell? ⟨wo.heap.size+1,256,none⟩=some (.slice (some ⟨wo.heap.size,0,none⟩) 1 2):=(jSa MM _).trans (by rw[jBq,if_neg (by omega)];exact qLb _ _);have fA:=wEb MM;have cD:wr.cell? ⟨wo.heap.size,1,none⟩=some (.string ⟨#[]⟩):=(Yga MM _).trans rfl;have fD:=Zzb MM;have cD2:((wr.alloc (.cells #[.int .u8 92] 5)).alloc (.cells #[.string ⟨#[92]⟩] 9)).cell? ⟨wo.heap.size,1,none⟩=some (.string ⟨#[]⟩):=by rw[World.cell?_alloc_past _ _ _ (by simp;omega),World.cell?_alloc_past _ _ _ (by omega)];exact cD
    have fD2:((wr.alloc (.cells #[.int .u8 92] 5)).alloc (.cells #[.string ⟨#[92]⟩] 9)).frozen? ⟨wo.heap.size,1,none⟩=false:=by rw[World.frozen?_alloc_past _ _ _ (by simp;omega),World.frozen?_alloc_past _ _ _ (by omega)];exact fD _
    have cA2:((wr.alloc (.cells #[.int .u8 92] 5)).alloc (.cells #[.string ⟨#[92]⟩] 9)).cell? ⟨wo.heap.size+1,256,none⟩=some (.slice (some ⟨wo.heap.size,0,none⟩) 1 2):=by rw[World.cell?_alloc_past _ _ _ (by simp;omega),World.cell?_alloc_past _ _ _ (by omega)];exact cL
    have fA2:∀i,((wr.alloc (.cells #[.int .u8 92] 5)).alloc (.cells #[.string ⟨#[92]⟩] 9)).frozen? ⟨wo.heap.size+1,i,none⟩=false:=fun i=>by rw[World.frozen?_alloc_past _ _ _ (by simp;omega),World.frozen?_alloc_past _ _ _ (by omega)];exact fA _
    have hcv1:(convert 23 9 (.slice (some ⟨wr.heap.size,0,none⟩) 1 1)).run P (wr.alloc (.cells #[.int .u8 92] 5))=.ok (.string ⟨#[92]⟩) (wr.alloc (.cells #[.int .u8 92] 5)):=hcv 92 wr;have hx34:∀h,((⟨#[92]⟩:ByteArray)[0]'h).toNat=92:=fun _=>rfl
    obtain ⟨M1,M2,M3⟩:=rs_mid MM (.cells #[.int .u8 92] 5) (.cells #[.string ⟨#[92]⟩] 9) 1 (.string ⟨#[92]⟩) (.slice (some ⟨wo.heap.size,0,none⟩) 2 2);have HM:Aside _:=And.intro M1 (And.intro M2 M3);have HO:Aside _:=MM;clear hA hD hr hcv h0 h1 h2 h3 hmake hbuilt M1 M2 M3 MM;go_wp2
    obtain ⟨W3,hW3⟩:∃W3,((((wr.alloc (.cells #[.int .u8 92] 5)).alloc (.cells #[.string ⟨#[92]⟩] 9)).setCell ⟨wo.heap.size,1,none⟩ (.string ⟨#[92]⟩)).setCell ⟨wo.heap.size+1,256,none⟩ (.slice (some ⟨wo.heap.size,0,none⟩) 2 2))=W3:=⟨_,rfl⟩;rw[hW3];rw[hW3]at HM;have cA4:∀C e fz,(W3.alloc (.cells C e fz)).cell? ⟨wo.heap.size+1,92,none⟩=some (.slice none 0 0):=fun C e fz=>by
     obtain ⟨M1,M2,M3⟩:=HM.out;rw[World.cell?_alloc_past _ _ _ (by omega)];exact (jSa M1 _).trans (by rw[jBq,if_neg (by omega),jBq,if_neg (by omega)];exact Y6a _ _ _ (by omega))
    have fA4:∀C e fz,(W3.alloc (.cells C e fz)).frozen? ⟨wo.heap.size+1,92,none⟩=false:=fun C e fz=>by
     obtain ⟨M1,M2,M3⟩:=HM.out;rw[World.frozen?_alloc_past _ _ _ (by omega)];exact wEb M1 _
    obtain ⟨cp,hcp⟩:∃cp,grownCap W3 2 0 5=cp:=⟨_,rfl⟩;have hcvB:(convert 9 23 (.string ⟨#[92,92]⟩)).run P W3=.ok (.slice (some ⟨W3.heap.size,0,none⟩) 2 cp) (W3.alloc (.cells (bytesRow ⟨#[92,92]⟩ cp) 5 ((bytesRow ⟨#[92,92]⟩ cp).size,(bytesRow ⟨#[92,92]⟩ cp).size+1))).drew:=by
     rw[<-hcp];exact run_bytes_of_string (P:=P) W3 9 23 5 ⟨#[92,92]⟩ L.t9 L.t23 L.t5
    clear hW3;simp only[Result.andThen,hcvB];rw[Oper.upon_value];go_wp2
    go_roundg 0
    case measure=>omega
    case rel=>
     obtain ⟨M1,M2,M3⟩:=HM.out;obtain ⟨N1,N2,N3,N4⟩:=rs_end M1 (bytesRow ⟨#[92,92]⟩ cp) 5 ((bytesRow ⟨#[92,92]⟩ cp).size,(bytesRow ⟨#[92,92]⟩ cp).size+1) 92 (.slice (some ⟨W3.heap.size,0,none⟩) 2 cp);have hT:∀k v1 v2 v3,((((bsT0 wo.heap.size 1).setIfInBounds 34 v1).setIfInBounds 256 v2).setIfInBounds 92 v3)[k]? =if 92=k then some v3 else if 256=k then some v2 else if 34=k then some v1 else (bsT0 wo.heap.size 1)[k]? :=fun k v1 v2 v3=>by
      simp only[jBq,Array.size_setIfInBounds,Zyb];repeat' split <;> first | rfl | omega
     have hBc:∀j,((W3.alloc (.cells (bytesRow ⟨#[92,92]⟩ cp) 5 ((bytesRow ⟨#[92,92]⟩ cp).size,(bytesRow ⟨#[92,92]⟩ cp).size+1))).setCell ⟨wo.heap.size+1,92,none⟩ (.slice (some ⟨W3.heap.size,0,none⟩) 2 cp)).drew.cell? ⟨B,j,none⟩=wr.cell? ⟨B,j,none⟩:=fun j=>qHa ((N4 B (by omega) hB2).trans (M3 B hB1 hB2)) j
     refine .inr (.inr ⟨rfl,rfl,⟨by rw[N2];omega,fun k hk h1 h2=>(jSa N1 k).trans ?_,⟨B,cap,(jSa N1 34).trans ?_,(hBc 0).trans hB3,(hBc 1).trans hB4⟩,⟨W3.heap.size,cp,(jSa N1 92).trans ?_,(N3 0).trans (ZQa (s:=⟨#[92,92]⟩) (x:=92) rfl),(N3 1).trans (ZQa (s:=⟨#[92,92]⟩) (x:=92) rfl)⟩,⟨wo.heap.size,2,(jSa N1 256).trans ?_,(Yga N1 0).trans rfl,(Yga N1 1).trans rfl⟩⟩,N1.bw⟩)
     .rw[hT,if_neg (by omega),if_neg (by omega),if_neg (by omega)];exact Y6a _ _ _ hk
     .rw[hT];rfl
     .rw[hT];rfl
     rw[hT];rfl
   go_wp2
   go_ret
   exact ⟨_,rfl,hT,hbw⟩
end
def RpQ(w:World)(u:Nat->Nat)(vs:Array Value):Prop:=
 (vs[0]? =some (.int .u32 0)/\vs[1]? =some (.int .i32 0)/\vs[3]? =some .nilIface/\∃d o c,vs[4]? =some (.slice (some ⟨d,o,none⟩) 4 c)/\d < w.heap.size/\o+4<=u d/\
  w.cell? ⟨d,o,none⟩=some (.string ⟨#[0]⟩)/\w.cell? ⟨d,o+1,none⟩=some (.string ⟨#[32]⟩)/\w.cell? ⟨d,o+2,none⟩=some (.string ⟨#[13]⟩)/\w.cell? ⟨d,o+3,none⟩=some (.string ⟨#[32]⟩))∨
 (vs[0]? =some (.int .u32 1)/\∃A,vs[3]? =some (bI A)/\A < w.heap.size/\256<=u A/\∀x:UInt8,w.cell? ⟨A,x.toNat,none⟩=some (.int .u8 ((kea x).toNat:Int)))
theorem RpQ.mono{w w' :World}{u u' :Nat->Nat}{vs:Array Value}(hx:Ext0 w u w' u')(h:RpQ w u vs):RpQ w' u' vs:=by
 rcases h with ⟨h0,h1,h3,d,o,c,h4,hd,hu,s0,s1,s2,s3⟩ | ⟨h0,A,h3,hA,hu,ht⟩
 .refine .inl ⟨h0,h1,h3,d,o,c,h4,jBp hd hx.size,jAt hu (hx.pub d hd),?_,?_,?_,?_⟩
  .rw[hx.cell d _ hd (by omega)];exact s0
  .rw[hx.cell d _ hd (by omega)];exact s1
  .rw[hx.cell d _ hd (by omega)];exact s2
  rw[hx.cell d _ hd (by omega)];exact s3
 refine .inr ⟨h0,A,h3,jBp hA hx.size,jAt hu (hx.pub A hA),fun x=>?_⟩;rw[hx.cell A _ hA (by have:=jDe x;omega)];exact ht x
theorem Qha{w:World}{b:Nat}{vs:Array Value}{t:TypeId}{fz:Nat × Nat}(h:w.heap[b]? =some (.cells vs t fz))(c i:Nat)(v:Value):∃vs',(w.setCell ⟨c,i,none⟩ v).heap[b]? =some (.cells vs' t fz)/\vs'.size=vs.size:=by
 unfold World.setCell;simp only[jBl,h];by_cases e:c=b
 .subst e;exact ⟨vs.setIfInBounds i v,by simp,by simp⟩
 exact ⟨vs,by simp[e],rfl⟩
theorem y9a{w:World}{b c:Nat}(h:c≠b)(i:Nat)(v:Value):(w.setCell ⟨c,i,none⟩ v).heap[b]? =w.heap[b]? :=by
 unfold World.setCell;simp only[jBl];simp[h]
theorem ZCb(T:Array Value){b k:Nat}{w:World}(hk:k < w.heap.size)(hne:b≠k):(ranT T b w).heap[k]? =w.heap[k]? :=by
 unfold ranT;rw[y9a hne,y9a hne];show (World.alloc _ _).heap[k]? =_;rw[Below.heap_alloc _ _ _ (by simpa using hk),y9a hne,y9a hne,y9a hne]
theorem ranT_own(T:Array Value){b:Nat}{w:World}{vs:Array Value}{t:TypeId}{fz:Nat × Nat}(hb:w.heap[b]? =some (.cells vs t fz)):∃vs',(ranT T b w).heap[b]? =some (.cells vs' t fz)/\vs'.size=vs.size:=by
 have hlt:=zVa hb;unfold ranT;obtain ⟨v1,h1,n1⟩:=Qha hb b 1 (.int .i32 1);obtain ⟨v2,h2,n2⟩:=Qha h1 b 3 (bI w.heap.size);obtain ⟨v3,h3,n3⟩:=Qha h2 b 4 (.slice none 0 0);have h4:(((((w.setCell ⟨b,1,none⟩ (.int .i32 1)).setCell ⟨b,3,none⟩ (bI w.heap.size)).setCell ⟨b,4,none⟩ (.slice none 0 0)).alloc (.cells T 273)).drew).heap[b]? =some (.cells v3 t fz):=by
  show (World.alloc _ _).heap[b]? =_;rw[Below.heap_alloc _ _ _ (by simpa using hlt)];exact h3
 obtain ⟨v5,h5,n5⟩:=Qha h4 b 0 (.int .u32 1);obtain ⟨v6,h6,n6⟩:=Qha h5 b 1 (.int .i32 0);exact ⟨v6,h6,by omega⟩
structure RpG (g:G) (b:Nat) (t:TypeId) (g' :G):Prop where
 loc:g'.loc=g.loc
 old:Old (fun k=>k=b) g g'
 wf:Wf g'
 u0:g'.u b=0
 own:∃vs,g'.w.heap[b]? =some (.cells vs t (0,0))/\vs.size=5/\RpQ g'.w g'.u vs
theorem RpG.refl{g:G}{b:Nat}{t:TypeId}{vs:Array Value}(hb:g.w.heap[b]? =some (.cells vs t (0,0)))(hn:vs.size=5)(hu:g.u b=0)(hw:Wf g)(hq:RpQ g.w g.u vs):RpG g b t g:=
 ⟨rfl,Old.refl _ _,hw,hu,vs,hb,hn,hq⟩
theorem RpG.tail{g g1:G}{b:Nat}{t:TypeId}(h:RpG g b t g1)(C:Array Value)(e:TypeId)(fz:Nat × Nat):RpG g b t ⟨(g1.w.alloc (.cells C e fz)).drew,fun k=>if k=g1.w.heap.size then 0 else g1.u k,g1.loc⟩:=by
 obtain ⟨hl,ho,hw,hu,vs,hb,hn,hq⟩:=h;have hlt:=zVa hb;have hz:∀k,k < g1.w.heap.size->((g1.w.alloc (.cells C e fz)).drew).heap[k]? =g1.w.heap[k]? :=fun k hk=>Below.heap_alloc _ _ _ hk
 have hx:Ext g1.w g1.u (g1.w.alloc (.cells C e fz)).drew (fun k=>if k=g1.w.heap.size then 0 else g1.u k):=⟨by simp,fun k hk=>by
  show g1.u k<=if k=g1.w.heap.size then 0 else g1.u k;rw[if_neg (by omega)];exact jAm _,fun k i hk _=>by
  simp only[World.cell?];rw[hz k hk],fun r hr=>(hz r (zVa hr)).trans hr⟩
 refine ⟨hl,ho.trans ⟨rfl,rfl,rfl,hx,fun k hk _=>⟨hz k hk,by show (if k=g1.w.heap.size then 0 else g1.u k)=_;rw[if_neg (by omega)]⟩⟩,fun k hk=>?_,?_,vs,(hz b hlt).trans hb,hn,hq.mono hx.to0⟩
 .have hk:g1.w.heap.size+1<=k:=by simpa using hk
  show (if k=g1.w.heap.size then 0 else g1.u k)=0;rw[if_neg (by omega)];exact hw k (by omega)
 show (if b=g1.w.heap.size then 0 else g1.u b)=0;rw[hu];exact ite_self 0
theorem RpG.ran{g:G}{b d o c:Nat}{t:TypeId}{vs:Array Value}(hb:g.w.heap[b]? =some (.cells vs t (0,0)))(hn:vs.size=5)(hu:g.u b=0)(hw:Wf g)(F:yEb g.w b d o c):
 RpG g b t ⟨ranW b g.w,fun k=>if k=g.w.heap.size then 256 else g.u k,g.loc⟩:=by
 have hlt:=zVa hb;have B:=qJb F;obtain ⟨hsz,f0,f3,ft⟩:=zkb kha F.hb F.c0 F.c3;rw[<-qIb]at hsz f0 f3 ft;obtain ⟨vs',hb',hn'⟩:=ranT_own kha hb;rw[<-qIb]at hb';have hz:∀k,k < g.w.heap.size->k≠b->(ranW b g.w).heap[k]? =g.w.heap[k]? :=fun k hk hne=>by rw[qIb];exact ZCb kha hk (Ne.symm hne)
 have hos:(ranW b g.w).os=g.w.os/\(ranW b g.w).tape=g.w.tape/\(ranW b g.w).output=g.w.output:=by
  rw[qIb];generalize kha=T;exact ⟨rfl,rfl,rfl⟩
 have huk:∀k,k < g.w.heap.size->(if k=g.w.heap.size then 256 else g.u k)=g.u k:=fun k hk=>if_neg (by omega)
 have hbu:(if b=g.w.heap.size then 256 else g.u b)=0:=(huk b hlt).trans hu;have hcell:∀i,i < 5->(ranW b g.w).cell? ⟨b,i,none⟩=vs'[i]? :=fun i hi=>by
  simp[World.cell?,hb']
 refine ⟨rfl,⟨hos.1,hos.2.1,hos.2.2,⟨by show g.w.heap.size<=(ranW b g.w).heap.size;omega,fun k hk=>jBm (huk k hk).symm,fun k i hk hi=>?_,fun r hr=>?_⟩,fun k hk hne=>⟨hz k hk hne,huk k hk⟩⟩,fun k hk=>?_,hbu,vs',hb',hn'.trans hn,.inr ⟨(hcell 0 (by omega)).symm.trans f0,g.w.heap.size,(hcell 3 (by omega)).symm.trans f3,by show g.w.heap.size < (ranW b g.w).heap.size;omega,jBm (if_pos rfl).symm,B.tab⟩⟩
 .have hne:k≠b:=by rintro rfl;omega
  simp only[World.cell?];rw[hz k hk hne]
 .have hne:r≠b:=by rintro rfl;rw[hb]at hr;cases hr
  exact (hz r (zVa hr) hne).trans hr
 have hk:(ranW b g.w).heap.size<=k:=hk;show (if k=g.w.heap.size then 256 else g.u k)=0;rw[if_neg (by omega)];exact hw k (by omega)
theorem rp_step{g:G}{b:Nat}{t:TypeId}{vs:Array Value}(s:ByteArray)(hlen:s.size<=4611686018427387904)(hb:g.w.heap[b]? =some (.cells vs t (0,0)))(hn:vs.size=5)(hu:g.u b=0)(hw:Wf g)(hq:RpQ g.w g.u vs):
 Calls prog 97 #[.pointer (some ⟨b,0,none⟩),.string s] g.w fun e w' =>e=.returned (.string ⟨(s.data.toList.map kea).toArray⟩)/\∃g',g'.w=w' /\RpG g b t g' :=by
 have hlt:=zVa hb;have hcell:∀i,g.w.cell? ⟨b,i,none⟩=vs[i]? :=fun i=>by simp[World.cell?,hb]
 rcases hq with ⟨h0,h1,h3,d,o,c,h4,hd,hud,s0,s1,s2,s3⟩ | ⟨h0,A,h3,hA,huA,ht⟩
 .have F:yEb g.w b d o c:=⟨hlt,hd,by rintro rfl;omega,(hcell 0).trans h0,(hcell 1).trans h1,(hcell 3).trans h3,(hcell 4).trans h4,fun i=>by simp[World.frozen?,hb],s0,s1,s2,s3⟩;refine (WPa b d o c s g.w hlen F).mono ?_;rintro e w' ⟨rfl,rfl | ⟨C,fz,rfl⟩⟩
  .exact ⟨rfl,_,rfl,RpG.ran hb hn hu hw F⟩
  exact ⟨rfl,_,rfl,(RpG.ran hb hn hu hw F).tail C _ fz⟩
 refine (WOa b A s g.w hlen ⟨hlt,hA,(hcell 0).trans h0,(hcell 3).trans h3,ht⟩).mono ?_;rintro e w' ⟨rfl,rfl | ⟨C,fz,rfl⟩⟩
 .exact ⟨rfl,g,rfl,RpG.refl hb hn hu hw (.inr ⟨h0,A,h3,hA,huA,ht⟩)⟩
 exact ⟨rfl,_,rfl,(RpG.refl hb hn hu hw (.inr ⟨h0,A,h3,hA,huA,ht⟩)).tail C _ fz⟩
theorem yua(O:Nat)(s:Str)(r:Str)(hr:zLa s=some r):RunS prog 97 [.ptr O 0,.s s] [(O,.opq 0 5 RpQ)] (.s r) [(O,.opq 0 5 RpQ)] O []:=by
 unfold zLa at hr;split at hr
 case isFalse=>cases hr
 rename_i hlen;cases hr;refine ⟨⟨_,_,⟨func97,rfl,by kernel_rfl⟩⟩,by simp[Sto.okS,AO.okS],by simp[Sto.okS,AO.okS],fun g vs hw hg ho ha=>?_⟩;obtain ⟨hsz,hrel⟩:=ha;obtain ⟨vl⟩:=vs
 match vl,hsz with
 | [x,y],_=>
  have hx:=hrel 0 _ rfl;have hy:y=.string (strB s):=zKa (hrel 1 _ rfl);subst hy;have hO:=ho.obj O _ (show Sto.get [(O,AO.opq 0 5 RpQ)] O=some (.opq 0 5 RpQ) by simp[Sto.get]);have hget:∀o ob,Sto.get [(O,AO.opq 0 5 RpQ)] o=some ob->o=O/\ob=.opq 0 5 RpQ:=fun o ob h=>by
   rw[Sto.get_cons]at h;split at h
   .rename_i e;exact ⟨e.symm,(Option.some.inj h).symm⟩
   cases h
  cases hO with
  | @opq t t1 n Q b vs' hl hb hn hu hq=>
   have hx' :x=.pointer (some ⟨b,0,none⟩):=by
    cases hx with
    | ptr hl2=>rw[hl]at hl2;cases hl2;rfl
   subst hx';refine callsIn_wide.2 ((rp_step (strB s) (by rw[zta];exact hlen) hb hn hu hw (hq _ _ ⟨jAm _,fun _ _=>jAm _,fun _ _ _ _=>rfl⟩)).mono ?_);rintro e w' ⟨rfl,g',rfl,G'⟩;obtain ⟨hl',hold,hwf,hu',vs2,hb2,hn2,hq2⟩:=G';have hsb:SB g [(O,AO.opq 0 5 RpQ)] b:=⟨O,.opq 0 5 RpQ,by simp[Sto.get],by rw[hl];rfl⟩;refine ⟨g',_,rfl,fun k _=>by rw[hl'],hold.mono fun k _ e=>e▸hsb,hwf,rfl,?_,?_,?_,?_⟩
   .have:(strB s).data.toList.map kea=s.map kea:=by simp[strB]
    rw[this];exact .pv (.b rfl)
   .intro o ob h;obtain ⟨rfl,rfl⟩:=hget o ob h;exact .opq (by rw[hl'];exact hl) hb2 hn2 hu' fun w' u' hx' =>hq2.mono hx'
   .intro o o' ob ob' b' h1 h2 _ _;rw[(hget o ob h1).1,(hget o' ob' h2).1]
   intro o ob b' h1 h2;obtain ⟨rfl,rfl⟩:=hget o ob h1;rw[hl',hl]at h2;cases h2;exact .inr hsb
section
open Go.Shelf Go.RowKit Go.Lib Go.Proofs.Tryz
theorem rs_bytes(A:Nat)(s:ByteArray)(w:World)(hlen:s.size<=1099511627776)(T:yha w A):
 Calls prog 310 #[.pointer (some ⟨A,0,none⟩),.string s] w fun e w' =>e=.returned (.string ⟨(s.data.toList.flatMap escB).toArray⟩)/\Below w.heap.size w w' :=by
 by_cases h:s.size < 16
 .exact rs_short A s w h T
 exact rs_long A s w (by omega) hlen T
abbrev bS(A:Nat):Value:=.iface 278 (.pointer (some ⟨A,0,none⟩))
structure RsW (b:Nat) (w w' :World):Prop where
 os:w'.os=w.os
 tape:w'.tape=w.tape
 output:w'.output=w.output
 size:w.heap.size<=w'.heap.size
 block:∀k,k < w.heap.size->k≠b->w'.heap[k]? =w.heap[k]?
 own:∀vs t fz,w.heap[b]? =some (.cells vs t fz)->∃vs',w'.heap[b]? =some (.cells vs' t fz)/\vs'.size=vs.size
theorem RsW.refl(b:Nat)(w:World):RsW b w w:=⟨rfl,rfl,rfl,jAm _,fun _ _ _=>rfl,fun vs t fz h=>⟨vs,h,rfl⟩⟩
theorem RsW.trans{b:Nat}{w w1 w2:World}(h:RsW b w w1)(k:RsW b w1 w2):RsW b w w2:=
 ⟨k.os.trans h.os,k.tape.trans h.tape,k.output.trans h.output,jAt h.size k.size,fun n hn hb=>(k.block n (jBp hn h.size) hb).trans (h.block n hn hb),fun vs t fz hv=>by
  obtain ⟨v1,h1,h2⟩:=h.own vs t fz hv;obtain ⟨v2,h3,h4⟩:=k.own v1 t fz h1;exact ⟨v2,h3,h4.trans h2⟩⟩
theorem RsW.below{b:Nat}{w w' :World}(hb:b < w.heap.size)(h:Below w.heap.size w w'):RsW b w w' :=
 ⟨h.os,h.tape,h.output,h.size,fun k hk _=>h.block k hk,fun vs t fz hv=>⟨vs,(h.block b hb).trans hv,rfl⟩⟩
theorem RsW.set(b i:Nat)(v:Value)(w:World):RsW b w (w.setCell ⟨b,i,none⟩ v):=
 ⟨rfl,rfl,rfl,jBm (by simp),fun k _ hk=>Below.heap_setCell _ _ _ _ hk,fun vs t fz hv=>Qha hv b i v⟩
theorem RsW.drew(b:Nat)(w:World):RsW b w w.drew:=⟨rfl,rfl,rfl,jAm _,fun _ _ _=>rfl,fun vs t fz h=>⟨vs,h,rfl⟩⟩
theorem RsW.cell{b:Nat}{w w' :World}(h:RsW b w w'){k:Nat}(hk:k < w.heap.size)(hb:k≠b)(i:Nat):w'.cell? ⟨k,i,none⟩=w.cell? ⟨k,i,none⟩:=qHa (h.block k hk hb) i
theorem lt_cell{w:World}{b i:Nat}{v:Value}(h:w.cell? ⟨b,i,none⟩=some v):b < w.heap.size:=by
 simp only[World.cell?]at h;refine Classical.byContradiction fun hn=>?_
 rw[Array.getElem?_eq_none (by omega)]at h;cases h
theorem yha.keep{w w' :World}{A b:Nat}{x:Int}(T:yha w A)(h0:w.cell? ⟨b,0,none⟩=some (.int .u32 x))(h:RsW b w w'):yha w' A:=by
 have ne:∀{k:Nat} {v:Value},w.cell? ⟨k,0,none⟩=some v->v≠ .int .u32 x->k≠b:=fun {k v} hv hne e=>by
  subst e;rw[h0]at hv;exact hne (Option.some.inj hv).symm
 obtain ⟨hA,ht,⟨B,c,q0,q1,q2⟩,⟨B',c',s0,s1,s2⟩,⟨D,c'',l0,l1,l2⟩⟩:=T;have hc:∀{k i:Nat} {u v:Value},w.cell? ⟨k,0,none⟩=some u->u≠ .int .u32 x->w.cell? ⟨k,i,none⟩=some v->w'.cell? ⟨k,i,none⟩=some v:=fun hu hne hv=>(h.cell (lt_cell hv) (ne hu hne) _).trans hv
 have hA0:=ht 0 (by decide) (by decide) (by decide);have nA:(Value.slice none 0 0)≠ .int .u32 x:=fun e=>by cases e
 have nB:(Value.int .u8 92)≠ .int .u32 x:=fun e=>by cases e
 have nD:(Value.string ⟨#[34]⟩)≠ .int .u32 x:=fun e=>by cases e
 exact ⟨jBp hA h.size,fun k h1 h2 h3=>hc hA0 nA (ht k h1 h2 h3),⟨B,c,hc hA0 nA q0,hc q1 nB q1,hc q1 nB q2⟩,⟨B',c',hc hA0 nA s0,hc s1 nB s1,hc s1 nB s2⟩,⟨D,c'',hc hA0 nA l0,hc l1 nD l1,hc l1 nD l2⟩⟩
structure zlb (w:World) (b d o c:Nat):Prop where
 hb:b < w.heap.size
 hd:d < w.heap.size
 ne:b≠d
 c0:w.cell? ⟨b,0,none⟩=some (.int .u32 0)
 c1:w.cell? ⟨b,1,none⟩=some (.int .i32 0)
 c3:w.cell? ⟨b,3,none⟩=some .nilIface
 c4:w.cell? ⟨b,4,none⟩=some (.slice (some ⟨d,o,none⟩) 4 c)
 fz:∀i,w.frozen? ⟨b,i,none⟩=false
 s0:w.cell? ⟨d,o,none⟩=some (.string ⟨#[92]⟩)
 s1:w.cell? ⟨d,o+1,none⟩=some (.string ⟨#[92,92]⟩)
 s2:w.cell? ⟨d,o+2,none⟩=some (.string ⟨#[34]⟩)
 s3:w.cell? ⟨d,o+3,none⟩=some (.string ⟨#[92,34]⟩)
theorem Y8a{w w1:World}{b:Nat}(h:Below w.heap.size w w1)(hb:b < w.heap.size)(i:Nat):w1.cell? ⟨b,i,none⟩=w.cell? ⟨b,i,none⟩:=h.cell (p:=⟨b,i,none⟩) hb
theorem kgb{w w1:World}{b:Nat}(h:Below w.heap.size w w1)(hb:b < w.heap.size)(i:Nat):w1.frozen? ⟨b,i,none⟩=w.frozen? ⟨b,i,none⟩:=h.frozen (p:=⟨b,i,none⟩) hb
theorem rs_once(b d o c:Nat)(x:Int)(w:World)(hb:b < w.heap.size)(hd:d < w.heap.size)(c0:w.cell? ⟨b,0,none⟩=some (.int .u32 x))(c3:w.cell? ⟨b,3,none⟩=some .nilIface)(c4:w.cell? ⟨b,4,none⟩=some (.slice (some ⟨d,o,none⟩) 4 c))(fz:∀i,w.frozen? ⟨b,i,none⟩=false)
 (s0:w.cell? ⟨d,o,none⟩=some (.string ⟨#[92]⟩)) (s1:w.cell? ⟨d,o+1,none⟩=some (.string ⟨#[92,92]⟩)) (s2:w.cell? ⟨d,o+2,none⟩=some (.string ⟨#[34]⟩)) (s3:w.cell? ⟨d,o+3,none⟩=some (.string ⟨#[92,34]⟩)):
 Calls prog 143 #[.pointer (some ⟨b,0,none⟩)] w fun e w' =>e=.returned (.tuple #[])/\∃A,yha w' A/\w'.cell? ⟨b,3,none⟩=some (bS A)/\w'.cell? ⟨b,0,none⟩=w.cell? ⟨b,0,none⟩/\w'.cell? ⟨b,1,none⟩=w.cell? ⟨b,1,none⟩/\(∀i,w'.frozen? ⟨b,i,none⟩=false)/\RsW b w w' :=by
 have hbuild:=rs_build Wha b d o c w c4 hd s0 s1 s2 s3;have HB:Aside _:=hbuild;have H0:Aside _:=c0;have H3:Aside _:=c3;have H4:Aside _:=c4;have HF:Aside (∀i,w.frozen? ⟨b,i,none⟩=false):=fz;clear hbuild c0 c3 c4 fz s0 s1 s2 s3;go_enter func143,Tryz.ntmps143
 go_wp2_with (go_at_call 177;refine Calls.mono HB.out ?_;rintro e w1 ⟨A,rfl,hT,hbw⟩;have HT:Aside (yha w1 A):=hT;have HW:Aside (Below w.heap.size w w1):=hbw;clear hT hbw HB;have a3:w1.cell? ⟨b,3,none⟩=some .nilIface:=(Y8a HW.out hb _).trans H3.out;have z3:w1.frozen? ⟨b,3,none⟩=false:=(kgb HW.out hb _).trans (HF.out 3);have a4:(w1.setCell ⟨b,3,none⟩ (bS A)).cell? ⟨b,4,none⟩=some (.slice (some ⟨d,o,none⟩) 4 c):=(World.cell?_setCell_other _ _ _ _ (kaa (by decide))).trans ((Y8a HW.out hb _).trans H4.out);have z4:(w1.setCell ⟨b,3,none⟩ (bS A)).frozen? ⟨b,4,none⟩=false:=by (have h:w1.frozen? ⟨b,4,none⟩=false:=(kgb HW.out hb _).trans (HF.out 4);simpa using h))
 go_end0
 have W1:RsW b w1 ((w1.setCell ⟨b,3,none⟩ (bS A)).setCell ⟨b,4,none⟩ (.slice none 0 0)):=(RsW.set b 3 _ _).trans (RsW.set b 4 _ _);refine ⟨rfl,A,HT.out.keep ((Y8a HW.out hb _).trans H0.out) W1,?_,?_,?_,fun i=>?_,(RsW.below hb HW.out).trans W1⟩
 .rw[World.cell?_setCell_other _ _ _ _ (kaa (by decide))];exact World.cell?_setCell_same w1 _ _ a3
 .rw[World.cell?_setCell_other _ _ _ _ (kaa (by decide)),World.cell?_setCell_other _ _ _ _ (kaa (by decide))];exact Y8a HW.out hb _
 .rw[World.cell?_setCell_other _ _ _ _ (kaa (by decide)),World.cell?_setCell_other _ _ _ _ (kaa (by decide))];exact Y8a HW.out hb _
 have h:w1.frozen? ⟨b,i,none⟩=false:=(kgb HW.out hb _).trans (HF.out i);simpa using h
theorem zlb.lock{w:World}{b d o c:Nat}(F:zlb w b d o c):Calls prog 143 #[.pointer (some ⟨b,0,none⟩)] (w.setCell ⟨b,1,none⟩ (.int .i32 1)) fun e w' =>e=.returned (.tuple #[])/\∃A,yha w' A/\w'.cell? ⟨b,3,none⟩=some (bS A)/\w'.cell? ⟨b,0,none⟩=some (.int .u32 0)/\w'.cell? ⟨b,1,none⟩=some (.int .i32 1)/\(∀i,w'.frozen? ⟨b,i,none⟩=false)/\RsW b w w' :=by
 have hw1:(w.setCell ⟨b,1,none⟩ (.int .i32 1)).heap.size=w.heap.size:=by simp
 have h0:(w.setCell ⟨b,1,none⟩ (.int .i32 1)).cell? ⟨b,0,none⟩=some (.int .u32 0):=(World.cell?_setCell_other _ _ _ _ (kaa (by decide))).trans F.c0;have h1:(w.setCell ⟨b,1,none⟩ (.int .i32 1)).cell? ⟨b,1,none⟩=some (.int .i32 1):=World.cell?_setCell_same w _ _ F.c1;refine (rs_once b d o c 0 (w.setCell ⟨b,1,none⟩ (.int .i32 1)) (by rw[hw1];exact F.hb) (by rw[hw1];exact F.hd) h0 ((World.cell?_setCell_other _ _ _ _ (kaa (by decide))).trans F.c3) ((World.cell?_setCell_other _ _ _ _ (kaa (by decide))).trans F.c4) (fun i=>by have:=F.fz i;simp[this])
  ((World.cell?_setCell_other _ _ _ _ (KJa F.ne)).trans F.s0) ((World.cell?_setCell_other _ _ _ _ (KJa F.ne)).trans F.s1) ((World.cell?_setCell_other _ _ _ _ (KJa F.ne)).trans F.s2) ((World.cell?_setCell_other _ _ _ _ (KJa F.ne)).trans F.s3)).mono ?_
 rintro e w' ⟨rfl,A,hT,h3,e0,e1,hz,hW⟩;exact ⟨rfl,A,hT,h3,e0.trans h0,e1.trans h1,hz,(RsW.set b 1 _ w).trans hW⟩
theorem rs_slow(b d o c:Nat)(w:World)(F:zlb w b d o c):
 Calls prog 176 #[.pointer (some ⟨b,0,none⟩),.func (.func 143) #[.pointer (some ⟨b,0,none⟩)] #[]] w fun e w' =>e=.returned (.tuple #[])/\∃A,yha w' A/\w'.cell? ⟨b,3,none⟩=some (bS A)/\RsW b w w' :=by
 have ho:Aside _:=F.lock;have hl:(w.setCell ⟨b,1,none⟩ (.int .i32 1)).cell? ⟨b,0,none⟩=some (.int .u32 0):=(World.cell?_setCell_other _ ⟨b,1,none⟩ ⟨b,0,none⟩ _ (by simp)).trans F.c0;have hnot:∀(x:Bool) (w:World),(Op.unary .not (.bool x)).run prog w=.ok (.bool (!x)) w:=fun _ _=>rfl
 have h1:=F.c1;have f1:=F.fz 1;clear F;go_enter_defers func176,Tryz.ntmps176
 go_wp2_with (first | (go_at_call 203;refine (WAa ⟨b,1,none⟩ _ (by go_simp) (by go_simp)).mono ?_;rintro e w' ⟨rfl,rfl⟩) | (go_at_call 175;refine (Yfa ⟨b,0,none⟩ _ hl).mono ?_;rintro e w' ⟨rfl,rfl⟩) | (go_at_call 143;refine Calls.mono ho.out ?_;rintro e W1 ⟨rfl,A,hT,h3,e0,e1,hz,hW⟩;have HT:Aside (yha W1 A):=hT;have HW:Aside (RsW b w W1):=hW;clear hT hW ho))
 go_wp2
 refine leaves_cons (f:=205) (args:= #[.pointer (some ⟨b,0,none⟩),.bool true]) (by simp) (by simp[go_sem])<|(Zqa ⟨b,0,none⟩ (.int .u32 0) .returning _ e0 (hz 0)).mono ?_;rintro e u' w'' ⟨rfl,rfl,rfl⟩;refine leaves_cons (f:=204) (args:= #[.pointer (some ⟨b,1,none⟩)]) (by simp[settle]) (by simp[go_sem])<|(jva ⟨b,1,none⟩ _ _ ?_ ?_).mono ?_
 .rw[World.cell?_setCell_other _ _ _ _ (kaa (by decide)),World.cell?_drew];exact e1
 .have:=hz 1;simp at this ⊢;exact this
 rintro e u' w'' ⟨rfl,rfl,rfl⟩;have hW2:RsW b W1 ((W1.drew.setCell ⟨b,0,none⟩ (.int .u32 1)).setCell ⟨b,1,none⟩ (.int .i32 0)):=(RsW.drew b W1).trans ((RsW.set b 0 _ _).trans (RsW.set b 1 _ _));have hT2:=HT.out.keep e0 hW2;have h32:((W1.drew.setCell ⟨b,0,none⟩ (.int .u32 1)).setCell ⟨b,1,none⟩ (.int .i32 0)).cell? ⟨b,3,none⟩=some (bS A):=by
  rw[World.cell?_setCell_other _ _ _ _ (kaa (by decide)),World.cell?_setCell_other _ _ _ _ (kaa (by decide)),World.cell?_drew];exact h3
 have hall:=And.intro hT2 (And.intro h32 (HW.out.trans hW2));generalize (W1.drew.setCell ⟨b,0,none⟩ (.int .u32 1)).setCell ⟨b,1,none⟩ (.int .i32 0)=W3 at hall;simp[Leaves,settle,results,Tryz.results176];exact ⟨A,hall⟩
theorem vVb(b d o c:Nat)(w:World)(F:zlb w b d o c):
 Calls prog 142 #[.pointer (some ⟨b,0,none⟩),.func (.func 143) #[.pointer (some ⟨b,0,none⟩)] #[]] w fun e w' =>e=.returned (.tuple #[])/\∃A,yha w' A/\w'.cell? ⟨b,3,none⟩=some (bS A)/\RsW b w w' :=by
 have hnot:∀(x:Bool) (w:World),(Op.unary .not (.bool x)).run prog w=.ok (.bool (!x)) w:=fun _ _=>rfl
 have hs:Aside _:=rs_slow b d o c w F;have h0:=F.c0;clear F;go_enter func142,Tryz.ntmps142
 go_wp2_with (first | (go_at_call 175;refine (Yfa ⟨b,0,none⟩ _ h0).mono ?_;rintro e w' ⟨rfl,rfl⟩) | (go_at_call 176;refine Calls.mono hs.out ?_;rintro e w' ⟨rfl,hw⟩;have HW:Aside _:=hw;clear hw hs))
 go_end0
 exact ⟨rfl,HW.out⟩
theorem ZDb (n : Nat) (a : Addr) (w : World) : (method (n + 1) 278 (.pointer (some a)) "Replace").run prog w = .ok (310, .pointer (some a)) w := by kernel_rfl
theorem WQa(b d o c:Nat)(s:ByteArray)(w:World)(hlen:s.size<=1099511627776)(F:zlb w b d o c):
 Calls prog 97 #[.pointer (some ⟨b,0,none⟩),.string s] w fun e w' =>e=.returned (.string ⟨(s.data.toList.flatMap escB).toArray⟩)/\RsW b w w' :=by
 have hmf:∀(fn:Fn) (first cap:Array Value) (w:World),(Instr.makeFunc fn first cap).run prog w=.ok (.func fn first cap) w:=fun _ _ _ _=>rfl
 have hme:=ZDb;have hd:Aside _:=vVb b d o c w F;have hb:=F.hb;clear F;go_enter func97,Tryz.ntmps97
 go_wp2_with (first | (go_at_call 142;refine Calls.mono hd.out ?_;rintro e W1 ⟨rfl,A,hT,h3,hW⟩;have HT:Aside (yha W1 A):=hT;have HW:Aside (RsW b w W1):=hW;clear hT hW hd) | (go_at_call 310;refine (rs_bytes _ s _ hlen HT.out).mono ?_;rintro e w' ⟨rfl,hw'⟩;have HE:Aside _:=hw';clear hw'))
 go_ret
 exact ⟨rfl,HW.out.trans (RsW.below (jBp hb HW.out.size) HE.out)⟩
end
section
open Go.Shelf Go.RowKit Go.Lib Go.Proofs.Tryz
def RsQ(w:World)(u:Nat->Nat)(vs:Array Value):Prop:=
 vs[0]? =some (.int .u32 0)/\vs[1]? =some (.int .i32 0)/\vs[3]? =some .nilIface/\∃d o c,vs[4]? =some (.slice (some ⟨d,o,none⟩) 4 c)/\d < w.heap.size/\o+4<=u d/\
  w.cell? ⟨d,o,none⟩=some (.string ⟨#[92]⟩)/\w.cell? ⟨d,o+1,none⟩=some (.string ⟨#[92,92]⟩)/\w.cell? ⟨d,o+2,none⟩=some (.string ⟨#[34]⟩)/\w.cell? ⟨d,o+3,none⟩=some (.string ⟨#[92,34]⟩)
def RsU(_:World)(_:Nat->Nat)(_:Array Value):Prop:=True
theorem RsQ.mono{w w' :World}{u u' :Nat->Nat}{vs:Array Value}(hx:Ext0 w u w' u')(h:RsQ w u vs):RsQ w' u' vs:=by
 obtain ⟨h0,h1,h3,d,o,c,h4,hd,hu,s0,s1,s2,s3⟩:=h;refine ⟨h0,h1,h3,d,o,c,h4,jBp hd hx.size,jAt hu (hx.pub d hd),?_,?_,?_,?_⟩
 .rw[hx.cell d _ hd (by omega)];exact s0
 .rw[hx.cell d _ hd (by omega)];exact s1
 .rw[hx.cell d _ hd (by omega)];exact s2
 rw[hx.cell d _ hd (by omega)];exact s3
theorem yia(O:Nat)(s:Str)(r:Str)(hr:koa s=some r):RunS prog 97 [.ptr O 0,.s s] [(O,.opq 0 5 RsQ)] (.s r) [(O,.opq 0 5 RsU)] O []:=by
 unfold koa at hr;split at hr
 case isFalse=>cases hr
 rename_i hlen;cases hr;refine ⟨⟨_,_,⟨func97,rfl,by kernel_rfl⟩⟩,by simp[Sto.okS,AO.okS],by simp[Sto.okS,AO.okS],fun g vs hw hg ho ha=>?_⟩;obtain ⟨hsz,hrel⟩:=ha;obtain ⟨vl⟩:=vs
 match vl,hsz with
 | [x,y],_=>
  have hx:=hrel 0 _ rfl;have hy:y=.string (strB s):=zKa (hrel 1 _ rfl);subst hy;have hO:=ho.obj O _ (show Sto.get [(O,AO.opq 0 5 RsQ)] O=some (.opq 0 5 RsQ) by simp[Sto.get]);have hget:∀(Q:World->(Nat->Nat)->Array Value->Prop) o ob,Sto.get [(O,AO.opq 0 5 Q)] o=some ob->o=O/\ob=.opq 0 5 Q:=fun Q o ob h=>by
   rw[Sto.get_cons]at h;split at h
   .rename_i e;exact ⟨e.symm,(Option.some.inj h).symm⟩
   cases h
  cases hO with
  | @opq t t1 n Q b vs' hl hb hn hu hq=>
   have hx' :x=.pointer (some ⟨b,0,none⟩):=by
    cases hx with
    | ptr hl2=>rw[hl]at hl2;cases hl2;rfl
   subst hx';have hcell:∀i,g.w.cell? ⟨b,i,none⟩=vs'[i]? :=fun i=>by simp[World.cell?,hb]
   obtain ⟨h0,h1,h3,d,o,c,h4,hd,hud,s0,s1,s2,s3⟩:=hq _ _ ⟨jAm _,fun _ _=>jAm _,fun _ _ _ _=>rfl⟩;have F:zlb g.w b d o c:=⟨zVa hb,hd,by rintro rfl;omega,(hcell 0).trans h0,(hcell 1).trans h1,(hcell 3).trans h3,(hcell 4).trans h4,fun i=>by simp[World.frozen?,hb],s0,s1,s2,s3⟩;refine callsIn_wide.2 ((WQa b d o c (strB s) g.w (by rw[zta];exact hlen) F).mono ?_);rintro e w' ⟨rfl,hW⟩;have hsb:SB g [(O,AO.opq 0 5 RsQ)] b:=⟨O,.opq 0 5 RsQ,by simp[Sto.get],by rw[hl];rfl⟩;obtain ⟨vs2,hb2,hn2⟩:=hW.own _ _ _ hb;refine ⟨⟨w',g.u,g.loc⟩,_,rfl,fun k _=>rfl,⟨hW.os,hW.tape,hW.output,⟨hW.size,fun k _=>jAm _,fun k i hk hi=>?_,fun r hr=>?_⟩,fun k hk hne=>⟨hW.block k hk (fun e=>hne (e▸hsb)),rfl⟩⟩,fun k hk=>hw k (jAt hW.size hk),rfl,?_,?_,?_,?_⟩
   .have hne:k≠b:=by rintro rfl;omega
    exact hW.cell hk hne i
   .have hne:r≠b:=by rintro rfl;rw[hb]at hr;cases hr
    exact (hW.block r (zVa hr) hne).trans hr
   .have:(strB s).data.toList.flatMap escB=s.flatMap escB:=by simp[strB]
    rw[this];exact .pv (.b rfl)
   .intro o ob h;obtain ⟨rfl,rfl⟩:=hget RsU o ob h;exact .opq hl hb2 (hn2.trans hn) hu fun w' u' hx' =>trivial
   .intro o o' ob ob' b' h1 h2 _ _;rw[(hget RsU o ob h1).1,(hget RsU o' ob' h2).1]
   intro o ob b' h1 h2;obtain ⟨rfl,rfl⟩:=hget RsU o ob h1;have h2:AO.own (.opq 0 5 RsU) (g.loc o) b' :=h2;rw[hl]at h2;cases h2;exact .inr hsb
theorem qOb(d o c:Nat)(w:World)(s0:w.cell? ⟨d,o,none⟩=some (.string ⟨#[92]⟩))(s1:w.cell? ⟨d,o+1,none⟩=some (.string ⟨#[92,92]⟩))(s2:w.cell? ⟨d,o+2,none⟩=some (.string ⟨#[34]⟩))(s3:w.cell? ⟨d,o+3,none⟩=some (.string ⟨#[92,34]⟩)):
 Calls prog 95 #[.slice (some ⟨d,o,none⟩) 4 c] w fun e w' =>∃(cap:Nat) (z:Array Value),e=.returned (.pointer (some ⟨w.heap.size+1,0,none⟩))/\
  w' =((w.alloc (.cells (#[Value.string ⟨#[92]⟩,.string ⟨#[92,92]⟩,.string ⟨#[34]⟩,.string ⟨#[92,34]⟩]++z) 9)).alloc (.cells #[.int .u32 0,.int .i32 0,.int .u32 0,.nilIface,.slice (some ⟨w.heap.size,0,none⟩) 4 cap] 209)).drew:=by
 go_enter func95,Tryz.ntmps95
 go_wp2
 go_ret
 exact ⟨_,_,rfl,rfl⟩
theorem vWb{g:G}{v:Value}(h:Rel g (.l cS [[92],[92,92],[34],[92,34]]) v):∃d o c,v=.slice (some ⟨d,o,none⟩) 4 c/\g.w.cell? ⟨d,o,none⟩=some (.string ⟨#[92]⟩)/\g.w.cell? ⟨d,o+1,none⟩=some (.string ⟨#[92,92]⟩)/\g.w.cell? ⟨d,o+2,none⟩=some (.string ⟨#[34]⟩)/\g.w.cell? ⟨d,o+3,none⟩=some (.string ⟨#[92,34]⟩):=by
 cases h with
 | pv h=>
  unfold pL at h;generalize hE:List.map cS [[92],[92,92],[34],[92,34]]=elems at h;cases h with
  | @sl _ _ a cap size b off val hn h0 hc hz ha hu hcell h=>
   have hne:elems≠ []:=by rw[<-hE];simp
   have hs1:size=1:=by
    have:=hz (cS [92]) (by rw[<-hE];simp);simpa[cS]using this.symm
   subst hs1;have hlen:elems.length=4:=by rw[<-hE];rfl
   have key:∀(i:Nat) (s:Str),elems[i]? =some (cS s)->g.w.cell? ⟨b,off+i,none⟩=some (.string (strB s)):=fun i s hi=>by
    have hil:=(jAd.1 hi).1;rw[hcell i (by omega)];have:=h i 0 _ (.b (.string (strB s))) hi rfl;simp only[jCz,jBy]at this;rw[zKa (g:=g) (.pv this)]
   refine ⟨b,off,cap,by rw[ha hne,hlen],key 0 [92] (by rw[<-hE];rfl),key 1 [92,92] (by rw[<-hE];rfl),key 2 [34] (by rw[<-hE];rfl),key 3 [92,34] (by rw[<-hE];rfl)⟩
theorem Zra(k:Nat):RunS prog 95 [.l cS [[92],[92,92],[34],[92,34]]] [] (.ptr k 0) [(k,.opq 0 5 RsQ)] k [k]:=by
 refine ⟨⟨_,_,⟨func95,rfl,by kernel_rfl⟩⟩,by simp[Sto.okS],by simp[Sto.okS,AO.okS],fun g vs hw hg ho ha=>?_⟩;obtain ⟨hsz,hrel⟩:=ha;obtain ⟨vl⟩:=vs
 match vl,hsz with
 | [x],_=>
  obtain ⟨d,o,c,hx,s0,s1,s2,s3⟩:=vWb (hrel 0 _ rfl);have hx:x=.slice (some ⟨d,o,none⟩) 4 c:=hx;subst hx;refine callsIn_wide.2 ((qOb d o c g.w s0 s1 s2 s3).mono ?_);rintro e w' ⟨cap,z,rfl,rfl⟩;generalize hC: #[Value.string ⟨#[92]⟩,.string ⟨#[92,92]⟩,.string ⟨#[34]⟩,.string ⟨#[92,34]⟩]++z=C;generalize hV: #[Value.int .u32 0,.int .i32 0,.int .u32 0,.nilIface,.slice (some ⟨g.w.heap.size,0,none⟩) 4 cap]=V;have hz:∀q,q < g.w.heap.size->(((g.w.alloc (.cells C 9)).alloc (.cells V 209)).drew).heap[q]? =g.w.heap[q]? :=fun q hq=>by
   show (World.alloc _ _).heap[q]? =_;rw[Below.heap_alloc _ _ _ (by simp;omega),Below.heap_alloc _ _ _ hq]
  have h1:(((g.w.alloc (.cells C 9)).alloc (.cells V 209)).drew).heap[g.w.heap.size]? =some (.cells C 9 (0,0)):=by
   show (World.alloc _ _).heap[_]? =_;rw[Below.heap_alloc _ _ _ (by simp)];exact heap_alloc_new g.w _
  have h2:(((g.w.alloc (.cells C 9)).alloc (.cells V 209)).drew).heap[g.w.heap.size+1]? =some (.cells V 209 (0,0)):=by
   show (World.alloc _ _).heap[_]? =_;have:=heap_alloc_new (g.w.alloc (.cells C 9)) (.cells V 209);simpa using this
  have hsize:(((g.w.alloc (.cells C 9)).alloc (.cells V 209)).drew).heap.size=g.w.heap.size+2:=by simp
  generalize hW:((g.w.alloc (.cells C 9)).alloc (.cells V 209)).drew=W at hz h1 h2 hsize;have hos:W.os=g.w.os/\W.tape=g.w.tape/\W.output=g.w.output:=by subst hW;exact ⟨rfl,rfl,rfl⟩
  have hcell:∀i,W.cell? ⟨g.w.heap.size,i,none⟩=C[i]? :=fun i=>by simp[World.cell?,h1]
  have hget:∀o ob,Sto.get [(k,AO.opq 0 5 RsQ)] o=some ob->o=k/\ob=.opq 0 5 RsQ:=fun o ob h=>by
   rw[Sto.get_cons]at h;split at h
   .rename_i e;exact ⟨e.symm,(Option.some.inj h).symm⟩
   cases h
  have hq:RsQ W (fun q=>if q=g.w.heap.size then 4 else if q=g.w.heap.size+1 then 0 else g.u q) V:=by
   subst hV hC;refine ⟨rfl,rfl,rfl,g.w.heap.size,0,cap,rfl,by omega,jBm (if_pos rfl).symm,?_,?_,?_,?_⟩;all_goals (rw[hcell,jAw (by simp)];rfl)
  have huk:∀q,q < g.w.heap.size->(if q=g.w.heap.size then 4 else if q=g.w.heap.size+1 then 0 else g.u q)=g.u q:=fun q hq=>by rw[if_neg (by omega),if_neg (by omega)]
  refine ⟨⟨W,fun q=>if q=g.w.heap.size then 4 else if q=g.w.heap.size+1 then 0 else g.u q,fun q=>if q=k then .blk (g.w.heap.size+1) else g.loc q⟩,_,rfl,fun q hq=>if_neg (by simpa using hq),
   ⟨hos.1,hos.2.1,hos.2.2,⟨by show g.w.heap.size<=W.heap.size;omega,fun q hq=>jBm (huk q hq).symm,fun q i hq _=>by simp only[World.cell?];rw[hz q hq],fun r hr=>(hz r (zVa hr)).trans hr⟩,fun q hq _=>⟨hz q hq,huk q hq⟩⟩,fun q hq=>?_,rfl,.ptr (if_pos rfl),?_,?_,?_⟩
  .have hq:W.heap.size<=q:=hq;show (if q=g.w.heap.size then 4 else if q=g.w.heap.size+1 then 0 else g.u q)=0;rw[if_neg (by omega),if_neg (by omega)];exact hw q (by omega)
  .intro o ob h;obtain ⟨rfl,rfl⟩:=hget o ob h;refine .opq (if_pos rfl) h2 (by subst hV;rfl) ?_ fun w' u' hx' =>hq.mono hx'
   show (if g.w.heap.size+1=g.w.heap.size then 4 else if g.w.heap.size+1=g.w.heap.size+1 then 0 else g.u _)=0;rw[if_neg (by omega),if_pos rfl]
  .intro o o' ob ob' b' h1 h2 _ _;rw[(hget o ob h1).1,(hget o' ob' h2).1]
  intro o ob b' h1 h2;obtain ⟨rfl,rfl⟩:=hget o ob h1;have h2:AO.own (.opq 0 5 RsQ) (if o=o then .blk (g.w.heap.size+1) else g.loc o) b' :=h2;rw[if_pos rfl]at h2;have h2:some (g.w.heap.size+1)=some b' :=h2;cases h2;exact .inl (by omega)
end
theorem KKa(a0:UInt8)(r:UInt8)(hr:wva a0=some r):Run prog 197 [.u8 a0] (.u8 r):=by
 unfold wva at hr;refine rfx (fn:=Tryz.f197) func197 fun g0 hg=>?_
 refine rn tk 8 rfl<|wq (ev_band (a:=a0) (b:=(15:UInt8)) rfl rfl) rfl rfl rfl ?_;obtain ⟨v1,h2,hr⟩:=zaa hr;refine ws tk h2 rfl rfl rfl rfl ?_;exact kx 4 hr
theorem WRa(a0:Str)(r:List Str)(hr:w2a a0=some r):Run prog 165 [.s a0] (.l cS r):=by
 unfold w2a at hr;refine rfx (fn:=Tryz.f165) func165 fun g0 hg=>?_
 refine rn tk 7 rfl<|wo (q6b (k:=7) (F:=cS) (l:=([([117,116,102,56,39,39]:Str)]:List Str)) 1007 rfl rfl rfl qya zoa rfl (fun _=>rfl) rfl rfl) rfl ?_;refine aq1 12 hr [0,3,9] [] (fun s1=>[(10,.i s1.1)]) (fun s1=>[(1007,.row 9 true 1 (List.map cS s1.2))]) (.exit 0) [3] [] (fun _=>[]) (fun b2=>[(1007,.row 9 true 1 (List.map cS b2))]) (fun s1 x3 hr=>?_) (fun b2 hr=>?_)
 .unfold y1a at hr;refine ax 6 11 hr (fun hr=>?_) fun hr=>?_
  .refine jq 2 hr [0,3,9,10] [] (fun _=>[]) (fun j5=>[(1007,.row 9 true 1 (List.map cS j5))]) (fun j5 hr=>?_) (fun j5 hr=>?_)
   .refine rn tk 13 rfl ?_;obtain ⟨v6,h7,hr⟩:=zaa hr;refine Vha tk h7 rfl rfl rfl rfl rfl ?_;refine jq 3 hr [0,3,9,10] [1007] (fun j8=>[(5,.s j8)]) (fun _=>[]) (fun j8 hr=>?_) (fun j8 hr=>?_)
    .refine rn tk 4 rfl ?_;obtain ⟨v9,h10,hr⟩:=zaa hr;refine ws tk h10 rfl rfl rfl rfl ?_;refine clx 0 hr (vNa _) fun v11 _ hr=>?_
     refine ax 3 22 hr (fun hr=>?_) fun hr=>?_
     .obtain ⟨v14,h15,hr⟩:=zaa hr;obtain ⟨v16,h17,hr⟩:=zaa hr;obtain ⟨v18,h19,hr⟩:=zaa hr;refine dq 0 8 [] [(2,.u8 v14),(3,.u8 ((bShr v14 4))),(4,.u8 v16),(7,.u8 v18)] .nil (.cons rfl rfl (zGa (Kaa rfl rfl zoa h15)) (.cons rfl rfl (zGa (ev_bshr (a:=v14) rfl rfl (by decide))) (.cons rfl rfl (zua (KKa ((bShr v14 4)) v16 h17) rfl) (.cons rfl rfl (zGa (Kaa rfl rfl zoa h19)) .nil)))) ?_ mixed;refine clx 0 hr (KKa _) fun v20 _ hr=>?_
      refine wz cU ([(37:UInt8),v16,v20]:List UInt8) tk rfl rfl (fun _=>rfl) rfl rfl rfl<|wb tk rfl rfl rfl ?_;exact jx 2 hr
     exact jx 1 hr
    refine rn tk 3 rfl<|wnh tk rfl rfl rfl rfl<|rn tk 8 rfl ?_;obtain ⟨v22,h23,hr⟩:=zaa hr;refine wih tk h23 rfl rfl rfl rfl rfl ?_;obtain ⟨v24,h25,hr⟩:=zaa hr;refine wq (v1a (F:=cS) (l:=s1.2) (n:=((w64 ((s1.2.length:Int) - 1)))) (j:=0) rfl rfl zoa rfl h25 rfl) rfl rfl rfl ?_;refine ax 7 45 hr (fun hr=>?_) fun hr=>?_
    .refine rn tk 3 rfl ?_;obtain ⟨v27,h28,hr⟩:=zaa hr;refine wih tk h28 rfl rfl rfl rfl rfl ?_;obtain ⟨v29,h30,hr⟩:=zaa hr;refine wq (v1a (F:=cS) (l:=s1.2) (n:=((w64 ((s1.2.length:Int) - 1)))) (j:=0) rfl rfl zoa rfl h30 rfl) rfl rfl rfl<|rn tk 1 rfl ?_;obtain ⟨v31,h32,hr⟩:=zaa hr;refine wc h32 rfl rfl rfl ?_;obtain ⟨v33,h34,hr⟩:=zaa hr;refine wih tk h34 rfl rfl rfl rfl rfl ?_;obtain ⟨v35,h36,hr⟩:=zaa hr;refine wo (qZa (F:=cS) (l:=s1.2) (n:=((w64 ((s1.2.length:Int) - 1)))) (j:=0) (v:=v35) (v' :=v31) (pcs:=[pS v31]) rfl rfl rfl zoa rfl h36 rfl rfl) rfl ?_;exact jx 2 hr
    refine rn tk 3 rfl<|wz cS ([j8]:List Str) tk rfl rfl (fun _=>rfl) rfl rfl rfl ?_;obtain ⟨v37,h38,hr⟩:=zaa hr;refine wa tk h38 rfl rfl rfl rfl (fun _=>rfl) rfl rfl ?_;exact jx 3 hr
   exact cx 4 hr
  exact ox 2 hr
 refine rn tk 8 rfl ?_;refine Zya 1007 rfl (hC ?_);refine kTa (d:=2) (F:=cS) (l:=b2) rfl rfl (hC ?_);exact kx 1 hr
theorem Y9a(a0:zia)(r:Str)(hr:y2a a0=some r):Run prog 124 [.agg [.s a0.Name,.s a0.Value]] (.s r):=by
 unfold y2a at hr;refine rfx (fn:=f124) func124 fun g0 hg=>?_
 refine clx 11 hr (wea _) fun v1 _ hr=>?_
 refine ax 2 8 hr (fun hr=>?_) fun hr=>?_
 .refine rn tk 4 rfl ?_;obtain ⟨v4,h5,hr⟩:=zaa hr;refine wc h5 rfl rfl rfl ?_;obtain ⟨v6,h7,hr⟩:=zaa hr;refine wc h7 rfl rfl rfl<|rn tk 2 rfl ?_;obtain ⟨v8,h9,hr⟩:=zaa hr;refine wc h9 rfl rfl rfl ?_;exact kx 5 hr
 refine jq 3 hr [1] [1] (fun j10=>[(24,.bo j10)]) (fun _=>[]) (fun j10 hr=>?_) (fun j10 hr=>?_)
 .refine bx 6 20 hr (fun c11 hr=>?_) fun c11 hr=>?_
  .refine rn tk 2 rfl<|ug rfl rfl rfl ?_;refine ctq 0 hr [1,20] [1] (fun j12=>[(23,.bo j12)]) (fun _=>[]) (fun j12 hr jump4=>?_) (fun j12 hr=>?_)
   .refine iq 0 400000 [1,20] (fn:=f102) ⟨func102,rfl,by kernel_rfl⟩ fun T4 ds4=>?_
    refine aq2 14 hr [0,1,7] [499999,400001,400020,1] (fun s13=>[(8,.i s13)]) (fun _=>[]) (.exit 0) [] [499999,400001,400020,1] (fun _=>[]) (fun _=>[]) .ret [4] [499999,400001,400020,1] (fun _=>[]) (fun _=>[]) (fun s13 x17 hr=>?_) (fun b14 hr=>?_) (fun b15 hr=>?_)
    .unfold QGa at hr;refine ax 6 9 hr (fun hr=>?_) fun hr=>?_
     .refine rn tk 15 rfl ?_;obtain ⟨v19,h20,hr⟩:=zaa hr;refine ws tk h20 rfl rfl rfl rfl ?_;refine iq 0 600000 [0,1,7,8] (fn:=f164) ⟨func164,rfl,by kernel_rfl⟩ fun T6 ds6=>?_
      refine jq 5 hr [] [699999,600000,600001,600007,600008,499999,400001,400020,1] (fun j21=>[(2,.bo j21)]) (fun _=>[]) (fun j21 hr=>?_) (fun j21 hr=>?_)
      .refine bx 4 5 hr (fun c22 hr=>?_) fun c22 hr=>?_
       .exact jx 5 hr
       exact jx 5 hr
      refine ieq 1 (hO ?_);refine ax 3 16 hr (fun hr=>?_) fun hr=>?_
      .exact ox 8 hr
      exact cx 7 hr
     exact ox 2 hr
    .refine ieq 8 ?_;cases hr;exact jump4 _ _ rfl rfl
    refine ieq 2 ?_;cases hr;exact jump4 _ _ rfl rfl
   exact jx 2 hr
  exact jx 5 hr
 refine ax 0 24 hr (fun hr=>?_) fun hr=>?_
 .refine rn tk 1 rfl ?_;obtain ⟨v25,h26,hr⟩:=zaa hr;obtain ⟨v27,h28,hr⟩:=zaa hr;obtain ⟨v29,h30,hr⟩:=zaa hr;obtain ⟨v31,h32,hr⟩:=zaa hr;obtain ⟨v33,h34,hr⟩:=zaa hr;refine mh 0 [(2,.s v25),(3,.s v27),(4,.l cS (([([92]:Str),([92,92]:Str),([34]:Str),([92,34]:Str)]:List Str))),(9,.s v31),(10,.s v33)] [(5,fun f s=>((30,.ptr 7030 0)::Fr.clrs [7030] f,([(7030,.opq 0 5 RsQ)]++Sto.clrs [7030] (Sto.dels [7030,7030] s)))),(8,fun f s=>((33,.s v29)::Fr.clrs [] f,([(7030,.opq 0 5 RsU)]++Sto.clrs [] (Sto.dels [7030] s))))] [[],[5],[5,8]] ?_ mixed;refine .cons (mnq tk [2,3,4,5] (.cons (mpu (zGa (vWa rfl rfl h26))) (.cons (mpu (zGa (vWa rfl rfl h28))) (.cons (mpu (yba (F:=cS) (l:=([([92]:Str),([92,92]:Str),([34]:Str),([92,34]:Str)]:List Str)) qya zoa rfl (fun _=>rfl) rfl rfl)) (.cons (mdtq 1 (wzb (Zra 7030) rfl rfl kXa)) .nil))))) (.cons (mnq tk [2,3,8] (.cons (mpu (zGa (vWa rfl rfl h26))) (.cons (mpu (zGa (vWa rfl rfl h28))) (.cons (mdtq 2 (wzb (yia 7030 a0.Value v29 h30) rfl rfl (zCa rfl kXa))) .nil)))) (.cons (mfq tk [2,3,9,10] [2] (.cons (mpu (zGa (vWa rfl rfl h26))) (.cons (mpu (zGa (vWa rfl rfl h28))) (.cons (mpu (zGa (vWa rfl rfl h32))) (.cons (mpu (zGa (vWa rfl rfl h34))) .nil)))) (hA ?_)) .nil));exact kx 3 hr
 refine clx 12 hr (WRa _) fun v35 _ hr=>?_
 refine wn tk rfl rfl rfl ?_;refine aq1 4 hr [1,38,39] [1] (fun s37=>[(3,.s s37.1),(40,.i s37.2)]) (fun _=>[]) (.exit 0) [] [] (fun b38=>[(3,.s b38)]) (fun _=>[]) (fun s37 x39 hr=>?_) (fun b38 hr=>?_)
 .unfold jNa at hr;refine ax 6 41 hr (fun hr=>?_) fun hr=>?_
  .refine rn tk 7 rfl ?_;obtain ⟨v41,h42,hr⟩:=zaa hr;refine wi tk h42 rfl rfl rfl rfl rfl<|rn tk 5 rfl ?_;obtain ⟨v43,h44,hr⟩:=zaa hr;obtain ⟨v45,h46,hr⟩:=zaa hr;obtain ⟨v47,h48,hr⟩:=zaa hr;obtain ⟨v49,h50,hr⟩:=zaa hr;obtain ⟨v51,h52,hr⟩:=zaa hr;obtain ⟨v53,h54,hr⟩:=zaa hr;refine dq 0 11 [] [(3,.s v43),(4,.s v45),(6,.s v47),(7,.s v49),(8,.s v51),(10,.s v53)] .nil (.cons rfl rfl (zGa (vWa rfl rfl h44)) (.cons rfl rfl (zGa (vWa rfl rfl h46)) (.cons rfl rfl (zua (kWa s37.2 v47 h48) rfl) (.cons rfl rfl (zGa (vWa rfl rfl h50)) (.cons rfl rfl (zGa (vWa rfl rfl h52)) (.cons rfl rfl (zGa (vWa rfl rfl h54)) .nil)))))) ?_ mixed;obtain ⟨v55,h56,hr⟩:=zaa hr;refine wc h56 rfl rfl rfl ?_;exact cx 8 hr
  exact ox 2 hr
 exact kx 9 hr
theorem jaa(a0:zYa)(r:Str × zja)(hr:vLa a0=some r):Run prog 79 [.agg [.s a0.Type_,.s a0.Sub,.l zia.pc a0.Params]] (.tup [.s r.1,.agg [.i r.2.Code,.i r.2.Index]]):=by
 unfold vLa at hr;refine rfx (fn:=f79) func79 fun g0 hg=>?_
 refine clx 11 hr (wfa _) fun v1 _ hr=>?_
 refine clx 7 hr (zha _) fun v3 _ hr=>?_
 refine ax 2 11 hr (fun hr=>?_) fun hr=>?_
 .refine dq 1 2 [] [] .nil .nil ?_ mixed;exact kx 5 hr
 refine rn tk 6 rfl ?_;obtain ⟨v6,h7,hr⟩:=zaa hr;refine wc h7 rfl rfl rfl<|rn tk 2 rfl ?_;obtain ⟨v8,h9,hr⟩:=zaa hr;refine wc h9 rfl rfl rfl<|rn tk 8 rfl<|wn tk rfl rfl rfl ?_;refine aq1 4 hr [3,20,21] [3] (fun s10=>[(5,.s s10.1),(22,.i s10.2)]) (fun _=>[]) (.exit 0) [3] [3] (fun b11=>[(5,.s b11)]) (fun _=>[]) (fun s10 x12 hr=>?_) (fun b11 hr=>?_)
 .unfold jOa at hr;refine ax 6 23 hr (fun hr=>?_) fun hr=>?_
  .refine rn tk 6 rfl ?_;obtain ⟨v14,h15,hr⟩:=zaa hr;refine wi tk h15 rfl rfl rfl rfl rfl ?_;refine clx 8 hr (Y9a _) fun v16 _ hr=>?_
   obtain ⟨v18,h19,hr⟩:=zaa hr;refine wc h19 rfl rfl rfl ?_;exact cx 8 hr
  exact ox 2 hr
 refine ax 10 33 hr (fun hr=>?_) fun hr=>?_
 .refine clx 2 hr (zga _ _) fun v21 _ hr=>?_
  exact kx 6 hr
 refine clx 5 hr zma fun v23 _ hr=>?_
 exact kx 5 hr
theorem Jaa{G:zka->List PV}(a0:zka)(r:Int)(hr:y3a a0=some r):Run prog 82 [.agg [.l zba.pc a0.Fields,.l cU a0.Body,.l G a0.Parts]] (.i r):=by
 unfold y3a at hr;refine rfx (fn:=f82) func82 fun g0 hg=>?_
 refine csx 10 hr (wHa a0.Fields) fun v1 _ hr=>?_
 refine rn tk 5 rfl ?_;refine zza 1003 (o:=3) (j:=2) 137 2 rfl rfl rfl rfl (hO ?_);refine jq 6 hr [1,3,4] [3,90011003,1] (fun j3=>[(31,.bo j3)]) (fun _=>[]) (fun j3 hr=>?_) (fun j3 hr=>?_)
 .refine rn tk 3 rfl<|wn tk rfl rfl rfl ?_;refine bx 2 22 hr (fun c4 hr=>?_) fun c4 hr=>?_
  .exact jx 10 hr
  refine bx 4 26 hr (fun c5 hr=>?_) fun c5 hr=>?_
  .exact jx 6 hr
  refine rn tk 2 rfl ?_;obtain ⟨v6,h7,hr⟩:=zaa hr;refine ug rfl rfl rfl<|cl (zWa _ _ _ h7) rfl rfl ?_;exact jx 3 hr
 refine ax 0 31 hr (fun hr=>?_) fun hr=>?_
 .exact kx 7 hr
 refine rn tk 5 rfl ?_;refine v2a (d' :=33) (j:=2) (F:=zia.pc) (l:=v1.1.Params) rfl rfl rfl (hO ?_);refine clx 0 hr (KEa _ _) fun v9 _ hr=>?_
 refine rn tk 13 rfl ?_;refine v2a (d' :=39) (j:=2) (F:=zia.pc) (l:=v1.1.Params) rfl rfl rfl (hO ?_);refine clx 0 hr (jaa _) fun v11 _ hr=>?_
 refine jq 9 hr [] [] (fun j13=>[(68,.bo j13)]) (fun _=>[]) (fun j13 hr=>?_) (fun j13 hr=>?_)
 .refine bx 3 44 hr (fun c14 hr=>?_) fun c14 hr=>?_
  .exact jx 25 hr
  refine rn tk 2 rfl<|ug rfl rfl rfl<|wnh tk rfl rfl rfl rfl ?_;refine bx 3 50 hr (fun c15 hr=>?_) fun c15 hr=>?_
  .exact jx 19 hr
  refine rn tk 1 rfl ?_;obtain ⟨v16,h17,hr⟩:=zaa hr;refine ug rfl rfl rfl<|cl (zha _ _ h17) rfl rfl ?_;refine bx 2 54 hr (fun c18 hr=>?_) fun c18 hr=>?_
  .exact jx 15 hr
  refine rn tk 4 rfl ?_;obtain ⟨v19,h20,hr⟩:=zaa hr;refine ug rfl rfl rfl<|wi tk h20 rfl rfl rfl rfl rfl ?_;refine bx 5 64 hr (fun c21 hr=>?_) fun c21 hr=>?_
  .exact jx 5 hr
  exact jx 5 hr
 refine ax 0 68 hr (fun hr=>?_) fun hr=>?_
 .exact kx 7 hr
 exact kx 8 hr
theorem Jba{G:zka->List PV}(a0:jBa)(r:Int)(hr:y4a a0=some r):Run prog 54 [.agg [.l zba.pc a0.part.Fields,.l cU a0.part.Body,.l G a0.part.Parts,.i a0.depth]] (.i r):=by
 unfold y4a at hr;refine rfx (fn:=f54) func54 fun g0 hg=>?_
 refine clx 19 hr (vMa _) fun v1 _ hr=>?_
 refine clx 7 hr (zha _) fun v3 _ hr=>?_
 refine ax 2 12 hr (fun hr=>?_) fun hr=>?_
 .exact kx 9 hr
 refine rn tk 7 rfl<|wn tk rfl rfl rfl ?_;refine ax 3 18 hr (fun hr=>?_) fun hr=>?_
 .refine clx 3 hr (Jaa _) fun v7 _ hr=>?_
  exact kx 5 hr
 refine rn tk 7 rfl<|wn tk rfl rfl rfl ?_;refine ax 3 24 hr (fun hr=>?_) fun hr=>?_
 .exact kx 7 hr
 refine clx 7 hr (QLa _) fun v10 _ hr=>?_
 refine ax 9 29 hr (fun hr=>?_) fun hr=>?_
 .exact kx 8 hr
 refine clx 11 hr (KIa _ _ _) fun v13 _ hr=>?_
 refine wn tk rfl rfl rfl ?_;refine ax 3 39 hr (fun hr=>?_) fun hr=>?_
 .exact kx 7 hr
 exact kx 8 hr
def VF(rb:Nat)(T:Array Value):Sto:=[(4,.cells [.fn (.func 81) [] [.ptr 1002 0,.ptr 1003 0,.ptr 4 0]]),(1002,.cells [.fn (.yield rb) [] []]),(800002,.hold (.ptr 2 0) (T.getD 2 undef))]
def V0(rb:Nat)(L:Loop)(T:Array Value)(s:Int × Bool):Sto:=[(1003,.cells [.i s.1]),(3,.cells [.bo s.2]),(2,.cells [.i 0,.i 0]),(899998,.lp rb L),(800003,.hold (.ptr 3 0) (T.getD 3 undef))]++VF rb T
def V1(rb:Nat)(L:Loop)(T:Array Value):(Int × Bool) ⊕ (Int × Bool × Int × Int)->Sto
 | .inl s=>V0 rb L T s
 | .inr b=>[(1003,.cells [.i b.1]),(3,.cells [.bo b.2.1]),(2,.cells [.i b.2.2.1,.i b.2.2.2]),(899998,.lp rb (stop L .ret)),(800003,.hold (.ptr 3 0) (T.getD 3 undef))]++VF rb T
def W0(rb:Nat)(L:Loop)(T:Array Value)(s:Int):Sto:=[(1003,.cells [.i s]),(2,.cells [.i 0,.i 0]),(899998,.lp rb L)]++VF rb T
def W1(rb:Nat)(L:Loop)(T:Array Value):Int ⊕ (Int × Int × Int)->Sto
 | .inl s=>W0 rb L T s
 | .inr b=>[(1003,.cells [.i b.1]),(2,.cells [.i b.2.1,.i b.2.2]),(899998,.lp rb (stop L .ret))]++VF rb T
theorem w9a(m:Nat)(a0:zka)(r:zja)(hr:kJa m a0=some r):Run prog 27 [.agg [.l zba.pc a0.Fields,.l cU a0.Body,.l (zka.cw (Ev m)) a0.Parts]] (.agg [.i r.Code,.i r.Index]):=by
 unfold kJa at hr;refine rfx (fn:=Tryz.f27) func27 fun g0 hg=>?_
 refine iq 16 700000 [1,2,3] (fn:=f53) ⟨func53,rfl,by kernel_rfl⟩ fun T7 ds7=>?_
 refine rn tk 2 rfl<|wo (vVa (k:=1) 1001 rfl rfl rfl rfl rfl) rfl ?_;refine ieq 10 (hO ?_);refine rn tk 3 rfl ?_;refine K9a (fn0:=f80) 800000 899998 899999 [(1,.ptr 1 0),(2,.ptr 2 0),(3,.ptr 3 0),(10,.fn (.func 80) [] [.ptr 1001 0])] rfl rfl rfl ⟨func80,rfl,by kernel_rfl⟩ rfl rfl rfl rfl rfl (.cons rfl (.cons rfl (.cons rfl (.cons rfl .nil)))) fun T8 rb8 L8 ds8 hT8 hLs8 hLp8 hLt8 hLq8 hLa8 hLb8=>hB W5a ?_
 have V:∀(n:Nat) (p:zka) (d:Int) (s:Int × Bool) (v:(Int × Bool) ⊕ (Int × Bool × Int × Int)),pvl1 n p d s=some v->RunV prog 81 [.agg [.l zba.pc p.Fields,.l cU p.Body,.pv (.sl none (Ev n p))],.i d,.ptr 1002 0,.ptr 1003 0,.ptr 4 0] (V0 rb8 L8 T8 s) (.bo (lbl v)) (V1 rb8 L8 T8 v):=by
  have step:∀(e3:zka->List (List PV)) (rd:zka->Int->Int × Bool->Option ((Int × Bool) ⊕ (Int × Bool × Int × Int))) (hrd:∀q d s v,rd q d s=some v->RunV prog 81 [.agg [.l zba.pc q.Fields,.l cU q.Body,.pv (.sl none (e3 q))],.i d,.ptr 1002 0,.ptr 1003 0,.ptr 4 0] (V0 rb8 L8 T8 s) (.bo (lbl v)) (V1 rb8 L8 T8 v)) (p:zka) (d:Int) (s:Int × Bool) (v:(Int × Bool) ⊕ (Int × Bool × Int × Int)),pv1 rd p d s=some v->RunV prog 81 [.agg [.l zba.pc p.Fields,.l cU p.Body,.l (zka.cw e3) p.Parts],.i d,.ptr 1002 0,.ptr 1003 0,.ptr 4 0] (V0 rb8 L8 T8 s) (.bo (lbl v)) (V1 rb8 L8 T8 v):=by
   intro e3 rd hrd p d s v hr;unfold pv1 at hr;refine rfV (fn:=f81) [1003,3,2,4,1002] ⟨func81,rfl,by kernel_rfl⟩ rfl (fun _=>rfl) rfl rfl (by cases v <;> rfl) (by cases v <;> rfl) (by cases v <;> rfl) (by cases v <;> rfl) fun g0 hg S sg pv=>?_
   refine rn tk 14 rfl ?_;refine Zxa (ps:=[11,12]) (args:=[.i s.1,.agg [.l zba.pc p.Fields,.l cU p.Body,.l (zka.cw e3) p.Parts,.i d]]) 800000 1000000 899998 1099999 [(2,.ptr 2 0),(3,.ptr 3 0)] [(1,.i d),(3,.ptr 1003 0),(4,.ptr 4 0),(5,.ptr 5 0)] (z1a rfl) rfl rfl hLs8 hLp8 hLt8 hLq8 hLa8 hLb8 hT8 rfl rfl rfl rfl (.cons rfl (.cons rfl (.cons rfl (.cons rfl .nil)))) (.cons rfl (.cons rfl .nil)) fun T10 ds10 hT10=>hB W7a ?_
   refine rn tk 6 rfl<|wo (K6a (k:=5) 1005 rfl ZVa (.inr ⟨rfl,rfl⟩) rfl rfl rfl) rfl<|rn tk 2 rfl ?_;refine asgK kza qia rfl (hB W6a ?_);refine ax 8 14 hr (fun hr=>?_) fun hr=>?_
   .refine clx 2 hr (zga _ _) fun v10 _ hr=>?_
    refine rnq 6 .ret (hO ?_);cases hr;exact krV 11
   refine rn tk 5 rfl ?_;refine jg hr rfl (fun j12 hr=>?_) fun j12 hr=>?_
   .refine bx 0 17 hr (fun c13 hr=>?_) fun c13 hr=>?_
    .exact jx 5 hr
    exact jx 5 hr
   refine rnq 3 .off (hO ?_);refine rn tk 18 rfl<|wn tk rfl rfl rfl ?_;refine aq2 4 hr [1,4,20,21] [70001003,70000003,70000002,70000004,70001002,4,1002,899998,800002,800003,2] (fun s1=>[(22,.i s1.1)]) (fun s1=>[(1003,.cells [.i s1.2.1]),(3,.cells [.bo s1.2.2])]) (.exit 0) [] [70001003,70000003,70000002,70000004,70001002,4,1002,899998,800002,800003,2] (fun _=>[]) (fun b=>[(1003,.cells [.i b.1]),(3,.cells [.bo b.2])]) .ret [] [70001003,70000003,70000002,70000004,70001002,4,1002,800002,800003] (fun _=>[(7,.bo false)]) (fun b=>[(899998,.lp rb8 ((stop L8 .ret))),(1003,.cells [.i b.1]),(3,.cells [.bo b.2.1]),(2,.cells [.i b.2.2.1,.i b.2.2.2])]) (fun s1 x5 hr=>?_) (fun b hr=>?_) (fun b hr=>?_)
   .unfold pv1_l at hr;refine ax 6 23 hr (fun hr=>?_) fun hr=>?_
    .refine rn tk 6 rfl ?_;obtain ⟨v7,h8,hr⟩:=zaa hr;refine wi tk h8 rfl rfl rfl rfl rfl<|rn tk 11 rfl ?_;obtain ⟨v9,h9,hr⟩:=zaa hr;refine cvN (hrd _ _ _ _ h9) rfl rfl rfl (stw rfl) fun _ _=>?_
     cases v9 with
     | inl b=>exact cx 11 hr
     | inr b=>exact ox 12 hr
    exact ox 2 hr
   .cases hr;exact krV 8
   cases hr;exact krV 2
  intro n;induction n with
  | zero=>exact fun p d s v h=>step (fun _=>[]) (fun _ _ _=>none) (fun _ _ _ _ h=>by cases h) (zka.mk p.Fields p.Body []) d s v h
  | succ n ih=>exact fun p d s v h=>step (Ev n) (pvl1 n) ih p d s v h
 refine rn tk 2 rfl<|wo (vVa (k:=2) 1002 rfl rfl rfl rfl rfl) rfl<|rn tk 4 rfl<|wo (K6a (k:=3) 1003 rfl yJa (.inl rfl) rfl rfl rfl) rfl<|rn tk 17 rfl ?_;obtain ⟨v5,h5,hr⟩:=zaa hr;refine cvN (V (m+1) a0 0 (0,false) v5 h5) rfl rfl rfl (stw rfl) fun _ _=>?_
 cases v5 with
 | inr b=>
  refine itq 1 [2] (.jump (hC ?_));exact kx 3 hr
 | inl b=>
  refine itq 1 [1001,3,2,1] (.off (hA ?_));refine ax 8 22 hr (fun hr=>?_) fun hr=>?_
  .refine clx 2 hr (zga _ _) fun v19 _ hr=>?_
   exact kx 5 hr
  refine iq 6 2100000 [2] (fn:=f53) ⟨func53,rfl,by kernel_rfl⟩ fun T21 ds21=>?_
  refine rn tk 2 rfl<|wo (vVa (k:=1) 2001 rfl rfl rfl rfl rfl) rfl ?_;refine ieq 10 (hO ?_);refine rn tk 3 rfl ?_;refine K9a (fn0:=f80) 800000 899998 899999 [(2,.ptr 2 0),(25,.fn (.func 80) [] [.ptr 2001 0])] rfl rfl rfl ⟨func80,rfl,by kernel_rfl⟩ rfl rfl rfl rfl rfl (.cons rfl (.cons rfl .nil)) fun T22 rb22 L22 ds22 hT22 hLs22 hLp22 hLt22 hLq22 hLa22 hLb22=>hB W5a ?_
  have V:∀(n:Nat) (q:zka) (d s:Int) (v:Int ⊕ (Int × Int × Int)),pvl2 n q d s=some v->RunV prog 81 [.agg [.l zba.pc q.Fields,.l cU q.Body,.pv (.sl none (Ev n q))],.i d,.ptr 1002 0,.ptr 1003 0,.ptr 4 0] (W0 rb22 L22 T22 s) (.bo (lbl v)) (W1 rb22 L22 T22 v):=by
   have step:∀(e3:zka->List (List PV)) (rd:zka->Int->Int->Option (Int ⊕ (Int × Int × Int))) (hrd:∀q d s v,rd q d s=some v->RunV prog 81 [.agg [.l zba.pc q.Fields,.l cU q.Body,.pv (.sl none (e3 q))],.i d,.ptr 1002 0,.ptr 1003 0,.ptr 4 0] (W0 rb22 L22 T22 s) (.bo (lbl v)) (W1 rb22 L22 T22 v)) (q:zka) (d s:Int) (v:Int ⊕ (Int × Int × Int)),pv2 rd q d s=some v->RunV prog 81 [.agg [.l zba.pc q.Fields,.l cU q.Body,.l (zka.cw e3) q.Parts],.i d,.ptr 1002 0,.ptr 1003 0,.ptr 4 0] (W0 rb22 L22 T22 s) (.bo (lbl v)) (W1 rb22 L22 T22 v):=by
    intro e3 rd hrd q d s v hr;unfold pv2 at hr;refine rfV (fn:=f81) [1003,2,4,1002] ⟨func81,rfl,by kernel_rfl⟩ rfl (fun _=>rfl) rfl rfl (by cases v <;> rfl) (by cases v <;> rfl) (by cases v <;> rfl) (by cases v <;> rfl) fun g0 hg S sg pv=>?_
    refine rn tk 14 rfl ?_;refine Zxa (ps:=[26,27]) (args:=[.i s,.agg [.l zba.pc q.Fields,.l cU q.Body,.l (zka.cw e3) q.Parts,.i d]]) 800000 1000000 899998 1099999 [(2,.ptr 2 0)] [(1,.i d),(3,.ptr 1003 0),(4,.ptr 4 0),(5,.ptr 5 0)] (z1a rfl) rfl rfl hLs22 hLp22 hLt22 hLq22 hLa22 hLb22 hT22 rfl rfl rfl rfl (.cons rfl (.cons rfl (.cons rfl (.cons rfl .nil)))) (.cons rfl .nil) fun T24 ds24 hT24=>hB W7a ?_
    refine rn tk 9 rfl ?_;refine asgK kza qia rfl (hB W6a ?_);refine clx 4 hr (Jba _) fun v21 _ hr=>?_
    refine ax 9 31 hr (fun hr=>?_) fun hr=>?_
    .refine clx 4 hr (zga _ _) fun v24 _ hr=>?_
     refine rnq 5 .ret (hO ?_);cases hr;exact krV 11
    refine rnq 2 .off (hO ?_);refine rn tk 18 rfl<|wn tk rfl rfl rfl ?_;refine aq2 4 hr [1,4,20,21] [70001003,70000002,70000004,70001002,4,1002,899998,800002,2] (fun s1=>[(22,.i s1.1)]) (fun s1=>[(1003,.cells [.i s1.2])]) (.exit 0) [] [70001003,70000002,70000004,70001002,4,1002,899998,800002,2] (fun _=>[]) (fun b=>[(1003,.cells [.i b])]) .ret [] [70001003,70000002,70000004,70001002,4,1002,800002] (fun _=>[(7,.bo false)]) (fun b=>[(899998,.lp rb22 ((stop L22 .ret))),(1003,.cells [.i b.1]),(2,.cells [.i b.2.1,.i b.2.2])]) (fun s1 x5 hr=>?_) (fun b hr=>?_) (fun b hr=>?_)
    .unfold pv2_l at hr;refine ax 6 23 hr (fun hr=>?_) fun hr=>?_
     .refine rn tk 6 rfl ?_;obtain ⟨v7,h8,hr⟩:=zaa hr;refine wi tk h8 rfl rfl rfl rfl rfl<|rn tk 11 rfl ?_;obtain ⟨v9,h9,hr⟩:=zaa hr;refine cvN (hrd _ _ _ _ h9) rfl rfl rfl (stw rfl) fun _ _=>?_
      cases v9 with
      | inl b=>exact cx 11 hr
      | inr b=>exact ox 12 hr
     exact ox 2 hr
    .cases hr;exact krV 8
    cases hr;exact krV 2
   intro n;induction n with
   | zero=>exact fun q d s v h=>step (fun _=>[]) (fun _ _ _=>none) (fun _ _ _ _ h=>by cases h) (zka.mk q.Fields q.Body []) d s v h
   | succ n ih=>exact fun q d s v h=>step (Ev n) (pvl2 n) ih q d s v h
  refine rn tk 2 rfl<|wo (vVa (k:=2) 1002 rfl rfl rfl rfl rfl) rfl<|rn tk 4 rfl<|wo (K6a (k:=3) 1003 rfl yJa (.inl rfl) rfl rfl rfl) rfl<|rn tk 17 rfl ?_;obtain ⟨v20,h20,hr⟩:=zaa hr;refine cvN (V (m+1) a0 0 0 v20 h20) rfl rfl rfl (stw rfl) fun _ _=>?_
  cases v20 with
  | inr b=>
   refine itq 1 [2] (.jump (hC ?_));exact kx 3 hr
  | inl b=>
   refine itq 1 [2] (.off (hA ?_));dsimp only[Sum.elim_inl]at hr;refine clx 4 hr zma fun v21 _ hr=>?_
   exact kx 4 hr
theorem ZEb:∀n,zka.pcn n=zka.cw (Ev n)
 | 0=>rfl
 | n+1=>by
  funext x;show _=[pL zba.pc x.Fields,pL cU x.Body,PV.sl none (x.Parts.map (zka.cw (Ev n)))];rw[<-ZEb n];rfl
theorem KLa(a0:zka)(r:zja)(hr:Zia a0=some r):Run prog 27 [.agg [.l zba.pc a0.Fields,.l cU a0.Body,.l (zka.pcn 8) a0.Parts]] (.agg [.i r.Code,.i r.Index]):=ZEb 8▸w9a 8 a0 r hr
theorem KMa(a0:zka)(r:zja)(hr:Zja a0=some r):Run prog 27 [.agg [.l zba.pc a0.Fields,.l cU a0.Body,.l (zka.pcn 0) a0.Parts]] (.agg [.i r.Code,.i r.Index]):=ZEb 0▸w9a 0 a0 r hr
theorem WSa(a0:List UInt8)(c0_0:Str)(r:Bool)(hr:Kxa a0 c0_0=some r):Run prog 155 [.l cU a0,.ep [pS c0_0]] (.bo r):=by
 unfold Kxa at hr;refine rfx (fn:=f155) func155 fun g0 hg=>?_
 refine iq 9 500000 [1,3] (fn:=Tryz.f119) ⟨func119,rfl,by kernel_rfl⟩ fun T5 ds5=>?_
 refine ieq 13 (hO ?_);refine rn tk 3 rfl ?_;refine K9a (fn0:=f157) 600000 699998 699999 [(1,.ep [pS c0_0]),(3,.ptr 3 0),(7,.fn (.func 157) [] [.ptr 1 0])] rfl rfl rfl ⟨func157,rfl,by kernel_rfl⟩ rfl rfl rfl rfl rfl (.cons rfl (.cons rfl (.cons rfl .nil))) fun T6 rb6 L6 ds6 hT6 hLs6 hLp6 hLt6 hLq6 hLa6 hLb6=>hB W5a ?_
 refine aq2 6 hr [0,1] [699999,699998,600001,600003,600007,1,3] (fun s1=>[(3,.i s1)]) (fun _=>[]) (.exit 0) [] [699999,699998,600001,600003,600007,1,3] (fun _=>[]) (fun _=>[]) .ret [] [699999,600001,600003,600007,1] (fun _=>[]) (fun _=>[(699998,.lp rb6 ((stop L6 .ret))),(3,.cells [.bo true])]) (fun s1 x5 hr=>?_) (fun b2 hr=>?_) (fun b3 hr=>?_)
 .unfold Kwa at hr;refine rn tk 5 rfl<|wn tk rfl rfl rfl ?_;refine ax 3 10 hr (fun hr=>?_) fun hr=>?_
  .refine rn tk 7 rfl ?_;obtain ⟨v7,h8,hr⟩:=zaa hr;refine wlL tk h8 rfl rfl rfl (fun _=>rfl) rfl ?_;refine jja rfl (Vda (F:=cU) (l:=([(13:UInt8),(10:UInt8)]:List UInt8)) zra zxa rfl (fun _=>rfl) rfl rfl) zra zxa (z1a rfl) (z1a rfl) rfl (hO ?_);refine clx 0 hr (KHa _ _) fun v9 _ hr=>?_
   refine rn tk 6 rfl<|wn tk rfl rfl rfl ?_;refine jq 9 hr [0,1,3] [699999,699998,600001,600003,600007,1,3] (fun j11=>[(5,.i j11.1),(6,.i j11.2)]) (fun _=>[]) (fun j11 hr=>?_) (fun j11 hr=>?_)
   .refine ax 6 21 hr (fun hr=>?_) fun hr=>?_
    .exact jx 11 hr
    exact jx 1 hr
   refine rn tk 8 rfl ?_;obtain ⟨v13,h14,hr⟩:=zaa hr;refine wlLH tk h14 rfl rfl rfl rfl (fun _=>rfl) rfl<|wb tk rfl rfl rfl ?_;refine Zxa (ps:=[8,9]) (args:=[.i s1,.s v13]) 600000 800000 699998 899999 [(1,.ep [pS c0_0]),(3,.ptr 3 0),(7,.fn (.func 157) [] [.ptr 1 0])] [(0,.fn (.yield rb6) [] []),(1,.ptr 1 0),(6,.i j11.2)] (z1a rfl) rfl rfl hLs6 hLp6 hLt6 hLq6 hLa6 hLb6 hT6 rfl rfl rfl rfl (.cons rfl (.cons rfl (.cons rfl .nil))) (.cons rfl (.cons rfl (.cons rfl .nil))) fun T8 ds8 hT8=>hB W7a ?_
   refine rn tk 3 rfl ?_;refine asgK kza qia rfl (hB W6a ?_);refine rn tk 5 rfl ?_;obtain ⟨v15,h16,hr⟩:=zaa hr;refine wc h16 rfl rfl rfl ?_;refine clx 0 hr (w5a _ _) fun v17 _ hr=>?_
   refine ax 2 13 hr (fun hr=>?_) fun hr=>?_
   .refine rnq 7 .ret (hO ?_);exact ox 7 hr
   refine rnq 2 .off (hO ?_);exact cx 11 hr
  exact ox 2 hr
 .refine rn tk 1 rfl ?_;refine itrK (fr' :=[]) (L' :=L6) (fr'' :=[(1,.ep [pS c0_0]),(3,.ptr 3 0),(7,.fn (.func 157) [] [.ptr 1 0])]) (σ'' :=[(1,.cells [.l cU a0]),(3,.cells [.bo false])]) (.inr rfl) qia rfl (.cons rfl (.cons rfl (.cons rfl .nil))) rfl (zCa rfl (zCa rfl kXa)) rfl<|.off (hA ?_);exact kx 8 hr
 refine rn tk 1 rfl ?_;refine itrK (fr' :=[]) (L' :=(stop L6 .ret)) (fr'' :=[(1,.ep [pS c0_0]),(3,.ptr 3 0),(7,.fn (.func 157) [] [.ptr 1 0])]) (σ'' :=[(1,.cells [.l cU a0]),(3,.cells [.bo true])]) (.inl rfl) qia rfl (.cons rfl (.cons rfl (.cons rfl .nil))) rfl (zCa rfl (zCa rfl kXa)) rfl<|.jump (hC ?_);exact kx 3 hr
theorem JEa(a0:List (List UInt8))(r:Str)(hr:V7a a0=some r):Run prog 114 [.l (cL cU) a0] (.s r):=by
 unfold V7a at hr;refine rfx (fn:=f114) func114 fun g0 hg=>?_
 refine aq1 11 hr [0] [] (fun s1=>[(3,.i s1)]) (fun _=>[]) .ret [] [] (fun b2=>[(2,.s b2)]) (fun _=>[]) (fun s1 x3 hr=>?_) (fun b2 hr=>?_)
 .unfold Vxa at hr;refine clx 5 hr (kWa _) fun v4 _ hr=>?_
  obtain ⟨v6,h7,hr⟩:=zaa hr;refine wc h7 rfl rfl rfl<|rn tk 7 rfl ?_;refine vkb 4 (cs:=[pS v6]) rfl rfl (hO ?_);refine iq 1 300000 [0,3,4] (fn:=f154) ⟨func154,rfl,by kernel_rfl⟩ fun T3 ds3=>?_
  refine ctq 9 hr [] [399999,300000,300003,300004] (fun j8=>[(7,.i j8)]) (fun _=>[]) (fun j8 hr jump4=>?_) (fun j8 hr=>?_)
  .refine iq 0 400000 [] (fn:=f186) ⟨func186,rfl,by kernel_rfl⟩ fun T4 ds4=>?_
   refine rn tk 9 rfl<|wn tk rfl rfl rfl ?_;refine aq2 4 hr [0,1,7] [499999,399999,300000,300003,300004] (fun s9=>[(8,.i s9)]) (fun _=>[]) (.exit 0) [] [499999,399999,300000,300003,300004] (fun _=>[]) (fun _=>[]) .ret [] [499999,399999,300000,300003,300004] (fun b11=>[(4,.i b11)]) (fun _=>[]) (fun s9 x13 hr=>?_) (fun b10 hr=>?_) (fun b11 hr=>?_)
   .unfold Vwa at hr;refine ax 6 9 hr (fun hr=>?_) fun hr=>?_
    .refine rn tk 15 rfl ?_;obtain ⟨v15,h16,hr⟩:=zaa hr;refine wi tk h16 rfl rfl rfl rfl rfl<|rn tk 1 rfl ?_;obtain ⟨v17,h18,hr⟩:=zaa hr;refine wo (y7b (d:=16) rfl rfl (jtb rfl (WSa v15 v6 v17 h18) rfl)) rfl ?_;refine ax 2 16 hr (fun hr=>?_) fun hr=>?_
     .exact ox 9 hr
     exact cx 7 hr
    exact ox 2 hr
   .refine ieq 8 ?_;cases hr;exact jump4 _ _ rfl rfl
   refine ieq 2 ?_;cases hr;exact jump4 _ _ rfl rfl
  refine ieq 5 (hO ?_);refine ax 9 15 hr (fun hr=>?_) fun hr=>?_
  .exact ox 9 hr
  exact cx 8 hr
 exact kx 1 hr
theorem Q2a(a0:zka)(r:(List zba) × (List UInt8))(hr:y6a a0=some r):Run prog 73 [.agg [.l zba.pc a0.Fields,.l cU a0.Body,.pv (.sl none [])]] (.tup [.l zba.pc r.1,.l cU r.2]):=by
 unfold y6a at hr;refine rfx (fn:=f73) func73 fun g0 hg=>?_
 refine rn tk 12 rfl<|wq (ev_len0 rfl vba.u) rfl rfl rfl ?_;refine dq 5 5 [] [] .nil .nil ?_ mixed;exact kx 5 hr
theorem Jca(a0:List zba)(a1:List UInt8)(r:List UInt8)(hr:QVa a0 a1=some r):Run prog 113 [.l zba.pc a0,.l cU a1] (.l cU r):=by
 unfold QVa at hr;refine rfx (fn:=f113) func113 fun g0 hg=>?_
 refine rn tk 8 rfl ?_;refine zUa 1005 (d:=5) 5 1 rfl rfl rfl (hO ?_);refine rn tk 6 rfl<|wn tk rfl rfl rfl ?_;refine aq1 4 hr [1,5,12,13] [] (fun s1=>[(14,.i s1.1)]) (fun s1=>[(1005,.row 5 false 1 (List.map cU s1.2))]) (.exit 0) [1,5] [] (fun _=>[]) (fun b2=>[(1005,.row 5 false 1 (List.map cU b2))]) (fun s1 x3 hr=>?_) (fun b2 hr=>?_)
 .unfold QIa at hr;refine ax 6 15 hr (fun hr=>?_) fun hr=>?_
  .refine rn tk 6 rfl ?_;obtain ⟨v5,h6,hr⟩:=zaa hr;refine wi tk h6 rfl rfl rfl rfl rfl ?_;refine clx 11 hr (ysa _ _) fun v7 _ hr=>?_
   refine rn tk 11 rfl<|wn tk rfl rfl rfl ?_;refine aq1 4 hr [1,5,12,13,14,26,27] [] (fun s9=>[(28,.i s9.1)]) (fun s9=>[(1005,.row 5 false 1 (List.map cU s9.2))]) (.exit 2) [1,5,12,13,14] [] (fun _=>[]) (fun b10=>[(1005,.row 5 false 1 (List.map cU b10))]) (fun s9 x11 hr=>?_) (fun b10 hr=>?_)
   .unfold QHa at hr;refine ax 6 29 hr (fun hr=>?_) fun hr=>?_
    .refine rn tk 6 rfl ?_;obtain ⟨v13,h14,hr⟩:=zaa hr;refine wi tk h14 rfl rfl rfl rfl rfl<|rn tk 7 rfl ?_;obtain ⟨v15,h16,hr⟩:=zaa hr;refine wo (wJa (k:=34) (l:=s9.2) (s:=v13) (lim:=140737488355328) rfl rfl rfl rfl zra zoa.u zxa rfl h16) rfl<|wz cU ([(13:UInt8),(10:UInt8)]:List UInt8) tk rfl rfl (fun _=>rfl) rfl rfl rfl ?_;obtain ⟨v17,h18,hr⟩:=zaa hr;refine wa tk h18 rfl rfl rfl rfl (fun _=>rfl) rfl rfl ?_;exact cx 8 hr
    exact ox 2 hr
   exact cx 7 hr
  exact ox 2 hr
 refine rn tk 5 rfl<|wz cU ([(13:UInt8),(10:UInt8)]:List UInt8) tk rfl rfl (fun _=>rfl) rfl rfl rfl ?_;obtain ⟨v19,h20,hr⟩:=zaa hr;refine wa tk h20 rfl rfl rfl rfl (fun _=>rfl) rfl rfl<|rn tk 1 rfl ?_;obtain ⟨v21,h22,hr⟩:=zaa hr;refine wa tk h22 rfl rfl rfl rfl (fun _=>rfl) rfl rfl<|rn tk 3 rfl ?_;refine kTa (d:=4) (F:=cU) (l:=v21) rfl rfl (hC ?_);exact kx 1 hr
theorem kAa(a0:List zba)(r:List zba)(hr:zqa a0=some r):RunO prog 48 [.l zba.pc a0] 51 2 (List.map zba.pc r):=by
 unfold zqa at hr;refine rfO (fn:=Tryz.f48) ⟨func48,rfl,by kernel_rfl⟩ rfl fun g0 hg=>?_
 refine rn tk 3 rfl ?_;refine qYa 1002 (d:=2) 51 2 rfl rfl rfl (hO ?_);refine rn tk 6 rfl ?_;refine Qba (d:=3) (F:=zba.pc) (l:=a0) rfl rfl rfl zya (fun c1=>hO ?_) (hO ?_)
 .replace hr:=W3a c1 hr
  refine rn tk 6 rfl ?_;refine qYa 2002 (d:=2) 51 2 rfl rfl rfl (hO ?_);refine rn tk 4 rfl ?_;cases hr;exact krO tk (.inr rfl) rfl rfl
 replace hr:=W4a hr
 refine rn tk 7 rfl<|wo (Vfa (k:=5) rfl zya zMa) rfl<|rn tk 1 rfl ?_;obtain ⟨v2,h3,hr⟩:=zaa hr;refine wo (jka (k:=7) (F:=zba.pc) (xs:=a0) (lim:=4398046511104) 2002 rfl rfl rfl zya zMa rfl rfl (fun _=>rfl) rfl rfl rfl h3) rfl<|rn tk 4 rfl ?_;cases hr;exact krO tk (.inr rfl) rfl rfl
theorem kEa(a0:List zba)(r:List zba)(hr:zqa a0=some r):Run prog 48 [.l zba.pc a0] (.l zba.pc r):=by
 unfold zqa at hr;refine rfx (fn:=Tryz.f48) func48 fun g0 hg=>?_
 refine rn tk 9 rfl ?_;refine Qba (d:=3) (F:=zba.pc) (l:=a0) rfl rfl rfl zya (fun c1=>hO ?_) (hO ?_)
 .replace hr:=W3a c1 hr
  exact kx 10 hr
 replace hr:=W4a hr
 refine rn tk 7 rfl<|wo (Vfa (k:=5) rfl zya zMa) rfl<|rn tk 1 rfl ?_;obtain ⟨v2,h3,hr⟩:=zaa hr;refine wo (jka (k:=7) (F:=zba.pc) (xs:=a0) (lim:=4398046511104) 1002 rfl rfl rfl zya zMa rfl rfl (fun _=>rfl) rfl rfl rfl h3) rfl<|rn tk 3 rfl ?_;refine Zya 1002 rfl (hC ?_);refine kTa (d:=2) (F:=zba.pc) (l:=v2) rfl rfl (hC ?_);exact kx 1 hr
theorem vla(a0:List zia)(r:List zia)(hr:kfa a0=some r):RunO prog 115 [.l zia.pc a0] 137 2 (List.map zia.pc r):=by
 unfold kfa at hr;refine rfO (fn:=Tryz.f115) ⟨func115,rfl,by kernel_rfl⟩ rfl fun g0 hg=>?_
 refine rn tk 3 rfl ?_;refine qYa 1002 (d:=2) 137 2 rfl rfl rfl (hO ?_);refine rn tk 6 rfl ?_;refine Qba (d:=3) (F:=zia.pc) (l:=a0) rfl rfl rfl k6a (fun c1=>hO ?_) (hO ?_)
 .replace hr:=W3a c1 hr
  refine rn tk 6 rfl ?_;refine qYa 2002 (d:=2) 137 2 rfl rfl rfl (hO ?_);refine rn tk 4 rfl ?_;cases hr;exact krO tk (.inr rfl) rfl rfl
 replace hr:=W4a hr
 refine rn tk 7 rfl<|wo (Vfa (k:=5) rfl k6a k1a) rfl<|rn tk 1 rfl ?_;obtain ⟨v2,h3,hr⟩:=zaa hr;refine wo (jka (k:=7) (F:=zia.pc) (xs:=a0) (lim:=4398046511104) 2002 rfl rfl rfl k6a k1a rfl rfl (fun _=>rfl) rfl rfl rfl h3) rfl<|rn tk 4 rfl ?_;cases hr;exact krO tk (.inr rfl) rfl rfl
theorem Q3a(a0:zka)(r:(List zba) × (List UInt8))(hr:y7a a0=some r):Run prog 73 [.agg [.l zba.pc a0.Fields,.l cU a0.Body,.l (zka.pcn 0) a0.Parts]] (.tup [.l zba.pc r.1,.l cU r.2]):=by
 unfold y7a at hr;refine rfx (fn:=f73) func73 fun g0 hg=>?_
 refine rn tk 12 rfl<|wn tk rfl rfl rfl ?_;refine ax 3 16 hr (fun hr=>?_) fun hr=>?_
 .refine dq 1 5 [] [] .nil .nil ?_ mixed;exact kx 5 hr
 refine iq 6 100000 [1] (fn:=f111) ⟨func111,rfl,by kernel_rfl⟩ fun T1 ds1=>?_
 refine rn tk 8 rfl ?_;refine zUa 1005 (d:=5) 23 1 rfl rfl rfl (hO ?_);refine rn tk 6 rfl<|wn tk rfl rfl rfl ?_;refine aq1 4 hr [1,5,8,9] [199999,100001,1] (fun s2=>[(10,.i s2.1)]) (fun s2=>[(1005,.row 23 false 1 (List.map (cL cU) s2.2))]) (.exit 0) [5] [199999,100001,1] (fun _=>[]) (fun b3=>[(1005,.row 23 false 1 (List.map (cL cU) b3))]) (fun s2 x4 hr=>?_) (fun b3 hr=>?_)
 .unfold jta at hr;refine ax 6 11 hr (fun hr=>?_) fun hr=>?_
  .refine rn tk 6 rfl ?_;obtain ⟨v6,h7,hr⟩:=zaa hr;refine wi tk h7 rfl rfl rfl rfl rfl ?_;refine iq 9 400000 [1,8,9,10,14] (fn:=f112) ⟨func112,rfl,by kernel_rfl⟩ fun T4 ds4=>?_
   refine rn tk 2 rfl<|wo (vVa (k:=1) 1001 rfl rfl rfl rfl rfl) rfl ?_;refine clx 6 hr (Q2a _) fun v8 _ hr=>?_
   refine clx 11 hr (Jca _ _) fun v10 _ hr=>?_
   refine ieq 4 (hO ?_);refine wz (cL cU) ([v10]:List (List UInt8)) tk rfl rfl (fun _=>rfl) rfl rfl rfl ?_;obtain ⟨v12,h13,hr⟩:=zaa hr;refine wa tk h13 rfl rfl rfl rfl (fun _=>rfl) rfl rfl ?_;exact cx 8 hr
  exact ox 2 hr
 refine ieq 9 (hO ?_);refine rn tk 6 rfl ?_;refine jia (d:=24) (F:=(cL cU)) (l:=b3) rfl rfl (hO ?_);refine clx 0 hr (JEa _) fun v14 _ hr=>?_
 refine csx 7 hr (wHa a0.Fields) fun v16 _ hr=>?_
 refine rn tk 5 rfl ?_;refine zza 1006 (o:=6) (j:=2) 137 2 rfl rfl rfl rfl (hO ?_);refine rn tk 9 rfl ?_;refine jia (d:=34) (F:=zia.pc) (l:=v16.1.Params) rfl rfl (hO ?_);obtain ⟨v18,h19,hr⟩:=zaa hr;refine wo (VWa (k:=35) 1035 (vla v16.1.Params v18 h19) rfl rfl rfl rfl) rfl<|rn tk 2 rfl<|wz zia.pc ([(zia.mk (([98,111,117,110,100,97,114,121]:Str)) v14)]:List zia) tk rfl rfl (fun _=>rfl) rfl rfl rfl ?_;obtain ⟨v20,h21,hr⟩:=zaa hr;refine wa tk h21 rfl rfl rfl rfl (fun _=>rfl) rfl rfl<|rn tk 8 rfl ?_;obtain ⟨v22,h23,hr⟩:=zaa hr;refine wo (VWa (k:=43) 1043 (kAa a0.Fields v22 h23) rfl rfl rfl rfl) rfl<|rn tk 8 rfl ?_;refine Vea 1035 rfl (hO ?_);refine v2a (d' :=47) (j:=2) (F:=zia.pc) (l:=v20) rfl rfl rfl (hO ?_);refine clx 0 hr (jaa _) fun v24 _ hr=>?_
 refine rn tk 3 rfl ?_;obtain ⟨v26,h27,hr⟩:=zaa hr;refine wih tk h27 rfl rfl rfl rfl rfl<|rn tk 1 rfl ?_;obtain ⟨v28,h29,hr⟩:=zaa hr;refine wo (qZa (F:=zba.pc) (l:=v22) (n:=v16.2.1) (j:=1) (v:=v28) (v' :=((zba.mk v28.Name v24.1))) (pcs:=[pS v24.1]) rfl rfl rfl zoa rfl h29 rfl rfl) rfl<|rn tk 5 rfl ?_;refine zUa 1010 (d:=10) 5 1 rfl rfl rfl (hO ?_);refine rn tk 6 rfl<|wnh tk rfl rfl rfl rfl<|rn tk 4 rfl ?_;refine kTa (d:=53) (F:=(cL cU)) (l:=b3) rfl rfl (hC ?_);refine aq1 0 hr [5,9,10,53,54] [1043] (fun s31=>[(55,.i s31.1)]) (fun s31=>[(1010,.row 5 false 1 (List.map cU s31.2))]) (.exit 0) [5,9,10] [1043] (fun _=>[]) (fun b32=>[(1010,.row 5 false 1 (List.map cU b32))]) (fun s31 x33 hr=>?_) (fun b32 hr=>?_)
 .unfold jua at hr;refine ax 6 56 hr (fun hr=>?_) fun hr=>?_
  .refine rn tk 6 rfl ?_;obtain ⟨v35,h36,hr⟩:=zaa hr;refine wi tk h36 rfl rfl rfl rfl rfl<|rn tk 8 rfl ?_;obtain ⟨v37,h38,hr⟩:=zaa hr;refine wc h38 rfl rfl rfl ?_;obtain ⟨v39,h40,hr⟩:=zaa hr;refine wc h40 rfl rfl rfl ?_;obtain ⟨v41,h42,hr⟩:=zaa hr;refine wo (wJa (k:=63) (l:=s31.2) (s:=v39) (lim:=140737488355328) rfl rfl rfl rfl zra zoa.u zxa rfl h42) rfl<|rn tk 6 rfl ?_;obtain ⟨v43,h44,hr⟩:=zaa hr;refine wa tk h44 rfl rfl rfl rfl (fun _=>rfl) rfl rfl<|wz cU ([(13:UInt8),(10:UInt8)]:List UInt8) tk rfl rfl (fun _=>rfl) rfl rfl rfl ?_;obtain ⟨v45,h46,hr⟩:=zaa hr;refine wa tk h46 rfl rfl rfl rfl (fun _=>rfl) rfl rfl ?_;exact cx 8 hr
  exact ox 2 hr
 refine rn tk 7 rfl ?_;obtain ⟨v47,h48,hr⟩:=zaa hr;refine wc h48 rfl rfl rfl ?_;obtain ⟨v49,h50,hr⟩:=zaa hr;refine wc h50 rfl rfl rfl ?_;obtain ⟨v51,h52,hr⟩:=zaa hr;refine wo (wJa (k:=75) (l:=b32) (s:=v49) (lim:=140737488355328) rfl rfl rfl rfl zra zoa.u zxa rfl h52) rfl<|rn tk 4 rfl ?_;refine Zya 1043 rfl (hC ?_);refine kTa (d:=2) (F:=zba.pc) (l:=((List.set v22 (Int.toNat v16.2.1) ((zba.mk v28.Name v24.1))))) rfl rfl (hC ?_);refine kTa (d:=3) (F:=cU) (l:=v51) rfl rfl (hC ?_);exact kx 1 hr
theorem via(a0:List UInt8)(r:List UInt8)(hr:kja a0=some r):Run prog 49 [.l cU a0] (.l cU r):=by
 unfold kja at hr;refine rfx (fn:=Tryz.f49) func49 fun g0 hg=>?_
 refine rn tk 9 rfl ?_;refine Qba (d:=3) (F:=cU) (l:=a0) rfl rfl rfl zra (fun c1=>hO ?_) (hO ?_)
 .replace hr:=W3a c1 hr
  exact kx 10 hr
 replace hr:=W4a hr
 refine rn tk 7 rfl<|wo (Vfa (k:=5) rfl zra zxa) rfl<|rn tk 1 rfl ?_;obtain ⟨v2,h3,hr⟩:=zaa hr;refine wo (jka (k:=7) (F:=cU) (xs:=a0) (lim:=140737488355328) 1002 rfl rfl rfl zra zxa rfl rfl (fun _=>rfl) rfl rfl rfl h3) rfl<|rn tk 3 rfl ?_;refine Zya 1002 rfl (hC ?_);refine kTa (d:=2) (F:=cU) (l:=v2) rfl rfl (hC ?_);exact kx 1 hr
theorem Wia(a0:zka)(r:zda × zja)(hr:ZHa a0=some r):Run prog 47 [.agg [.l zba.pc a0.Fields,.l cU a0.Body,.l (zka.pcn 0) a0.Parts]] (.tup [.agg [.l zba.pc r.1.Fields,.l cU r.1.Body],.agg [.i r.2.Code,.i r.2.Index]]):=by
 unfold ZHa at hr;refine rfx (fn:=Tryz.f47) func47 fun g0 hg=>?_
 refine clx 11 hr (KMa _) fun v1 _ hr=>?_
 refine clx 7 hr (zha _) fun v3 _ hr=>?_
 refine ax 2 12 hr (fun hr=>?_) fun hr=>?_
 .refine rn tk 1 rfl<|drX 2 3 3 3 [1] [(14,.agg [.i v1.Code,.i v1.Index]),(13,.agg [.pv (.sl (some true) []),.pv (.sl (some true) [])])] [(2,.ptr 2 0),(3,.ptr 3 0),(14,.agg [.i v1.Code,.i v1.Index])] [(4,.cells [.i v1.Code,.i v1.Index]),(3,.cells [.i 0,.i 0]),(2,.cells [.pv (.sl (some true) []),.pv (.sl (some true) [])]),(1,.cells [.l zba.pc a0.Fields,.l cU a0.Body,.l (zka.pcn 0) a0.Parts])] tk mixed (by kernel_rfl) rfl rfl rfl (pqX tk rfl (.plain rfl) (pqX tk rfl (.plain rfl) .nil)) rfl rfl rfl rfl (by kernel_rfl) ?_;exact kx 5 hr
 refine clx 5 hr (Q3a _) fun v6 _ hr=>?_
 refine clx 10 hr (kEa _) fun v8 _ hr=>?_
 refine clx 1 hr (via _) fun v10 _ hr=>?_
 refine clx 9 hr (kca _) fun v12 _ hr=>?_
 refine clx 7 hr (zha _) fun v14 _ hr=>?_
 refine ax 2 28 hr (fun hr=>?_) fun hr=>?_
 .refine clx 5 hr (zga _ _) fun v17 _ hr=>?_
  exact kx 6 hr
 refine rn tk 3 rfl ?_;obtain ⟨v19,h20,hr⟩:=zaa hr;refine drF 1 0 [(33,.agg [.l zba.pc v8,.l cU v10])] [(33,.any)] [(2,.ptr 2 0),(3,.ptr 3 0),(33,.agg [.l zba.pc v8,.l cU v10]),(34,.agg [.i v19.Code,.i v19.Index])] [(8,.cells [.i v12.Code,.i v12.Index]),(7,.cells [.l zba.pc v8,.l cU v10]),(4,.cells [.i v1.Code,.i v1.Index]),(3,.cells [.i 0,.i 0]),(2,.cells [.pv (.sl (some true) []),.pv (.sl (some true) [])]),(1,.cells [.l zba.pc a0.Fields,.l cU a0.Body,.l (zka.pcn 0) a0.Parts])] mixed (by kernel_rfl) rfl rfl rfl rfl rfl (pqF tk rfl (.plain rfl) .nil) rfl rfl rfl rfl rfl (fun hJ=>?_) (fun hJ=>?_) ?_
 .refine cl (zma _ h20) rfl rfl ?_;exact hJ _ _ rfl rfl
 .refine cl (zma _ h20) rfl rfl<|rn tk 1 rfl ?_;exact hJ _ _ rfl rfl
 exact kx 5 hr
theorem Jda(a0:Str)(a1:List zda)(a2:Int)(r:zda × zja)(hr:QWa a0 a1 a2=some r):Run prog 23 [.s a0,.l zda.pc a1,.i a2] (.tup [.agg [.l zba.pc r.1.Fields,.l cU r.1.Body],.agg [.i r.2.Code,.i r.2.Index]]):=by
 unfold QWa at hr;refine rfx (fn:=Tryz.f23) func23 fun g0 hg=>?_
 refine clx 10 hr (Qpa _) fun v1 _ hr=>?_
 refine ax 3 21 hr (fun hr=>?_) fun hr=>?_
 .refine clx 3 hr (zga _ _) fun v4 _ hr=>?_
  exact kx 6 hr
 refine clx 6 hr (ZXa _) fun v6 _ hr=>?_
 refine clx 7 hr (zha _) fun v8 _ hr=>?_
 refine ax 2 27 hr (fun hr=>?_) fun hr=>?_
 .refine rn tk 1 rfl<|drX 2 3 3 3 [1] [(29,.agg [.i v6.Code,.i v6.Index]),(28,.agg [.pv (.sl (some true) []),.pv (.sl (some true) [])])] [(6,.ptr 6 0),(7,.ptr 7 0),(29,.agg [.i v6.Code,.i v6.Index])] [(8,.cells [.i v6.Code,.i v6.Index]),(7,.cells [.i 0,.i 0]),(6,.cells [.pv (.sl (some true) []),.pv (.sl (some true) [])])] tk mixed (by kernel_rfl) rfl rfl rfl (pqX tk rfl (.plain rfl) (pqX tk rfl (.plain rfl) .nil)) rfl rfl rfl rfl (by kernel_rfl) ?_;exact kx 5 hr
 refine clx 5 hr (YZa _ _) fun v11 _ hr=>?_
 refine clx 13 hr (zha _) fun v13 _ hr=>?_
 refine ax 2 36 hr (fun hr=>?_) fun hr=>?_
 .refine clx 5 hr (zga _ _) fun v16 _ hr=>?_
  exact kx 6 hr
 refine clx 5 hr (Y0a _) fun v18 _ hr=>?_
 refine rn tk 15 rfl<|wn tk rfl rfl rfl ?_;refine clx 0 hr (kWa _) fun v20 _ hr=>?_
 refine rn tk 2 rfl<|wz zba.pc ([(zba.mk (([70,114,111,109]:Str)) a0),(zba.mk (([68,97,116,101]:Str)) v18.1),(zba.mk (([88,45,68,105,103,101,115,116]:Str)) v20),(zba.mk (([67,111,110,116,101,110,116,45,84,121,112,101]:Str)) (([109,117,108,116,105,112,97,114,116,47,100,105,103,101,115,116]:Str)))]:List zba) tk rfl rfl (fun _=>rfl) rfl (by kernel_rfl) rfl<|rn tk 2 rfl ?_;refine zza 1013 (o:=13) (j:=2) 35 3 rfl rfl rfl rfl (hO ?_);refine rn tk 1 rfl ?_;refine zza 2013 (o:=13) (j:=2) 35 3 rfl rfl rfl rfl (hO ?_);refine rn tk 6 rfl<|wn tk rfl rfl rfl ?_;refine aq1 4 hr [6,7,10,13,57,58] [10,7] (fun s22=>[(59,.i s22.1)]) (fun s22=>[(2013,.row 35 false 3 (List.map (zka.pcn 0) s22.2)),(13,.cells [.l zba.pc (([(zba.mk (([70,114,111,109]:Str)) a0),(zba.mk (([68,97,116,101]:Str)) v18.1),(zba.mk (([88,45,68,105,103,101,115,116]:Str)) v20),(zba.mk (([67,111,110,116,101,110,116,45,84,121,112,101]:Str)) (([109,117,108,116,105,112,97,114,116,47,100,105,103,101,115,116]:Str)))]:List zba)),.pv (.sl (some true) []),.hs 2013 0]),(6,.cells [.pv (.sl (some true) []),.pv (.sl (some true) [])])]) (.exit 0) [6,7,10,13] [10,7] (fun _=>[]) (fun b23=>[(2013,.row 35 false 3 (List.map (zka.pcn 0) b23)),(13,.cells [.l zba.pc (([(zba.mk (([70,114,111,109]:Str)) a0),(zba.mk (([68,97,116,101]:Str)) v18.1),(zba.mk (([88,45,68,105,103,101,115,116]:Str)) v20),(zba.mk (([67,111,110,116,101,110,116,45,84,121,112,101]:Str)) (([109,117,108,116,105,112,97,114,116,47,100,105,103,101,115,116]:Str)))]:List zba)),.pv (.sl (some true) []),.hs 2013 0]),(6,.cells [.pv (.sl (some true) []),.pv (.sl (some true) [])])]) (fun s22 x24 hr=>?_) (fun b23 hr=>?_)
 .unfold QJa at hr;refine ax 6 60 hr (fun hr=>?_) fun hr=>?_
  .refine rn tk 6 rfl ?_;obtain ⟨v26,h27,hr⟩:=zaa hr;refine wi tk h27 rfl rfl rfl rfl rfl ?_;refine clx 8 hr (wya _) fun v28 _ hr=>?_
   refine rn tk 12 rfl<|wz zba.pc ([(zba.mk (([67,111,110,116,101,110,116,45,84,121,112,101]:Str)) (([109,101,115,115,97,103,101,47,105,116,101,109]:Str)))]:List zba) tk rfl rfl (fun _=>rfl) rfl (by kernel_rfl) rfl<|rn tk 2 rfl<|wz (zka.pcn 0) ([(zka.mk (([(zba.mk (([67,111,110,116,101,110,116,45,84,121,112,101]:Str)) (([109,101,115,115,97,103,101,47,105,116,101,109]:Str)))]:List zba)) v28.1 ([]))]:List zka) tk rfl rfl (fun _=>rfl) rfl (by kernel_rfl) rfl ?_;obtain ⟨v30,h31,hr⟩:=zaa hr;refine wa tk h31 rfl rfl rfl rfl (fun _=>rfl) rfl rfl ?_;exact cx 9 hr
  exact ox 2 hr
 refine rn tk 5 rfl ?_;refine v2a (d' :=79) (j:=2) (F:=(zka.pcn 0)) (l:=b23) rfl rfl rfl (hO ?_);refine clx 0 hr (Wia _) fun v32 _ hr=>?_
 refine clx 12 hr (zha _) fun v34 _ hr=>?_
 refine ax 2 84 hr (fun hr=>?_) fun hr=>?_
 .refine clx 5 hr (zga _ _) fun v37 _ hr=>?_
  exact kx 6 hr
 refine rn tk 3 rfl ?_;obtain ⟨v39,h40,hr⟩:=zaa hr;refine drF 1 0 [(89,.agg [.l zba.pc v32.1.Fields,.l cU v32.1.Body])] [(89,.any)] [(6,.ptr 6 0),(7,.ptr 7 0),(89,.agg [.l zba.pc v32.1.Fields,.l cU v32.1.Body]),(90,.agg [.i v39.Code,.i v39.Index])] [(18,.cells [.l zba.pc v32.1.Fields,.l cU v32.1.Body]),(2013,.row 35 false 3 (List.map (zka.pcn 0) b23)),(13,.cells [.l zba.pc (([(zba.mk (([70,114,111,109]:Str)) a0),(zba.mk (([68,97,116,101]:Str)) v18.1),(zba.mk (([88,45,68,105,103,101,115,116]:Str)) v20),(zba.mk (([67,111,110,116,101,110,116,45,84,121,112,101]:Str)) (([109,117,108,116,105,112,97,114,116,47,100,105,103,101,115,116]:Str)))]:List zba)),.pv (.sl (some true) []),.hs 2013 0]),(10,.cells [.i v32.2.Code,.i v32.2.Index]),(7,.cells [.i 0,.i 0]),(6,.cells [.pv (.sl (some true) []),.pv (.sl (some true) [])])] mixed (by kernel_rfl) rfl rfl rfl rfl rfl (pqF tk rfl (.plain rfl) .nil) rfl rfl rfl rfl rfl (fun hJ=>?_) (fun hJ=>?_) ?_
 .refine cl (zma _ h40) rfl rfl ?_;exact hJ _ _ rfl rfl
 .refine cl (zma _ h40) rfl rfl<|rn tk 1 rfl ?_;exact hJ _ _ rfl rfl
 exact kx 5 hr
theorem KNa(a0:Str)(r:Bool)(hr:vGa a0=some r):Run prog 86 [.s a0] (.bo r):=by
 unfold vGa at hr;refine rfx (fn:=f86) func86 fun g0 hg=>?_
 refine clx 8 hr (ysa _ _) fun v1 _ hr=>?_
 refine clx 11 hr (zha _) fun v3 _ hr=>?_
 exact kx 5 hr
theorem WTa(a0:List zba)(a1:Str)(r:zja)(hr:wSa a0 a1=some r):Run prog 58 [.l zba.pc a0,.s a1] (.agg [.i r.Code,.i r.Index]):=by
 unfold wSa at hr;refine rfx (fn:=f58) func58 fun g0 hg=>?_
 refine clx 9 hr (vMa _) fun v1 _ hr=>?_
 refine clx 7 hr (zha _) fun v3 _ hr=>?_
 refine ax 2 9 hr (fun hr=>?_) fun hr=>?_
 .exact kx 8 hr
 refine clx 6 hr (KNa _) fun v6 _ hr=>?_
 refine ax 3 13 hr (fun hr=>?_) fun hr=>?_
 .refine clx 2 hr (zga _ _) fun v9 _ hr=>?_
  exact kx 5 hr
 refine clx 4 hr zma fun v11 _ hr=>?_
 exact kx 4 hr
theorem JFa(a0:List zba)(a1:Str)(r:(List Str) × zja)(hr:j5a a0 a1=some r):Run prog 38 [.l zba.pc a0,.s a1] (.tup [.l cS r.1,.agg [.i r.2.Code,.i r.2.Index]]):=by
 unfold j5a at hr;refine rfx (fn:=f38) func38 fun g0 hg=>?_
 refine clx 11 hr (WTa _ _) fun v1 _ hr=>?_
 refine clx 7 hr (zha _) fun v3 _ hr=>?_
 refine ax 2 14 hr (fun hr=>?_) fun hr=>?_
 .refine rn tk 1 rfl<|dr 2 [(4,.pv (.sl (some true) [])),(15,.agg [.i v1.Code,.i v1.Index])] mixed (by kernel_rfl) rfl rfl (pq tk rfl (.plain rfl) (pq tk rfl (.plain rfl) .nil)) rfl ?_;exact kx 5 hr
 refine rn tk 5 rfl ?_;refine zUa 1007 (d:=7) 9 1 rfl rfl rfl (hO ?_);refine rn tk 6 rfl<|wn tk rfl rfl rfl<|rn tk 4 rfl<|al1 hr (fun s6=>[(1,.s a1),(5,.ptr 5 0),(7,.hs 1007 0),(16,.l zba.pc a0),(17,.i ((a0.length:Int))),(18,.i s6.1)]) (fun s6=>[(1007,.row 9 false 1 (List.map cS s6.2)),(5,.cells [.i 0,.i 0])]) (.exit 0) (fun b7=>[(5,.ptr 5 0),(7,.hs 1007 0)]) (fun b7=>[(1007,.row 9 false 1 (List.map cS b7)),(5,.cells [.i 0,.i 0])]) rfl rfl (fun s6 x8 hr=>?_) (fun b7 hr=>?_)
 .unfold v4a at hr;refine ax 6 19 hr (fun hr=>?_) fun hr=>?_
  .refine rn tk 2 rfl<|jb hr (fun j10=>[(1,.s a1),(5,.ptr 5 0),(7,.hs 1007 0),(16,.l zba.pc a0),(17,.i ((a0.length:Int))),(18,.i s6.1)]) (fun j10=>[(1007,.row 9 false 1 (List.map cS j10)),(5,.cells [.i 0,.i 0])]) (fun j10 hr=>?_) (fun j10 hr=>?_)
   .refine rn tk 3 rfl ?_;obtain ⟨v11,h12,hr⟩:=zaa hr;refine wi tk h12 rfl rfl rfl rfl rfl ?_;refine clx 10 hr (zWa _ _) fun v13 _ hr=>?_
    refine ax 2 25 hr (fun hr=>?_) fun hr=>?_
    .refine rn tk 4 rfl<|wz cS ([v11.Value]:List Str) tk rfl rfl (fun _=>rfl) rfl rfl rfl ?_;obtain ⟨v16,h17,hr⟩:=zaa hr;refine wa tk h17 rfl rfl rfl rfl (fun _=>rfl) rfl rfl ?_;exact jx 3 hr
    exact jx 2 hr
   exact cx 4 hr
  exact ox 2 hr
 refine clx 5 hr zma fun v18 _ hr=>?_
 refine rn tk 4 rfl ?_;refine kTa (d:=4) (F:=cS) (l:=b7) rfl rfl (hC ?_);exact kx 1 hr
theorem wha(a0:List zba)(a1:Str)(a2:Str)(r:Bool)(hr:qFa a0 a1 a2=some r):Run prog 19 [.l zba.pc a0,.s a1,.s a2] (.bo r):=by
 unfold qFa at hr;refine rfx (fn:=f19) func19 fun g0 hg=>?_
 refine clx 9 hr (JFa _ _) fun v1 _ hr=>?_
 refine jq 8 hr [] [] (fun j3=>[(6,.bo j3)]) (fun _=>[]) (fun j3 hr=>?_) (fun j3 hr=>?_)
 .refine rn tk 2 rfl<|wn tk rfl rfl rfl ?_;refine bx 2 18 hr (fun c4 hr=>?_) fun c4 hr=>?_
  .refine rn tk 1 rfl ?_;obtain ⟨v5,h6,hr⟩:=zaa hr;refine ug rfl rfl rfl<|wi tk h6 rfl rfl rfl rfl rfl ?_;exact jx 6 hr
  exact jx 8 hr
 exact kx 1 hr
theorem KOa(a0:List UInt8)(a1:List UInt8)(r:Bool)(hr:qza a0 a1=some r):Run prog 42 [.l cU a0,.l cU a1] (.bo r):=by
 unfold qza at hr;refine rfx (fn:=f42) func42 fun g0 hg=>?_
 refine rn tk 8 rfl<|wb tk rfl rfl rfl<|rn tk 1 rfl<|wb tk rfl rfl rfl ?_;exact kx 5 hr
section
open Go.Shelf Go.RowKit Go.Lib Go.Proofs.Tryz
theorem qPb(d o c:Nat)(w:World)(s0:w.cell? ⟨d,o,none⟩=some (.string ⟨#[0]⟩))(s1:w.cell? ⟨d,o+1,none⟩=some (.string ⟨#[32]⟩))(s2:w.cell? ⟨d,o+2,none⟩=some (.string ⟨#[13]⟩))(s3:w.cell? ⟨d,o+3,none⟩=some (.string ⟨#[32]⟩)):
 Calls prog 95 #[.slice (some ⟨d,o,none⟩) 4 c] w fun e w' =>∃(cap:Nat) (z:Array Value),e=.returned (.pointer (some ⟨w.heap.size+1,0,none⟩))/\
  w' =((w.alloc (.cells (#[Value.string ⟨#[0]⟩,.string ⟨#[32]⟩,.string ⟨#[13]⟩,.string ⟨#[32]⟩]++z) 9)).alloc (.cells #[.int .u32 0,.int .i32 0,.int .u32 0,.nilIface,.slice (some ⟨w.heap.size,0,none⟩) 4 cap] 209)).drew:=by
 go_enter func95,Tryz.ntmps95
 go_wp2
 go_ret
 exact ⟨_,_,rfl,rfl⟩
theorem yHb{g:G}{v:Value}(h:Rel g (.l cS [[0],[32],[13],[32]]) v):∃d o c,v=.slice (some ⟨d,o,none⟩) 4 c/\g.w.cell? ⟨d,o,none⟩=some (.string ⟨#[0]⟩)/\g.w.cell? ⟨d,o+1,none⟩=some (.string ⟨#[32]⟩)/\g.w.cell? ⟨d,o+2,none⟩=some (.string ⟨#[13]⟩)/\g.w.cell? ⟨d,o+3,none⟩=some (.string ⟨#[32]⟩):=by
 cases h with
 | pv h=>
  unfold pL at h;generalize hE:List.map cS [[0],[32],[13],[32]]=elems at h;cases h with
  | @sl _ _ a cap size b off val hn h0 hc hz ha hu hcell h=>
   have hne:elems≠ []:=by rw[<-hE];simp
   have hs1:size=1:=by
    have:=hz (cS [0]) (by rw[<-hE];simp);simpa[cS]using this.symm
   subst hs1;have hlen:elems.length=4:=by rw[<-hE];rfl
   have key:∀(i:Nat) (s:Str),elems[i]? =some (cS s)->g.w.cell? ⟨b,off+i,none⟩=some (.string (strB s)):=fun i s hi=>by
    have hil:=(jAd.1 hi).1;rw[hcell i (by omega)];have:=h i 0 _ (.b (.string (strB s))) hi rfl;simp only[jCz,jBy]at this;rw[zKa (g:=g) (.pv this)]
   refine ⟨b,off,cap,by rw[ha hne,hlen],key 0 [0] (by rw[<-hE];rfl),key 1 [32] (by rw[<-hE];rfl),key 2 [13] (by rw[<-hE];rfl),key 3 [32] (by rw[<-hE];rfl)⟩
theorem ZRa(k:Nat):RunS prog 95 [.l cS [[0],[32],[13],[32]]] [] (.ptr k 0) [(k,.opq 0 5 RpQ)] k [k]:=by
 refine ⟨⟨_,_,⟨func95,rfl,by kernel_rfl⟩⟩,by simp[Sto.okS],by simp[Sto.okS,AO.okS],fun g vs hw hg ho ha=>?_⟩;obtain ⟨hsz,hrel⟩:=ha;obtain ⟨vl⟩:=vs
 match vl,hsz with
 | [x],_=>
  obtain ⟨d,o,c,hx,s0,s1,s2,s3⟩:=yHb (hrel 0 _ rfl);have hx:x=.slice (some ⟨d,o,none⟩) 4 c:=hx;subst hx;refine callsIn_wide.2 ((qPb d o c g.w s0 s1 s2 s3).mono ?_);rintro e w' ⟨cap,z,rfl,rfl⟩;generalize hC: #[Value.string ⟨#[0]⟩,.string ⟨#[32]⟩,.string ⟨#[13]⟩,.string ⟨#[32]⟩]++z=C;generalize hV: #[Value.int .u32 0,.int .i32 0,.int .u32 0,.nilIface,.slice (some ⟨g.w.heap.size,0,none⟩) 4 cap]=V;have hz:∀q,q < g.w.heap.size->(((g.w.alloc (.cells C 9)).alloc (.cells V 209)).drew).heap[q]? =g.w.heap[q]? :=fun q hq=>by
   show (World.alloc _ _).heap[q]? =_;rw[Below.heap_alloc _ _ _ (by simp;omega),Below.heap_alloc _ _ _ hq]
  have h1:(((g.w.alloc (.cells C 9)).alloc (.cells V 209)).drew).heap[g.w.heap.size]? =some (.cells C 9 (0,0)):=by
   show (World.alloc _ _).heap[_]? =_;rw[Below.heap_alloc _ _ _ (by simp)];exact heap_alloc_new g.w _
  have h2:(((g.w.alloc (.cells C 9)).alloc (.cells V 209)).drew).heap[g.w.heap.size+1]? =some (.cells V 209 (0,0)):=by
   show (World.alloc _ _).heap[_]? =_;have:=heap_alloc_new (g.w.alloc (.cells C 9)) (.cells V 209);simpa using this
  have hsize:(((g.w.alloc (.cells C 9)).alloc (.cells V 209)).drew).heap.size=g.w.heap.size+2:=by simp
  generalize hW:((g.w.alloc (.cells C 9)).alloc (.cells V 209)).drew=W at hz h1 h2 hsize;have hos:W.os=g.w.os/\W.tape=g.w.tape/\W.output=g.w.output:=by subst hW;exact ⟨rfl,rfl,rfl⟩
  have hcell:∀i,W.cell? ⟨g.w.heap.size,i,none⟩=C[i]? :=fun i=>by simp[World.cell?,h1]
  have hget:∀o ob,Sto.get [(k,AO.opq 0 5 RpQ)] o=some ob->o=k/\ob=.opq 0 5 RpQ:=fun o ob h=>by
   rw[Sto.get_cons]at h;split at h
   .rename_i e;exact ⟨e.symm,(Option.some.inj h).symm⟩
   cases h
  have hq:RpQ W (fun q=>if q=g.w.heap.size then 4 else if q=g.w.heap.size+1 then 0 else g.u q) V:=by
   subst hV hC;refine .inl ⟨rfl,rfl,rfl,g.w.heap.size,0,cap,rfl,by omega,jBm (if_pos rfl).symm,?_,?_,?_,?_⟩;all_goals (rw[hcell,jAw (by simp)];rfl)
  have huk:∀q,q < g.w.heap.size->(if q=g.w.heap.size then 4 else if q=g.w.heap.size+1 then 0 else g.u q)=g.u q:=fun q hq=>by rw[if_neg (by omega),if_neg (by omega)]
  refine ⟨⟨W,fun q=>if q=g.w.heap.size then 4 else if q=g.w.heap.size+1 then 0 else g.u q,fun q=>if q=k then .blk (g.w.heap.size+1) else g.loc q⟩,_,rfl,fun q hq=>if_neg (by simpa using hq),
   ⟨hos.1,hos.2.1,hos.2.2,⟨by show g.w.heap.size<=W.heap.size;omega,fun q hq=>jBm (huk q hq).symm,fun q i hq _=>by simp only[World.cell?];rw[hz q hq],fun r hr=>(hz r (zVa hr)).trans hr⟩,fun q hq _=>⟨hz q hq,huk q hq⟩⟩,fun q hq=>?_,rfl,.ptr (if_pos rfl),?_,?_,?_⟩
  .have hq:W.heap.size<=q:=hq;show (if q=g.w.heap.size then 4 else if q=g.w.heap.size+1 then 0 else g.u q)=0;rw[if_neg (by omega),if_neg (by omega)];exact hw q (by omega)
  .intro o ob h;obtain ⟨rfl,rfl⟩:=hget o ob h;refine .opq (if_pos rfl) h2 (by subst hV;rfl) ?_ fun w' u' hx' =>hq.mono hx'
   show (if g.w.heap.size+1=g.w.heap.size then 4 else if g.w.heap.size+1=g.w.heap.size+1 then 0 else g.u _)=0;rw[if_neg (by omega),if_pos rfl]
  .intro o o' ob ob' b' h1 h2 _ _;rw[(hget o ob h1).1,(hget o' ob' h2).1]
  intro o ob b' h1 h2;obtain ⟨rfl,rfl⟩:=hget o ob h1;have h2:AO.own (.opq 0 5 RpQ) (if o=o then .blk (g.w.heap.size+1) else g.loc o) b' :=h2;rw[if_pos rfl]at h2;have h2:some (g.w.heap.size+1)=some b' :=h2;cases h2;exact .inl (by omega)
end
theorem qQb{g:G}{s:Str}{v:Value}(h:Rel g (.s s) v):v=.string (strB s):=zKa h
theorem vXb{g:G}{w' :World}(h:Below g.w.heap.size g.w w'):Old (fun _=>False) g ⟨w',g.u,g.loc⟩:=
 ⟨h.os,h.tape,h.output,⟨h.size,fun _ _=>jAm _,fun k i hk _=>by simp only[World.cell?];rw[h.block k hk],fun r hr=>(h.block r (zVa hr)).trans hr⟩,fun k hk _=>⟨h.block k hk,rfl⟩⟩
theorem WUa(s t:Str)(r:Str)(hr:wXa s t=some r):Run prog 96 [.s s,.s t] (.s r):=by
 unfold wXa at hr;split at hr
 case isFalse=>cases hr
 rename_i hc;obtain ⟨h1,h2,h3⟩:=hc;cases hr;refine ⟨⟨_,_,⟨func96,rfl,by kernel_rfl⟩⟩,fun g vs hw hg ha=>?_⟩;obtain ⟨hsz,hrel⟩:=ha;obtain ⟨l⟩:=vs
 match l,hsz with
 | [x,y],_=>
  obtain rfl:=qQb (hrel 0 _ rfl);obtain rfl:=qQb (hrel 1 _ rfl);have h116:(prog.info? 212).map (fun i=>(i.zero,i.size))=some (some (.agg (Array.replicate 256 (.bool false))),256):=by kernel_rfl
  refine callsIn_wide.2 ((Any.strings_Trim_laid Tryz.lays160 h116 (strB s) (strB t) g.w (by rw[zta];exact h1) (by rw[zta];exact h2) (ascii_of_all (by simpa[J3a,strB]using h3))).mono ?_);rintro e w' ⟨rfl,hb⟩;refine ⟨⟨w',g.u,g.loc⟩,_,rfl,(by intros;rfl),vXb hb,fun k hk=>hw k (jAt hb.size hk),rfl,?_⟩;rw[show (strB s).data.toList=s by simp[strB],show (strB t).data.toList=t by simp[strB]];exact .pv (.b rfl)
theorem Wja(a0:Str)(r:zba × Bool)(hr:v8a a0=some r):Run prog 94 [.s a0] (.tup [.agg [.s r.1.Name,.s r.1.Value],.bo r.2]):=by
 unfold v8a at hr;refine rfx (fn:=f94) func94 fun g0 hg=>?_
 refine clx 9 hr (y8a _ _) fun v1 _ hr=>?_
 refine clx 12 hr (w7a _ _) fun v3 _ hr=>?_
 refine jq 3 hr [2] [] (fun j5=>[(3,.bo j5)]) (fun _=>[(2,.cells [.s v3,.s v1.2.1])]) (fun j5 hr=>?_) (fun j5 hr=>?_)
 .refine bx 6 19 hr (fun c6 hr=>?_) fun c6 hr=>?_
  .refine rn tk 1 rfl ?_;obtain ⟨v7,h8,hr⟩:=zaa hr;refine ug rfl rfl rfl<|cl (KNa _ _ h8) rfl rfl ?_;exact jx 4 hr
  exact jx 6 hr
 exact kx 1 hr
theorem yIb{g:G}{l:List UInt8}{v:Value}(h:Rel g (.l cU l) v):∀n cap,v=.slice none n cap->n=0/\cap=0:=by
 intro n cap e;cases h with
 | pv h=>
  unfold pL at h;generalize l.map cU=elems at h;cases h with
  | @sl _ _ a cap2 size b off val hn h0 hc hz ha hu hcell h=>
   cases e;obtain ⟨h1,h2⟩:=h0 rfl;exact ⟨by rw[h2];rfl,h1⟩
theorem Q4a(a:List UInt8)(c:UInt8)(r:Int)(hr:qsa a c=some r):Run prog 132 [.l cU a,.u8 c] (.i r):=by
 unfold qsa at hr;cases hr;refine ⟨⟨_,_,⟨func132,rfl,by kernel_rfl⟩⟩,fun g vs hw hg ha=>?_⟩;obtain ⟨hsz,hrel⟩:=ha;obtain ⟨l⟩:=vs
 match l,hsz with
 | [x,y],_=>
  have h0:Rel g (.l cU a) x:=hrel 0 _ rfl;obtain rfl:y=.int .u8 (c.toNat:Int):=zKa (hrel 1 _ rfl);obtain ⟨ad,cap,rfl,hcap,hcell⟩:=Q0a h0;refine callsIn_wide.2 ?_
  suffices hs:Calls prog 132 #[.slice ad a.length cap,.int .u8 (c.toNat:Int)] g.w fun e w' =>e=.returned (.int .i64 (Lib.indexByte a c))/\w' =g.w by
   refine hs.mono ?_;rintro e w' ⟨rfl,rfl⟩;exact ⟨g,_,rfl,(by intros;rfl),Old.refl _ g,hw,rfl,.pv (.b rfl)⟩
  by_cases hs:a=[]
  .subst hs;cases ad with
   | none=>
    obtain ⟨_,rfl⟩:=yIb h0 _ _ rfl;exact Tryz.bytes_IndexByte_nil _ g.w
   | some ad=>
    have:=Tryz.bytes_IndexByte_at ad 0 cap [] (c.toNat:Int) g.w rfl (fun i hi=>by omega);simpa[Lib.bytesOf]using this
  obtain ⟨b1,o1,rfl,hc1⟩:=hcell hs;have:=Tryz.bytes_IndexByte_at ⟨b1,o1,none⟩ a.length cap (nums a) (c.toNat:Int) g.w (by simp[nums]) hc1;rw[Wfa]at this;simpa using this
theorem Q5a(a0:List UInt8)(a1:List UInt8)(r:Bool)(hr:kNa a0 a1=some r):Run prog 170 [.l cU a0,.l cU a1] (.bo r):=by
 unfold kNa at hr;refine rfx (fn:=Tryz.f170) func170 fun g0 hg=>?_
 refine jq 5 hr [] [] (fun j1=>[(4,.bo j1)]) (fun _=>[]) (fun j1 hr=>?_) (fun j1 hr=>?_)
 .refine rn tk 2 rfl<|wn tk rfl rfl rfl<|rn tk 1 rfl<|wn tk rfl rfl rfl ?_;refine bx 2 10 hr (fun c2 hr=>?_) fun c2 hr=>?_
  .refine rn tk 2 rfl<|ug rfl rfl rfl<|wn tk rfl rfl rfl<|rn tk 1 rfl<|ug rfl rfl rfl<|wn tk rfl rfl rfl<|rn tk 1 rfl ?_;obtain ⟨v3,h4,hr⟩:=zaa hr;refine ug rfl rfl rfl<|wlL tk h4 rfl rfl rfl (fun _=>rfl) rfl<|rn tk 1 rfl ?_;obtain ⟨v5,h6,hr⟩:=zaa hr;refine ug rfl rfl rfl<|cl (KOa _ _ _ h6) rfl rfl ?_;exact jx 3 hr
  exact jx 12 hr
 exact kx 1 hr
theorem Qsa(a0:List UInt8)(a1:List UInt8)(r:List UInt8)(hr:kya a0 a1=some r):Run prog 133 [.l cU a0,.l cU a1] (.l cU r):=by
 unfold kya at hr;refine rfx (fn:=f133) func133 fun g0 hg=>?_
 refine clx 10 hr (Q5a _ _) fun v1 _ hr=>?_
 refine ax 2 7 hr (fun hr=>?_) fun hr=>?_
 .refine rn tk 4 rfl<|wn tk rfl rfl rfl<|rn tk 1 rfl<|wn tk rfl rfl rfl<|rn tk 1 rfl ?_;obtain ⟨v4,h5,hr⟩:=zaa hr;refine wlH tk h5 rfl rfl rfl (fun _=>rfl) rfl ?_;exact kx 5 hr
 exact kx 9 hr
theorem Jea(a0:List UInt8)(r:Str × Int)(hr:yYa a0=some r):Run prog 92 [.l cU a0] (.tup [.s r.1,.i r.2]):=by
 unfold yYa at hr;refine rfx (fn:=f92) func92 fun g0 hg=>?_
 refine clx 9 hr (Q4a _ _) fun v1 _ hr=>?_
 refine ax 10 8 hr (fun hr=>?_) fun hr=>?_
 .refine rn tk 3 rfl<|wb tk rfl rfl rfl<|rn tk 1 rfl<|wn tk rfl rfl rfl ?_;exact kx 6 hr
 refine rn tk 6 rfl ?_;obtain ⟨v4,h5,hr⟩:=zaa hr;refine wlH tk h5 rfl rfl rfl (fun _=>rfl) rfl ?_;refine jja rfl (Vda (F:=cU) (l:=([(13:UInt8)]:List UInt8)) zra zxa rfl (fun _=>rfl) rfl rfl) zra zxa (z1a rfl) (z1a rfl) rfl (hO ?_);refine clx 0 hr (Qsa _ _) fun v6 _ hr=>?_
 refine wb tk rfl rfl rfl ?_;exact kx 7 hr
theorem KPa(a0:List UInt8)(r:(List zba) × Int × zja)(hr:vIa a0=some r):Run prog 61 [.l cU a0] (.tup [.l zba.pc r.1,.i r.2.1,.agg [.i r.2.2.Code,.i r.2.2.Index]]):=by
 unfold vIa at hr;refine rfx (fn:=f61) func61 fun g0 hg=>?_
 refine rn tk 11 rfl<|wn tk rfl rfl rfl ?_;refine ax 3 16 hr (fun hr=>?_) fun hr=>?_
 .refine clx 2 hr (zga _ _) fun v2 _ hr=>?_
  exact kx 7 hr
 refine rn tk 5 rfl ?_;refine qYa 1005 (d:=5) 51 2 rfl rfl rfl (hO ?_);refine aq1 9 hr [0,4,5] [4] (fun s4=>[(6,.i s4.1)]) (fun s4=>[(1005,.row 51 true 2 (List.map zba.pc s4.2))]) (.exit 0) [4,5] [4] (fun b5=>[(6,.i b5.1)]) (fun b5=>[(1005,.row 51 true 2 (List.map zba.pc b5.2))]) (fun s4 x6 hr=>?_) (fun b5 hr=>?_)
 .unfold vsa at hr;refine rn tk 5 rfl<|wn tk rfl rfl rfl ?_;refine ax 3 21 hr (fun hr=>?_) fun hr=>?_
  .refine rn tk 7 rfl ?_;obtain ⟨v8,h9,hr⟩:=zaa hr;refine wlL tk h9 rfl rfl rfl (fun _=>rfl) rfl ?_;refine clx 0 hr (Jea _) fun v10 _ hr=>?_
   refine ax 14 30 hr (fun hr=>?_) fun hr=>?_
   .exact ox 11 hr
   refine jq 3 hr [0,4,5,6,7,8] [1005,4] (fun j13=>[(41,.bo j13)]) (fun _=>[]) (fun j13 hr=>?_) (fun j13 hr=>?_)
   .refine rn tk 2 rfl ?_;obtain ⟨v14,h15,hr⟩:=zaa hr;refine ws tk h15 rfl rfl rfl rfl ?_;refine clx 0 hr (q8a _) fun v16 _ hr=>?_
    refine bx 1 37 hr (fun c18 hr=>?_) fun c18 hr=>?_
    .refine rn tk 1 rfl<|ug rfl rfl rfl<|wnh tk rfl rfl rfl rfl ?_;exact jx 3 hr
    exact jx 5 hr
   refine ax 0 41 hr (fun hr=>?_) fun hr=>?_
   .refine rn tk 4 rfl<|wnh tk rfl rfl rfl rfl<|rn tk 1 rfl ?_;obtain ⟨v20,h21,hr⟩:=zaa hr;refine wih tk h21 rfl rfl rfl rfl rfl<|rn tk 1 rfl ?_;obtain ⟨v22,h23,hr⟩:=zaa hr;refine wq (v1a (F:=zba.pc) (l:=s4.2) (n:=((w64 ((s4.2.length:Int) - 1)))) (j:=1) rfl rfl zoa rfl h23 rfl) rfl rfl rfl<|rn tk 1 rfl ?_;obtain ⟨v24,h25,hr⟩:=zaa hr;refine wc h25 rfl rfl rfl ?_;obtain ⟨v26,h27,hr⟩:=zaa hr;refine wih tk h27 rfl rfl rfl rfl rfl<|rn tk 1 rfl ?_;obtain ⟨v28,h29,hr⟩:=zaa hr;refine wo (qZa (F:=zba.pc) (l:=s4.2) (n:=((w64 ((s4.2.length:Int) - 1)))) (j:=1) (v:=v28) (v' :=((zba.mk v28.Name v24))) (pcs:=[pS v24]) rfl rfl rfl zoa rfl h29 rfl rfl) rfl ?_;exact cx 13 hr
   refine clx 5 hr (Wja _) fun v30 _ hr=>?_
   refine ax 15 62 hr (fun hr=>?_) fun hr=>?_
   .exact ox 3 hr
   refine rn tk 6 rfl<|wz zba.pc ([v30.1]:List zba) tk rfl rfl (fun _=>rfl) rfl rfl rfl ?_;obtain ⟨v33,h34,hr⟩:=zaa hr;refine wa tk h34 rfl rfl rfl rfl (fun _=>rfl) rfl rfl ?_;exact cx 10 hr
  exact ox 2 hr
 refine rn tk 6 rfl<|wnh tk rfl rfl rfl rfl ?_;refine ax 3 72 hr (fun hr=>?_) fun hr=>?_
 .refine clx 2 hr (zga _ _) fun v36 _ hr=>?_
  exact kx 7 hr
 refine rn tk 4 rfl<|wz cS ([([0]:Str),([32]:Str),([13]:Str),([32]:Str)]:List Str) tk rfl rfl (fun _=>rfl) rfl rfl rfl<|wo (Qca (k:=75) (ZRa 7075) rfl rfl kXa) rfl<|rn tk 7 rfl<|wnh tk rfl rfl rfl rfl ?_;refine aq2 4 hr [4,5,6,11,77] [7075,4] (fun s38=>[(78,.i s38.1)]) (fun s38=>[(1005,.row 51 true 2 (List.map zba.pc s38.2))]) (.exit 2) [4,5,6] [4] (fun _=>[]) (fun b39=>[(1005,.row 51 true 2 (List.map zba.pc b39))]) .ret [4] [] (fun b40=>[(2,.l zba.pc b40.1),(3,.i b40.2.1)]) (fun b40=>[(4,.cells [.i b40.2.2.Code,.i b40.2.2.Index])]) (fun s38 x42 hr=>?_) (fun b39 hr=>?_) (fun b40 hr=>?_)
 .unfold vta at hr;refine ax 6 79 hr (fun hr=>?_) fun hr=>?_
  .refine rn tk 15 rfl ?_;obtain ⟨v44,h45,hr⟩:=zaa hr;refine wih tk h45 rfl rfl rfl rfl rfl<|rn tk 1 rfl ?_;obtain ⟨v46,h47,hr⟩:=zaa hr;refine wq (v1a (F:=zba.pc) (l:=s38.2) (n:=s38.1) (j:=1) rfl rfl zoa rfl h47 rfl) rfl rfl rfl ?_;refine csx 0 hr (yua 7075 v46.Value) fun v48 _ hr=>?_
   refine clx 0 hr (WUa _ _) fun v50 _ hr=>?_
   refine ax 11 91 hr (fun hr=>?_) fun hr=>?_
   .refine clx 3 hr (zga _ _) fun v53 _ hr=>?_
    exact ox 9 hr
   refine rn tk 6 rfl ?_;obtain ⟨v55,h56,hr⟩:=zaa hr;refine wih tk h56 rfl rfl rfl rfl rfl<|rn tk 1 rfl ?_;obtain ⟨v57,h58,hr⟩:=zaa hr;refine wo (qZa (F:=zba.pc) (l:=s38.2) (n:=s38.1) (j:=1) (v:=v57) (v' :=((zba.mk v57.Name v50))) (pcs:=[pS v50]) rfl rfl rfl zoa rfl h58 rfl rfl) rfl ?_;exact cx 7 hr
  exact ox 2 hr
 .refine clx 6 hr zma fun v59 _ hr=>?_
  refine rn tk 5 rfl ?_;refine Zya 1005 rfl (hC ?_);refine kTa (d:=2) (F:=zba.pc) (l:=b39) rfl rfl (hC ?_);exact kx 1 hr
 exact kx 2 hr
theorem Wka(a0:List UInt8)(r:List UInt8)(hr:v9a a0=some r):Run prog 62 [.l cU a0] (.l cU r):=by
 unfold v9a at hr;refine rfx (fn:=f62) func62 fun g0 hg=>?_
 refine rn tk 8 rfl ?_;refine zUa 1003 (d:=3) 5 1 rfl rfl rfl (hO ?_);refine aq1 9 hr [0,3] [] (fun s1=>[(4,.i s1.1)]) (fun s1=>[(1003,.row 5 false 1 (List.map cU s1.2))]) (.exit 0) [3] [] (fun _=>[]) (fun b2=>[(1003,.row 5 false 1 (List.map cU b2))]) (fun s1 x3 hr=>?_) (fun b2 hr=>?_)
 .unfold qMa at hr;refine rn tk 5 rfl<|wn tk rfl rfl rfl ?_;refine ax 3 8 hr (fun hr=>?_) fun hr=>?_
  .refine jq 2 hr [0,3] [] (fun j5=>[(4,.i j5.1)]) (fun j5=>[(1003,.row 5 false 1 (List.map cU j5.2))]) (fun j5 hr=>?_) (fun j5 hr=>?_)
   .refine jq 2 hr [0,3,4] [1003] (fun j6=>[(18,.bo j6)]) (fun _=>[]) (fun j6 hr=>?_) (fun j6 hr=>?_)
    .refine rn tk 3 rfl ?_;obtain ⟨v7,h8,hr⟩:=zaa hr;refine wi tk h8 rfl rfl rfl rfl rfl ?_;refine bx 3 24 hr (fun c9 hr=>?_) fun c9 hr=>?_
     .refine rn tk 3 rfl<|ug rfl rfl rfl<|wn tk rfl rfl rfl ?_;refine bx 3 31 hr (fun c10 hr=>?_) fun c10 hr=>?_
      .refine rn tk 3 rfl ?_;obtain ⟨v11,h12,hr⟩:=zaa hr;refine ug rfl rfl rfl<|wi tk h12 rfl rfl rfl rfl rfl ?_;exact jx 5 hr
      exact jx 9 hr
     exact jx 16 hr
    refine ax 0 18 hr (fun hr=>?_) fun hr=>?_
    .refine rn tk 9 rfl<|wz cU ([(13:UInt8),(10:UInt8)]:List UInt8) tk rfl rfl (fun _=>rfl) rfl rfl rfl ?_;obtain ⟨v14,h15,hr⟩:=zaa hr;refine wa tk h15 rfl rfl rfl rfl (fun _=>rfl) rfl rfl ?_;exact jx 4 hr
    refine jq 0 hr [0,3,4] [1003] (fun j16=>[(44,.bo j16)]) (fun _=>[]) (fun j16 hr=>?_) (fun j16 hr=>?_)
    .refine rn tk 3 rfl ?_;obtain ⟨v17,h18,hr⟩:=zaa hr;refine wi tk h18 rfl rfl rfl rfl rfl ?_;refine bx 3 50 hr (fun c19 hr=>?_) fun c19 hr=>?_
     .exact jx 8 hr
     refine rn tk 2 rfl ?_;obtain ⟨v20,h21,hr⟩:=zaa hr;refine ug rfl rfl rfl<|wi tk h21 rfl rfl rfl rfl rfl ?_;exact jx 5 hr
    refine ax 0 44 hr (fun hr=>?_) fun hr=>?_
    .refine rn tk 2 rfl<|wz cU ([(13:UInt8),(10:UInt8)]:List UInt8) tk rfl rfl (fun _=>rfl) rfl rfl rfl ?_;obtain ⟨v23,h24,hr⟩:=zaa hr;refine wa tk h24 rfl rfl rfl rfl (fun _=>rfl) rfl rfl ?_;exact jx 4 hr
    refine rn tk 4 rfl ?_;obtain ⟨v25,h26,hr⟩:=zaa hr;refine wi tk h26 rfl rfl rfl rfl rfl<|rn tk 1 rfl<|wz cU ([v25]:List UInt8) tk rfl rfl (fun _=>rfl) rfl rfl rfl ?_;obtain ⟨v27,h28,hr⟩:=zaa hr;refine wa tk h28 rfl rfl rfl rfl (fun _=>rfl) rfl rfl ?_;exact jx 4 hr
   exact cx 5 hr
  exact ox 2 hr
 refine rn tk 8 rfl ?_;refine kTa (d:=2) (F:=cU) (l:=b2) rfl rfl (hC ?_);exact kx 1 hr
theorem WVa(a0:List UInt8)(r:zda × zja)(hr:wYa a0=some r):Run prog 40 [.l cU a0] (.tup [.agg [.l zba.pc r.1.Fields,.l cU r.1.Body],.agg [.i r.2.Code,.i r.2.Index]]):=by
 unfold wYa at hr;refine rfx (fn:=f40) func40 fun g0 hg=>?_
 refine clx 9 hr (KPa _) fun v1 _ hr=>?_
 refine clx 14 hr (zha _) fun v3 _ hr=>?_
 refine ax 2 16 hr (fun hr=>?_) fun hr=>?_
 .refine mdq 1 [] [2,3] .nil ?_ mixed;exact kx 3 hr
 refine rn tk 7 rfl ?_;obtain ⟨v6,h7,hr⟩:=zaa hr;refine wlL tk h7 rfl rfl rfl (fun _=>rfl) rfl ?_;refine clx 0 hr (Wka _) fun v8 _ hr=>?_
 refine clx 9 hr (kca _) fun v10 _ hr=>?_
 refine clx 7 hr (zha _) fun v12 _ hr=>?_
 refine ax 2 28 hr (fun hr=>?_) fun hr=>?_
 .refine mdq 1 [] [2,3] .nil ?_ mixed;exact kx 3 hr
 refine rn tk 3 rfl ?_;obtain ⟨v15,h16,hr⟩:=zaa hr;refine mdq 0 [(1,.agg [.i v15.Code,.i v15.Index])] [2,3] (.cons rfl rfl (fun _ _=>(zua (zma v15 h16) rfl)) .nil) ?_ mixed;exact kx 2 hr
theorem Jfa{G:zka->List PV}(a0:zka)(r:zda × Bool)(hr:y5a a0=some r):Run prog 22 [.agg [.l zba.pc a0.Fields,.l cU a0.Body,.l G a0.Parts]] (.tup [.agg [.l zba.pc r.1.Fields,.l cU r.1.Body],.bo r.2]):=by
 unfold y5a at hr;refine rfx (fn:=Tryz.f22) func22 fun g0 hg=>?_
 refine jq 8 hr [1,2] [1] (fun j1=>[(16,.bo j1)]) (fun _=>[(2,.cells [.pv (.sl (some true) []),.pv (.sl (some true) [])])]) (fun j1 hr=>?_) (fun j1 hr=>?_)
 .refine rn tk 3 rfl<|wn tk rfl rfl rfl ?_;refine bx 2 11 hr (fun c2 hr=>?_) fun c2 hr=>?_
  .exact jx 6 hr
  refine rn tk 2 rfl ?_;obtain ⟨v3,h4,hr⟩:=zaa hr;refine ug rfl rfl rfl<|cl (wha _ _ _ _ h4) rfl rfl ?_;exact jx 3 hr
 refine ax 0 16 hr (fun hr=>?_) fun hr=>?_
 .exact kx 9 hr
 refine clx 6 hr (WVa _) fun v6 _ hr=>?_
 refine clx 13 hr (zha _) fun v8 _ hr=>?_
 refine ax 2 25 hr (fun hr=>?_) fun hr=>?_
 .exact kx 9 hr
 refine clx 5 hr (wya _) fun v11 _ hr=>?_
 refine jq 7 hr [2] [] (fun j13=>[(3,.bo j13)]) (fun _=>[(2,.cells [.l zba.pc v6.1.Fields,.l cU v6.1.Body])]) (fun j13 hr=>?_) (fun j13 hr=>?_)
 .obtain ⟨v14,h15,hr⟩:=zaa hr;refine kFa ((!v14)) (fun c16=>?_) (fun c16=>?_)
  .replace hr:=jVa c16 hr
   obtain ⟨v17,h18,hr⟩:=zaa hr;refine drX 10 11 3 3 [9] [(41,.bo v17),(40,.bo v17),(39,.l cU a0.Body),(38,.ptr 1 1),(37,.l cU v11.1),(36,.bo true),(35,.bo ((!v14))),(34,.bo v14),(33,.agg [.i v11.2.Code,.i v11.2.Index]),(32,.agg [.l zba.pc v6.1.Fields,.l cU v6.1.Body])] [(2,.ptr 2 0),(41,.bo v17)] [(5,.cells [.i v11.2.Code,.i v11.2.Index]),(4,.cells [.l zba.pc v6.1.Fields,.l cU v6.1.Body]),(2,.cells [.l zba.pc v6.1.Fields,.l cU v6.1.Body]),(1,.cells [.l zba.pc a0.Fields,.l cU a0.Body,.l G a0.Parts])] tk mixed (by kernel_rfl) rfl rfl rfl (pqX tk rfl (.plain rfl) (pqX tk rfl (.plain rfl) (.run (.plain rfl) (zua (zha v11.2 v14 h15) rfl) (pqX tk rfl (.plain rfl) (.run (.plain rfl) (opG_bl c16 (zGa VOa)) (pqX tk rfl (.yes (d:=36) rfl rfl rfl rfl) (pqX tk rfl (.yes (d:=36) rfl rfl rfl rfl) (pqX tk rfl (.yes (d:=36) rfl rfl rfl rfl) (.run (.yes (d:=36) rfl rfl rfl rfl) (zua (KOa v11.1 a0.Body v17 h18) rfl) (pqX tk rfl (.plain rfl) .nil)))))))))) rfl rfl rfl rfl (by kernel_rfl) ?_;exact jx 2 hr
  replace hr:=jWa c16 hr
  refine drX 10 11 3 3 [9] [(41,.bo false),(40,.tup []),(39,.tup []),(38,.tup []),(37,.tup []),(36,.bo false),(35,.bo ((!v14))),(34,.bo v14),(33,.agg [.i v11.2.Code,.i v11.2.Index]),(32,.agg [.l zba.pc v6.1.Fields,.l cU v6.1.Body])] [(2,.ptr 2 0),(41,.bo false)] [(5,.cells [.i v11.2.Code,.i v11.2.Index]),(4,.cells [.l zba.pc v6.1.Fields,.l cU v6.1.Body]),(2,.cells [.l zba.pc v6.1.Fields,.l cU v6.1.Body]),(1,.cells [.l zba.pc a0.Fields,.l cU a0.Body,.l G a0.Parts])] tk mixed (by kernel_rfl) rfl rfl rfl (pqX tk rfl (.plain rfl) (pqX tk rfl (.plain rfl) (.run (.plain rfl) (zua (zha v11.2 v14 h15) rfl) (pqX tk rfl (.plain rfl) (.run (.plain rfl) (opG_bl c16 (zGa VOa)) (.skip (.no (d:=36) rfl rfl rfl rfl) (.skip (.no (d:=36) rfl rfl rfl rfl) (.skip (.no (d:=36) rfl rfl rfl rfl) (.skip (.no (d:=36) rfl rfl rfl rfl) (pqX tk rfl (.plain rfl) .nil)))))))))) rfl rfl rfl rfl (by kernel_rfl) ?_;exact jx 2 hr
 exact kx 1 hr
theorem JGa(a0:List zba)(r:(List zba) × Bool)(hr:Zfa a0=some r):Run prog 51 [.l zba.pc a0] (.tup [.l zba.pc r.1,.bo r.2]):=by
 unfold Zfa at hr;refine rfx (fn:=f51) func51 fun g0 hg=>?_
 refine rn tk 9 rfl ?_;obtain ⟨v1,h2,hr⟩:=zaa hr;refine wo (Qca (k:=12) (runS_mu (wHa a0 v1 h2) rfl) rfl rfl kXa) rfl<|rn tk 5 rfl ?_;refine Wra 1004 (o:=4) (j:=2) 137 2 rfl rfl rfl rfl (hO ?_);refine ctq 9 hr [0,4,5] [] (fun _=>[(18,.hs 90011003 0)]) (fun j3=>[(4,.cells [.s v1.1.Type_,.s v1.1.Sub,.any]),(90011003,.row 137 true 2 (List.map zia.pc j3))]) (fun j3 hr jump1=>?_) (fun j3 hr=>?_)
 .refine iq 0 100000 [0,4,5] (fn:=f77) ⟨func77,rfl,by kernel_rfl⟩ fun T1 ds1=>?_
  refine rn tk 3 rfl ?_;refine qYa 2004 (d:=4) 137 2 rfl rfl rfl (hO ?_);refine ctq 6 hr [0,1] [199999,100000,100004,100005,4,90011003] (fun j4=>[(10,.i j4)]) (fun _=>[]) (fun j4 hr jump2=>?_) (fun j4 hr=>?_)
  .refine iq 0 200000 [0,1] (fn:=f122) ⟨func122,rfl,by kernel_rfl⟩ fun T2 ds2=>?_
   refine rn tk 9 rfl<|wnh tk rfl rfl rfl rfl ?_;refine aq2 4 hr [0,1,7] [299999,200000,200001,199999,100000,100004,100005,4,90011003] (fun s5=>[(8,.i s5)]) (fun _=>[]) (.exit 0) [] [299999,200000,200001,199999,100000,100004,100005,4,90011003] (fun _=>[]) (fun _=>[]) .ret [] [299999,200000,200001,199999,100000,100004,100005,4,90011003] (fun b7=>[(4,.i b7)]) (fun _=>[]) (fun s5 x9 hr=>?_) (fun b6 hr=>?_) (fun b7 hr=>?_)
   .unfold ypa at hr;refine ax 6 9 hr (fun hr=>?_) fun hr=>?_
    .refine rn tk 15 rfl ?_;obtain ⟨v11,h12,hr⟩:=zaa hr;refine wih tk h12 rfl rfl rfl rfl rfl ?_;obtain ⟨v13,h14,hr⟩:=zaa hr;refine wq (Ysa (F:=zia.pc) (l:=v1.1.Params) (n:=s5) (j:=0) rfl rfl k1a rfl h14 rfl) rfl rfl rfl ?_;refine iq 0 400000 [0,1,5,7,8] (fn:=f78) ⟨func78,rfl,by kernel_rfl⟩ fun T4 ds4=>?_
     refine clx 10 hr (zWa _ _) fun v15 _ hr=>?_
     refine ieq 4 (hO ?_);refine ax 2 16 hr (fun hr=>?_) fun hr=>?_
     .exact ox 9 hr
     exact cx 7 hr
    exact ox 2 hr
   .refine ieq 8 ?_;cases hr;exact jump2 _ _ rfl rfl
   refine ieq 2 ?_;cases hr;exact jump2 _ _ rfl rfl
  refine ax 10 12 hr (fun hr=>?_) fun hr=>?_
  .refine rn tk 6 rfl ?_;refine kyb (d' :=4) (F:=zia.pc) (l:=v1.1.Params) rfl rfl (hC ?_);refine ieq 2 ?_;cases hr;exact jump1 _ _ rfl rfl
  refine aq1 11 hr [0,1] [199999,100000,100004,100005,4] (fun s19=>[(5,.i s19.1),(6,.i s19.2.1)]) (fun s19=>[(90011003,.row 137 true 2 (List.map zia.pc s19.2.2))]) (.exit 0) [0] [199999,100000,100004,100005,4] (fun b20=>[(5,.i b20.1)]) (fun b20=>[(90011003,.row 137 true 2 (List.map zia.pc b20.2))]) (fun s19 x21 hr=>?_) (fun b20 hr=>?_)
  .unfold yqa at hr;refine rn tk 5 rfl<|wnh tk rfl rfl rfl rfl ?_;refine ax 3 19 hr (fun hr=>?_) fun hr=>?_
   .refine jq 2 hr [0,1,6] [199999,100000,100004,100005,4] (fun j23=>[(5,.i j23.1)]) (fun j23=>[(90011003,.row 137 true 2 (List.map zia.pc j23.2))]) (fun j23 hr=>?_) (fun j23 hr=>?_)
    .refine rn tk 5 rfl ?_;obtain ⟨v24,h25,hr⟩:=zaa hr;refine wih tk h25 rfl rfl rfl rfl rfl ?_;obtain ⟨v26,h27,hr⟩:=zaa hr;refine wq (Ysa (F:=zia.pc) (l:=s19.2.2) (n:=s19.2.1) (j:=0) rfl rfl k1a rfl h27 rfl) rfl rfl rfl ?_;refine iq 8 1000000 [0,1,5,6,7] (fn:=f78) ⟨func78,rfl,by kernel_rfl⟩ fun T10 ds10=>?_
     refine clx 10 hr (zWa _ _) fun v28 _ hr=>?_
     refine ieq 4 (hO ?_);refine ax 3 29 hr (fun hr=>?_) fun hr=>?_
     .refine rn tk 5 rfl ?_;obtain ⟨v31,h32,hr⟩:=zaa hr;refine wih tk h32 rfl rfl rfl rfl rfl ?_;obtain ⟨v33,h34,hr⟩:=zaa hr;refine wo (qZa (F:=zia.pc) (l:=s19.2.2) (n:=s19.1) (j:=0) (v:=v33) (v' :=v26) (pcs:=[pS v26.Name,pS v26.Value]) rfl rfl rfl k1a rfl h34 rfl rfl) rfl ?_;exact jx 8 hr
     exact jx 2 hr
    exact cx 5 hr
   exact ox 2 hr
  refine rn tk 6 rfl ?_;obtain ⟨v35,h36,hr⟩:=zaa hr;refine wq (ev_hsub (F:=zia.pc) (l:=b20.2) (p:=b20.1) rfl rfl rfl k6a k1a h36) rfl rfl rfl<|wo (wPb (F:=zia.pc) (l:=b20.2) (z:=((zia.mk (([]:Str)) (([]:Str))))) rfl rfl k6a k1a rfl rfl) rfl<|rn tk 6 rfl ?_;obtain ⟨v37,h38,hr⟩:=zaa hr;refine wo (wOb (k:=41) (F:=zia.pc) (l:=((clr0 b20.2 (Int.toNat b20.1) ((zia.mk (([]:Str)) (([]:Str))))))) rfl rfl rfl rfl k6a k1a h38) rfl<|rn tk 3 rfl ?_;refine kyb (d' :=4) (F:=zia.pc) (l:=v37) rfl rfl (hC ?_);refine ieq 1 ?_;cases hr;exact jump1 _ _ rfl rfl
 refine rn tk 7 rfl ?_;refine Vea 90011003 rfl (hO ?_);refine v2a (d' :=21) (j:=2) (F:=zia.pc) (l:=j3) rfl rfl rfl (hO ?_);refine clx 0 hr (jaa _) fun v39 _ hr=>?_
 refine clx 12 hr (zha _) fun v41 _ hr=>?_
 refine ax 2 26 hr (fun hr=>?_) fun hr=>?_
 .exact kx 8 hr
 refine rn tk 5 rfl ?_;obtain ⟨v44,h45,hr⟩:=zaa hr;refine wo (VWa (k:=28) 1028 (kAa a0 v44 h45) rfl rfl rfl rfl) rfl<|rn tk 8 rfl ?_;obtain ⟨v46,h47,hr⟩:=zaa hr;refine wih tk h47 rfl rfl rfl rfl rfl<|rn tk 1 rfl ?_;obtain ⟨v48,h49,hr⟩:=zaa hr;refine wo (qZa (F:=zba.pc) (l:=v44) (n:=v1.2.1) (j:=1) (v:=v48) (v' :=((zba.mk v48.Name v39.1))) (pcs:=[pS v39.1]) rfl rfl rfl zoa rfl h49 rfl rfl) rfl<|rn tk 9 rfl ?_;refine Zya 1028 rfl (hC ?_);refine kTa (d:=2) (F:=zba.pc) (l:=((List.set v44 (Int.toNat v1.2.1) ((zba.mk v48.Name v39.1))))) rfl rfl (hC ?_);exact kx 1 hr
theorem KQa(e3:zka->List (List PV))(rd:zea->List UInt8->Int->Option (zka × Bool × zea))(hrd:∀s b d v,rd s b d=some v->RunS prog 52 [.ptr 90007000 0,.l cU b,.i d] (zea.sto s) (.tup [.agg [.l zba.pc v.1.Fields,.l cU v.1.Body,.pv (.sl none (e3 v.1))],.bo v.2.1]) (zea.sto v.2.2) 90007000 [])(a0:zea)(a1:List zba)(a2:List UInt8)(a3:Int)(r:zka × Bool × zea)(hr:yAa rd a0 a1 a2 a3=some r):RunS prog 26 [.ptr 90007000 0,.l zba.pc a1,.l cU a2,.i a3] (zea.sto a0) (.tup [.agg [.l zba.pc r.1.Fields,.l cU r.1.Body,.l (zka.cw e3) r.1.Parts],.bo r.2.1]) (zea.sto r.2.2) 90007000 []:=by
 unfold yAa at hr;refine rfS (fn:=Tryz.f26) (H:=90007999) (.ptr 90007000 0) ⟨func26,rfl,by kernel_rfl⟩ rfl (hasT rfl) (.inl ⟨rfl,rfl⟩) rfl rfl rfl rfl fun g0 hg S sg T=>?_
 refine clx 21 hr (kEa _) fun v1 _ hr=>?_
 refine clx 1 hr (via _) fun v3 _ hr=>?_
 refine rn tk 2 rfl ?_;refine zza 1010 (o:=10) (j:=2) 35 3 rfl rfl rfl rfl (hO ?_);refine rn tk 1 rfl ?_;refine zza 2010 (o:=10) (j:=2) 35 3 rfl rfl rfl rfl (hO ?_);refine clx 7 hr (KIa _ _ _) fun v5 _ hr=>?_
 refine rn tk 7 rfl<|wn tk rfl rfl rfl ?_;refine ax 3 36 hr (fun hr=>?_) fun hr=>?_
 .refine rn tk 7 rfl ?_;refine Zta (o:=8) (j:=2) (F:=(zka.cw e3)) (l:=(([]:List zka))) rfl rfl rfl (hC ?_);exact sxx 2 hr
 refine clx 5 hr (JGa _) fun v8 _ hr=>?_
 refine ax 14 44 hr (fun hr=>?_) fun hr=>?_
 .refine rn tk 7 rfl ?_;refine Zta (o:=8) (j:=2) (F:=(zka.cw e3)) (l:=(([]:List zka))) rfl rfl rfl (hC ?_);exact sxx 2 hr
 refine rn tk 7 rfl ?_;refine zza 3010 (o:=10) (j:=2) 35 3 rfl rfl rfl rfl (hO ?_);refine rn tk 6 rfl<|wn tk rfl rfl rfl ?_;refine aq2 4 hr [0,3,8,10,48,49] [90007999] (fun s11=>[(50,.i s11.1)]) (fun s11=>(zea.sto s11.2.1)++ [(3010,.row 35 false 3 (List.map (zka.cw e3) s11.2.2)),(10,.cells [.l zba.pc v8.1,.pv (.sl (some true) []),.hs 3010 0]),(8,.cells [.pv (.sl (some true) []),.pv (.sl (some true) []),.pv (.sl (some true) [])])]) (.exit 0) [8,10] [90007999] (fun _=>[]) (fun b12=>(zea.sto b12.1)++ [(3010,.row 35 false 3 (List.map (zka.cw e3) b12.2)),(10,.cells [.l zba.pc v8.1,.pv (.sl (some true) []),.hs 3010 0]),(8,.cells [.pv (.sl (some true) []),.pv (.sl (some true) []),.pv (.sl (some true) [])])]) .ret [8,9] [90007999] (fun _=>[]) (fun b13=>(zea.sto b13)++ [(8,.cells [.pv (.sl (some true) []),.pv (.sl (some true) []),.pv (.sl (some true) [])])]) (fun s11 x15 hr=>?_) (fun b12 hr=>?_) (fun b13 hr=>?_)
 .unfold ZGa at hr;refine ax 6 51 hr (fun hr=>?_) fun hr=>?_
  .refine rn tk 6 rfl ?_;obtain ⟨v17,h18,hr⟩:=zaa hr;refine wi tk h18 rfl rfl rfl rfl rfl ?_;refine csx 10 hr (hrd _ _ _) fun v19 _ hr=>?_
   refine ax 15 63 hr (fun hr=>?_) fun hr=>?_
   .exact ox 11 hr
   refine rn tk 6 rfl<|wz (zka.cw e3) ([v19.1]:List zka) tk rfl rfl (fun _=>rfl) rfl rfl rfl ?_;obtain ⟨v22,h23,hr⟩:=zaa hr;refine wa tk h23 rfl rfl rfl rfl (fun _=>rfl) rfl rfl ?_;exact cx 9 hr
  exact ox 2 hr
 .refine rn tk 9 rfl ?_;refine Zta (o:=8) (j:=2) (F:=(zka.cw e3)) (l:=b12.2) rfl rfl rfl (hC ?_);exact sxx 1 hr
 exact sxx 2 hr
theorem Jga(G:zka->List PV)(pt:zea->List zba->List UInt8->Int->Option (zka × Bool × zea))(hpt:∀s l b d v,pt s l b d=some v->RunS prog 26 [.ptr 90007000 0,.l zba.pc l,.l cU b,.i d] (zea.sto s) (.tup [.agg [.l zba.pc v.1.Fields,.l cU v.1.Body,.l G v.1.Parts],.bo v.2.1]) (zea.sto v.2.2) 90007000 [])(a0:zea)(a1:List UInt8)(a2:Int)(r:zka × Bool × zea)(hr:yBa pt a0 a1 a2=some r):RunS prog 52 [.ptr 90007000 0,.l cU a1,.i a2] (zea.sto a0) (.tup [.agg [.l zba.pc r.1.Fields,.l cU r.1.Body,.l G r.1.Parts],.bo r.2.1]) (zea.sto r.2.2) 90007000 []:=by
 unfold yBa at hr;refine rfS (fn:=f52) (H:=90007999) (.ptr 90007000 0) ⟨func52,rfl,by kernel_rfl⟩ rfl (hasT rfl) (.inl ⟨rfl,rfl⟩) rfl rfl rfl rfl fun g0 hg S sg T=>?_
 refine clx 9 hr (KPa _) fun v1 _ hr=>?_
 refine clx 14 hr (zha _) fun v3 _ hr=>?_
 refine ax 2 18 hr (fun hr=>?_) fun hr=>?_
 .refine clx 5 hr (zga _ _) fun v6 _ hr=>?_
  exact sxx 14 hr
 refine ax 12 30 hr (fun hr=>?_) fun hr=>?_
 .refine clx 3 hr (zga _ _) fun v9 _ hr=>?_
  exact sxx 14 hr
 refine rn tk 8 rfl ?_;obtain ⟨v11,h12,hr⟩:=zaa hr;refine wlL tk h12 rfl rfl rfl (fun _=>rfl) rfl ?_;refine csx 1 hr (hpt _ _ _ _) fun v13 _ hr=>?_
 exact sxx 7 hr
theorem WCa:∀(n:Nat) (s:zea) (l:List zba) (b:List UInt8) (d:Int) (v:zka × Bool × zea),Qga n s l b d=some v->RunS prog 26 [.ptr 90007000 0,.l zba.pc l,.l cU b,.i d] (zea.sto s) (.tup [.agg [.l zba.pc v.1.Fields,.l cU v.1.Body,.l (zka.pcn n) v.1.Parts],.bo v.2.1]) (zea.sto v.2.2) 90007000 []
 | 0,s,l,b,d,v,h=>KQa (fun _=>[]) (fun _ _ _=>none) (fun _ _ _ _ h=>by cases h) s l b d v h
 | n+1,s,l,b,d,v,h=>KQa (fun x=>x.Parts.map (zka.pcn n)) (yBa (Qga n)) (fun _ _ _ _ h=>Jga (zka.pcn n) (Qga n) (fun _ _ _ _ _ h=>WCa n _ _ _ _ _ h) _ _ _ _ h) s l b d v h
theorem jga(a0:zea)(a1:List zba)(a2:List UInt8)(a3:Int)(r:zka × Bool × zea)(hr:wla a0 a1 a2 a3=some r):RunS prog 26 [.ptr 90007000 0,.l zba.pc a1,.l cU a2,.i a3] (zea.sto a0) (.tup [.agg [.l zba.pc r.1.Fields,.l cU r.1.Body,.l (zka.pcn 8) r.1.Parts],.bo r.2.1]) (zea.sto r.2.2) 90007000 []:=
 WCa 8 a0 a1 a2 a3 r hr
theorem jwa(a0:zda)(r:zka × zja)(hr:qba a0=some r):Run prog 7 [.agg [.l zba.pc a0.Fields,.l cU a0.Body]] (.tup [.agg [.l zba.pc r.1.Fields,.l cU r.1.Body,.l (zka.pcn 8) r.1.Parts],.agg [.i r.2.Code,.i r.2.Index]]):=by
 unfold qba at hr;refine rfx (fn:=f7) func7 fun g0 hg=>?_
 refine clx 11 hr (kca _) fun v1 _ hr=>?_
 refine clx 7 hr (zha _) fun v3 _ hr=>?_
 refine ax 2 12 hr (fun hr=>?_) fun hr=>?_
 .refine rn tk 1 rfl<|drX 2 3 3 3 [1] [(14,.agg [.i v1.Code,.i v1.Index]),(13,.agg [.pv (.sl (some true) []),.pv (.sl (some true) []),.pv (.sl (some true) [])])] [(2,.ptr 2 0),(3,.ptr 3 0),(14,.agg [.i v1.Code,.i v1.Index])] [(4,.cells [.i v1.Code,.i v1.Index]),(3,.cells [.i 0,.i 0]),(2,.cells [.pv (.sl (some true) []),.pv (.sl (some true) []),.pv (.sl (some true) [])]),(1,.cells [.l zba.pc a0.Fields,.l cU a0.Body])] tk mixed (by kernel_rfl) rfl rfl rfl (pqX tk rfl (.plain rfl) (pqX tk rfl (.plain rfl) .nil)) rfl rfl rfl rfl (by kernel_rfl) ?_;exact kx 5 hr
 refine rn tk 5 rfl<|wo (vVa (k:=16) 90007000 rfl rfl rfl rfl rfl) rfl ?_;refine csx 10 hr (jga _ _ _ _) fun v6 _ hr=>?_
 refine ax 15 27 hr (fun hr=>?_) fun hr=>?_
 .refine rn tk 1 rfl<|drX 5 6 6 73 [1,2,3,4] [(32,.agg [.i v6.2.2.fault.Code,.i v6.2.2.fault.Index]),(31,.ptr 90007000 1),(30,.ptr 90007000 0),(29,.ptr 90007000 0),(28,.agg [.pv (.sl (some true) []),.pv (.sl (some true) []),.pv (.sl (some true) [])])] [(2,.ptr 2 0),(3,.ptr 3 0),(32,.agg [.i v6.2.2.fault.Code,.i v6.2.2.fault.Index])] [(6,.cells [.l zba.pc v6.1.Fields,.l cU v6.1.Body,.l (zka.pcn 8) v6.1.Parts]),(90007000,.cells [.i v6.2.2.many,.i v6.2.2.fault.Code,.i v6.2.2.fault.Index]),(4,.cells [.i v1.Code,.i v1.Index]),(3,.cells [.i 0,.i 0]),(2,.cells [.pv (.sl (some true) []),.pv (.sl (some true) []),.pv (.sl (some true) [])]),(1,.cells [.l zba.pc a0.Fields,.l cU a0.Body])] tk mixed (by kernel_rfl) rfl rfl rfl (pqX tk rfl (.plain rfl) (pqX tk rfl (.plain rfl) (pqX tk rfl (.plain rfl) (pqX tk rfl (.plain rfl) (pqX tk rfl (.plain rfl) .nil))))) rfl rfl rfl rfl (by kernel_rfl) ?_;exact kx 5 hr
 refine clx 6 hr (KLa _) fun v9 _ hr=>?_
 refine clx 7 hr (zha _) fun v11 _ hr=>?_
 refine ax 2 36 hr (fun hr=>?_) fun hr=>?_
 .refine clx 5 hr (zga _ _) fun v14 _ hr=>?_
  exact kx 6 hr
 refine rn tk 3 rfl ?_;obtain ⟨v16,h17,hr⟩:=zaa hr;refine drF 1 0 [(41,.agg [.l zba.pc v6.1.Fields,.l cU v6.1.Body,.l (zka.pcn 8) v6.1.Parts])] [(41,.any)] [(2,.ptr 2 0),(3,.ptr 3 0),(41,.agg [.l zba.pc v6.1.Fields,.l cU v6.1.Body,.l (zka.pcn 8) v6.1.Parts]),(42,.agg [.i v16.Code,.i v16.Index])] [(8,.cells [.i v9.Code,.i v9.Index]),(6,.cells [.l zba.pc v6.1.Fields,.l cU v6.1.Body,.l (zka.pcn 8) v6.1.Parts]),(90007000,.cells [.i v6.2.2.many,.i v6.2.2.fault.Code,.i v6.2.2.fault.Index]),(4,.cells [.i v1.Code,.i v1.Index]),(3,.cells [.i 0,.i 0]),(2,.cells [.pv (.sl (some true) []),.pv (.sl (some true) []),.pv (.sl (some true) [])]),(1,.cells [.l zba.pc a0.Fields,.l cU a0.Body])] mixed (by kernel_rfl) rfl rfl rfl rfl rfl (pqF tk rfl (.plain rfl) .nil) rfl rfl rfl rfl rfl (fun hJ=>?_) (fun hJ=>?_) ?_
 .refine cl (zma _ h17) rfl rfl ?_;exact hJ _ _ rfl rfl
 .refine cl (zma _ h17) rfl rfl<|rn tk 1 rfl ?_;exact hJ _ _ rfl rfl
 exact kx 5 hr
theorem jba(a0:zda)(r:(List zda) × Bool × zja)(hr:q7a a0=some r):Run prog 5 [.agg [.l zba.pc a0.Fields,.l cU a0.Body]] (.tup [.l zda.pc r.1,.bo r.2.1,.agg [.i r.2.2.Code,.i r.2.2.Index]]):=by
 unfold q7a at hr;refine rfx (fn:=f5) func5 fun g0 hg=>?_
 refine clx 12 hr (kca _) fun v1 _ hr=>?_
 refine clx 7 hr (zha _) fun v3 _ hr=>?_
 refine ax 2 17 hr (fun hr=>?_) fun hr=>?_
 .refine dq 1 3 [] [] .nil .nil ?_ mixed;exact kx 5 hr
 refine clx 5 hr (jwa _) fun v6 _ hr=>?_
 refine rn tk 13 rfl<|wn tk rfl rfl rfl ?_;refine jq 4 hr [4,6] [6,4] (fun j8=>[(50,.bo j8)]) (fun _=>[]) (fun j8 hr=>?_) (fun j8 hr=>?_)
 .obtain ⟨v9,h10,hr⟩:=zaa hr;refine kFa v9 (fun c11=>?_) (fun c11=>?_)
  .replace hr:=jVa c11 hr
   refine dq 0 21 [(29,true)] [(1,.bo v9)] (.cons rfl c11 .nil) (.cons rfl rfl (zua (zha v6.2 v9 h10) rfl) .nil) ?_ mixed;exact jx 4 hr
  replace hr:=jWa c11 hr
  refine kFa (decide ((v6.1.Parts.length:Int) < 1)) (fun c12=>?_) (fun c12=>?_)
  .replace hr:=jVa c12 hr
   refine dq 0 21 [(29,false),(33,true)] [(1,.bo v9)] (.cons rfl c11 (.cons rfl c12 .nil)) (.cons rfl rfl (zua (zha v6.2 v9 h10) rfl) .nil) ?_ mixed;exact jx 4 hr
  replace hr:=jWa c12 hr
  refine kFa (decide (20 < (v6.1.Parts.length:Int))) (fun c13=>?_) (fun c13=>?_)
  .replace hr:=jVa c13 hr
   refine dq 0 21 [(29,false),(33,false),(37,true)] [(1,.bo v9)] (.cons rfl c11 (.cons rfl c12 (.cons rfl c13 .nil))) (.cons rfl rfl (zua (zha v6.2 v9 h10) rfl) .nil) ?_ mixed;exact jx 4 hr
  replace hr:=jWa c13 hr
  obtain ⟨v14,h15,hr⟩:=zaa hr;refine kFa ((!v14)) (fun c16=>?_) (fun c16=>?_)
  .replace hr:=jVa c16 hr
   refine dq 0 21 [(29,false),(33,false),(37,false),(43,true)] [(1,.bo v9),(13,.bo v14)] (.cons rfl c11 (.cons rfl c12 (.cons rfl c13 (.cons rfl c16 .nil)))) (.cons rfl rfl (zua (zha v6.2 v9 h10) rfl) (.cons rfl rfl (zua (wha v6.1.Fields (([67,111,110,116,101,110,116,45,84,121,112,101]:Str)) (([109,117,108,116,105,112,97,114,116,47,100,105,103,101,115,116]:Str)) v14 h15) rfl) .nil)) ?_ mixed;refine kn 43 c16 rfl ?_;exact jx 4 hr
  replace hr:=jWa c16 hr
  obtain ⟨v17,h18,hr⟩:=zaa hr;refine dq 0 21 [(29,false),(33,false),(37,false),(43,false)] [(1,.bo v9),(13,.bo v14),(20,.s v17)] (.cons rfl c11 (.cons rfl c12 (.cons rfl c13 (.cons rfl c16 .nil)))) (.cons rfl rfl (zua (zha v6.2 v9 h10) rfl) (.cons rfl rfl (zua (wha v6.1.Fields (([67,111,110,116,101,110,116,45,84,121,112,101]:Str)) (([109,117,108,116,105,112,97,114,116,47,100,105,103,101,115,116]:Str)) v14 h15) rfl) (.cons rfl rfl (zua (kWa ((v6.1.Parts.length:Int)) v17 h18) rfl) .nil))) ?_ mixed;refine kn 43 c16 rfl ?_;obtain ⟨v19,h20,hr⟩:=zaa hr;refine ug rfl rfl rfl<|cl (wha _ _ _ _ h20) rfl rfl ?_;exact jx 3 hr
 refine ax 0 50 hr (fun hr=>?_) fun hr=>?_
 .refine clx 2 hr zma fun v22 _ hr=>?_
  exact kx 7 hr
 refine rn tk 5 rfl ?_;refine zUa 1009 (d:=9) 25 2 rfl rfl rfl (hO ?_);refine rn tk 7 rfl<|wn tk rfl rfl rfl ?_;refine aq2 4 hr [4,9,53,54] [4] (fun s24=>[(55,.i s24.1)]) (fun s24=>[(1009,.row 25 false 2 (List.map zda.pc s24.2))]) (.exit 0) [4,9] [4] (fun _=>[]) (fun b25=>[(1009,.row 25 false 2 (List.map zda.pc b25))]) .ret [4] [] (fun b26=>[(2,.l zda.pc b26.1),(3,.bo b26.2.1)]) (fun b26=>[(4,.cells [.i b26.2.2.Code,.i b26.2.2.Index])]) (fun s24 x28 hr=>?_) (fun b25 hr=>?_) (fun b26 hr=>?_)
 .unfold wFa at hr;refine ax 6 56 hr (fun hr=>?_) fun hr=>?_
  .refine rn tk 6 rfl ?_;obtain ⟨v30,h31,hr⟩:=zaa hr;refine wi tk h31 rfl rfl rfl rfl rfl ?_;refine clx 8 hr (Jfa _) fun v32 _ hr=>?_
   refine ax 15 65 hr (fun hr=>?_) fun hr=>?_
   .refine clx 2 hr zma fun v35 _ hr=>?_
    exact ox 9 hr
   refine rn tk 5 rfl<|wz zda.pc ([v32.1]:List zda) tk rfl rfl (fun _=>rfl) rfl rfl rfl ?_;obtain ⟨v37,h38,hr⟩:=zaa hr;refine wa tk h38 rfl rfl rfl rfl (fun _=>rfl) rfl rfl ?_;exact cx 8 hr
  exact ox 2 hr
 .refine clx 5 hr zma fun v39 _ hr=>?_
  refine rn tk 5 rfl ?_;refine kTa (d:=2) (F:=zda.pc) (l:=b25) rfl rfl (hC ?_);exact kx 1 hr
 exact kx 2 hr
theorem QMa(r:Bool)(hr:Zla=some r):Run prog 6 [] (.bo r):=by
 unfold Zla at hr;refine rfx (fn:=Tryz.f6) func6 fun g0 hg=>?_
 refine rn tk 8 rfl ?_;refine jja rfl (Vda (F:=cU) (l:=([(97:UInt8)]:List UInt8)) zra zxa rfl (fun _=>rfl) rfl rfl) zra zxa (z1a rfl) (z1a rfl) rfl (hO ?_);refine rn tk 1 rfl<|wz zda.pc ([(zda.mk ([]) ([])),(zda.mk ([]) (([(97:UInt8)]:List UInt8)))]:List zda) tk rfl rfl (fun _=>rfl) rfl rfl rfl ?_;refine clx 0 hr (Jda _ _ _) fun v1 _ hr=>?_
 refine clx 12 hr (jba _) fun v3 _ hr=>?_
 refine rn tk 15 rfl<|wz zda.pc ([(zda.mk ([]) ([])),(zda.mk ([]) ([])),(zda.mk ([]) ([]))]:List zda) tk rfl rfl (fun _=>rfl) rfl rfl rfl ?_;refine clx 0 hr (VDa _ _) fun v5 _ hr=>?_
 refine clx 11 hr (jba _) fun v7 _ hr=>?_
 refine jq 10 hr [] [] (fun j9=>[(0,.bo j9)]) (fun _=>[]) (fun j9 hr=>?_) (fun j9 hr=>?_)
 .refine bx 5 43 hr (fun c10 hr=>?_) fun c10 hr=>?_
  .refine bx 5 48 hr (fun c11 hr=>?_) fun c11 hr=>?_
   .refine bx 5 53 hr (fun c12 hr=>?_) fun c12 hr=>?_
    .refine bx 5 58 hr (fun c13 hr=>?_) fun c13 hr=>?_
     .refine bx 3 61 hr (fun c14 hr=>?_) fun c14 hr=>?_
      .refine bx 4 65 hr (fun c15 hr=>?_) fun c15 hr=>?_
       .refine rn tk 2 rfl<|ug rfl rfl rfl<|wn tk rfl rfl rfl ?_;refine bx 3 71 hr (fun c16 hr=>?_) fun c16 hr=>?_
        .refine rn tk 1 rfl<|ug rfl rfl rfl<|wn tk rfl rfl rfl ?_;refine bx 3 76 hr (fun c17 hr=>?_) fun c17 hr=>?_
         .refine rn tk 1 rfl ?_;obtain ⟨v18,h19,hr⟩:=zaa hr;refine ug rfl rfl rfl<|wi tk h19 rfl rfl rfl rfl rfl<|rn tk 2 rfl<|ug rfl rfl rfl<|wb tk rfl rfl rfl ?_;refine bx 3 84 hr (fun c20 hr=>?_) fun c20 hr=>?_
          .refine rn tk 1 rfl<|ug rfl rfl rfl<|wz cI ([2,1]:List Int) tk rfl rfl (fun _=>rfl) rfl rfl rfl ?_;obtain ⟨v21,h22,hr⟩:=zaa hr;refine ug rfl rfl rfl<|cl (ytb _ _ _ h22) rfl rfl ?_;exact jx 3 hr
          exact jx 6 hr
         exact jx 14 hr
        exact jx 19 hr
       exact jx 25 hr
      exact jx 29 hr
     exact jx 32 hr
    exact jx 37 hr
   exact jx 42 hr
  exact jx 47 hr
 exact kx 1 hr
end Go.Proofs.YthbbeodmpnmopaaGreatDoor
