/- The law DigestRoundTrips holds for every input of bulk up to the given bound: it returns true and leaves its arguments as they were. Written by program. -/
import Derived.Test.YtpphhgbmooofgaaGreatDoorKDigestRoundTrips5
import Derived.Test.YtpphhgbmooofgaaGreatDoorProg
import Derived.Tactics
import Derived.Tactics2
import Derived.Defers
import Derived.Laws.Pointers
import Derived.Laws.LoneSync
import Derived.RegionTactic
import Derived.RegionCalls
import Derived.ChangeAlike
import Derived.WalkKit
import Derived.Lib.Walk
import Derived.Lib.Strings
import Derived.Lib.IndexBytes
import Derived.Lib.AsciiSet
import Derived.Laws.Strings3
import Derived.Laws.ResultCell
import Derived.Deep.LoopGhost
import Derived.Deep.WholeRow
import Derived.Shelf.RegionOpenPlain
import Derived.Laws.NewBlocks
import Derived.Laws.Cover3
import Derived.Laws.IdiomStrings
import Derived.Laws.BytesArg
import Derived.Lib.TrimByte
import Derived.Shelf.Strings.SlTrimAscii
set_option linter.unusedVariables false
set_option linter.unusedSimpArgs false
set_option maxRecDepth 100000
set_option maxHeartbeats 40000000
namespace Go.Proofs.YtpphhgbmooofgaaGreatDoor
open Go.RowKit Go.Proofs.Tryz
theorem Qea(a0:zpa)(r:(List zca) × (List UInt8))(hr:vna a0=some r):Run prog 44 [.agg [.l zca.pc a0.Fields,.l cU a0.Body,.l (zpa.pcn 0) a0.Parts]] (.tup [.l zca.pc r.1,.l cU r.2]):=by
 unfold vna at hr;refine rfx (fn:=f44) func44 fun g0 hg=>?_
 refine rn tk 12 rfl<|wn tk rfl rfl rfl ?_;refine ax 3 16 hr (fun hr=>?_) fun hr=>?_
 .refine dq 1 5 [] [] .nil .nil ?_ mixed;exact kx 5 hr
 refine iq 6 100000 [1] (fn:=f73) ⟨func73,rfl,by kernel_rfl⟩ fun T1 ds1=>?_
 refine rn tk 8 rfl ?_;refine kVa 1005 (d:=5) 24 1 rfl rfl rfl (hO ?_);refine rn tk 6 rfl<|wn tk rfl rfl rfl ?_;refine aq1 4 hr [1,5,8,9] [199999,100001,1] (fun s2=>[(10,.i s2.1)]) (fun s2=>[(1005,.row 24 false 1 (List.map (cL cU) s2.2))]) (.exit 0) [5] [199999,100001,1] (fun _=>[]) (fun b3=>[(1005,.row 24 false 1 (List.map (cL cU) b3))]) (fun s2 x4 hr=>?_) (fun b3 hr=>?_)
 .unfold kKa at hr;refine ax 6 11 hr (fun hr=>?_) fun hr=>?_
  .refine rn tk 6 rfl ?_;obtain ⟨v6,h7,hr⟩:=zaa hr;refine wi tk h7 rfl rfl rfl rfl rfl ?_;refine iq 9 400000 [1,8,9,10,14] (fn:=f74) ⟨func74,rfl,by kernel_rfl⟩ fun T4 ds4=>?_
   refine rn tk 2 rfl<|wo (wea (k:=1) 1001 rfl rfl rfl rfl rfl) rfl ?_;refine clx 6 hr (Qda _) fun v8 _ hr=>?_
   refine clx 11 hr (Yia _ _) fun v10 _ hr=>?_
   refine ieq 4 (hO ?_);refine wz (cL cU) ([v10]:List (List UInt8)) tk rfl rfl (fun _=>rfl) rfl rfl rfl ?_;obtain ⟨v12,h13,hr⟩:=zaa hr;refine wa tk h13 rfl rfl rfl rfl (fun _=>rfl) rfl rfl ?_;exact cx 8 hr
  exact ox 2 hr
 refine ieq 9 (hO ?_);refine rn tk 6 rfl ?_;refine Qqa (d:=24) (F:=(cL cU)) (l:=b3) rfl rfl (hO ?_);refine clx 0 hr (YFa _) fun v14 _ hr=>?_
 refine csx 7 hr (w0a a0.Fields) fun v16 _ hr=>?_
 refine rn tk 5 rfl ?_;refine zGa 1006 (o:=6) (j:=2) 131 2 rfl rfl rfl rfl (hO ?_);refine rn tk 9 rfl ?_;refine Qqa (d:=34) (F:=zna.pc) (l:=v16.1.Params) rfl rfl (hO ?_);obtain ⟨v18,h19,hr⟩:=zaa hr;refine wo (Vla (k:=35) 1035 (vDa v16.1.Params v18 h19) rfl rfl rfl rfl) rfl<|rn tk 2 rfl<|wz zna.pc ([(zna.mk (([98,111,117,110,100,97,114,121]:Str)) v14)]:List zna) tk rfl rfl (fun _=>rfl) rfl rfl rfl ?_;obtain ⟨v20,h21,hr⟩:=zaa hr;refine wa tk h21 rfl rfl rfl rfl (fun _=>rfl) rfl rfl<|rn tk 8 rfl ?_;obtain ⟨v22,h23,hr⟩:=zaa hr;refine wo (Vla (k:=43) 1043 (kTa a0.Fields v22 h23) rfl rfl rfl rfl) rfl<|rn tk 8 rfl ?_;refine zAb 1035 rfl (hO ?_);refine yLa (d' :=47) (j:=2) (F:=zna.pc) (l:=v20) rfl rfl rfl (hO ?_);refine clx 0 hr (yWa _) fun v24 _ hr=>?_
 refine rn tk 3 rfl ?_;obtain ⟨v26,h27,hr⟩:=zaa hr;refine wih tk h27 rfl rfl rfl rfl rfl<|rn tk 1 rfl ?_;obtain ⟨v28,h29,hr⟩:=zaa hr;refine wo (wKa (F:=zca.pc) (l:=v22) (n:=v16.2.1) (j:=1) (v:=v28) (v' :=((zca.mk v28.Name v24.1))) (pcs:=[pS v24.1]) rfl rfl rfl zJa rfl h29 rfl rfl) rfl<|rn tk 5 rfl ?_;refine kVa 1010 (d:=10) 5 1 rfl rfl rfl (hO ?_);refine rn tk 6 rfl<|wnh tk rfl rfl rfl rfl<|rn tk 4 rfl ?_;refine qwa (d:=53) (F:=(cL cU)) (l:=b3) rfl rfl (hC ?_);refine aq1 0 hr [5,9,10,53,54] [1043] (fun s31=>[(55,.i s31.1)]) (fun s31=>[(1010,.row 5 false 1 (List.map cU s31.2))]) (.exit 0) [5,9,10] [1043] (fun _=>[]) (fun b32=>[(1010,.row 5 false 1 (List.map cU b32))]) (fun s31 x33 hr=>?_) (fun b32 hr=>?_)
 .unfold kLa at hr;refine ax 6 56 hr (fun hr=>?_) fun hr=>?_
  .refine rn tk 6 rfl ?_;obtain ⟨v35,h36,hr⟩:=zaa hr;refine wi tk h36 rfl rfl rfl rfl rfl<|rn tk 8 rfl ?_;obtain ⟨v37,h38,hr⟩:=zaa hr;refine wc h38 rfl rfl rfl ?_;obtain ⟨v39,h40,hr⟩:=zaa hr;refine wc h40 rfl rfl rfl ?_;obtain ⟨v41,h42,hr⟩:=zaa hr;refine wo (y8a (k:=63) (l:=s31.2) (s:=v39) (lim:=140737488355328) rfl rfl rfl rfl zva zJa.u zRa rfl h42) rfl<|rn tk 6 rfl ?_;obtain ⟨v43,h44,hr⟩:=zaa hr;refine wa tk h44 rfl rfl rfl rfl (fun _=>rfl) rfl rfl<|wz cU ([(13:UInt8),(10:UInt8)]:List UInt8) tk rfl rfl (fun _=>rfl) rfl rfl rfl ?_;obtain ⟨v45,h46,hr⟩:=zaa hr;refine wa tk h46 rfl rfl rfl rfl (fun _=>rfl) rfl rfl ?_;exact cx 8 hr
  exact ox 2 hr
 refine rn tk 7 rfl ?_;obtain ⟨v47,h48,hr⟩:=zaa hr;refine wc h48 rfl rfl rfl ?_;obtain ⟨v49,h50,hr⟩:=zaa hr;refine wc h50 rfl rfl rfl ?_;obtain ⟨v51,h52,hr⟩:=zaa hr;refine wo (y8a (k:=75) (l:=b32) (s:=v49) (lim:=140737488355328) rfl rfl rfl rfl zva zJa.u zRa rfl h52) rfl<|rn tk 4 rfl ?_;refine jaa 1043 rfl (hC ?_);refine qwa (d:=2) (F:=zca.pc) (l:=((List.set v22 (Int.toNat v16.2.1) ((zca.mk v28.Name v24.1))))) rfl rfl (hC ?_);refine qwa (d:=3) (F:=cU) (l:=v51) rfl rfl (hC ?_);exact kx 1 hr
theorem k8a(a0:List UInt8)(r:List UInt8)(hr:zKa a0=some r):Run prog 46 [.l cU a0] (.l cU r):=by
 unfold zKa at hr;refine rfx (fn:=f46) func46 fun g0 hg=>?_
 refine rn tk 9 rfl ?_;refine jya (d:=3) (F:=cU) (l:=a0) rfl rfl rfl zva (fun c1=>hO ?_) (hO ?_)
 .replace hr:=Qva c1 hr
  exact kx 10 hr
 replace hr:=Qwa hr
 refine rn tk 7 rfl<|wo (Zta (k:=5) rfl zva zRa) rfl<|rn tk 1 rfl ?_;obtain ⟨v2,h3,hr⟩:=zaa hr;refine wo (w4a (k:=7) (F:=cU) (xs:=a0) (lim:=140737488355328) 1002 rfl rfl rfl zva zRa rfl rfl (fun _=>rfl) rfl rfl rfl h3) rfl<|rn tk 3 rfl ?_;refine jaa 1002 rfl (hC ?_);refine qwa (d:=2) (F:=cU) (l:=v2) rfl rfl (hC ?_);exact kx 1 hr
theorem VEa(a0:zpa)(r:zda × zoa)(hr:qSa a0=some r):Run prog 15 [.agg [.l zca.pc a0.Fields,.l cU a0.Body,.l (zpa.pcn 0) a0.Parts]] (.tup [.agg [.l zca.pc r.1.Fields,.l cU r.1.Body],.agg [.i r.2.Code,.i r.2.Index]]):=by
 unfold qSa at hr;refine rfx (fn:=f15) func15 fun g0 hg=>?_
 refine clx 11 hr (yma _) fun v1 _ hr=>?_
 refine clx 7 hr (zha _) fun v3 _ hr=>?_
 refine ax 2 12 hr (fun hr=>?_) fun hr=>?_
 .refine rn tk 1 rfl<|drX 2 3 3 3 [1] [(14,.agg [.i v1.Code,.i v1.Index]),(13,.agg [.pv (.sl (some true) []),.pv (.sl (some true) [])])] [(2,.ptr 2 0),(3,.ptr 3 0),(14,.agg [.i v1.Code,.i v1.Index])] [(4,.cells [.i v1.Code,.i v1.Index]),(3,.cells [.i 0,.i 0]),(2,.cells [.pv (.sl (some true) []),.pv (.sl (some true) [])]),(1,.cells [.l zca.pc a0.Fields,.l cU a0.Body,.l (zpa.pcn 0) a0.Parts])] tk mixed (by kernel_rfl) rfl rfl rfl (pqX tk rfl (.plain rfl) (pqX tk rfl (.plain rfl) .nil)) rfl rfl rfl rfl (by kernel_rfl) ?_;exact kx 5 hr
 refine clx 5 hr (Qea _) fun v6 _ hr=>?_
 refine clx 10 hr (kea _) fun v8 _ hr=>?_
 refine clx 1 hr (k8a _) fun v10 _ hr=>?_
 refine clx 9 hr (zVa _) fun v12 _ hr=>?_
 refine clx 7 hr (zha _) fun v14 _ hr=>?_
 refine ax 2 28 hr (fun hr=>?_) fun hr=>?_
 .refine clx 5 hr (zga _ _) fun v17 _ hr=>?_
  exact kx 6 hr
 refine rn tk 3 rfl ?_;obtain ⟨v19,h20,hr⟩:=zaa hr;refine drF 1 0 [(33,.agg [.l zca.pc v8,.l cU v10])] [(33,.any)] [(2,.ptr 2 0),(3,.ptr 3 0),(33,.agg [.l zca.pc v8,.l cU v10]),(34,.agg [.i v19.Code,.i v19.Index])] [(8,.cells [.i v12.Code,.i v12.Index]),(7,.cells [.l zca.pc v8,.l cU v10]),(4,.cells [.i v1.Code,.i v1.Index]),(3,.cells [.i 0,.i 0]),(2,.cells [.pv (.sl (some true) []),.pv (.sl (some true) [])]),(1,.cells [.l zca.pc a0.Fields,.l cU a0.Body,.l (zpa.pcn 0) a0.Parts])] mixed (by kernel_rfl) rfl rfl rfl rfl rfl (pqF tk rfl (.plain rfl) .nil) rfl rfl rfl rfl rfl (fun hJ=>?_) (fun hJ=>?_) ?_
 .refine cl (zla _ h20) rfl rfl ?_;exact hJ _ _ rfl rfl
 .refine cl (zla _ h20) rfl rfl<|rn tk 1 rfl ?_;exact hJ _ _ rfl rfl
 exact kx 5 hr
theorem Z9a(a0:Str)(a1:List zda)(a2:Int)(r:zda × zoa)(hr:wTa a0 a1 a2=some r):Run prog 7 [.s a0,.l zda.pc a1,.i a2] (.tup [.agg [.l zca.pc r.1.Fields,.l cU r.1.Body],.agg [.i r.2.Code,.i r.2.Index]]):=by
 unfold wTa at hr;refine rfx (fn:=f7) func7 fun g0 hg=>?_
 refine clx 10 hr (Kwa _) fun v1 _ hr=>?_
 refine ax 3 21 hr (fun hr=>?_) fun hr=>?_
 .refine clx 3 hr (zga _ _) fun v4 _ hr=>?_
  exact kx 6 hr
 refine clx 6 hr (Zda _) fun v6 _ hr=>?_
 refine clx 7 hr (zha _) fun v8 _ hr=>?_
 refine ax 2 27 hr (fun hr=>?_) fun hr=>?_
 .refine rn tk 1 rfl<|drX 2 3 3 3 [1] [(29,.agg [.i v6.Code,.i v6.Index]),(28,.agg [.pv (.sl (some true) []),.pv (.sl (some true) [])])] [(6,.ptr 6 0),(7,.ptr 7 0),(29,.agg [.i v6.Code,.i v6.Index])] [(8,.cells [.i v6.Code,.i v6.Index]),(7,.cells [.i 0,.i 0]),(6,.cells [.pv (.sl (some true) []),.pv (.sl (some true) [])])] tk mixed (by kernel_rfl) rfl rfl rfl (pqX tk rfl (.plain rfl) (pqX tk rfl (.plain rfl) .nil)) rfl rfl rfl rfl (by kernel_rfl) ?_;exact kx 5 hr
 refine clx 5 hr (Z2a _ _) fun v11 _ hr=>?_
 refine clx 13 hr (zha _) fun v13 _ hr=>?_
 refine ax 2 36 hr (fun hr=>?_) fun hr=>?_
 .refine clx 5 hr (zga _ _) fun v16 _ hr=>?_
  exact kx 6 hr
 refine clx 5 hr (Z3a _) fun v18 _ hr=>?_
 refine rn tk 15 rfl<|wn tk rfl rfl rfl ?_;refine clx 0 hr (q4a _) fun v20 _ hr=>?_
 refine rn tk 2 rfl<|wz zca.pc ([(zca.mk (([70,114,111,109]:Str)) a0),(zca.mk (([68,97,116,101]:Str)) v18.1),(zca.mk (([88,45,68,105,103,101,115,116]:Str)) v20),(zca.mk (([67,111,110,116,101,110,116,45,84,121,112,101]:Str)) (([109,117,108,116,105,112,97,114,116,47,100,105,103,101,115,116]:Str)))]:List zca) tk rfl rfl (fun _=>rfl) rfl (by kernel_rfl) rfl<|rn tk 2 rfl ?_;refine zGa 1013 (o:=13) (j:=2) 42 3 rfl rfl rfl rfl (hO ?_);refine rn tk 1 rfl ?_;refine zGa 2013 (o:=13) (j:=2) 42 3 rfl rfl rfl rfl (hO ?_);refine rn tk 6 rfl<|wn tk rfl rfl rfl ?_;refine aq1 4 hr [6,7,10,13,57,58] [10,7] (fun s22=>[(59,.i s22.1)]) (fun s22=>[(2013,.row 42 false 3 (List.map (zpa.pcn 0) s22.2)),(13,.cells [.l zca.pc (([(zca.mk (([70,114,111,109]:Str)) a0),(zca.mk (([68,97,116,101]:Str)) v18.1),(zca.mk (([88,45,68,105,103,101,115,116]:Str)) v20),(zca.mk (([67,111,110,116,101,110,116,45,84,121,112,101]:Str)) (([109,117,108,116,105,112,97,114,116,47,100,105,103,101,115,116]:Str)))]:List zca)),.pv (.sl (some true) []),.hs 2013 0]),(6,.cells [.pv (.sl (some true) []),.pv (.sl (some true) [])])]) (.exit 0) [6,7,10,13] [10,7] (fun _=>[]) (fun b23=>[(2013,.row 42 false 3 (List.map (zpa.pcn 0) b23)),(13,.cells [.l zca.pc (([(zca.mk (([70,114,111,109]:Str)) a0),(zca.mk (([68,97,116,101]:Str)) v18.1),(zca.mk (([88,45,68,105,103,101,115,116]:Str)) v20),(zca.mk (([67,111,110,116,101,110,116,45,84,121,112,101]:Str)) (([109,117,108,116,105,112,97,114,116,47,100,105,103,101,115,116]:Str)))]:List zca)),.pv (.sl (some true) []),.hs 2013 0]),(6,.cells [.pv (.sl (some true) []),.pv (.sl (some true) [])])]) (fun s22 x24 hr=>?_) (fun b23 hr=>?_)
 .unfold vaa at hr;refine ax 6 60 hr (fun hr=>?_) fun hr=>?_
  .refine rn tk 6 rfl ?_;obtain ⟨v26,h27,hr⟩:=zaa hr;refine wi tk h27 rfl rfl rfl rfl rfl ?_;refine clx 8 hr (wUa _) fun v28 _ hr=>?_
   refine rn tk 12 rfl<|wz zca.pc ([(zca.mk (([67,111,110,116,101,110,116,45,84,121,112,101]:Str)) (([109,101,115,115,97,103,101,47,105,116,101,109]:Str)))]:List zca) tk rfl rfl (fun _=>rfl) rfl (by kernel_rfl) rfl<|rn tk 2 rfl<|wz (zpa.pcn 0) ([(zpa.mk (([(zca.mk (([67,111,110,116,101,110,116,45,84,121,112,101]:Str)) (([109,101,115,115,97,103,101,47,105,116,101,109]:Str)))]:List zca)) v28.1 ([]))]:List zpa) tk rfl rfl (fun _=>rfl) rfl (by kernel_rfl) rfl ?_;obtain ⟨v30,h31,hr⟩:=zaa hr;refine wa tk h31 rfl rfl rfl rfl (fun _=>rfl) rfl rfl ?_;exact cx 9 hr
  exact ox 2 hr
 refine rn tk 5 rfl ?_;refine yLa (d' :=79) (j:=2) (F:=(zpa.pcn 0)) (l:=b23) rfl rfl rfl (hO ?_);refine clx 0 hr (VEa _) fun v32 _ hr=>?_
 refine clx 12 hr (zha _) fun v34 _ hr=>?_
 refine ax 2 84 hr (fun hr=>?_) fun hr=>?_
 .refine clx 5 hr (zga _ _) fun v37 _ hr=>?_
  exact kx 6 hr
 refine rn tk 3 rfl ?_;obtain ⟨v39,h40,hr⟩:=zaa hr;refine drF 1 0 [(89,.agg [.l zca.pc v32.1.Fields,.l cU v32.1.Body])] [(89,.any)] [(6,.ptr 6 0),(7,.ptr 7 0),(89,.agg [.l zca.pc v32.1.Fields,.l cU v32.1.Body]),(90,.agg [.i v39.Code,.i v39.Index])] [(18,.cells [.l zca.pc v32.1.Fields,.l cU v32.1.Body]),(2013,.row 42 false 3 (List.map (zpa.pcn 0) b23)),(13,.cells [.l zca.pc (([(zca.mk (([70,114,111,109]:Str)) a0),(zca.mk (([68,97,116,101]:Str)) v18.1),(zca.mk (([88,45,68,105,103,101,115,116]:Str)) v20),(zca.mk (([67,111,110,116,101,110,116,45,84,121,112,101]:Str)) (([109,117,108,116,105,112,97,114,116,47,100,105,103,101,115,116]:Str)))]:List zca)),.pv (.sl (some true) []),.hs 2013 0]),(10,.cells [.i v32.2.Code,.i v32.2.Index]),(7,.cells [.i 0,.i 0]),(6,.cells [.pv (.sl (some true) []),.pv (.sl (some true) [])])] mixed (by kernel_rfl) rfl rfl rfl rfl rfl (pqF tk rfl (.plain rfl) .nil) rfl rfl rfl rfl rfl (fun hJ=>?_) (fun hJ=>?_) ?_
 .refine cl (zla _ h40) rfl rfl ?_;exact hJ _ _ rfl rfl
 .refine cl (zla _ h40) rfl rfl<|rn tk 1 rfl ?_;exact hJ _ _ rfl rfl
 exact kx 5 hr
theorem Kaa(a0:Str)(r:Bool)(hr:wNa a0=some r):Run prog 158 [.s a0] (.bo r):=by
 unfold wNa at hr;refine rfx (fn:=f158) func158 fun g0 hg=>?_
 refine clx 8 hr (yBa _ _) fun v1 _ hr=>?_
 refine clx 11 hr (zha _) fun v3 _ hr=>?_
 exact kx 5 hr
theorem Wga(a0:List zca)(a1:Str)(r:zoa)(hr:yca a0 a1=some r):Run prog 118 [.l zca.pc a0,.s a1] (.agg [.i r.Code,.i r.Index]):=by
 unfold yca at hr;refine rfx (fn:=f118) func118 fun g0 hg=>?_
 refine clx 9 hr (qWa _) fun v1 _ hr=>?_
 refine clx 7 hr (zha _) fun v3 _ hr=>?_
 refine ax 2 9 hr (fun hr=>?_) fun hr=>?_
 .exact kx 8 hr
 refine clx 6 hr (Kaa _) fun v6 _ hr=>?_
 refine ax 3 13 hr (fun hr=>?_) fun hr=>?_
 .refine clx 2 hr (zga _ _) fun v9 _ hr=>?_
  exact kx 5 hr
 refine clx 4 hr zla fun v11 _ hr=>?_
 exact kx 4 hr
theorem YGa(a0:List zca)(a1:Str)(r:(List Str) × zoa)(hr:jHa a0 a1=some r):Run prog 82 [.l zca.pc a0,.s a1] (.tup [.l cS r.1,.agg [.i r.2.Code,.i r.2.Index]]):=by
 unfold jHa at hr;refine rfx (fn:=f82) func82 fun g0 hg=>?_
 refine clx 11 hr (Wga _ _) fun v1 _ hr=>?_
 refine clx 7 hr (zha _) fun v3 _ hr=>?_
 refine ax 2 14 hr (fun hr=>?_) fun hr=>?_
 .refine rn tk 1 rfl<|dr 2 [(4,.pv (.sl (some true) [])),(15,.agg [.i v1.Code,.i v1.Index])] mixed (by kernel_rfl) rfl rfl (pq tk rfl (.plain rfl) (pq tk rfl (.plain rfl) .nil)) rfl ?_;exact kx 5 hr
 refine rn tk 5 rfl ?_;refine kVa 1007 (d:=7) 9 1 rfl rfl rfl (hO ?_);refine rn tk 6 rfl<|wn tk rfl rfl rfl<|rn tk 4 rfl<|al1 hr (fun s6=>[(1,.s a1),(5,.ptr 5 0),(7,.hs 1007 0),(16,.l zca.pc a0),(17,.i ((a0.length:Int))),(18,.i s6.1)]) (fun s6=>[(1007,.row 9 false 1 (List.map cS s6.2)),(5,.cells [.i 0,.i 0])]) (.exit 0) (fun b7=>[(5,.ptr 5 0),(7,.hs 1007 0)]) (fun b7=>[(1007,.row 9 false 1 (List.map cS b7)),(5,.cells [.i 0,.i 0])]) rfl rfl (fun s6 x8 hr=>?_) (fun b7 hr=>?_)
 .unfold wma at hr;refine ax 6 19 hr (fun hr=>?_) fun hr=>?_
  .refine rn tk 2 rfl<|jb hr (fun j10=>[(1,.s a1),(5,.ptr 5 0),(7,.hs 1007 0),(16,.l zca.pc a0),(17,.i ((a0.length:Int))),(18,.i s6.1)]) (fun j10=>[(1007,.row 9 false 1 (List.map cS j10)),(5,.cells [.i 0,.i 0])]) (fun j10 hr=>?_) (fun j10 hr=>?_)
   .refine rn tk 3 rfl ?_;obtain ⟨v11,h12,hr⟩:=zaa hr;refine wi tk h12 rfl rfl rfl rfl rfl ?_;refine clx 10 hr (kla _ _) fun v13 _ hr=>?_
    refine ax 2 25 hr (fun hr=>?_) fun hr=>?_
    .refine rn tk 4 rfl<|wz cS ([v11.Value]:List Str) tk rfl rfl (fun _=>rfl) rfl rfl rfl ?_;obtain ⟨v16,h17,hr⟩:=zaa hr;refine wa tk h17 rfl rfl rfl rfl (fun _=>rfl) rfl rfl ?_;exact jx 3 hr
    exact jx 2 hr
   exact cx 4 hr
  exact ox 2 hr
 refine clx 5 hr zla fun v18 _ hr=>?_
 refine rn tk 4 rfl ?_;refine qwa (d:=4) (F:=cS) (l:=b7) rfl rfl (hC ?_);exact kx 1 hr
theorem wCa(a0:List zca)(a1:Str)(a2:Str)(r:Bool)(hr:qna a0 a1 a2=some r):Run prog 49 [.l zca.pc a0,.s a1,.s a2] (.bo r):=by
 unfold qna at hr;refine rfx (fn:=f49) func49 fun g0 hg=>?_
 refine clx 9 hr (YGa _ _) fun v1 _ hr=>?_
 refine jq 8 hr [] [] (fun j3=>[(6,.bo j3)]) (fun _=>[]) (fun j3 hr=>?_) (fun j3 hr=>?_)
 .refine rn tk 2 rfl<|wn tk rfl rfl rfl ?_;refine bx 2 18 hr (fun c4 hr=>?_) fun c4 hr=>?_
  .refine rn tk 1 rfl ?_;obtain ⟨v5,h6,hr⟩:=zaa hr;refine ug rfl rfl rfl<|wi tk h6 rfl rfl rfl rfl rfl ?_;exact jx 6 hr
  exact jx 8 hr
 exact kx 1 hr
theorem opG_bl{E:Env}{o:Oper}{FR:Fr}{σ:Sto}{e b:Bool}(h:e=b)(x:OpG E o FR σ (.pv (.b (.bool e)))):OpG E o FR σ (.pv (.b (.bool b))):=h▸x
theorem Kba(a0:List UInt8)(a1:List UInt8)(r:Bool)(hr:qka a0 a1=some r):Run prog 84 [.l cU a0,.l cU a1] (.bo r):=by
 unfold qka at hr;refine rfx (fn:=f84) func84 fun g0 hg=>?_
 refine rn tk 8 rfl<|wb tk rfl rfl rfl<|rn tk 1 rfl<|wb tk rfl rfl rfl ?_;exact kx 5 hr
theorem Jja(w:World):(callFunc 276 #[]).run prog w=.ok (.value (.tuple #[])) w:=run_call_mark0 func276 (by kernel_rfl) (by kernel_rfl) (by kernel_rfl) .disable (by kernel_rfl) w
theorem kVb(w:World):(callFunc 278 #[]).run prog w=.ok (.value (.tuple #[])) w:=run_call_mark0 func278 (by kernel_rfl) (by kernel_rfl) (by kernel_rfl) .enable (by kernel_rfl) w
theorem wHb(a:Addr)(w:World):(callFunc 279 #[.pointer (some a)]).run prog w=.ok (.value (.tuple #[])) w:=run_call_marked func279 (by kernel_rfl) (by kernel_rfl) (by kernel_rfl) .acquire (by kernel_rfl) a w
theorem Yja(a:Addr)(w:World):(callFunc 281 #[.pointer (some a)]).run prog w=.ok (.value (.tuple #[])) w:=run_call_marked func281 (by kernel_rfl) (by kernel_rfl) (by kernel_rfl) .releaseMerge (by kernel_rfl) a w
theorem VFa(a:Addr)(x:Value)(u:FrameMode)(w:World)(hc:w.cell? a=some x)(hz:w.frozen? a=false):
 CallsD prog 240 #[.pointer (some a),.bool true] u w fun e u' w' =>u' =u/\(e=.returned (.tuple #[])/\w' =w.drew.setCell a (.int .u32 1)):=by
 have hc' :w.drew.cell? a=some x:=by go_simp
 have hz' :w.drew.frozen? a=false:=by go_simp
 have hst:=run_call_store (P:=prog) func256 (by kernel_rfl) (by kernel_rfl) (by kernel_rfl) (by kernel_rfl) (k:=.u32) (y:=1) hc' hz';go_enter_d func240,Tryz.ntmps240
 go_wp2
 go_region_calls
 all_goals (go_end0;exact ⟨rfl,rfl⟩)
theorem Q9a(a:Addr)(u:FrameMode)(w:World)(hc:w.cell? a=some (.int .i32 1))(hz:w.frozen? a=false):
 CallsD prog 239 #[.pointer (some a)] u w fun e u' w' =>u' =u/\(e=.returned (.tuple #[])/\w' =w.setCell a (.int .i32 0)):=by
 have hd:=Jja;have he:=kVb;have hr:=Yja;have hadd:=run_call_add (P:=prog) func282 (by kernel_rfl) (by kernel_rfl) (by kernel_rfl) .i32 (by kernel_rfl) (y:= -1) (s:=0) hc hz (by simp[go_sem];rfl);have hcv:=run_convert_to_unsafe (P:=prog) (src:=336) (dst:=217) underlying336 underlying217 (by kernel_rfl) hc;go_enter_d func239,Tryz.ntmps239
 go_wp2
 go_end0
 go_wp2
 all_goals (go_end0;all_goals exact ⟨rfl,rfl⟩)
theorem kWb(a:Addr)(w:World)(hc:w.cell? a=some (.int .i32 0))(hz:w.frozen? a=false):
 Calls prog 238 #[.pointer (some a)] w fun e w' =>e=.returned (.tuple #[])/\w' =w.setCell a (.int .i32 1):=by
 have hd:=Jja;have he:=kVb;have ha:=wHb;have hcas:=run_call_cas_hit (P:=prog) func277 (by kernel_rfl) (by kernel_rfl) (by kernel_rfl) .i32 (by kernel_rfl) (y:=1) hc hz;have hc' :(w.setCell a (.int .i32 1)).cell? a=some (.int .i32 1):=World.cell?_setCell_same w a _ hc;have hcv:=run_convert_to_unsafe (P:=prog) (src:=336) (dst:=217) underlying336 underlying217 (by kernel_rfl) hc';go_enter func238,Tryz.ntmps238
 go_wp2
 first | go_end0 | (simp only[Exit.inBlock,Exit.then];refine bodyPost_ret (results_none rfl _ _ _) rfl ?_) | refine bodyPost_ret (results_none rfl _ _ _) rfl ?_
 go_wp2
 all_goals (go_end0;all_goals exact ⟨rfl,rfl⟩)
section
open Go.Shelf Go.RowKit Go.Lib Go.Proofs.Tryz
def kva:Array Value:=((List.range 256).map fun k:Nat=>Value.int .u8 (if k=0∨k=13 then 32 else (k:Int))).toArray
def wDa(i:Nat):Array Value:=((List.range 256).map fun k:Nat=>Value.int .u8 (if k < i then (k:Int) else 0)).toArray
structure RpLaid (P:Program):Prop where
 mixed:P.follows Departure.mixedOrders=true
 f:P.funcs[221]? =some f221
 t3:P.underlying 3=some (.int .i64)
 a3:∀w:World,(isAgg 3).run P w=.ok false w
 z3:∀w:World,(Go.sizeOf 3).run P w=.ok 1 w
 v3:∀w:World,(zeroValue 3).run P w=.ok (.int .i64 0) w
 t4:P.underlying 4=some .bool
 a4:∀w:World,(isAgg 4).run P w=.ok false w
 z4:∀w:World,(Go.sizeOf 4).run P w=.ok 1 w
 v4:∀w:World,(zeroValue 4).run P w=.ok (.bool false) w
 t5:P.underlying 5=some (.int .u8)
 a5:∀w:World,(isAgg 5).run P w=.ok false w
 z5:∀w:World,(Go.sizeOf 5).run P w=.ok 1 w
 v5:∀w:World,(zeroValue 5).run P w=.ok (.int .u8 0) w
 t9:P.underlying 9=some .string
 a9:∀w:World,(isAgg 9).run P w=.ok false w
 z9:∀w:World,(Go.sizeOf 9).run P w=.ok 1 w
 v9:∀w:World,(zeroValue 9).run P w=.ok (.string ⟨#[]⟩) w
 t91:P.underlying 54=some (.slice 9)
 a91:∀w:World,(isAgg 54).run P w=.ok false w
 z91:∀w:World,(Go.sizeOf 54).run P w=.ok 1 w
 v91:∀w:World,(zeroValue 54).run P w=.ok (.slice none 0 0) w
 t222:P.underlying 295=some (.array 256 5)
 t170 : P.underlying 255 = some (.struct #[{ name := "once", type := 251, offset := 0, embedded := false, tag := "", pkgPath := "strings", byteOffset := 0 }, { name := "r", type := 253, offset := 3, embedded := false, tag := "", pkgPath := "strings", byteOffset := 16 }, { name := "oldnew", type := 54, offset := 4, embedded := false, tag := "", pkgPath := "strings", byteOffset := 32 }])
 z166:∀w:World,(Go.sizeOf 251).run P w=.ok 3 w
 z168:∀w:World,(Go.sizeOf 253).run P w=.ok 1 w
 hv222:∀w:World,(zeroValue 295).run P w=.ok (.agg (wDa 0)) w
 c223:P.concrete 296=true
 z222:∀w:World,(Go.sizeOf 295).run P w=.ok 256 w
 hi222:(P.info? 295).map (·.size)=some 256
theorem rp_laid:RpLaid prog where
 mixed:=by kernel_rfl
 f:=func221
 t3:=underlying3
 a3:=isAgg3
 z3:=sizeOf3
 v3:=zeroValue3
 t4:=underlying4
 a4:=isAgg4
 z4:=sizeOf4
 v4:=zeroValue4
 t5:=underlying5
 a5:=isAgg5
 z5:=sizeOf5
 v5:=zeroValue5
 t9:=underlying9
 a9:=isAgg9
 z9:=sizeOf9
 v9:=zeroValue9
 t91:=underlying54
 a91:=isAgg54
 z91:=sizeOf54
 v91:=zeroValue54
 t222:=underlying295
 t170:=underlying255
 z166:=sizeOf251
 z168:=sizeOf253
 hv222:=fun w=>(zeroValue295 w).trans (by kernel_rfl)
 c223:=by kernel_rfl
 z222:=sizeOf295
 hi222:=by kernel_rfl
theorem Jka(i k:Nat)(h:k < 256):(wDa i)[k]? =some (.int .u8 (if k < i then (k:Int) else 0)):=by
 unfold wDa;simp only[jBd,jAj,List.getElem?_range h,jDe]
theorem q9b(i:Nat)(h:i < 256):(wDa i).setIfInBounds i (.int .u8 (i:Int))=wDa (i+1):=by
 apply Array.ext_getElem?;intro k;rw[Array.getElem?_setIfInBounds];unfold wDa;simp only[jBd,jAj,List.size_toArray,jAu,List.length_range];by_cases hk:i=k
 .subst hk;rw[if_pos rfl,if_pos h,List.getElem?_range h];simp
 rw[if_neg hk];by_cases h2:k < 256
 .rw[List.getElem?_range h2];simp only[jDe];have:(k < i)↔(k < i+1):=by omega
  simp only[this]
 rw[jCk (by simp;omega)];rfl
def vIb:Array Value:=(wDa 256).setIfInBounds 13 (.int .u8 32)
theorem wIb:vIb.setIfInBounds 0 (.int .u8 32)=kva:=by kernel_rfl
theorem rp_build{P:Program}(L:RpLaid P)(b d o c:Nat)(w:World)(hr:w.cell? ⟨b,4,none⟩=some (.slice (some ⟨d,o,none⟩) 4 c))(hd:d < w.heap.size)(h0:w.cell? ⟨d,o,none⟩=some (.string ⟨#[0]⟩))(h1:w.cell? ⟨d,o+1,none⟩=some (.string ⟨#[32]⟩))(h2:w.cell? ⟨d,o+2,none⟩=some (.string ⟨#[13]⟩))(h3:w.cell? ⟨d,o+3,none⟩=some (.string ⟨#[32]⟩)):
 Calls P 221 #[.pointer (some ⟨b,0,none⟩)] w fun e w' =>e=.returned (.iface 296 (.pointer (some ⟨w.heap.size,0,none⟩)))/\w' =w.alloc (.cells kva 295):=by
 have t3:=L.t3;have a3:=L.a3;have z3:=L.z3;have v3:=L.v3;have t4:=L.t4;have a4:=L.a4;have z4:=L.z4;have v4:=L.v4;have t5:=L.t5;have a5:=L.a5;have z5:=L.z5;have v5:=L.v5;have t9:=L.t9;have a9:=L.a9;have z9:=L.z9;have v9:=L.v9;have t91:=L.t91;have a91:=L.a91;have z91:=L.z91;have v91:=L.v91;have t170:=L.t170;have z166:=L.z166;have z168:=L.z168;have hv222:=L.hv222;have u222:=run_underlying L.t222;have t222:=L.t222;have u170:=run_underlying L.t170;have u91:=run_underlying L.t91;have u9:=run_underlying L.t9;have u5:=run_underlying L.t5;have u3:=run_underlying L.t3;have u4:=run_underlying L.t4;have hmk:∀(x:Value) (w:World),(Instr.makeInterface 296 x).run P w=.ok (.iface 296 x) w:=fun x w=>run_makeInterface w _ x L.c223
 go_enter L.f,Tryz.ntmps221
 go_wp2
 go_loopg [4,5] 2 (fun g v4 v5 wx=>v4=.bool true/\wx=w/\((g=2/\v5=.int .i64 0)∨(g=1/\v5=.int .i64 2)∨(g=0/\v5=.int .i64 4)))
 case atStart=>exact ⟨rfl,rfl,.inl ⟨rfl,rfl⟩⟩
 case round=>
  obtain ⟨rfl,rfl,hg⟩:=hrel;rcases hg with ⟨rfl,rfl⟩ | ⟨rfl,rfl⟩ | ⟨rfl,rfl⟩
  .go_wp2
   go_roundg 1
   case measure=>omega
   case rel=>exact ⟨rfl,rfl,.inr (.inl ⟨rfl,rfl⟩)⟩
  .go_wp2
   go_roundg 0
   case measure=>omega
   case rel=>exact ⟨rfl,rfl,.inr (.inr ⟨rfl,rfl⟩)⟩
  have hsz:(wDa 0).size=256:=by simp[wDa]
  have hsc:=run_storeCells_new (P:=P) wr 295 (wDa 0) (wDa 0) (by rw[hsz];exact L.hi222) rfl (by decide+kernel);go_wp2
  simp only[L.z222,Result.andThen,↓reduceIte,hsc];rw[Oper.upon_skip];go_wp2
  have k0:∀A:Array Value,(wr.alloc (.cells A 295)).cell? ⟨d,o,none⟩=some (.string ⟨#[0]⟩):=fun A=>by rw[World.cell?_alloc_past _ _ _ hd];exact h0
  have k1:∀A:Array Value,(wr.alloc (.cells A 295)).cell? ⟨d,o+1,none⟩=some (.string ⟨#[32]⟩):=fun A=>by rw[World.cell?_alloc_past _ _ _ hd];exact h1
  have k2:∀A:Array Value,(wr.alloc (.cells A 295)).cell? ⟨d,o+2,none⟩=some (.string ⟨#[13]⟩):=fun A=>by rw[World.cell?_alloc_past _ _ _ hd];exact h2
  have k3:∀A:Array Value,(wr.alloc (.cells A 295)).cell? ⟨d,o+3,none⟩=some (.string ⟨#[32]⟩):=fun A=>by rw[World.cell?_alloc_past _ _ _ hd];exact h3
  go_loopg [61] 256 (fun g v61 wx=>∃i:Nat,i+g=256/\v61=.int .i64 i/\wx=wr.alloc (.cells (wDa i) 295))
  case atStart=>exact ⟨0,rfl,rfl,rfl⟩
  case round=>
   obtain ⟨i,hig,rfl,rfl⟩:=hrel;cases gk with
   | zero=>
    obtain rfl:i=256:=by omega
    have c13:=Jka 256 13 (by omega);have m0:vIb[0]? =some (.int .u8 0):=by kernel_rfl
    have hm1:(wDa 256).setIfInBounds 13 (.int .u8 32)=vIb:=rfl;have hm2:=wIb;go_wp2
    go_loopg [8] 2 (fun g v8 wx=>(g=2/\v8=.int .i64 2/\wx=wr.alloc (.cells (wDa 256) 295))∨(g=1/\v8=.int .i64 0/\wx=wr.alloc (.cells vIb 295))∨(g=0/\v8=.int .i64 (-2)/\wx=wr.alloc (.cells kva 295)))
    case atStart=>exact .inl ⟨rfl,rfl,rfl⟩
    case round=>
     rcases hrel with ⟨rfl,rfl,rfl⟩ | ⟨rfl,rfl,rfl⟩ | ⟨rfl,rfl,rfl⟩
     .go_wp2
      go_roundg 1
      case measure=>omega
      case rel=>exact .inr (.inl ⟨rfl,rfl,by first | rfl | rw[hm1]⟩)
     .go_wp2
      go_roundg 0
      case measure=>omega
      case rel=>exact .inr (.inr ⟨rfl,rfl,by first | rfl | rw[hm2]⟩)
     go_wp2
     go_ret
     exact ⟨rfl,rfl⟩
   | succ g=>
    have hi:(i:Int) < 256:=by omega
    have hset:=q9b i (by omega);have hcell:=Jka i i (by omega);go_wp2
    go_roundg g
    case measure=>omega
    case rel=>exact ⟨i+1,by omega,by first | rfl | simp,by first | rfl | rw[hset]⟩
end
section
open Go.Shelf Go.RowKit Go.Lib Go.Proofs.Tryz
abbrev bI(A:Nat):Value:=.iface 296 (.pointer (some ⟨A,0,none⟩))
theorem vra{b i j:Nat}(h:i≠j):(⟨b,i,none⟩:Addr)≠⟨b,j,none⟩:=fun e=>h (by cases e;rfl)
theorem Jla{b c i j:Nat}(h:b≠c):(⟨b,i,none⟩:Addr)≠⟨c,j,none⟩:=fun e=>h (by cases e;rfl)
structure wJb (w:World) (b d o c:Nat):Prop where
 hb:b < w.heap.size
 hd:d < w.heap.size
 ne:b≠d
 c0:w.cell? ⟨b,0,none⟩=some (.int .u32 0)
 c1:w.cell? ⟨b,1,none⟩=some (.int .i32 0)
 c3:w.cell? ⟨b,3,none⟩=some .nilIface
 c4:w.cell? ⟨b,4,none⟩=some (.slice (some ⟨d,o,none⟩) 4 c)
 fz:∀i,w.frozen? ⟨b,i,none⟩=false
 s0:w.cell? ⟨d,o,none⟩=some (.string ⟨#[0]⟩)
 s1:w.cell? ⟨d,o+1,none⟩=some (.string ⟨#[32]⟩)
 s2:w.cell? ⟨d,o+2,none⟩=some (.string ⟨#[13]⟩)
 s3:w.cell? ⟨d,o+3,none⟩=some (.string ⟨#[32]⟩)
theorem rp_once(b d o c:Nat)(w:World)(hb:b < w.heap.size)(hd:d < w.heap.size)(c3:w.cell? ⟨b,3,none⟩=some .nilIface)(c4:w.cell? ⟨b,4,none⟩=some (.slice (some ⟨d,o,none⟩) 4 c))(fz:∀i,w.frozen? ⟨b,i,none⟩=false)
 (s0:w.cell? ⟨d,o,none⟩=some (.string ⟨#[0]⟩)) (s1:w.cell? ⟨d,o+1,none⟩=some (.string ⟨#[32]⟩)) (s2:w.cell? ⟨d,o+2,none⟩=some (.string ⟨#[13]⟩)) (s3:w.cell? ⟨d,o+3,none⟩=some (.string ⟨#[32]⟩)):
 Calls prog 193 #[.pointer (some ⟨b,0,none⟩)] w fun e w' =>e=.returned (.tuple #[])/\
  w' =((w.setCell ⟨b,3,none⟩ (bI w.heap.size)).setCell ⟨b,4,none⟩ (.slice none 0 0)).alloc (.cells kva 295):=by
 have a3:(w.alloc (.cells kva 295)).cell? ⟨b,3,none⟩=some .nilIface:=by rw[World.cell?_alloc_past _ _ _ hb];exact c3
 have z3:(w.alloc (.cells kva 295)).frozen? ⟨b,3,none⟩=false:=by rw[World.frozen?_alloc_past _ _ _ hb];exact fz 3
 have a4:((w.alloc (.cells kva 295)).setCell ⟨b,3,none⟩ (bI w.heap.size)).cell? ⟨b,4,none⟩=some (.slice (some ⟨d,o,none⟩) 4 c):=by rw[World.cell?_setCell_other _ _ _ _ (vra (by decide)),World.cell?_alloc_past _ _ _ hb];exact c4
 have z4:((w.alloc (.cells kva 295)).setCell ⟨b,3,none⟩ (bI w.heap.size)).frozen? ⟨b,4,none⟩=false:=by
  have:=fz 4;have h2:(w.alloc (.cells kva 295)).frozen? ⟨b,4,none⟩=false:=by rw[World.frozen?_alloc_past _ _ _ hb];exact this
  simp[h2]
 go_enter func193,Tryz.ntmps193
 go_wp2_with (go_at_call 221;refine (rp_build rp_laid b d o c _ c4 hd s0 s1 s2 s3).mono ?_;rintro e w' ⟨rfl,rfl⟩)
 go_end0
 exact ⟨rfl,rfl⟩
theorem vJb(a:Addr)(w:World)(h:w.cell? a=some (.int .u32 0)):Calls prog 219 #[.pointer (some a)] w fun e w' =>e=.returned (.bool false)/\w' =w:=by
 have hl:=run_call_load (P:=prog) func237 (by kernel_rfl) (by kernel_rfl) (by kernel_rfl) .u32 (by kernel_rfl) h;go_enter func219,Tryz.ntmps219
 go_wp2
 go_ret
 exact ⟨rfl,rfl⟩
theorem rp_load1(a:Addr)(w:World)(h:w.cell? a=some (.int .u32 1)):Calls prog 219 #[.pointer (some a)] w fun e w' =>e=.returned (.bool true)/\w' =w:=by
 have hl:=run_call_load (P:=prog) func237 (by kernel_rfl) (by kernel_rfl) (by kernel_rfl) .u32 (by kernel_rfl) h;go_enter func219,Tryz.ntmps219
 go_wp2
 go_ret
 exact ⟨rfl,rfl⟩
def ranW(b:Nat)(w:World):World:=(((((w.setCell ⟨b,1,none⟩ (.int .i32 1)).setCell ⟨b,3,none⟩ (bI w.heap.size)).setCell ⟨b,4,none⟩ (.slice none 0 0)).alloc (.cells kva 295)).drew.setCell ⟨b,0,none⟩ (.int .u32 1)).setCell ⟨b,1,none⟩ (.int .i32 0)
theorem rp_slow(b d o c:Nat)(w:World)(F:wJb w b d o c):
 Calls prog 220 #[.pointer (some ⟨b,0,none⟩),.func (.func 193) #[.pointer (some ⟨b,0,none⟩)] #[]] w fun e w' =>e=.returned (.tuple #[])/\w' =ranW b w:=by
 have hw1:(w.setCell ⟨b,1,none⟩ (.int .i32 1)).heap.size=w.heap.size:=by simp
 have hl:(w.setCell ⟨b,1,none⟩ (.int .i32 1)).cell? ⟨b,0,none⟩=some (.int .u32 0):=(World.cell?_setCell_other _ ⟨b,1,none⟩ ⟨b,0,none⟩ _ (by simp)).trans F.c0;have ho:Calls prog 193 #[.pointer (some ⟨b,0,none⟩)] (w.setCell ⟨b,1,none⟩ (.int .i32 1)) fun e w' =>e=.returned (.tuple #[])/\
  w' =(((w.setCell ⟨b,1,none⟩ (.int .i32 1)).setCell ⟨b,3,none⟩ (bI w.heap.size)).setCell ⟨b,4,none⟩ (.slice none 0 0)).alloc (.cells kva 295):=by
  have h:=rp_once b d o c (w.setCell ⟨b,1,none⟩ (.int .i32 1)) (by rw[hw1];exact F.hb) (by rw[hw1];exact F.hd) ((World.cell?_setCell_other _ _ _ _ (vra (by decide))).trans F.c3) ((World.cell?_setCell_other _ _ _ _ (vra (by decide))).trans F.c4) (fun i=>by have:=F.fz i;simp[this])
   ((World.cell?_setCell_other _ _ _ _ (Jla F.ne)).trans F.s0) ((World.cell?_setCell_other _ _ _ _ (Jla F.ne)).trans F.s1) ((World.cell?_setCell_other _ _ _ _ (Jla F.ne)).trans F.s2) ((World.cell?_setCell_other _ _ _ _ (Jla F.ne)).trans F.s3)
  rw[hw1]at h;exact h
 have hnot:∀(x:Bool) (w:World),(Op.unary .not (.bool x)).run prog w=.ok (.bool (!x)) w:=fun _ _=>rfl
 have h1:=F.c1;have f1:=F.fz 1;go_enter_defers func220,Tryz.ntmps220
 go_wp2_with (first | (go_at_call 238;refine (kWb ⟨b,1,none⟩ _ (by go_simp) (by go_simp)).mono ?_;rintro e w' ⟨rfl,rfl⟩) | (go_at_call 219;refine (vJb ⟨b,0,none⟩ _ hl).mono ?_;rintro e w' ⟨rfl,rfl⟩) | (go_at_call 193;refine ho.mono ?_;rintro e w' ⟨rfl,rfl⟩))
 go_wp2
 have hA0:((((w.setCell ⟨b,1,none⟩ (.int .i32 1)).setCell ⟨b,3,none⟩ (bI w.heap.size)).setCell ⟨b,4,none⟩ (.slice none 0 0)).alloc (.cells kva 295)).cell? ⟨b,0,none⟩=some (.int .u32 0):=by
  rw[World.cell?_alloc_past _ _ _ (by simp;exact F.hb),World.cell?_setCell_other _ _ _ _ (vra (by decide)),World.cell?_setCell_other _ _ _ _ (vra (by decide)),World.cell?_setCell_other _ _ _ _ (vra (by decide))];exact F.c0
 have hA1:((((w.setCell ⟨b,1,none⟩ (.int .i32 1)).setCell ⟨b,3,none⟩ (bI w.heap.size)).setCell ⟨b,4,none⟩ (.slice none 0 0)).alloc (.cells kva 295)).cell? ⟨b,1,none⟩=some (.int .i32 1):=by
  rw[World.cell?_alloc_past _ _ _ (by simp;exact F.hb),World.cell?_setCell_other _ _ _ _ (vra (by decide)),World.cell?_setCell_other _ _ _ _ (vra (by decide))];exact World.cell?_setCell_same w _ _ h1
 have hZ:∀i,((((w.setCell ⟨b,1,none⟩ (.int .i32 1)).setCell ⟨b,3,none⟩ (bI w.heap.size)).setCell ⟨b,4,none⟩ (.slice none 0 0)).alloc (.cells kva 295)).frozen? ⟨b,i,none⟩=false:=fun i=>by
  have:=F.fz i;rw[World.frozen?_alloc_past _ _ _ (by simp;exact F.hb)];simp[this]
 refine leaves_cons (f:=240) (args:= #[.pointer (some ⟨b,0,none⟩),.bool true]) (by simp) (by simp[go_sem])<|(VFa ⟨b,0,none⟩ (.int .u32 0) .returning _ hA0 (hZ 0)).mono ?_;rintro e u' w'' ⟨rfl,rfl,rfl⟩;refine leaves_cons (f:=239) (args:= #[.pointer (some ⟨b,1,none⟩)]) (by simp[settle]) (by simp[go_sem])<|(Q9a ⟨b,1,none⟩ _ _ ?_ ?_).mono ?_
 .rw[World.cell?_setCell_other _ _ _ _ (vra (by decide)),World.cell?_drew];exact hA1
 .have:=hZ 1;simp at this ⊢;exact this
 rintro e u' w'' ⟨rfl,rfl,rfl⟩;simp[Leaves,settle,results,Tryz.results220,ranW]
end
section
open Go.Shelf Go.RowKit Go.Lib Go.Proofs.Tryz
theorem vab(b d o c:Nat)(w:World)(F:wJb w b d o c):
 Calls prog 192 #[.pointer (some ⟨b,0,none⟩),.func (.func 193) #[.pointer (some ⟨b,0,none⟩)] #[]] w fun e w' =>e=.returned (.tuple #[])/\w' =ranW b w:=by
 have hnot:∀(x:Bool) (w:World),(Op.unary .not (.bool x)).run prog w=.ok (.bool (!x)) w:=fun _ _=>rfl
 go_enter func192,Tryz.ntmps192
 go_wp2_with (first | (go_at_call 219;refine (vJb ⟨b,0,none⟩ _ F.c0).mono ?_;rintro e w' ⟨rfl,rfl⟩) | (go_at_call 220;refine (rp_slow b d o c _ F).mono ?_;rintro e w' ⟨rfl,rfl⟩))
 go_end0
 exact ⟨rfl,rfl⟩
theorem wKb(b:Nat)(fv:Value)(w:World)(h:w.cell? ⟨b,0,none⟩=some (.int .u32 1)):
 Calls prog 192 #[.pointer (some ⟨b,0,none⟩),fv] w fun e w' =>e=.returned (.tuple #[])/\w' =w:=by
 have hnot:∀(x:Bool) (w:World),(Op.unary .not (.bool x)).run prog w=.ok (.bool (!x)) w:=fun _ _=>rfl
 go_enter func192,Tryz.ntmps192
 go_wp2_with (go_at_call 219;refine (rp_load1 ⟨b,0,none⟩ _ h).mono ?_;rintro e w' ⟨rfl,rfl⟩)
 go_end0
 exact ⟨rfl,rfl⟩
def mixL(L:List UInt8)(i:Nat):List UInt8:=(L.take i).map kIa++L.drop i
theorem mix_zero(L:List UInt8):mixL L 0=L:=by simp[mixL]
theorem jwb(L:List UInt8):mixL L L.length=L.map kIa:=by simp[mixL]
theorem vbb(L:List UInt8)(i:Nat):(mixL L i).length=L.length:=by simp[mixL];omega
theorem jxb{L:List UInt8}{i:Nat}{x:UInt8}(h:L[i]? =some x):(mixL L i)[i]? =some x:=by
 have hi:=(jAc.1 h).1;unfold mixL;rw[jAl (by simp;omega)];simp only[jAu,jBv,jBh];rw[show i+(i - min i L.length)=i by omega];exact h
theorem znb{L:List UInt8}{i:Nat}{x:UInt8}(h:L[i]? =some x):mixL L (i+1)=(mixL L i).set i (kIa x):=by
 have hi:=(jAc.1 h).1;have hx:=(jAc.1 h).2;unfold mixL;rw[List.set_append_right _ _ (by simp;omega)];simp only[jAu,jBv];rw[show i - min i L.length=0 by omega,List.take_add_one,h,jBy hi,hx];simp
theorem vKb{L:List UInt8}{i:Nat}{x:UInt8}(h:L[i]? =some x)(hc:kIa x=x):mixL L (i+1)=mixL L i:=by
 rw[znb h,hc];apply List.ext_getElem?;intro j;rw[jCu];by_cases e:i=j
 .subst e;rw[if_pos rfl,if_pos (by rw[vbb];exact (jAc.1 h).1),jxb h]
 rw[if_neg e]
theorem Jma{x:UInt8}(h:((kIa x).toNat:Int)=(x.toNat:Int)):kIa x=x:=UInt8.toNat_inj.1 (by omega)
def VGa(C:Array Value)(l:List UInt8):Prop:=∀(j:Nat) x,l[j]? =some x->C[j]? =some (.int .u8 (x.toNat:Int))
theorem kXb{C:Array Value}{l:List UInt8}{i:Nat}{y:UInt8}(h:VGa C l)(hi:i < l.length):VGa (C.setIfInBounds i (.int .u8 (y.toNat:Int))) (l.set i y):=by
 intro j x hx;have hC:=h i _ (jAg hi);have hsz:=(jCd.1 hC).1;rw[jCu]at hx;rw[Array.getElem?_setIfInBounds];by_cases e:i=j
 .subst e;rw[if_pos rfl,if_pos hi]at hx;cases hx;rw[if_pos rfl,if_pos hsz]
 rw[if_neg e]at hx ⊢;exact h j x hx
theorem vcb(s:ByteArray)(cap:Nat):VGa (bytesRow s cap) s.data.toList:=by
 intro j x hx;have hj:=(jAc.1 hx).1;unfold bytesRow;rw[jBf (by simpa using hj)];simp only[Array.getElem?_map];rw[show s.data[j]? =some x by simpa using hx];rfl
theorem VZa(w:World)(C:Array Value)(t:TypeId)(fz:Nat × Nat)(i:Nat)(v:Value):(w.alloc (.cells C t fz)).setCell ⟨w.heap.size,i,none⟩ v=w.alloc (.cells (C.setIfInBounds i v) t fz):=by
 unfold World.setCell World.alloc
 congr 1
 apply Array.ext_getElem?;intro k;simp only[jBm,Array.getElem?_push];by_cases hk:k=w.heap.size
 .subst hk;simp
 simp[hk,Ne.symm hk]
theorem vLb(A:Nat)(s:ByteArray)(w:World)(hlen:s.size<=4611686018427387904)(hA:A < w.heap.size)(ht:∀x:UInt8,w.cell? ⟨A,x.toNat,none⟩=some (.int .u8 ((kIa x).toNat:Int))):
 Calls prog 326 #[.pointer (some ⟨A,0,none⟩),.string s] w fun e w' =>e=.returned (.string ⟨(s.data.toList.map kIa).toArray⟩)/\(w' =w∨∃C fz,w' =(w.alloc (.cells C 5 fz)).drew):=by
 have HT:Aside (∀x:UInt8,w.cell? ⟨A,x.toNat,none⟩=some (.int .u8 ((kIa x).toNat:Int))):=ht;clear ht;have HT2:Aside (∀(x:UInt8) (C:Array Value) (fz:Nat × Nat),(w.alloc (.cells C 5 fz)).cell? ⟨A,x.toNat,none⟩=some (.int .u8 ((kIa x).toNat:Int))):=fun x C fz=>by
  rw[World.cell?_alloc_past _ _ _ hA];exact HT.out x
 have hcv:(convert 9 24 (.string s)).run prog w=.ok (.slice (some ⟨w.heap.size,0,none⟩) s.size (grownCap w s.size 0 5))
  (w.alloc (.cells (bytesRow s (grownCap w s.size 0 5)) 5 ((bytesRow s (grownCap w s.size 0 5)).size,(bytesRow s (grownCap w s.size 0 5)).size+1))).drew:=run_bytes_of_string (P:=prog) w 9 24 5 s underlying9 underlying24 underlying5
 have hn1:∀w:World,(binOp .eql 24 (.slice none 0 0) (.slice none 0 0)).run prog w=.ok (.bool true) w:=fun w=>by
  simp only[binOp];simp[run_equal_slice_nil w 24 5 none 0 0 underlying24]
 have hn2:∀(a:Addr) (l c:Nat) (w:World),(binOp .eql 24 (.slice (some a) l c) (.slice none 0 0)).run prog w=.ok (.bool false) w:=fun a l c w=>by
  simp only[binOp];simp[run_equal_slice_nil w 24 5 (some a) l c underlying24]
 have hL:Lib.Kept (s.data.toList.length=s.size):=rfl;go_enter func326,Tryz.ntmps326
 go_wp2
 go_loopg [5,6] s.size (fun g v5 v6 wx=>∃i:Nat,i+g=s.size/\v6=.int .i64 i/\((v5=.slice none 0 0/\wx=w/\Lib.Kept (mixL s.data.toList i=s.data.toList))∨∃C cap lo hi,v5=.slice (some ⟨w.heap.size,0,none⟩) s.size cap/\wx=(w.alloc (.cells C 5 (lo,hi))).drew/\Lib.Kept (lo=C.size)/\Lib.Kept (VGa C (mixL s.data.toList i))))
 case atStart=>exact ⟨0,by omega,rfl,.inl ⟨rfl,rfl,mix_zero _⟩⟩
 case round=>
  obtain ⟨i,hig,rfl,hrel⟩:=hrel;cases gk with
  | zero=>
   obtain rfl:i=s.size:=by omega
   have hiz:¬((s.size:Int) < (s.size:Int)):=by omega
   rcases hrel with ⟨rfl,rfl,hk⟩ | ⟨C,cap,lo,hi,rfl,rfl,hz,hrow⟩
   .go_wp2
    go_ret
    refine ⟨?_,.inl rfl⟩;have hk' :mixL s.data.toList s.size=s.data.toList:=hk;rw[show s.size=s.data.toList.length from rfl,jwb]at hk';rw[hk'];show Ending.returned (Value.string s)=Ending.returned (Value.string ⟨s.data.toList.toArray⟩);simp
   have hback:=run_convert_bytes_back (P:=prog) ((w.alloc (.cells C 5 (lo,hi))).drew) 24 9 5 ⟨w.heap.size,0,none⟩ cap (s.data.toList.map kIa) underlying24 underlying5 underlying9 (fun j hj=>by
    have hr:VGa C (mixL s.data.toList s.size):=hrow;rw[show s.size=s.data.toList.length from rfl,jwb]at hr;have:=hr j _ (jAg hj);rw[show (⟨w.heap.size,0,none⟩:Addr).add j=⟨w.heap.size,j,none⟩ by unfold Addr.add;split <;> simp_all];rw[World.cell?_drew,World.cell?_alloc_mark];exact this)
   rw[show (s.data.toList.map kIa).length=s.size by simp]at hback;clear hrow hz;go_wp2
   go_ret
   first | exact ⟨rfl,.inr ⟨C,(lo,hi),rfl⟩⟩ | exact ⟨rfl,.inr ⟨C,lo,hi,rfl⟩⟩
  | succ g=>
   have hi:i < s.size:=by omega
   have hiz:(i:Int) < (s.size:Int):=by omega
   obtain ⟨x,hx⟩:∃x:UInt8,s[i]'hi=x:=⟨_,rfl⟩;have hxl:Lib.Kept (s.data.toList[i]? =some x):=by rw[<-hx];exact Lib.data_getElem? s i hi
   have hx256:(x.toNat:Int) < 256:=by have:=UInt8.toNat_lt x;omega
   have hwr:wrap64 ((i:Int)+1)=((i:Int)+1):=by unfold wrap64;omega
   rcases hrel with ⟨rfl,rfl,hk⟩ | ⟨C,cap,lo,hi2,rfl,rfl,hz,hrow⟩
   .have hcell:=HT.out x;by_cases hcl:((kIa x).toNat:Int)=(x.toNat:Int)
    .go_wp2
     go_roundg g
     case measure=>omega
     case rel=>exact ⟨i+1,by omega,by first | rfl | simp,.inl ⟨rfl,rfl,(vKb hxl (Jma hcl)).trans hk⟩⟩
    have hrow:Lib.Kept (VGa (bytesRow s (grownCap wr s.size 0 5)) (mixL s.data.toList i)):=by
     have hk' :mixL s.data.toList i=s.data.toList:=hk;rw[hk'];exact vcb s _
    generalize bytesRow s (grownCap wr s.size 0 5)=B at hcv hrow;have hBi:B[i]? =some (.int .u8 (x.toNat:Int)):=by
     have hr:VGa B (mixL s.data.toList i):=hrow;exact hr i x (jxb hxl)
    have hBs:i < B.size:=(jCd.1 hBi).1;have hc2:=HT2.out x B (B.size,B.size+1);have hc1:(wr.alloc (.cells B 5 (B.size,B.size+1))).cell? ⟨wr.heap.size,i,none⟩=some (.int .u8 (x.toNat:Int)):=(World.cell?_alloc_mark wr B 5 _ i).trans hBi;have hf1:(wr.alloc (.cells B 5 (B.size,B.size+1))).frozen? ⟨wr.heap.size,i,none⟩=false:=(World.frozen?_alloc_mark wr B 5 _ _ i).trans (by rw[decide_eq_false (by omega)];rfl);have hs1:=VZa wr B 5 (B.size,B.size+1) i (.int .u8 ((kIa x).toNat:Int));have HB:Lib.Kept (B[i]? =some (.int .u8 (x.toNat:Int))):=hBi;clear hBi hBs hk;go_wp2
    go_roundg g
    case measure=>omega
    case rel=>
     refine ⟨i+1,by omega,by first | rfl | simp,.inr ⟨_,_,_,_,rfl,by first | rfl | exact congrArg World.drew hs1,?_,?_⟩⟩
     .show B.size=(B.setIfInBounds i _).size;simp
     have hr:VGa B (mixL s.data.toList i):=hrow;show VGa _ (mixL s.data.toList (i+1));rw[znb hxl];exact kXb hr (by rw[vbb];exact hi)
   have hBi:C[i]? =some (.int .u8 (x.toNat:Int)):=by
    have hr:VGa C (mixL s.data.toList i):=hrow;exact hr i x (jxb hxl)
   have hBs:i < C.size:=(jCd.1 hBi).1;have hz' :lo=C.size:=hz;have hc2:=HT2.out x C (lo,hi2);have hc1:(w.alloc (.cells C 5 (lo,hi2))).cell? ⟨w.heap.size,i,none⟩=some (.int .u8 (x.toNat:Int)):=(World.cell?_alloc_mark w C 5 _ i).trans hBi;have hf1:(w.alloc (.cells C 5 (lo,hi2))).frozen? ⟨w.heap.size,i,none⟩=false:=(World.frozen?_alloc_mark w C 5 _ _ i).trans (by rw[decide_eq_false (by omega)];rfl);have hs1:=VZa w C 5 (lo,hi2) i (.int .u8 ((kIa x).toNat:Int));clear hBi hBs hz';by_cases hcl:((kIa x).toNat:Int)=(x.toNat:Int)
   .go_wp2
    go_roundg g
    case measure=>omega
    case rel=>
     refine ⟨i+1,by omega,by first | rfl | simp,.inr ⟨C,cap,lo,hi2,rfl,rfl,hz,?_⟩⟩;show VGa C (mixL s.data.toList (i+1));rw[vKb hxl (Jma hcl)];exact hrow
   go_wp2
   go_roundg g
   case measure=>omega
   case rel=>
    refine ⟨i+1,by omega,by first | rfl | simp,.inr ⟨_,_,_,_,rfl,by first | rfl | exact congrArg World.drew hs1,?_,?_⟩⟩
    .show lo=(C.setIfInBounds i _).size;rw[Array.size_setIfInBounds];exact hz
    have hr:VGa C (mixL s.data.toList i):=hrow;show VGa _ (mixL s.data.toList (i+1));rw[znb hxl];exact kXb hr (by rw[vbb];exact hi)
end
section
open Go.Shelf Go.RowKit Go.Lib Go.Proofs.Tryz
structure Built (w:World) (b A:Nat):Prop where
 hb:b < w.heap.size
 hA:A < w.heap.size
 c0:w.cell? ⟨b,0,none⟩=some (.int .u32 1)
 c3:w.cell? ⟨b,3,none⟩=some (bI A)
 tab:∀x:UInt8,w.cell? ⟨A,x.toNat,none⟩=some (.int .u8 ((kIa x).toNat:Int))
def ranT(T:Array Value)(b:Nat)(w:World):World:=(((((w.setCell ⟨b,1,none⟩ (.int .i32 1)).setCell ⟨b,3,none⟩ (bI w.heap.size)).setCell ⟨b,4,none⟩ (.slice none 0 0)).alloc (.cells T 295)).drew.setCell ⟨b,0,none⟩ (.int .u32 1)).setCell ⟨b,1,none⟩ (.int .i32 0)
theorem kYb(b:Nat)(w:World):ranW b w=ranT kva b w:=rfl
theorem same0{w:World}{a:Addr}{v v0:Value}(h:w.cell? a=some v0):(w.setCell a v).cell? a=some v:=World.cell?_setCell_same w a v h
theorem Jna{b:Nat}{w:World}(T:Array Value)(hb:b < w.heap.size)(c0:w.cell? ⟨b,0,none⟩=some (.int .u32 0))(c3:w.cell? ⟨b,3,none⟩=some .nilIface):
 (ranT T b w).heap.size=w.heap.size+1/\(ranT T b w).cell? ⟨b,0,none⟩=some (.int .u32 1)/\(ranT T b w).cell? ⟨b,3,none⟩=some (bI w.heap.size)/\∀k,(ranT T b w).cell? ⟨w.heap.size,k,none⟩=T[k]? :=by
 have hne:b≠w.heap.size:=by omega
 refine ⟨by unfold ranT;simp,?_,?_,fun k=>?_⟩
 .unfold ranT;rw[World.cell?_setCell_other _ _ _ _ (vra (by decide))];refine same0 (v0:=.int .u32 0) ?_;rw[World.cell?_drew,World.cell?_alloc_past _ _ _ (by simp;exact hb),World.cell?_setCell_other _ _ _ _ (vra (by decide)),World.cell?_setCell_other _ _ _ _ (vra (by decide)),World.cell?_setCell_other _ _ _ _ (vra (by decide))];exact c0
 .unfold ranT;rw[World.cell?_setCell_other _ _ _ _ (vra (by decide)),World.cell?_setCell_other _ _ _ _ (vra (by decide)),World.cell?_drew,World.cell?_alloc_past _ _ _ (by simp;exact hb),World.cell?_setCell_other _ _ _ _ (vra (by decide))];refine same0 (v0:=.nilIface) ?_;rw[World.cell?_setCell_other _ _ _ _ (vra (by decide))];exact c3
 unfold ranT;rw[World.cell?_setCell_other _ _ _ _ (Jla hne),World.cell?_setCell_other _ _ _ _ (Jla hne),World.cell?_drew];exact World.cell?_alloc_at T _ _ k (by simp)
theorem tab_at(x:UInt8):kva[x.toNat]? =some (.int .u8 ((kIa x).toNat:Int)):=by
 have hx:=UInt8.toNat_lt x;unfold kva;simp only[jBd,jAj,List.getElem?_range hx,jDe]
 congr 2
 unfold kIa;by_cases h:x=0∨x=13
 .rw[if_pos h,if_pos (by rcases h with rfl | rfl <;> decide)];rfl
 rw[if_neg h,if_neg (fun h2=>h (h2.imp (fun e=>UInt8.toNat_inj.1 e) (fun e=>UInt8.toNat_inj.1 e)))]
theorem kZb{b d o c:Nat}{w:World}(F:wJb w b d o c):Built (ranW b w) b w.heap.size:=by
 obtain ⟨h1,h2,h3,h4⟩:=Jna kva F.hb F.c0 F.c3;have hb:=F.hb;rw[kYb];exact ⟨by omega,by omega,h2,h3,fun x=>(h4 _).trans (tab_at x)⟩
theorem k0b (n : Nat) (a : Addr) (w : World) : (method (n + 1) 296 (.pointer (some a)) "Replace").run prog w = .ok (326, .pointer (some a)) w := by kernel_rfl
theorem Wha(b A:Nat)(s:ByteArray)(w:World)(hlen:s.size<=4611686018427387904)(B:Built w b A):
 Calls prog 156 #[.pointer (some ⟨b,0,none⟩),.string s] w fun e w' =>e=.returned (.string ⟨(s.data.toList.map kIa).toArray⟩)/\(w' =w∨∃C fz,w' =(w.alloc (.cells C 5 fz)).drew):=by
 have hmf:∀(fn:Fn) (first cap:Array Value) (w:World),(Instr.makeFunc fn first cap).run prog w=.ok (.func fn first cap) w:=fun _ _ _ _=>rfl
 have hme:=k0b;have hc3:=B.c3;go_enter func156,Tryz.ntmps156
 go_wp2_with (first | (go_at_call 192;refine (wKb b _ _ B.c0).mono ?_;rintro e w' ⟨rfl,rfl⟩) | (go_at_call 326;refine (vLb A s _ hlen B.hA B.tab).mono ?_;rintro e w' ⟨rfl,hw'⟩))
 go_ret
 exact ⟨rfl,hw'⟩
theorem Wia(b d o c:Nat)(s:ByteArray)(w:World)(hlen:s.size<=4611686018427387904)(F:wJb w b d o c):
 Calls prog 156 #[.pointer (some ⟨b,0,none⟩),.string s] w fun e w' =>e=.returned (.string ⟨(s.data.toList.map kIa).toArray⟩)/\(w' =ranW b w∨∃C fz,w' =((ranW b w).alloc (.cells C 5 fz)).drew):=by
 have hmf:∀(fn:Fn) (first cap:Array Value) (w:World),(Instr.makeFunc fn first cap).run prog w=.ok (.func fn first cap) w:=fun _ _ _ _=>rfl
 have hme:=k0b;have B:=kZb F;have hc3:=B.c3;go_enter func156,Tryz.ntmps156
 go_wp2_with (first | (go_at_call 192;refine (vab b d o c _ F).mono ?_;rintro e w' ⟨rfl,rfl⟩) | (go_at_call 326;refine (vLb _ s _ hlen B.hA B.tab).mono ?_;rintro e w' ⟨rfl,hw'⟩))
 go_ret
 exact ⟨rfl,hw'⟩
end
def RpQ(w:World)(u:Nat->Nat)(vs:Array Value):Prop:=
 (vs[0]? =some (.int .u32 0)/\vs[1]? =some (.int .i32 0)/\vs[3]? =some .nilIface/\∃d o c,vs[4]? =some (.slice (some ⟨d,o,none⟩) 4 c)/\d < w.heap.size/\o+4<=u d/\
  w.cell? ⟨d,o,none⟩=some (.string ⟨#[0]⟩)/\w.cell? ⟨d,o+1,none⟩=some (.string ⟨#[32]⟩)/\w.cell? ⟨d,o+2,none⟩=some (.string ⟨#[13]⟩)/\w.cell? ⟨d,o+3,none⟩=some (.string ⟨#[32]⟩))∨
 (vs[0]? =some (.int .u32 1)/\∃A,vs[3]? =some (bI A)/\A < w.heap.size/\256<=u A/\∀x:UInt8,w.cell? ⟨A,x.toNat,none⟩=some (.int .u8 ((kIa x).toNat:Int)))
theorem RpQ.mono{w w' :World}{u u' :Nat->Nat}{vs:Array Value}(hx:Ext0 w u w' u')(h:RpQ w u vs):RpQ w' u' vs:=by
 rcases h with ⟨h0,h1,h3,d,o,c,h4,hd,hu,s0,s1,s2,s3⟩ | ⟨h0,A,h3,hA,hu,ht⟩
 .refine .inl ⟨h0,h1,h3,d,o,c,h4,jBq hd hx.size,jBg hu (hx.pub d hd),?_,?_,?_,?_⟩
  .rw[hx.cell d _ hd (by omega)];exact s0
  .rw[hx.cell d _ hd (by omega)];exact s1
  .rw[hx.cell d _ hd (by omega)];exact s2
  rw[hx.cell d _ hd (by omega)];exact s3
 refine .inr ⟨h0,A,h3,jBq hA hx.size,jBg hu (hx.pub A hA),fun x=>?_⟩;rw[hx.cell A _ hA (by have:=UInt8.toNat_lt x;omega)];exact ht x
theorem Vaa{w:World}{b:Nat}{vs:Array Value}{t:TypeId}{fz:Nat × Nat}(h:w.heap[b]? =some (.cells vs t fz))(c i:Nat)(v:Value):∃vs',(w.setCell ⟨c,i,none⟩ v).heap[b]? =some (.cells vs' t fz)/\vs'.size=vs.size:=by
 unfold World.setCell;simp only[jBm,h];by_cases e:c=b
 .subst e;exact ⟨vs.setIfInBounds i v,by simp,by simp⟩
 exact ⟨vs,by simp[e],rfl⟩
theorem yXa{w:World}{b c:Nat}(h:c≠b)(i:Nat)(v:Value):(w.setCell ⟨c,i,none⟩ v).heap[b]? =w.heap[b]? :=by
 unfold World.setCell;simp only[jBm];simp[h]
theorem jyb(T:Array Value){b k:Nat}{w:World}(hk:k < w.heap.size)(hne:b≠k):(ranT T b w).heap[k]? =w.heap[k]? :=by
 unfold ranT;rw[yXa hne,yXa hne];show (World.alloc _ _).heap[k]? =_;rw[Below.heap_alloc _ _ _ (by simpa using hk),yXa hne,yXa hne,yXa hne]
theorem ranT_own(T:Array Value){b:Nat}{w:World}{vs:Array Value}{t:TypeId}{fz:Nat × Nat}(hb:w.heap[b]? =some (.cells vs t fz)):∃vs',(ranT T b w).heap[b]? =some (.cells vs' t fz)/\vs'.size=vs.size:=by
 have hlt:=zNa hb;unfold ranT;obtain ⟨v1,h1,n1⟩:=Vaa hb b 1 (.int .i32 1);obtain ⟨v2,h2,n2⟩:=Vaa h1 b 3 (bI w.heap.size);obtain ⟨v3,h3,n3⟩:=Vaa h2 b 4 (.slice none 0 0);have h4:(((((w.setCell ⟨b,1,none⟩ (.int .i32 1)).setCell ⟨b,3,none⟩ (bI w.heap.size)).setCell ⟨b,4,none⟩ (.slice none 0 0)).alloc (.cells T 295)).drew).heap[b]? =some (.cells v3 t fz):=by
  show (World.alloc _ _).heap[b]? =_;rw[Below.heap_alloc _ _ _ (by simpa using hlt)];exact h3
 obtain ⟨v5,h5,n5⟩:=Vaa h4 b 0 (.int .u32 1);obtain ⟨v6,h6,n6⟩:=Vaa h5 b 1 (.int .i32 0);exact ⟨v6,h6,by omega⟩
structure RpG (g:G) (b:Nat) (t:TypeId) (g' :G):Prop where
 loc:g'.loc=g.loc
 old:Old (fun k=>k=b) g g'
 wf:Wf g'
 u0:g'.u b=0
 own:∃vs,g'.w.heap[b]? =some (.cells vs t (0,0))/\vs.size=5/\RpQ g'.w g'.u vs
theorem RpG.refl{g:G}{b:Nat}{t:TypeId}{vs:Array Value}(hb:g.w.heap[b]? =some (.cells vs t (0,0)))(hn:vs.size=5)(hu:g.u b=0)(hw:Wf g)(hq:RpQ g.w g.u vs):RpG g b t g:=
 ⟨rfl,Old.refl _ _,hw,hu,vs,hb,hn,hq⟩
theorem RpG.tail{g g1:G}{b:Nat}{t:TypeId}(h:RpG g b t g1)(C:Array Value)(e:TypeId)(fz:Nat × Nat):RpG g b t ⟨(g1.w.alloc (.cells C e fz)).drew,fun k=>if k=g1.w.heap.size then 0 else g1.u k,g1.loc⟩:=by
 obtain ⟨hl,ho,hw,hu,vs,hb,hn,hq⟩:=h;have hlt:=zNa hb;have hz:∀k,k < g1.w.heap.size->((g1.w.alloc (.cells C e fz)).drew).heap[k]? =g1.w.heap[k]? :=fun k hk=>Below.heap_alloc _ _ _ hk
 have hx:Ext g1.w g1.u (g1.w.alloc (.cells C e fz)).drew (fun k=>if k=g1.w.heap.size then 0 else g1.u k):=⟨by simp,fun k hk=>by
  show g1.u k<=if k=g1.w.heap.size then 0 else g1.u k;rw[if_neg (by omega)];exact jAq _,fun k i hk _=>by
  simp only[World.cell?];rw[hz k hk],fun r hr=>(hz r (zNa hr)).trans hr⟩
 refine ⟨hl,ho.trans ⟨rfl,rfl,rfl,hx,fun k hk _=>⟨hz k hk,by show (if k=g1.w.heap.size then 0 else g1.u k)=_;rw[if_neg (by omega)]⟩⟩,fun k hk=>?_,?_,vs,(hz b hlt).trans hb,hn,hq.mono hx.to0⟩
 .have hk:g1.w.heap.size+1<=k:=by simpa using hk
  show (if k=g1.w.heap.size then 0 else g1.u k)=0;rw[if_neg (by omega)];exact hw k (by omega)
 show (if b=g1.w.heap.size then 0 else g1.u b)=0;rw[hu];exact ite_self 0
theorem RpG.ran{g:G}{b d o c:Nat}{t:TypeId}{vs:Array Value}(hb:g.w.heap[b]? =some (.cells vs t (0,0)))(hn:vs.size=5)(hu:g.u b=0)(hw:Wf g)(F:wJb g.w b d o c):
 RpG g b t ⟨ranW b g.w,fun k=>if k=g.w.heap.size then 256 else g.u k,g.loc⟩:=by
 have hlt:=zNa hb;have B:=kZb F;obtain ⟨hsz,f0,f3,ft⟩:=Jna kva F.hb F.c0 F.c3;rw[<-kYb]at hsz f0 f3 ft;obtain ⟨vs',hb',hn'⟩:=ranT_own kva hb;rw[<-kYb]at hb';have hz:∀k,k < g.w.heap.size->k≠b->(ranW b g.w).heap[k]? =g.w.heap[k]? :=fun k hk hne=>by rw[kYb];exact jyb kva hk (Ne.symm hne)
 have hos:(ranW b g.w).os=g.w.os/\(ranW b g.w).tape=g.w.tape/\(ranW b g.w).output=g.w.output:=by
  rw[kYb];generalize kva=T;exact ⟨rfl,rfl,rfl⟩
 have huk:∀k,k < g.w.heap.size->(if k=g.w.heap.size then 256 else g.u k)=g.u k:=fun k hk=>if_neg (by omega)
 have hbu:(if b=g.w.heap.size then 256 else g.u b)=0:=(huk b hlt).trans hu;have hcell:∀i,i < 5->(ranW b g.w).cell? ⟨b,i,none⟩=vs'[i]? :=fun i hi=>by
  simp[World.cell?,hb']
 refine ⟨rfl,⟨hos.1,hos.2.1,hos.2.2,⟨by show g.w.heap.size<=(ranW b g.w).heap.size;omega,fun k hk=>jBs (huk k hk).symm,fun k i hk hi=>?_,fun r hr=>?_⟩,fun k hk hne=>⟨hz k hk hne,huk k hk⟩⟩,fun k hk=>?_,hbu,vs',hb',hn'.trans hn,.inr ⟨(hcell 0 (by omega)).symm.trans f0,g.w.heap.size,(hcell 3 (by omega)).symm.trans f3,by show g.w.heap.size < (ranW b g.w).heap.size;omega,jBs (if_pos rfl).symm,B.tab⟩⟩
 .have hne:k≠b:=by rintro rfl;omega
  simp only[World.cell?];rw[hz k hk hne]
 .have hne:r≠b:=by rintro rfl;rw[hb]at hr;cases hr
  exact (hz r (zNa hr) hne).trans hr
 have hk:(ranW b g.w).heap.size<=k:=hk;show (if k=g.w.heap.size then 256 else g.u k)=0;rw[if_neg (by omega)];exact hw k (by omega)
theorem rp_step{g:G}{b:Nat}{t:TypeId}{vs:Array Value}(s:ByteArray)(hlen:s.size<=4611686018427387904)(hb:g.w.heap[b]? =some (.cells vs t (0,0)))(hn:vs.size=5)(hu:g.u b=0)(hw:Wf g)(hq:RpQ g.w g.u vs):
 Calls prog 156 #[.pointer (some ⟨b,0,none⟩),.string s] g.w fun e w' =>e=.returned (.string ⟨(s.data.toList.map kIa).toArray⟩)/\∃g',g'.w=w' /\RpG g b t g' :=by
 have hlt:=zNa hb;have hcell:∀i,g.w.cell? ⟨b,i,none⟩=vs[i]? :=fun i=>by simp[World.cell?,hb]
 rcases hq with ⟨h0,h1,h3,d,o,c,h4,hd,hud,s0,s1,s2,s3⟩ | ⟨h0,A,h3,hA,huA,ht⟩
 .have F:wJb g.w b d o c:=⟨hlt,hd,by rintro rfl;omega,(hcell 0).trans h0,(hcell 1).trans h1,(hcell 3).trans h3,(hcell 4).trans h4,fun i=>by simp[World.frozen?,hb],s0,s1,s2,s3⟩;refine (Wia b d o c s g.w hlen F).mono ?_;rintro e w' ⟨rfl,rfl | ⟨C,fz,rfl⟩⟩
  .exact ⟨rfl,_,rfl,RpG.ran hb hn hu hw F⟩
  exact ⟨rfl,_,rfl,(RpG.ran hb hn hu hw F).tail C _ fz⟩
 refine (Wha b A s g.w hlen ⟨hlt,hA,(hcell 0).trans h0,(hcell 3).trans h3,ht⟩).mono ?_;rintro e w' ⟨rfl,rfl | ⟨C,fz,rfl⟩⟩
 .exact ⟨rfl,g,rfl,RpG.refl hb hn hu hw (.inr ⟨h0,A,h3,hA,huA,ht⟩)⟩
 exact ⟨rfl,_,rfl,(RpG.refl hb hn hu hw (.inr ⟨h0,A,h3,hA,huA,ht⟩)).tail C _ fz⟩
theorem yDa(O:Nat)(s:Str)(r:Str)(hr:zYa s=some r):RunS prog 156 [.ptr O 0,.s s] [(O,.opq 0 5 RpQ)] (.s r) [(O,.opq 0 5 RpQ)] O []:=by
 unfold zYa at hr;split at hr
 case isFalse=>cases hr
 rename_i hlen;cases hr;refine ⟨⟨_,_,⟨func156,rfl,by kernel_rfl⟩⟩,by simp[Sto.okS,AO.okS],by simp[Sto.okS,AO.okS],fun g vs hw hg ho ha=>?_⟩;obtain ⟨hsz,hrel⟩:=ha;obtain ⟨vl⟩:=vs
 match vl,hsz with
 | [x,y],_=>
  have hx:=hrel 0 _ rfl;have hy:y=.string (strB s):=z6a (hrel 1 _ rfl);subst hy;have hO:=ho.obj O _ (show Sto.get [(O,AO.opq 0 5 RpQ)] O=some (.opq 0 5 RpQ) by simp[Sto.get]);have hget:∀o ob,Sto.get [(O,AO.opq 0 5 RpQ)] o=some ob->o=O/\ob=.opq 0 5 RpQ:=fun o ob h=>by
   rw[Sto.get_cons]at h;split at h
   .rename_i e;exact ⟨e.symm,(Option.some.inj h).symm⟩
   cases h
  cases hO with
  | @opq t t1 n Q b vs' hl hb hn hu hq=>
   have hx' :x=.pointer (some ⟨b,0,none⟩):=by
    cases hx with
    | ptr hl2=>rw[hl]at hl2;cases hl2;rfl
   subst hx';refine callsIn_wide.2 ((rp_step (strB s) (by rw[zDa];exact hlen) hb hn hu hw (hq _ _ ⟨jAq _,fun _ _=>jAq _,fun _ _ _ _=>rfl⟩)).mono ?_);rintro e w' ⟨rfl,g',rfl,G'⟩;obtain ⟨hl',hold,hwf,hu',vs2,hb2,hn2,hq2⟩:=G';have hsb:SB g [(O,AO.opq 0 5 RpQ)] b:=⟨O,.opq 0 5 RpQ,by simp[Sto.get],by rw[hl];rfl⟩;refine ⟨g',_,rfl,fun k _=>by rw[hl'],hold.mono fun k _ e=>e▸hsb,hwf,rfl,?_,?_,?_,?_⟩
   .have:(strB s).data.toList.map kIa=s.map kIa:=by simp[strB]
    rw[this];exact .pv (.b rfl)
   .intro o ob h;obtain ⟨rfl,rfl⟩:=hget o ob h;exact .opq (by rw[hl'];exact hl) hb2 hn2 hu' fun w' u' hx' =>hq2.mono hx'
   .intro o o' ob ob' b' h1 h2 _ _;rw[(hget o ob h1).1,(hget o' ob' h2).1]
   intro o ob b' h1 h2;obtain ⟨rfl,rfl⟩:=hget o ob h1;rw[hl',hl]at h2;cases h2;exact .inr hsb
section
open Go.Shelf Go.RowKit Go.Lib Go.Proofs.Tryz
theorem k1b(d o c:Nat)(w:World)(s0:w.cell? ⟨d,o,none⟩=some (.string ⟨#[0]⟩))(s1:w.cell? ⟨d,o+1,none⟩=some (.string ⟨#[32]⟩))(s2:w.cell? ⟨d,o+2,none⟩=some (.string ⟨#[13]⟩))(s3:w.cell? ⟨d,o+3,none⟩=some (.string ⟨#[32]⟩)):
 Calls prog 155 #[.slice (some ⟨d,o,none⟩) 4 c] w fun e w' =>∃(cap:Nat) (z:Array Value),e=.returned (.pointer (some ⟨w.heap.size+1,0,none⟩))/\
  w' =((w.alloc (.cells (#[Value.string ⟨#[0]⟩,.string ⟨#[32]⟩,.string ⟨#[13]⟩,.string ⟨#[32]⟩]++z) 9)).alloc (.cells #[.int .u32 0,.int .i32 0,.int .u32 0,.nilIface,.slice (some ⟨w.heap.size,0,none⟩) 4 cap] 255)).drew:=by
 go_enter func155,Tryz.ntmps155
 go_wp2
 go_ret
 exact ⟨_,_,rfl,rfl⟩
theorem wLb{g:G}{v:Value}(h:Rel g (.l cS [[0],[32],[13],[32]]) v):∃d o c,v=.slice (some ⟨d,o,none⟩) 4 c/\g.w.cell? ⟨d,o,none⟩=some (.string ⟨#[0]⟩)/\g.w.cell? ⟨d,o+1,none⟩=some (.string ⟨#[32]⟩)/\g.w.cell? ⟨d,o+2,none⟩=some (.string ⟨#[13]⟩)/\g.w.cell? ⟨d,o+3,none⟩=some (.string ⟨#[32]⟩):=by
 cases h with
 | pv h=>
  unfold pL at h;generalize hE:List.map cS [[0],[32],[13],[32]]=elems at h;cases h with
  | @sl _ _ a cap size b off val hn h0 hc hz ha hu hcell h=>
   have hne:elems≠ []:=by rw[<-hE];simp
   have hs1:size=1:=by
    have:=hz (cS [0]) (by rw[<-hE];simp);simpa[cS]using this.symm
   subst hs1;have hlen:elems.length=4:=by rw[<-hE];rfl
   have key:∀(i:Nat) (s:Str),elems[i]? =some (cS s)->g.w.cell? ⟨b,off+i,none⟩=some (.string (strB s)):=fun i s hi=>by
    have hil:=(jAc.1 hi).1;rw[hcell i (by omega)];have:=h i 0 _ (.b (.string (strB s))) hi rfl;simp only[jCo,jBw]at this;rw[z6a (g:=g) (.pv this)]
   refine ⟨b,off,cap,by rw[ha hne,hlen],key 0 [0] (by rw[<-hE];rfl),key 1 [32] (by rw[<-hE];rfl),key 2 [13] (by rw[<-hE];rfl),key 3 [32] (by rw[<-hE];rfl)⟩
theorem j8a(k:Nat):RunS prog 155 [.l cS [[0],[32],[13],[32]]] [] (.ptr k 0) [(k,.opq 0 5 RpQ)] k [k]:=by
 refine ⟨⟨_,_,⟨func155,rfl,by kernel_rfl⟩⟩,by simp[Sto.okS],by simp[Sto.okS,AO.okS],fun g vs hw hg ho ha=>?_⟩;obtain ⟨hsz,hrel⟩:=ha;obtain ⟨vl⟩:=vs
 match vl,hsz with
 | [x],_=>
  obtain ⟨d,o,c,hx,s0,s1,s2,s3⟩:=wLb (hrel 0 _ rfl);have hx:x=.slice (some ⟨d,o,none⟩) 4 c:=hx;subst hx;refine callsIn_wide.2 ((k1b d o c g.w s0 s1 s2 s3).mono ?_);rintro e w' ⟨cap,z,rfl,rfl⟩;generalize hC: #[Value.string ⟨#[0]⟩,.string ⟨#[32]⟩,.string ⟨#[13]⟩,.string ⟨#[32]⟩]++z=C;generalize hV: #[Value.int .u32 0,.int .i32 0,.int .u32 0,.nilIface,.slice (some ⟨g.w.heap.size,0,none⟩) 4 cap]=V;have hz:∀q,q < g.w.heap.size->(((g.w.alloc (.cells C 9)).alloc (.cells V 255)).drew).heap[q]? =g.w.heap[q]? :=fun q hq=>by
   show (World.alloc _ _).heap[q]? =_;rw[Below.heap_alloc _ _ _ (by simp;omega),Below.heap_alloc _ _ _ hq]
  have h1:(((g.w.alloc (.cells C 9)).alloc (.cells V 255)).drew).heap[g.w.heap.size]? =some (.cells C 9 (0,0)):=by
   show (World.alloc _ _).heap[_]? =_;rw[Below.heap_alloc _ _ _ (by simp)];exact heap_alloc_new g.w _
  have h2:(((g.w.alloc (.cells C 9)).alloc (.cells V 255)).drew).heap[g.w.heap.size+1]? =some (.cells V 255 (0,0)):=by
   show (World.alloc _ _).heap[_]? =_;have:=heap_alloc_new (g.w.alloc (.cells C 9)) (.cells V 255);simpa using this
  have hsize:(((g.w.alloc (.cells C 9)).alloc (.cells V 255)).drew).heap.size=g.w.heap.size+2:=by simp
  generalize hW:((g.w.alloc (.cells C 9)).alloc (.cells V 255)).drew=W at hz h1 h2 hsize;have hos:W.os=g.w.os/\W.tape=g.w.tape/\W.output=g.w.output:=by subst hW;exact ⟨rfl,rfl,rfl⟩
  have hcell:∀i,W.cell? ⟨g.w.heap.size,i,none⟩=C[i]? :=fun i=>by simp[World.cell?,h1]
  have hget:∀o ob,Sto.get [(k,AO.opq 0 5 RpQ)] o=some ob->o=k/\ob=.opq 0 5 RpQ:=fun o ob h=>by
   rw[Sto.get_cons]at h;split at h
   .rename_i e;exact ⟨e.symm,(Option.some.inj h).symm⟩
   cases h
  have hq:RpQ W (fun q=>if q=g.w.heap.size then 4 else if q=g.w.heap.size+1 then 0 else g.u q) V:=by
   subst hV hC;refine .inl ⟨rfl,rfl,rfl,g.w.heap.size,0,cap,rfl,by omega,jBs (if_pos rfl).symm,?_,?_,?_,?_⟩;all_goals (rw[hcell,jBf (by simp)];rfl)
  have huk:∀q,q < g.w.heap.size->(if q=g.w.heap.size then 4 else if q=g.w.heap.size+1 then 0 else g.u q)=g.u q:=fun q hq=>by rw[if_neg (by omega),if_neg (by omega)]
  refine ⟨⟨W,fun q=>if q=g.w.heap.size then 4 else if q=g.w.heap.size+1 then 0 else g.u q,fun q=>if q=k then .blk (g.w.heap.size+1) else g.loc q⟩,_,rfl,fun q hq=>if_neg (by simpa using hq),
   ⟨hos.1,hos.2.1,hos.2.2,⟨by show g.w.heap.size<=W.heap.size;omega,fun q hq=>jBs (huk q hq).symm,fun q i hq _=>by simp only[World.cell?];rw[hz q hq],fun r hr=>(hz r (zNa hr)).trans hr⟩,fun q hq _=>⟨hz q hq,huk q hq⟩⟩,fun q hq=>?_,rfl,.ptr (if_pos rfl),?_,?_,?_⟩
  .have hq:W.heap.size<=q:=hq;show (if q=g.w.heap.size then 4 else if q=g.w.heap.size+1 then 0 else g.u q)=0;rw[if_neg (by omega),if_neg (by omega)];exact hw q (by omega)
  .intro o ob h;obtain ⟨rfl,rfl⟩:=hget o ob h;refine .opq (if_pos rfl) h2 (by subst hV;rfl) ?_ fun w' u' hx' =>hq.mono hx'
   show (if g.w.heap.size+1=g.w.heap.size then 4 else if g.w.heap.size+1=g.w.heap.size+1 then 0 else g.u _)=0;rw[if_neg (by omega),if_pos rfl]
  .intro o o' ob ob' b' h1 h2 _ _;rw[(hget o ob h1).1,(hget o' ob' h2).1]
  intro o ob b' h1 h2;obtain ⟨rfl,rfl⟩:=hget o ob h1;have h2:AO.own (.opq 0 5 RpQ) (if o=o then .blk (g.w.heap.size+1) else g.loc o) b' :=h2;rw[if_pos rfl]at h2;have h2:some (g.w.heap.size+1)=some b' :=h2;cases h2;exact .inl (by omega)
end
theorem k2b{g:G}{s:Str}{v:Value}(h:Rel g (.s s) v):v=.string (strB s):=z6a h
theorem vdb{g:G}{w' :World}(h:Below g.w.heap.size g.w w'):Old (fun _=>False) g ⟨w',g.u,g.loc⟩:=
 ⟨h.os,h.tape,h.output,⟨h.size,fun _ _=>jAq _,fun k i hk _=>by simp only[World.cell?];rw[h.block k hk],fun r hr=>(h.block r (zNa hr)).trans hr⟩,fun k hk _=>⟨h.block k hk,rfl⟩⟩
theorem Wja(s t:Str)(r:Str)(hr:yea s t=some r):Run prog 162 [.s s,.s t] (.s r):=by
 unfold yea at hr;split at hr
 case isFalse=>cases hr
 rename_i hc;obtain ⟨h1,h2,h3⟩:=hc;cases hr;refine ⟨⟨_,_,⟨func162,rfl,by kernel_rfl⟩⟩,fun g vs hw hg ha=>?_⟩;obtain ⟨hsz,hrel⟩:=ha;obtain ⟨l⟩:=vs
 match l,hsz with
 | [x,y],_=>
  obtain rfl:=k2b (hrel 0 _ rfl);obtain rfl:=k2b (hrel 1 _ rfl);have h116:(prog.info? 261).map (fun i=>(i.zero,i.size))=some (some (.agg (Array.replicate 256 (.bool false))),256):=by kernel_rfl
  refine callsIn_wide.2 ((Any.strings_Trim_laid Tryz.lays160 h116 (strB s) (strB t) g.w (by rw[zDa];exact h1) (by rw[zDa];exact h2) (ascii_of_all (by simpa[YVa,strB]using h3))).mono ?_);rintro e w' ⟨rfl,hb⟩;refine ⟨⟨w',g.u,g.loc⟩,_,rfl,(by intros;rfl),vdb hb,fun k hk=>hw k (jBg hb.size hk),rfl,?_⟩;rw[show (strB s).data.toList=s by simp[strB],show (strB t).data.toList=t by simp[strB]];exact .pv (.b rfl)
theorem VHa(a0:Str)(r:zca × Bool)(hr:wpa a0=some r):Run prog 161 [.s a0] (.tup [.agg [.s r.1.Name,.s r.1.Value],.bo r.2]):=by
 unfold wpa at hr;refine rfx (fn:=Tryz.f161) func161 fun g0 hg=>?_
 refine clx 9 hr (yUa _ _) fun v1 _ hr=>?_
 refine clx 12 hr (yla _ _) fun v3 _ hr=>?_
 refine jq 3 hr [2] [] (fun j5=>[(3,.bo j5)]) (fun _=>[(2,.cells [.s v3,.s v1.2.1])]) (fun j5 hr=>?_) (fun j5 hr=>?_)
 .refine bx 6 19 hr (fun c6 hr=>?_) fun c6 hr=>?_
  .refine rn tk 1 rfl ?_;obtain ⟨v7,h8,hr⟩:=zaa hr;refine ug rfl rfl rfl<|cl (Kaa _ _ h8) rfl rfl ?_;exact jx 4 hr
  exact jx 6 hr
 exact kx 1 hr
theorem wMb{g:G}{l:List UInt8}{v:Value}(h:Rel g (.l cU l) v):∀n cap,v=.slice none n cap->n=0/\cap=0:=by
 intro n cap e;cases h with
 | pv h=>
  unfold pL at h;generalize l.map cU=elems at h;cases h with
  | @sl _ _ a cap2 size b off val hn h0 hc hz ha hu hcell h=>
   cases e;obtain ⟨h1,h2⟩:=h0 rfl;exact ⟨by rw[h2];rfl,h1⟩
theorem Qfa(a:List UInt8)(c:UInt8)(r:Int)(hr:qAa a c=some r):Run prog 181 [.l cU a,.u8 c] (.i r):=by
 unfold qAa at hr;cases hr;refine ⟨⟨_,_,⟨func181,rfl,by kernel_rfl⟩⟩,fun g vs hw hg ha=>?_⟩;obtain ⟨hsz,hrel⟩:=ha;obtain ⟨l⟩:=vs
 match l,hsz with
 | [x,y],_=>
  have h0:Rel g (.l cU a) x:=hrel 0 _ rfl;obtain rfl:y=.int .u8 (c.toNat:Int):=z6a (hrel 1 _ rfl);obtain ⟨ad,cap,rfl,hcap,hcell⟩:=Qba h0;refine callsIn_wide.2 ?_
  suffices hs:Calls prog 181 #[.slice ad a.length cap,.int .u8 (c.toNat:Int)] g.w fun e w' =>e=.returned (.int .i64 (Lib.indexByte a c))/\w' =g.w by
   refine hs.mono ?_;rintro e w' ⟨rfl,rfl⟩;exact ⟨g,_,rfl,(by intros;rfl),Old.refl _ g,hw,rfl,.pv (.b rfl)⟩
  by_cases hs:a=[]
  .subst hs;cases ad with
   | none=>
    obtain ⟨_,rfl⟩:=wMb h0 _ _ rfl;exact Tryz.bytes_IndexByte_nil _ g.w
   | some ad=>
    have:=Tryz.bytes_IndexByte_at ad 0 cap [] (c.toNat:Int) g.w rfl (fun i hi=>by omega);simpa[Lib.bytesOf]using this
  obtain ⟨b1,o1,rfl,hc1⟩:=hcell hs;have:=Tryz.bytes_IndexByte_at ⟨b1,o1,none⟩ a.length cap (nums a) (c.toNat:Int) g.w (by simp[nums]) hc1;rw[VDa]at this;simpa using this
theorem Qga(a0:List UInt8)(a1:List UInt8)(r:Bool)(hr:kYa a0 a1=some r):Run prog 222 [.l cU a0,.l cU a1] (.bo r):=by
 unfold kYa at hr;refine rfx (fn:=f222) func222 fun g0 hg=>?_
 refine jq 5 hr [] [] (fun j1=>[(4,.bo j1)]) (fun _=>[]) (fun j1 hr=>?_) (fun j1 hr=>?_)
 .refine rn tk 2 rfl<|wn tk rfl rfl rfl<|rn tk 1 rfl<|wn tk rfl rfl rfl ?_;refine bx 2 10 hr (fun c2 hr=>?_) fun c2 hr=>?_
  .refine rn tk 2 rfl<|ug rfl rfl rfl<|wn tk rfl rfl rfl<|rn tk 1 rfl<|ug rfl rfl rfl<|wn tk rfl rfl rfl<|rn tk 1 rfl ?_;obtain ⟨v3,h4,hr⟩:=zaa hr;refine ug rfl rfl rfl<|wlL tk h4 rfl rfl rfl (fun _=>rfl) rfl<|rn tk 1 rfl ?_;obtain ⟨v5,h6,hr⟩:=zaa hr;refine ug rfl rfl rfl<|cl (Kba _ _ _ h6) rfl rfl ?_;exact jx 3 hr
  exact jx 12 hr
 exact kx 1 hr
theorem Kya(a0:List UInt8)(a1:List UInt8)(r:List UInt8)(hr:kNa a0 a1=some r):Run prog 195 [.l cU a0,.l cU a1] (.l cU r):=by
 unfold kNa at hr;refine rfx (fn:=f195) func195 fun g0 hg=>?_
 refine clx 10 hr (Qga _ _) fun v1 _ hr=>?_
 refine ax 2 7 hr (fun hr=>?_) fun hr=>?_
 .refine rn tk 4 rfl<|wn tk rfl rfl rfl<|rn tk 1 rfl<|wn tk rfl rfl rfl<|rn tk 1 rfl ?_;obtain ⟨v4,h5,hr⟩:=zaa hr;refine wlH tk h5 rfl rfl rfl (fun _=>rfl) rfl ?_;exact kx 5 hr
 exact kx 9 hr
theorem Yka(a0:List UInt8)(r:Str × Int)(hr:yOa a0=some r):Run prog 159 [.l cU a0] (.tup [.s r.1,.i r.2]):=by
 unfold yOa at hr;refine rfx (fn:=f159) func159 fun g0 hg=>?_
 refine clx 9 hr (Qfa _ _) fun v1 _ hr=>?_
 refine ax 10 8 hr (fun hr=>?_) fun hr=>?_
 .refine rn tk 3 rfl<|wb tk rfl rfl rfl<|rn tk 1 rfl<|wn tk rfl rfl rfl ?_;exact kx 6 hr
 refine rn tk 6 rfl ?_;obtain ⟨v4,h5,hr⟩:=zaa hr;refine wlH tk h5 rfl rfl rfl (fun _=>rfl) rfl ?_;refine y9a rfl (Qsa (F:=cU) (l:=([(13:UInt8)]:List UInt8)) zva zRa rfl (fun _=>rfl) rfl rfl) zva zRa (z1a rfl) (z1a rfl) rfl (hO ?_);refine clx 0 hr (Kya _ _) fun v6 _ hr=>?_
 refine wb tk rfl rfl rfl ?_;exact kx 7 hr
theorem Kca(a0:List UInt8)(r:(List zca) × Int × zoa)(hr:v1a a0=some r):Run prog 119 [.l cU a0] (.tup [.l zca.pc r.1,.i r.2.1,.agg [.i r.2.2.Code,.i r.2.2.Index]]):=by
 unfold v1a at hr;refine rfx (fn:=Tryz.f119) func119 fun g0 hg=>?_
 refine rn tk 11 rfl<|wn tk rfl rfl rfl ?_;refine ax 3 16 hr (fun hr=>?_) fun hr=>?_
 .refine clx 2 hr (zga _ _) fun v2 _ hr=>?_
  exact kx 7 hr
 refine rn tk 5 rfl ?_;refine vZa 1005 (d:=5) 38 2 rfl rfl rfl (hO ?_);refine aq1 9 hr [0,4,5] [4] (fun s4=>[(6,.i s4.1)]) (fun s4=>[(1005,.row 38 true 2 (List.map zca.pc s4.2))]) (.exit 0) [4,5] [4] (fun b5=>[(6,.i b5.1)]) (fun b5=>[(1005,.row 38 true 2 (List.map zca.pc b5.2))]) (fun s4 x6 hr=>?_) (fun b5 hr=>?_)
 .unfold vKa at hr;refine rn tk 5 rfl<|wn tk rfl rfl rfl ?_;refine ax 3 21 hr (fun hr=>?_) fun hr=>?_
  .refine rn tk 7 rfl ?_;obtain ⟨v8,h9,hr⟩:=zaa hr;refine wlL tk h9 rfl rfl rfl (fun _=>rfl) rfl ?_;refine clx 0 hr (Yka _) fun v10 _ hr=>?_
   refine ax 14 30 hr (fun hr=>?_) fun hr=>?_
   .exact ox 11 hr
   refine jq 3 hr [0,4,5,6,7,8] [1005,4] (fun j13=>[(41,.bo j13)]) (fun _=>[]) (fun j13 hr=>?_) (fun j13 hr=>?_)
   .refine rn tk 2 rfl ?_;obtain ⟨v14,h15,hr⟩:=zaa hr;refine ws tk h15 rfl rfl rfl rfl ?_;refine clx 0 hr (vqa _) fun v16 _ hr=>?_
    refine bx 1 37 hr (fun c18 hr=>?_) fun c18 hr=>?_
    .refine rn tk 1 rfl<|ug rfl rfl rfl<|wnh tk rfl rfl rfl rfl ?_;exact jx 3 hr
    exact jx 5 hr
   refine ax 0 41 hr (fun hr=>?_) fun hr=>?_
   .refine rn tk 4 rfl<|wnh tk rfl rfl rfl rfl<|rn tk 1 rfl ?_;obtain ⟨v20,h21,hr⟩:=zaa hr;refine wih tk h21 rfl rfl rfl rfl rfl<|rn tk 1 rfl ?_;obtain ⟨v22,h23,hr⟩:=zaa hr;refine wq (Wqa (F:=zca.pc) (l:=s4.2) (n:=((w64 ((s4.2.length:Int) - 1)))) (j:=1) rfl rfl zJa rfl h23 rfl) rfl rfl rfl<|rn tk 1 rfl ?_;obtain ⟨v24,h25,hr⟩:=zaa hr;refine wc h25 rfl rfl rfl ?_;obtain ⟨v26,h27,hr⟩:=zaa hr;refine wih tk h27 rfl rfl rfl rfl rfl<|rn tk 1 rfl ?_;obtain ⟨v28,h29,hr⟩:=zaa hr;refine wo (wKa (F:=zca.pc) (l:=s4.2) (n:=((w64 ((s4.2.length:Int) - 1)))) (j:=1) (v:=v28) (v' :=((zca.mk v28.Name v24))) (pcs:=[pS v24]) rfl rfl rfl zJa rfl h29 rfl rfl) rfl ?_;exact cx 13 hr
   refine clx 5 hr (VHa _) fun v30 _ hr=>?_
   refine ax 15 62 hr (fun hr=>?_) fun hr=>?_
   .exact ox 3 hr
   refine rn tk 6 rfl<|wz zca.pc ([v30.1]:List zca) tk rfl rfl (fun _=>rfl) rfl rfl rfl ?_;obtain ⟨v33,h34,hr⟩:=zaa hr;refine wa tk h34 rfl rfl rfl rfl (fun _=>rfl) rfl rfl ?_;exact cx 10 hr
  exact ox 2 hr
 refine rn tk 6 rfl<|wnh tk rfl rfl rfl rfl ?_;refine ax 3 72 hr (fun hr=>?_) fun hr=>?_
 .refine clx 2 hr (zga _ _) fun v36 _ hr=>?_
  exact kx 7 hr
 refine rn tk 4 rfl<|wz cS ([([0]:Str),([32]:Str),([13]:Str),([32]:Str)]:List Str) tk rfl rfl (fun _=>rfl) rfl rfl rfl<|wo (Vna (k:=75) (j8a 7075) rfl rfl zLa) rfl<|rn tk 7 rfl<|wnh tk rfl rfl rfl rfl ?_;refine aq2 4 hr [4,5,6,11,77] [7075,4] (fun s38=>[(78,.i s38.1)]) (fun s38=>[(1005,.row 38 true 2 (List.map zca.pc s38.2))]) (.exit 2) [4,5,6] [4] (fun _=>[]) (fun b39=>[(1005,.row 38 true 2 (List.map zca.pc b39))]) .ret [4] [] (fun b40=>[(2,.l zca.pc b40.1),(3,.i b40.2.1)]) (fun b40=>[(4,.cells [.i b40.2.2.Code,.i b40.2.2.Index])]) (fun s38 x42 hr=>?_) (fun b39 hr=>?_) (fun b40 hr=>?_)
 .unfold vLa at hr;refine ax 6 79 hr (fun hr=>?_) fun hr=>?_
  .refine rn tk 15 rfl ?_;obtain ⟨v44,h45,hr⟩:=zaa hr;refine wih tk h45 rfl rfl rfl rfl rfl<|rn tk 1 rfl ?_;obtain ⟨v46,h47,hr⟩:=zaa hr;refine wq (Wqa (F:=zca.pc) (l:=s38.2) (n:=s38.1) (j:=1) rfl rfl zJa rfl h47 rfl) rfl rfl rfl ?_;refine csx 0 hr (yDa 7075 v46.Value) fun v48 _ hr=>?_
   refine clx 0 hr (Wja _ _) fun v50 _ hr=>?_
   refine ax 11 91 hr (fun hr=>?_) fun hr=>?_
   .refine clx 3 hr (zga _ _) fun v53 _ hr=>?_
    exact ox 9 hr
   refine rn tk 6 rfl ?_;obtain ⟨v55,h56,hr⟩:=zaa hr;refine wih tk h56 rfl rfl rfl rfl rfl<|rn tk 1 rfl ?_;obtain ⟨v57,h58,hr⟩:=zaa hr;refine wo (wKa (F:=zca.pc) (l:=s38.2) (n:=s38.1) (j:=1) (v:=v57) (v' :=((zca.mk v57.Name v50))) (pcs:=[pS v50]) rfl rfl rfl zJa rfl h58 rfl rfl) rfl ?_;exact cx 7 hr
  exact ox 2 hr
 .refine clx 6 hr zla fun v59 _ hr=>?_
  refine rn tk 5 rfl ?_;refine jaa 1005 rfl (hC ?_);refine qwa (d:=2) (F:=zca.pc) (l:=b39) rfl rfl (hC ?_);exact kx 1 hr
 exact kx 2 hr
theorem VIa(a0:List UInt8)(r:List UInt8)(hr:wqa a0=some r):Run prog 120 [.l cU a0] (.l cU r):=by
 unfold wqa at hr;refine rfx (fn:=Tryz.f120) func120 fun g0 hg=>?_
 refine rn tk 8 rfl ?_;refine kVa 1003 (d:=3) 5 1 rfl rfl rfl (hO ?_);refine aq1 9 hr [0,3] [] (fun s1=>[(4,.i s1.1)]) (fun s1=>[(1003,.row 5 false 1 (List.map cU s1.2))]) (.exit 0) [3] [] (fun _=>[]) (fun b2=>[(1003,.row 5 false 1 (List.map cU b2))]) (fun s1 x3 hr=>?_) (fun b2 hr=>?_)
 .unfold q3a at hr;refine rn tk 5 rfl<|wn tk rfl rfl rfl ?_;refine ax 3 8 hr (fun hr=>?_) fun hr=>?_
  .refine jq 2 hr [0,3] [] (fun j5=>[(4,.i j5.1)]) (fun j5=>[(1003,.row 5 false 1 (List.map cU j5.2))]) (fun j5 hr=>?_) (fun j5 hr=>?_)
   .refine jq 2 hr [0,3,4] [1003] (fun j6=>[(18,.bo j6)]) (fun _=>[]) (fun j6 hr=>?_) (fun j6 hr=>?_)
    .refine rn tk 3 rfl ?_;obtain ⟨v7,h8,hr⟩:=zaa hr;refine wi tk h8 rfl rfl rfl rfl rfl ?_;refine bx 3 24 hr (fun c9 hr=>?_) fun c9 hr=>?_
     .refine rn tk 3 rfl<|ug rfl rfl rfl<|wn tk rfl rfl rfl ?_;refine bx 3 31 hr (fun c10 hr=>?_) fun c10 hr=>?_
      .refine rn tk 3 rfl ?_;obtain ⟨v11,h12,hr⟩:=zaa hr;refine ug rfl rfl rfl<|wi tk h12 rfl rfl rfl rfl rfl ?_;exact jx 5 hr
      exact jx 9 hr
     exact jx 16 hr
    refine ax 0 18 hr (fun hr=>?_) fun hr=>?_
    .refine rn tk 9 rfl<|wz cU ([(13:UInt8),(10:UInt8)]:List UInt8) tk rfl rfl (fun _=>rfl) rfl rfl rfl ?_;obtain ⟨v14,h15,hr⟩:=zaa hr;refine wa tk h15 rfl rfl rfl rfl (fun _=>rfl) rfl rfl ?_;exact jx 4 hr
    refine jq 0 hr [0,3,4] [1003] (fun j16=>[(44,.bo j16)]) (fun _=>[]) (fun j16 hr=>?_) (fun j16 hr=>?_)
    .refine rn tk 3 rfl ?_;obtain ⟨v17,h18,hr⟩:=zaa hr;refine wi tk h18 rfl rfl rfl rfl rfl ?_;refine bx 3 50 hr (fun c19 hr=>?_) fun c19 hr=>?_
     .exact jx 8 hr
     refine rn tk 2 rfl ?_;obtain ⟨v20,h21,hr⟩:=zaa hr;refine ug rfl rfl rfl<|wi tk h21 rfl rfl rfl rfl rfl ?_;exact jx 5 hr
    refine ax 0 44 hr (fun hr=>?_) fun hr=>?_
    .refine rn tk 2 rfl<|wz cU ([(13:UInt8),(10:UInt8)]:List UInt8) tk rfl rfl (fun _=>rfl) rfl rfl rfl ?_;obtain ⟨v23,h24,hr⟩:=zaa hr;refine wa tk h24 rfl rfl rfl rfl (fun _=>rfl) rfl rfl ?_;exact jx 4 hr
    refine rn tk 4 rfl ?_;obtain ⟨v25,h26,hr⟩:=zaa hr;refine wi tk h26 rfl rfl rfl rfl rfl<|rn tk 1 rfl<|wz cU ([v25]:List UInt8) tk rfl rfl (fun _=>rfl) rfl rfl rfl ?_;obtain ⟨v27,h28,hr⟩:=zaa hr;refine wa tk h28 rfl rfl rfl rfl (fun _=>rfl) rfl rfl ?_;exact jx 4 hr
   exact cx 5 hr
  exact ox 2 hr
 refine rn tk 8 rfl ?_;refine qwa (d:=2) (F:=cU) (l:=b2) rfl rfl (hC ?_);exact kx 1 hr
theorem Wka(a0:List UInt8)(r:zda × zoa)(hr:v9a a0=some r):Run prog 83 [.l cU a0] (.tup [.agg [.l zca.pc r.1.Fields,.l cU r.1.Body],.agg [.i r.2.Code,.i r.2.Index]]):=by
 unfold v9a at hr;refine rfx (fn:=f83) func83 fun g0 hg=>?_
 refine clx 9 hr (Kca _) fun v1 _ hr=>?_
 refine clx 14 hr (zha _) fun v3 _ hr=>?_
 refine ax 2 16 hr (fun hr=>?_) fun hr=>?_
 .refine mdq 1 [] [2,3] .nil ?_ mixed;exact kx 3 hr
 refine rn tk 7 rfl ?_;obtain ⟨v6,h7,hr⟩:=zaa hr;refine wlL tk h7 rfl rfl rfl (fun _=>rfl) rfl ?_;refine clx 0 hr (VIa _) fun v8 _ hr=>?_
 refine clx 9 hr (zVa _) fun v10 _ hr=>?_
 refine clx 7 hr (zha _) fun v12 _ hr=>?_
 refine ax 2 28 hr (fun hr=>?_) fun hr=>?_
 .refine mdq 1 [] [2,3] .nil ?_ mixed;exact kx 3 hr
 refine rn tk 3 rfl ?_;obtain ⟨v15,h16,hr⟩:=zaa hr;refine mdq 0 [(1,.agg [.i v15.Code,.i v15.Index])] [2,3] (.cons rfl rfl (fun _ _=>(zWa (zla v15 h16) rfl)) .nil) ?_ mixed;exact kx 2 hr
theorem Vba(a0:zpa)(r:zda × Bool)(hr:vba a0=some r):Run prog 50 [.agg [.l zca.pc a0.Fields,.l cU a0.Body,.pv (.sl none [])]] (.tup [.agg [.l zca.pc r.1.Fields,.l cU r.1.Body],.bo r.2]):=by
 unfold vba at hr;refine rfx (fn:=f50) func50 fun g0 hg=>?_
 refine rn tk 12 rfl<|wq (VCa rfl qLa.u) rfl rfl rfl<|rn tk 4 rfl ?_;obtain ⟨v1,h2,hr⟩:=zaa hr;refine ug rfl rfl rfl<|cl (wCa _ _ _ _ h2) rfl rfl ?_;refine ax 4 16 hr (fun hr=>?_) fun hr=>?_
 .exact kx 9 hr
 refine clx 6 hr (Wka _) fun v4 _ hr=>?_
 refine clx 13 hr (zha _) fun v6 _ hr=>?_
 refine ax 2 25 hr (fun hr=>?_) fun hr=>?_
 .exact kx 9 hr
 refine clx 5 hr (wUa _) fun v9 _ hr=>?_
 refine jq 7 hr [2] [] (fun j11=>[(3,.bo j11)]) (fun _=>[(2,.cells [.l zca.pc v4.1.Fields,.l cU v4.1.Body])]) (fun j11 hr=>?_) (fun j11 hr=>?_)
 .obtain ⟨v12,h13,hr⟩:=zaa hr;refine v3a ((!v12)) (fun c14=>?_) (fun c14=>?_)
  .replace hr:=VMa c14 hr
   obtain ⟨v15,h16,hr⟩:=zaa hr;refine drX 10 11 3 3 [9] [(41,.bo v15),(40,.bo v15),(39,.l cU a0.Body),(38,.ptr 1 1),(37,.l cU v9.1),(36,.bo true),(35,.bo ((!v12))),(34,.bo v12),(33,.agg [.i v9.2.Code,.i v9.2.Index]),(32,.agg [.l zca.pc v4.1.Fields,.l cU v4.1.Body])] [(2,.ptr 2 0),(41,.bo v15)] [(5,.cells [.i v9.2.Code,.i v9.2.Index]),(4,.cells [.l zca.pc v4.1.Fields,.l cU v4.1.Body]),(2,.cells [.l zca.pc v4.1.Fields,.l cU v4.1.Body]),(1,.cells [.l zca.pc a0.Fields,.l cU a0.Body,.l (zpa.pcn 0) ([])])] tk mixed (by kernel_rfl) rfl rfl rfl (pqX tk rfl (.plain rfl) (pqX tk rfl (.plain rfl) (.run (.plain rfl) (zWa (zha v9.2 v12 h13) rfl) (pqX tk rfl (.plain rfl) (.run (.plain rfl) (opG_bl c14 (qxa Vea)) (pqX tk rfl (.yes (d:=36) rfl rfl rfl rfl) (pqX tk rfl (.yes (d:=36) rfl rfl rfl rfl) (pqX tk rfl (.yes (d:=36) rfl rfl rfl rfl) (.run (.yes (d:=36) rfl rfl rfl rfl) (zWa (Kba v9.1 a0.Body v15 h16) rfl) (pqX tk rfl (.plain rfl) .nil)))))))))) rfl rfl rfl rfl (by kernel_rfl) ?_;exact jx 2 hr
  replace hr:=VNa c14 hr
  refine drX 10 11 3 3 [9] [(41,.bo false),(40,.tup []),(39,.tup []),(38,.tup []),(37,.tup []),(36,.bo false),(35,.bo ((!v12))),(34,.bo v12),(33,.agg [.i v9.2.Code,.i v9.2.Index]),(32,.agg [.l zca.pc v4.1.Fields,.l cU v4.1.Body])] [(2,.ptr 2 0),(41,.bo false)] [(5,.cells [.i v9.2.Code,.i v9.2.Index]),(4,.cells [.l zca.pc v4.1.Fields,.l cU v4.1.Body]),(2,.cells [.l zca.pc v4.1.Fields,.l cU v4.1.Body]),(1,.cells [.l zca.pc a0.Fields,.l cU a0.Body,.l (zpa.pcn 0) ([])])] tk mixed (by kernel_rfl) rfl rfl rfl (pqX tk rfl (.plain rfl) (pqX tk rfl (.plain rfl) (.run (.plain rfl) (zWa (zha v9.2 v12 h13) rfl) (pqX tk rfl (.plain rfl) (.run (.plain rfl) (opG_bl c14 (qxa Vea)) (.skip (.no (d:=36) rfl rfl rfl rfl) (.skip (.no (d:=36) rfl rfl rfl rfl) (.skip (.no (d:=36) rfl rfl rfl rfl) (.skip (.no (d:=36) rfl rfl rfl rfl) (pqX tk rfl (.plain rfl) .nil)))))))))) rfl rfl rfl rfl (by kernel_rfl) ?_;exact jx 2 hr
 exact kx 1 hr
theorem KNa(a0:List zca)(r:(List zca) × Bool)(hr:yGa a0=some r):Run prog 86 [.l zca.pc a0] (.tup [.l zca.pc r.1,.bo r.2]):=by
 unfold yGa at hr;refine rfx (fn:=f86) func86 fun g0 hg=>?_
 refine rn tk 9 rfl ?_;obtain ⟨v1,h2,hr⟩:=zaa hr;refine wo (Vna (k:=12) (runS_mu (w0a a0 v1 h2) rfl) rfl rfl zLa) rfl<|rn tk 5 rfl ?_;refine zwb 1004 (o:=4) (j:=2) 131 2 rfl rfl rfl rfl (hO ?_);refine ctq 9 hr [0,4,5] [] (fun _=>[(18,.hs 90011003 0)]) (fun j3=>[(4,.cells [.s v1.1.Type_,.s v1.1.Sub,.any]),(90011003,.row 131 true 2 (List.map zna.pc j3))]) (fun j3 hr jump1=>?_) (fun j3 hr=>?_)
 .refine iq 0 100000 [0,4,5] (fn:=f123) ⟨func123,rfl,by kernel_rfl⟩ fun T1 ds1=>?_
  refine rn tk 3 rfl ?_;refine vZa 2004 (d:=4) 131 2 rfl rfl rfl (hO ?_);refine ctq 6 hr [0,1] [199999,100000,100004,100005,4,90011003] (fun j4=>[(10,.i j4)]) (fun _=>[]) (fun j4 hr jump2=>?_) (fun j4 hr=>?_)
  .refine iq 0 200000 [0,1] (fn:=Tryz.f165) ⟨func165,rfl,by kernel_rfl⟩ fun T2 ds2=>?_
   refine rn tk 9 rfl<|wnh tk rfl rfl rfl rfl ?_;refine aq2 4 hr [0,1,7] [299999,200000,200001,199999,100000,100004,100005,4,90011003] (fun s5=>[(8,.i s5)]) (fun _=>[]) (.exit 0) [] [299999,200000,200001,199999,100000,100004,100005,4,90011003] (fun _=>[]) (fun _=>[]) .ret [] [299999,200000,200001,199999,100000,100004,100005,4,90011003] (fun b7=>[(4,.i b7)]) (fun _=>[]) (fun s5 x9 hr=>?_) (fun b6 hr=>?_) (fun b7 hr=>?_)
   .unfold jZa at hr;refine ax 6 9 hr (fun hr=>?_) fun hr=>?_
    .refine rn tk 15 rfl ?_;obtain ⟨v11,h12,hr⟩:=zaa hr;refine wih tk h12 rfl rfl rfl rfl rfl ?_;obtain ⟨v13,h14,hr⟩:=zaa hr;refine wq (zBb (F:=zna.pc) (l:=v1.1.Params) (n:=s5) (j:=0) rfl rfl qca rfl h14 rfl) rfl rfl rfl ?_;refine iq 0 400000 [0,1,5,7,8] (fn:=f124) ⟨func124,rfl,by kernel_rfl⟩ fun T4 ds4=>?_
     refine clx 10 hr (kla _ _) fun v15 _ hr=>?_
     refine ieq 4 (hO ?_);refine ax 2 16 hr (fun hr=>?_) fun hr=>?_
     .exact ox 9 hr
     exact cx 7 hr
    exact ox 2 hr
   .refine ieq 8 ?_;cases hr;exact jump2 _ _ rfl rfl
   refine ieq 2 ?_;cases hr;exact jump2 _ _ rfl rfl
  refine ax 10 12 hr (fun hr=>?_) fun hr=>?_
  .refine rn tk 6 rfl ?_;refine zKb (d' :=4) (F:=zna.pc) (l:=v1.1.Params) rfl rfl (hC ?_);refine ieq 2 ?_;cases hr;exact jump1 _ _ rfl rfl
  refine aq1 11 hr [0,1] [199999,100000,100004,100005,4] (fun s19=>[(5,.i s19.1),(6,.i s19.2.1)]) (fun s19=>[(90011003,.row 131 true 2 (List.map zna.pc s19.2.2))]) (.exit 0) [0] [199999,100000,100004,100005,4] (fun b20=>[(5,.i b20.1)]) (fun b20=>[(90011003,.row 131 true 2 (List.map zna.pc b20.2))]) (fun s19 x21 hr=>?_) (fun b20 hr=>?_)
  .unfold j0a at hr;refine rn tk 5 rfl<|wnh tk rfl rfl rfl rfl ?_;refine ax 3 19 hr (fun hr=>?_) fun hr=>?_
   .refine jq 2 hr [0,1,6] [199999,100000,100004,100005,4] (fun j23=>[(5,.i j23.1)]) (fun j23=>[(90011003,.row 131 true 2 (List.map zna.pc j23.2))]) (fun j23 hr=>?_) (fun j23 hr=>?_)
    .refine rn tk 5 rfl ?_;obtain ⟨v24,h25,hr⟩:=zaa hr;refine wih tk h25 rfl rfl rfl rfl rfl ?_;obtain ⟨v26,h27,hr⟩:=zaa hr;refine wq (zBb (F:=zna.pc) (l:=s19.2.2) (n:=s19.2.1) (j:=0) rfl rfl qca rfl h27 rfl) rfl rfl rfl ?_;refine iq 8 1000000 [0,1,5,6,7] (fn:=f124) ⟨func124,rfl,by kernel_rfl⟩ fun T10 ds10=>?_
     refine clx 10 hr (kla _ _) fun v28 _ hr=>?_
     refine ieq 4 (hO ?_);refine ax 3 29 hr (fun hr=>?_) fun hr=>?_
     .refine rn tk 5 rfl ?_;obtain ⟨v31,h32,hr⟩:=zaa hr;refine wih tk h32 rfl rfl rfl rfl rfl ?_;obtain ⟨v33,h34,hr⟩:=zaa hr;refine wo (wKa (F:=zna.pc) (l:=s19.2.2) (n:=s19.1) (j:=0) (v:=v33) (v' :=v26) (pcs:=[pS v26.Name,pS v26.Value]) rfl rfl rfl qca rfl h34 rfl rfl) rfl ?_;exact jx 8 hr
     exact jx 2 hr
    exact cx 5 hr
   exact ox 2 hr
  refine rn tk 6 rfl ?_;obtain ⟨v35,h36,hr⟩:=zaa hr;refine wq (ev_hsub (F:=zna.pc) (l:=b20.2) (p:=b20.1) rfl rfl rfl qja qca h36) rfl rfl rfl<|wo (vWb (F:=zna.pc) (l:=b20.2) (z:=((zna.mk (([]:Str)) (([]:Str))))) rfl rfl qja qca rfl rfl) rfl<|rn tk 6 rfl ?_;obtain ⟨v37,h38,hr⟩:=zaa hr;refine wo (YLa (k:=41) (F:=zna.pc) (l:=((clr0 b20.2 (Int.toNat b20.1) ((zna.mk (([]:Str)) (([]:Str))))))) rfl rfl rfl rfl qja qca h38) rfl<|rn tk 3 rfl ?_;refine zKb (d' :=4) (F:=zna.pc) (l:=v37) rfl rfl (hC ?_);refine ieq 1 ?_;cases hr;exact jump1 _ _ rfl rfl
 refine rn tk 7 rfl ?_;refine zAb 90011003 rfl (hO ?_);refine yLa (d' :=21) (j:=2) (F:=zna.pc) (l:=j3) rfl rfl rfl (hO ?_);refine clx 0 hr (yWa _) fun v39 _ hr=>?_
 refine clx 12 hr (zha _) fun v41 _ hr=>?_
 refine ax 2 26 hr (fun hr=>?_) fun hr=>?_
 .exact kx 8 hr
 refine rn tk 5 rfl ?_;obtain ⟨v44,h45,hr⟩:=zaa hr;refine wo (Vla (k:=28) 1028 (kTa a0 v44 h45) rfl rfl rfl rfl) rfl<|rn tk 8 rfl ?_;obtain ⟨v46,h47,hr⟩:=zaa hr;refine wih tk h47 rfl rfl rfl rfl rfl<|rn tk 1 rfl ?_;obtain ⟨v48,h49,hr⟩:=zaa hr;refine wo (wKa (F:=zca.pc) (l:=v44) (n:=v1.2.1) (j:=1) (v:=v48) (v' :=((zca.mk v48.Name v39.1))) (pcs:=[pS v39.1]) rfl rfl rfl zJa rfl h49 rfl rfl) rfl<|rn tk 9 rfl ?_;refine jaa 1028 rfl (hC ?_);refine qwa (d:=2) (F:=zca.pc) (l:=((List.set v44 (Int.toNat v1.2.1) ((zca.mk v48.Name v39.1))))) rfl rfl (hC ?_);exact kx 1 hr
theorem y4a(a0:zea)(a1:List zca)(a2:List UInt8)(a3:Int)(r:zpa × Bool × zea)(hr:k5a a0 a1 a2 a3=some r):RunS prog 51 [.ptr 90007000 0,.l zca.pc a1,.l cU a2,.i a3] (zea.sto a0) (.tup [.agg [.l zca.pc r.1.Fields,.l cU r.1.Body,.pv (.sl none [])],.bo r.2.1]) (zea.sto r.2.2) 90007000 []:=by
 unfold k5a at hr;refine rfS (fn:=f51) (H:=90007999) (.ptr 90007000 0) ⟨func51,rfl,by kernel_rfl⟩ rfl (hasT rfl) (.inl ⟨rfl,rfl⟩) rfl rfl rfl rfl fun g0 hg S sg T=>?_
 refine clx 21 hr (kea _) fun v1 _ hr=>?_
 refine clx 1 hr (k8a _) fun v3 _ hr=>?_
 refine clx 10 hr (wBa _ _ _) fun v5 _ hr=>?_
 refine rn tk 7 rfl<|wn tk rfl rfl rfl ?_;refine ax 3 36 hr (fun hr=>?_) fun hr=>?_
 .exact sxx 9 hr
 refine clx 5 hr (KNa _) fun v8 _ hr=>?_
 refine ax 14 44 hr (fun hr=>?_) fun hr=>?_
 .exact sxx 9 hr
 refine rn tk 13 rfl<|wn tk rfl rfl rfl ?_;refine aq1 4 hr [0,3,8,10,48,49] [90007999,90007000] (fun s11=>[(50,.i s11)]) (fun _=>[(10,.cells [.l zca.pc v8.1,.pv (.sl (some true) []),.pv (.sl (some true) [])]),(8,.cells [.pv (.sl (some true) []),.pv (.sl (some true) []),.pv (.sl (some true) [])])]) (.exit 0) [8,10] [90007999] (fun _=>[]) (fun b12=>(zea.sto b12)++ [(10,.cells [.l zca.pc v8.1,.pv (.sl (some true) []),.pv (.sl (some true) [])]),(8,.cells [.pv (.sl (some true) []),.pv (.sl (some true) []),.pv (.sl (some true) [])])]) (fun s11 x13 hr=>?_) (fun b12 hr=>?_)
 .unfold vTa at hr;refine ax 6 51 hr (fun hr=>?_) fun hr=>?_
  .refine rn tk 6 rfl ?_;obtain ⟨v15,h16,hr⟩:=zaa hr;refine wi tk h16 rfl rfl rfl rfl rfl<|rn tk 10 rfl ?_;cases hr
  exact ox 2 hr
 exact sxx 10 hr
theorem y5a(a0:zea)(a1:List UInt8)(a2:Int)(r:zpa × Bool × zea)(hr:kya a0 a1 a2=some r):RunS prog 87 [.ptr 90007000 0,.l cU a1,.i a2] (zea.sto a0) (.tup [.agg [.l zca.pc r.1.Fields,.l cU r.1.Body,.pv (.sl none [])],.bo r.2.1]) (zea.sto r.2.2) 90007000 []:=by
 unfold kya at hr;refine rfS (fn:=f87) (H:=90007999) (.ptr 90007000 0) ⟨func87,rfl,by kernel_rfl⟩ rfl (hasT rfl) (.inl ⟨rfl,rfl⟩) rfl rfl rfl rfl fun g0 hg S sg T=>?_
 refine clx 9 hr (Kca _) fun v1 _ hr=>?_
 refine clx 14 hr (zha _) fun v3 _ hr=>?_
 refine ax 2 18 hr (fun hr=>?_) fun hr=>?_
 .refine clx 5 hr (zga _ _) fun v6 _ hr=>?_
  exact sxx 14 hr
 refine ax 12 30 hr (fun hr=>?_) fun hr=>?_
 .refine clx 3 hr (zga _ _) fun v9 _ hr=>?_
  exact sxx 14 hr
 refine rn tk 8 rfl ?_;obtain ⟨v11,h12,hr⟩:=zaa hr;refine wlL tk h12 rfl rfl rfl (fun _=>rfl) rfl ?_;refine csx 1 hr (y4a a0 v1.1 v11 a2) fun v13 _ hr=>?_
 exact sxx 7 hr
theorem y6a(a0:zea)(a1:List zca)(a2:List UInt8)(a3:Int)(r:zpa × Bool × zea)(hr:k6a a0 a1 a2 a3=some r):RunS prog 51 [.ptr 90007000 0,.l zca.pc a1,.l cU a2,.i a3] (zea.sto a0) (.tup [.agg [.l zca.pc r.1.Fields,.l cU r.1.Body,.l (zpa.pcn 0) r.1.Parts],.bo r.2.1]) (zea.sto r.2.2) 90007000 []:=by
 unfold k6a at hr;refine rfS (fn:=f51) (H:=90007999) (.ptr 90007000 0) ⟨func51,rfl,by kernel_rfl⟩ rfl (hasT rfl) (.inl ⟨rfl,rfl⟩) rfl rfl rfl rfl fun g0 hg S sg T=>?_
 refine clx 21 hr (kea _) fun v1 _ hr=>?_
 refine clx 1 hr (k8a _) fun v3 _ hr=>?_
 refine rn tk 2 rfl ?_;refine zGa 1010 (o:=10) (j:=2) 42 3 rfl rfl rfl rfl (hO ?_);refine rn tk 1 rfl ?_;refine zGa 2010 (o:=10) (j:=2) 42 3 rfl rfl rfl rfl (hO ?_);refine clx 7 hr (wBa _ _ _) fun v5 _ hr=>?_
 refine rn tk 7 rfl<|wn tk rfl rfl rfl ?_;refine ax 3 36 hr (fun hr=>?_) fun hr=>?_
 .refine rn tk 7 rfl ?_;refine Qra (o:=8) (j:=2) (F:=(zpa.pcn 0)) (l:=(([]:List zpa))) rfl rfl rfl (hC ?_);exact sxx 2 hr
 refine clx 5 hr (KNa _) fun v8 _ hr=>?_
 refine ax 14 44 hr (fun hr=>?_) fun hr=>?_
 .refine rn tk 7 rfl ?_;refine Qra (o:=8) (j:=2) (F:=(zpa.pcn 0)) (l:=(([]:List zpa))) rfl rfl rfl (hC ?_);exact sxx 2 hr
 refine rn tk 7 rfl ?_;refine zGa 3010 (o:=10) (j:=2) 42 3 rfl rfl rfl rfl (hO ?_);refine rn tk 6 rfl<|wn tk rfl rfl rfl ?_;refine aq2 4 hr [0,3,8,10,48,49] [90007999] (fun s11=>[(50,.i s11.1)]) (fun s11=>(zea.sto s11.2.1)++ [(3010,.row 42 false 3 (List.map (zpa.pcn 0) s11.2.2)),(10,.cells [.l zca.pc v8.1,.pv (.sl (some true) []),.hs 3010 0]),(8,.cells [.pv (.sl (some true) []),.pv (.sl (some true) []),.pv (.sl (some true) [])])]) (.exit 0) [8,10] [90007999] (fun _=>[]) (fun b12=>(zea.sto b12.1)++ [(3010,.row 42 false 3 (List.map (zpa.pcn 0) b12.2)),(10,.cells [.l zca.pc v8.1,.pv (.sl (some true) []),.hs 3010 0]),(8,.cells [.pv (.sl (some true) []),.pv (.sl (some true) []),.pv (.sl (some true) [])])]) .ret [8,9] [90007999] (fun _=>[]) (fun b13=>(zea.sto b13)++ [(8,.cells [.pv (.sl (some true) []),.pv (.sl (some true) []),.pv (.sl (some true) [])])]) (fun s11 x15 hr=>?_) (fun b12 hr=>?_) (fun b13 hr=>?_)
 .unfold zSa at hr;refine ax 6 51 hr (fun hr=>?_) fun hr=>?_
  .refine rn tk 6 rfl ?_;obtain ⟨v17,h18,hr⟩:=zaa hr;refine wi tk h18 rfl rfl rfl rfl rfl ?_;refine csx 10 hr (y5a _ _ _) fun v19 _ hr=>?_
   refine ax 15 63 hr (fun hr=>?_) fun hr=>?_
   .exact ox 11 hr
   refine rn tk 6 rfl<|wz (zpa.pcn 0) ([(zpa.mk v19.1.Fields v19.1.Body ([]))]:List zpa) tk rfl rfl (fun _=>rfl) rfl rfl rfl ?_;obtain ⟨v22,h23,hr⟩:=zaa hr;refine wa tk h23 rfl rfl rfl rfl (fun _=>rfl) rfl rfl ?_;exact cx 9 hr
  exact ox 2 hr
 .refine rn tk 9 rfl ?_;refine Qra (o:=8) (j:=2) (F:=(zpa.pcn 0)) (l:=b12.2) rfl rfl rfl (hC ?_);exact sxx 1 hr
 exact sxx 2 hr
theorem Vca(a0:zda)(r:zpa × zoa)(hr:vUa a0=some r):Run prog 19 [.agg [.l zca.pc a0.Fields,.l cU a0.Body]] (.tup [.agg [.l zca.pc r.1.Fields,.l cU r.1.Body,.l (zpa.pcn 0) r.1.Parts],.agg [.i r.2.Code,.i r.2.Index]]):=by
 unfold vUa at hr;refine rfx (fn:=f19) func19 fun g0 hg=>?_
 refine clx 11 hr (zVa _) fun v1 _ hr=>?_
 refine clx 7 hr (zha _) fun v3 _ hr=>?_
 refine ax 2 12 hr (fun hr=>?_) fun hr=>?_
 .refine rn tk 1 rfl<|drX 2 3 3 3 [1] [(14,.agg [.i v1.Code,.i v1.Index]),(13,.agg [.pv (.sl (some true) []),.pv (.sl (some true) []),.pv (.sl (some true) [])])] [(2,.ptr 2 0),(3,.ptr 3 0),(14,.agg [.i v1.Code,.i v1.Index])] [(4,.cells [.i v1.Code,.i v1.Index]),(3,.cells [.i 0,.i 0]),(2,.cells [.pv (.sl (some true) []),.pv (.sl (some true) []),.pv (.sl (some true) [])]),(1,.cells [.l zca.pc a0.Fields,.l cU a0.Body])] tk mixed (by kernel_rfl) rfl rfl rfl (pqX tk rfl (.plain rfl) (pqX tk rfl (.plain rfl) .nil)) rfl rfl rfl rfl (by kernel_rfl) ?_;exact kx 5 hr
 refine rn tk 5 rfl<|wo (wea (k:=16) 90007000 rfl rfl rfl rfl rfl) rfl ?_;refine csx 10 hr (y6a _ _ _ _) fun v6 _ hr=>?_
 refine ax 15 27 hr (fun hr=>?_) fun hr=>?_
 .refine rn tk 1 rfl<|drX 5 6 6 73 [1,2,3,4] [(32,.agg [.i v6.2.2.fault.Code,.i v6.2.2.fault.Index]),(31,.ptr 90007000 1),(30,.ptr 90007000 0),(29,.ptr 90007000 0),(28,.agg [.pv (.sl (some true) []),.pv (.sl (some true) []),.pv (.sl (some true) [])])] [(2,.ptr 2 0),(3,.ptr 3 0),(32,.agg [.i v6.2.2.fault.Code,.i v6.2.2.fault.Index])] [(6,.cells [.l zca.pc v6.1.Fields,.l cU v6.1.Body,.l (zpa.pcn 0) v6.1.Parts]),(90007000,.cells [.i v6.2.2.many,.i v6.2.2.fault.Code,.i v6.2.2.fault.Index]),(4,.cells [.i v1.Code,.i v1.Index]),(3,.cells [.i 0,.i 0]),(2,.cells [.pv (.sl (some true) []),.pv (.sl (some true) []),.pv (.sl (some true) [])]),(1,.cells [.l zca.pc a0.Fields,.l cU a0.Body])] tk mixed (by kernel_rfl) rfl rfl rfl (pqX tk rfl (.plain rfl) (pqX tk rfl (.plain rfl) (pqX tk rfl (.plain rfl) (pqX tk rfl (.plain rfl) (pqX tk rfl (.plain rfl) .nil))))) rfl rfl rfl rfl (by kernel_rfl) ?_;exact kx 5 hr
 refine clx 6 hr (yma _) fun v9 _ hr=>?_
 refine clx 7 hr (zha _) fun v11 _ hr=>?_
 refine ax 2 36 hr (fun hr=>?_) fun hr=>?_
 .refine clx 5 hr (zga _ _) fun v14 _ hr=>?_
  exact kx 6 hr
 refine rn tk 3 rfl ?_;obtain ⟨v16,h17,hr⟩:=zaa hr;refine drF 1 0 [(41,.agg [.l zca.pc v6.1.Fields,.l cU v6.1.Body,.l (zpa.pcn 0) v6.1.Parts])] [(41,.any)] [(2,.ptr 2 0),(3,.ptr 3 0),(41,.agg [.l zca.pc v6.1.Fields,.l cU v6.1.Body,.l (zpa.pcn 0) v6.1.Parts]),(42,.agg [.i v16.Code,.i v16.Index])] [(8,.cells [.i v9.Code,.i v9.Index]),(6,.cells [.l zca.pc v6.1.Fields,.l cU v6.1.Body,.l (zpa.pcn 0) v6.1.Parts]),(90007000,.cells [.i v6.2.2.many,.i v6.2.2.fault.Code,.i v6.2.2.fault.Index]),(4,.cells [.i v1.Code,.i v1.Index]),(3,.cells [.i 0,.i 0]),(2,.cells [.pv (.sl (some true) []),.pv (.sl (some true) []),.pv (.sl (some true) [])]),(1,.cells [.l zca.pc a0.Fields,.l cU a0.Body])] mixed (by kernel_rfl) rfl rfl rfl rfl rfl (pqF tk rfl (.plain rfl) .nil) rfl rfl rfl rfl rfl (fun hJ=>?_) (fun hJ=>?_) ?_
 .refine cl (zla _ h17) rfl rfl ?_;exact hJ _ _ rfl rfl
 .refine cl (zla _ h17) rfl rfl<|rn tk 1 rfl ?_;exact hJ _ _ rfl rfl
 exact kx 5 hr
theorem yYa(a0:zda)(r:(List zda) × Bool × zoa)(hr:qTa a0=some r):Run prog 18 [.agg [.l zca.pc a0.Fields,.l cU a0.Body]] (.tup [.l zda.pc r.1,.bo r.2.1,.agg [.i r.2.2.Code,.i r.2.2.Index]]):=by
 unfold qTa at hr;refine rfx (fn:=f18) func18 fun g0 hg=>?_
 refine clx 12 hr (zVa _) fun v1 _ hr=>?_
 refine clx 7 hr (zha _) fun v3 _ hr=>?_
 refine ax 2 17 hr (fun hr=>?_) fun hr=>?_
 .refine dq 1 3 [] [] .nil .nil ?_ mixed;exact kx 5 hr
 refine clx 5 hr (Vca _) fun v6 _ hr=>?_
 refine rn tk 13 rfl<|wn tk rfl rfl rfl ?_;refine jq 4 hr [4,6] [6,4] (fun j8=>[(50,.bo j8)]) (fun _=>[]) (fun j8 hr=>?_) (fun j8 hr=>?_)
 .obtain ⟨v9,h10,hr⟩:=zaa hr;refine v3a v9 (fun c11=>?_) (fun c11=>?_)
  .replace hr:=VMa c11 hr
   refine dq 0 21 [(29,true)] [(1,.bo v9)] (.cons rfl c11 .nil) (.cons rfl rfl (zWa (zha v6.2 v9 h10) rfl) .nil) ?_ mixed;exact jx 4 hr
  replace hr:=VNa c11 hr
  refine v3a (decide ((v6.1.Parts.length:Int) < 1)) (fun c12=>?_) (fun c12=>?_)
  .replace hr:=VMa c12 hr
   refine dq 0 21 [(29,false),(33,true)] [(1,.bo v9)] (.cons rfl c11 (.cons rfl c12 .nil)) (.cons rfl rfl (zWa (zha v6.2 v9 h10) rfl) .nil) ?_ mixed;exact jx 4 hr
  replace hr:=VNa c12 hr
  refine v3a (decide (20 < (v6.1.Parts.length:Int))) (fun c13=>?_) (fun c13=>?_)
  .replace hr:=VMa c13 hr
   refine dq 0 21 [(29,false),(33,false),(37,true)] [(1,.bo v9)] (.cons rfl c11 (.cons rfl c12 (.cons rfl c13 .nil))) (.cons rfl rfl (zWa (zha v6.2 v9 h10) rfl) .nil) ?_ mixed;exact jx 4 hr
  replace hr:=VNa c13 hr
  obtain ⟨v14,h15,hr⟩:=zaa hr;refine v3a ((!v14)) (fun c16=>?_) (fun c16=>?_)
  .replace hr:=VMa c16 hr
   refine dq 0 21 [(29,false),(33,false),(37,false),(43,true)] [(1,.bo v9),(13,.bo v14)] (.cons rfl c11 (.cons rfl c12 (.cons rfl c13 (.cons rfl c16 .nil)))) (.cons rfl rfl (zWa (zha v6.2 v9 h10) rfl) (.cons rfl rfl (zWa (wCa v6.1.Fields (([67,111,110,116,101,110,116,45,84,121,112,101]:Str)) (([109,117,108,116,105,112,97,114,116,47,100,105,103,101,115,116]:Str)) v14 h15) rfl) .nil)) ?_ mixed;refine kn 43 c16 rfl ?_;exact jx 4 hr
  replace hr:=VNa c16 hr
  obtain ⟨v17,h18,hr⟩:=zaa hr;refine dq 0 21 [(29,false),(33,false),(37,false),(43,false)] [(1,.bo v9),(13,.bo v14),(20,.s v17)] (.cons rfl c11 (.cons rfl c12 (.cons rfl c13 (.cons rfl c16 .nil)))) (.cons rfl rfl (zWa (zha v6.2 v9 h10) rfl) (.cons rfl rfl (zWa (wCa v6.1.Fields (([67,111,110,116,101,110,116,45,84,121,112,101]:Str)) (([109,117,108,116,105,112,97,114,116,47,100,105,103,101,115,116]:Str)) v14 h15) rfl) (.cons rfl rfl (zWa (q4a ((v6.1.Parts.length:Int)) v17 h18) rfl) .nil))) ?_ mixed;refine kn 43 c16 rfl ?_;obtain ⟨v19,h20,hr⟩:=zaa hr;refine ug rfl rfl rfl<|cl (wCa _ _ _ _ h20) rfl rfl ?_;exact jx 3 hr
 refine ax 0 50 hr (fun hr=>?_) fun hr=>?_
 .refine clx 2 hr zla fun v22 _ hr=>?_
  exact kx 7 hr
 refine rn tk 5 rfl ?_;refine kVa 1009 (d:=9) 26 2 rfl rfl rfl (hO ?_);refine rn tk 7 rfl<|wn tk rfl rfl rfl ?_;refine aq2 4 hr [4,9,53,54] [4] (fun s24=>[(55,.i s24.1)]) (fun s24=>[(1009,.row 26 false 2 (List.map zda.pc s24.2))]) (.exit 0) [4,9] [4] (fun _=>[]) (fun b25=>[(1009,.row 26 false 2 (List.map zda.pc b25))]) .ret [4] [] (fun b26=>[(2,.l zda.pc b26.1),(3,.bo b26.2.1)]) (fun b26=>[(4,.cells [.i b26.2.2.Code,.i b26.2.2.Index])]) (fun s24 x28 hr=>?_) (fun b25 hr=>?_) (fun b26 hr=>?_)
 .unfold vca at hr;refine ax 6 56 hr (fun hr=>?_) fun hr=>?_
  .refine rn tk 6 rfl ?_;obtain ⟨v30,h31,hr⟩:=zaa hr;refine wi tk h31 rfl rfl rfl rfl rfl ?_;refine clx 8 hr (Vba _) fun v32 _ hr=>?_
   refine ax 15 65 hr (fun hr=>?_) fun hr=>?_
   .refine clx 2 hr zla fun v35 _ hr=>?_
    exact ox 9 hr
   refine rn tk 5 rfl<|wz zda.pc ([v32.1]:List zda) tk rfl rfl (fun _=>rfl) rfl rfl rfl ?_;obtain ⟨v37,h38,hr⟩:=zaa hr;refine wa tk h38 rfl rfl rfl rfl (fun _=>rfl) rfl rfl ?_;exact cx 8 hr
  exact ox 2 hr
 .refine clx 5 hr zla fun v39 _ hr=>?_
  refine rn tk 5 rfl ?_;refine qwa (d:=2) (F:=zda.pc) (l:=b25) rfl rfl (hC ?_);exact kx 1 hr
 exact kx 2 hr
theorem KOa(r:Bool)(hr:jLa=some r):Run prog 12 [] (.bo r):=by
 unfold jLa at hr;refine rfx (fn:=f12) func12 fun g0 hg=>?_
 refine rn tk 8 rfl ?_;refine y9a rfl (Qsa (F:=cU) (l:=([(97:UInt8)]:List UInt8)) zva zRa rfl (fun _=>rfl) rfl rfl) zva zRa (z1a rfl) (z1a rfl) rfl (hO ?_);refine rn tk 1 rfl<|wz zda.pc ([(zda.mk ([]) ([])),(zda.mk ([]) (([(97:UInt8)]:List UInt8)))]:List zda) tk rfl rfl (fun _=>rfl) rfl rfl rfl ?_;refine clx 0 hr (Z9a _ _ _) fun v1 _ hr=>?_
 refine clx 12 hr (yYa _) fun v3 _ hr=>?_
 refine rn tk 15 rfl<|wz zda.pc ([(zda.mk ([]) ([])),(zda.mk ([]) ([])),(zda.mk ([]) ([]))]:List zda) tk rfl rfl (fun _=>rfl) rfl rfl rfl ?_;refine clx 0 hr (Q0a _ _) fun v5 _ hr=>?_
 refine clx 11 hr (yYa _) fun v7 _ hr=>?_
 refine jq 10 hr [] [] (fun j9=>[(0,.bo j9)]) (fun _=>[]) (fun j9 hr=>?_) (fun j9 hr=>?_)
 .refine bx 5 43 hr (fun c10 hr=>?_) fun c10 hr=>?_
  .refine bx 5 48 hr (fun c11 hr=>?_) fun c11 hr=>?_
   .refine bx 5 53 hr (fun c12 hr=>?_) fun c12 hr=>?_
    .refine bx 5 58 hr (fun c13 hr=>?_) fun c13 hr=>?_
     .refine bx 3 61 hr (fun c14 hr=>?_) fun c14 hr=>?_
      .refine bx 4 65 hr (fun c15 hr=>?_) fun c15 hr=>?_
       .refine rn tk 2 rfl<|ug rfl rfl rfl<|wn tk rfl rfl rfl ?_;refine bx 3 71 hr (fun c16 hr=>?_) fun c16 hr=>?_
        .refine rn tk 1 rfl<|ug rfl rfl rfl<|wn tk rfl rfl rfl ?_;refine bx 3 76 hr (fun c17 hr=>?_) fun c17 hr=>?_
         .refine rn tk 1 rfl ?_;obtain ⟨v18,h19,hr⟩:=zaa hr;refine ug rfl rfl rfl<|wi tk h19 rfl rfl rfl rfl rfl<|rn tk 2 rfl<|ug rfl rfl rfl<|wb tk rfl rfl rfl ?_;refine bx 3 84 hr (fun c20 hr=>?_) fun c20 hr=>?_
          .refine rn tk 1 rfl<|ug rfl rfl rfl<|wz cI ([2,1]:List Int) tk rfl rfl (fun _=>rfl) rfl rfl rfl ?_;obtain ⟨v21,h22,hr⟩:=zaa hr;refine ug rfl rfl rfl<|cl (wDb _ _ _ h22) rfl rfl ?_;exact jx 3 hr
          exact jx 6 hr
         exact jx 14 hr
        exact jx 19 hr
       exact jx 25 hr
      exact jx 29 hr
     exact jx 32 hr
    exact jx 37 hr
   exact jx 42 hr
  exact jx 47 hr
 exact kx 1 hr
theorem VJa(a0:zda)(a1:zda)(r:Bool)(hr:wna a0 a1=some r):Run prog 16 [.agg [.l zca.pc a0.Fields,.l cU a0.Body],.agg [.l zca.pc a1.Fields,.l cU a1.Body]] (.bo r):=by
 unfold wna at hr;refine rfx (fn:=f16) func16 fun g0 hg=>?_
 refine jq 8 hr [2,3] [3,2] (fun j1=>[(21,.bo j1)]) (fun _=>[]) (fun j1 hr=>?_) (fun j1 hr=>?_)
 .refine rn tk 3 rfl<|wn tk rfl rfl rfl<|rn tk 2 rfl<|wn tk rfl rfl rfl ?_;refine bx 2 13 hr (fun c2 hr=>?_) fun c2 hr=>?_
  .exact jx 9 hr
  refine rn tk 2 rfl<|ug rfl rfl rfl<|wb tk rfl rfl rfl<|rn tk 2 rfl<|ug rfl rfl rfl<|wb tk rfl rfl rfl ?_;exact jx 3 hr
 refine ax 0 21 hr (fun hr=>?_) fun hr=>?_
 .exact kx 7 hr
 refine aq2 9 hr [2,3] [3,2] (fun s4=>[(5,.i s4)]) (fun _=>[]) (.exit 0) [] [] (fun _=>[]) (fun _=>[]) .ret [] [] (fun b6=>[(4,.bo b6)]) (fun _=>[]) (fun s4 x8 hr=>?_) (fun b5 hr=>?_) (fun b6 hr=>?_)
 .unfold vWa at hr;refine rn tk 6 rfl<|wn tk rfl rfl rfl ?_;refine ax 3 26 hr (fun hr=>?_) fun hr=>?_
  .refine rn tk 5 rfl ?_;obtain ⟨v10,h11,hr⟩:=zaa hr;obtain ⟨v12,h13,hr⟩:=zaa hr;refine mdq 0 [(3,.ep [pS v10.Name,pS v10.Value]),(8,.ep [pS v12.Name,pS v12.Value]),(10,.bo ((!(V1a [(v10.Name==v12.Name),(v10.Value==v12.Value)]))))] [2,3,5,39] (.cons rfl rfl (t0 (qxa (Qna (f:=zca.pc) rfl rfl zya kha rfl h11))) (.cons rfl rfl (t0 (qxa (Qna (f:=zca.pc) rfl rfl zya kha rfl h13))) (.cons rfl rfl (t0 (qxa (qdb rfl rfl kha JSa (.str rfl (by decide) zJa (.str rfl (by decide) zJa .nil))))) .nil))) ?_ mixed;refine ax 1 39 hr (fun hr=>?_) fun hr=>?_
   .exact ox 8 hr
   exact cx 8 hr
  exact ox 2 hr
 .exact kx 8 hr
 exact kx 2 hr
theorem KPa(a0:Str)(r:Bool)(hr:yFa a0=some r):Run prog 57 [.s a0] (.bo r):=by
 unfold yFa at hr;refine rfx (fn:=f57) func57 fun g0 hg=>?_
 refine jq 5 hr [] [] (fun j1=>[(2,.bo j1)]) (fun _=>[]) (fun j1 hr=>?_) (fun j1 hr=>?_)
 .refine bx 4 5 hr (fun c2 hr=>?_) fun c2 hr=>?_
  .refine bx 5 10 hr (fun c3 hr=>?_) fun c3 hr=>?_
   .refine rn tk 1 rfl<|ug rfl rfl rfl ?_;refine ctq 0 hr [10] [] (fun j4=>[(12,.bo j4)]) (fun _=>[]) (fun j4 hr jump4=>?_) (fun j4 hr=>?_)
    .refine iq 0 400000 [10] (fn:=f89) ⟨func89,rfl,by kernel_rfl⟩ fun T4 ds4=>?_
     refine aq2 14 hr [0,1,7] [499999,400010] (fun s5=>[(8,.i s5)]) (fun _=>[]) (.exit 0) [] [499999,400010] (fun _=>[]) (fun _=>[]) .ret [4] [499999,400010] (fun _=>[]) (fun _=>[]) (fun s5 x9 hr=>?_) (fun b6 hr=>?_) (fun b7 hr=>?_)
     .unfold wja at hr;refine ax 6 9 hr (fun hr=>?_) fun hr=>?_
      .refine rn tk 15 rfl ?_;obtain ⟨v11,h12,hr⟩:=zaa hr;refine ws tk h12 rfl rfl rfl rfl ?_;refine iq 0 600000 [0,1,7,8] (fn:=f90) ⟨func90,rfl,by kernel_rfl⟩ fun T6 ds6=>?_
       refine jq 5 hr [] [699999,600000,600001,600007,600008,499999,400010] (fun j13=>[(2,.bo j13)]) (fun _=>[]) (fun j13 hr=>?_) (fun j13 hr=>?_)
       .refine clx 2 hr (Zga _) fun v14 _ hr=>?_
        refine bx 1 5 hr (fun c16 hr=>?_) fun c16 hr=>?_
        .exact jx 13 hr
        refine bx 4 9 hr (fun c17 hr=>?_) fun c17 hr=>?_
        .exact jx 9 hr
        refine bx 4 13 hr (fun c18 hr=>?_) fun c18 hr=>?_
        .exact jx 5 hr
        exact jx 5 hr
       refine ieq 1 (hO ?_);refine ax 3 16 hr (fun hr=>?_) fun hr=>?_
       .exact ox 8 hr
       exact cx 7 hr
      exact ox 2 hr
     .refine ieq 8 ?_;cases hr;exact jump4 _ _ rfl rfl
     refine ieq 2 ?_;cases hr;exact jump4 _ _ rfl rfl
    exact jx 3 hr
   exact jx 5 hr
  exact jx 10 hr
 exact kx 1 hr
theorem vEa(a0:List (List zca))(r:List zca)(hr:zFa a0=some r):Run prog 92 [.l (cL zca.pc) a0] (.l zca.pc r):=by
 unfold zFa at hr;refine rfx (fn:=f92) func92 fun g0 hg=>?_
 refine rn tk 14 rfl<|wn tk rfl rfl rfl<|rn tk 4 rfl<|al1 hr (fun s1=>[(0,.l (cL zca.pc) a0),(3,.i s1.1),(9,.l (cL zca.pc) a0),(10,.i ((a0.length:Int))),(11,.i s1.2)]) (fun s1=>[]) (.exit 0) (fun b2=>[(0,.l (cL zca.pc) a0),(3,.i b2)]) (fun b2=>[]) rfl rfl (fun s1 x3 hr=>?_) (fun b2 hr=>?_)
 .unfold zwa at hr;refine ax 6 12 hr (fun hr=>?_) fun hr=>?_
  .refine rn tk 6 rfl ?_;obtain ⟨v5,h6,hr⟩:=zaa hr;refine wi tk h6 rfl rfl rfl rfl rfl<|rn tk 8 rfl<|wn tk rfl rfl rfl ?_;refine ax 10 20 hr (fun hr=>?_) fun hr=>?_
   .refine rn tk 1 rfl ?_;cases hr
   exact cx 7 hr
  exact ox 2 hr
 refine rn tk 5 rfl<|il (fn:=f125) (args:=[.pv (.sl (some true) []),.i b2]) 100000 199999 [(0,.l (cL zca.pc) a0)] rfl ⟨func125,rfl,by kernel_rfl⟩ rfl rfl rfl fun T1 ds1=>?_
 refine ax 12 6 hr (fun hr=>?_) fun hr=>?_
 .refine rn tk 1 rfl ?_;cases hr
 refine rn tk 7 rfl<|wq (zHb rfl zya.u) rfl rfl rfl<|rn tk 1 rfl<|wq (zIb rfl zya.u) rfl rfl rfl ?_;refine ax 11 16 hr (fun hr=>?_) fun hr=>?_
 .refine rn tk 3 rfl<|wq (zHb rfl zya.u) rfl rfl rfl<|wq (ev_slnil rfl rfl zya kha) rfl rfl rfl<|rn tk 1 rfl ?_;obtain ⟨v10,h11,hr⟩:=zaa hr;refine wo (zJb (k:=22) (F:=zca.pc) (z:=((zca.mk (([]:Str)) (([]:Str))):zca)) (lim:=4398046511104) 1022 rfl rfl rfl rfl rfl zya jCa kha rfl rfl rfl h11) rfl<|rn tk 1 rfl<|wq (zIb rfl zya.u) rfl rfl rfl ?_;obtain ⟨v12,h13,hr⟩:=zaa hr;refine wo (YLa (k:=25) (F:=zca.pc) (l:=v10) rfl rfl rfl rfl zya kha h13) rfl<|rn tk 10 rfl ?_;refine ie tk [.hs 1022 0] [(0,.l (cL zca.pc) a0)] [(1022,.row 38 true 2 (List.map zca.pc v12))] (.inr rfl) rfl rfl rfl rfl (hO ?_);refine rn tk 7 rfl<|wn tk rfl rfl rfl<|rn tk 4 rfl<|al1 hr (fun s14=>[(6,.hs 1022 0),(25,.l (cL zca.pc) a0),(26,.i ((a0.length:Int))),(27,.i s14.1)]) (fun s14=>[(1022,.row 38 true 2 (List.map zca.pc s14.2))]) (.exit 2) (fun b15=>[(6,.hs 1022 0)]) (fun b15=>[(1022,.row 38 true 2 (List.map zca.pc b15))]) rfl rfl (fun s14 x16 hr=>?_) (fun b15 hr=>?_)
  .unfold zBa at hr;refine ax 6 28 hr (fun hr=>?_) fun hr=>?_
   .refine rn tk 6 rfl ?_;obtain ⟨v18,h19,hr⟩:=zaa hr;refine wi tk h19 rfl rfl rfl rfl rfl<|rn tk 7 rfl ?_;obtain ⟨v20,h21,hr⟩:=zaa hr;refine wa tk h21 rfl rfl rfl rfl (fun _=>rfl) rfl rfl ?_;exact cx 8 hr
   exact ox 2 hr
  refine rn tk 8 rfl ?_;refine jaa 1022 rfl (hC ?_);refine qwa (d:=2) (F:=zca.pc) (l:=b15) rfl rfl (hC ?_);exact kx 1 hr
 refine rn tk 5 rfl ?_;refine kVa 1026 (d:=26) 38 2 rfl rfl rfl (hO ?_);refine rn tk 4 rfl ?_;refine ie tk [.hs 1026 0] [(0,.l (cL zca.pc) a0)] [(1026,.row 38 false 2 (List.map zca.pc (([]:List zca))))] (.inr rfl) rfl rfl rfl rfl (hO ?_);refine rn tk 7 rfl<|wn tk rfl rfl rfl<|rn tk 4 rfl<|al1 hr (fun s22=>[(6,.hs 1026 0),(25,.l (cL zca.pc) a0),(26,.i ((a0.length:Int))),(27,.i s22.1)]) (fun s22=>[(1026,.row 38 false 2 (List.map zca.pc s22.2))]) (.exit 2) (fun b23=>[(6,.hs 1026 0)]) (fun b23=>[(1026,.row 38 false 2 (List.map zca.pc b23))]) rfl rfl (fun s22 x24 hr=>?_) (fun b23 hr=>?_)
 .unfold kUa at hr;refine ax 6 28 hr (fun hr=>?_) fun hr=>?_
  .refine rn tk 6 rfl ?_;obtain ⟨v26,h27,hr⟩:=zaa hr;refine wi tk h27 rfl rfl rfl rfl rfl<|rn tk 7 rfl ?_;obtain ⟨v28,h29,hr⟩:=zaa hr;refine wa tk h29 rfl rfl rfl rfl (fun _=>rfl) rfl rfl ?_;exact cx 8 hr
  exact ox 2 hr
 refine rn tk 8 rfl ?_;refine qwa (d:=2) (F:=zca.pc) (l:=b23) rfl rfl (hC ?_);exact kx 1 hr
theorem Yla(a0:zda)(a1:Str)(a2:Str)(r:zda)(hr:yMa a0 a1 a2=some r):Run prog 58 [.agg [.l zca.pc a0.Fields,.l cU a0.Body],.s a1,.s a2] (.agg [.l zca.pc r.Fields,.l cU r.Body]):=by
 unfold yMa at hr;refine rfx (fn:=f58) func58 fun g0 hg=>?_
 refine rn tk 7 rfl ?_;obtain ⟨v1,h2,hr⟩:=zaa hr;refine dr 10 [(16,.l cU a0.Body),(15,.ptr 3 1),(14,.l zca.pc v1),(13,.l (cL zca.pc) (([([(zca.mk a1 a2)]:List zca),a0.Fields]:List (List zca)))),(12,.l zca.pc a0.Fields),(11,.ptr 3 0),(10,.l zca.pc (([(zca.mk a1 a2)]:List zca))),(9,.agg [.s a1,.s a2]),(8,.s a2),(7,.s a1)] mixed (by kernel_rfl) rfl rfl (pq tk rfl (.plain rfl) (pq tk rfl (.plain rfl) (pq tk rfl (.plain rfl) (.run (.plain rfl) (KTa (F:=zca.pc) (l:=([(zca.mk a1 a2)]:List zca)) zya kha rfl (fun _=>rfl) rfl rfl) (pq tk rfl (.plain rfl) (pq tk rfl (.plain rfl) (.run (.plain rfl) (KTa (F:=(cL zca.pc)) (l:=([([(zca.mk a1 a2)]:List zca),a0.Fields]:List (List zca))) Zaa zya rfl (fun _=>rfl) rfl rfl) (.run (.plain rfl) (zWa (vEa (([([(zca.mk a1 a2)]:List zca),a0.Fields]:List (List zca))) v1 h2) rfl) (pq tk rfl (.plain rfl) (pq tk rfl (.plain rfl) .nil)))))))))) rfl<|ct hr (fun j3=>[(6,.ptr 6 0),(14,.l zca.pc v1),(17,.l cU j3)]) (fun j3=>[(6,.cells [.l zca.pc ([]),.l cU ([])])]) (fun j3 hr jump1=>?_) (fun j3 hr=>?_)
 .refine il (fn:=f46) (args:=[.l cU a0.Body]) 100000 199999 [(6,.ptr 6 0),(14,.l zca.pc v1)] rfl ⟨func46,rfl,by kernel_rfl⟩ rfl rfl rfl fun T1 ds1=>?_
  refine rn tk 9 rfl ?_;refine jya (d:=3) (F:=cU) (l:=a0.Body) rfl rfl rfl zva (fun c4=>hO ?_) (hO ?_)
  .replace hr:=Qva c4 hr
   refine rn tk 10 rfl ?_;refine ie tk [.pv (.sl (some true) [])] [(6,.ptr 6 0),(14,.l zca.pc v1)] [(6,.cells [.pv (.sl (some true) []),.pv (.sl (some true) [])]),(3,.cells [.l zca.pc a0.Fields,.l cU a0.Body])] (.inr rfl) rfl rfl rfl rfl ?_;cases hr;exact jump1 _ _ rfl rfl
  replace hr:=Qwa hr
  refine rn tk 7 rfl<|wo (Zta (k:=5) rfl zva zRa) rfl<|rn tk 1 rfl ?_;obtain ⟨v5,h6,hr⟩:=zaa hr;refine wo (w4a (k:=7) (F:=cU) (xs:=a0.Body) (lim:=140737488355328) 1002 rfl rfl rfl zva zRa rfl rfl (fun _=>rfl) rfl rfl rfl h6) rfl<|rn tk 3 rfl ?_;refine jaa 1002 rfl (hC ?_);refine qwa (d:=2) (F:=cU) (l:=v5) rfl rfl (hC ?_);refine rn tk 1 rfl ?_;refine ie tk [.l cU v5] [(6,.ptr 6 0),(14,.l zca.pc v1)] [(1002,.row 5 false 1 (List.map cU v5)),(6,.cells [.pv (.sl (some true) []),.pv (.sl (some true) [])]),(3,.cells [.l zca.pc a0.Fields,.l cU a0.Body])] (.inr rfl) rfl rfl rfl rfl ?_;cases hr;exact jump1 _ _ rfl rfl
 exact kx 5 hr
theorem Yma(a0:zda)(a1:Str)(a2:Str)(a3:Int)(r:zda × zoa)(hr:yNa a0 a1 a2 a3=some r):Run prog 26 [.agg [.l zca.pc a0.Fields,.l cU a0.Body],.s a1,.s a2,.i a3] (.tup [.agg [.l zca.pc r.1.Fields,.l cU r.1.Body],.agg [.i r.2.Code,.i r.2.Index]]):=by
 unfold yNa at hr;refine rfx (fn:=f26) func26 fun g0 hg=>?_
 refine clx 11 hr (zVa _) fun v1 _ hr=>?_
 refine clx 7 hr (zha _) fun v3 _ hr=>?_
 refine ax 2 20 hr (fun hr=>?_) fun hr=>?_
 .refine rn tk 1 rfl<|drX 2 3 3 3 [1] [(22,.agg [.i v1.Code,.i v1.Index]),(21,.agg [.pv (.sl (some true) []),.pv (.sl (some true) [])])] [(8,.ptr 8 0),(9,.ptr 9 0),(22,.agg [.i v1.Code,.i v1.Index])] [(10,.cells [.i v1.Code,.i v1.Index]),(9,.cells [.i 0,.i 0]),(8,.cells [.pv (.sl (some true) []),.pv (.sl (some true) [])]),(4,.cells [.l zca.pc a0.Fields,.l cU a0.Body])] tk mixed (by kernel_rfl) rfl rfl rfl (pqX tk rfl (.plain rfl) (pqX tk rfl (.plain rfl) .nil)) rfl rfl rfl rfl (by kernel_rfl) ?_;exact kx 5 hr
 refine clx 7 hr (KPa _) fun v6 _ hr=>?_
 refine ax 4 23 hr (fun hr=>?_) fun hr=>?_
 .refine clx 3 hr (zga _ _) fun v9 _ hr=>?_
  exact kx 7 hr
 refine clx 3 hr (KPa _) fun v11 _ hr=>?_
 refine ax 4 29 hr (fun hr=>?_) fun hr=>?_
 .refine clx 3 hr (zga _ _) fun v14 _ hr=>?_
  exact kx 7 hr
 refine rn tk 4 rfl<|wn tk rfl rfl rfl ?_;refine ax 4 35 hr (fun hr=>?_) fun hr=>?_
 .refine clx 3 hr (zga _ _) fun v17 _ hr=>?_
  exact kx 7 hr
 refine clx 6 hr (Z2a _ _) fun v19 _ hr=>?_
 refine clx 13 hr (zha _) fun v21 _ hr=>?_
 refine ax 2 48 hr (fun hr=>?_) fun hr=>?_
 .refine clx 5 hr (zga _ _) fun v24 _ hr=>?_
  exact kx 6 hr
 refine clx 5 hr (Z3a _) fun v26 _ hr=>?_
 refine rn tk 12 rfl ?_;obtain ⟨v28,h29,hr⟩:=zaa hr;refine wc h29 rfl rfl rfl ?_;obtain ⟨v30,h31,hr⟩:=zaa hr;refine wc h31 rfl rfl rfl<|rn tk 1 rfl ?_;obtain ⟨v32,h33,hr⟩:=zaa hr;refine wc h33 rfl rfl rfl ?_;obtain ⟨v34,h35,hr⟩:=zaa hr;refine wc h35 rfl rfl rfl<|rn tk 1 rfl ?_;obtain ⟨v36,h37,hr⟩:=zaa hr;refine wc h37 rfl rfl rfl ?_;refine clx 0 hr (Yla _ _ _) fun v38 _ hr=>?_
 refine clx 8 hr (zVa _) fun v40 _ hr=>?_
 refine clx 7 hr (zha _) fun v42 _ hr=>?_
 refine ax 2 71 hr (fun hr=>?_) fun hr=>?_
 .refine clx 5 hr (zga _ _) fun v45 _ hr=>?_
  exact kx 6 hr
 refine rn tk 3 rfl ?_;obtain ⟨v47,h48,hr⟩:=zaa hr;refine dr 2 [(77,.agg [.i v47.Code,.i v47.Index]),(76,.agg [.l zca.pc v38.Fields,.l cU v38.Body])] mixed (by kernel_rfl) rfl rfl (pq tk rfl (.plain rfl) (.run (.plain rfl) (zWa (zla v47 h48) rfl) .nil)) rfl ?_;exact kx 5 hr
theorem j9a(a0:Str)(a1:List zda)(a2:Int)(a3:Str)(r:Bool)(hr:kDa a0 a1 a2 a3=some r):Run prog 6 [.s a0,.l zda.pc a1,.i a2,.s a3] (.bo r):=by
 unfold kDa at hr;refine rfx (fn:=f6) func6 fun g0 hg=>?_
 refine clx 10 hr (Z9a _ _ _) fun v1 _ hr=>?_
 refine jq 10 hr [1,2,3,9] [9] (fun j3=>[(30,.bo j3)]) (fun _=>[]) (fun j3 hr=>?_) (fun j3 hr=>?_)
 .refine clx 1 hr KOa fun v4 _ hr=>?_
  refine bx 2 26 hr (fun c6 hr=>?_) fun c6 hr=>?_
  .exact jx 5 hr
  exact jx 5 hr
 refine ax 0 30 hr (fun hr=>?_) fun hr=>?_
 .refine jq 0 hr [] [] (fun j8=>[(8,.bo j8)]) (fun _=>[]) (fun j8 hr=>?_) (fun j8 hr=>?_)
  .refine clx 1 hr KOa fun v9 _ hr=>?_
   refine bx 1 32 hr (fun c11 hr=>?_) fun c11 hr=>?_
   .refine rn tk 2 rfl<|ug rfl rfl rfl<|wn tk rfl rfl rfl ?_;exact jx 4 hr
   exact jx 7 hr
  exact kx 2 hr
 refine clx 7 hr (Yma _ _ _ _) fun v12 _ hr=>?_
 refine jq 9 hr [1,9] [] (fun _=>[]) (fun j14=>[(9,.cells [.l zca.pc j14.1,.l cU j14.2])]) (fun j14 hr=>?_) (fun j14 hr=>?_)
 .refine ax 7 47 hr (fun hr=>?_) fun hr=>?_
  .exact jx 4 hr
  exact jx 1 hr
 refine clx 3 hr (yYa _) fun v16 _ hr=>?_
 refine jq 11 hr [1,13] [] (fun j18=>[(68,.bo j18)]) (fun _=>[]) (fun j18 hr=>?_) (fun j18 hr=>?_)
 .refine bx 5 58 hr (fun c19 hr=>?_) fun c19 hr=>?_
  .exact jx 11 hr
  refine bx 4 62 hr (fun c20 hr=>?_) fun c20 hr=>?_
  .exact jx 7 hr
  refine rn tk 1 rfl<|ug rfl rfl rfl<|wn tk rfl rfl rfl<|rn tk 1 rfl<|ug rfl rfl rfl<|wn tk rfl rfl rfl ?_;exact jx 3 hr
 refine ax 0 68 hr (fun hr=>?_) fun hr=>?_
 .exact kx 7 hr
 refine aq2 9 hr [1,13] [] (fun s22=>[(16,.i s22)]) (fun _=>[]) (.exit 0) [] [] (fun _=>[]) (fun _=>[]) .ret [] [] (fun b24=>[(8,.bo b24)]) (fun _=>[]) (fun s22 x26 hr=>?_) (fun b23 hr=>?_) (fun b24 hr=>?_)
 .unfold kza at hr;refine rn tk 5 rfl<|wn tk rfl rfl rfl ?_;refine ax 3 72 hr (fun hr=>?_) fun hr=>?_
  .refine rn tk 5 rfl ?_;obtain ⟨v28,h29,hr⟩:=zaa hr;obtain ⟨v30,h31,hr⟩:=zaa hr;refine dq 0 8 [] [(2,.ep [pL zca.pc v28.Fields,pL cU v28.Body]),(6,.ep [pL zca.pc v30.Fields,pL cU v30.Body])] .nil (.cons rfl rfl (qxa (Qna (f:=zda.pc) rfl rfl qZa wXa rfl h29)) (.cons rfl rfl (qxa (Qna (f:=zda.pc) rfl rfl qZa wXa rfl h31)) .nil)) ?_ mixed;refine clx 0 hr (VJa _ _) fun v32 _ hr=>?_
   refine ax 3 84 hr (fun hr=>?_) fun hr=>?_
   .exact ox 8 hr
   exact cx 8 hr
  exact ox 2 hr
 .exact kx 8 hr
 exact kx 2 hr
end Go.Proofs.YtpphhgbmooofgaaGreatDoor
namespace Go.Proofs.YtpphhgbmooofgaaGreatDoor.digestRoundTrips
open Go.ChangeShapes Go.WideShapes Go.ChangeAt Go.RowKit Go.Proofs.Tryz
theorem contract(H:Type)(enc:TypeId × Value->H)(W:World)(base:Nat)(args:Array Value)(ds gs:List (DataW H))(before:List MemPlace)
 (hval:∀(j:Nat) t v,f6.params[j]? =some t->args[j]? =some v->Value.okWide prog W .any base t v)
 (hW:DataW.Whole enc prog f6.params.toList Rows.digestRoundTripsSpec.vars false W args.toList ds gs before) (hk:Rows.uptoSmall H (ds++gs)=true) (hgl:Gl (gAll W)):
 Calls prog 6 args W fun e W' =>∃v,e=.returned v/\Rows.digestRoundTripsSpec.post enc prog f6 false true false false W args v W' :=by
 have hW' :=hW;obtain ⟨p,q,hA0,hV,rfl,hfz,hnd⟩:=hW;have hA:DataW.TrodAll enc prog W 0 (fun _=>true) true f6.params.toList args.toList ds p:=hA0;rw[Tryz.params6]at hA hval;obtain ⟨v0,vs0,d0,ds0,p0,q0,hargs,rfl,rfl,h0,r0⟩:=trodAll_cons hA;obtain ⟨v1,vs1,d1,ds1,p1,q1,rfl,rfl,rfl,h1,r1⟩:=trodAll_cons r0;obtain ⟨v2,vs2,d2,ds2,p2,q2,rfl,rfl,rfl,h2,r2⟩:=trodAll_cons r1;obtain ⟨v3,vs3,d3,ds3,p3,q3,rfl,rfl,rfl,h3,r3⟩:=trodAll_cons r2;obtain ⟨rfl,rfl,rfl⟩:=trodAll_nil r3;obtain rfl:args= #[v0,v1,v2,v3]:=by cases args;simp_all
 obtain ⟨rfl,rfl⟩:=trodVars_none hV;obtain ⟨a0,e0,o0,k0⟩:=JMa jDa (by obtain ⟨_,h⟩:=okWide_string zJa.u (hval 0 _ v0 rfl rfl);rw[h];rfl) h0;obtain ⟨a1,e1,o1,k1⟩:=JMa V4a (by obtain ⟨_,_,_,h⟩:=okWide_slice qZa.u (hval 1 _ v1 rfl rfl);rw[h];rfl) h1;obtain ⟨a2,e2,o2,k2⟩:=JMa op_int (by obtain ⟨_,h⟩:=okWide_int jCa.u (hval 2 _ v2 rfl rfl);rw[h];rfl) h2;obtain ⟨a3,e3,o3,k3⟩:=JMa jDa (by obtain ⟨_,h⟩:=okWide_string zJa.u (hval 3 _ v3 rfl rfl);rw[h];rfl) h3;have hk2:=of_decide_eq_true hk;simp only[List.append_nil,Rows.uptoBulkAll]at hk2;have ht:=jRa a0 a1 a2 a3 o0 o1 o2 o3 (by (try dsimp only);omega);have key:Calls prog 6 #[v0,v1,v2,v3] W fun e W' =>e=.returned (.bool true)/\Below W.heap.size W W' :=zQb (j9a a0 a1 a2 a3 true ht) hgl (v7b (.cons (e0 _ rfl) (.cons (e1 _ rfl) (.cons (e2 _ rfl) (.cons (e3 _ rfl) .nil)))))
 refine key.mono fun e W' ⟨he,hb⟩=>⟨_,he,?_⟩
 exact yxb laidOut (by kernel_rfl) underlying4 (by kernel_rfl) rfl rfl hW' hb
noncomputable def wit(os:Os):World:=let w0:=World.doorLaid prog 72 os
 {w0 with heap:=w0.heap.modify 2 fun
  | .cells _ t fz=>.cells (Lib.firstTab.map fun z=>Value.int .u8 z).toArray t fz
  | o=>o}
theorem reads(os:Os){H:Type}(enc:TypeId × Value->H):∃places,DataW.whole enc prog ((wit os).forCall (fun _ _=>0) ⟨#[], #[.string ⟨#[]⟩,.slice none 0 0,.int .i64 0,.string ⟨#[]⟩],[]⟩).memory f6.params.toList (Rows.OpenSpec.upto Rows.digestRoundTripsSpec).vars false (#[.string ⟨#[]⟩,.slice none 0 0,.int .i64 0,.string ⟨#[]⟩]:Array Value).toList 8=some ([.lit (.string []),.nil,.lit (.int .i64 0),.lit (.string [])],[],places):=
 ⟨[],by kernel_rfl⟩
theorem lifted(os:Os)(started:os.Started)(H:Type)(enc:TypeId × Value->H)(F:Stop.Interp):
 ReturnsInHanded {} Tryz.checked os 6 .any ((Rows.OpenSpec.upto Rows.digestRoundTripsSpec).preRow enc prog f6 Rows.digestRoundTripsUptoRow.domain false Rows.digestRoundTripsUptoRow.laid) (((Rows.OpenSpec.upto Rows.digestRoundTripsSpec).at F).post enc prog f6 false true false false):=by
 obtain ⟨places,hx⟩:=reads os enc;refine returnsInHanded_of_row (C:=Tryz.checked) (s:=Rows.OpenSpec.upto Rows.digestRoundTripsSpec) own started (by kernel_rfl) func6
  (witness_row_atRef (enc:=enc) (C:=Tryz.checked) false (wit os) #[.string ⟨#[]⟩,.slice none 0 0,.int .i64 0,.string ⟨#[]⟩] rfl (by kernel_rfl) (by kernel_rfl) (by kernel_rfl)
   (OpenSpec.preRow_of_cond 8 hx (by kernel_rfl) (fun k hk=>by cases hk;kernel_rfl) (by kernel_rfl) (laidMet_of_run' 8 (by kernel_rfl) (by kernel_rfl)))) ?_
 intro W base args ds gs before hval hW _ hk _ hL hsh _;exact contract H enc W base args ds gs before hval hW (hk _ rfl) (v8b (rest:=Rows.digestRoundTripsUptoRow.laid.drop 3) hsh (by kernel_rfl) hL (fun hm=>v9b hm.tail.tail.tail.tail.tail))
theorem j0:jf0 Tryz.pinned.checked.prog 6 f6 (Rows.OpenSpec.upto Rows.digestRoundTripsSpec).bare Rows.digestRoundTripsUptoRow=true:=by kernel_rfl
theorem j1:jf1 Tryz.pinned.checked.prog 6 f6 (Rows.OpenSpec.upto Rows.digestRoundTripsSpec).bare Rows.digestRoundTripsUptoRow=true:=by kernel_rfl
theorem j2:jf2 Tryz.pinned.checked.prog 6 f6 (Rows.OpenSpec.upto Rows.digestRoundTripsSpec).bare Rows.digestRoundTripsUptoRow=true:=by kernel_rfl
theorem j3:jf3 Tryz.pinned.checked.prog 6 f6 (Rows.OpenSpec.upto Rows.digestRoundTripsSpec).bare Rows.digestRoundTripsUptoRow=true:=by kernel_rfl
theorem j4:jf4 Tryz.pinned.checked.prog 6 f6 (Rows.OpenSpec.upto Rows.digestRoundTripsSpec).bare Rows.digestRoundTripsUptoRow=true:=by kernel_rfl
theorem j5:jf5 Tryz.pinned.checked.prog 6 f6 (Rows.OpenSpec.upto Rows.digestRoundTripsSpec).bare Rows.digestRoundTripsUptoRow=true:=by kernel_rfl
theorem j6:jf6 Tryz.pinned.checked.prog 6 f6 (Rows.OpenSpec.upto Rows.digestRoundTripsSpec).bare Rows.digestRoundTripsUptoRow=true:=by kernel_rfl
theorem j7:jf7 Tryz.pinned.checked.prog 6 f6 (Rows.OpenSpec.upto Rows.digestRoundTripsSpec).bare Rows.digestRoundTripsUptoRow=true:=by kernel_rfl
theorem j8:jf8 Tryz.pinned.checked.prog 6 f6 (Rows.OpenSpec.upto Rows.digestRoundTripsSpec).bare Rows.digestRoundTripsUptoRow=true:=by kernel_rfl
theorem j9:jf9 Tryz.pinned.checked.prog 6 f6 (Rows.OpenSpec.upto Rows.digestRoundTripsSpec).bare Rows.digestRoundTripsUptoRow=true:=by kernel_rfl
theorem j10:jf10 Tryz.pinned.checked.prog 6 f6 (Rows.OpenSpec.upto Rows.digestRoundTripsSpec).bare Rows.digestRoundTripsUptoRow=true:=by kernel_rfl
theorem j11:jf11 Tryz.pinned.checked.prog 6 f6 (Rows.OpenSpec.upto Rows.digestRoundTripsSpec).bare Rows.digestRoundTripsUptoRow=true:=by kernel_rfl
theorem j12:jf12 Tryz.pinned.checked.prog 6 f6 (Rows.OpenSpec.upto Rows.digestRoundTripsSpec).bare Rows.digestRoundTripsUptoRow=true:=by kernel_rfl
theorem j13:jf13 Tryz.pinned.checked.prog 6 f6 (Rows.OpenSpec.upto Rows.digestRoundTripsSpec).bare Rows.digestRoundTripsUptoRow=true:=by kernel_rfl
theorem j14:jf14 Tryz.pinned.checked.prog 6 f6 (Rows.OpenSpec.upto Rows.digestRoundTripsSpec).bare Rows.digestRoundTripsUptoRow=true:=by kernel_rfl
theorem j15:jf15 Tryz.pinned.checked.prog 6 f6 (Rows.OpenSpec.upto Rows.digestRoundTripsSpec).bare Rows.digestRoundTripsUptoRow=true:=by kernel_rfl
theorem j16:jf16 Tryz.pinned.checked.prog 6 f6 (Rows.OpenSpec.upto Rows.digestRoundTripsSpec).bare Rows.digestRoundTripsUptoRow=true:=by kernel_rfl
theorem j17:jf17 Tryz.pinned.checked.prog 6 f6 (Rows.OpenSpec.upto Rows.digestRoundTripsSpec).bare Rows.digestRoundTripsUptoRow=true:=by kernel_rfl
theorem j18:jf18 Tryz.pinned.checked.prog 6 f6 (Rows.OpenSpec.upto Rows.digestRoundTripsSpec).bare Rows.digestRoundTripsUptoRow=true:=by kernel_rfl
theorem j19:jf19 Tryz.pinned.checked.prog 6 f6 (Rows.OpenSpec.upto Rows.digestRoundTripsSpec).bare Rows.digestRoundTripsUptoRow=true:=by kernel_rfl
theorem j20:jf20 Tryz.pinned.checked.prog 6 f6 (Rows.OpenSpec.upto Rows.digestRoundTripsSpec).bare Rows.digestRoundTripsUptoRow=true:=by kernel_rfl
theorem j21:jf21 Tryz.pinned.checked.prog 6 f6 (Rows.OpenSpec.upto Rows.digestRoundTripsSpec).bare Rows.digestRoundTripsUptoRow=true:=by kernel_rfl
theorem j22:jf22 Tryz.pinned.checked.prog 6 f6 (Rows.OpenSpec.upto Rows.digestRoundTripsSpec).bare Rows.digestRoundTripsUptoRow=true:=by kernel_rfl
theorem j23:jf23 Tryz.pinned.checked.prog 6 f6 (Rows.OpenSpec.upto Rows.digestRoundTripsSpec).bare Rows.digestRoundTripsUptoRow=true:=by kernel_rfl
theorem j24:jf24 Tryz.pinned.checked.prog 6 f6 (Rows.OpenSpec.upto Rows.digestRoundTripsSpec).bare Rows.digestRoundTripsUptoRow=true:=by kernel_rfl
theorem j25:jf25 Tryz.pinned.checked.prog 6 f6 (Rows.OpenSpec.upto Rows.digestRoundTripsSpec).bare Rows.digestRoundTripsUptoRow=true:=by kernel_rfl
theorem j26:jf26 Tryz.pinned.checked.prog 6 f6 (Rows.OpenSpec.upto Rows.digestRoundTripsSpec).bare Rows.digestRoundTripsUptoRow=true:=by kernel_rfl
theorem j27:jf27 Tryz.pinned.checked.prog 6 f6 (Rows.OpenSpec.upto Rows.digestRoundTripsSpec).bare Rows.digestRoundTripsUptoRow=true:=by kernel_rfl
theorem j28:jf28 Tryz.pinned.checked.prog 6 f6 (Rows.OpenSpec.upto Rows.digestRoundTripsSpec).bare Rows.digestRoundTripsUptoRow=true:=by kernel_rfl
theorem j29:jf29 Tryz.pinned.checked.prog 6 f6 (Rows.OpenSpec.upto Rows.digestRoundTripsSpec).bare Rows.digestRoundTripsUptoRow=true:=by kernel_rfl
theorem j30:jf30 Tryz.pinned.checked.prog 6 f6 (Rows.OpenSpec.upto Rows.digestRoundTripsSpec).bare Rows.digestRoundTripsUptoRow=true:=by kernel_rfl
theorem j31:jf31 Tryz.pinned.checked.prog 6 f6 (Rows.OpenSpec.upto Rows.digestRoundTripsSpec).bare Rows.digestRoundTripsUptoRow=true:=by kernel_rfl
theorem said:Rows.digestRoundTripsUptoRow.holds Tryz.pinned (Rows.OpenSpec.upto Rows.digestRoundTripsSpec):=
 OpenClaim.holds_of_cond 6 f6 rfl rfl rfl rfl rfl rfl rfl ⟨rfl,rfl,rfl,rfl,rfl⟩ rfl rfl rfl rfl rfl (by kernel_rfl) func6 (yyb j0 j1 j2 j3 j4 j5 j6 j7 j8 j9 j10 j11 j12 j13 j14 j15 j16 j17 j18 j19 j20 j21 j22 j23 j24 j25 j26 j27 j28 j29 j30 j31)
  (of_decide_eq_true (by kernel_rfl)) (by unfold Func.isWrapper;first | (rw[if_pos (by decide+kernel)];kernel_rfl) | (rw[if_neg (by decide+kernel)];exact ⟨rfl,rfl⟩))
  (fun os started H enc _ F=>by rw[OpenClaim.pre_eq_preRow];exact lifted os started H enc F)
theorem plain (f : FuncId) (fn : Func) (hf : Tryz.pinned.checked.prog.funcNamed "posthouse/posthouselaw4.DigestRoundTrips" = some f) (hfn : Tryz.pinned.checked.prog.funcs[f]? = some fn) :
 true=Tryz.pinned.checked.prog.looks []/\∀(j:Nat) t,fn.params[j]? =some t->Tryz.pinned.checked.prog.wantsStandIn t=false:=by
 obtain rfl : f = 6 := Option.some.inj ((show prog.funcNamed "posthouse/posthouselaw4.DigestRoundTrips" = some 6 by kernel_rfl).symm.trans hf) |>.symm
 obtain rfl:fn=f6:=(Option.some.inj (func6.symm.trans hfn)).symm;refine ⟨by kernel_rfl,fun j t ht=>?_⟩;rw[Tryz.params6]at ht;have hm:=Array.mem_of_getElem? ht;simp only[List.mem_toArray,jBo,jDb,or_false]at hm;rcases hm with rfl | rfl | rfl | rfl
 .exact (show prog.wantsStandIn 9=false by kernel_rfl)
 .exact (show prog.wantsStandIn 22=false by kernel_rfl)
 .exact (show prog.wantsStandIn 3=false by kernel_rfl)
 exact (show prog.wantsStandIn 9=false by kernel_rfl)
theorem proved:Rows.DigestRoundTripsUptoCardSaid:=
 Claim7.holds_tied_plain_at .later [] _ _ _ _ said (fun _ h=>by cases h) (by kernel_rfl) (fun _ h=>by cases h) digestRoundTripsUpto_row_tie rfl ⟨rfl,rfl⟩ (by kernel_rfl) rfl plain (by kernel_rfl)
#print axioms proved
end Go.Proofs.YtpphhgbmooofgaaGreatDoor.digestRoundTrips
