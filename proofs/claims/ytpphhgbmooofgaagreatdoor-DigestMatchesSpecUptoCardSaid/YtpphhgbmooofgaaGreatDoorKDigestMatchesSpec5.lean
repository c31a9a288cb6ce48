/- Part 5 of the proof of the law DigestMatchesSpec: what it needs. -/
import Derived.Test.YtpphhgbmooofgaaGreatDoorKDigestMatchesSpec4
import Derived.Shelf.Strings.SlTrimAscii
import Derived.Test.YtpphhgbmooofgaaGreatDoorProg
import Derived.Tactics
import Derived.Tactics2
import Derived.Defers
import Derived.Laws.Pointers
import Derived.Laws.LoneSync
import Derived.RegionTactic
import Derived.RegionCalls
import Derived.ChangeAlike
import Derived.WalkKit
import Derived.Lib.Walk
import Derived.Lib.Strings
import Derived.Lib.IndexBytes
import Derived.Lib.AsciiSet
import Derived.Laws.Strings3
import Derived.Laws.ResultCell
import Derived.Deep.LoopGhost
import Derived.Deep.WholeRow
import Derived.Shelf.RegionOpenPlain
import Derived.Laws.NewBlocks
import Derived.Laws.Cover3
import Derived.Laws.IdiomStrings
import Derived.Laws.BytesArg
import Derived.Lib.TrimByte
set_option linter.unusedVariables false
set_option linter.unusedSimpArgs false
set_option maxRecDepth 100000
set_option maxHeartbeats 40000000
namespace Go.Proofs.YtpphhgbmooofgaaGreatDoor
open Go.RowKit Go.Proofs.Tryz
theorem Ywa(a0:Int)(r:Bool)(hr:jia a0=some r):Run prog 60 [.i a0] (.bo r):=by
 unfold jia at hr;refine YCa (fn:=f60) ⟨func60,rfl,by kernel_rfl⟩ rfl (fun _=>rfl) fun g0 hg=>?_
 refine kmb ?_;refine Q8a ?_;refine z6a rfl (qaa (d:=2) rfl rfl Qka) ?_;refine Wla<|J2a ?_;obtain ⟨j1,hx,hy⟩:=zaa hr;refine Jha (fun j1=>[(2,.bo j1)]) (fun j1=>[]) (fun z=>j1=z) ?_ ?_
 .have hr:=hx;clear hx hy;refine Q8a ?_;refine z6a rfl (qaa (d:=3) rfl rfl Q9a) ?_;refine z6a rfl (qaa (d:=4) rfl rfl (ev_geq rfl rfl)) ?_;refine z6a rfl (qaa (d:=5) rfl rfl Q9a)<|vDa (decide ((-68719476736)<=a0)) (fun c2=>?_) (fun c2=>?_)
  .replace hr:=VJa c2 hr
   refine Jea (d:=5) rfl rfl rfl c2 (qaa (d:=6) rfl rfl Q9a) ?_;refine Jea (d:=5) rfl rfl rfl c2 (qaa (d:=7) rfl rfl (ev_leq rfl rfl)) ?_;refine z6a rfl (qaa (d:=8) rfl rfl (Zfa rfl c2)) ?_;refine z6a rfl (qaa (d:=2) rfl rfl Qka) ?_;refine Wla ?_;cases hr;exact VLa _ rfl (Qja rfl Qia) zBa
  replace hr:=VKa c2 hr
  refine Jfa (d:=5) rfl rfl rfl c2 ?_;refine Jfa (d:=5) rfl rfl rfl c2 ?_;refine z6a rfl (qaa (d:=8) rfl rfl (Qla rfl c2)) ?_;refine z6a rfl (qaa (d:=2) rfl rfl Qka) ?_;refine Wla ?_;cases hr;exact VLa _ rfl (Qja rfl Qia) zBa
 rintro _ rfl;have hr:=hy;clear hx hy;refine vYb ?_;cases hr;exact kret' rfl (.cons (v5b rfl) .nil) rfl
theorem j5a(a0:Int)(r:Int)(hr:vGa a0=some r):Run prog 97 [.i a0] (.i r):=by
 unfold vGa at hr;refine rfx (fn:=f97) func97 fun g0 hg=>?_
 refine rn tk 17 rfl<|wq (kGa rfl rfl rfl) rfl rfl rfl<|rn tk 2 rfl<|wq (kGa rfl rfl rfl) rfl rfl rfl<|rn tk 2 rfl<|wq (kGa rfl rfl rfl) rfl rfl rfl ?_;exact kx 5 hr
theorem Yxa(a0:Int)(r:Bool)(hr:jla a0=some r):Run prog 131 [.i a0] (.bo r):=by
 unfold jla at hr;refine rfx (fn:=f131) func131 fun g0 hg=>?_
 refine rn tk 5 rfl<|jb hr (fun j1=>[(2,.bo j1)]) (fun j1=>[]) (fun j1 hr=>?_) (fun j1 hr=>?_)
 .refine rn tk 2 rfl<|wq (koa rfl rfl rfl) rfl rfl rfl ?_;refine bx 2 6 hr (fun c2 hr=>?_) fun c2 hr=>?_
  .refine rn tk 1 rfl<|ug rfl rfl rfl<|wq (koa rfl rfl rfl) rfl rfl rfl ?_;refine bx 2 10 hr (fun c3 hr=>?_) fun c3 hr=>?_
   .exact jx 7 hr
   refine rn tk 1 rfl<|ug rfl rfl rfl<|wq (koa rfl rfl rfl) rfl rfl rfl ?_;exact jx 5 hr
  exact jx 11 hr
 exact kx 1 hr
theorem j6a(a0:Int)(a1:Int)(r:Int)(hr:vHa a0 a1=some r):Run prog 98 [.i a0,.i a1] (.i r):=by
 unfold vHa at hr;refine rfx (fn:=f98) func98 fun g0 hg=>?_
 refine rn tk 7 rfl<|wq (WKa (cs:=[.i 31,.i 28,.i 31,.i 30,.i 31,.i 30,.i 31,.i 31,.i 30,.i 31,.i 30,.i 31]) Vma w4a (.inr ⟨rfl,rfl⟩) (by kernel_rfl)) rfl rfl rfl<|rn tk 2 rfl ?_;obtain ⟨v1,h2,hr⟩:=zaa hr;refine wq (kLb (f:=cI) (L:=([31,28,31,30,31,30,31,31,30,31,30,31]:List Int)) rfl rfl Vma w4a rfl rfl (fun _=>rfl) h2 rfl) rfl rfl rfl<|rn tk 3 rfl<|jb hr (fun j3=>[(5,.i j3)]) (fun j3=>[]) (fun j3 hr=>?_) (fun j3 hr=>?_)
 .refine jb hr (fun j4=>[(5,.i v1),(15,.bo j4)]) (fun j4=>[]) (fun j4 hr=>?_) (fun j4 hr=>?_)
  .refine bx 4 12 hr (fun c5 hr=>?_) fun c5 hr=>?_
   .refine rn tk 1 rfl ?_;obtain ⟨v6,h7,hr⟩:=zaa hr;refine ug rfl rfl rfl<|cl (Yxa _ _ h7) rfl rfl ?_;exact jx 2 hr
   exact jx 4 hr
  refine ax 0 15 hr (fun hr=>?_) fun hr=>?_
  .exact jx 5 hr
  exact jx 1 hr
 exact kx 7 hr
theorem q9a(a0:Int)(a1:Int)(a2:Int)(r:Int)(hr:qYa a0 a1 a2=some r):Run prog 63 [.i a0,.i a1,.i a2] (.i r):=by
 unfold qYa at hr;refine rfx (fn:=f63) func63 fun g0 hg=>?_
 refine clx 8 hr (j5a _) fun v1 _ hr=>?_
 refine clx 0 hr (j5a _) fun v3 _ hr=>?_
 refine rn tk 14 rfl<|al1 hr (fun s5=>[(0,.i a0),(1,.i a1),(7,.i s5.1),(8,.i s5.2)]) (fun s5=>[]) (.exit 0) (fun b6=>[(7,.i b6)]) (fun b6=>[]) rfl rfl (fun s5 x7 hr=>?_) (fun b6 hr=>?_)
 .unfold vIa at hr;refine ax 8 18 hr (fun hr=>?_) fun hr=>?_
  .refine clx 8 hr (j6a _ _) fun v9 _ hr=>?_
   exact cx 10 hr
  exact ox 2 hr
 exact kx 9 hr
theorem ZIa(a0:Int)(a1:Int)(r:Int × Int)(hr:wla a0 a1=some r):Run prog 62 [.i a0,.i a1] (.tup [.i r.1,.i r.2]):=by
 unfold wla at hr;refine rfx (fn:=f62) func62 fun g0 hg=>?_
 refine rn tk 10 rfl ?_;obtain ⟨v1,h2,hr⟩:=zaa hr;refine wq (koa rfl rfl (kDb h2)) rfl rfl rfl<|rn tk 3 rfl ?_;obtain ⟨v3,h4,hr⟩:=zaa hr;refine wq (koa rfl rfl (kDb h4)) rfl rfl rfl<|rn tk 9 rfl ?_;obtain ⟨v5,h6,hr⟩:=zaa hr;refine wq (kGa rfl rfl (kDb h6)) rfl rfl rfl ?_;exact kx 6 hr
theorem zHa(a0:Int)(a1:Int)(a2:Int)(r:Bool)(hr:kna a0 a1 a2=some r):Run prog 61 [.i a0,.i a1,.i a2] (.bo r):=by
 unfold kna at hr;refine rfx (fn:=f61) func61 fun g0 hg=>?_
 refine rn tk 5 rfl<|jb hr (fun j1=>[(6,.bo j1)]) (fun j1=>[]) (fun j1 hr=>?_) (fun j1 hr=>?_)
 .refine bx 5 10 hr (fun c2 hr=>?_) fun c2 hr=>?_
  .exact jx 6 hr
  exact jx 6 hr
 exact kx 1 hr
theorem W8a(a0:Int)(a1:Int)(r:jga × zma)(hr:kCa a0 a1=some r):Run prog 31 [.i a0,.i a1] (.tup [.agg (zN0 r.1),.agg [.i r.2.Code,.i r.2.Index]]):=by
 unfold kCa at hr;refine rfx (fn:=f31) func31 fun g0 hg=>?_
 refine clx 10 hr (Ywa _) fun v1 _ hr=>?_
 refine ax 3 13 hr (fun hr=>?_) fun hr=>?_
 .refine clx 3 hr (zga _ _) fun v4 _ hr=>?_
  exact kx 6 hr
 refine clx 6 hr (zHa _ _ _) fun v6 _ hr=>?_
 refine ax 3 18 hr (fun hr=>?_) fun hr=>?_
 .refine clx 3 hr (zga _ _) fun v9 _ hr=>?_
  exact kx 6 hr
 refine clx 8 hr (ZIa _ _) fun v11 _ hr=>?_
 refine rn tk 8 rfl<|jb hr (fun j13=>[(1,.i a1),(4,.ptr 4 0),(5,.ptr 5 0),(6,.i v11.1),(7,.i v11.2),(36,.bo j13)]) (fun j13=>[(5,.cells [.i 0,.i 0]),(4,.cells [.i 0,.i 0,.i 0,.i 0,.i 0,.i 0,.i 0])]) (fun j13 hr=>?_) (fun j13 hr=>?_)
 .refine clx 2 hr (q9a _ _ _) fun v14 _ hr=>?_
  refine bx 2 32 hr (fun c16 hr=>?_) fun c16 hr=>?_
  .exact jx 5 hr
  refine rn tk 1 rfl ?_;obtain ⟨v17,h18,hr⟩:=zaa hr;refine ug rfl rfl rfl<|cl (q9a _ _ _ _ h18) rfl rfl ?_;exact jx 3 hr
 refine ax 0 36 hr (fun hr=>?_) fun hr=>?_
 .refine clx 3 hr (zga _ _) fun v20 _ hr=>?_
  exact kx 6 hr
 refine rn tk 14 rfl<|al1 hr (fun s22=>[(1,.i a1),(4,.ptr 4 0),(5,.ptr 5 0),(6,.i v11.1),(7,.i v11.2),(8,.i s22.1),(9,.i s22.2)]) (fun s22=>[(5,.cells [.i 0,.i 0]),(4,.cells [.i 0,.i 0,.i 0,.i 0,.i 0,.i 0,.i 0])]) (.exit 0) (fun b23=>[(1,.i a1),(4,.ptr 4 0),(5,.ptr 5 0),(6,.i v11.1),(7,.i v11.2),(8,.i b23)]) (fun b23=>[(5,.cells [.i 0,.i 0]),(4,.cells [.i 0,.i 0,.i 0,.i 0,.i 0,.i 0,.i 0])]) rfl rfl (fun s22 x24 hr=>?_) (fun b23 hr=>?_)
 .unfold qHa at hr;refine ax 7 40 hr (fun hr=>?_) fun hr=>?_
  .refine rn tk 2 rfl<|jb hr (fun j26=>[(1,.i a1),(4,.ptr 4 0),(5,.ptr 5 0),(6,.i v11.1),(7,.i v11.2),(8,.i j26),(9,.i s22.2)]) (fun j26=>[(5,.cells [.i 0,.i 0]),(4,.cells [.i 0,.i 0,.i 0,.i 0,.i 0,.i 0,.i 0])]) (fun j26 hr=>?_) (fun j26 hr=>?_)
   .refine rn tk 1 rfl<|jb hr (fun j27=>[(1,.i a1),(4,.ptr 4 0),(5,.ptr 5 0),(6,.i v11.1),(7,.i v11.2),(8,.i s22.1),(9,.i s22.2),(54,.bo j27)]) (fun j27=>[(5,.cells [.i 0,.i 0]),(4,.cells [.i 0,.i 0,.i 0,.i 0,.i 0,.i 0,.i 0])]) (fun j27 hr=>?_) (fun j27 hr=>?_)
    .refine bx 6 47 hr (fun c28 hr=>?_) fun c28 hr=>?_
     .refine rn tk 3 rfl ?_;obtain ⟨v29,h30,hr⟩:=zaa hr;refine ug rfl rfl rfl<|cl (q9a _ _ _ _ h30) rfl rfl ?_;exact jx 4 hr
     exact jx 8 hr
    refine ax 0 54 hr (fun hr=>?_) fun hr=>?_
    .exact jx 7 hr
    exact jx 2 hr
   refine rn tk 2 rfl<|wq (kGa rfl rfl rfl) rfl rfl rfl ?_;exact cx 2 hr
  exact ox 2 hr
 refine rn tk 9 rfl<|al1 hr (fun s32=>[(1,.i a1),(4,.ptr 4 0),(5,.ptr 5 0),(6,.i v11.1),(7,.i v11.2),(8,.i b23),(10,.i s32)]) (fun s32=>[(5,.cells [.i 0,.i 0]),(4,.cells [.i 0,.i 0,.i 0,.i 0,.i 0,.i 0,.i 0])]) (.exit 2) (fun b33=>[(1,.i a1),(4,.ptr 4 0),(5,.ptr 5 0),(6,.i v11.1),(7,.i v11.2),(8,.i b23),(10,.i b33)]) (fun b33=>[(5,.cells [.i 0,.i 0]),(4,.cells [.i 0,.i 0,.i 0,.i 0,.i 0,.i 0,.i 0])]) rfl rfl (fun s32 x34 hr=>?_) (fun b33 hr=>?_)
 .unfold qIa at hr;refine clx 5 hr (q9a _ _ _) fun v35 _ hr=>?_
  refine ax 4 62 hr (fun hr=>?_) fun hr=>?_
  .exact cx 9 hr
  exact ox 2 hr
 refine clx 9 hr (q9a _ _ _) fun v38 _ hr=>?_
 refine rn tk 3 rfl<|wq (kGa rfl rfl rfl) rfl rfl rfl<|rn tk 1 rfl<|wq (kGa rfl rfl rfl) rfl rfl rfl<|wq (koa rfl rfl rfl) rfl rfl rfl<|rn tk 1 rfl<|wq (koa rfl rfl rfl) rfl rfl rfl ?_;refine clx 2 hr zna fun v40 _ hr=>?_
 exact kx 5 hr
theorem yqb{g:G}{w' :World}(h:Below g.w.heap.size g.w w'):Old (fun _=>False) g ⟨w',g.u,g.loc⟩:=
 ⟨h.os,h.tape,h.output,⟨h.size,fun _ _=>jAt _,fun k i hk _=>by simp only[World.cell?];rw[h.block k hk],fun r hr=>(h.block r (zCa hr)).trans hr⟩,fun k hk _=>⟨h.block k hk,rfl⟩⟩
theorem str_argJ{g:G}{s:Str}{v:Value}(h:Rel g (.s s) v):v=.string (strB s):=zTa h
theorem yrb{g:G}{l:List Str}{v:Value}(h:Rel g (.l cS l) v):∃ad cap,v=.slice ad l.length cap/\l.length<=cap/\(l≠ []->∃b off,ad=some ⟨b,off,none⟩/\b < g.w.heap.size/\∀(i:Nat) s,l[i]? =some s->g.w.cell? ⟨b,off+i,none⟩=some (.string (strB s))):=by
 cases h with
 | pv h=>
  generalize hE:l.map cS=elems at h;have hEl:elems.length=l.length:=by rw[<-hE];simp
  unfold pL at h;rw[hE]at h;cases h with
  | @sl _ _ a cap size b off val hn h0 hc hz ha hu hcell h=>
   refine ⟨a,cap,by rw[hEl],by omega,fun hne=>?_⟩;have hne' :elems≠ []:=by rw[<-hE];simpa using hne
   refine ⟨b,off,ha hne',(hu hne').2,fun i s hi=>?_⟩;have hget:elems[i]? =some (cS s):=by rw[<-hE];simp[hi]
   have hs1:size=1:=by
    have:=hz _ (jAg hget);simpa[cS]using this.symm
   subst hs1;have hlt:i < elems.length:=(jAc.1 hget).1;rw[hcell i (by omega)];have:=h i 0 _ (.b (.string (strB s))) hget rfl;simp only[jCi,jBq]at this;have e:=zTa (g:=g) (.pv this);rw[e]
theorem V8a(l:List Str)(s:Str)(r:Str)(hr:qXa l s=some r):Run prog 66 [.l cS l,.s s] (.s r):=by
 unfold qXa at hr;split at hr
 case isFalse=>cases hr
 rename_i hlen;cases hr;refine ⟨⟨_,_,⟨func66,rfl,by kernel_rfl⟩⟩,fun g vs hw hg ha=>?_⟩;obtain ⟨hsz,hrel⟩:=ha;obtain ⟨vl⟩:=vs
 match vl,hsz with
 | [x,y],_=>
  have h0:Rel g (.l cS l) x:=hrel 0 _ rfl;obtain rfl:=str_argJ (hrel 1 _ rfl);obtain ⟨ad,cap,rfl,hcap,hcell⟩:=yrb h0;refine callsIn_wide.2 ?_
  suffices hs:Calls prog 66 #[.slice ad l.length cap,.string (strB s)] g.w fun e w' =>e=.returned (.string (strB (Lib.join l s)))/\Below g.w.heap.size g.w w' by
   refine hs.mono ?_;rintro e w' ⟨rfl,hb⟩;exact ⟨⟨w',g.u,g.loc⟩,_,rfl,rfl,yqb hb,fun k hk=>hw k (jBk hb.size hk),rfl,.pv (.b rfl)⟩
  cases l with
  | nil=>exact (Tryz.strings_Join_none ad cap (strB s) g.w).mono fun e w' ⟨he,hw⟩=>⟨he,hw▸Below.refl _ _⟩
  | cons a l=>
   obtain ⟨b,off,rfl,hb,hc⟩:=hcell (by simp);have e1:((a::l).map strB).map (·.data.toList)=a::l:=by
    rw[List.map_map]
    conv=>rhs;rw[<-List.map_id (a::l)]
    exact List.map_congr_left fun x _=>rfl
   have:=Tryz.strings_Join b off cap ((a::l).map strB) (strB s) g.w (fun j x hx=>by
    simp only[jAj,jAh]at hx;obtain ⟨y,hy,rfl⟩:=hx;exact hc j y hy) hb (by rw[jAw];exact hlen.1) (by rw[jAw];exact hcap) (by rw[e1];exact hlen.2)
   rw[e1,jAw]at this;exact this
theorem QWa(a0:jga)(r:zma)(hr:vma a0=some r):Run prog 99 [.agg (zN0 a0)] (.agg [.i r.Code,.i r.Index]):=by
 unfold vma at hr;refine rfx (fn:=Tryz.f99) func99 fun g0 hg=>?_
 refine rn tk 6 rfl<|jb hr (fun j1=>[(2,.ptr 2 0),(3,.bo j1)]) (fun j1=>[(2,.cells [.i 0,.i 0])]) (fun j1 hr=>?_) (fun j1 hr=>?_)
 .obtain ⟨v2,h3,hr⟩:=zaa hr;refine vDa v2 (fun c4=>?_) (fun c4=>?_)
  .replace hr:=VJa c4 hr
   obtain ⟨v5,h6,hr⟩:=zaa hr;refine vDa v5 (fun c7=>?_) (fun c7=>?_)
   .replace hr:=VJa c7 hr
    obtain ⟨v8,h9,hr⟩:=zaa hr;refine dr 18 [(21,.i v8),(20,.i ((min ((max a0.Month 1)) 12))),(19,.i ((max a0.Month 1))),(18,.i a0.Month),(17,.ptr 1 1),(16,.i a0.Year),(15,.ptr 1 0),(14,.i a0.Day),(13,.ptr 1 2),(12,.bo v5),(11,.bo v5),(10,.bo v5),(9,.i a0.Month),(8,.ptr 1 1),(7,.bo v2),(6,.bo v2),(5,.i a0.Year),(4,.ptr 1 0)] mixed (by kernel_rfl) rfl rfl (pq tk rfl (.plain rfl) (pq tk rfl (.plain rfl) (.run (.plain rfl) (zAa (zHa a0.Year 1 4000 v2 h3) rfl) (pq tk rfl (.plain rfl) (pq tk rfl (.yes (d:=7) rfl rfl rfl c4) (pq tk rfl (.yes (d:=7) rfl rfl rfl c4) (.run (.yes (d:=7) rfl rfl rfl c4) (zAa (zHa a0.Month 1 12 v5 h6) rfl) (.run (.plain rfl) (kaa (Zfa rfl c4)) (pq tk rfl (.plain rfl) (pq tk rfl (.yes (d:=12) rfl rfl rfl c7) (pq tk rfl (.yes (d:=12) rfl rfl rfl c7) (pq tk rfl (.yes (d:=12) rfl rfl rfl c7) (pq tk rfl (.yes (d:=12) rfl rfl rfl c7) (pq tk rfl (.yes (d:=12) rfl rfl rfl c7) (pq tk rfl (.yes (d:=12) rfl rfl rfl c7) (.run (.yes (d:=12) rfl rfl rfl c7) (kaa (qwb rfl rfl)) (.run (.yes (d:=12) rfl rfl rfl c7) (kaa (ev_min rfl rfl)) (.run (.yes (d:=12) rfl rfl rfl c7) (zAa (j6a a0.Year ((min ((max a0.Month 1)) 12)) v8 h9) rfl) .nil)))))))))))))))))) rfl<|kn 12 c7 rfl ?_;obtain ⟨v10,h11,hr⟩:=zaa hr;refine ug rfl rfl rfl<|cl (zHa _ _ _ _ h11) rfl rfl ?_;refine bx 2 24 hr (fun c12 hr=>?_) fun c12 hr=>?_
    .refine rn tk 2 rfl ?_;obtain ⟨v13,h14,hr⟩:=zaa hr;refine ug rfl rfl rfl<|cl (zHa _ _ _ _ h14) rfl rfl ?_;refine bx 2 29 hr (fun c15 hr=>?_) fun c15 hr=>?_
     .refine rn tk 2 rfl ?_;obtain ⟨v16,h17,hr⟩:=zaa hr;refine ug rfl rfl rfl<|cl (zHa _ _ _ _ h17) rfl rfl ?_;refine bx 2 34 hr (fun c18 hr=>?_) fun c18 hr=>?_
      .refine rn tk 2 rfl ?_;obtain ⟨v19,h20,hr⟩:=zaa hr;refine ug rfl rfl rfl<|cl (zHa _ _ _ _ h20) rfl rfl ?_;refine bx 2 39 hr (fun c21 hr=>?_) fun c21 hr=>?_
       .refine rn tk 2 rfl ?_;obtain ⟨v22,h23,hr⟩:=zaa hr;refine ug rfl rfl rfl<|cl (zHa _ _ _ _ h23) rfl rfl ?_;exact jx 3 hr
       exact jx 6 hr
      exact jx 11 hr
     exact jx 16 hr
    exact jx 21 hr
   replace hr:=VKa c7 hr
   refine dr 18 [(21,.tup []),(20,.tup []),(19,.tup []),(18,.tup []),(17,.tup []),(16,.tup []),(15,.tup []),(14,.tup []),(13,.tup []),(12,.bo v5),(11,.bo v5),(10,.bo v5),(9,.i a0.Month),(8,.ptr 1 1),(7,.bo v2),(6,.bo v2),(5,.i a0.Year),(4,.ptr 1 0)] mixed (by kernel_rfl) rfl rfl (pq tk rfl (.plain rfl) (pq tk rfl (.plain rfl) (.run (.plain rfl) (zAa (zHa a0.Year 1 4000 v2 h3) rfl) (pq tk rfl (.plain rfl) (pq tk rfl (.yes (d:=7) rfl rfl rfl c4) (pq tk rfl (.yes (d:=7) rfl rfl rfl c4) (.run (.yes (d:=7) rfl rfl rfl c4) (zAa (zHa a0.Month 1 12 v5 h6) rfl) (.run (.plain rfl) (kaa (Zfa rfl c4)) (pq tk rfl (.plain rfl) (.skip (.no (d:=12) rfl rfl rfl c7) (.skip (.no (d:=12) rfl rfl rfl c7) (.skip (.no (d:=12) rfl rfl rfl c7) (.skip (.no (d:=12) rfl rfl rfl c7) (.skip (.no (d:=12) rfl rfl rfl c7) (.skip (.no (d:=12) rfl rfl rfl c7) (.skip (.no (d:=12) rfl rfl rfl c7) (.skip (.no (d:=12) rfl rfl rfl c7) (.skip (.no (d:=12) rfl rfl rfl c7) .nil)))))))))))))))))) rfl<|kn 12 c7 rfl ?_;exact jx 24 hr
  replace hr:=VKa c4 hr
  refine dr 18 [(21,.tup []),(20,.tup []),(19,.tup []),(18,.tup []),(17,.tup []),(16,.tup []),(15,.tup []),(14,.tup []),(13,.tup []),(12,.bo false),(11,.bo false),(10,.tup []),(9,.tup []),(8,.tup []),(7,.bo v2),(6,.bo v2),(5,.i a0.Year),(4,.ptr 1 0)] mixed (by kernel_rfl) rfl rfl (pq tk rfl (.plain rfl) (pq tk rfl (.plain rfl) (.run (.plain rfl) (zAa (zHa a0.Year 1 4000 v2 h3) rfl) (pq tk rfl (.plain rfl) (.skip (.no (d:=7) rfl rfl rfl c4) (.skip (.no (d:=7) rfl rfl rfl c4) (.skip (.no (d:=7) rfl rfl rfl c4) (.run (.plain rfl) (kaa (Qla rfl c4)) (pq tk rfl (.plain rfl) (.skip (.no (d:=12) rfl rfl rfl rfl) (.skip (.no (d:=12) rfl rfl rfl rfl) (.skip (.no (d:=12) rfl rfl rfl rfl) (.skip (.no (d:=12) rfl rfl rfl rfl) (.skip (.no (d:=12) rfl rfl rfl rfl) (.skip (.no (d:=12) rfl rfl rfl rfl) (.skip (.no (d:=12) rfl rfl rfl rfl) (.skip (.no (d:=12) rfl rfl rfl rfl) (.skip (.no (d:=12) rfl rfl rfl rfl) .nil)))))))))))))))))) rfl ?_;exact jx 24 hr
 refine ax 7 45 hr (fun hr=>?_) fun hr=>?_
 .refine clx 2 hr (zga _ _) fun v25 _ hr=>?_
  exact kx 5 hr
 refine clx 4 hr zna fun v27 _ hr=>?_
 exact kx 4 hr
theorem Vza(a0:jga)(r:Int × zma)(hr:vXa a0=some r):Run prog 64 [.agg (zN0 a0)] (.tup [.i r.1,.agg [.i r.2.Code,.i r.2.Index]]):=by
 unfold vXa at hr;refine rfx (fn:=f64) func64 fun g0 hg=>?_
 refine clx 11 hr (QWa _) fun v1 _ hr=>?_
 refine clx 7 hr (zha _) fun v3 _ hr=>?_
 refine ax 2 10 hr (fun hr=>?_) fun hr=>?_
 .refine rn tk 1 rfl<|dr 2 [(2,.i 0),(11,.agg [.i v1.Code,.i v1.Index])] mixed (by kernel_rfl) rfl rfl (pq tk rfl (.plain rfl) (pq tk rfl (.plain rfl) .nil)) rfl ?_;exact kx 5 hr
 refine clx 10 hr (q9a _ _ _) fun v6 _ hr=>?_
 refine clx 1 hr (ZIa _ _) fun v8 _ hr=>?_
 refine clx 10 hr zna fun v10 _ hr=>?_
 exact kx 5 hr
theorem V9a(r:Str × Str × Str × Str × Str × Str × Str × Str × Str × Str × Str × Str)(hr:wNa=some r):Run prog 68 [] (.agg [.s r.1,.s r.2.1,.s r.2.2.1,.s r.2.2.2.1,.s r.2.2.2.2.1,.s r.2.2.2.2.2.1,.s r.2.2.2.2.2.2.1,.s r.2.2.2.2.2.2.2.1,.s r.2.2.2.2.2.2.2.2.1,.s r.2.2.2.2.2.2.2.2.2.1,.s r.2.2.2.2.2.2.2.2.2.2.1,.s r.2.2.2.2.2.2.2.2.2.2.2]):=by
 unfold wNa at hr;refine rfx (fn:=f68) func68 fun g0 hg=>?_
 refine rn tk 7 rfl<|wq (WKa (cs:=[.s (([74,97,110]:Str)),.s (([70,101,98]:Str)),.s (([77,97,114]:Str)),.s (([65,112,114]:Str)),.s (([77,97,121]:Str)),.s (([74,117,110]:Str)),.s (([74,117,108]:Str)),.s (([65,117,103]:Str)),.s (([83,101,112]:Str)),.s (([79,99,116]:Str)),.s (([78,111,118]:Str)),.s (([68,101,99]:Str))]) jJa zya (.inr ⟨rfl,rfl⟩) (by kernel_rfl)) rfl rfl rfl ?_;exact kx 4 hr
theorem vMb{g:G}{w' :World}(h:Below g.w.heap.size g.w w'):Old (fun _=>False) g ⟨w',g.u,g.loc⟩:=
 ⟨h.os,h.tape,h.output,⟨h.size,fun _ _=>jAt _,fun k i hk _=>by simp only[World.cell?];rw[h.block k hk],fun r hr=>(h.block r (zCa hr)).trans hr⟩,fun k hk _=>⟨h.block k hk,rfl⟩⟩
theorem str_argP{g:G}{s:Str}{v:Value}(h:Rel g (.s s) v):v=.string (strB s):=zTa h
theorem QXa(s:Str)(n:Int)(r:Str)(hr:k2a s n=some r):Run prog 100 [.s s,.i n] (.s r):=by
 unfold k2a at hr;split at hr
 case isFalse=>cases hr
 rename_i hlen;cases hr;refine ⟨⟨_,_,⟨func100,rfl,by kernel_rfl⟩⟩,fun g vs hw hg ha=>?_⟩;obtain ⟨hsz,hrel⟩:=ha;obtain ⟨vl⟩:=vs
 match vl,hsz with
 | [x,y],_=>
  obtain rfl:=str_argP (hrel 0 _ rfl);have e2:y=.int .i64 n:=zTa (hrel 1 _ rfl);subst e2;have e3:((n.toNat:Nat):Int)=n:=by omega
  have h:=Tryz.strings_Repeat (strB s) n.toNat g.w (by omega) (by rw[zwa];exact hlen.2.2);rw[e3]at h;refine callsIn_wide.2 (h.mono ?_);rintro e w' ⟨rfl,hb⟩;exact ⟨⟨w',g.u,g.loc⟩,_,rfl,rfl,vMb hb,fun k hk=>hw k (jBk hb.size hk),rfl,.pv (.b rfl)⟩
theorem qya(a0:Int)(a1:Int)(r:Str)(hr:kMa a0 a1=some r):Run prog 65 [.i a0,.i a1] (.s r):=by
 unfold kMa at hr;refine rfx (fn:=f65) func65 fun g0 hg=>?_
 refine clx 8 hr (qEa _) fun v1 _ hr=>?_
 refine rn tk 9 rfl<|wq (qwb rfl rfl) rfl rfl rfl ?_;refine clx 0 hr (QXa _ _) fun v3 _ hr=>?_
 refine rn tk 1 rfl ?_;obtain ⟨v5,h6,hr⟩:=zaa hr;refine wc h6 rfl rfl rfl ?_;exact kx 4 hr
theorem QYa(r:Str × Str × Str × Str × Str × Str × Str)(hr:vna=some r):Run prog 67 [] (.agg [.s r.1,.s r.2.1,.s r.2.2.1,.s r.2.2.2.1,.s r.2.2.2.2.1,.s r.2.2.2.2.2.1,.s r.2.2.2.2.2.2]):=by
 unfold vna at hr;refine rfx (fn:=f67) func67 fun g0 hg=>?_
 refine rn tk 7 rfl<|wq (WKa (cs:=[.s (([83,117,110]:Str)),.s (([77,111,110]:Str)),.s (([84,117,101]:Str)),.s (([87,101,100]:Str)),.s (([84,104,117]:Str)),.s (([70,114,105]:Str)),.s (([83,97,116]:Str))]) Zqa zya (.inr ⟨rfl,rfl⟩) (by kernel_rfl)) rfl rfl rfl ?_;exact kx 4 hr
theorem W9a(a0:jga)(r:Str × zma)(hr:vAa a0=some r):Run prog 32 [.agg (zN0 a0)] (.tup [.s r.1,.agg [.i r.2.Code,.i r.2.Index]]):=by
 unfold vAa at hr;refine rfx (fn:=f32) func32 fun g0 hg=>?_
 refine clx 10 hr (Vza _) fun v1 _ hr=>?_
 refine clx 12 hr (zha _) fun v3 _ hr=>?_
 refine ax 2 15 hr (fun hr=>?_) fun hr=>?_
 .refine rn tk 1 rfl<|dr 2 [(2,.s (([]:Str))),(16,.agg [.i v1.2.Code,.i v1.2.Index])] mixed (by kernel_rfl) rfl rfl (pq tk rfl (.plain rfl) (pq tk rfl (.plain rfl) .nil)) rfl ?_;exact kx 5 hr
 refine rn tk 3 rfl<|dr 3 [(6,.s (([43]:Str))),(18,.i a0.Zone),(17,.ptr 1 6)] mixed (by kernel_rfl) rfl rfl (pq tk rfl (.plain rfl) (pq tk rfl (.plain rfl) (pq tk rfl (.plain rfl) .nil))) rfl<|rn tk 3 rfl<|jb hr (fun j6=>[(1,.ptr 1 0),(3,.ptr 3 0),(4,.i v1.1),(6,.s j6.1),(7,.i j6.2)]) (fun j6=>[(3,.cells [.i 0,.i 0]),(1,.cells (zN0 a0))]) (fun j6 hr=>?_) (fun j6 hr=>?_)
 .refine ax 7 21 hr (fun hr=>?_) fun hr=>?_
  .refine dr 4 [(6,.s (([45]:Str))),(24,.i ((w64 (0 - a0.Zone)))),(23,.i a0.Zone),(22,.ptr 1 6)] mixed (by kernel_rfl) rfl rfl (pq tk rfl (.plain rfl) (pq tk rfl (.plain rfl) (.run (.plain rfl) (kaa (ev_ineg rfl)) (pq tk rfl (.plain rfl) .nil)))) rfl ?_;exact jx 2 hr
  exact jx 1 hr
 refine rn tk 4 rfl<|wq (kGa rfl rfl rfl) rfl rfl rfl ?_;refine clx 0 hr (qya _ _) fun v8 _ hr=>?_
 refine rn tk 1 rfl<|wq (koa rfl rfl rfl) rfl rfl rfl ?_;refine clx 0 hr (qya _ _) fun v10 _ hr=>?_
 obtain ⟨v12,h13,hr⟩:=zaa hr;refine wc h13 rfl rfl rfl ?_;obtain ⟨v14,h15,hr⟩:=zaa hr;refine wc h15 rfl rfl rfl<|rn tk 4 rfl ?_;obtain ⟨v16,h17,hr⟩:=zaa hr;obtain ⟨v18,h19,hr⟩:=zaa hr;obtain ⟨v20,h21,hr⟩:=zaa hr;obtain ⟨v22,h23,hr⟩:=zaa hr;obtain ⟨v24,h25,hr⟩:=zaa hr;obtain ⟨v26,h27,hr⟩:=zaa hr;refine dr 12 [(45,.s v26),(44,.i a0.Second),(43,.ptr 1 5),(42,.s v24),(41,.s v22),(40,.s v20),(39,.i a0.Minute),(38,.ptr 1 4),(37,.s v18),(36,.s v16),(35,.i a0.Hour),(34,.ptr 1 3)] mixed (by kernel_rfl) rfl rfl (pq tk rfl (.plain rfl) (pq tk rfl (.plain rfl) (.run (.plain rfl) (zAa (qya a0.Hour 2 v16 h17) rfl) (.run (.plain rfl) (kaa (w3a rfl rfl h19)) (pq tk rfl (.plain rfl) (pq tk rfl (.plain rfl) (.run (.plain rfl) (zAa (qya a0.Minute 2 v20 h21) rfl) (.run (.plain rfl) (kaa (w3a rfl rfl h23)) (.run (.plain rfl) (kaa (w3a rfl rfl h25)) (pq tk rfl (.plain rfl) (pq tk rfl (.plain rfl) (.run (.plain rfl) (zAa (qya a0.Second 2 v26 h27) rfl) .nil)))))))))))) rfl ?_;obtain ⟨v28,h29,hr⟩:=zaa hr;refine wc h29 rfl rfl rfl<|rn tk 4 rfl ?_;obtain ⟨v30,h31,hr⟩:=zaa hr;obtain ⟨v32,h33,hr⟩:=zaa hr;obtain ⟨v34,h35,hr⟩:=zaa hr;obtain ⟨v36,h37,hr⟩:=zaa hr;obtain ⟨v38,h39,hr⟩:=zaa hr;obtain ⟨v40,h41,hr⟩:=zaa hr;obtain ⟨v42,h43,hr⟩:=zaa hr;refine dr 17 [(63,.s v14),(62,.s v28),(61,.s v42),(60,.i a0.Year),(59,.ptr 1 0),(58,.s v40),(57,.i ((w64 (a0.Month - 1)))),(56,.i a0.Month),(55,.ptr 1 1),(54,.agg [.s v38.1,.s v38.2.1,.s v38.2.2.1,.s v38.2.2.2.1,.s v38.2.2.2.2.1,.s v38.2.2.2.2.2.1,.s v38.2.2.2.2.2.2.1,.s v38.2.2.2.2.2.2.2.1,.s v38.2.2.2.2.2.2.2.2.1,.s v38.2.2.2.2.2.2.2.2.2.1,.s v38.2.2.2.2.2.2.2.2.2.2.1,.s v38.2.2.2.2.2.2.2.2.2.2.2]),(53,.s v36),(52,.i a0.Day),(51,.ptr 1 2),(50,.s v34),(49,.s v32),(48,.i v1.1),(47,.agg [.s v30.1,.s v30.2.1,.s v30.2.2.1,.s v30.2.2.2.1,.s v30.2.2.2.2.1,.s v30.2.2.2.2.2.1,.s v30.2.2.2.2.2.2])] mixed (by kernel_rfl) rfl rfl (.run (.plain rfl) (zAa (QYa v30 h31) rfl) (pq tk rfl (.plain rfl) (.run (.plain rfl) (kaa (kLb (f:=cS) (L:=([v30.1,v30.2.1,v30.2.2.1,v30.2.2.2.1,v30.2.2.2.2.1,v30.2.2.2.2.2.1,v30.2.2.2.2.2.2]:List Str)) rfl rfl Zqa zya rfl rfl (fun _=>rfl) h33 rfl)) (.run (.plain rfl) (kaa (w3a rfl rfl h35)) (pq tk rfl (.plain rfl) (pq tk rfl (.plain rfl) (.run (.plain rfl) (zAa (qya a0.Day 2 v36 h37) rfl) (.run (.plain rfl) (zAa (V9a v38 h39) rfl) (pq tk rfl (.plain rfl) (pq tk rfl (.plain rfl) (pq tk rfl (.plain rfl) (.run (.plain rfl) (kaa (kLb (f:=cS) (L:=([v38.1,v38.2.1,v38.2.2.1,v38.2.2.2.1,v38.2.2.2.2.1,v38.2.2.2.2.2.1,v38.2.2.2.2.2.2.1,v38.2.2.2.2.2.2.2.1,v38.2.2.2.2.2.2.2.2.1,v38.2.2.2.2.2.2.2.2.2.1,v38.2.2.2.2.2.2.2.2.2.2.1,v38.2.2.2.2.2.2.2.2.2.2.2]:List Str)) rfl rfl jJa zya rfl rfl (fun _=>rfl) h41 rfl)) (pq tk rfl (.plain rfl) (pq tk rfl (.plain rfl) (.run (.plain rfl) (zAa (qya a0.Year 4 v42 h43) rfl) (pq tk rfl (.plain rfl) (pq tk rfl (.plain rfl) .nil))))))))))))))))) rfl<|wz cS ([v34,v36,v40,v42,v28,v14]:List Str) tk rfl rfl (fun _=>rfl) rfl rfl rfl ?_;refine clx 0 hr (V8a _ _) fun v44 _ hr=>?_
 refine clx 0 hr zna fun v46 _ hr=>?_
 exact kx 5 hr
theorem yEa(s t:Str)(r:Str × Str × Bool)(hr:qqa s t=some r):Run prog 93 [.s s,.s t] (.tup [.s r.1,.s r.2.1,.bo r.2.2]):=by
 unfold qqa at hr;split at hr
 case isFalse=>cases hr
 rename_i hlen;cases hr;refine ⟨⟨_,_,⟨func93,rfl,by kernel_rfl⟩⟩,fun g vs hw hg ha=>?_⟩;obtain ⟨hsz,hrel⟩:=ha;obtain ⟨l⟩:=vs
 match l,hsz with
 | [x,y],_=>
  obtain rfl:=K8a (hrel 0 _ rfl);obtain rfl:=K8a (hrel 1 _ rfl);obtain ⟨_,_,m,hm⟩:=hg.1 (1,0) (by simp[vWb]);refine callsIn_wide.2 ((Tryz.strings_Cut (strB s) (strB t) m g.w (by rw[zwa];exact hlen) hm).mono ?_);rintro e w' ⟨rfl,q,rfl⟩;refine ⟨⟨g.w.drewN q,g.u,g.loc⟩,_,rfl,rfl,z3b g q,hw,rfl,.tup rfl fun i c hi=>?_⟩
  match i,hi with
  | 0,rfl=>exact .pv (.b rfl)
  | 1,rfl=>exact .pv (.b rfl)
  | 2,rfl=>exact .pv (.b rfl)
theorem Waa(a0:UInt8)(r:Bool)(hr:wGa a0=some r):Run prog 91 [.u8 a0] (.bo r):=by
 unfold wGa at hr;refine rfx (fn:=f91) func91 fun g0 hg=>?_
 refine jq 5 hr [] [] (fun j1=>[(2,.bo j1)]) (fun _=>[]) (fun j1 hr=>?_) (fun j1 hr=>?_)
 .refine bx 4 5 hr (fun c2 hr=>?_) fun c2 hr=>?_
  .refine bx 4 9 hr (fun c3 hr=>?_) fun c3 hr=>?_
   .exact jx 17 hr
   refine bx 3 12 hr (fun c4 hr=>?_) fun c4 hr=>?_
   .refine bx 5 17 hr (fun c5 hr=>?_) fun c5 hr=>?_
    .exact jx 9 hr
    refine bx 3 20 hr (fun c6 hr=>?_) fun c6 hr=>?_
    .exact jx 6 hr
    exact jx 6 hr
   refine bx 8 20 hr (fun c7 hr=>?_) fun c7 hr=>?_
   .exact jx 6 hr
   exact jx 6 hr
  refine bx 7 12 hr (fun c8 hr=>?_) fun c8 hr=>?_
  .refine bx 5 17 hr (fun c9 hr=>?_) fun c9 hr=>?_
   .exact jx 9 hr
   refine bx 3 20 hr (fun c10 hr=>?_) fun c10 hr=>?_
   .exact jx 6 hr
   exact jx 6 hr
  refine bx 8 20 hr (fun c11 hr=>?_) fun c11 hr=>?_
  .exact jx 6 hr
  exact jx 6 hr
 exact kx 1 hr
theorem Kra(s t:Str)(r:Bool)(hr:kBa s t=some r):Run prog 130 [.s s,.s t] (.bo r):=by
 unfold kBa at hr;split at hr
 case isFalse=>cases hr
 rename_i hlen;cases hr;refine ⟨⟨_,_,⟨func130,rfl,by kernel_rfl⟩⟩,fun g vs hw hg ha=>?_⟩;obtain ⟨hsz,hrel⟩:=ha;obtain ⟨l⟩:=vs
 match l,hsz with
 | [x,y],_=>
  obtain rfl:=K8a (hrel 0 _ rfl);obtain rfl:=K8a (hrel 1 _ rfl);obtain ⟨_,_,m,hm⟩:=hg.1 (1,0) (by simp[vWb]);refine callsIn_wide.2 ((Tryz.strings_Contains (strB s) (strB t) m g.w (by rw[zwa];exact hlen) hm).mono ?_);rintro e w' ⟨rfl,rfl⟩;exact ⟨g,_,rfl,rfl,Old.refl _ g,hw,rfl,.pv (.b rfl)⟩
theorem vLa(a0:Str)(a1:Str)(r:Bool)(hr:zUa a0 a1=some r):Run prog 147 [.s a0,.s a1] (.bo r):=by
 unfold zUa at hr;refine rfx (fn:=f147) func147 fun g0 hg=>?_
 refine jq 5 hr [] [] (fun j1=>[(4,.bo j1)]) (fun _=>[]) (fun j1 hr=>?_) (fun j1 hr=>?_)
 .refine bx 7 10 hr (fun c2 hr=>?_) fun c2 hr=>?_
  .refine rn tk 3 rfl ?_;obtain ⟨v3,h4,hr⟩:=zaa hr;refine ug rfl rfl rfl<|wscH tk h4 rfl rfl rfl rfl ?_;exact jx 5 hr
  exact jx 9 hr
 exact kx 1 hr
theorem wSa(a0:Str)(a1:Str)(r:Bool)(hr:z3a a0 a1=some r):Run prog 113 [.s a0,.s a1] (.bo r):=by
 unfold z3a at hr;refine rfx (fn:=f113) func113 fun g0 hg=>?_
 refine clx 9 hr (vLa _ _) fun v1 _ hr=>?_
 exact kx 4 hr
theorem vMa(a0:Str)(a1:Str)(r:Bool)(hr:zVa a0 a1=some r):Run prog 168 [.s a0,.s a1] (.bo r):=by
 unfold zVa at hr;refine rfx (fn:=f168) func168 fun g0 hg=>?_
 refine jq 5 hr [] [] (fun j1=>[(4,.bo j1)]) (fun _=>[]) (fun j1 hr=>?_) (fun j1 hr=>?_)
 .refine bx 7 10 hr (fun c2 hr=>?_) fun c2 hr=>?_
  .refine rn tk 6 rfl ?_;obtain ⟨v3,h4,hr⟩:=zaa hr;refine ug rfl rfl rfl<|wscL tk h4 rfl rfl rfl rfl ?_;exact jx 5 hr
  exact jx 12 hr
 exact kx 1 hr
theorem wTa(a0:Str)(a1:Str)(r:Bool)(hr:z4a a0 a1=some r):Run prog 129 [.s a0,.s a1] (.bo r):=by
 unfold z4a at hr;refine rfx (fn:=Tryz.f129) func129 fun g0 hg=>?_
 refine clx 9 hr (vMa _ _) fun v1 _ hr=>?_
 exact kx 4 hr
theorem K9a(a0:Str)(r:Bool)(hr:qVa a0=some r):Run prog 96 [.s a0] (.bo r):=by
 unfold qVa at hr;refine rfx (fn:=f96) func96 fun g0 hg=>?_
 refine jq 10 hr [] [] (fun j1=>[(2,.bo j1)]) (fun _=>[]) (fun j1 hr=>?_) (fun j1 hr=>?_)
 .refine bx 4 6 hr (fun c2 hr=>?_) fun c2 hr=>?_
  .refine bx 5 11 hr (fun c3 hr=>?_) fun c3 hr=>?_
   .refine rn tk 2 rfl<|ug rfl rfl rfl ?_;refine ctq 0 hr [0,11] [] (fun j4=>[(14,.bo j4)]) (fun _=>[]) (fun j4 hr jump4=>?_) (fun j4 hr=>?_)
    .refine iq 0 400000 [0,11] (fn:=f89) ⟨func89,rfl,by kernel_rfl⟩ fun T4 ds4=>?_
     refine aq2 14 hr [0,1,7] [499999,400000,400011] (fun s5=>[(8,.i s5)]) (fun _=>[]) (.exit 0) [] [499999,400000,400011] (fun _=>[]) (fun _=>[]) .ret [4] [499999,400000,400011] (fun _=>[]) (fun _=>[]) (fun s5 x9 hr=>?_) (fun b6 hr=>?_) (fun b7 hr=>?_)
     .unfold kVa at hr;refine ax 6 9 hr (fun hr=>?_) fun hr=>?_
      .refine rn tk 15 rfl ?_;obtain ⟨v11,h12,hr⟩:=zaa hr;refine ws tk h12 rfl rfl rfl rfl ?_;refine iq 0 600000 [0,1,7,8] (fn:=f128) ⟨func128,rfl,by kernel_rfl⟩ fun T6 ds6=>?_
       refine jq 5 hr [] [699999,600000,600001,600007,600008,499999,400000,400011] (fun j13=>[(2,.bo j13)]) (fun _=>[]) (fun j13 hr=>?_) (fun j13 hr=>?_)
       .refine bx 4 5 hr (fun c14 hr=>?_) fun c14 hr=>?_
        .refine bx 4 9 hr (fun c15 hr=>?_) fun c15 hr=>?_
         .exact jx 17 hr
         refine bx 3 12 hr (fun c16 hr=>?_) fun c16 hr=>?_
         .refine bx 5 17 hr (fun c17 hr=>?_) fun c17 hr=>?_
          .exact jx 9 hr
          refine bx 4 21 hr (fun c18 hr=>?_) fun c18 hr=>?_
          .exact jx 5 hr
          exact jx 5 hr
         refine bx 9 21 hr (fun c19 hr=>?_) fun c19 hr=>?_
         .exact jx 5 hr
         exact jx 5 hr
        refine bx 7 12 hr (fun c20 hr=>?_) fun c20 hr=>?_
        .refine bx 5 17 hr (fun c21 hr=>?_) fun c21 hr=>?_
         .exact jx 9 hr
         refine bx 4 21 hr (fun c22 hr=>?_) fun c22 hr=>?_
         .exact jx 5 hr
         exact jx 5 hr
        refine bx 9 21 hr (fun c23 hr=>?_) fun c23 hr=>?_
        .exact jx 5 hr
        exact jx 5 hr
       refine ieq 1 (hO ?_);refine ax 3 16 hr (fun hr=>?_) fun hr=>?_
       .exact ox 8 hr
       exact cx 7 hr
      exact ox 2 hr
     .refine ieq 8 ?_;cases hr;exact jump4 _ _ rfl rfl
     refine ieq 2 ?_;cases hr;exact jump4 _ _ rfl rfl
    refine bx 2 16 hr (fun c25 hr=>?_) fun c25 hr=>?_
    .refine rn tk 1 rfl ?_;obtain ⟨v26,h27,hr⟩:=zaa hr;refine ug rfl rfl rfl<|cl (wSa _ _ _ h27) rfl rfl ?_;refine bx 3 21 hr (fun c28 hr=>?_) fun c28 hr=>?_
     .refine rn tk 1 rfl ?_;obtain ⟨v29,h30,hr⟩:=zaa hr;refine ug rfl rfl rfl<|cl (wTa _ _ _ h30) rfl rfl ?_;refine bx 3 26 hr (fun c31 hr=>?_) fun c31 hr=>?_
      .refine rn tk 1 rfl ?_;obtain ⟨v32,h33,hr⟩:=zaa hr;refine ug rfl rfl rfl<|cl (Kra _ _ _ h33) rfl rfl ?_;exact jx 4 hr
      exact jx 6 hr
     exact jx 11 hr
    exact jx 16 hr
   exact jx 21 hr
  exact jx 26 hr
 exact kx 1 hr
theorem QZa(a0:Str)(r:Str × Str × Bool)(hr:via a0=some r):Run prog 59 [.s a0] (.tup [.s r.1,.s r.2.1,.bo r.2.2]):=by
 unfold via at hr;refine rfx (fn:=f59) func59 fun g0 hg=>?_
 refine clx 10 hr (yEa _ _) fun v1 _ hr=>?_
 refine jq 14 hr [2,3] [] (fun j3=>[(4,.bo j3)]) (fun _=>[]) (fun j3 hr=>?_) (fun j3 hr=>?_)
 .refine bx 5 15 hr (fun c4 hr=>?_) fun c4 hr=>?_
  .refine bx 4 19 hr (fun c5 hr=>?_) fun c5 hr=>?_
   .refine bx 5 24 hr (fun c6 hr=>?_) fun c6 hr=>?_
    .refine rn tk 2 rfl<|ug rfl rfl rfl ?_;refine ctq 0 hr [3,12,13,24] [] (fun j7=>[(27,.bo j7)]) (fun _=>[]) (fun j7 hr jump4=>?_) (fun j7 hr=>?_)
     .refine iq 0 400000 [3,12,13,24] (fn:=f89) ⟨func89,rfl,by kernel_rfl⟩ fun T4 ds4=>?_
      refine aq2 14 hr [0,1,7] [499999,400003,400012,400013,400024] (fun s8=>[(8,.i s8)]) (fun _=>[]) (.exit 0) [] [499999,400003,400012,400013,400024] (fun _=>[]) (fun _=>[]) .ret [4] [499999,400003,400012,400013,400024] (fun _=>[]) (fun _=>[]) (fun s8 x12 hr=>?_) (fun b9 hr=>?_) (fun b10 hr=>?_)
      .unfold qca at hr;refine ax 6 9 hr (fun hr=>?_) fun hr=>?_
       .refine rn tk 15 rfl ?_;obtain ⟨v14,h15,hr⟩:=zaa hr;refine ws tk h15 rfl rfl rfl rfl ?_;refine iq 0 600000 [0,1,7,8] (fn:=f94) ⟨func94,rfl,by kernel_rfl⟩ fun T6 ds6=>?_
        refine jq 5 hr [] [699999,600000,600001,600007,600008,499999,400003,400012,400013,400024] (fun j16=>[(2,.bo j16)]) (fun _=>[]) (fun j16 hr=>?_) (fun j16 hr=>?_)
        .refine clx 2 hr (Waa _) fun v17 _ hr=>?_
         refine bx 1 5 hr (fun c19 hr=>?_) fun c19 hr=>?_
         .exact jx 6 hr
         refine rn tk 1 rfl ?_;obtain ⟨v20,h21,hr⟩:=zaa hr;refine ug rfl rfl rfl<|cl (zQa _ _ _ h21) rfl rfl ?_;exact jx 4 hr
        refine ieq 1 (hO ?_);refine ax 3 16 hr (fun hr=>?_) fun hr=>?_
        .exact ox 8 hr
        exact cx 7 hr
       exact ox 2 hr
      .refine ieq 8 ?_;cases hr;exact jump4 _ _ rfl rfl
      refine ieq 2 ?_;cases hr;exact jump4 _ _ rfl rfl
     refine bx 2 29 hr (fun c23 hr=>?_) fun c23 hr=>?_
     .refine rn tk 1 rfl ?_;obtain ⟨v24,h25,hr⟩:=zaa hr;refine ug rfl rfl rfl<|cl (K9a _ _ h25) rfl rfl ?_;exact jx 5 hr
     exact jx 7 hr
    exact jx 12 hr
   exact jx 17 hr
  exact jx 21 hr
 exact kx 1 hr
theorem Ksa(a0:Str)(r:Bool)(hr:qza a0=some r):Run prog 27 [.s a0] (.bo r):=by
 unfold qza at hr;refine rfx (fn:=f27) func27 fun g0 hg=>?_
 refine clx 8 hr (QZa _) fun v1 _ hr=>?_
 exact kx 16 hr
section
def PV.flat:PV->Bool
 | .b _=>true
 | _=>false
def AV.flat1:AV->Bool
 | .pv p=>p.flat
 | .hs _ _=>true
 | _=>false
def AV.flat2:AV->Bool
 | .agg l=>l.all AV.flat1
 | c=>c.flat1
def AV.flat:AV->Bool
 | .tup l=>l.all AV.flat2
 | c=>c.flat2
section
variable {g g' :G} {c:AV} {v:Value}
theorem z5b{w:World}{u u' :Nat->Nat}{p:PV}{v:Value}(hp:p.flat=true)(h:RelP w u p v):RelP w u' p v:=by
 cases h with
 | b hv=>exact .b hv
 | sl=>cases hp
theorem z6b(hw:g'.w=g.w)(hl:g'.loc=g.loc)(hc:c.flat1=true)(h:Rel g c v):Rel g' c v:=by
 cases h with
 | pv h=>exact .pv (by rw[hw];exact z5b hc h)
 | hsNil a h=>exact .hsNil a (by rw[hl];exact h)
 | hs h ha=>exact .hs (by rw[hl];exact h) ha
 | _=>cases hc
theorem z7b(hw:g'.w=g.w)(hl:g'.loc=g.loc)(hc:c.flat2=true)(h:Rel g c v):Rel g' c v:=by
 unfold AV.flat2 at hc;split at hc
 .cases h with
  | agg h1 h2 h3=>exact .agg h1 h2 fun i c hi=>z6b hw hl (jAn.1 hc c (jAg hi)) (h3 i c hi)
 exact z6b hw hl hc h
theorem rel_flat(hw:g'.w=g.w)(hl:g'.loc=g.loc)(hc:c.flat=true)(h:Rel g c v):Rel g' c v:=by
 unfold AV.flat at hc;split at hc
 .cases h with
  | tup h1 h3=>exact .tup h1 fun i c hi=>z7b hw hl (jAn.1 hc c (jAg hi)) (h3 i c hi)
 exact z7b hw hl hc h
end
theorem runS_mu0{P:Program}{f:FuncId}{args:List AV}{r:AV}{e:TypeId}{size R O:Nat}{rows:List Nat}{E:List (List PV)}(h:RunS P f args [] r [(R,.row e false size E)] O rows)(hr:r.flat=true)
 (hF:∀x∈E,∀c∈x,c.flat=true):RunS P f args [] r [(R,.row e true size E)] O rows:=by
 have hget:∀{mu:Bool} {E:List (List PV)} {o:Nat} {ob:AO},Sto.get [(R,.row e mu size E)] o=some ob->o=R/\ob=.row e mu size E:=by
  intro mu E o ob ho;have:=List.mem_singleton.1 (Sto.get_mem ho);cases this;exact ⟨rfl,rfl⟩
 have hself:∀{mu:Bool},Sto.get [(R,.row e mu size E)] R=some (.row e mu size E):=by intro mu;simp[Sto.get]
 refine ⟨h.ok,h.ok0,h.ok1,fun g vs hw hg ho ha=>(h.run g vs hw hg ho ha).mono ?_⟩;rintro e' w' ⟨g',v,rfl,hl,hold,hwf,rfl,hrel,hobj, -,hmine⟩;have hR:=hobj R _ hself;cases hR with
 | nil hn=>
  refine ⟨g',v,rfl,hl,hold,hwf,rfl,hrel,fun o ob ho=>?_,fun o o' ob ob' b h1 h2 _ _=>(hget h1).1.trans (hget h2).1.symm,fun o ob b h1 h2=>?_⟩
  .obtain ⟨rfl,rfl⟩:=hget ho;exact .nil hn
  obtain ⟨rfl,rfl⟩:=hget h1;exact hmine _ _ b hself h2
 | @row _ _ _ _ b off cap vs h1 h2 h3 h4 h5 h6 h7 h8 h9=>
  have hb:g.w.heap.size<=b:=by
   rcases hmine R _ b hself (by show (g'.loc R).block=some b;rw[h1];rfl) with hb | ⟨o,ob,hx,_⟩
   .exact hb
   cases hx
  refine ⟨⟨g'.w,fun k=>if k=b then 0 else g'.u k,g'.loc⟩,v,rfl,hl,⟨hold.os,hold.tape,hold.output,⟨hold.ext.size,fun k hk=>?_,hold.ext.cell,hold.ext.df⟩,fun k hk hs=>?_⟩,fun k hk=>?_,rfl,rel_flat (g:=g') rfl rfl hr hrel,fun o ob ho=>?_,fun o o' ob ob' b h1 h2 _ _=>(hget h1).1.trans (hget h2).1.symm,fun o ob b h1 h2=>?_⟩
  .show g.u k<=if k=b then 0 else g'.u k;rw[if_neg (by omega)];exact hold.ext.pub k hk
  .show _/\(if k=b then 0 else g'.u k)=_;rw[if_neg (by omega)];exact hold.block k hk hs
  .show (if k=b then 0 else g'.u k)=0;split
   .rfl
   exact hwf k hk
  .obtain ⟨rfl,rfl⟩:=hget ho;refine .row h1 h2 h3 h4 h5 h6 (by show (if b=b then 0 else _)<=_;rw[if_pos rfl];exact jCc _) (fun _=>by show (if b=b then 0 else _)=0;rw[if_pos rfl]) fun i j x c hi hj=>z5b (hF x (jAg hi) c (jAg hj)) (h9 i j x c hi hj)
  obtain ⟨rfl,rfl⟩:=hget h1;exact hmine _ _ b hself h2
theorem runS_mu{α:Type}{F:α->List PV}{P:Program}{f:FuncId}{args:List AV}{r:AV}{e:TypeId}{size R O:Nat}{rows:List Nat}{l:List α}(h:RunS P f args [] r [(R,.row e false size (l.map F))] O rows)(hr:r.flat=true)
 (hF:∀x,(F x).all PV.flat=true:=by exact fun _=>rfl):RunS P f args [] r [(R,.row e true size (l.map F))] O rows:=
 runS_mu0 h hr fun x hx c hc=>by
  obtain ⟨y,_,rfl⟩:=jBm.1 hx;exact jAn.1 (hF y) c hc
theorem VAa{P:Program}{ρ:Operand->AV}{σ:Sto}{x:Operand}{nl:Option Bool}{t e ty:TypeId}{dst:Option Tmp}{pos:String}{af:Array Edge}{gu:Option (Nat × Bool)}(hx:ρ x=.pv (.sl nl []))(ht:P.underlying t=some (.slice e)):EvQ P ⟨dst,.call ⟨.builtin .len, #[x], #[t]⟩,ty,pos,af,gu⟩ ρ σ (.i 0):=
 v8b (f:=fun _:Unit=>[]) (l:=[]) hx ht
theorem St.dropc{E:Env}{fr:Fr}{σ:Sto}{g:G}{a:Act}(o:Nat)(h:St E g a fr σ):St E g a (fr.clrs [o]) ((σ.clrs [o]).dels [o]):=by
 have hget:∀o' ob,((σ.clrs [o]).dels [o]).get o' =some ob->o' ∉ [o]/\∃ob1,σ.get o' =some ob1/\ob=ob1.clrs [o]:=by
  intro o' ob ho;rw[Sto.get_dels]at ho;split at ho
  .cases ho
  rename_i hn;rw[Sto.get_clrs,jAh]at ho;obtain ⟨ob1,h1,rfl⟩:=ho;exact ⟨hn,ob1,h1,rfl⟩
 refine ⟨fun d=>?_,h.n,h.df,⟨fun o' ob ho=>?_,fun o1 o2 ob1 ob2 b h1 h2 h3 h4=>?_,fun o' ob b h1 h2=>?_,h.so.old,h.so.wf⟩⟩
 .rw[Fr.get_clrs];exact Wta (Ext.refl _ _) (fun _ _=>rfl) (h.fr d)
 .obtain ⟨hn,ob1,h1,rfl⟩:=hget o' ob ho;exact ztb (h.so.obj o' ob1 h1) (Ext.refl _ _) (fun _ _=>rfl) hn fun _ _=>⟨rfl,rfl⟩
 .obtain ⟨_,p1,q1,rfl⟩:=hget o1 ob1 h1;obtain ⟨_,p2,q2,rfl⟩:=hget o2 ob2 h2;rw[AO.own_clrs]at h3 h4;exact h.so.apart o1 o2 p1 p2 b q1 q2 h3 h4
 obtain ⟨_,p1,q1,rfl⟩:=hget o' ob h1;rw[AO.own_clrs]at h2;exact h.so.mine o' p1 b q1 h2
theorem z8b{E:Env}{fr:Fr}{σ:Sto}{K:Post}{c:Code}(o:Nat)(h:AWP E c (fr.clrs [o]) ((σ.clrs [o]).dels [o]) K):AWP E c fr σ K:=⟨fun g a hst=>h.go g a (hst.dropc o)⟩
theorem Y4a{E:Env}{fr:Fr}{σ:Sto}{K:Post}{ops:Array Oper}{ol:List Oper}(o:Nat)(h:AWPL E ops ol (fr.clrs [o]) ((σ.clrs [o]).dels [o]) K):AWPL E ops ol fr σ K:=⟨fun g a hst=>h.go g a (hst.dropc o)⟩
end
theorem ZJa(a0:Str)(r:Str)(hr:jLa a0=some r):Run prog 148 [.s a0] (.s r):=by
 unfold jLa at hr;refine rfx (fn:=f148) func148 fun g0 hg=>?_
 refine rn tk 8 rfl<|wo (vhb (k:=7) (s:=a0) 1007 rfl rfl rfl rfl zya zra zJa) rfl<|rn tk 7 rfl<|wq (wCb (l:=a0) rfl rfl zra.u) rfl rfl rfl ?_;refine aq1 4 hr [3,8,9] [] (fun s1=>[(10,.i s1.1)]) (fun s1=>[(1007,.buf s1.2)]) (.exit 0) [3] [] (fun _=>[]) (fun b2=>[(1007,.buf b2)]) (fun s1 x3 hr=>?_) (fun b2 hr=>?_)
 .unfold KDa at hr;refine ax 6 11 hr (fun hr=>?_) fun hr=>?_
  .refine jq 2 hr [3,8,9,10] [] (fun _=>[]) (fun j5=>[(1007,.buf j5)]) (fun j5 hr=>?_) (fun j5 hr=>?_)
   .refine rn tk 4 rfl ?_;obtain ⟨v6,h7,hr⟩:=zaa hr;refine wq (zjb (l:=s1.2) (n:=s1.1) rfl rfl rfl zra zJa h7) rfl rfl rfl ?_;obtain ⟨v8,h9,hr⟩:=zaa hr;refine wq (vgb (l:=s1.2) (n:=s1.1) rfl rfl zJa h9) rfl rfl rfl ?_;refine jq 4 hr [3,4,5,8,9,10] [1007] (fun j10=>[(20,.bo j10)]) (fun _=>[]) (fun j10 hr=>?_) (fun j10 hr=>?_)
    .refine bx 4 17 hr (fun c11 hr=>?_) fun c11 hr=>?_
     .exact jx 4 hr
     exact jx 4 hr
    refine ax 0 20 hr (fun hr=>?_) fun hr=>?_
    .refine rn tk 4 rfl<|wq (ev_u8add (a:=v8) (b:=(97:UInt8)) rfl rfl) rfl rfl rfl<|wq (ev_u8sub (a:=((v8+(97:UInt8)))) (b:=(65:UInt8)) rfl rfl) rfl rfl rfl ?_;obtain ⟨v13,h14,hr⟩:=zaa hr;refine wq (zjb (l:=s1.2) (n:=s1.1) rfl rfl rfl zra zJa h14) rfl rfl rfl ?_;obtain ⟨v15,h16,hr⟩:=zaa hr;refine wo (Jza (l:=s1.2) (n:=s1.1) (v:=v15) (v' :=(((v8+(97:UInt8)) - (65:UInt8)))) rfl rfl rfl zJa h16) rfl ?_;exact jx 2 hr
    exact jx 2 hr
   exact cx 4 hr
  exact ox 2 hr
 refine rn tk 5 rfl<|wq (ev_buf2s (l:=b2) rfl rfl zra zJa zya) rfl rfl rfl ?_;exact kx 4 hr
theorem z9a(a0:Str)(a1:Str)(r:Bool)(hr:kRa a0 a1=some r):Run prog 114 [.s a0,.s a1] (.bo r):=by
 unfold kRa at hr;refine rfx (fn:=f114) func114 fun g0 hg=>?_
 refine rn tk 5 rfl<|jb hr (fun j1=>[(4,.bo j1)]) (fun j1=>[]) (fun j1 hr=>?_) (fun j1 hr=>?_)
 .refine bx 7 10 hr (fun c2 hr=>?_) fun c2 hr=>?_
  .refine rn tk 1 rfl ?_;obtain ⟨v3,h4,hr⟩:=zaa hr;refine ug rfl rfl rfl<|cl (ZJa _ _ h4) rfl rfl<|rn tk 1 rfl ?_;obtain ⟨v5,h6,hr⟩:=zaa hr;refine ug rfl rfl rfl<|cl (ZJa _ _ h6) rfl rfl ?_;exact jx 4 hr
  exact jx 8 hr
 exact kx 1 hr
theorem v5a(a0:Str)(r:Bool)(hr:kNa a0=some r):Run prog 150 [.s a0] (.bo r):=by
 unfold kNa at hr;refine rfx (fn:=Tryz.f150) func150 fun g0 hg=>?_
 refine jq 5 hr [] [] (fun j1=>[(2,.bo j1)]) (fun _=>[]) (fun j1 hr=>?_) (fun j1 hr=>?_)
 .refine bx 4 5 hr (fun c2 hr=>?_) fun c2 hr=>?_
  .refine bx 5 10 hr (fun c3 hr=>?_) fun c3 hr=>?_
   .refine rn tk 1 rfl<|ug rfl rfl rfl ?_;refine ctq 0 hr [10] [] (fun j4=>[(12,.bo j4)]) (fun _=>[]) (fun j4 hr jump4=>?_) (fun j4 hr=>?_)
    .refine iq 0 400000 [10] (fn:=f89) ⟨func89,rfl,by kernel_rfl⟩ fun T4 ds4=>?_
     refine aq2 14 hr [0,1,7] [499999,400010] (fun s5=>[(8,.i s5)]) (fun _=>[]) (.exit 0) [] [499999,400010] (fun _=>[]) (fun _=>[]) .ret [4] [499999,400010] (fun _=>[]) (fun _=>[]) (fun s5 x9 hr=>?_) (fun b6 hr=>?_) (fun b7 hr=>?_)
     .unfold voa at hr;refine ax 6 9 hr (fun hr=>?_) fun hr=>?_
      .refine rn tk 15 rfl ?_;obtain ⟨v11,h12,hr⟩:=zaa hr;refine ws tk h12 rfl rfl rfl rfl ?_;refine iq 0 600000 [0,1,7,8] (fn:=f186) ⟨func186,rfl,by kernel_rfl⟩ fun T6 ds6=>?_
       refine jq 5 hr [] [699999,600000,600001,600007,600008,499999,400010] (fun j13=>[(2,.bo j13)]) (fun _=>[]) (fun j13 hr=>?_) (fun j13 hr=>?_)
       .refine bx 4 5 hr (fun c14 hr=>?_) fun c14 hr=>?_
        .refine bx 4 9 hr (fun c15 hr=>?_) fun c15 hr=>?_
         .refine rn tk 1 rfl ?_;obtain ⟨v16,h17,hr⟩:=zaa hr;refine ug rfl rfl rfl<|cl (zQa _ _ _ h17) rfl rfl ?_;exact jx 4 hr
         exact jx 6 hr
        exact jx 10 hr
       refine ieq 1 (hO ?_);refine ax 3 16 hr (fun hr=>?_) fun hr=>?_
       .exact ox 8 hr
       exact cx 7 hr
      exact ox 2 hr
     .refine ieq 8 ?_;cases hr;exact jump4 _ _ rfl rfl
     refine ieq 2 ?_;cases hr;exact jump4 _ _ rfl rfl
    exact jx 3 hr
   exact jx 5 hr
  exact jx 10 hr
 exact kx 1 hr
theorem yfa(a0:Str)(r:Bool)(hr:kya a0=some r):Run prog 153 [.s a0] (.bo r):=by
 unfold kya at hr;refine rfx (fn:=Tryz.f153) func153 fun g0 hg=>?_
 refine aq1 7 hr [] [] (fun s1=>[(0,.s s1)]) (fun _=>[]) (.exit 0) [] [] (fun _=>[]) (fun _=>[]) (fun s1 x3 hr=>?_) (fun b2 hr=>?_)
 .unfold zOa at hr;refine ax 8 9 hr (fun hr=>?_) fun hr=>?_
  .refine rn tk 6 rfl ?_;obtain ⟨v5,h6,hr⟩:=zaa hr;refine ws tk h6 rfl rfl rfl rfl ?_;refine ax 10 13 hr (fun hr=>?_) fun hr=>?_
   .refine rn tk 3 rfl ?_;obtain ⟨v8,h9,hr⟩:=zaa hr;refine wscL tk h9 rfl rfl rfl rfl ?_;refine bx 10 19 hr (fun c10 hr=>?_) fun c10 hr=>?_
    .refine rn tk 1 rfl ?_;cases hr
    exact cx 13 hr
   refine rn tk 5 rfl ?_;cases hr
  exact ox 2 hr
 exact kx 8 hr
theorem v6a(a0:kua)(r:zma)(hr:k3a a0=some r):Run prog 116 [.agg [.s a0.Type_,.s a0.Sub,.l zoa.pc a0.Params]] (.agg [.i r.Code,.i r.Index]):=by
 unfold k3a at hr;refine rfx (fn:=f116) func116 fun g0 hg=>?_
 refine jq 7 hr [1,2] [2,1] (fun j1=>[(14,.bo j1)]) (fun _=>[]) (fun j1 hr=>?_) (fun j1 hr=>?_)
 .refine clx 3 hr (v5a _) fun v2 _ hr=>?_
  refine bx 2 9 hr (fun c4 hr=>?_) fun c4 hr=>?_
  .exact jx 6 hr
  refine rn tk 2 rfl ?_;obtain ⟨v5,h6,hr⟩:=zaa hr;refine ug rfl rfl rfl<|cl (v5a _ _ h6) rfl rfl ?_;exact jx 3 hr
 refine ax 0 14 hr (fun hr=>?_) fun hr=>?_
 .refine clx 2 hr (zga _ _) fun v8 _ hr=>?_
  exact kx 5 hr
 refine rn tk 7 rfl<|wn tk rfl rfl rfl ?_;refine ax 3 19 hr (fun hr=>?_) fun hr=>?_
 .refine clx 2 hr (zga _ _) fun v11 _ hr=>?_
  exact kx 5 hr
 refine rn tk 7 rfl<|wn tk rfl rfl rfl ?_;refine aq2 4 hr [1,2,22,23] [2,1] (fun s13=>[(24,.i s13)]) (fun _=>[]) (.exit 0) [2] [2] (fun _=>[]) (fun _=>[]) .ret [2] [] (fun _=>[]) (fun b15=>[(2,.cells [.i b15.Code,.i b15.Index])]) (fun s13 x17 hr=>?_) (fun b14 hr=>?_) (fun b15 hr=>?_)
 .unfold qha at hr;refine ax 6 25 hr (fun hr=>?_) fun hr=>?_
  .refine rn tk 7 rfl ?_;obtain ⟨v19,h20,hr⟩:=zaa hr;refine wi tk h20 rfl rfl rfl rfl rfl ?_;refine jq 7 hr [1,2,3,4,22,23,24] [4,2,1] (fun j21=>[(29,.bo j21)]) (fun _=>[]) (fun j21 hr=>?_) (fun j21 hr=>?_)
   .refine clx 3 hr (v5a _) fun v22 _ hr=>?_
    refine bx 2 34 hr (fun c24 hr=>?_) fun c24 hr=>?_
    .exact jx 7 hr
    exact jx 7 hr
   refine ax 0 29 hr (fun hr=>?_) fun hr=>?_
   .refine clx 3 hr (zga _ _) fun v26 _ hr=>?_
    exact ox 7 hr
   refine rn tk 5 rfl ?_;obtain ⟨v28,h29,hr⟩:=zaa hr;refine wlH tk h29 rfl rfl rfl (fun _=>rfl) rfl ?_;refine iq 1 500000 [1,2,3,4,22,23,24] (fn:=Tryz.f151) ⟨func151,rfl,by kernel_rfl⟩ fun T5 ds5=>?_
   refine ctq 9 hr [] [599999,500001,500002,500003,500004,500022,500023,500024,4,2,1] (fun j30=>[(7,.i j30)]) (fun _=>[]) (fun j30 hr jump6=>?_) (fun j30 hr=>?_)
   .refine iq 0 600000 [] (fn:=Tryz.f165) ⟨func165,rfl,by kernel_rfl⟩ fun T6 ds6=>?_
    refine rn tk 9 rfl<|wn tk rfl rfl rfl ?_;refine aq2 4 hr [0,1,7] [699999,599999,500001,500002,500003,500004,500022,500023,500024,4,2,1] (fun s31=>[(8,.i s31)]) (fun _=>[]) (.exit 0) [] [699999,599999,500001,500002,500003,500004,500022,500023,500024,4,2,1] (fun _=>[]) (fun _=>[]) .ret [] [699999,599999,500001,500002,500003,500004,500022,500023,500024,4,2,1] (fun b33=>[(4,.i b33)]) (fun _=>[]) (fun s31 x35 hr=>?_) (fun b32 hr=>?_) (fun b33 hr=>?_)
    .unfold wna at hr;refine ax 6 9 hr (fun hr=>?_) fun hr=>?_
     .refine rn tk 15 rfl ?_;obtain ⟨v37,h38,hr⟩:=zaa hr;refine wi tk h38 rfl rfl rfl rfl rfl ?_;refine iq 1 800000 [0,1,5,7,8] (fn:=Tryz.f152) ⟨func152,rfl,by kernel_rfl⟩ fun T8 ds8=>?_
      refine rn tk 2 rfl<|wo (vOa (k:=2) 1002 rfl rfl rfl rfl rfl) rfl ?_;refine clx 9 hr (z9a _ _) fun v39 _ hr=>?_
      refine ieq 4 (hO ?_);refine ax 2 16 hr (fun hr=>?_) fun hr=>?_
      .exact ox 9 hr
      exact cx 7 hr
     exact ox 2 hr
    .refine ieq 8 ?_;cases hr;exact jump6 _ _ rfl rfl
    refine ieq 2 ?_;cases hr;exact jump6 _ _ rfl rfl
   refine ieq 5 (hO ?_);refine ax 3 42 hr (fun hr=>?_) fun hr=>?_
   .refine clx 3 hr (zga _ _) fun v43 _ hr=>?_
    exact ox 7 hr
   refine ax 9 51 hr (fun hr=>?_) fun hr=>?_
   .refine clx 3 hr (zga _ _) fun v46 _ hr=>?_
    exact ox 7 hr
   refine clx 4 hr (yfa _) fun v48 _ hr=>?_
   refine ax 4 58 hr (fun hr=>?_) fun hr=>?_
   .refine clx 3 hr (zga _ _) fun v51 _ hr=>?_
    exact ox 7 hr
   exact cx 8 hr
  exact ox 2 hr
 .refine clx 4 hr zna fun v53 _ hr=>?_
  exact kx 4 hr
 exact kx 2 hr
theorem ZKa(a0:kua)(a1:Str)(r:Str × Bool × zma)(hr:jPa a0 a1=some r):Run prog 143 [.agg [.s a0.Type_,.s a0.Sub,.l zoa.pc a0.Params],.s a1] (.tup [.s r.1,.bo r.2.1,.agg [.i r.2.2.Code,.i r.2.2.Index]]):=by
 unfold jPa at hr;refine rfx (fn:=Tryz.f143) func143 fun g0 hg=>?_
 refine clx 12 hr (v6a _) fun v1 _ hr=>?_
 refine clx 7 hr (zha _) fun v3 _ hr=>?_
 refine ax 2 13 hr (fun hr=>?_) fun hr=>?_
 .refine dq 1 3 [] [] .nil .nil ?_ mixed;exact kx 5 hr
 refine rn tk 7 rfl<|wn tk rfl rfl rfl ?_;refine aq2 4 hr [1,6,16,17] [6] (fun s6=>[(18,.i s6)]) (fun _=>[]) (.exit 0) [6] [6] (fun _=>[]) (fun _=>[]) .ret [6] [] (fun b8=>[(4,.s b8.1),(5,.bo b8.2.1)]) (fun b8=>[(6,.cells [.i b8.2.2.Code,.i b8.2.2.Index])]) (fun s6 x10 hr=>?_) (fun b7 hr=>?_) (fun b8 hr=>?_)
 .unfold KMa at hr;refine ax 6 19 hr (fun hr=>?_) fun hr=>?_
  .refine rn tk 6 rfl ?_;obtain ⟨v12,h13,hr⟩:=zaa hr;refine wi tk h13 rfl rfl rfl rfl rfl ?_;refine clx 10 hr (z9a _ _) fun v14 _ hr=>?_
   refine ax 2 25 hr (fun hr=>?_) fun hr=>?_
   .refine rn tk 1 rfl ?_;obtain ⟨v17,h18,hr⟩:=zaa hr;refine dq 0 3 [] [(2,.agg [.i v17.Code,.i v17.Index])] .nil (.cons rfl rfl (zAa (zna v17 h18) rfl) .nil) ?_ mixed;exact ox 8 hr
   exact cx 7 hr
  exact ox 2 hr
 .refine clx 4 hr zna fun v19 _ hr=>?_
  exact kx 6 hr
 exact kx 2 hr
theorem Wba(a0:List zia)(r:zoa × Bool)(hr:ZBa a0=some r):Run prog 218 [.l zia.pc a0] (.tup [.agg [.s r.1.Name,.s r.1.Value],.bo r.2]):=by
 unfold ZBa at hr;refine rfx (fn:=f218) func218 fun g0 hg=>?_
 refine rn tk 7 rfl ?_;obtain ⟨v1,h2,hr⟩:=zaa hr;obtain ⟨v3,h4,hr⟩:=zaa hr;refine drA 10 [(4,.ptr 4 0),(15,.agg [.s v1.name,.s v3.value]),(14,.s v3.value),(13,.ep [pS v3.value]),(12,.ep [pS v3.name,pI v3.number,pB v3.star,pS v3.value]),(11,.l zia.pc a0),(10,.s v1.name),(9,.ep [pS v1.name,pI v1.number,pB v1.star,pS v1.value]),(8,.ep [pS v1.name,pI v1.number,pB v1.star,pS v1.value]),(7,.l zia.pc a0)] mixed (by kernel_rfl) rfl rfl (pqA tk rfl (.plain rfl) (.run (.plain rfl) (kaa (Kwa (f:=zia.pc) rfl rfl wXa y1a rfl h2)) (pqA tk rfl (.plain rfl) (pqA tk rfl (.plain rfl) (pqA tk rfl (.plain rfl) (.run (.plain rfl) (kaa (Kwa (f:=zia.pc) rfl rfl wXa y1a rfl h4)) (pqA tk rfl (.plain rfl) (pqA tk rfl (.plain rfl) (pqA tk rfl (.plain rfl) (pnA 4 tk rfl rfl rfl (.plain rfl) .nil)))))))))) rfl rfl rfl<|rn tk 7 rfl ?_;obtain ⟨v5,h6,hr⟩:=zaa hr;refine wi tk h6 rfl rfl rfl rfl rfl ?_;refine ax 5 20 hr (fun hr=>?_) fun hr=>?_
 .refine rn tk 4 rfl<|wn tk rfl rfl rfl ?_;exact kx 7 hr
 refine rn tk 5 rfl ?_;cases hr
theorem z9b{g:G}{s:Str}{v:Value}(h:Rel g (.s s) v):v=.string (strB s):=zTa h
theorem qib{g:G}{w' :World}(h:Below g.w.heap.size g.w w'):Old (fun _=>False) g ⟨w',g.u,g.loc⟩:=
 ⟨h.os,h.tape,h.output,⟨h.size,fun _ _=>jAt _,fun k i hk _=>by simp only[World.cell?];rw[h.block k hk],fun r hr=>(h.block r (zCa hr)).trans hr⟩,fun k hk _=>⟨h.block k hk,rfl⟩⟩
theorem Kta(s t:Str)(r:Str)(hr:wYa s t=some r):Run prog 215 [.s s,.s t] (.s r):=by
 unfold wYa at hr;split at hr
 case isFalse=>cases hr
 rename_i hc;obtain ⟨h1,h2,h3⟩:=hc;cases hr;refine ⟨⟨_,_,⟨func215,rfl,by kernel_rfl⟩⟩,fun g vs hw hg ha=>?_⟩;obtain ⟨hsz,hrel⟩:=ha;obtain ⟨l⟩:=vs
 match l,hsz with
 | [x,y],_=>
  obtain rfl:=z9b (hrel 0 _ rfl);obtain rfl:=z9b (hrel 1 _ rfl);have h116:(prog.info? 261).map (fun i=>(i.zero,i.size))=some (some (.agg (Array.replicate 256 (.bool false))),256):=by kernel_rfl
  refine callsIn_wide.2 ((Any.strings_TrimLeft_laid Tryz.lays161 h116 (strB s) (strB t) g.w (by rw[zwa];exact h2) (ascii_of_all (by simpa[YQa,strB]using h3))).mono ?_);rintro e w' ⟨rfl,hb⟩;refine ⟨⟨w',g.u,g.loc⟩,_,rfl,(by intros;rfl),qib hb,fun k hk=>hw k (jBk hb.size hk),rfl,?_⟩;rw[show (strB s).data.toList=s by simp[strB],show (strB t).data.toList=t by simp[strB]];exact .pv (.b rfl)
theorem zSa(a0:zea)(r:zea)(hr:zNa a0=some r):RunS prog 189 [.ptr 90008000 0] (zea.sto a0) (.tup []) (zea.sto r) 90008000 []:=by
 unfold zNa at hr;refine rfS (fn:=f189) (H:=90008999) (.ptr 90008000 0) ⟨func189,rfl,by kernel_rfl⟩ rfl (hasT rfl) (.inl ⟨rfl,rfl⟩) rfl rfl rfl rfl fun g0 hg S sg T=>?_
 refine clx 6 hr (Kta _ _) fun v1 _ hr=>?_
 exact sxx 4 hr
theorem kab{g:G}{s:Str}{v:Value}(h:Rel g (.s s) v):v=.string (strB s):=zTa h
theorem ZLa(s t:Str)(r:Str × Bool)(hr:kJa s t=some r):Run prog 213 [.s s,.s t] (.tup [.s r.1,.bo r.2]):=by
 unfold kJa at hr;split at hr
 case isFalse=>cases hr
 rename_i hlen;cases hr;refine ⟨⟨_,_,⟨func213,rfl,by kernel_rfl⟩⟩,fun g vs hw hg ha=>?_⟩;obtain ⟨hsz,hrel⟩:=ha;obtain ⟨l⟩:=vs
 match l,hsz with
 | [x,y],_=>
  obtain rfl:=kab (hrel 0 _ rfl);obtain rfl:=kab (hrel 1 _ rfl);refine callsIn_wide.2 ((Tryz.strings_CutSuffix (strB s) (strB t) g.w (by rw[zwa];exact hlen)).mono ?_);rintro e w' ⟨rfl,rfl⟩;refine ⟨g,_,rfl,rfl,Old.refl _ g,hw,rfl,.tup rfl fun i c hi=>?_⟩
  match i,hi with
  | 0,rfl=>exact .pv (.b rfl)
  | 1,rfl=>exact .pv (.b rfl)
theorem kbb(g:G)(e:TypeId)(s:ByteArray):Old (fun _=>False) g ⟨Lib.bytesWorld g.w e s,g.u,g.loc⟩:=by
 generalize hw:Lib.bytesWorld g.w e s=w';unfold Lib.bytesWorld at hw;have hother:∀q,q < g.w.heap.size->w'.heap[q]? =g.w.heap[q]? :=by
  intro q hq;subst hw;simp only[World.freeze,Nat.one_ne_zero,if_false,jBj];rw[if_neg (by omega)];exact Below.heap_alloc g.w.drew _ _ hq
 have hws:w'.heap.size=g.w.heap.size+1:=by subst hw;simp[World.freeze]
 refine ⟨by subst hw;first | (simp[World.freeze];done) | (simp[World.freeze];rfl),by subst hw;first | (simp[World.freeze];done) | (simp[World.freeze];rfl),by subst hw;first | (simp[World.freeze];done) | (simp[World.freeze];rfl),⟨by show g.w.heap.size<=w'.heap.size;omega,fun _ _=>jAt _,fun k i hk hi=>?_,fun r hr=>(hother r (zCa hr)).trans hr⟩,fun k hk _=>⟨hother k hk,rfl⟩⟩;simp only[World.cell?];rw[hother k hk]
theorem vNb{g:G}{w' :World}(h:Below g.w.heap.size g.w w'):Old (fun _=>False) g ⟨w',g.u,g.loc⟩:=
 ⟨h.os,h.tape,h.output,⟨h.size,fun _ _=>jAt _,fun k i hk _=>by simp only[World.cell?];rw[h.block k hk],fun r hr=>(h.block r (zCa hr)).trans hr⟩,fun k hk _=>⟨h.block k hk,rfl⟩⟩
theorem err_var {g : G} (hg : Gl g) : ∃ tp p, g.w.var? prog "strconv.ErrSyntax" = some #[.iface tp p] := by
 obtain ⟨tp,x,t,fz,h⟩:=hg.2.2 6 (by simp[qZb]);have hn : prog.globalNamed "strconv.ErrSyntax" = some 6 := by kernel_rfl
 refine ⟨tp,x,?_⟩;unfold World.var?;rw[hn];simp only[jAb];rw[h]
theorem Wca(s:Str)(r:Int × Bool)(hr:vFa s=some r):Run prog 231 [.s s] (.tup [.i r.1,.ifc r.2]):=by
 unfold vFa at hr;split at hr
 case isFalse=>cases hr
 rename_i hlen;refine ⟨⟨_,_,⟨func231,rfl,by kernel_rfl⟩⟩,fun g vs hw hg ha=>?_⟩;obtain ⟨hsz,hrel⟩:=ha;obtain ⟨l⟩:=vs
 match l,hsz with
 | [x],_=>
  obtain rfl:=str_argN (hrel 0 _ rfl);cases hn:Lib.atoi s with
  | none=>
   rw[hn]at hr;cases hr;obtain ⟨tp,p,hvar⟩:=err_var hg;refine callsIn_wide.2 ((Tryz.strconv_Atoi_err_var (strB s) (by rw[zwa];exact hlen) (by simpa[strB]using hn) tp p g.w hvar).mono ?_);rintro e w' ⟨N,rfl,_,_,hb⟩;exact ⟨⟨w',g.u,g.loc⟩,_,rfl,rfl,vNb hb,fun k hk=>hw k (jBk hb.size hk),rfl,.tup rfl fun i c hi=>by
    match i,hi with
    | 0,rfl=>exact .pv (.b rfl)
    | 1,rfl=>exact .ifc rfl⟩
  | some n=>
   rw[hn]at hr;cases hr;refine callsIn_wide.2 ((Tryz.strconv_Atoi (strB s) n (by rw[zwa];exact hlen) (by simpa[strB]using hn) g.w).mono ?_);rintro e w' ⟨rfl,t,rfl⟩;exact ⟨⟨_,g.u,g.loc⟩,_,rfl,rfl,kbb g _ _,fun k hk=>hw k (jBk (kbb g _ _).ext.size hk),rfl,.tup rfl fun i c hi=>by
    match i,hi with
    | 0,rfl=>exact .pv (.b rfl)
    | 1,rfl=>exact .ifc rfl⟩
theorem Wda(a0:Str)(a1:Int)(r:Int × Bool)(hr:Zya a0 a1=some r):Run prog 214 [.s a0,.i a1] (.tup [.i r.1,.bo r.2]):=by
 unfold Zya at hr;refine rfx (fn:=f214) func214 fun g0 hg=>?_
 refine clx 9 hr (Wca _) fun v1 _ hr=>?_
 refine jq 8 hr [6] [] (fun j3=>[(29,.bo j3)]) (fun _=>[]) (fun j3 hr=>?_) (fun j3 hr=>?_)
 .refine rn tk 2 rfl<|wq (ev_ifneq rfl rfl qFb) rfl rfl rfl ?_;refine bx 1 15 hr (fun c4 hr=>?_) fun c4 hr=>?_
  .exact jx 15 hr
  refine rn tk 1 rfl ?_;obtain ⟨v5,h6,hr⟩:=zaa hr;refine ug rfl rfl rfl<|cl (qEa _ _ h6) rfl rfl ?_;refine bx 4 21 hr (fun c7 hr=>?_) fun c7 hr=>?_
  .exact jx 9 hr
  refine bx 4 25 hr (fun c8 hr=>?_) fun c8 hr=>?_
  .exact jx 5 hr
  exact jx 5 hr
 refine ax 0 29 hr (fun hr=>?_) fun hr=>?_
 .exact kx 8 hr
 exact kx 10 hr
theorem kXa(a0:zea)(a1:UInt8)(r:Bool × zea)(hr:kKa a0 a1=some r):RunS prog 187 [.ptr 90008000 0,.u8 a1] (zea.sto a0) (.bo r.1) (zea.sto r.2) 90008000 []:=by
 unfold kKa at hr;refine rfS (fn:=Tryz.f187) (H:=90008999) (.ptr 90008000 0) ⟨func187,rfl,by kernel_rfl⟩ rfl (hasT rfl) (.inl ⟨rfl,rfl⟩) rfl rfl rfl rfl fun g0 hg S sg T=>?_
 refine csx 8 hr (zSa a0) fun v1 _ hr=>?_
 refine jq 3 hr [0] [90008000,90008999] (fun j3=>[(20,.bo j3)]) (fun _=>[]) (fun j3 hr=>?_) (fun j3 hr=>?_)
 .refine bx 7 12 hr (fun c4 hr=>?_) fun c4 hr=>?_
  .exact jx 9 hr
  refine rn tk 4 rfl ?_;obtain ⟨v5,h6,hr⟩:=zaa hr;refine ug rfl rfl rfl<|ws tk h6 rfl rfl rfl rfl ?_;exact jx 4 hr
 refine ax 0 20 hr (fun hr=>?_) fun hr=>?_
 .exact sxx 7 hr
 refine rn tk 9 rfl ?_;obtain ⟨v8,h9,hr⟩:=zaa hr;refine wscL tk h9 rfl rfl rfl rfl ?_;exact sxx 11 hr
theorem yFa(a0:UInt8)(r:Bool)(hr:vZa a0=some r):Run prog 186 [.u8 a0] (.bo r):=by
 unfold vZa at hr;refine rfx (fn:=f186) func186 fun g0 hg=>?_
 refine jq 5 hr [] [] (fun j1=>[(2,.bo j1)]) (fun _=>[]) (fun j1 hr=>?_) (fun j1 hr=>?_)
 .refine bx 4 5 hr (fun c2 hr=>?_) fun c2 hr=>?_
  .refine bx 4 9 hr (fun c3 hr=>?_) fun c3 hr=>?_
   .refine rn tk 1 rfl ?_;obtain ⟨v4,h5,hr⟩:=zaa hr;refine ug rfl rfl rfl<|cl (zQa _ _ _ h5) rfl rfl ?_;exact jx 4 hr
   exact jx 6 hr
  exact jx 10 hr
 exact kx 1 hr
theorem Zda(a0:zea)(r:Str × Bool × zea)(hr:v0a a0=some r):RunS prog 212 [.ptr 90008000 0] (zea.sto a0) (.tup [.s r.1,.bo r.2.1]) (zea.sto r.2.2) 90008000 []:=by
 unfold v0a at hr;refine rfS (fn:=Tryz.f212) (H:=90008999) (.ptr 90008000 0) ⟨func212,rfl,by kernel_rfl⟩ rfl (hasT rfl) (.inl ⟨rfl,rfl⟩) rfl rfl rfl rfl fun g0 hg S sg T=>?_
 refine csx 10 hr (kXa _ _) fun v1 _ hr=>?_
 refine ax 3 9 hr (fun hr=>?_) fun hr=>?_
 .refine iq 3 100000 [] (fn:=Tryz.f185) ⟨func185,rfl,by kernel_rfl⟩ fun T1 ds1=>?_
  refine csx 8 hr (zSa v1.2) fun v4 _ hr=>?_
  refine aq1 9 hr [0,1] [90008000,199999,90008999] (fun s6=>[(5,.i s6)]) (fun _=>[]) (.exit 0) [0] [90008000,199999,90008999] (fun b7=>[(5,.i b7)]) (fun _=>[]) (fun s6 x8 hr=>?_) (fun b7 hr=>?_)
  .unfold wOa at hr;refine jq 1 hr [0,1,5] [90008000,199999,90008999] (fun j9=>[(25,.bo j9)]) (fun _=>[]) (fun j9 hr=>?_) (fun j9 hr=>?_)
   .refine bx 9 16 hr (fun c10 hr=>?_) fun c10 hr=>?_
    .refine rn tk 6 rfl ?_;obtain ⟨v11,h12,hr⟩:=zaa hr;refine ug rfl rfl rfl<|ws tk h12 rfl rfl rfl rfl<|ug rfl rfl rfl ?_;refine iq 0 500000 [0,1,5,16,17,18,19,20,21,22,23] (fn:=f229) ⟨func229,rfl,by kernel_rfl⟩ fun T5 ds5=>?_
     refine jq 5 hr [] [599999,500000,500001,500005,500016,500017,500018,500019,500020,500021,500022,500023,90008000,199999,90008999] (fun j13=>[(2,.bo j13)]) (fun _=>[]) (fun j13 hr=>?_) (fun j13 hr=>?_)
     .refine clx 2 hr (yFa _) fun v14 _ hr=>?_
      refine bx 1 5 hr (fun c16 hr=>?_) fun c16 hr=>?_
      .exact jx 13 hr
      refine bx 4 9 hr (fun c17 hr=>?_) fun c17 hr=>?_
      .exact jx 9 hr
      refine bx 4 13 hr (fun c18 hr=>?_) fun c18 hr=>?_
      .exact jx 5 hr
      exact jx 5 hr
     refine ieq 1 (hO ?_);exact jx 2 hr
    exact jx 10 hr
   refine ax 0 25 hr (fun hr=>?_) fun hr=>?_
   .exact cx 9 hr
   exact ox 2 hr
  refine rn tk 9 rfl ?_;obtain ⟨v20,h21,hr⟩:=zaa hr;refine wscH tk h21 rfl rfl rfl rfl<|rn tk 11 rfl ?_;obtain ⟨v22,h23,hr⟩:=zaa hr;refine wscL tk h23 rfl rfl rfl rfl ?_;refine ieq 12 (hO ?_);exact sxx 6 hr
 refine rn tk 5 rfl ?_;refine kwa 1004 (d:=4) 5 1 rfl rfl rfl (hO ?_);refine aq2 9 hr [0,4] [90008000,90008999] (fun s24=>[(5,.i s24.1)]) (fun s24=>[(1004,.row 5 false 1 (List.map cU s24.2))]) (.exit 0) [] [90008000,90008999] (fun _=>[]) (fun _=>[]) .ret [] [90008999] (fun b26=>[(2,.s b26.1),(3,.bo b26.2.1)]) (fun b26=>zea.sto b26.2.2) (fun s24 x28 hr=>?_) (fun b25 hr=>?_) (fun b26 hr=>?_)
 .unfold wPa at hr;refine ax 12 18 hr (fun hr=>?_) fun hr=>?_
  .refine jkq 2 [0,4] [90008000,90008999] (fun j30=>[(5,.i j30.1)]) (fun j30=>[(1004,.row 5 false 1 (List.map cU j30.2))]) (fun j30=>kWa j30=some x28) ?_ ?_
   .refine rn tk 8 rfl ?_;obtain ⟨v31,h32,hr⟩:=zaa hr;refine ws tk h32 rfl rfl rfl rfl ?_;refine ax 15 32 hr (fun hr=>?_) fun hr=>?_
    .refine rn tk 9 rfl ?_;obtain ⟨v34,h35,hr⟩:=zaa hr;refine wscL tk h35 rfl rfl rfl rfl<|rn tk 8 rfl ?_;refine Qpa (d:=44) (F:=cU) (l:=s24.2) rfl rfl (hO ?_);refine wb tk rfl rfl rfl ?_;exact ox 8 hr
    refine ax 6 46 hr (fun hr=>?_) fun hr=>?_
    .refine ax 19 56 hr (fun hr=>?_) fun hr=>?_
     .exact ox 11 hr
     refine rn tk 9 rfl ?_;obtain ⟨v38,h39,hr⟩:=zaa hr;refine ws tk h39 rfl rfl rfl rfl<|wz cU ([v38]:List UInt8) tk rfl rfl (fun _=>rfl) rfl rfl rfl ?_;obtain ⟨v40,h41,hr⟩:=zaa hr;refine wa tk h41 rfl rfl rfl rfl (fun _=>rfl) rfl rfl<|rn tk 4 rfl<|jn (((w64 (s24.1+1)),v40)) hr rfl rfl
    refine rn tk 3 rfl<|wz cU ([v31]:List UInt8) tk rfl rfl (fun _=>rfl) rfl rfl rfl ?_;obtain ⟨v42,h43,hr⟩:=zaa hr;refine wa tk h43 rfl rfl rfl rfl (fun _=>rfl) rfl rfl<|rn tk 4 rfl<|jn ((s24.1,v42)) hr rfl rfl
   intro j30 hr;unfold kWa at hr;exact cx 5 hr
  exact ox 2 hr
 .exact sxx 9 hr
 exact sxx 2 hr
theorem ZMa(a0:zea)(r:zia × Bool × zea)(hr:wma a0=some r):RunS prog 188 [.ptr 90008000 0] (zea.sto a0) (.tup [.agg [.s r.1.name,.i r.1.number,.bo r.1.star,.s r.1.value],.bo r.2.1]) (zea.sto r.2.2) 90008000 []:=by
 unfold wma at hr;refine rfS (fn:=f188) (H:=90008999) (.ptr 90008000 0) ⟨func188,rfl,by kernel_rfl⟩ rfl (hasT rfl) (.inl ⟨rfl,rfl⟩) rfl rfl rfl rfl fun g0 hg S sg T=>?_
 refine iq 9 100000 [0,2] (fn:=Tryz.f185) ⟨func185,rfl,by kernel_rfl⟩ fun T1 ds1=>?_
 refine csx 8 hr (zSa a0) fun v1 _ hr=>?_
 refine aq1 9 hr [0,1] [90008000,199999,100000,100002,2,90008999] (fun s3=>[(5,.i s3)]) (fun _=>[]) (.exit 0) [0] [90008000,199999,100000,100002,2,90008999] (fun b4=>[(5,.i b4)]) (fun _=>[]) (fun s3 x5 hr=>?_) (fun b4 hr=>?_)
 .unfold w6a at hr;refine jq 1 hr [0,1,5] [90008000,199999,100000,100002,2,90008999] (fun j6=>[(25,.bo j6)]) (fun _=>[]) (fun j6 hr=>?_) (fun j6 hr=>?_)
  .refine bx 9 16 hr (fun c7 hr=>?_) fun c7 hr=>?_
   .refine rn tk 6 rfl ?_;obtain ⟨v8,h9,hr⟩:=zaa hr;refine ug rfl rfl rfl<|ws tk h9 rfl rfl rfl rfl<|ug rfl rfl rfl ?_;refine iq 0 500000 [0,1,5,16,17,18,19,20,21,22,23] (fn:=Tryz.f211) ⟨func211,rfl,by kernel_rfl⟩ fun T5 ds5=>?_
    refine jq 5 hr [] [599999,500000,500001,500005,500016,500017,500018,500019,500020,500021,500022,500023,90008000,199999,100000,100002,2,90008999] (fun j10=>[(2,.bo j10)]) (fun _=>[]) (fun j10 hr=>?_) (fun j10 hr=>?_)
    .refine clx 2 hr (yFa _) fun v11 _ hr=>?_
     refine bx 1 5 hr (fun c13 hr=>?_) fun c13 hr=>?_
     .exact jx 5 hr
     exact jx 5 hr
    refine ieq 1 (hO ?_);exact jx 2 hr
   exact jx 10 hr
  refine ax 0 25 hr (fun hr=>?_) fun hr=>?_
  .exact cx 9 hr
  exact ox 2 hr
 refine rn tk 9 rfl ?_;obtain ⟨v15,h16,hr⟩:=zaa hr;refine wscH tk h16 rfl rfl rfl rfl<|rn tk 11 rfl ?_;obtain ⟨v17,h18,hr⟩:=zaa hr;refine wscL tk h18 rfl rfl rfl rfl ?_;refine ieq 12 (hO ?_);refine csx 7 hr (kXa _ _) fun v19 _ hr=>?_
 refine ax 3 17 hr (fun hr=>?_) fun hr=>?_
 .exact sxx 9 hr
 refine csx 5 hr (Zda v19.2) fun v22 _ hr=>?_
 refine clx 18 hr (yEa _ _) fun v24 _ hr=>?_
 refine jq 16 hr [2,7,8] [90008000,2,90008999] (fun j26=>[(6,.bo j26.1)]) (fun j26=>[(7,.cells [.s v24.1,.i j26.2.1,.bo j26.2.2,.s v22.1])]) (fun j26 hr=>?_) (fun j26 hr=>?_)
 .refine ax 5 34 hr (fun hr=>?_) fun hr=>?_
  .refine clx 3 hr (ZLa _ _) fun v28 _ hr=>?_
   refine clx 11 hr (Wda _ _) fun v30 _ hr=>?_
   refine bx 17 49 hr (fun c32 hr=>?_) fun c32 hr=>?_
   .exact jx 4 hr
   exact jx 4 hr
  exact jx 1 hr
 refine jq 0 hr [2] [90008000,90008999] (fun j33=>[(3,.bo j33)]) (fun _=>[(2,.cells [.s v24.1,.i j26.2.1,.bo j26.2.2,.s v22.1])]) (fun j33 hr=>?_) (fun j33 hr=>?_)
 .refine bx 4 54 hr (fun c34 hr=>?_) fun c34 hr=>?_
  .exact jx 6 hr
  exact jx 6 hr
 exact sxx 1 hr
theorem Yaa(a0:Str)(r:kua × Bool)(hr:K2a a0=some r):RunS prog 149 [.s a0] [] (.tup [.agg [.s r.1.Type_,.s r.1.Sub,.hs 90011003 0],.bo r.2]) [(90011003,.row 131 false 2 (List.map zoa.pc r.1.Params))] 90011000 [90011003]:=by
 unfold K2a at hr;refine rfS (fn:=f149) (H:=90011999) .any ⟨func149,rfl,by kernel_rfl⟩ rfl (hasT rfl) (.inr ⟨rfl,rfl⟩) rfl rfl rfl rfl fun g0 hg S sg T=>?_
 refine rn tk 3 rfl ?_;refine zxa 1002 (o:=2) (j:=2) 131 2 rfl rfl rfl rfl (hO ?_);refine rn tk 7 rfl<|wo (vOa (k:=13) 90008000 rfl rfl rfl rfl rfl) rfl<|rn tk 6 rfl ?_;refine zxa 1005 (o:=5) (j:=2) 131 2 rfl rfl rfl rfl (hO ?_);refine JDa 1005 90011003 rfl rfl rfl rfl rfl rfl (hO ?_);refine iq 5 100000 [2,4,5] (fn:=Tryz.f185) ⟨func185,rfl,by kernel_rfl⟩ fun T1 ds1=>?_
 refine csx 8 hr (zSa _) fun v1 _ hr=>?_
 refine aq1 9 hr [0,1] [90008000,199999,100002,100004,100005,90011003,5,1002,2,90011999] (fun s3=>[(5,.i s3)]) (fun _=>[]) (.exit 0) [0] [90008000,199999,100002,100004,100005,90011003,5,1002,2,90011999] (fun b4=>[(5,.i b4)]) (fun _=>[]) (fun s3 x5 hr=>?_) (fun b4 hr=>?_)
 .unfold KGa at hr;refine jq 1 hr [0,1,5] [90008000,199999,100002,100004,100005,90011003,5,1002,2,90011999] (fun j6=>[(25,.bo j6)]) (fun _=>[]) (fun j6 hr=>?_) (fun j6 hr=>?_)
  .refine bx 9 16 hr (fun c7 hr=>?_) fun c7 hr=>?_
   .refine rn tk 6 rfl ?_;obtain ⟨v8,h9,hr⟩:=zaa hr;refine ug rfl rfl rfl<|ws tk h9 rfl rfl rfl rfl<|ug rfl rfl rfl ?_;refine iq 0 500000 [0,1,5,16,17,18,19,20,21,22,23] (fn:=f186) ⟨func186,rfl,by kernel_rfl⟩ fun T5 ds5=>?_
    refine jq 5 hr [] [599999,500000,500001,500005,500016,500017,500018,500019,500020,500021,500022,500023,90008000,199999,100002,100004,100005,90011003,5,1002,2,90011999] (fun j10=>[(2,.bo j10)]) (fun _=>[]) (fun j10 hr=>?_) (fun j10 hr=>?_)
    .refine bx 4 5 hr (fun c11 hr=>?_) fun c11 hr=>?_
     .refine bx 4 9 hr (fun c12 hr=>?_) fun c12 hr=>?_
      .refine rn tk 1 rfl ?_;obtain ⟨v13,h14,hr⟩:=zaa hr;refine ug rfl rfl rfl<|cl (zQa _ _ _ h14) rfl rfl ?_;exact jx 4 hr
      exact jx 6 hr
     exact jx 10 hr
    refine ieq 1 (hO ?_);exact jx 2 hr
   exact jx 10 hr
  refine ax 0 25 hr (fun hr=>?_) fun hr=>?_
  .exact cx 9 hr
  exact ox 2 hr
 refine rn tk 9 rfl ?_;obtain ⟨v16,h17,hr⟩:=zaa hr;refine wscH tk h17 rfl rfl rfl rfl<|rn tk 11 rfl ?_;obtain ⟨v18,h19,hr⟩:=zaa hr;refine wscL tk h19 rfl rfl rfl rfl ?_;refine ieq 12 (hO ?_);refine csx 7 hr (kXa _ _) fun v20 _ hr=>?_
 refine iq 6 600000 [2,4,5,6] (fn:=Tryz.f185) ⟨func185,rfl,by kernel_rfl⟩ fun T6 ds6=>?_
 refine csx 8 hr (zSa v20.2) fun v22 _ hr=>?_
 refine aq1 9 hr [0,1] [90008000,699999,600002,600004,600005,600006,90011003,5,1002,2,90011999] (fun s24=>[(5,.i s24)]) (fun _=>[]) (.exit 0) [0] [90008000,699999,600002,600004,600005,600006,90011003,5,1002,2,90011999] (fun b25=>[(5,.i b25)]) (fun _=>[]) (fun s24 x26 hr=>?_) (fun b25 hr=>?_)
 .unfold KHa at hr;refine jq 1 hr [0,1,5] [90008000,699999,600002,600004,600005,600006,90011003,5,1002,2,90011999] (fun j27=>[(25,.bo j27)]) (fun _=>[]) (fun j27 hr=>?_) (fun j27 hr=>?_)
  .refine bx 9 16 hr (fun c28 hr=>?_) fun c28 hr=>?_
   .refine rn tk 6 rfl ?_;obtain ⟨v29,h30,hr⟩:=zaa hr;refine ug rfl rfl rfl<|ws tk h30 rfl rfl rfl rfl<|ug rfl rfl rfl ?_;refine iq 0 1000000 [0,1,5,16,17,18,19,20,21,22,23] (fn:=f186) ⟨func186,rfl,by kernel_rfl⟩ fun T10 ds10=>?_
    refine jq 5 hr [] [1099999,1000000,1000001,1000005,1000016,1000017,1000018,1000019,1000020,1000021,1000022,1000023,90008000,699999,600002,600004,600005,600006,90011003,5,1002,2,90011999] (fun j31=>[(2,.bo j31)]) (fun _=>[]) (fun j31 hr=>?_) (fun j31 hr=>?_)
    .refine bx 4 5 hr (fun c32 hr=>?_) fun c32 hr=>?_
     .refine bx 4 9 hr (fun c33 hr=>?_) fun c33 hr=>?_
      .refine rn tk 1 rfl ?_;obtain ⟨v34,h35,hr⟩:=zaa hr;refine ug rfl rfl rfl<|cl (zQa _ _ _ h35) rfl rfl ?_;exact jx 4 hr
      exact jx 6 hr
     exact jx 10 hr
    refine ieq 1 (hO ?_);exact jx 2 hr
   exact jx 10 hr
  refine ax 0 25 hr (fun hr=>?_) fun hr=>?_
  .exact cx 9 hr
  exact ox 2 hr
 refine rn tk 9 rfl ?_;obtain ⟨v37,h38,hr⟩:=zaa hr;refine wscH tk h38 rfl rfl rfl rfl<|rn tk 11 rfl ?_;obtain ⟨v39,h40,hr⟩:=zaa hr;refine wscL tk h40 rfl rfl rfl rfl ?_;refine ieq 12 (hO ?_);refine jq 5 hr [2,4,5] [90008000,90011003,5,1002,2,90011999] (fun j41=>[(33,.bo j41)]) (fun _=>[]) (fun j41 hr=>?_) (fun j41 hr=>?_)
 .refine bx 5 25 hr (fun c42 hr=>?_) fun c42 hr=>?_
  .exact jx 9 hr
  refine bx 4 29 hr (fun c43 hr=>?_) fun c43 hr=>?_
  .exact jx 5 hr
  exact jx 5 hr
 refine ax 0 33 hr (fun hr=>?_) fun hr=>?_
 .exact sxx 9 hr
 refine rn tk 5 rfl ?_;refine kwa 1007 (d:=7) 231 4 rfl rfl rfl (hO ?_);refine aq2 4 hr [2,4,5,7] [90011003,5,1002,2,90011999] (fun _=>[]) (fun s45=>(zea.sto s45.1)++ [(1007,.row 231 false 4 (List.map zia.pc s45.2))]) (.exit 0) [2,4,5,7] [90011003,5,1002,2,90011999] (fun _=>[]) (fun b46=>(zea.sto b46.1)++ [(1007,.row 231 false 4 (List.map zia.pc b46.2))]) .ret [2] [90011003,90011999] (fun _=>[(3,.bo false)]) (fun _=>[(2,.cells [.s v16,.s v37,.hs 90011003 0])]) (fun s45 x49 hr=>?_) (fun b46 hr=>?_) (fun b47 hr=>?_)
 .unfold KIa at hr;refine csx 4 hr (kXa _ _) fun v50 _ hr=>?_
  refine ax 2 36 hr (fun hr=>?_) fun hr=>?_
  .refine csx 6 hr (ZMa v50.2) fun v53 _ hr=>?_
   refine ax 15 43 hr (fun hr=>?_) fun hr=>?_
   .exact ox 10 hr
   refine rn tk 5 rfl<|wz zia.pc ([v53.1]:List zia) tk rfl rfl (fun _=>rfl) rfl rfl rfl ?_;obtain ⟨v56,h57,hr⟩:=zaa hr;refine wa tk h57 rfl rfl rfl rfl (fun _=>rfl) rfl rfl ?_;exact cx 3 hr
  exact ox 2 hr
 .refine csx 5 hr (zSa b46.1) fun v58 _ hr=>?_
  refine iq 10 1100000 [2,4,5] (fn:=f190) ⟨func190,rfl,by kernel_rfl⟩ fun T11 ds11=>?_
  refine rn tk 9 rfl ?_;refine kwa 1004 (d:=4) 131 2 rfl rfl rfl (hO ?_);refine rn tk 6 rfl<|wnh tk rfl rfl rfl rfl<|rn tk 4 rfl ?_;refine qma (d:=13) (F:=zia.pc) (l:=b46.2) rfl rfl (hC ?_);refine aq2 0 hr [0,4,13,14] [1199999,1100002,1100004,1100005,90008000,1007,90011003,5,1002,2,90011999] (fun s61=>[(15,.i s61.1)]) (fun s61=>[(1004,.row 131 false 2 (List.map zoa.pc s61.2))]) (.exit 0) [4] [1199999,1100002,1100004,1100005,90008000,90011003,5,1002,2,90011999] (fun _=>[]) (fun b62=>[(1004,.row 131 false 2 (List.map zoa.pc b62))]) .ret [3] [1199999,1100002,1100004,1100005,90008000,90011003,5,1002,2,90011999] (fun _=>[(2,.pv (.sl (some true) []))]) (fun _=>[]) (fun s61 x65 hr=>?_) (fun b62 hr=>?_) (fun b63 hr=>?_)
  .unfold KLa at hr;refine ax 6 16 hr (fun hr=>?_) fun hr=>?_
   .refine jkq 2 [0,4,13,14,15] [1199999,1100002,1100004,1100005,90008000,1007,90011003,5,1002,2,90011999] (fun _=>[]) (fun j67=>[(1004,.row 131 false 2 (List.map zoa.pc j67))]) (fun j67=>wwa s61 j67=some x65) ?_ ?_
    .refine rn tk 4 rfl ?_;obtain ⟨v68,h69,hr⟩:=zaa hr;refine wi tk h69 rfl rfl rfl rfl rfl<|rn tk 17 rfl ?_;refine Qpa (d:=21) (F:=zia.pc) (l:=b46.2) rfl rfl (hO ?_);obtain ⟨v70,h71,hr⟩:=zaa hr;refine wlH tk h71 rfl rfl rfl (fun _=>rfl) rfl ?_;refine iq 1 9600000 [0,4,6,7,13,14,15] (fn:=Tryz.f217) ⟨func217,rfl,by kernel_rfl⟩ fun T96 ds96=>?_
     refine ctq 9 hr [] [9699999,9600000,9600004,9600013,9600014,9600015,9600006,9600007,6,1004,1199999,1100002,1100004,1100005,90008000,1007,90011003,5,1002,2,90011999] (fun j72=>[(7,.i j72)]) (fun _=>[]) (fun j72 hr jump97=>?_) (fun j72 hr=>?_)
     .refine iq 0 9700000 [] (fn:=Tryz.f232) ⟨func232,rfl,by kernel_rfl⟩ fun T97 ds97=>?_
      refine rn tk 9 rfl<|wn tk rfl rfl rfl ?_;refine aq2 4 hr [0,1,7] [9799999,9699999,9600000,9600004,9600013,9600014,9600015,9600006,9600007,6,1004,1199999,1100002,1100004,1100005,90008000,1007,90011003,5,1002,2,90011999] (fun s73=>[(8,.i s73)]) (fun _=>[]) (.exit 0) [] [9799999,9699999,9600000,9600004,9600013,9600014,9600015,9600006,9600007,6,1004,1199999,1100002,1100004,1100005,90008000,1007,90011003,5,1002,2,90011999] (fun _=>[]) (fun _=>[]) .ret [] [9799999,9699999,9600000,9600004,9600013,9600014,9600015,9600006,9600007,6,1004,1199999,1100002,1100004,1100005,90008000,1007,90011003,5,1002,2,90011999] (fun b75=>[(4,.i b75)]) (fun _=>[]) (fun s73 x77 hr=>?_) (fun b74 hr=>?_) (fun b75 hr=>?_)
      .unfold KJa at hr;refine ax 6 9 hr (fun hr=>?_) fun hr=>?_
       .refine rn tk 15 rfl ?_;obtain ⟨v79,h80,hr⟩:=zaa hr;refine wi tk h80 rfl rfl rfl rfl rfl ?_;refine iq 1 9900000 [0,1,5,7,8] (fn:=f216) ⟨func216,rfl,by kernel_rfl⟩ fun T99 ds99=>?_
        refine rn tk 2 rfl<|wo (vOa (k:=2) 2002 rfl rfl rfl rfl rfl) rfl ?_;refine clx 9 hr (z9a _ _) fun v81 _ hr=>?_
        refine ieq 4 (hO ?_);refine ax 2 16 hr (fun hr=>?_) fun hr=>?_
        .exact ox 9 hr
        exact cx 7 hr
       exact ox 2 hr
      .refine ieq 8 ?_;cases hr;exact jump97 _ _ rfl rfl
      refine ieq 2 ?_;cases hr;exact jump97 _ _ rfl rfl
     refine ieq 5 (hO ?_);refine ax 2 25 hr (fun hr=>?_) fun hr=>?_
     .refine rn tk 3 rfl<|jn s61.2 hr rfl rfl
     refine rn tk 5 rfl ?_;refine kwa 1008 (d:=8) 231 4 rfl rfl rfl (hO ?_);refine rn tk 6 rfl<|wnh tk rfl rfl rfl rfl<|rn tk 4 rfl ?_;refine qma (d:=26) (F:=zia.pc) (l:=b46.2) rfl rfl (hC ?_);refine aq1 0 hr [0,4,6,7,8,13,14,15,26,27] [6,1004,1199999,1100002,1100004,1100005,90008000,1007,90011003,5,1002,2,90011999] (fun s86=>[(28,.i s86.1)]) (fun s86=>[(1008,.row 231 false 4 (List.map zia.pc s86.2))]) (.exit 2) [0,4,6,8,13,14,15] [6,1004,1199999,1100002,1100004,1100005,90008000,1007,90011003,5,1002,2,90011999] (fun _=>[]) (fun b87=>[(1008,.row 231 false 4 (List.map zia.pc b87))]) (fun s86 x88 hr=>?_) (fun b87 hr=>?_)
     .unfold KKa at hr;refine ax 6 29 hr (fun hr=>?_) fun hr=>?_
      .refine jq 2 hr [0,4,6,7,8,13,14,15,26,27,28] [6,1004,1199999,1100002,1100004,1100005,90008000,1007,90011003,5,1002,2,90011999] (fun _=>[]) (fun j90=>[(1008,.row 231 false 4 (List.map zia.pc j90))]) (fun j90 hr=>?_) (fun j90 hr=>?_)
       .refine rn tk 3 rfl ?_;obtain ⟨v91,h92,hr⟩:=zaa hr;refine wi tk h92 rfl rfl rfl rfl rfl ?_;refine iq 9 10700000 [0,4,6,7,8,10,13,14,15,26,27,28] (fn:=f216) ⟨func216,rfl,by kernel_rfl⟩ fun T107 ds107=>?_
        refine rn tk 2 rfl<|wo (vOa (k:=2) 2002 rfl rfl rfl rfl rfl) rfl ?_;refine clx 9 hr (z9a _ _) fun v93 _ hr=>?_
        refine ieq 4 (hO ?_);refine ax 2 34 hr (fun hr=>?_) fun hr=>?_
        .refine rn tk 3 rfl<|wz zia.pc ([v91]:List zia) tk rfl rfl (fun _=>rfl) rfl rfl rfl ?_;obtain ⟨v96,h97,hr⟩:=zaa hr;refine wa tk h97 rfl rfl rfl rfl (fun _=>rfl) rfl rfl ?_;exact jx 3 hr
        exact jx 2 hr
       exact cx 4 hr
      exact ox 2 hr
     refine rn tk 5 rfl ?_;refine Qpa (d:=41) (F:=zia.pc) (l:=b87) rfl rfl (hO ?_);refine clx 0 hr (Wba _) fun v98 _ hr=>?_
     refine ax 15 46 hr (fun hr=>?_) fun hr=>?_
     .exact ox 10 hr
     refine rn tk 13 rfl<|wz zoa.pc ([(zoa.mk v68.name v98.1.Value)]:List zoa) tk rfl rfl (fun _=>rfl) rfl rfl rfl ?_;obtain ⟨v101,h102,hr⟩:=zaa hr;refine wa tk h102 rfl rfl rfl rfl (fun _=>rfl) rfl rfl<|rn tk 3 rfl<|jn v101 hr rfl rfl
    intro j67 hr;unfold wwa at hr;exact cx 4 hr
   exact ox 2 hr
  .refine ieq 10 (hO ?_);refine rn tk 6 rfl ?_;refine Y4a 90011003 ?_;refine JDa 1004 90011003 rfl rfl rfl rfl rfl rfl (hO ?_);refine rn tk 3 rfl<|drX 9 10 8 948 [3,4,5,6,7,8] [(65,.bo ((v58.s==([]:Str)))),(64,.bo ((v58.s==([]:Str)))),(63,.s v58.s),(62,.ptr 90008000 0),(61,.ptr 90008000 0),(60,.ptr 90008000 0),(59,.bo true),(58,.bo true),(57,.agg [.s v16,.s v37,.hs 90011003 0])] [(2,.ptr 2 0),(65,.bo ((v58.s==([]:Str))))] [(90011003,.row 131 false 2 (List.map zoa.pc b62)),(90008000,.cells [.s v58.s]),(5,.cells [.s v16,.s v37,.hs 90011003 0]),(1002,.row 131 false 2 (List.map zoa.pc (([]:List zoa)))),(2,.cells [.s v16,.s v37,.hs 90011003 0]),(90011999,.hold (.any) (T.getD 0 undef))] tk mixed (by kernel_rfl) rfl rfl rfl (pqX tk rfl (.plain rfl) (pqX tk rfl (.plain rfl) (pqX tk rfl (.plain rfl) (pqX tk rfl (.yes (d:=59) rfl rfl rfl rfl) (pqX tk rfl (.yes (d:=59) rfl rfl rfl rfl) (pqX tk rfl (.yes (d:=59) rfl rfl rfl rfl) (pqX tk rfl (.yes (d:=59) rfl rfl rfl rfl) (pqX tk rfl (.yes (d:=59) rfl rfl rfl rfl) (pqX tk rfl (.plain rfl) .nil))))))))) rfl rfl rfl rfl (by kernel_rfl) ?_;exact sxx 4 hr
  refine ieq 2 (hO ?_);refine rn tk 5 rfl ?_;refine zxa 1005 (o:=5) (j:=2) 131 2 rfl rfl rfl rfl (hO ?_);refine rn tk 1 rfl ?_;refine Y4a 90011003 ?_;refine JDa 1005 90011003 rfl rfl rfl rfl rfl rfl (hO ?_);refine rn tk 3 rfl<|drX 9 10 8 948 [3,4,5,6,7,8] [(65,.bo false),(64,.tup []),(63,.tup []),(62,.tup []),(61,.tup []),(60,.tup []),(59,.bo false),(58,.bo false),(57,.agg [.s v16,.s v37,.hs 90011003 0])] [(2,.ptr 2 0),(65,.bo false)] [(90011003,.row 131 false 2 (List.map zoa.pc (([]:List zoa)))),(90008000,.cells [.s v58.s]),(5,.cells [.s v16,.s v37,.hs 90011003 0]),(1002,.row 131 false 2 (List.map zoa.pc (([]:List zoa)))),(2,.cells [.s v16,.s v37,.hs 90011003 0]),(90011999,.hold (.any) (T.getD 0 undef))] tk mixed (by kernel_rfl) rfl rfl rfl (pqX tk rfl (.plain rfl) (pqX tk rfl (.plain rfl) (pqX tk rfl (.plain rfl) (.skip (.no (d:=59) rfl rfl rfl rfl) (.skip (.no (d:=59) rfl rfl rfl rfl) (.skip (.no (d:=59) rfl rfl rfl rfl) (.skip (.no (d:=59) rfl rfl rfl rfl) (.skip (.no (d:=59) rfl rfl rfl rfl) (pqX tk rfl (.plain rfl) .nil))))))))) rfl rfl rfl rfl (by kernel_rfl) ?_;exact sxx 4 hr
 exact sxx 2 hr
theorem Yba(a0:Str)(r:kua × zma)(hr:K3a a0=some r):RunS prog 115 [.s a0] [] (.tup [.agg [.s r.1.Type_,.s r.1.Sub,.hs 90011003 0],.agg [.i r.2.Code,.i r.2.Index]]) [(90011003,.row 131 false 2 (List.map zoa.pc r.1.Params))] 90011000 [90011003]:=by
 unfold K3a at hr;refine rfS (fn:=Tryz.f115) (H:=90011999) .any ⟨func115,rfl,by kernel_rfl⟩ rfl (hasT rfl) (.inr ⟨rfl,rfl⟩) rfl rfl rfl rfl fun g0 hg S sg T=>?_
 refine rn tk 3 rfl ?_;refine zxa 1002 (o:=2) (j:=2) 131 2 rfl rfl rfl rfl (hO ?_);refine ax 11 9 hr (fun hr=>?_) fun hr=>?_
 .refine clx 3 hr (zga _ _) fun v2 _ hr=>?_
  refine rn tk 1 rfl ?_;refine zxa 2002 (o:=2) (j:=2) 131 2 rfl rfl rfl rfl (hO ?_);refine rn tk 3 rfl ?_;refine WLa 2002 90011003 rfl rfl rfl rfl rfl rfl (hC ?_);exact sxx 2 hr
 refine csx 5 hr (Yaa a0) fun v4 _ hr=>?_
 refine rn tk 4 rfl ?_;refine zxa 1004 (o:=4) (j:=2) 131 2 rfl rfl rfl rfl (hO ?_);refine ax 11 18 hr (fun hr=>?_) fun hr=>?_
 .refine clx 3 hr (zga _ _) fun v7 _ hr=>?_
  refine rn tk 1 rfl ?_;refine zxa 2002 (o:=2) (j:=2) 131 2 rfl rfl rfl rfl (hO ?_);refine rn tk 3 rfl ?_;refine z8b 90011003 ?_;refine WLa 2002 90011003 rfl rfl rfl rfl rfl rfl (hC ?_);exact sxx 2 hr
 refine rn tk 6 rfl ?_;refine wCa (d' :=21) (j:=2) (F:=zoa.pc) (l:=v4.1.Params) rfl rfl rfl (hO ?_);refine clx 0 hr (v6a _) fun v9 _ hr=>?_
 refine clx 7 hr (zha _) fun v11 _ hr=>?_
 refine ax 2 24 hr (fun hr=>?_) fun hr=>?_
 .refine clx 5 hr (zga _ _) fun v14 _ hr=>?_
  refine rn tk 1 rfl ?_;refine zxa 2002 (o:=2) (j:=2) 131 2 rfl rfl rfl rfl (hO ?_);refine rn tk 3 rfl ?_;refine z8b 90011003 ?_;refine WLa 2002 90011003 rfl rfl rfl rfl rfl rfl (hC ?_);exact sxx 2 hr
 refine rn tk 3 rfl ?_;obtain ⟨v16,h17,hr⟩:=zaa hr;refine drF 1 0 [(29,.agg [.s v4.1.Type_,.s v4.1.Sub,.hs 90011003 0])] [(29,.any)] [(2,.ptr 2 0),(3,.ptr 3 0),(29,.agg [.s v4.1.Type_,.s v4.1.Sub,.hs 90011003 0]),(30,.agg [.i v16.Code,.i v16.Index])] [(6,.cells [.i v9.Code,.i v9.Index]),(1004,.row 131 false 2 (List.map zoa.pc (([]:List zoa)))),(4,.cells [.s v4.1.Type_,.s v4.1.Sub,.hs 90011003 0]),(90011003,.row 131 false 2 (List.map zoa.pc v4.1.Params)),(3,.cells [.i 0,.i 0]),(1002,.row 131 false 2 (List.map zoa.pc (([]:List zoa)))),(2,.cells [.s (([]:Str)),.s (([]:Str)),.hs 1002 0]),(90011999,.hold (.any) (T.getD 0 undef))] mixed (by kernel_rfl) rfl rfl rfl rfl rfl (pqF tk rfl (.plain rfl) .nil) rfl rfl rfl rfl rfl (fun hJ=>?_) (fun hJ=>?_) ?_
 .refine cl (zna _ h17) rfl rfl ?_;exact hJ _ _ rfl rfl
 .refine cl (zna _ h17) rfl rfl<|rn tk 1 rfl ?_;exact hJ _ _ rfl rfl
 exact sxx 5 hr
theorem wxa(a0:List zca)(r:kua × Int × Bool)(hr:woa a0=some r):RunS prog 77 [.l zca.pc a0] [] (.tup [.agg [.s r.1.Type_,.s r.1.Sub,.hs 90011003 0],.i r.2.1,.bo r.2.2]) [(90011003,.row 131 false 2 (List.map zoa.pc r.1.Params))] 90011000 [90011003]:=by
 unfold woa at hr;refine rfS (fn:=f77) (H:=90011999) .any ⟨func77,rfl,by kernel_rfl⟩ rfl (hasT rfl) (.inr ⟨rfl,rfl⟩) rfl rfl rfl rfl fun g0 hg S sg T=>?_
 refine rn tk 3 rfl ?_;refine zxa 1002 (o:=2) (j:=2) 131 2 rfl rfl rfl rfl (hO ?_);refine rn tk 13 rfl<|wn tk rfl rfl rfl ?_;refine aq2 4 hr [0,2,10,11] [1002,2,90011999] (fun s1=>[(5,.i s1.1),(12,.i s1.2)]) (fun _=>[]) (.exit 0) [0,2] [1002,2,90011999] (fun b2=>[(5,.i b2)]) (fun _=>[]) .ret [2,3,4] [90011999] (fun _=>[]) (fun _=>[(90011003,.row 131 false 2 (List.map zoa.pc (([]:List zoa)))),(2,.cells [.s (([]:Str)),.s (([]:Str)),.hs 90011003 0])]) (fun s1 x5 hr=>?_) (fun b2 hr=>?_) (fun b3 hr=>?_)
 .unfold QFa at hr;refine ax 6 13 hr (fun hr=>?_) fun hr=>?_
  .refine jkq 2 [0,2,10,11,12] [1002,2,90011999] (fun j7=>[(5,.i j7)]) (fun _=>[]) (fun j7=>yda s1 j7=some x5) ?_ ?_
   .refine rn tk 4 rfl ?_;obtain ⟨v8,h9,hr⟩:=zaa hr;refine wi tk h9 rfl rfl rfl rfl rfl ?_;refine clx 10 hr (z9a _ _) fun v10 _ hr=>?_
    refine ax 2 19 hr (fun hr=>?_) fun hr=>?_
    .refine ax 7 21 hr (fun hr=>?_) fun hr=>?_
     .refine rn tk 4 rfl ?_;refine zxa 2002 (o:=2) (j:=2) 131 2 rfl rfl rfl rfl (hO ?_);refine rn tk 4 rfl ?_;refine WLa 2002 90011003 rfl rfl rfl rfl rfl rfl (hC ?_);exact ox 4 hr
     refine rn tk 7 rfl<|jn s1.2 hr rfl rfl
    refine rn tk 2 rfl<|jn s1.1 hr rfl rfl
   intro j7 hr;unfold yda at hr;exact cx 4 hr
  exact ox 2 hr
 .refine ax 9 26 hr (fun hr=>?_) fun hr=>?_
  .refine rn tk 4 rfl ?_;refine zxa 2002 (o:=2) (j:=2) 131 2 rfl rfl rfl rfl (hO ?_);refine rn tk 4 rfl ?_;refine WLa 2002 90011003 rfl rfl rfl rfl rfl rfl (hC ?_);exact sxx 2 hr
  refine rn tk 6 rfl ?_;obtain ⟨v15,h16,hr⟩:=zaa hr;refine wi tk h16 rfl rfl rfl rfl rfl ?_;refine csx 2 hr (Yba v15.Value) fun v17 _ hr=>?_
  refine rn tk 4 rfl ?_;refine zxa 1008 (o:=8) (j:=2) 131 2 rfl rfl rfl rfl (hO ?_);refine rn tk 6 rfl ?_;obtain ⟨v19,h20,hr⟩:=zaa hr;refine drX 5 7 5 14 [1,4] [(41,.bo ((!v19))),(40,.bo v19),(39,.agg [.i v17.2.Code,.i v17.2.Index]),(38,.i b2),(37,.agg [.s v17.1.Type_,.s v17.1.Sub,.hs 90011003 0])] [(2,.ptr 2 0),(3,.i b2),(41,.bo ((!v19)))] [(9,.cells [.i v17.2.Code,.i v17.2.Index]),(1008,.row 131 false 2 (List.map zoa.pc (([]:List zoa)))),(8,.cells [.s v17.1.Type_,.s v17.1.Sub,.hs 90011003 0]),(90011003,.row 131 false 2 (List.map zoa.pc v17.1.Params)),(1002,.row 131 false 2 (List.map zoa.pc (([]:List zoa)))),(2,.cells [.s v17.1.Type_,.s v17.1.Sub,.hs 90011003 0]),(90011999,.hold (.any) (T.getD 0 undef))] tk mixed (by kernel_rfl) rfl rfl rfl (pqX tk rfl (.plain rfl) (pqX tk rfl (.plain rfl) (pqX tk rfl (.plain rfl) (.run (.plain rfl) (zAa (zha v17.2 v19 h20) rfl) (pqX tk rfl (.plain rfl) .nil))))) rfl rfl rfl rfl (by kernel_rfl) ?_;exact sxx 4 hr
 exact sxx 2 hr
theorem Q0a(a0:List zca)(r:Str × Bool)(hr:y2a a0=some r):Run prog 121 [.l zca.pc a0] (.tup [.s r.1,.bo r.2]):=by
 unfold y2a at hr;refine rfx (fn:=f121) func121 fun g0 hg=>?_
 refine csx 9 hr (wxa a0) fun v1 _ hr=>?_
 refine rn tk 5 rfl ?_;refine zxa 1004 (o:=4) (j:=2) 131 2 rfl rfl rfl rfl (hO ?_);refine jq 6 hr [4] [4,90011003] (fun j3=>[(24,.bo j3)]) (fun _=>[]) (fun j3 hr=>?_) (fun j3 hr=>?_)
 .refine bx 4 19 hr (fun c4 hr=>?_) fun c4 hr=>?_
  .exact jx 6 hr
  refine rn tk 2 rfl ?_;obtain ⟨v5,h6,hr⟩:=zaa hr;refine ug rfl rfl rfl<|cl (z9a _ _ _ h6) rfl rfl ?_;exact jx 3 hr
 refine ax 0 24 hr (fun hr=>?_) fun hr=>?_
 .exact kx 8 hr
 refine rn tk 5 rfl ?_;refine wCa (d' :=26) (j:=2) (F:=zoa.pc) (l:=v1.1.Params) rfl rfl rfl (hO ?_);refine clx 0 hr (ZKa _ _) fun v8 _ hr=>?_
 refine jq 10 hr [7,8] [] (fun j10=>[(10,.bo j10)]) (fun _=>[]) (fun j10 hr=>?_) (fun j10 hr=>?_)
 .refine bx 4 33 hr (fun c11 hr=>?_) fun c11 hr=>?_
  .refine bx 5 38 hr (fun c12 hr=>?_) fun c12 hr=>?_
   .refine rn tk 1 rfl<|ug rfl rfl rfl ?_;refine ctq 0 hr [7,8,38] [] (fun j13=>[(40,.bo j13)]) (fun _=>[]) (fun j13 hr jump4=>?_) (fun j13 hr=>?_)
    .refine iq 0 400000 [7,8,38] (fn:=f89) ⟨func89,rfl,by kernel_rfl⟩ fun T4 ds4=>?_
     refine aq2 14 hr [0,1,7] [499999,400007,400008,400038] (fun s14=>[(8,.i s14)]) (fun _=>[]) (.exit 0) [] [499999,400007,400008,400038] (fun _=>[]) (fun _=>[]) .ret [4] [499999,400007,400008,400038] (fun _=>[]) (fun _=>[]) (fun s14 x18 hr=>?_) (fun b15 hr=>?_) (fun b16 hr=>?_)
     .unfold jta at hr;refine ax 6 9 hr (fun hr=>?_) fun hr=>?_
      .refine rn tk 15 rfl ?_;obtain ⟨v20,h21,hr⟩:=zaa hr;refine ws tk h21 rfl rfl rfl rfl ?_;refine iq 0 600000 [0,1,7,8] (fn:=f163) ⟨func163,rfl,by kernel_rfl⟩ fun T6 ds6=>?_
       refine jq 5 hr [] [699999,600000,600001,600007,600008,499999,400007,400008,400038] (fun j22=>[(2,.bo j22)]) (fun _=>[]) (fun j22 hr=>?_) (fun j22 hr=>?_)
       .refine bx 4 5 hr (fun c23 hr=>?_) fun c23 hr=>?_
        .exact jx 5 hr
        exact jx 5 hr
       refine ieq 1 (hO ?_);refine ax 3 16 hr (fun hr=>?_) fun hr=>?_
       .exact ox 8 hr
       exact cx 7 hr
      exact ox 2 hr
     .refine ieq 8 ?_;cases hr;exact jump4 _ _ rfl rfl
     refine ieq 2 ?_;cases hr;exact jump4 _ _ rfl rfl
    refine bx 2 42 hr (fun c25 hr=>?_) fun c25 hr=>?_
    .refine rn tk 1 rfl ?_;obtain ⟨v26,h27,hr⟩:=zaa hr;refine ug rfl rfl rfl<|cl (wTa _ _ _ h27) rfl rfl ?_;exact jx 4 hr
    exact jx 6 hr
   exact jx 10 hr
  exact jx 15 hr
 refine jq 0 hr [] [] (fun j28=>[(2,.s v8.1),(3,.bo j28)]) (fun _=>[]) (fun j28 hr=>?_) (fun j28 hr=>?_)
 .refine bx 4 49 hr (fun c29 hr=>?_) fun c29 hr=>?_
  .exact jx 5 hr
  exact jx 5 hr
 exact kx 1 hr
def nums(l:List UInt8):List Int:=l.map fun c=>(c.toNat:Int)
theorem VBa(l:List UInt8):Lib.bytesOf (nums l)=l:=by simp[Lib.bytesOf,nums,Function.comp_def]
theorem Y5a(l:List UInt8):∀x∈nums l,0<=x/\x < 256:=by
 intro x hx;obtain ⟨c,_,rfl⟩:=jBm.1 hx;have:=c.toNat_lt;omega
theorem ysb(l:List UInt8)(i:Nat)(h:i < l.length):(nums l).getD i 0=(l[i].toNat:Int):=by simp[nums,h]
theorem Qaa{g:G}{l:List UInt8}{v:Value}(h:Rel g (.l cU l) v):∃ad cap,v=.slice ad l.length cap/\l.length<=cap/\(l≠ []->∃b off,ad=some ⟨b,off,none⟩/\∀i,i < l.length->g.w.cell? ((⟨b,off,none⟩:Addr).add i)=some (.int .u8 ((nums l).getD i 0))):=by
 cases h with
 | pv h=>
  generalize hE:l.map cU=elems at h;have hEl:elems.length=l.length:=by rw[<-hE];simp
  unfold pL at h;rw[hE]at h;cases h with
  | @sl _ _ a cap size b off val hn h0 hc hz ha hu hcell h=>
   refine ⟨a,cap,by rw[hEl],by omega,fun hne=>⟨b,off,ha (by rw[<-hE];simpa using hne),fun i hi=>?_⟩⟩;have hget:elems[i]? =some (cU l[i]):=by rw[<-hE];simp[hi]
   have hs1:size=1:=by
    have:=hz _ (jAg hget);simpa[cU]using this.symm
   subst hs1;rw[qla,hcell i (by omega),ysb l i hi];have:=h i 0 _ (.b (.int .u8 (l[i].toNat:Int))) hget rfl;simp only[jCi,jBq]at this;have e:=zTa (g:=g) (.pv this);rw[e]
theorem ZNa(a b:List UInt8)(r:Int)(hr:wja a b=some r):Run prog 146 [.l cU a,.l cU b] (.i r):=by
 unfold wja at hr;split at hr
 case isFalse=>cases hr
 rename_i hlen;cases hr;refine ⟨⟨_,_,⟨func146,rfl,by kernel_rfl⟩⟩,fun g vs hw hg ha=>?_⟩;obtain ⟨hsz,hrel⟩:=ha;obtain ⟨l⟩:=vs
 match l,hsz with
 | [x,y],_=>
  have h0:Rel g (.l cU a) x:=hrel 0 _ rfl;have h1:Rel g (.l cU b) y:=hrel 1 _ rfl;obtain ⟨ad,cap,rfl,hcap,hcell⟩:=Qaa h0;obtain ⟨ad2,cap2,rfl,hcap2,hcell2⟩:=Qaa h1;have hb2:=hlen.2;obtain ⟨b2,o2,rfl,hc2⟩:=hcell2 (by rintro rfl;simp at hb2);refine callsIn_wide.2 ?_
  suffices hs:Calls prog 146 #[.slice ad a.length cap,.slice (some ⟨b2,o2,none⟩) b.length cap2] g.w fun e w' =>e=.returned (.int .i64 (Lib.index a b))/\∃q,w' =g.w.drewN q by
   refine hs.mono ?_;rintro e w' ⟨rfl,q,rfl⟩;exact ⟨⟨g.w.drewN q,g.u,g.loc⟩,_,rfl,rfl,z3b g q,hw,rfl,.pv (.b rfl)⟩
  by_cases hs:a.length < 2
  .have hi:Lib.index a b= -1:=by
    match a,b,hs,hb2 with
    | [],[p,q],_,_=>rfl
    | [c],[p,q],_,_=>simp[Lib.index]
   rw[hi];exact (Tryz.bytes_Index_longer ad (some ⟨b2,o2,none⟩) a.length cap b.length cap2 g.w (by omega) (by omega) (by omega)).mono fun e w' ⟨h1,h2⟩=>⟨h1,0,h2⟩
  obtain ⟨b1,o1,rfl,hc1⟩:=hcell (by rintro rfl;simp at hs);obtain ⟨_,_,m,hm⟩:=hg.1 (1,0) (by simp[vWb]);have:=Tryz.bytes_Index_at ⟨b1,o1,none⟩ ⟨b2,o2,none⟩ a.length cap b.length cap2 (nums a) (nums b) m g.w (by simp[nums]) (by simp[nums]) (Y5a a) (Y5a b) hc1 hc2 hcap hlen.1 (by omega) hm;rw[VBa,VBa]at this;exact this
theorem kcb{g:G}{s:Str}{v:Value}(h:Rel g (.s s) v):v=.string (strB s):=zTa h
theorem qjb{g:G}{w' :World}(h:Below g.w.heap.size g.w w'):Old (fun _=>False) g ⟨w',g.u,g.loc⟩:=
 ⟨h.os,h.tape,h.output,⟨h.size,fun _ _=>jAt _,fun k i hk _=>by simp only[World.cell?];rw[h.block k hk],fun r hr=>(h.block r (zCa hr)).trans hr⟩,fun k hk _=>⟨h.block k hk,rfl⟩⟩
theorem wUa(s t:Str)(r:Str)(hr:q8a s t=some r):Run prog 196 [.s s,.s t] (.s r):=by
 unfold q8a at hr;split at hr
 case isFalse=>cases hr
 rename_i hc;obtain ⟨h1,h2,h3⟩:=hc;cases hr;refine ⟨⟨_,_,⟨func196,rfl,by kernel_rfl⟩⟩,fun g vs hw hg ha=>?_⟩;obtain ⟨hsz,hrel⟩:=ha;obtain ⟨l⟩:=vs
 match l,hsz with
 | [x,y],_=>
  obtain rfl:=kcb (hrel 0 _ rfl);obtain rfl:=kcb (hrel 1 _ rfl);have h116:(prog.info? 261).map (fun i=>(i.zero,i.size))=some (some (.agg (Array.replicate 256 (.bool false))),256):=by kernel_rfl
  refine callsIn_wide.2 ((Any.strings_TrimRight_laid Tryz.lays162 h116 (strB s) (strB t) g.w (by rw[zwa];exact h1) (by rw[zwa];exact h2) (ascii_of_all (by simpa[YQa,strB]using h3))).mono ?_);rintro e w' ⟨rfl,hb⟩;refine ⟨⟨w',g.u,g.loc⟩,_,rfl,(by intros;rfl),qjb hb,fun k hk=>hw k (jBk hb.size hk),rfl,?_⟩;rw[show (strB s).data.toList=s by simp[strB],show (strB t).data.toList=t by simp[strB]];exact .pv (.b rfl)
theorem Yya(a0:Str)(a1:Str)(r:Int)(hr:Vpa a0 a1=some r):Run prog 164 [.s a0,.s a1] (.i r):=by
 unfold Vpa at hr;refine rfx (fn:=f164) func164 fun g0 hg=>?_
 refine clx 9 hr (wUa _ _) fun v1 _ hr=>?_
 refine rn tk 6 rfl ?_;obtain ⟨v3,h4,hr⟩:=zaa hr;refine wc h4 rfl rfl rfl ?_;refine ax 4 7 hr (fun hr=>?_) fun hr=>?_
 .exact kx 8 hr
 refine rn tk 3 rfl ?_;obtain ⟨v6,h7,hr⟩:=zaa hr;refine wc h7 rfl rfl rfl ?_;obtain ⟨v8,h9,hr⟩:=zaa hr;refine wc h9 rfl rfl rfl ?_;refine ax 4 11 hr (fun hr=>?_) fun hr=>?_
 .exact kx 8 hr
 exact kx 9 hr
theorem Qba(a0:List UInt8)(a1:Str)(r:List (List UInt8))(hr:yza a0 a1=some r):Run prog 122 [.l cU a0,.s a1] (.l (cL cU) r):=by
 unfold yza at hr;refine rfx (fn:=f122) func122 fun g0 hg=>?_
 refine rn tk 10 rfl ?_;refine zxa 1005 (o:=5) (j:=0) 24 1 rfl rfl rfl rfl (hO ?_);refine iq 12 700000 [2,3,4,5,6] (fn:=f112) ⟨func112,rfl,by kernel_rfl⟩ fun T7 ds7=>?_
 refine ieq 13 (hO ?_);refine rn tk 3 rfl ?_;refine Z8a (fn0:=Tryz.f145) 800000 899998 899999 [(2,.ptr 2 0),(3,.ptr 3 0),(4,.ptr 4 0),(5,.ptr 5 0),(6,.ptr 6 0),(11,.fn (.func 145) [] [.ptr 1 0])] rfl rfl rfl ⟨func145,rfl,by kernel_rfl⟩ rfl rfl rfl rfl rfl (.cons rfl (.cons rfl (.cons rfl (.cons rfl (.cons rfl (.cons rfl .nil)))))) fun T8 rb8 L8 ds8 hT8 hLs8 hLp8 hLt8 hLq8 hLa8 hLb8=>hB Wra ?_
 refine aq2 6 hr [0,1] [899999,899998,800002,800003,800004,800005,800006,800011,1,5,3,2] (fun s1=>[(3,.i s1.1)]) (fun s1=>[(6,.cells [.i s1.2.1]),(1005,.row 24 false 1 (List.map (cL cU) s1.2.2)),(4,.cells [.pv (.sl (some true) [])])]) (.exit 0) [] [899999,899998,800002,800003,800004,800005,800006,800011,1,5,3,2] (fun _=>[]) (fun b2=>[(6,.cells [.i b2.1]),(1005,.row 24 false 1 (List.map (cL cU) b2.2)),(4,.cells [.pv (.sl (some true) [])])]) .ret [] [899999,800002,800003,800004,800005,800006,800011,1,5,3,2] (fun _=>[]) (fun b3=>[(899998,.lp rb8 ((stop L8 .ret))),(6,.cells [.i b3.1]),(1005,.row 24 false 1 (List.map (cL cU) b3.2.1)),(4,.cells [.l (cL cU) b3.2.2])]) (fun s1 x5 hr=>?_) (fun b2 hr=>?_) (fun b3 hr=>?_)
 .unfold yTa at hr;refine rn tk 5 rfl<|wn tk rfl rfl rfl ?_;refine ax 3 10 hr (fun hr=>?_) fun hr=>?_
  .refine rn tk 7 rfl ?_;obtain ⟨v7,h8,hr⟩:=zaa hr;refine wlL tk h8 rfl rfl rfl (fun _=>rfl) rfl ?_;refine yPa rfl (Qra (F:=cU) (l:=([(13:UInt8),(10:UInt8)]:List UInt8)) zra zJa rfl (fun _=>rfl) rfl rfl) zra zJa (zMa rfl) (zMa rfl) rfl (hO ?_);refine clx 0 hr (ZNa _ _) fun v9 _ hr=>?_
   refine rn tk 6 rfl<|wn tk rfl rfl rfl ?_;refine jq 9 hr [0,1,3] [899999,899998,800002,800003,800004,800005,800006,800011,1,6,1005,5,3,2] (fun j11=>[(5,.i j11.1),(6,.i j11.2)]) (fun _=>[(4,.cells [.pv (.sl (some true) [])])]) (fun j11 hr=>?_) (fun j11 hr=>?_)
   .refine ax 6 21 hr (fun hr=>?_) fun hr=>?_
    .exact jx 11 hr
    exact jx 1 hr
   refine rn tk 8 rfl ?_;obtain ⟨v13,h14,hr⟩:=zaa hr;refine wlLH tk h14 rfl rfl rfl rfl (fun _=>rfl) rfl<|wb tk rfl rfl rfl ?_;refine wfa (ps:=[12,13]) (args:=[.i s1.1,.s v13]) 800000 1200000 899998 1299999 [(2,.ptr 2 0),(3,.ptr 3 0),(4,.ptr 4 0),(5,.ptr 5 0),(6,.ptr 6 0),(11,.fn (.func 145) [] [.ptr 1 0])] [(0,.fn (.yield rb8) [] []),(1,.ptr 1 0),(6,.i j11.2)] (zMa rfl) rfl rfl hLs8 hLp8 hLt8 hLq8 hLa8 hLb8 hT8 rfl rfl rfl rfl (.cons rfl (.cons rfl (.cons rfl .nil))) (.cons rfl (.cons rfl (.cons rfl (.cons rfl (.cons rfl (.cons rfl .nil)))))) fun T12 ds12 hT12=>hB Kca ?_
   refine rn tk 8 rfl ?_;refine asgK kEa zta rfl (hB Kba ?_);refine clx 5 hr (Yya _ _) fun v15 _ hr=>?_
   refine ax 10 18 hr (fun hr=>?_) fun hr=>?_
   .refine rn tk 3 rfl ?_;refine rndK (fr' :=[]) (fr'' :=[(0,.fn (.yield rb8) [] []),(1,.ptr 1 0),(6,.i j11.2)]) (σ'' :=[(899999,.sus g0.w.heap.size ds8),(899998,.lp rb8 L8),(800002,.hold (.ptr 2 0) (T8.getD 2 undef)),(800003,.hold (.ptr 3 0) (T8.getD 3 undef)),(800004,.hold (.ptr 4 0) (T8.getD 4 undef)),(800005,.hold (.ptr 5 0) (T8.getD 5 undef)),(800006,.hold (.ptr 6 0) (T8.getD 6 undef)),(800011,.hold (.fn (.func 145) [] [.ptr 1 0]) (T8.getD 11 undef)),(1,.cells [.l cU a0]),(6,.cells [.i s1.2.1]),(1005,.row 24 false 1 (List.map (cL cU) s1.2.2)),(5,.cells [.hs 1005 0]),(4,.cells [.pv (.sl (some true) [])]),(3,.cells [.s a1]),(2,.cells [.l cU a0])]) .off zta rfl (.cons rfl (.cons rfl (.cons rfl .nil))) rfl (zba rfl (zba rfl (zba rfl (zba rfl (zba rfl (zba rfl (zba rfl (zba rfl (zba rfl (zba rfl (zba rfl (zba rfl (zba rfl (zba rfl (zba rfl zBa))))))))))))))) (hO ?_);exact cx 11 hr
   refine jq 2 hr [2,4,5,6,7,8,9] [1299999,1200000,1200001,1200006,899999,899998,800002,800003,800004,800005,800006,800011,1,6,5,3,2] (fun _=>[]) (fun j18=>[(1005,.row 24 false 1 (List.map (cL cU) j18)),(4,.cells [.pv (.sl (some true) [])])]) (fun j18 hr=>?_) (fun j18 hr=>?_)
   .refine ax 6 20 hr (fun hr=>?_) fun hr=>?_
    .obtain ⟨v20,h21,hr⟩:=zaa hr;refine dq 0 9 [] [(6,.i ((max s1.2.1 ((w64 (s1.1 - 2)))))),(7,.l cU v20),(8,.l (cL cU) (([v20]:List (List UInt8))))] .nil (.cons rfl rfl (kaa (qwb rfl rfl)) (.cons rfl rfl (kaa (qub (F:=cU) rfl rfl rfl zra zJa (fun _=>rfl) h21)) (.cons rfl rfl (KXa (F:=(cL cU)) (l:=([v20]:List (List UInt8))) Zsa zra rfl (fun _=>rfl) rfl rfl) .nil))) ?_ mixed;obtain ⟨v22,h23,hr⟩:=zaa hr;refine wa tk h23 rfl rfl rfl rfl (fun _=>rfl) rfl rfl ?_;exact jx 2 hr
    exact jx 1 hr
   refine ax 7 32 hr (fun hr=>?_) fun hr=>?_
   .refine rn tk 6 rfl ?_;refine Qqa (o:=4) (j:=0) (F:=(cL cU)) (l:=j18) rfl rfl rfl (hC ?_);refine rn tk 3 rfl ?_;refine rndK (fr' :=[]) (fr'' :=[(0,.fn (.yield rb8) [] []),(1,.ptr 1 0),(6,.i j11.2)]) (σ'' :=[(899999,.sus g0.w.heap.size ds8),(899998,.lp rb8 ((stop L8 .ret))),(800002,.hold (.ptr 2 0) (T8.getD 2 undef)),(800003,.hold (.ptr 3 0) (T8.getD 3 undef)),(800004,.hold (.ptr 4 0) (T8.getD 4 undef)),(800005,.hold (.ptr 5 0) (T8.getD 5 undef)),(800006,.hold (.ptr 6 0) (T8.getD 6 undef)),(800011,.hold (.fn (.func 145) [] [.ptr 1 0]) (T8.getD 11 undef)),(1,.cells [.l cU a0]),(6,.cells [.i s1.2.1]),(1005,.row 24 false 1 (List.map (cL cU) j18)),(5,.cells [.hs 1005 0]),(4,.cells [.l (cL cU) j18]),(3,.cells [.s a1]),(2,.cells [.l cU a0])]) .ret zta rfl (.cons rfl (.cons rfl (.cons rfl .nil))) rfl (zba rfl (zba rfl (zba rfl (zba rfl (zba rfl (zba rfl (zba rfl (zba rfl (zba rfl (zba rfl (zba rfl (zba rfl (zba rfl (zba rfl (zba rfl zBa))))))))))))))) (hO ?_);exact ox 7 hr
   refine rn tk 9 rfl<|wn tk rfl rfl rfl<|wq (ev_min rfl rfl) rfl rfl rfl<|rn tk 3 rfl ?_;refine rndK (fr' :=[]) (fr'' :=[(0,.fn (.yield rb8) [] []),(1,.ptr 1 0),(6,.i j11.2)]) (σ'' :=[(899999,.sus g0.w.heap.size ds8),(899998,.lp rb8 L8),(800002,.hold (.ptr 2 0) (T8.getD 2 undef)),(800003,.hold (.ptr 3 0) (T8.getD 3 undef)),(800004,.hold (.ptr 4 0) (T8.getD 4 undef)),(800005,.hold (.ptr 5 0) (T8.getD 5 undef)),(800006,.hold (.ptr 6 0) (T8.getD 6 undef)),(800011,.hold (.fn (.func 145) [] [.ptr 1 0]) (T8.getD 11 undef)),(1,.cells [.l cU a0]),(6,.cells [.i ((min ((w64 ((w64 (s1.1+(v13.length:Int)))+2))) ((a0.length:Int))))]),(1005,.row 24 false 1 (List.map (cL cU) j18)),(5,.cells [.hs 1005 0]),(4,.cells [.pv (.sl (some true) [])]),(3,.cells [.s a1]),(2,.cells [.l cU a0])]) .off zta rfl (.cons rfl (.cons rfl (.cons rfl .nil))) rfl (zba rfl (zba rfl (zba rfl (zba rfl (zba rfl (zba rfl (zba rfl (zba rfl (zba rfl (zba rfl (zba rfl (zba rfl (zba rfl (zba rfl (zba rfl zBa))))))))))))))) (hO ?_);exact cx 11 hr
  exact ox 2 hr
 .refine rn tk 1 rfl ?_;refine itrK (fr' :=[]) (L' :=L8) (fr'' :=[(2,.ptr 2 0),(3,.ptr 3 0),(4,.ptr 4 0),(5,.ptr 5 0),(6,.ptr 6 0),(11,.fn (.func 145) [] [.ptr 1 0])]) (σ'' :=[(1,.cells [.l cU a0]),(6,.cells [.i b2.1]),(1005,.row 24 false 1 (List.map (cL cU) b2.2)),(5,.cells [.hs 1005 0]),(4,.cells [.pv (.sl (some true) [])]),(3,.cells [.s a1]),(2,.cells [.l cU a0])]) (.inr rfl) zta rfl (.cons rfl (.cons rfl (.cons rfl (.cons rfl (.cons rfl (.cons rfl .nil)))))) rfl (zba rfl (zba rfl (zba rfl (zba rfl (zba rfl (zba rfl (zba rfl zBa))))))) rfl<|.off (hA ?_);refine jq 2 hr [4,5] [5] (fun _=>[]) (fun j25=>[(1005,.row 24 false 1 (List.map (cL cU) j25)),(4,.cells [.pv (.sl (some true) [])])]) (fun j25 hr=>?_) (fun j25 hr=>?_)
  .refine ax 6 43 hr (fun hr=>?_) fun hr=>?_
   .obtain ⟨v27,h28,hr⟩:=zaa hr;refine dq 0 5 [] [(3,.l cU v27),(4,.l (cL cU) (([v27]:List (List UInt8))))] .nil (.cons rfl rfl (kaa (wcb (F:=cU) rfl rfl zra zJa (fun _=>rfl) h28)) (.cons rfl rfl (KXa (F:=(cL cU)) (l:=([v27]:List (List UInt8))) Zsa zra rfl (fun _=>rfl) rfl rfl) .nil)) ?_ mixed;obtain ⟨v29,h30,hr⟩:=zaa hr;refine wa tk h30 rfl rfl rfl rfl (fun _=>rfl) rfl rfl ?_;exact jx 2 hr
   exact jx 1 hr
  refine rn tk 6 rfl ?_;refine Qqa (o:=4) (j:=0) (F:=(cL cU)) (l:=j25) rfl rfl rfl (hC ?_);exact kx 1 hr
 refine rn tk 1 rfl ?_;refine itrK (fr' :=[]) (L' :=(stop L8 .ret)) (fr'' :=[(2,.ptr 2 0),(3,.ptr 3 0),(4,.ptr 4 0),(5,.ptr 5 0),(6,.ptr 6 0),(11,.fn (.func 145) [] [.ptr 1 0])]) (σ'' :=[(1,.cells [.l cU a0]),(6,.cells [.i b3.1]),(1005,.row 24 false 1 (List.map (cL cU) b3.2.1)),(5,.cells [.hs 1005 0]),(4,.cells [.l (cL cU) b3.2.2]),(3,.cells [.s a1]),(2,.cells [.l cU a0])]) (.inl rfl) zta rfl (.cons rfl (.cons rfl (.cons rfl (.cons rfl (.cons rfl (.cons rfl .nil)))))) rfl (zba rfl (zba rfl (zba rfl (zba rfl (zba rfl (zba rfl (zba rfl zBa))))))) rfl<|.jump (hC ?_);exact kx 3 hr
theorem v7a(a0:List zca)(a1:List UInt8)(a2:Int)(r:List (List UInt8))(hr:vBa a0 a1 a2=some r):Run prog 85 [.l zca.pc a0,.l cU a1,.i a2] (.l (cL cU) r):=by
 unfold vBa at hr;refine rfx (fn:=f85) func85 fun g0 hg=>?_
 refine clx 8 hr (Q0a _) fun v1 _ hr=>?_
 refine jq 8 hr [1,7] [] (fun j3=>[(19,.bo j3)]) (fun _=>[]) (fun j3 hr=>?_) (fun j3 hr=>?_)
 .refine bx 4 16 hr (fun c4 hr=>?_) fun c4 hr=>?_
  .exact jx 4 hr
  exact jx 4 hr
 refine ax 0 19 hr (fun hr=>?_) fun hr=>?_
 .exact kx 7 hr
 refine clx 6 hr (Qba _ _) fun v6 _ hr=>?_
 exact kx 4 hr
theorem Q1a(a0:qFa)(r:Int)(hr:qJa a0=some r):Run prog 72 [.agg [.l zca.pc a0.part.Fields,.l cU a0.part.Body,.pv (.sl none []),.i a0.depth]] (.i r):=by
 unfold qJa at hr;refine rfx (fn:=f72) func72 fun g0 hg=>?_
 refine clx 19 hr (qxa _) fun v1 _ hr=>?_
 refine clx 7 hr (zha _) fun v3 _ hr=>?_
 refine ax 2 12 hr (fun hr=>?_) fun hr=>?_
 .exact kx 9 hr
 refine rn tk 7 rfl<|wq (VAa rfl kUa.u) rfl rfl rfl<|rn tk 11 rfl<|wn tk rfl rfl rfl ?_;refine ax 3 24 hr (fun hr=>?_) fun hr=>?_
 .exact kx 7 hr
 refine clx 7 hr (y9a _) fun v7 _ hr=>?_
 refine ax 9 29 hr (fun hr=>?_) fun hr=>?_
 .exact kx 8 hr
 refine clx 11 hr (v7a _ _ _) fun v10 _ hr=>?_
 refine wn tk rfl rfl rfl ?_;refine ax 3 39 hr (fun hr=>?_) fun hr=>?_
 .exact kx 7 hr
 exact kx 8 hr
theorem Yca(a0:zoa)(r:Str)(hr:yya a0=some r):Run prog 117 [.agg [.s a0.Name,.s a0.Value]] (.s r):=by
 unfold yya at hr;refine rfx (fn:=Tryz.f117) func117 fun g0 hg=>?_
 refine clx 11 hr (v5a _) fun v1 _ hr=>?_
 refine ax 2 8 hr (fun hr=>?_) fun hr=>?_
 .refine rn tk 4 rfl ?_;obtain ⟨v4,h5,hr⟩:=zaa hr;refine wc h5 rfl rfl rfl ?_;obtain ⟨v6,h7,hr⟩:=zaa hr;refine wc h7 rfl rfl rfl<|rn tk 2 rfl ?_;obtain ⟨v8,h9,hr⟩:=zaa hr;refine wc h9 rfl rfl rfl ?_;exact kx 5 hr
 refine jq 3 hr [1] [1] (fun j10=>[(24,.bo j10)]) (fun _=>[]) (fun j10 hr=>?_) (fun j10 hr=>?_)
 .refine bx 6 20 hr (fun c11 hr=>?_) fun c11 hr=>?_
  .refine rn tk 2 rfl<|ug rfl rfl rfl ?_;refine ctq 0 hr [1,20] [1] (fun j12=>[(23,.bo j12)]) (fun _=>[]) (fun j12 hr jump4=>?_) (fun j12 hr=>?_)
   .refine iq 0 400000 [1,20] (fn:=f89) ⟨func89,rfl,by kernel_rfl⟩ fun T4 ds4=>?_
    refine aq2 14 hr [0,1,7] [499999,400001,400020,1] (fun s13=>[(8,.i s13)]) (fun _=>[]) (.exit 0) [] [499999,400001,400020,1] (fun _=>[]) (fun _=>[]) .ret [4] [499999,400001,400020,1] (fun _=>[]) (fun _=>[]) (fun s13 x17 hr=>?_) (fun b14 hr=>?_) (fun b15 hr=>?_)
    .unfold KNa at hr;refine ax 6 9 hr (fun hr=>?_) fun hr=>?_
     .refine rn tk 15 rfl ?_;obtain ⟨v19,h20,hr⟩:=zaa hr;refine ws tk h20 rfl rfl rfl rfl ?_;refine iq 0 600000 [0,1,7,8] (fn:=f154) ⟨func154,rfl,by kernel_rfl⟩ fun T6 ds6=>?_
      refine jq 5 hr [] [699999,600000,600001,600007,600008,499999,400001,400020,1] (fun j21=>[(2,.bo j21)]) (fun _=>[]) (fun j21 hr=>?_) (fun j21 hr=>?_)
      .refine bx 4 5 hr (fun c22 hr=>?_) fun c22 hr=>?_
       .exact jx 5 hr
       exact jx 5 hr
      refine ieq 1 (hO ?_);refine ax 3 16 hr (fun hr=>?_) fun hr=>?_
      .exact ox 8 hr
      exact cx 7 hr
     exact ox 2 hr
    .refine ieq 8 ?_;cases hr;exact jump4 _ _ rfl rfl
    refine ieq 2 ?_;cases hr;exact jump4 _ _ rfl rfl
   exact jx 2 hr
  exact jx 5 hr
 refine ax 0 24 hr (fun hr=>?_) fun hr=>?_
 .refine rn tk 1 rfl ?_;obtain ⟨v25,h26,hr⟩:=zaa hr;obtain ⟨v27,h28,hr⟩:=zaa hr;cases hr
 refine rn tk 12 rfl ?_;cases hr
theorem yGa(a0:kua)(r:Str × zma)(hr:q0a a0=some r):Run prog 79 [.agg [.s a0.Type_,.s a0.Sub,.l zoa.pc a0.Params]] (.tup [.s r.1,.agg [.i r.2.Code,.i r.2.Index]]):=by
 unfold q0a at hr;refine rfx (fn:=f79) func79 fun g0 hg=>?_
 refine clx 11 hr (v6a _) fun v1 _ hr=>?_
 refine clx 7 hr (zha _) fun v3 _ hr=>?_
 refine ax 2 11 hr (fun hr=>?_) fun hr=>?_
 .refine dq 1 2 [] [] .nil .nil ?_ mixed;exact kx 5 hr
 refine rn tk 6 rfl ?_;obtain ⟨v6,h7,hr⟩:=zaa hr;refine wc h7 rfl rfl rfl<|rn tk 2 rfl ?_;obtain ⟨v8,h9,hr⟩:=zaa hr;refine wc h9 rfl rfl rfl<|rn tk 8 rfl<|wn tk rfl rfl rfl ?_;refine aq1 4 hr [3,20,21] [3] (fun s10=>[(5,.s s10.1),(22,.i s10.2)]) (fun _=>[]) (.exit 0) [3] [3] (fun b11=>[(5,.s b11)]) (fun _=>[]) (fun s10 x12 hr=>?_) (fun b11 hr=>?_)
 .unfold vpa at hr;refine ax 6 23 hr (fun hr=>?_) fun hr=>?_
  .refine rn tk 6 rfl ?_;obtain ⟨v14,h15,hr⟩:=zaa hr;refine wi tk h15 rfl rfl rfl rfl rfl ?_;refine clx 8 hr (Yca _) fun v16 _ hr=>?_
   obtain ⟨v18,h19,hr⟩:=zaa hr;refine wc h19 rfl rfl rfl ?_;exact cx 8 hr
  exact ox 2 hr
 refine ax 10 33 hr (fun hr=>?_) fun hr=>?_
 .refine clx 2 hr (zga _ _) fun v21 _ hr=>?_
  exact kx 6 hr
 refine clx 5 hr zna fun v23 _ hr=>?_
 exact kx 5 hr
theorem Q2a(a0:zka)(r:Int)(hr:vqa a0=some r):Run prog 108 [.agg [.l zca.pc a0.Fields,.l cU a0.Body,.l (zka.pcn 0) a0.Parts]] (.i r):=by
 unfold vqa at hr;refine rfx (fn:=f108) func108 fun g0 hg=>?_
 refine csx 10 hr (wxa a0.Fields) fun v1 _ hr=>?_
 refine rn tk 5 rfl ?_;refine zxa 1003 (o:=3) (j:=2) 131 2 rfl rfl rfl rfl (hO ?_);refine jq 6 hr [1,3,4] [3,90011003,1] (fun j3=>[(31,.bo j3)]) (fun _=>[]) (fun j3 hr=>?_) (fun j3 hr=>?_)
 .refine rn tk 3 rfl<|wn tk rfl rfl rfl ?_;refine bx 2 22 hr (fun c4 hr=>?_) fun c4 hr=>?_
  .exact jx 10 hr
  refine bx 4 26 hr (fun c5 hr=>?_) fun c5 hr=>?_
  .exact jx 6 hr
  refine rn tk 2 rfl ?_;obtain ⟨v6,h7,hr⟩:=zaa hr;refine ug rfl rfl rfl<|cl (z9a _ _ _ h7) rfl rfl ?_;exact jx 3 hr
 refine ax 0 31 hr (fun hr=>?_) fun hr=>?_
 .exact kx 7 hr
 refine rn tk 5 rfl ?_;refine wCa (d' :=33) (j:=2) (F:=zoa.pc) (l:=v1.1.Params) rfl rfl rfl (hO ?_);refine clx 0 hr (ZKa _ _) fun v9 _ hr=>?_
 refine rn tk 13 rfl ?_;refine wCa (d' :=39) (j:=2) (F:=zoa.pc) (l:=v1.1.Params) rfl rfl rfl (hO ?_);refine clx 0 hr (yGa _) fun v11 _ hr=>?_
 refine jq 9 hr [] [] (fun j13=>[(68,.bo j13)]) (fun _=>[]) (fun j13 hr=>?_) (fun j13 hr=>?_)
 .refine bx 3 44 hr (fun c14 hr=>?_) fun c14 hr=>?_
  .exact jx 25 hr
  refine rn tk 2 rfl<|ug rfl rfl rfl<|wnh tk rfl rfl rfl rfl ?_;refine bx 3 50 hr (fun c15 hr=>?_) fun c15 hr=>?_
  .exact jx 19 hr
  refine rn tk 1 rfl ?_;obtain ⟨v16,h17,hr⟩:=zaa hr;refine ug rfl rfl rfl<|cl (zha _ _ h17) rfl rfl ?_;refine bx 2 54 hr (fun c18 hr=>?_) fun c18 hr=>?_
  .exact jx 15 hr
  refine rn tk 4 rfl ?_;obtain ⟨v19,h20,hr⟩:=zaa hr;refine ug rfl rfl rfl<|wi tk h20 rfl rfl rfl rfl rfl ?_;refine bx 5 64 hr (fun c21 hr=>?_) fun c21 hr=>?_
  .exact jx 5 hr
  exact jx 5 hr
 refine ax 0 68 hr (fun hr=>?_) fun hr=>?_
 .exact kx 7 hr
 exact kx 8 hr
theorem Q3a(a0:qFa)(r:Int)(hr:vra a0=some r):Run prog 72 [.agg [.l zca.pc a0.part.Fields,.l cU a0.part.Body,.l (zka.pcn 0) a0.part.Parts,.i a0.depth]] (.i r):=by
 unfold vra at hr;refine rfx (fn:=f72) func72 fun g0 hg=>?_
 refine clx 19 hr (qxa _) fun v1 _ hr=>?_
 refine clx 7 hr (zha _) fun v3 _ hr=>?_
 refine ax 2 12 hr (fun hr=>?_) fun hr=>?_
 .exact kx 9 hr
 refine rn tk 7 rfl<|wn tk rfl rfl rfl ?_;refine ax 3 18 hr (fun hr=>?_) fun hr=>?_
 .refine clx 3 hr (Q2a _) fun v7 _ hr=>?_
  exact kx 5 hr
 refine rn tk 7 rfl<|wn tk rfl rfl rfl ?_;refine ax 3 24 hr (fun hr=>?_) fun hr=>?_
 .exact kx 7 hr
 refine clx 7 hr (y9a _) fun v10 _ hr=>?_
 refine ax 9 29 hr (fun hr=>?_) fun hr=>?_
 .exact kx 8 hr
 refine clx 11 hr (v7a _ _ _) fun v13 _ hr=>?_
 refine wn tk rfl rfl rfl ?_;refine ax 3 39 hr (fun hr=>?_) fun hr=>?_
 .exact kx 7 hr
 exact kx 8 hr
theorem wVa(a0:zka)(r:zma)(hr:kLa a0=some r):Run prog 43 [.agg [.l zca.pc a0.Fields,.l cU a0.Body,.l (zka.pcn 0) a0.Parts]] (.agg [.i r.Code,.i r.Index]):=by
 unfold kLa at hr;refine rfx (fn:=f43) func43 fun g0 hg=>?_
 refine iq 16 1100000 [1,2,3] (fn:=f71) ⟨func71,rfl,by kernel_rfl⟩ fun T11 ds11=>?_
 refine rn tk 2 rfl<|wo (vOa (k:=1) 1001 rfl rfl rfl rfl rfl) rfl ?_;refine ieq 10 (hO ?_);refine rn tk 3 rfl ?_;refine Z8a (fn0:=f106) 1200000 1299998 1299999 [(1,.ptr 1 0),(2,.ptr 2 0),(3,.ptr 3 0),(10,.fn (.func 106) [] [.ptr 1001 0])] rfl rfl rfl ⟨func106,rfl,by kernel_rfl⟩ rfl rfl rfl rfl rfl (.cons rfl (.cons rfl (.cons rfl (.cons rfl .nil)))) fun T12 rb12 L12 ds12 hT12 hLs12 hLp12 hLt12 hLq12 hLa12 hLb12=>hB Wra ?_
 refine rn tk 2 rfl<|wo (vOa (k:=2) 1002 rfl rfl rfl rfl rfl) rfl<|rn tk 4 rfl<|wo (jda (k:=3) 1003 rfl w4a (.inl rfl) rfl rfl rfl) rfl ?_;refine iq 17 1300000 [] (fn:=f107) ⟨func107,rfl,by kernel_rfl⟩ fun T13 ds13=>?_
 refine rn tk 14 rfl ?_;refine wfa (ps:=[11,12]) (args:=[.i 0,.agg [.l zca.pc a0.Fields,.l cU a0.Body,.l (zka.pcn 0) a0.Parts,.i 0]]) 1200000 1400000 1299998 1499999 [(1,.ptr 1 0),(2,.ptr 2 0),(3,.ptr 3 0),(10,.fn (.func 106) [] [.ptr 1001 0])] [(1,.i 0),(3,.ptr 1003 0),(4,.ptr 4 0),(5,.ptr 5 0)] (zMa rfl) rfl rfl hLs12 hLp12 hLt12 hLq12 hLa12 hLb12 hT12 rfl rfl rfl rfl (.cons rfl (.cons rfl (.cons rfl (.cons rfl .nil)))) (.cons rfl (.cons rfl (.cons rfl (.cons rfl .nil)))) fun T14 ds14 hT14=>hB Kca ?_
 refine rn tk 6 rfl<|wo (jda (k:=5) 1005 rfl wWa (.inr ⟨rfl,rfl⟩) rfl rfl rfl) rfl<|rn tk 2 rfl ?_;refine asgK kEa zta rfl (hB Kba ?_);refine rn tk 21 rfl ?_;refine rndK (fr' :=[]) (fr'' :=[(1,.i 0),(3,.ptr 1003 0),(4,.ptr 4 0),(5,.ptr 5 0)]) (σ'' :=[(1005,.cells [.l zca.pc a0.Fields,.l cU a0.Body,.l (zka.pcn 0) a0.Parts,.i 0]),(5,.cells [.l zca.pc a0.Fields,.l cU a0.Body,.l (zka.pcn 0) a0.Parts]),(1399999,.sus g0.w.heap.size ds13),(4,.cells [.fn (.func 107) [] [.ptr 1002 0,.ptr 1003 0,.ptr 4 0]]),(1003,.cells [.i 0]),(1002,.cells [.fn (.yield rb12) [] []]),(1299999,.sus g0.w.heap.size ds12),(1299998,.lp rb12 L12),(1200001,.hold (.ptr 1 0) (T12.getD 1 undef)),(1200002,.hold (.ptr 2 0) (T12.getD 2 undef)),(1200003,.hold (.ptr 3 0) (T12.getD 3 undef)),(1200010,.hold (.fn (.func 106) [] [.ptr 1001 0]) (T12.getD 10 undef)),(1001,.cells [.l zca.pc a0.Fields,.l cU a0.Body,.l (zka.pcn 0) a0.Parts]),(3,.cells [.bo false]),(2,.cells [.i 0,.i 0]),(1,.cells [.l zca.pc a0.Fields,.l cU a0.Body,.l (zka.pcn 0) a0.Parts])]) .off zta rfl (.cons rfl (.cons rfl (.cons rfl (.cons rfl .nil)))) rfl (zba rfl (zba rfl (zba rfl (zba rfl (zba rfl (zba rfl (zba rfl (zba rfl (zba rfl (zba rfl (zba rfl (zba rfl (zba rfl (zba rfl (zba rfl (zba rfl zBa)))))))))))))))) (hO ?_);refine rn tk 18 rfl<|wn tk rfl rfl rfl ?_;refine aq2 4 hr [1,4,20,21] [1399999,4,1002,1299999,1299998,1200001,1200002,1200003,1200010,1001,2,1] (fun s1=>[(22,.i s1.1)]) (fun s1=>[(1003,.cells [.i s1.2.1]),(3,.cells [.bo s1.2.2])]) (.exit 0) [] [1399999,1299999,1299998,1200001,1200002,1200003,1200010,1001,2,1] (fun _=>[]) (fun b2=>[(3,.cells [.bo b2])]) .ret [] [1399999,1299999,1200001,1200002,1200003,1200010,1001,1] (fun _=>[(7,.bo false)]) (fun b3=>[(1299998,.lp rb12 ((stop L12 .ret))),(3,.cells [.bo b3.1]),(2,.cells [.i b3.2.1,.i b3.2.2])]) (fun s1 x5 hr=>?_) (fun b2 hr=>?_) (fun b3 hr=>?_)
 .unfold kha at hr;refine ax 6 23 hr (fun hr=>?_) fun hr=>?_
  .refine rn tk 6 rfl ?_;obtain ⟨v7,h8,hr⟩:=zaa hr;refine wi tk h8 rfl rfl rfl rfl rfl ?_;refine iq 11 1900000 [1,4,20,21,22] (fn:=f107) ⟨func107,rfl,by kernel_rfl⟩ fun T19 ds19=>?_
   refine rn tk 14 rfl ?_;refine wfa (ps:=[11,12]) (args:=[.i s1.2.1,.agg [.l zca.pc v7.Fields,.l cU v7.Body,.l (zka.pcn 0) ([]),.i ((w64 (0+1)))]]) 1200000 2000000 1299998 2099999 [(1,.ptr 1 0),(2,.ptr 2 0),(3,.ptr 3 0),(10,.fn (.func 106) [] [.ptr 1001 0])] [(1,.i ((w64 (0+1)))),(3,.ptr 1003 0),(4,.ptr 4 0),(5,.ptr 5 0)] (zMa rfl) rfl rfl hLs12 hLp12 hLt12 hLq12 hLa12 hLb12 hT12 rfl rfl rfl rfl (.cons rfl (.cons rfl (.cons rfl (.cons rfl .nil)))) (.cons rfl (.cons rfl (.cons rfl (.cons rfl .nil)))) fun T20 ds20 hT20=>hB Kca ?_
   refine rn tk 6 rfl<|wo (jda (k:=5) 1005 rfl wWa (.inr ⟨rfl,rfl⟩) rfl rfl rfl) rfl<|rn tk 2 rfl ?_;refine asgK kEa zta rfl (hB Kba ?_);refine ax 8 14 hr (fun hr=>?_) fun hr=>?_
   .refine clx 2 hr (zga _ _) fun v10 _ hr=>?_
    refine rn tk 6 rfl ?_;refine rndK (fr' :=[]) (fr'' :=[(1,.i ((w64 (0+1)))),(3,.ptr 1003 0),(4,.ptr 4 0),(5,.ptr 5 0)]) (σ'' :=[(1005,.cells [.l zca.pc v7.Fields,.l cU v7.Body,.l (zka.pcn 0) ([]),.i ((w64 (0+1)))]),(5,.cells [.l zca.pc v7.Fields,.l cU v7.Body,.l (zka.pcn 0) ([])]),(1999999,.sus g0.w.heap.size ds19),(1900001,.hold (.i 0) (T19.getD 1 undef)),(1900004,.hold (.ptr 4 0) (T19.getD 4 undef)),(1900020,.hold (.l (zka.pcn 0) a0.Parts) (T19.getD 20 undef)),(1900021,.hold (.i ((a0.Parts.length:Int))) (T19.getD 21 undef)),(1900022,.hold (.i s1.1) (T19.getD 22 undef)),(9,.cells [.l zca.pc v7.Fields,.l cU v7.Body,.l (zka.pcn 0) ([])]),(1399999,.sus g0.w.heap.size ds13),(4,.cells [.fn (.func 107) [] [.ptr 1002 0,.ptr 1003 0,.ptr 4 0]]),(1003,.cells [.i s1.2.1]),(1002,.cells [.fn (.yield rb12) [] []]),(1299999,.sus g0.w.heap.size ds12),(1299998,.lp rb12 ((stop L12 .ret))),(1200001,.hold (.ptr 1 0) (T12.getD 1 undef)),(1200002,.hold (.ptr 2 0) (T12.getD 2 undef)),(1200003,.hold (.ptr 3 0) (T12.getD 3 undef)),(1200010,.hold (.fn (.func 106) [] [.ptr 1001 0]) (T12.getD 10 undef)),(1001,.cells [.l zca.pc a0.Fields,.l cU a0.Body,.l (zka.pcn 0) a0.Parts]),(3,.cells [.bo s1.2.2]),(2,.cells [.i v10.Code,.i v10.Index]),(1,.cells [.l zca.pc a0.Fields,.l cU a0.Body,.l (zka.pcn 0) a0.Parts])]) .ret zta rfl (.cons rfl (.cons rfl (.cons rfl (.cons rfl .nil)))) rfl (zba rfl (zba rfl (zba rfl (zba rfl (zba rfl (zba rfl (zba rfl (zba rfl (zba rfl (zba rfl (zba rfl (zba rfl (zba rfl (zba rfl (zba rfl (zba rfl (zba rfl (zba rfl (zba rfl (zba rfl (zba rfl (zba rfl (zba rfl zBa))))))))))))))))))))))) (hO ?_);refine ieq 11 (hO ?_);exact ox 12 hr
   refine bx 5 17 hr (fun c12 hr=>?_) fun c12 hr=>?_
   .refine rn tk 7 rfl ?_;refine rndK (fr' :=[]) (fr'' :=[(1,.i ((w64 (0+1)))),(3,.ptr 1003 0),(4,.ptr 4 0),(5,.ptr 5 0)]) (σ'' :=[(1005,.cells [.l zca.pc v7.Fields,.l cU v7.Body,.l (zka.pcn 0) ([]),.i ((w64 (0+1)))]),(5,.cells [.l zca.pc v7.Fields,.l cU v7.Body,.l (zka.pcn 0) ([])]),(1999999,.sus g0.w.heap.size ds19),(1900001,.hold (.i 0) (T19.getD 1 undef)),(1900004,.hold (.ptr 4 0) (T19.getD 4 undef)),(1900020,.hold (.l (zka.pcn 0) a0.Parts) (T19.getD 20 undef)),(1900021,.hold (.i ((a0.Parts.length:Int))) (T19.getD 21 undef)),(1900022,.hold (.i s1.1) (T19.getD 22 undef)),(9,.cells [.l zca.pc v7.Fields,.l cU v7.Body,.l (zka.pcn 0) ([])]),(1399999,.sus g0.w.heap.size ds13),(4,.cells [.fn (.func 107) [] [.ptr 1002 0,.ptr 1003 0,.ptr 4 0]]),(1003,.cells [.i s1.2.1]),(1002,.cells [.fn (.yield rb12) [] []]),(1299999,.sus g0.w.heap.size ds12),(1299998,.lp rb12 L12),(1200001,.hold (.ptr 1 0) (T12.getD 1 undef)),(1200002,.hold (.ptr 2 0) (T12.getD 2 undef)),(1200003,.hold (.ptr 3 0) (T12.getD 3 undef)),(1200010,.hold (.fn (.func 106) [] [.ptr 1001 0]) (T12.getD 10 undef)),(1001,.cells [.l zca.pc a0.Fields,.l cU a0.Body,.l (zka.pcn 0) a0.Parts]),(3,.cells [.bo true]),(2,.cells [.i 0,.i 0]),(1,.cells [.l zca.pc a0.Fields,.l cU a0.Body,.l (zka.pcn 0) a0.Parts])]) .off zta rfl (.cons rfl (.cons rfl (.cons rfl (.cons rfl .nil)))) rfl (zba rfl (zba rfl (zba rfl (zba rfl (zba rfl (zba rfl (zba rfl (zba rfl (zba rfl (zba rfl (zba rfl (zba rfl (zba rfl (zba rfl (zba rfl (zba rfl (zba rfl (zba rfl (zba rfl (zba rfl (zba rfl (zba rfl (zba rfl zBa))))))))))))))))))))))) (hO ?_);refine rn tk 18 rfl<|wq (VAa rfl kUa.u) rfl rfl rfl ?_;refine aq1 4 hr [1,4,20,21] [1999999,1900001,1900004,1900020,1900021,1900022,1399999,4,1003,1002,1299999,1299998,1200001,1200002,1200003,1200010,1001,3,2,1] (fun s13=>[(22,.i s13)]) (fun _=>[]) (.exit 0) [] [1999999,1900001,1900004,1900020,1900021,1900022,1399999,4,1002,1299999,1299998,1200001,1200002,1200003,1200010,1001,3,2,1] (fun _=>[]) (fun b14=>[(1003,.cells [.i b14])]) (fun s13 x15 hr=>?_) (fun b14 hr=>?_)
    .unfold w7a at hr;refine ax 6 23 hr (fun hr=>?_) fun hr=>?_
     .refine rn tk 6 rfl ?_;cases hr
     exact ox 2 hr
    refine ieq 8 (hO ?_);exact cx 11 hr
   refine rn tk 7 rfl ?_;refine rndK (fr' :=[]) (fr'' :=[(1,.i ((w64 (0+1)))),(3,.ptr 1003 0),(4,.ptr 4 0),(5,.ptr 5 0)]) (σ'' :=[(1005,.cells [.l zca.pc v7.Fields,.l cU v7.Body,.l (zka.pcn 0) ([]),.i ((w64 (0+1)))]),(5,.cells [.l zca.pc v7.Fields,.l cU v7.Body,.l (zka.pcn 0) ([])]),(1999999,.sus g0.w.heap.size ds19),(1900001,.hold (.i 0) (T19.getD 1 undef)),(1900004,.hold (.ptr 4 0) (T19.getD 4 undef)),(1900020,.hold (.l (zka.pcn 0) a0.Parts) (T19.getD 20 undef)),(1900021,.hold (.i ((a0.Parts.length:Int))) (T19.getD 21 undef)),(1900022,.hold (.i s1.1) (T19.getD 22 undef)),(9,.cells [.l zca.pc v7.Fields,.l cU v7.Body,.l (zka.pcn 0) ([])]),(1399999,.sus g0.w.heap.size ds13),(4,.cells [.fn (.func 107) [] [.ptr 1002 0,.ptr 1003 0,.ptr 4 0]]),(1003,.cells [.i s1.2.1]),(1002,.cells [.fn (.yield rb12) [] []]),(1299999,.sus g0.w.heap.size ds12),(1299998,.lp rb12 L12),(1200001,.hold (.ptr 1 0) (T12.getD 1 undef)),(1200002,.hold (.ptr 2 0) (T12.getD 2 undef)),(1200003,.hold (.ptr 3 0) (T12.getD 3 undef)),(1200010,.hold (.fn (.func 106) [] [.ptr 1001 0]) (T12.getD 10 undef)),(1001,.cells [.l zca.pc a0.Fields,.l cU a0.Body,.l (zka.pcn 0) a0.Parts]),(3,.cells [.bo (decide (8 < (w64 (0+1))))]),(2,.cells [.i 0,.i 0]),(1,.cells [.l zca.pc a0.Fields,.l cU a0.Body,.l (zka.pcn 0) a0.Parts])]) .off zta rfl (.cons rfl (.cons rfl (.cons rfl (.cons rfl .nil)))) rfl (zba rfl (zba rfl (zba rfl (zba rfl (zba rfl (zba rfl (zba rfl (zba rfl (zba rfl (zba rfl (zba rfl (zba rfl (zba rfl (zba rfl (zba rfl (zba rfl (zba rfl (zba rfl (zba rfl (zba rfl (zba rfl (zba rfl (zba rfl zBa))))))))))))))))))))))) (hO ?_);refine rn tk 18 rfl<|wq (VAa rfl kUa.u) rfl rfl rfl ?_;refine aq1 4 hr [1,4,20,21] [1999999,1900001,1900004,1900020,1900021,1900022,1399999,4,1003,1002,1299999,1299998,1200001,1200002,1200003,1200010,1001,3,2,1] (fun s17=>[(22,.i s17)]) (fun _=>[]) (.exit 0) [] [1999999,1900001,1900004,1900020,1900021,1900022,1399999,4,1002,1299999,1299998,1200001,1200002,1200003,1200010,1001,2,1] (fun _=>[]) (fun b18=>[(1003,.cells [.i b18.1]),(3,.cells [.bo b18.2])]) (fun s17 x19 hr=>?_) (fun b18 hr=>?_)
   .unfold vba at hr;refine ax 6 23 hr (fun hr=>?_) fun hr=>?_
    .refine rn tk 6 rfl ?_;cases hr
    exact ox 2 hr
   refine ieq 8 (hO ?_);exact cx 11 hr
  exact ox 2 hr
 .refine ieq 8 (hO ?_);refine rn tk 1 rfl ?_;refine itrK (fr' :=[]) (L' :=L12) (fr'' :=[(1,.ptr 1 0),(2,.ptr 2 0),(3,.ptr 3 0),(10,.fn (.func 106) [] [.ptr 1001 0])]) (σ'' :=[(1001,.cells [.l zca.pc a0.Fields,.l cU a0.Body,.l (zka.pcn 0) a0.Parts]),(3,.cells [.bo b2]),(2,.cells [.i 0,.i 0]),(1,.cells [.l zca.pc a0.Fields,.l cU a0.Body,.l (zka.pcn 0) a0.Parts])]) (.inr rfl) zta rfl (.cons rfl (.cons rfl (.cons rfl (.cons rfl .nil)))) rfl (zba rfl (zba rfl (zba rfl (zba rfl zBa)))) rfl<|.off (hA ?_);refine ax 8 22 hr (fun hr=>?_) fun hr=>?_
  .refine clx 2 hr (zga _ _) fun v22 _ hr=>?_
   exact kx 5 hr
  refine iq 6 3100000 [2] (fn:=f71) ⟨func71,rfl,by kernel_rfl⟩ fun T31 ds31=>?_
  refine rn tk 2 rfl<|wo (vOa (k:=1) 2001 rfl rfl rfl rfl rfl) rfl ?_;refine ieq 10 (hO ?_);refine rn tk 3 rfl ?_;refine Z8a (fn0:=f106) 3200000 3299998 3299999 [(2,.ptr 2 0),(25,.fn (.func 106) [] [.ptr 2001 0])] rfl rfl rfl ⟨func106,rfl,by kernel_rfl⟩ rfl rfl rfl rfl rfl (.cons rfl (.cons rfl .nil)) fun T32 rb32 L32 ds32 hT32 hLs32 hLp32 hLt32 hLq32 hLa32 hLb32=>hB Wra ?_
  refine rn tk 2 rfl<|wo (vOa (k:=2) 1002 rfl rfl rfl rfl rfl) rfl<|rn tk 4 rfl<|wo (jda (k:=3) 1003 rfl w4a (.inl rfl) rfl rfl rfl) rfl ?_;refine iq 17 3300000 [] (fn:=f107) ⟨func107,rfl,by kernel_rfl⟩ fun T33 ds33=>?_
  refine rn tk 14 rfl ?_;refine wfa (ps:=[26,27]) (args:=[.i 0,.agg [.l zca.pc a0.Fields,.l cU a0.Body,.l (zka.pcn 0) a0.Parts,.i 0]]) 3200000 3400000 3299998 3499999 [(2,.ptr 2 0),(25,.fn (.func 106) [] [.ptr 2001 0])] [(1,.i 0),(3,.ptr 1003 0),(4,.ptr 4 0),(5,.ptr 5 0)] (zMa rfl) rfl rfl hLs32 hLp32 hLt32 hLq32 hLa32 hLb32 hT32 rfl rfl rfl rfl (.cons rfl (.cons rfl (.cons rfl (.cons rfl .nil)))) (.cons rfl (.cons rfl .nil)) fun T34 ds34 hT34=>hB Kca ?_
  refine rn tk 9 rfl ?_;refine asgK kEa zta rfl (hB Kba ?_);refine clx 4 hr (Q3a _) fun v24 _ hr=>?_
  refine ax 9 31 hr (fun hr=>?_) fun hr=>?_
  .refine clx 4 hr (zga _ _) fun v27 _ hr=>?_
   refine rn tk 5 rfl ?_;refine rndK (fr' :=[]) (fr'' :=[(1,.i 0),(3,.ptr 1003 0),(4,.ptr 4 0),(5,.ptr 5 0)]) (σ'' :=[(7,.cells [.l zca.pc a0.Fields,.l cU a0.Body,.l (zka.pcn 0) a0.Parts,.i 0]),(5,.cells [.l zca.pc a0.Fields,.l cU a0.Body,.l (zka.pcn 0) a0.Parts]),(3399999,.sus g0.w.heap.size ds33),(4,.cells [.fn (.func 107) [] [.ptr 1002 0,.ptr 1003 0,.ptr 4 0]]),(1003,.cells [.i 0]),(1002,.cells [.fn (.yield rb32) [] []]),(3299999,.sus g0.w.heap.size ds32),(3299998,.lp rb32 ((stop L32 .ret))),(3200002,.hold (.ptr 2 0) (T32.getD 2 undef)),(3200025,.hold (.fn (.func 106) [] [.ptr 2001 0]) (T32.getD 25 undef)),(2001,.cells [.l zca.pc a0.Fields,.l cU a0.Body,.l (zka.pcn 0) a0.Parts]),(1001,.cells [.l zca.pc a0.Fields,.l cU a0.Body,.l (zka.pcn 0) a0.Parts]),(3,.cells [.bo b2]),(2,.cells [.i v27.Code,.i v27.Index]),(1,.cells [.l zca.pc a0.Fields,.l cU a0.Body,.l (zka.pcn 0) a0.Parts])]) .ret zta rfl (.cons rfl (.cons rfl (.cons rfl (.cons rfl .nil)))) rfl (zba rfl (zba rfl (zba rfl (zba rfl (zba rfl (zba rfl (zba rfl (zba rfl (zba rfl (zba rfl (zba rfl (zba rfl (zba rfl (zba rfl (zba rfl zBa))))))))))))))) (hO ?_);refine ieq 11 (hO ?_);refine rn tk 1 rfl ?_;refine itrK (fr' :=[]) (L' :=(stop L32 .ret)) (fr'' :=[(2,.ptr 2 0),(25,.fn (.func 106) [] [.ptr 2001 0])]) (σ'' :=[(7,.cells [.l zca.pc a0.Fields,.l cU a0.Body,.l (zka.pcn 0) a0.Parts,.i 0]),(5,.cells [.l zca.pc a0.Fields,.l cU a0.Body,.l (zka.pcn 0) a0.Parts]),(4,.cells [.fn (.func 107) [] [.ptr 1002 0,.ptr 1003 0,.ptr 4 0]]),(1003,.cells [.i 0]),(1002,.cells [.fn (.yield rb32) [] []]),(2001,.cells [.l zca.pc a0.Fields,.l cU a0.Body,.l (zka.pcn 0) a0.Parts]),(1001,.cells [.l zca.pc a0.Fields,.l cU a0.Body,.l (zka.pcn 0) a0.Parts]),(3,.cells [.bo b2]),(2,.cells [.i v27.Code,.i v27.Index]),(1,.cells [.l zca.pc a0.Fields,.l cU a0.Body,.l (zka.pcn 0) a0.Parts])]) (.inr rfl) zta rfl (.cons rfl (.cons rfl .nil)) rfl (zba rfl (zba rfl (zba rfl (zba rfl (zba rfl (zba rfl (zba rfl (zba rfl (zba rfl (zba rfl zBa)))))))))) rfl<|.jump (hC ?_);exact kx 3 hr
  refine rn tk 2 rfl ?_;refine rndK (fr' :=[]) (fr'' :=[(1,.i 0),(3,.ptr 1003 0),(4,.ptr 4 0),(5,.ptr 5 0)]) (σ'' :=[(7,.cells [.l zca.pc a0.Fields,.l cU a0.Body,.l (zka.pcn 0) a0.Parts,.i 0]),(5,.cells [.l zca.pc a0.Fields,.l cU a0.Body,.l (zka.pcn 0) a0.Parts]),(3399999,.sus g0.w.heap.size ds33),(4,.cells [.fn (.func 107) [] [.ptr 1002 0,.ptr 1003 0,.ptr 4 0]]),(1003,.cells [.i 0]),(1002,.cells [.fn (.yield rb32) [] []]),(3299999,.sus g0.w.heap.size ds32),(3299998,.lp rb32 L32),(3200002,.hold (.ptr 2 0) (T32.getD 2 undef)),(3200025,.hold (.fn (.func 106) [] [.ptr 2001 0]) (T32.getD 25 undef)),(2001,.cells [.l zca.pc a0.Fields,.l cU a0.Body,.l (zka.pcn 0) a0.Parts]),(1001,.cells [.l zca.pc a0.Fields,.l cU a0.Body,.l (zka.pcn 0) a0.Parts]),(3,.cells [.bo b2]),(2,.cells [.i 0,.i 0]),(1,.cells [.l zca.pc a0.Fields,.l cU a0.Body,.l (zka.pcn 0) a0.Parts])]) .off zta rfl (.cons rfl (.cons rfl (.cons rfl (.cons rfl .nil)))) rfl (zba rfl (zba rfl (zba rfl (zba rfl (zba rfl (zba rfl (zba rfl (zba rfl (zba rfl (zba rfl (zba rfl (zba rfl (zba rfl (zba rfl (zba rfl zBa))))))))))))))) (hO ?_);refine rn tk 18 rfl<|wn tk rfl rfl rfl ?_;refine aq2 4 hr [1,4,20,21] [3399999,4,1002,3299999,3299998,3200002,3200025,2001,2] (fun s29=>[(22,.i s29.1)]) (fun s29=>[(1003,.cells [.i s29.2])]) (.exit 0) [] [3399999,3299999,3299998,3200002,3200025,2001,2] (fun _=>[]) (fun _=>[]) .ret [] [3399999,3299999,3200002,3200025,2001] (fun _=>[(7,.bo false)]) (fun b31=>[(3299998,.lp rb32 ((stop L32 .ret))),(2,.cells [.i b31.1,.i b31.2])]) (fun s29 x33 hr=>?_) (fun b30 hr=>?_) (fun b31 hr=>?_)
  .unfold kia at hr;refine ax 6 23 hr (fun hr=>?_) fun hr=>?_
   .refine rn tk 6 rfl ?_;obtain ⟨v35,h36,hr⟩:=zaa hr;refine wi tk h36 rfl rfl rfl rfl rfl ?_;refine iq 11 3900000 [1,4,20,21,22] (fn:=f107) ⟨func107,rfl,by kernel_rfl⟩ fun T39 ds39=>?_
    refine rn tk 14 rfl ?_;refine wfa (ps:=[26,27]) (args:=[.i s29.2,.agg [.l zca.pc v35.Fields,.l cU v35.Body,.l (zka.pcn 0) ([]),.i ((w64 (0+1)))]]) 3200000 4000000 3299998 4099999 [(2,.ptr 2 0),(25,.fn (.func 106) [] [.ptr 2001 0])] [(1,.i ((w64 (0+1)))),(3,.ptr 1003 0),(4,.ptr 4 0),(5,.ptr 5 0)] (zMa rfl) rfl rfl hLs32 hLp32 hLt32 hLq32 hLa32 hLb32 hT32 rfl rfl rfl rfl (.cons rfl (.cons rfl (.cons rfl (.cons rfl .nil)))) (.cons rfl (.cons rfl .nil)) fun T40 ds40 hT40=>hB Kca ?_
    refine rn tk 9 rfl ?_;refine asgK kEa zta rfl (hB Kba ?_);refine clx 4 hr (Q1a _) fun v37 _ hr=>?_
    refine ax 9 31 hr (fun hr=>?_) fun hr=>?_
    .refine clx 4 hr (zga _ _) fun v40 _ hr=>?_
     refine rn tk 5 rfl ?_;refine rndK (fr' :=[]) (fr'' :=[(1,.i ((w64 (0+1)))),(3,.ptr 1003 0),(4,.ptr 4 0),(5,.ptr 5 0)]) (σ'' :=[(7,.cells [.l zca.pc v35.Fields,.l cU v35.Body,.l (zka.pcn 0) ([]),.i ((w64 (0+1)))]),(5,.cells [.l zca.pc v35.Fields,.l cU v35.Body,.l (zka.pcn 0) ([])]),(3999999,.sus g0.w.heap.size ds39),(3900001,.hold (.i 0) (T39.getD 1 undef)),(3900004,.hold (.ptr 4 0) (T39.getD 4 undef)),(3900020,.hold (.l (zka.pcn 0) a0.Parts) (T39.getD 20 undef)),(3900021,.hold (.i ((a0.Parts.length:Int))) (T39.getD 21 undef)),(3900022,.hold (.i s29.1) (T39.getD 22 undef)),(9,.cells [.l zca.pc v35.Fields,.l cU v35.Body,.l (zka.pcn 0) ([])]),(3399999,.sus g0.w.heap.size ds33),(4,.cells [.fn (.func 107) [] [.ptr 1002 0,.ptr 1003 0,.ptr 4 0]]),(1003,.cells [.i s29.2]),(1002,.cells [.fn (.yield rb32) [] []]),(3299999,.sus g0.w.heap.size ds32),(3299998,.lp rb32 ((stop L32 .ret))),(3200002,.hold (.ptr 2 0) (T32.getD 2 undef)),(3200025,.hold (.fn (.func 106) [] [.ptr 2001 0]) (T32.getD 25 undef)),(2001,.cells [.l zca.pc a0.Fields,.l cU a0.Body,.l (zka.pcn 0) a0.Parts]),(2,.cells [.i v40.Code,.i v40.Index])]) .ret zta rfl (.cons rfl (.cons rfl (.cons rfl (.cons rfl .nil)))) rfl (zba rfl (zba rfl (zba rfl (zba rfl (zba rfl (zba rfl (zba rfl (zba rfl (zba rfl (zba rfl (zba rfl (zba rfl (zba rfl (zba rfl (zba rfl (zba rfl (zba rfl (zba rfl (zba rfl zBa))))))))))))))))))) (hO ?_);refine ieq 11 (hO ?_);exact ox 12 hr
    refine rn tk 2 rfl ?_;refine rndK (fr' :=[]) (fr'' :=[(1,.i ((w64 (0+1)))),(3,.ptr 1003 0),(4,.ptr 4 0),(5,.ptr 5 0)]) (σ'' :=[(7,.cells [.l zca.pc v35.Fields,.l cU v35.Body,.l (zka.pcn 0) ([]),.i ((w64 (0+1)))]),(5,.cells [.l zca.pc v35.Fields,.l cU v35.Body,.l (zka.pcn 0) ([])]),(3999999,.sus g0.w.heap.size ds39),(3900001,.hold (.i 0) (T39.getD 1 undef)),(3900004,.hold (.ptr 4 0) (T39.getD 4 undef)),(3900020,.hold (.l (zka.pcn 0) a0.Parts) (T39.getD 20 undef)),(3900021,.hold (.i ((a0.Parts.length:Int))) (T39.getD 21 undef)),(3900022,.hold (.i s29.1) (T39.getD 22 undef)),(9,.cells [.l zca.pc v35.Fields,.l cU v35.Body,.l (zka.pcn 0) ([])]),(3399999,.sus g0.w.heap.size ds33),(4,.cells [.fn (.func 107) [] [.ptr 1002 0,.ptr 1003 0,.ptr 4 0]]),(1003,.cells [.i s29.2]),(1002,.cells [.fn (.yield rb32) [] []]),(3299999,.sus g0.w.heap.size ds32),(3299998,.lp rb32 L32),(3200002,.hold (.ptr 2 0) (T32.getD 2 undef)),(3200025,.hold (.fn (.func 106) [] [.ptr 2001 0]) (T32.getD 25 undef)),(2001,.cells [.l zca.pc a0.Fields,.l cU a0.Body,.l (zka.pcn 0) a0.Parts]),(2,.cells [.i 0,.i 0])]) .off zta rfl (.cons rfl (.cons rfl (.cons rfl (.cons rfl .nil)))) rfl (zba rfl (zba rfl (zba rfl (zba rfl (zba rfl (zba rfl (zba rfl (zba rfl (zba rfl (zba rfl (zba rfl (zba rfl (zba rfl (zba rfl (zba rfl (zba rfl (zba rfl (zba rfl (zba rfl zBa))))))))))))))))))) (hO ?_);refine rn tk 18 rfl<|wq (VAa rfl kUa.u) rfl rfl rfl ?_;refine aq1 4 hr [1,4,20,21] [3999999,3900001,3900004,3900020,3900021,3900022,3399999,4,1003,1002,3299999,3299998,3200002,3200025,2001,2] (fun s42=>[(22,.i s42)]) (fun _=>[]) (.exit 0) [] [3999999,3900001,3900004,3900020,3900021,3900022,3399999,4,1002,3299999,3299998,3200002,3200025,2001,2] (fun _=>[]) (fun b43=>[(1003,.cells [.i b43])]) (fun s42 x44 hr=>?_) (fun b43 hr=>?_)
    .unfold vca at hr;refine ax 6 23 hr (fun hr=>?_) fun hr=>?_
     .refine rn tk 6 rfl ?_;cases hr
     exact ox 2 hr
    refine ieq 8 (hO ?_);exact cx 11 hr
   exact ox 2 hr
  .refine ieq 8 (hO ?_);refine rn tk 1 rfl ?_;refine itrK (fr' :=[]) (L' :=L32) (fr'' :=[(2,.ptr 2 0),(25,.fn (.func 106) [] [.ptr 2001 0])]) (σ'' :=[(2001,.cells [.l zca.pc a0.Fields,.l cU a0.Body,.l (zka.pcn 0) a0.Parts]),(2,.cells [.i 0,.i 0])]) (.inr rfl) zta rfl (.cons rfl (.cons rfl .nil)) rfl (zba rfl (zba rfl zBa)) rfl<|.off (hA ?_);refine clx 4 hr zna fun v46 _ hr=>?_
   exact kx 4 hr
  refine ieq 2 (hO ?_);refine rn tk 1 rfl ?_;refine itrK (fr' :=[]) (L' :=(stop L32 .ret)) (fr'' :=[(2,.ptr 2 0),(25,.fn (.func 106) [] [.ptr 2001 0])]) (σ'' :=[(2001,.cells [.l zca.pc a0.Fields,.l cU a0.Body,.l (zka.pcn 0) a0.Parts]),(2,.cells [.i b31.1,.i b31.2])]) (.inr rfl) zta rfl (.cons rfl (.cons rfl .nil)) rfl (zba rfl (zba rfl zBa)) rfl<|.jump (hC ?_);exact kx 3 hr
 refine ieq 2 (hO ?_);refine rn tk 1 rfl ?_;refine itrK (fr' :=[]) (L' :=(stop L12 .ret)) (fr'' :=[(1,.ptr 1 0),(2,.ptr 2 0),(3,.ptr 3 0),(10,.fn (.func 106) [] [.ptr 1001 0])]) (σ'' :=[(1001,.cells [.l zca.pc a0.Fields,.l cU a0.Body,.l (zka.pcn 0) a0.Parts]),(3,.cells [.bo b3.1]),(2,.cells [.i b3.2.1,.i b3.2.2]),(1,.cells [.l zca.pc a0.Fields,.l cU a0.Body,.l (zka.pcn 0) a0.Parts])]) (.inr rfl) zta rfl (.cons rfl (.cons rfl (.cons rfl (.cons rfl .nil)))) rfl (zba rfl (zba rfl (zba rfl (zba rfl zBa)))) rfl<|.jump (hC ?_);exact kx 3 hr
theorem Wea(a0:List UInt8)(c0_0:Str)(r:Bool)(hr:wQa a0 c0_0=some r):Run prog 111 [.l cU a0,.ep [pS c0_0]] (.bo r):=by
 unfold wQa at hr;refine rfx (fn:=f111) func111 fun g0 hg=>?_
 refine iq 9 500000 [1,3] (fn:=f112) ⟨func112,rfl,by kernel_rfl⟩ fun T5 ds5=>?_
 refine ieq 13 (hO ?_);refine rn tk 3 rfl ?_;refine Z8a (fn0:=Tryz.f145) 600000 699998 699999 [(1,.ep [pS c0_0]),(3,.ptr 3 0),(7,.fn (.func 145) [] [.ptr 1 0])] rfl rfl rfl ⟨func145,rfl,by kernel_rfl⟩ rfl rfl rfl rfl rfl (.cons rfl (.cons rfl (.cons rfl .nil))) fun T6 rb6 L6 ds6 hT6 hLs6 hLp6 hLt6 hLq6 hLa6 hLb6=>hB Wra ?_
 refine aq2 6 hr [0,1] [699999,699998,600001,600003,600007,1,3] (fun s1=>[(3,.i s1)]) (fun _=>[]) (.exit 0) [] [699999,699998,600001,600003,600007,1,3] (fun _=>[]) (fun _=>[]) .ret [] [699999,600001,600003,600007,1] (fun _=>[]) (fun _=>[(699998,.lp rb6 ((stop L6 .ret))),(3,.cells [.bo true])]) (fun s1 x5 hr=>?_) (fun b2 hr=>?_) (fun b3 hr=>?_)
 .unfold kfa at hr;refine rn tk 5 rfl<|wn tk rfl rfl rfl ?_;refine ax 3 10 hr (fun hr=>?_) fun hr=>?_
  .refine rn tk 7 rfl ?_;obtain ⟨v7,h8,hr⟩:=zaa hr;refine wlL tk h8 rfl rfl rfl (fun _=>rfl) rfl ?_;refine yPa rfl (Qra (F:=cU) (l:=([(13:UInt8),(10:UInt8)]:List UInt8)) zra zJa rfl (fun _=>rfl) rfl rfl) zra zJa (zMa rfl) (zMa rfl) rfl (hO ?_);refine clx 0 hr (ZNa _ _) fun v9 _ hr=>?_
   refine rn tk 6 rfl<|wn tk rfl rfl rfl ?_;refine jq 9 hr [0,1,3] [699999,699998,600001,600003,600007,1,3] (fun j11=>[(5,.i j11.1),(6,.i j11.2)]) (fun _=>[]) (fun j11 hr=>?_) (fun j11 hr=>?_)
   .refine ax 6 21 hr (fun hr=>?_) fun hr=>?_
    .exact jx 11 hr
    exact jx 1 hr
   refine rn tk 8 rfl ?_;obtain ⟨v13,h14,hr⟩:=zaa hr;refine wlLH tk h14 rfl rfl rfl rfl (fun _=>rfl) rfl<|wb tk rfl rfl rfl ?_;refine wfa (ps:=[8,9]) (args:=[.i s1,.s v13]) 600000 800000 699998 899999 [(1,.ep [pS c0_0]),(3,.ptr 3 0),(7,.fn (.func 145) [] [.ptr 1 0])] [(0,.fn (.yield rb6) [] []),(1,.ptr 1 0),(6,.i j11.2)] (zMa rfl) rfl rfl hLs6 hLp6 hLt6 hLq6 hLa6 hLb6 hT6 rfl rfl rfl rfl (.cons rfl (.cons rfl (.cons rfl .nil))) (.cons rfl (.cons rfl (.cons rfl .nil))) fun T8 ds8 hT8=>hB Kca ?_
   refine rn tk 3 rfl ?_;refine asgK kEa zta rfl (hB Kba ?_);refine rn tk 5 rfl ?_;obtain ⟨v15,h16,hr⟩:=zaa hr;refine wc h16 rfl rfl rfl ?_;refine clx 0 hr (wSa _ _) fun v17 _ hr=>?_
   refine ax 2 13 hr (fun hr=>?_) fun hr=>?_
   .refine rn tk 7 rfl ?_;refine rndK (fr' :=[]) (fr'' :=[(0,.fn (.yield rb6) [] []),(1,.ptr 1 0),(6,.i j11.2)]) (σ'' :=[(699999,.sus g0.w.heap.size ds6),(699998,.lp rb6 ((stop L6 .ret))),(600001,.hold (.ep [pS c0_0]) (T6.getD 1 undef)),(600003,.hold (.ptr 3 0) (T6.getD 3 undef)),(600007,.hold (.fn (.func 145) [] [.ptr 1 0]) (T6.getD 7 undef)),(1,.cells [.l cU a0]),(3,.cells [.bo true])]) .ret zta rfl (.cons rfl (.cons rfl (.cons rfl .nil))) rfl (zba rfl (zba rfl (zba rfl (zba rfl (zba rfl (zba rfl (zba rfl zBa))))))) (hO ?_);exact ox 7 hr
   refine rn tk 2 rfl ?_;refine rndK (fr' :=[]) (fr'' :=[(0,.fn (.yield rb6) [] []),(1,.ptr 1 0),(6,.i j11.2)]) (σ'' :=[(699999,.sus g0.w.heap.size ds6),(699998,.lp rb6 L6),(600001,.hold (.ep [pS c0_0]) (T6.getD 1 undef)),(600003,.hold (.ptr 3 0) (T6.getD 3 undef)),(600007,.hold (.fn (.func 145) [] [.ptr 1 0]) (T6.getD 7 undef)),(1,.cells [.l cU a0]),(3,.cells [.bo false])]) .off zta rfl (.cons rfl (.cons rfl (.cons rfl .nil))) rfl (zba rfl (zba rfl (zba rfl (zba rfl (zba rfl (zba rfl (zba rfl zBa))))))) (hO ?_);exact cx 11 hr
  exact ox 2 hr
 .refine rn tk 1 rfl ?_;refine itrK (fr' :=[]) (L' :=L6) (fr'' :=[(1,.ep [pS c0_0]),(3,.ptr 3 0),(7,.fn (.func 145) [] [.ptr 1 0])]) (σ'' :=[(1,.cells [.l cU a0]),(3,.cells [.bo false])]) (.inr rfl) zta rfl (.cons rfl (.cons rfl (.cons rfl .nil))) rfl (zba rfl (zba rfl zBa)) rfl<|.off (hA ?_);exact kx 8 hr
 refine rn tk 1 rfl ?_;refine itrK (fr' :=[]) (L' :=(stop L6 .ret)) (fr'' :=[(1,.ep [pS c0_0]),(3,.ptr 3 0),(7,.fn (.func 145) [] [.ptr 1 0])]) (σ'' :=[(1,.cells [.l cU a0]),(3,.cells [.bo true])]) (.inl rfl) zta rfl (.cons rfl (.cons rfl (.cons rfl .nil))) rfl (zba rfl (zba rfl zBa)) rfl<|.jump (hC ?_);exact kx 3 hr
theorem Yza(a0:List (List UInt8))(r:Str)(hr:jua a0=some r):Run prog 76 [.l (cL cU) a0] (.s r):=by
 unfold jua at hr;refine rfx (fn:=f76) func76 fun g0 hg=>?_
 refine aq1 11 hr [0] [] (fun s1=>[(3,.i s1)]) (fun _=>[]) .ret [] [] (fun b2=>[(2,.s b2)]) (fun _=>[]) (fun s1 x3 hr=>?_) (fun b2 hr=>?_)
 .unfold v3a at hr;refine clx 5 hr (qEa _) fun v4 _ hr=>?_
  obtain ⟨v6,h7,hr⟩:=zaa hr;refine wc h7 rfl rfl rfl<|rn tk 7 rfl ?_;refine kMb 4 (cs:=[pS v6]) rfl rfl (hO ?_);refine iq 1 300000 [0,3,4] (fn:=f110) ⟨func110,rfl,by kernel_rfl⟩ fun T3 ds3=>?_
  refine ctq 9 hr [] [399999,300000,300003,300004] (fun j8=>[(7,.i j8)]) (fun _=>[]) (fun j8 hr jump4=>?_) (fun j8 hr=>?_)
  .refine iq 0 400000 [] (fn:=Tryz.f144) ⟨func144,rfl,by kernel_rfl⟩ fun T4 ds4=>?_
   refine rn tk 9 rfl<|wn tk rfl rfl rfl ?_;refine aq2 4 hr [0,1,7] [499999,399999,300000,300003,300004] (fun s9=>[(8,.i s9)]) (fun _=>[]) (.exit 0) [] [499999,399999,300000,300003,300004] (fun _=>[]) (fun _=>[]) .ret [] [499999,399999,300000,300003,300004] (fun b11=>[(4,.i b11)]) (fun _=>[]) (fun s9 x13 hr=>?_) (fun b10 hr=>?_) (fun b11 hr=>?_)
   .unfold v2a at hr;refine ax 6 9 hr (fun hr=>?_) fun hr=>?_
    .refine rn tk 15 rfl ?_;obtain ⟨v15,h16,hr⟩:=zaa hr;refine wi tk h16 rfl rfl rfl rfl rfl<|rn tk 1 rfl ?_;obtain ⟨v17,h18,hr⟩:=zaa hr;refine wo (wib (d:=16) rfl rfl (wGb rfl (Wea v15 v6 v17 h18) rfl)) rfl ?_;refine ax 2 16 hr (fun hr=>?_) fun hr=>?_
     .exact ox 9 hr
     exact cx 7 hr
    exact ox 2 hr
   .refine ieq 8 ?_;cases hr;exact jump4 _ _ rfl rfl
   refine ieq 2 ?_;cases hr;exact jump4 _ _ rfl rfl
  refine ieq 5 (hO ?_);refine ax 9 15 hr (fun hr=>?_) fun hr=>?_
  .exact ox 9 hr
  exact cx 8 hr
 exact kx 1 hr
theorem Qca(a0:zka)(r:(List zca) × (List UInt8))(hr:v1a a0=some r):Run prog 44 [.agg [.l zca.pc a0.Fields,.l cU a0.Body,.pv (.sl none [])]] (.tup [.l zca.pc r.1,.l cU r.2]):=by
 unfold v1a at hr;refine rfx (fn:=f44) func44 fun g0 hg=>?_
 refine rn tk 12 rfl<|wq (VAa rfl kUa.u) rfl rfl rfl ?_;refine dq 5 5 [] [] .nil .nil ?_ mixed;exact kx 5 hr
theorem Yda(a0:List zca)(a1:List UInt8)(r:List UInt8)(hr:wpa a0 a1=some r):Run prog 75 [.l zca.pc a0,.l cU a1] (.l cU r):=by
 unfold wpa at hr;refine rfx (fn:=f75) func75 fun g0 hg=>?_
 refine rn tk 8 rfl ?_;refine kwa 1005 (d:=5) 5 1 rfl rfl rfl (hO ?_);refine rn tk 6 rfl<|wn tk rfl rfl rfl ?_;refine aq1 4 hr [1,5,12,13] [] (fun s1=>[(14,.i s1.1)]) (fun s1=>[(1005,.row 5 false 1 (List.map cU s1.2))]) (.exit 0) [1,5] [] (fun _=>[]) (fun b2=>[(1005,.row 5 false 1 (List.map cU b2))]) (fun s1 x3 hr=>?_) (fun b2 hr=>?_)
 .unfold KPa at hr;refine ax 6 15 hr (fun hr=>?_) fun hr=>?_
  .refine rn tk 6 rfl ?_;obtain ⟨v5,h6,hr⟩:=zaa hr;refine wi tk h6 rfl rfl rfl rfl rfl ?_;refine clx 11 hr (yea _ _) fun v7 _ hr=>?_
   refine rn tk 11 rfl<|wn tk rfl rfl rfl ?_;refine aq1 4 hr [1,5,12,13,14,26,27] [] (fun s9=>[(28,.i s9.1)]) (fun s9=>[(1005,.row 5 false 1 (List.map cU s9.2))]) (.exit 2) [1,5,12,13,14] [] (fun _=>[]) (fun b10=>[(1005,.row 5 false 1 (List.map cU b10))]) (fun s9 x11 hr=>?_) (fun b10 hr=>?_)
   .unfold KOa at hr;refine ax 6 29 hr (fun hr=>?_) fun hr=>?_
    .refine rn tk 6 rfl ?_;obtain ⟨v13,h14,hr⟩:=zaa hr;refine wi tk h14 rfl rfl rfl rfl rfl<|rn tk 7 rfl ?_;obtain ⟨v15,h16,hr⟩:=zaa hr;refine wo (wAa (k:=34) (l:=s9.2) (s:=v13) (lim:=140737488355328) rfl rfl rfl rfl zra zya.u zJa rfl h16) rfl<|wz cU ([(13:UInt8),(10:UInt8)]:List UInt8) tk rfl rfl (fun _=>rfl) rfl rfl rfl ?_;obtain ⟨v17,h18,hr⟩:=zaa hr;refine wa tk h18 rfl rfl rfl rfl (fun _=>rfl) rfl rfl ?_;exact cx 8 hr
    exact ox 2 hr
   exact cx 7 hr
  exact ox 2 hr
 refine rn tk 5 rfl<|wz cU ([(13:UInt8),(10:UInt8)]:List UInt8) tk rfl rfl (fun _=>rfl) rfl rfl rfl ?_;obtain ⟨v19,h20,hr⟩:=zaa hr;refine wa tk h20 rfl rfl rfl rfl (fun _=>rfl) rfl rfl<|rn tk 1 rfl ?_;obtain ⟨v21,h22,hr⟩:=zaa hr;refine wa tk h22 rfl rfl rfl rfl (fun _=>rfl) rfl rfl<|rn tk 3 rfl ?_;refine qma (d:=4) (F:=cU) (l:=v21) rfl rfl (hC ?_);exact kx 1 hr
theorem kFa(a0:List zca)(r:List zca)(hr:zla a0=some r):RunO prog 45 [.l zca.pc a0] 38 2 (List.map zca.pc r):=by
 unfold zla at hr;refine rfO (fn:=f45) ⟨func45,rfl,by kernel_rfl⟩ rfl fun g0 hg=>?_
 refine rn tk 3 rfl ?_;refine vza 1002 (d:=2) 38 2 rfl rfl rfl (hO ?_);refine rn tk 6 rfl ?_;refine Kaa (d:=3) (F:=zca.pc) (l:=a0) rfl rfl rfl zIa (fun c1=>hO ?_) (hO ?_)
 .replace hr:=Wpa c1 hr
  refine rn tk 6 rfl ?_;refine vza 2002 (d:=2) 38 2 rfl rfl rfl (hO ?_);refine rn tk 4 rfl ?_;cases hr;exact krO tk (.inr rfl) rfl rfl
 replace hr:=Wqa hr
 refine rn tk 7 rfl<|wo (Qta (k:=5) rfl zIa kma) rfl<|rn tk 1 rfl ?_;obtain ⟨v2,h3,hr⟩:=zaa hr;refine wo (yQa (k:=7) (F:=zca.pc) (xs:=a0) (lim:=4398046511104) 2002 rfl rfl rfl zIa kma rfl rfl (fun _=>rfl) rfl rfl rfl h3) rfl<|rn tk 4 rfl ?_;cases hr;exact krO tk (.inr rfl) rfl rfl
theorem z0a(a0:List zca)(r:List zca)(hr:zla a0=some r):Run prog 45 [.l zca.pc a0] (.l zca.pc r):=by
 unfold zla at hr;refine rfx (fn:=f45) func45 fun g0 hg=>?_
 refine rn tk 9 rfl ?_;refine Kaa (d:=3) (F:=zca.pc) (l:=a0) rfl rfl rfl zIa (fun c1=>hO ?_) (hO ?_)
 .replace hr:=Wpa c1 hr
  exact kx 10 hr
 replace hr:=Wqa hr
 refine rn tk 7 rfl<|wo (Qta (k:=5) rfl zIa kma) rfl<|rn tk 1 rfl ?_;obtain ⟨v2,h3,hr⟩:=zaa hr;refine wo (yQa (k:=7) (F:=zca.pc) (xs:=a0) (lim:=4398046511104) 1002 rfl rfl rfl zIa kma rfl rfl (fun _=>rfl) rfl rfl rfl h3) rfl<|rn tk 3 rfl ?_;refine Z9a 1002 rfl (hC ?_);refine qma (d:=2) (F:=zca.pc) (l:=v2) rfl rfl (hC ?_);exact kx 1 hr
theorem vea(a0:List zoa)(r:List zoa)(hr:zKa a0=some r):RunO prog 78 [.l zoa.pc a0] 131 2 (List.map zoa.pc r):=by
 unfold zKa at hr;refine rfO (fn:=f78) ⟨func78,rfl,by kernel_rfl⟩ rfl fun g0 hg=>?_
 refine rn tk 3 rfl ?_;refine vza 1002 (d:=2) 131 2 rfl rfl rfl (hO ?_);refine rn tk 6 rfl ?_;refine Kaa (d:=3) (F:=zoa.pc) (l:=a0) rfl rfl rfl k0a (fun c1=>hO ?_) (hO ?_)
 .replace hr:=Wpa c1 hr
  refine rn tk 6 rfl ?_;refine vza 2002 (d:=2) 131 2 rfl rfl rfl (hO ?_);refine rn tk 4 rfl ?_;cases hr;exact krO tk (.inr rfl) rfl rfl
 replace hr:=Wqa hr
 refine rn tk 7 rfl<|wo (Qta (k:=5) rfl k0a kTa) rfl<|rn tk 1 rfl ?_;obtain ⟨v2,h3,hr⟩:=zaa hr;refine wo (yQa (k:=7) (F:=zoa.pc) (xs:=a0) (lim:=4398046511104) 2002 rfl rfl rfl k0a kTa rfl rfl (fun _=>rfl) rfl rfl rfl h3) rfl<|rn tk 4 rfl ?_;cases hr;exact krO tk (.inr rfl) rfl rfl
theorem Qda(a0:zka)(r:(List zca) × (List UInt8))(hr:q1a a0=some r):Run prog 44 [.agg [.l zca.pc a0.Fields,.l cU a0.Body,.l (zka.pcn 0) a0.Parts]] (.tup [.l zca.pc r.1,.l cU r.2]):=by
 unfold q1a at hr;refine rfx (fn:=f44) func44 fun g0 hg=>?_
 refine rn tk 12 rfl<|wn tk rfl rfl rfl ?_;refine ax 3 16 hr (fun hr=>?_) fun hr=>?_
 .refine dq 1 5 [] [] .nil .nil ?_ mixed;exact kx 5 hr
 refine iq 6 100000 [1] (fn:=f73) ⟨func73,rfl,by kernel_rfl⟩ fun T1 ds1=>?_
 refine rn tk 8 rfl ?_;refine kwa 1005 (d:=5) 24 1 rfl rfl rfl (hO ?_);refine rn tk 6 rfl<|wn tk rfl rfl rfl ?_;refine aq1 4 hr [1,5,8,9] [199999,100001,1] (fun s2=>[(10,.i s2.1)]) (fun s2=>[(1005,.row 24 false 1 (List.map (cL cU) s2.2))]) (.exit 0) [5] [199999,100001,1] (fun _=>[]) (fun b3=>[(1005,.row 24 false 1 (List.map (cL cU) b3))]) (fun s2 x4 hr=>?_) (fun b3 hr=>?_)
 .unfold kza at hr;refine ax 6 11 hr (fun hr=>?_) fun hr=>?_
  .refine rn tk 6 rfl ?_;obtain ⟨v6,h7,hr⟩:=zaa hr;refine wi tk h7 rfl rfl rfl rfl rfl ?_;refine iq 9 400000 [1,8,9,10,14] (fn:=f74) ⟨func74,rfl,by kernel_rfl⟩ fun T4 ds4=>?_
   refine rn tk 2 rfl<|wo (vOa (k:=1) 1001 rfl rfl rfl rfl rfl) rfl ?_;refine clx 6 hr (Qca _) fun v8 _ hr=>?_
   refine clx 11 hr (Yda _ _) fun v10 _ hr=>?_
   refine ieq 4 (hO ?_);refine wz (cL cU) ([v10]:List (List UInt8)) tk rfl rfl (fun _=>rfl) rfl rfl rfl ?_;obtain ⟨v12,h13,hr⟩:=zaa hr;refine wa tk h13 rfl rfl rfl rfl (fun _=>rfl) rfl rfl ?_;exact cx 8 hr
  exact ox 2 hr
 refine ieq 9 (hO ?_);refine rn tk 6 rfl ?_;refine Qpa (d:=24) (F:=(cL cU)) (l:=b3) rfl rfl (hO ?_);refine clx 0 hr (Yza _) fun v14 _ hr=>?_
 refine csx 7 hr (wxa a0.Fields) fun v16 _ hr=>?_
 refine rn tk 5 rfl ?_;refine zxa 1006 (o:=6) (j:=2) 131 2 rfl rfl rfl rfl (hO ?_);refine rn tk 9 rfl ?_;refine Qpa (d:=34) (F:=zoa.pc) (l:=v16.1.Params) rfl rfl (hO ?_);obtain ⟨v18,h19,hr⟩:=zaa hr;refine wo (Vha (k:=35) 1035 (vea v16.1.Params v18 h19) rfl rfl rfl rfl) rfl<|rn tk 2 rfl<|wz zoa.pc ([(zoa.mk (([98,111,117,110,100,97,114,121]:Str)) v14)]:List zoa) tk rfl rfl (fun _=>rfl) rfl rfl rfl ?_;obtain ⟨v20,h21,hr⟩:=zaa hr;refine wa tk h21 rfl rfl rfl rfl (fun _=>rfl) rfl rfl<|rn tk 8 rfl ?_;obtain ⟨v22,h23,hr⟩:=zaa hr;refine wo (Vha (k:=43) 1043 (kFa a0.Fields v22 h23) rfl rfl rfl rfl) rfl<|rn tk 8 rfl ?_;refine zdb 1035 rfl (hO ?_);refine wCa (d' :=47) (j:=2) (F:=zoa.pc) (l:=v20) rfl rfl rfl (hO ?_);refine clx 0 hr (yGa _) fun v24 _ hr=>?_
 refine rn tk 3 rfl ?_;obtain ⟨v26,h27,hr⟩:=zaa hr;refine wih tk h27 rfl rfl rfl rfl rfl<|rn tk 1 rfl ?_;obtain ⟨v28,h29,hr⟩:=zaa hr;refine wo (wga (F:=zca.pc) (l:=v22) (n:=v16.2.1) (j:=1) (v:=v28) (v' :=((zca.mk v28.Name v24.1))) (pcs:=[pS v24.1]) rfl rfl rfl zya rfl h29 rfl rfl) rfl<|rn tk 5 rfl ?_;refine kwa 1010 (d:=10) 5 1 rfl rfl rfl (hO ?_);refine rn tk 6 rfl<|wnh tk rfl rfl rfl rfl<|rn tk 4 rfl ?_;refine qma (d:=53) (F:=(cL cU)) (l:=b3) rfl rfl (hC ?_);refine aq1 0 hr [5,9,10,53,54] [1043] (fun s31=>[(55,.i s31.1)]) (fun s31=>[(1010,.row 5 false 1 (List.map cU s31.2))]) (.exit 0) [5,9,10] [1043] (fun _=>[]) (fun b32=>[(1010,.row 5 false 1 (List.map cU b32))]) (fun s31 x33 hr=>?_) (fun b32 hr=>?_)
 .unfold kAa at hr;refine ax 6 56 hr (fun hr=>?_) fun hr=>?_
  .refine rn tk 6 rfl ?_;obtain ⟨v35,h36,hr⟩:=zaa hr;refine wi tk h36 rfl rfl rfl rfl rfl<|rn tk 8 rfl ?_;obtain ⟨v37,h38,hr⟩:=zaa hr;refine wc h38 rfl rfl rfl ?_;obtain ⟨v39,h40,hr⟩:=zaa hr;refine wc h40 rfl rfl rfl ?_;obtain ⟨v41,h42,hr⟩:=zaa hr;refine wo (wAa (k:=63) (l:=s31.2) (s:=v39) (lim:=140737488355328) rfl rfl rfl rfl zra zya.u zJa rfl h42) rfl<|rn tk 6 rfl ?_;obtain ⟨v43,h44,hr⟩:=zaa hr;refine wa tk h44 rfl rfl rfl rfl (fun _=>rfl) rfl rfl<|wz cU ([(13:UInt8),(10:UInt8)]:List UInt8) tk rfl rfl (fun _=>rfl) rfl rfl rfl ?_;obtain ⟨v45,h46,hr⟩:=zaa hr;refine wa tk h46 rfl rfl rfl rfl (fun _=>rfl) rfl rfl ?_;exact cx 8 hr
  exact ox 2 hr
 refine rn tk 7 rfl ?_;obtain ⟨v47,h48,hr⟩:=zaa hr;refine wc h48 rfl rfl rfl ?_;obtain ⟨v49,h50,hr⟩:=zaa hr;refine wc h50 rfl rfl rfl ?_;obtain ⟨v51,h52,hr⟩:=zaa hr;refine wo (wAa (k:=75) (l:=b32) (s:=v49) (lim:=140737488355328) rfl rfl rfl rfl zra zya.u zJa rfl h52) rfl<|rn tk 4 rfl ?_;refine Z9a 1043 rfl (hC ?_);refine qma (d:=2) (F:=zca.pc) (l:=((List.set v22 (Int.toNat v16.2.1) ((zca.mk v28.Name v24.1))))) rfl rfl (hC ?_);refine qma (d:=3) (F:=cU) (l:=v51) rfl rfl (hC ?_);exact kx 1 hr
theorem kPa(a0:List UInt8)(r:List UInt8)(hr:zXa a0=some r):Run prog 46 [.l cU a0] (.l cU r):=by
 unfold zXa at hr;refine rfx (fn:=f46) func46 fun g0 hg=>?_
 refine rn tk 9 rfl ?_;refine Kaa (d:=3) (F:=cU) (l:=a0) rfl rfl rfl zra (fun c1=>hO ?_) (hO ?_)
 .replace hr:=Wpa c1 hr
  exact kx 10 hr
 replace hr:=Wqa hr
 refine rn tk 7 rfl<|wo (Qta (k:=5) rfl zra zJa) rfl<|rn tk 1 rfl ?_;obtain ⟨v2,h3,hr⟩:=zaa hr;refine wo (yQa (k:=7) (F:=cU) (xs:=a0) (lim:=140737488355328) 1002 rfl rfl rfl zra zJa rfl rfl (fun _=>rfl) rfl rfl rfl h3) rfl<|rn tk 3 rfl ?_;refine Z9a 1002 rfl (hC ?_);refine qma (d:=2) (F:=cU) (l:=v2) rfl rfl (hC ?_);exact kx 1 hr
theorem jCa(a0:zka)(r:zda × zma)(hr:kHa a0=some r):Run prog 15 [.agg [.l zca.pc a0.Fields,.l cU a0.Body,.l (zka.pcn 0) a0.Parts]] (.tup [.agg [.l zca.pc r.1.Fields,.l cU r.1.Body],.agg [.i r.2.Code,.i r.2.Index]]):=by
 unfold kHa at hr;refine rfx (fn:=f15) func15 fun g0 hg=>?_
 refine clx 11 hr (wVa _) fun v1 _ hr=>?_
 refine clx 7 hr (zha _) fun v3 _ hr=>?_
 refine ax 2 12 hr (fun hr=>?_) fun hr=>?_
 .refine rn tk 1 rfl<|drX 2 3 3 3 [1] [(14,.agg [.i v1.Code,.i v1.Index]),(13,.agg [.pv (.sl (some true) []),.pv (.sl (some true) [])])] [(2,.ptr 2 0),(3,.ptr 3 0),(14,.agg [.i v1.Code,.i v1.Index])] [(4,.cells [.i v1.Code,.i v1.Index]),(3,.cells [.i 0,.i 0]),(2,.cells [.pv (.sl (some true) []),.pv (.sl (some true) [])]),(1,.cells [.l zca.pc a0.Fields,.l cU a0.Body,.l (zka.pcn 0) a0.Parts])] tk mixed (by kernel_rfl) rfl rfl rfl (pqX tk rfl (.plain rfl) (pqX tk rfl (.plain rfl) .nil)) rfl rfl rfl rfl (by kernel_rfl) ?_;exact kx 5 hr
 refine clx 5 hr (Qda _) fun v6 _ hr=>?_
 refine clx 10 hr (z0a _) fun v8 _ hr=>?_
 refine clx 1 hr (kPa _) fun v10 _ hr=>?_
 refine clx 9 hr (kka _) fun v12 _ hr=>?_
 refine clx 7 hr (zha _) fun v14 _ hr=>?_
 refine ax 2 28 hr (fun hr=>?_) fun hr=>?_
 .refine clx 5 hr (zga _ _) fun v17 _ hr=>?_
  exact kx 6 hr
 refine rn tk 3 rfl ?_;obtain ⟨v19,h20,hr⟩:=zaa hr;refine drF 1 0 [(33,.agg [.l zca.pc v8,.l cU v10])] [(33,.any)] [(2,.ptr 2 0),(3,.ptr 3 0),(33,.agg [.l zca.pc v8,.l cU v10]),(34,.agg [.i v19.Code,.i v19.Index])] [(8,.cells [.i v12.Code,.i v12.Index]),(7,.cells [.l zca.pc v8,.l cU v10]),(4,.cells [.i v1.Code,.i v1.Index]),(3,.cells [.i 0,.i 0]),(2,.cells [.pv (.sl (some true) []),.pv (.sl (some true) [])]),(1,.cells [.l zca.pc a0.Fields,.l cU a0.Body,.l (zka.pcn 0) a0.Parts])] mixed (by kernel_rfl) rfl rfl rfl rfl rfl (pqF tk rfl (.plain rfl) .nil) rfl rfl rfl rfl rfl (fun hJ=>?_) (fun hJ=>?_) ?_
 .refine cl (zna _ h20) rfl rfl ?_;exact hJ _ _ rfl rfl
 .refine cl (zna _ h20) rfl rfl<|rn tk 1 rfl ?_;exact hJ _ _ rfl rfl
 exact kx 5 hr
theorem ZOa(a0:Str)(a1:List zda)(a2:Int)(r:zda × zma)(hr:wqa a0 a1 a2=some r):Run prog 7 [.s a0,.l zda.pc a1,.i a2] (.tup [.agg [.l zca.pc r.1.Fields,.l cU r.1.Body],.agg [.i r.2.Code,.i r.2.Index]]):=by
 unfold wqa at hr;refine rfx (fn:=f7) func7 fun g0 hg=>?_
 refine clx 10 hr (Ksa _) fun v1 _ hr=>?_
 refine ax 3 21 hr (fun hr=>?_) fun hr=>?_
 .refine clx 3 hr (zga _ _) fun v4 _ hr=>?_
  exact kx 6 hr
 refine clx 6 hr (j4a _) fun v6 _ hr=>?_
 refine clx 7 hr (zha _) fun v8 _ hr=>?_
 refine ax 2 27 hr (fun hr=>?_) fun hr=>?_
 .refine rn tk 1 rfl<|drX 2 3 3 3 [1] [(29,.agg [.i v6.Code,.i v6.Index]),(28,.agg [.pv (.sl (some true) []),.pv (.sl (some true) [])])] [(6,.ptr 6 0),(7,.ptr 7 0),(29,.agg [.i v6.Code,.i v6.Index])] [(8,.cells [.i v6.Code,.i v6.Index]),(7,.cells [.i 0,.i 0]),(6,.cells [.pv (.sl (some true) []),.pv (.sl (some true) [])])] tk mixed (by kernel_rfl) rfl rfl rfl (pqX tk rfl (.plain rfl) (pqX tk rfl (.plain rfl) .nil)) rfl rfl rfl rfl (by kernel_rfl) ?_;exact kx 5 hr
 refine clx 5 hr (W8a _ _) fun v11 _ hr=>?_
 refine clx 13 hr (zha _) fun v13 _ hr=>?_
 refine ax 2 36 hr (fun hr=>?_) fun hr=>?_
 .refine clx 5 hr (zga _ _) fun v16 _ hr=>?_
  exact kx 6 hr
 refine clx 5 hr (W9a _) fun v18 _ hr=>?_
 refine rn tk 15 rfl<|wn tk rfl rfl rfl ?_;refine clx 0 hr (qEa _) fun v20 _ hr=>?_
 refine rn tk 2 rfl<|wz zca.pc ([(zca.mk (([70,114,111,109]:Str)) a0),(zca.mk (([68,97,116,101]:Str)) v18.1),(zca.mk (([88,45,68,105,103,101,115,116]:Str)) v20),(zca.mk (([67,111,110,116,101,110,116,45,84,121,112,101]:Str)) (([109,117,108,116,105,112,97,114,116,47,100,105,103,101,115,116]:Str)))]:List zca) tk rfl rfl (fun _=>rfl) rfl (by kernel_rfl) rfl<|rn tk 2 rfl ?_;refine zxa 1013 (o:=13) (j:=2) 42 3 rfl rfl rfl rfl (hO ?_);refine rn tk 1 rfl ?_;refine zxa 2013 (o:=13) (j:=2) 42 3 rfl rfl rfl rfl (hO ?_);refine rn tk 6 rfl<|wn tk rfl rfl rfl ?_;refine aq1 4 hr [6,7,10,13,57,58] [10,7] (fun s22=>[(59,.i s22.1)]) (fun s22=>[(2013,.row 42 false 3 (List.map (zka.pcn 0) s22.2)),(13,.cells [.l zca.pc (([(zca.mk (([70,114,111,109]:Str)) a0),(zca.mk (([68,97,116,101]:Str)) v18.1),(zca.mk (([88,45,68,105,103,101,115,116]:Str)) v20),(zca.mk (([67,111,110,116,101,110,116,45,84,121,112,101]:Str)) (([109,117,108,116,105,112,97,114,116,47,100,105,103,101,115,116]:Str)))]:List zca)),.pv (.sl (some true) []),.hs 2013 0]),(6,.cells [.pv (.sl (some true) []),.pv (.sl (some true) [])])]) (.exit 0) [6,7,10,13] [10,7] (fun _=>[]) (fun b23=>[(2013,.row 42 false 3 (List.map (zka.pcn 0) b23)),(13,.cells [.l zca.pc (([(zca.mk (([70,114,111,109]:Str)) a0),(zca.mk (([68,97,116,101]:Str)) v18.1),(zca.mk (([88,45,68,105,103,101,115,116]:Str)) v20),(zca.mk (([67,111,110,116,101,110,116,45,84,121,112,101]:Str)) (([109,117,108,116,105,112,97,114,116,47,100,105,103,101,115,116]:Str)))]:List zca)),.pv (.sl (some true) []),.hs 2013 0]),(6,.cells [.pv (.sl (some true) []),.pv (.sl (some true) [])])]) (fun s22 x24 hr=>?_) (fun b23 hr=>?_)
 .unfold qKa at hr;refine ax 6 60 hr (fun hr=>?_) fun hr=>?_
  .refine rn tk 6 rfl ?_;obtain ⟨v26,h27,hr⟩:=zaa hr;refine wi tk h27 rfl rfl rfl rfl rfl ?_;refine clx 8 hr (wta _) fun v28 _ hr=>?_
   refine rn tk 12 rfl<|wz zca.pc ([(zca.mk (([67,111,110,116,101,110,116,45,84,121,112,101]:Str)) (([109,101,115,115,97,103,101,47,105,116,101,109]:Str)))]:List zca) tk rfl rfl (fun _=>rfl) rfl (by kernel_rfl) rfl<|rn tk 2 rfl<|wz (zka.pcn 0) ([(zka.mk (([(zca.mk (([67,111,110,116,101,110,116,45,84,121,112,101]:Str)) (([109,101,115,115,97,103,101,47,105,116,101,109]:Str)))]:List zca)) v28.1 ([]))]:List zka) tk rfl rfl (fun _=>rfl) rfl (by kernel_rfl) rfl ?_;obtain ⟨v30,h31,hr⟩:=zaa hr;refine wa tk h31 rfl rfl rfl rfl (fun _=>rfl) rfl rfl ?_;exact cx 9 hr
  exact ox 2 hr
 refine rn tk 5 rfl ?_;refine wCa (d' :=79) (j:=2) (F:=(zka.pcn 0)) (l:=b23) rfl rfl rfl (hO ?_);refine clx 0 hr (jCa _) fun v32 _ hr=>?_
 refine clx 12 hr (zha _) fun v34 _ hr=>?_
 refine ax 2 84 hr (fun hr=>?_) fun hr=>?_
 .refine clx 5 hr (zga _ _) fun v37 _ hr=>?_
  exact kx 6 hr
 refine rn tk 3 rfl ?_;obtain ⟨v39,h40,hr⟩:=zaa hr;refine drF 1 0 [(89,.agg [.l zca.pc v32.1.Fields,.l cU v32.1.Body])] [(89,.any)] [(6,.ptr 6 0),(7,.ptr 7 0),(89,.agg [.l zca.pc v32.1.Fields,.l cU v32.1.Body]),(90,.agg [.i v39.Code,.i v39.Index])] [(18,.cells [.l zca.pc v32.1.Fields,.l cU v32.1.Body]),(2013,.row 42 false 3 (List.map (zka.pcn 0) b23)),(13,.cells [.l zca.pc (([(zca.mk (([70,114,111,109]:Str)) a0),(zca.mk (([68,97,116,101]:Str)) v18.1),(zca.mk (([88,45,68,105,103,101,115,116]:Str)) v20),(zca.mk (([67,111,110,116,101,110,116,45,84,121,112,101]:Str)) (([109,117,108,116,105,112,97,114,116,47,100,105,103,101,115,116]:Str)))]:List zca)),.pv (.sl (some true) []),.hs 2013 0]),(10,.cells [.i v32.2.Code,.i v32.2.Index]),(7,.cells [.i 0,.i 0]),(6,.cells [.pv (.sl (some true) []),.pv (.sl (some true) [])])] mixed (by kernel_rfl) rfl rfl rfl rfl rfl (pqF tk rfl (.plain rfl) .nil) rfl rfl rfl rfl rfl (fun hJ=>?_) (fun hJ=>?_) ?_
 .refine cl (zna _ h40) rfl rfl ?_;exact hJ _ _ rfl rfl
 .refine cl (zna _ h40) rfl rfl<|rn tk 1 rfl ?_;exact hJ _ _ rfl rfl
 exact kx 5 hr
theorem ZPa(a0:Str)(r:Bool)(hr:jKa a0=some r):Run prog 158 [.s a0] (.bo r):=by
 unfold jKa at hr;refine rfx (fn:=f158) func158 fun g0 hg=>?_
 refine clx 8 hr (yea _ _) fun v1 _ hr=>?_
 refine clx 11 hr (zha _) fun v3 _ hr=>?_
 exact kx 5 hr
theorem Wfa(a0:List zca)(a1:Str)(r:zma)(hr:Zwa a0 a1=some r):Run prog 118 [.l zca.pc a0,.s a1] (.agg [.i r.Code,.i r.Index]):=by
 unfold Zwa at hr;refine rfx (fn:=f118) func118 fun g0 hg=>?_
 refine clx 9 hr (qxa _) fun v1 _ hr=>?_
 refine clx 7 hr (zha _) fun v3 _ hr=>?_
 refine ax 2 9 hr (fun hr=>?_) fun hr=>?_
 .exact kx 8 hr
 refine clx 6 hr (ZPa _) fun v6 _ hr=>?_
 refine ax 3 13 hr (fun hr=>?_) fun hr=>?_
 .refine clx 2 hr (zga _ _) fun v9 _ hr=>?_
  exact kx 5 hr
 refine clx 4 hr zna fun v11 _ hr=>?_
 exact kx 4 hr
theorem YAa(a0:List zca)(a1:Str)(r:(List Str) × zma)(hr:Voa a0 a1=some r):Run prog 82 [.l zca.pc a0,.s a1] (.tup [.l cS r.1,.agg [.i r.2.Code,.i r.2.Index]]):=by
 unfold Voa at hr;refine rfx (fn:=f82) func82 fun g0 hg=>?_
 refine clx 11 hr (Wfa _ _) fun v1 _ hr=>?_
 refine clx 7 hr (zha _) fun v3 _ hr=>?_
 refine ax 2 14 hr (fun hr=>?_) fun hr=>?_
 .refine rn tk 1 rfl<|dr 2 [(4,.pv (.sl (some true) [])),(15,.agg [.i v1.Code,.i v1.Index])] mixed (by kernel_rfl) rfl rfl (pq tk rfl (.plain rfl) (pq tk rfl (.plain rfl) .nil)) rfl ?_;exact kx 5 hr
 refine rn tk 5 rfl ?_;refine kwa 1007 (d:=7) 9 1 rfl rfl rfl (hO ?_);refine rn tk 6 rfl<|wn tk rfl rfl rfl<|rn tk 4 rfl<|al1 hr (fun s6=>[(1,.s a1),(5,.ptr 5 0),(7,.hs 1007 0),(16,.l zca.pc a0),(17,.i ((a0.length:Int))),(18,.i s6.1)]) (fun s6=>[(1007,.row 9 false 1 (List.map cS s6.2)),(5,.cells [.i 0,.i 0])]) (.exit 0) (fun b7=>[(5,.ptr 5 0),(7,.hs 1007 0)]) (fun b7=>[(1007,.row 9 false 1 (List.map cS b7)),(5,.cells [.i 0,.i 0])]) rfl rfl (fun s6 x8 hr=>?_) (fun b7 hr=>?_)
 .unfold QDa at hr;refine ax 6 19 hr (fun hr=>?_) fun hr=>?_
  .refine rn tk 2 rfl<|jb hr (fun j10=>[(1,.s a1),(5,.ptr 5 0),(7,.hs 1007 0),(16,.l zca.pc a0),(17,.i ((a0.length:Int))),(18,.i s6.1)]) (fun j10=>[(1007,.row 9 false 1 (List.map cS j10)),(5,.cells [.i 0,.i 0])]) (fun j10 hr=>?_) (fun j10 hr=>?_)
   .refine rn tk 3 rfl ?_;obtain ⟨v11,h12,hr⟩:=zaa hr;refine wi tk h12 rfl rfl rfl rfl rfl ?_;refine clx 10 hr (z9a _ _) fun v13 _ hr=>?_
    refine ax 2 25 hr (fun hr=>?_) fun hr=>?_
    .refine rn tk 4 rfl<|wz cS ([v11.Value]:List Str) tk rfl rfl (fun _=>rfl) rfl rfl rfl ?_;obtain ⟨v16,h17,hr⟩:=zaa hr;refine wa tk h17 rfl rfl rfl rfl (fun _=>rfl) rfl rfl ?_;exact jx 3 hr
    exact jx 2 hr
   exact cx 4 hr
  exact ox 2 hr
 refine clx 5 hr zna fun v18 _ hr=>?_
 refine rn tk 4 rfl ?_;refine qma (d:=4) (F:=cS) (l:=b7) rfl rfl (hC ?_);exact kx 1 hr
theorem v8a(a0:List zca)(a1:Str)(a2:Str)(r:Bool)(hr:yxa a0 a1 a2=some r):Run prog 49 [.l zca.pc a0,.s a1,.s a2] (.bo r):=by
 unfold yxa at hr;refine rfx (fn:=f49) func49 fun g0 hg=>?_
 refine clx 9 hr (YAa _ _) fun v1 _ hr=>?_
 refine jq 8 hr [] [] (fun j3=>[(6,.bo j3)]) (fun _=>[]) (fun j3 hr=>?_) (fun j3 hr=>?_)
 .refine rn tk 2 rfl<|wn tk rfl rfl rfl ?_;refine bx 2 18 hr (fun c4 hr=>?_) fun c4 hr=>?_
  .refine rn tk 1 rfl ?_;obtain ⟨v5,h6,hr⟩:=zaa hr;refine ug rfl rfl rfl<|wi tk h6 rfl rfl rfl rfl rfl ?_;exact jx 6 hr
  exact jx 8 hr
 exact kx 1 hr
theorem opG_bl{E:Env}{o:Oper}{FR:Fr}{σ:Sto}{e b:Bool}(h:e=b)(x:OpG E o FR σ (.pv (.b (.bool e)))):OpG E o FR σ (.pv (.b (.bool b))):=h▸x
theorem ZQa(a0:List UInt8)(a1:List UInt8)(r:Bool)(hr:wia a0 a1=some r):Run prog 84 [.l cU a0,.l cU a1] (.bo r):=by
 unfold wia at hr;refine rfx (fn:=f84) func84 fun g0 hg=>?_
 refine rn tk 8 rfl<|wb tk rfl rfl rfl<|rn tk 1 rfl<|wb tk rfl rfl rfl ?_;exact kx 5 hr
theorem Y6a(w:World):(callFunc 276 #[]).run prog w=.ok (.value (.tuple #[])) w:=run_call_mark0 func276 (by kernel_rfl) (by kernel_rfl) (by kernel_rfl) .disable (by kernel_rfl) w
theorem kdb(w:World):(callFunc 278 #[]).run prog w=.ok (.value (.tuple #[])) w:=run_call_mark0 func278 (by kernel_rfl) (by kernel_rfl) (by kernel_rfl) .enable (by kernel_rfl) w
theorem vOb(a:Addr)(w:World):(callFunc 279 #[.pointer (some a)]).run prog w=.ok (.value (.tuple #[])) w:=run_call_marked func279 (by kernel_rfl) (by kernel_rfl) (by kernel_rfl) .acquire (by kernel_rfl) a w
theorem Yea(a:Addr)(w:World):(callFunc 281 #[.pointer (some a)]).run prog w=.ok (.value (.tuple #[])) w:=run_call_marked func281 (by kernel_rfl) (by kernel_rfl) (by kernel_rfl) .releaseMerge (by kernel_rfl) a w
theorem VCa(a:Addr)(x:Value)(u:FrameMode)(w:World)(hc:w.cell? a=some x)(hz:w.frozen? a=false):
 CallsD prog 240 #[.pointer (some a),.bool true] u w fun e u' w' =>u' =u/\(e=.returned (.tuple #[])/\w' =w.drew.setCell a (.int .u32 1)):=by
 have hc' :w.drew.cell? a=some x:=by go_simp
 have hz' :w.drew.frozen? a=false:=by go_simp
 have hst:=run_call_store (P:=prog) func256 (by kernel_rfl) (by kernel_rfl) (by kernel_rfl) (by kernel_rfl) (k:=.u32) (y:=1) hc' hz';go_enter_d func240,Tryz.ntmps240
 go_wp2
 go_region_calls
 all_goals (go_end0;exact ⟨rfl,rfl⟩)
theorem Q4a(a:Addr)(u:FrameMode)(w:World)(hc:w.cell? a=some (.int .i32 1))(hz:w.frozen? a=false):
 CallsD prog 239 #[.pointer (some a)] u w fun e u' w' =>u' =u/\(e=.returned (.tuple #[])/\w' =w.setCell a (.int .i32 0)):=by
 have hd:=Y6a;have he:=kdb;have hr:=Yea;have hadd:=run_call_add (P:=prog) func282 (by kernel_rfl) (by kernel_rfl) (by kernel_rfl) .i32 (by kernel_rfl) (y:= -1) (s:=0) hc hz (by simp[go_sem];rfl);have hcv:=run_convert_to_unsafe (P:=prog) (src:=336) (dst:=217) underlying336 underlying217 (by kernel_rfl) hc;go_enter_d func239,Tryz.ntmps239
 go_wp2
 go_end0
 go_wp2
 all_goals (go_end0;all_goals exact ⟨rfl,rfl⟩)
theorem keb(a:Addr)(w:World)(hc:w.cell? a=some (.int .i32 0))(hz:w.frozen? a=false):
 Calls prog 238 #[.pointer (some a)] w fun e w' =>e=.returned (.tuple #[])/\w' =w.setCell a (.int .i32 1):=by
 have hd:=Y6a;have he:=kdb;have ha:=vOb;have hcas:=run_call_cas_hit (P:=prog) func277 (by kernel_rfl) (by kernel_rfl) (by kernel_rfl) .i32 (by kernel_rfl) (y:=1) hc hz;have hc' :(w.setCell a (.int .i32 1)).cell? a=some (.int .i32 1):=World.cell?_setCell_same w a _ hc;have hcv:=run_convert_to_unsafe (P:=prog) (src:=336) (dst:=217) underlying336 underlying217 (by kernel_rfl) hc';go_enter func238,Tryz.ntmps238
 go_wp2
 first | go_end0 | (simp only[Exit.inBlock,Exit.then];refine bodyPost_ret (results_none rfl _ _ _) rfl ?_) | refine bodyPost_ret (results_none rfl _ _ _) rfl ?_
 go_wp2
 all_goals (go_end0;all_goals exact ⟨rfl,rfl⟩)
section
open Go.Shelf Go.RowKit Go.Lib Go.Proofs.Tryz
def kpa:Array Value:=((List.range 256).map fun k:Nat=>Value.int .u8 (if k=0∨k=13 then 32 else (k:Int))).toArray
def v9a(i:Nat):Array Value:=((List.range 256).map fun k:Nat=>Value.int .u8 (if k < i then (k:Int) else 0)).toArray
structure RpLaid (P:Program):Prop where
 mixed:P.follows Departure.mixedOrders=true
 f:P.funcs[221]? =some f221
 t3:P.underlying 3=some (.int .i64)
 a3:∀w:World,(isAgg 3).run P w=.ok false w
 z3:∀w:World,(Go.sizeOf 3).run P w=.ok 1 w
 v3:∀w:World,(zeroValue 3).run P w=.ok (.int .i64 0) w
 t4:P.underlying 4=some .bool
 a4:∀w:World,(isAgg 4).run P w=.ok false w
 z4:∀w:World,(Go.sizeOf 4).run P w=.ok 1 w
 v4:∀w:World,(zeroValue 4).run P w=.ok (.bool false) w
 t5:P.underlying 5=some (.int .u8)
 a5:∀w:World,(isAgg 5).run P w=.ok false w
 z5:∀w:World,(Go.sizeOf 5).run P w=.ok 1 w
 v5:∀w:World,(zeroValue 5).run P w=.ok (.int .u8 0) w
 t9:P.underlying 9=some .string
 a9:∀w:World,(isAgg 9).run P w=.ok false w
 z9:∀w:World,(Go.sizeOf 9).run P w=.ok 1 w
 v9:∀w:World,(zeroValue 9).run P w=.ok (.string ⟨#[]⟩) w
 t91:P.underlying 54=some (.slice 9)
 a91:∀w:World,(isAgg 54).run P w=.ok false w
 z91:∀w:World,(Go.sizeOf 54).run P w=.ok 1 w
 v91:∀w:World,(zeroValue 54).run P w=.ok (.slice none 0 0) w
 t222:P.underlying 295=some (.array 256 5)
 t170 : P.underlying 255 = some (.struct #[{ name := "once", type := 251, offset := 0, embedded := false, tag := "", pkgPath := "strings", byteOffset := 0 }, { name := "r", type := 253, offset := 3, embedded := false, tag := "", pkgPath := "strings", byteOffset := 16 }, { name := "oldnew", type := 54, offset := 4, embedded := false, tag := "", pkgPath := "strings", byteOffset := 32 }])
 z166:∀w:World,(Go.sizeOf 251).run P w=.ok 3 w
 z168:∀w:World,(Go.sizeOf 253).run P w=.ok 1 w
 hv222:∀w:World,(zeroValue 295).run P w=.ok (.agg (v9a 0)) w
 c223:P.concrete 296=true
 z222:∀w:World,(Go.sizeOf 295).run P w=.ok 256 w
 hi222:(P.info? 295).map (·.size)=some 256
theorem rp_laid:RpLaid prog where
 mixed:=by kernel_rfl
 f:=func221
 t3:=underlying3
 a3:=isAgg3
 z3:=sizeOf3
 v3:=zeroValue3
 t4:=underlying4
 a4:=isAgg4
 z4:=sizeOf4
 v4:=zeroValue4
 t5:=underlying5
 a5:=isAgg5
 z5:=sizeOf5
 v5:=zeroValue5
 t9:=underlying9
 a9:=isAgg9
 z9:=sizeOf9
 v9:=zeroValue9
 t91:=underlying54
 a91:=isAgg54
 z91:=sizeOf54
 v91:=zeroValue54
 t222:=underlying295
 t170:=underlying255
 z166:=sizeOf251
 z168:=sizeOf253
 hv222:=fun w=>(zeroValue295 w).trans (by kernel_rfl)
 c223:=by kernel_rfl
 z222:=sizeOf295
 hi222:=by kernel_rfl
theorem Y7a(i k:Nat)(h:k < 256):(v9a i)[k]? =some (.int .u8 (if k < i then (k:Int) else 0)):=by
 unfold v9a;simp only[jBc,jAj,List.getElem?_range h,jCr]
theorem qkb(i:Nat)(h:i < 256):(v9a i).setIfInBounds i (.int .u8 (i:Int))=v9a (i+1):=by
 apply Array.ext_getElem?;intro k;rw[Array.getElem?_setIfInBounds];unfold v9a;simp only[jBc,jAj,List.size_toArray,jAw,List.length_range];by_cases hk:i=k
 .subst hk;rw[if_pos rfl,if_pos h,List.getElem?_range h];simp
 rw[if_neg hk];by_cases h2:k < 256
 .rw[List.getElem?_range h2];simp only[jCr];have:(k < i)↔(k < i+1):=by omega
  simp only[this]
 rw[jCm (by simp;omega)];rfl
def qVb:Array Value:=(v9a 256).setIfInBounds 13 (.int .u8 32)
theorem vPb:qVb.setIfInBounds 0 (.int .u8 32)=kpa:=by kernel_rfl
theorem rp_build{P:Program}(L:RpLaid P)(b d o c:Nat)(w:World)(hr:w.cell? ⟨b,4,none⟩=some (.slice (some ⟨d,o,none⟩) 4 c))(hd:d < w.heap.size)(h0:w.cell? ⟨d,o,none⟩=some (.string ⟨#[0]⟩))(h1:w.cell? ⟨d,o+1,none⟩=some (.string ⟨#[32]⟩))(h2:w.cell? ⟨d,o+2,none⟩=some (.string ⟨#[13]⟩))(h3:w.cell? ⟨d,o+3,none⟩=some (.string ⟨#[32]⟩)):
 Calls P 221 #[.pointer (some ⟨b,0,none⟩)] w fun e w' =>e=.returned (.iface 296 (.pointer (some ⟨w.heap.size,0,none⟩)))/\w' =w.alloc (.cells kpa 295):=by
 have t3:=L.t3;have a3:=L.a3;have z3:=L.z3;have v3:=L.v3;have t4:=L.t4;have a4:=L.a4;have z4:=L.z4;have v4:=L.v4;have t5:=L.t5;have a5:=L.a5;have z5:=L.z5;have v5:=L.v5;have t9:=L.t9;have a9:=L.a9;have z9:=L.z9;have v9:=L.v9;have t91:=L.t91;have a91:=L.a91;have z91:=L.z91;have v91:=L.v91;have t170:=L.t170;have z166:=L.z166;have z168:=L.z168;have hv222:=L.hv222;have u222:=run_underlying L.t222;have t222:=L.t222;have u170:=run_underlying L.t170;have u91:=run_underlying L.t91;have u9:=run_underlying L.t9;have u5:=run_underlying L.t5;have u3:=run_underlying L.t3;have u4:=run_underlying L.t4;have hmk:∀(x:Value) (w:World),(Instr.makeInterface 296 x).run P w=.ok (.iface 296 x) w:=fun x w=>run_makeInterface w _ x L.c223
 go_enter L.f,Tryz.ntmps221
 go_wp2
 go_loopg [4,5] 2 (fun g v4 v5 wx=>v4=.bool true/\wx=w/\((g=2/\v5=.int .i64 0)∨(g=1/\v5=.int .i64 2)∨(g=0/\v5=.int .i64 4)))
 case atStart=>exact ⟨rfl,rfl,.inl ⟨rfl,rfl⟩⟩
 case round=>
  obtain ⟨rfl,rfl,hg⟩:=hrel;rcases hg with ⟨rfl,rfl⟩ | ⟨rfl,rfl⟩ | ⟨rfl,rfl⟩
  .go_wp2
   go_roundg 1
   case measure=>omega
   case rel=>exact ⟨rfl,rfl,.inr (.inl ⟨rfl,rfl⟩)⟩
  .go_wp2
   go_roundg 0
   case measure=>omega
   case rel=>exact ⟨rfl,rfl,.inr (.inr ⟨rfl,rfl⟩)⟩
  have hsz:(v9a 0).size=256:=by simp[v9a]
  have hsc:=run_storeCells_new (P:=P) wr 295 (v9a 0) (v9a 0) (by rw[hsz];exact L.hi222) rfl (by decide+kernel);go_wp2
  simp only[L.z222,Result.andThen,↓reduceIte,hsc];rw[Oper.upon_skip];go_wp2
  have k0:∀A:Array Value,(wr.alloc (.cells A 295)).cell? ⟨d,o,none⟩=some (.string ⟨#[0]⟩):=fun A=>by rw[World.cell?_alloc_past _ _ _ hd];exact h0
  have k1:∀A:Array Value,(wr.alloc (.cells A 295)).cell? ⟨d,o+1,none⟩=some (.string ⟨#[32]⟩):=fun A=>by rw[World.cell?_alloc_past _ _ _ hd];exact h1
  have k2:∀A:Array Value,(wr.alloc (.cells A 295)).cell? ⟨d,o+2,none⟩=some (.string ⟨#[13]⟩):=fun A=>by rw[World.cell?_alloc_past _ _ _ hd];exact h2
  have k3:∀A:Array Value,(wr.alloc (.cells A 295)).cell? ⟨d,o+3,none⟩=some (.string ⟨#[32]⟩):=fun A=>by rw[World.cell?_alloc_past _ _ _ hd];exact h3
  go_loopg [61] 256 (fun g v61 wx=>∃i:Nat,i+g=256/\v61=.int .i64 i/\wx=wr.alloc (.cells (v9a i) 295))
  case atStart=>exact ⟨0,rfl,rfl,rfl⟩
  case round=>
   obtain ⟨i,hig,rfl,rfl⟩:=hrel;cases gk with
   | zero=>
    obtain rfl:i=256:=by omega
    have c13:=Y7a 256 13 (by omega);have m0:qVb[0]? =some (.int .u8 0):=by kernel_rfl
    have hm1:(v9a 256).setIfInBounds 13 (.int .u8 32)=qVb:=rfl;have hm2:=vPb;go_wp2
    go_loopg [8] 2 (fun g v8 wx=>(g=2/\v8=.int .i64 2/\wx=wr.alloc (.cells (v9a 256) 295))∨(g=1/\v8=.int .i64 0/\wx=wr.alloc (.cells qVb 295))∨(g=0/\v8=.int .i64 (-2)/\wx=wr.alloc (.cells kpa 295)))
    case atStart=>exact .inl ⟨rfl,rfl,rfl⟩
    case round=>
     rcases hrel with ⟨rfl,rfl,rfl⟩ | ⟨rfl,rfl,rfl⟩ | ⟨rfl,rfl,rfl⟩
     .go_wp2
      go_roundg 1
      case measure=>omega
      case rel=>exact .inr (.inl ⟨rfl,rfl,by first | rfl | rw[hm1]⟩)
     .go_wp2
      go_roundg 0
      case measure=>omega
      case rel=>exact .inr (.inr ⟨rfl,rfl,by first | rfl | rw[hm2]⟩)
     go_wp2
     go_ret
     exact ⟨rfl,rfl⟩
   | succ g=>
    have hi:(i:Int) < 256:=by omega
    have hset:=qkb i (by omega);have hcell:=Y7a i i (by omega);go_wp2
    go_roundg g
    case measure=>omega
    case rel=>exact ⟨i+1,by omega,by first | rfl | simp,by first | rfl | rw[hset]⟩
end
section
open Go.Shelf Go.RowKit Go.Lib Go.Proofs.Tryz
abbrev bI(A:Nat):Value:=.iface 296 (.pointer (some ⟨A,0,none⟩))
theorem q3a{b i j:Nat}(h:i≠j):(⟨b,i,none⟩:Addr)≠⟨b,j,none⟩:=fun e=>h (by cases e;rfl)
theorem Y8a{b c i j:Nat}(h:b≠c):(⟨b,i,none⟩:Addr)≠⟨c,j,none⟩:=fun e=>h (by cases e;rfl)
structure vQb (w:World) (b d o c:Nat):Prop where
 hb:b < w.heap.size
 hd:d < w.heap.size
 ne:b≠d
 c0:w.cell? ⟨b,0,none⟩=some (.int .u32 0)
 c1:w.cell? ⟨b,1,none⟩=some (.int .i32 0)
 c3:w.cell? ⟨b,3,none⟩=some .nilIface
 c4:w.cell? ⟨b,4,none⟩=some (.slice (some ⟨d,o,none⟩) 4 c)
 fz:∀i,w.frozen? ⟨b,i,none⟩=false
 s0:w.cell? ⟨d,o,none⟩=some (.string ⟨#[0]⟩)
 s1:w.cell? ⟨d,o+1,none⟩=some (.string ⟨#[32]⟩)
 s2:w.cell? ⟨d,o+2,none⟩=some (.string ⟨#[13]⟩)
 s3:w.cell? ⟨d,o+3,none⟩=some (.string ⟨#[32]⟩)
theorem rp_once(b d o c:Nat)(w:World)(hb:b < w.heap.size)(hd:d < w.heap.size)(c3:w.cell? ⟨b,3,none⟩=some .nilIface)(c4:w.cell? ⟨b,4,none⟩=some (.slice (some ⟨d,o,none⟩) 4 c))(fz:∀i,w.frozen? ⟨b,i,none⟩=false)
 (s0:w.cell? ⟨d,o,none⟩=some (.string ⟨#[0]⟩)) (s1:w.cell? ⟨d,o+1,none⟩=some (.string ⟨#[32]⟩)) (s2:w.cell? ⟨d,o+2,none⟩=some (.string ⟨#[13]⟩)) (s3:w.cell? ⟨d,o+3,none⟩=some (.string ⟨#[32]⟩)):
 Calls prog 193 #[.pointer (some ⟨b,0,none⟩)] w fun e w' =>e=.returned (.tuple #[])/\
  w' =((w.setCell ⟨b,3,none⟩ (bI w.heap.size)).setCell ⟨b,4,none⟩ (.slice none 0 0)).alloc (.cells kpa 295):=by
 have a3:(w.alloc (.cells kpa 295)).cell? ⟨b,3,none⟩=some .nilIface:=by rw[World.cell?_alloc_past _ _ _ hb];exact c3
 have z3:(w.alloc (.cells kpa 295)).frozen? ⟨b,3,none⟩=false:=by rw[World.frozen?_alloc_past _ _ _ hb];exact fz 3
 have a4:((w.alloc (.cells kpa 295)).setCell ⟨b,3,none⟩ (bI w.heap.size)).cell? ⟨b,4,none⟩=some (.slice (some ⟨d,o,none⟩) 4 c):=by rw[World.cell?_setCell_other _ _ _ _ (q3a (by decide)),World.cell?_alloc_past _ _ _ hb];exact c4
 have z4:((w.alloc (.cells kpa 295)).setCell ⟨b,3,none⟩ (bI w.heap.size)).frozen? ⟨b,4,none⟩=false:=by
  have:=fz 4;have h2:(w.alloc (.cells kpa 295)).frozen? ⟨b,4,none⟩=false:=by rw[World.frozen?_alloc_past _ _ _ hb];exact this
  simp[h2]
 go_enter func193,Tryz.ntmps193
 go_wp2_with (go_at_call 221;refine (rp_build rp_laid b d o c _ c4 hd s0 s1 s2 s3).mono ?_;rintro e w' ⟨rfl,rfl⟩)
 go_end0
 exact ⟨rfl,rfl⟩
theorem qWb(a:Addr)(w:World)(h:w.cell? a=some (.int .u32 0)):Calls prog 219 #[.pointer (some a)] w fun e w' =>e=.returned (.bool false)/\w' =w:=by
 have hl:=run_call_load (P:=prog) func237 (by kernel_rfl) (by kernel_rfl) (by kernel_rfl) .u32 (by kernel_rfl) h;go_enter func219,Tryz.ntmps219
 go_wp2
 go_ret
 exact ⟨rfl,rfl⟩
theorem rp_load1(a:Addr)(w:World)(h:w.cell? a=some (.int .u32 1)):Calls prog 219 #[.pointer (some a)] w fun e w' =>e=.returned (.bool true)/\w' =w:=by
 have hl:=run_call_load (P:=prog) func237 (by kernel_rfl) (by kernel_rfl) (by kernel_rfl) .u32 (by kernel_rfl) h;go_enter func219,Tryz.ntmps219
 go_wp2
 go_ret
 exact ⟨rfl,rfl⟩
def ranW(b:Nat)(w:World):World:=(((((w.setCell ⟨b,1,none⟩ (.int .i32 1)).setCell ⟨b,3,none⟩ (bI w.heap.size)).setCell ⟨b,4,none⟩ (.slice none 0 0)).alloc (.cells kpa 295)).drew.setCell ⟨b,0,none⟩ (.int .u32 1)).setCell ⟨b,1,none⟩ (.int .i32 0)
theorem rp_slow(b d o c:Nat)(w:World)(F:vQb w b d o c):
 Calls prog 220 #[.pointer (some ⟨b,0,none⟩),.func (.func 193) #[.pointer (some ⟨b,0,none⟩)] #[]] w fun e w' =>e=.returned (.tuple #[])/\w' =ranW b w:=by
 have hw1:(w.setCell ⟨b,1,none⟩ (.int .i32 1)).heap.size=w.heap.size:=by simp
 have hl:(w.setCell ⟨b,1,none⟩ (.int .i32 1)).cell? ⟨b,0,none⟩=some (.int .u32 0):=(World.cell?_setCell_other _ ⟨b,1,none⟩ ⟨b,0,none⟩ _ (by simp)).trans F.c0;have ho:Calls prog 193 #[.pointer (some ⟨b,0,none⟩)] (w.setCell ⟨b,1,none⟩ (.int .i32 1)) fun e w' =>e=.returned (.tuple #[])/\
  w' =(((w.setCell ⟨b,1,none⟩ (.int .i32 1)).setCell ⟨b,3,none⟩ (bI w.heap.size)).setCell ⟨b,4,none⟩ (.slice none 0 0)).alloc (.cells kpa 295):=by
  have h:=rp_once b d o c (w.setCell ⟨b,1,none⟩ (.int .i32 1)) (by rw[hw1];exact F.hb) (by rw[hw1];exact F.hd) ((World.cell?_setCell_other _ _ _ _ (q3a (by decide))).trans F.c3) ((World.cell?_setCell_other _ _ _ _ (q3a (by decide))).trans F.c4) (fun i=>by have:=F.fz i;simp[this])
   ((World.cell?_setCell_other _ _ _ _ (Y8a F.ne)).trans F.s0) ((World.cell?_setCell_other _ _ _ _ (Y8a F.ne)).trans F.s1) ((World.cell?_setCell_other _ _ _ _ (Y8a F.ne)).trans F.s2) ((World.cell?_setCell_other _ _ _ _ (Y8a F.ne)).trans F.s3)
  rw[hw1]at h;exact h
 have hnot:∀(x:Bool) (w:World),(Op.unary .not (.bool x)).run prog w=.ok (.bool (!x)) w:=fun _ _=>rfl
 have h1:=F.c1;have f1:=F.fz 1;go_enter_defers func220,Tryz.ntmps220
 go_wp2_with (first | (go_at_call 238;refine (keb ⟨b,1,none⟩ _ (by go_simp) (by go_simp)).mono ?_;rintro e w' ⟨rfl,rfl⟩) | (go_at_call 219;refine (qWb ⟨b,0,none⟩ _ hl).mono ?_;rintro e w' ⟨rfl,rfl⟩) | (go_at_call 193;refine ho.mono ?_;rintro e w' ⟨rfl,rfl⟩))
 go_wp2
 have hA0:((((w.setCell ⟨b,1,none⟩ (.int .i32 1)).setCell ⟨b,3,none⟩ (bI w.heap.size)).setCell ⟨b,4,none⟩ (.slice none 0 0)).alloc (.cells kpa 295)).cell? ⟨b,0,none⟩=some (.int .u32 0):=by
  rw[World.cell?_alloc_past _ _ _ (by simp;exact F.hb),World.cell?_setCell_other _ _ _ _ (q3a (by decide)),World.cell?_setCell_other _ _ _ _ (q3a (by decide)),World.cell?_setCell_other _ _ _ _ (q3a (by decide))];exact F.c0
 have hA1:((((w.setCell ⟨b,1,none⟩ (.int .i32 1)).setCell ⟨b,3,none⟩ (bI w.heap.size)).setCell ⟨b,4,none⟩ (.slice none 0 0)).alloc (.cells kpa 295)).cell? ⟨b,1,none⟩=some (.int .i32 1):=by
  rw[World.cell?_alloc_past _ _ _ (by simp;exact F.hb),World.cell?_setCell_other _ _ _ _ (q3a (by decide)),World.cell?_setCell_other _ _ _ _ (q3a (by decide))];exact World.cell?_setCell_same w _ _ h1
 have hZ:∀i,((((w.setCell ⟨b,1,none⟩ (.int .i32 1)).setCell ⟨b,3,none⟩ (bI w.heap.size)).setCell ⟨b,4,none⟩ (.slice none 0 0)).alloc (.cells kpa 295)).frozen? ⟨b,i,none⟩=false:=fun i=>by
  have:=F.fz i;rw[World.frozen?_alloc_past _ _ _ (by simp;exact F.hb)];simp[this]
 refine leaves_cons (f:=240) (args:= #[.pointer (some ⟨b,0,none⟩),.bool true]) (by simp) (by simp[go_sem])<|(VCa ⟨b,0,none⟩ (.int .u32 0) .returning _ hA0 (hZ 0)).mono ?_;rintro e u' w'' ⟨rfl,rfl,rfl⟩;refine leaves_cons (f:=239) (args:= #[.pointer (some ⟨b,1,none⟩)]) (by simp[settle]) (by simp[go_sem])<|(Q4a ⟨b,1,none⟩ _ _ ?_ ?_).mono ?_
 .rw[World.cell?_setCell_other _ _ _ _ (q3a (by decide)),World.cell?_drew];exact hA1
 .have:=hZ 1;simp at this ⊢;exact this
 rintro e u' w'' ⟨rfl,rfl,rfl⟩;simp[Leaves,settle,results,Tryz.results220,ranW]
end
section
open Go.Shelf Go.RowKit Go.Lib Go.Proofs.Tryz
theorem qlb(b d o c:Nat)(w:World)(F:vQb w b d o c):
 Calls prog 192 #[.pointer (some ⟨b,0,none⟩),.func (.func 193) #[.pointer (some ⟨b,0,none⟩)] #[]] w fun e w' =>e=.returned (.tuple #[])/\w' =ranW b w:=by
 have hnot:∀(x:Bool) (w:World),(Op.unary .not (.bool x)).run prog w=.ok (.bool (!x)) w:=fun _ _=>rfl
 go_enter func192,Tryz.ntmps192
 go_wp2_with (first | (go_at_call 219;refine (qWb ⟨b,0,none⟩ _ F.c0).mono ?_;rintro e w' ⟨rfl,rfl⟩) | (go_at_call 220;refine (rp_slow b d o c _ F).mono ?_;rintro e w' ⟨rfl,rfl⟩))
 go_end0
 exact ⟨rfl,rfl⟩
theorem vRb(b:Nat)(fv:Value)(w:World)(h:w.cell? ⟨b,0,none⟩=some (.int .u32 1)):
 Calls prog 192 #[.pointer (some ⟨b,0,none⟩),fv] w fun e w' =>e=.returned (.tuple #[])/\w' =w:=by
 have hnot:∀(x:Bool) (w:World),(Op.unary .not (.bool x)).run prog w=.ok (.bool (!x)) w:=fun _ _=>rfl
 go_enter func192,Tryz.ntmps192
 go_wp2_with (go_at_call 219;refine (rp_load1 ⟨b,0,none⟩ _ h).mono ?_;rintro e w' ⟨rfl,rfl⟩)
 go_end0
 exact ⟨rfl,rfl⟩
def mixL(L:List UInt8)(i:Nat):List UInt8:=(L.take i).map qja++L.drop i
theorem mix_zero(L:List UInt8):mixL L 0=L:=by simp[mixL]
theorem ytb(L:List UInt8):mixL L L.length=L.map qja:=by simp[mixL]
theorem qmb(L:List UInt8)(i:Nat):(mixL L i).length=L.length:=by simp[mixL];omega
theorem yub{L:List UInt8}{i:Nat}{x:UInt8}(h:L[i]? =some x):(mixL L i)[i]? =some x:=by
 have hi:=(jAc.1 h).1;unfold mixL;rw[jAk (by simp;omega)];simp only[jAw,jBv,jBf];rw[show i+(i - min i L.length)=i by omega];exact h
theorem J1a{L:List UInt8}{i:Nat}{x:UInt8}(h:L[i]? =some x):mixL L (i+1)=(mixL L i).set i (qja x):=by
 have hi:=(jAc.1 h).1;have hx:=(jAc.1 h).2;unfold mixL;rw[List.set_append_right _ _ (by simp;omega)];simp only[jAw,jBv];rw[show i - min i L.length=0 by omega,List.take_add_one,h,jCq hi,hx];simp
theorem qXb{L:List UInt8}{i:Nat}{x:UInt8}(h:L[i]? =some x)(hc:qja x=x):mixL L (i+1)=mixL L i:=by
 rw[J1a h,hc];apply List.ext_getElem?;intro j;rw[jCo];by_cases e:i=j
 .subst e;rw[if_pos rfl,if_pos (by rw[qmb];exact (jAc.1 h).1),yub h]
 rw[if_neg e]
theorem Y9a{x:UInt8}(h:((qja x).toNat:Int)=(x.toNat:Int)):qja x=x:=UInt8.toNat_inj.1 (by omega)
def VDa(C:Array Value)(l:List UInt8):Prop:=∀(j:Nat) x,l[j]? =some x->C[j]? =some (.int .u8 (x.toNat:Int))
theorem kfb{C:Array Value}{l:List UInt8}{i:Nat}{y:UInt8}(h:VDa C l)(hi:i < l.length):VDa (C.setIfInBounds i (.int .u8 (y.toNat:Int))) (l.set i y):=by
 intro j x hx;have hC:=h i _ (jAf hi);have hsz:=(jBw.1 hC).1;rw[jCo]at hx;rw[Array.getElem?_setIfInBounds];by_cases e:i=j
 .subst e;rw[if_pos rfl,if_pos hi]at hx;cases hx;rw[if_pos rfl,if_pos hsz]
 rw[if_neg e]at hx ⊢;exact h j x hx
theorem qnb(s:ByteArray)(cap:Nat):VDa (bytesRow s cap) s.data.toList:=by
 intro j x hx;have hj:=(jAc.1 hx).1;unfold bytesRow;rw[jBe (by simpa using hj)];simp only[Array.getElem?_map];rw[show s.data[j]? =some x by simpa using hx];rfl
theorem VYa(w:World)(C:Array Value)(t:TypeId)(fz:Nat × Nat)(i:Nat)(v:Value):(w.alloc (.cells C t fz)).setCell ⟨w.heap.size,i,none⟩ v=w.alloc (.cells (C.setIfInBounds i v) t fz):=by
 unfold World.setCell World.alloc
 congr 1
 apply Array.ext_getElem?;intro k;simp only[jBj,Array.getElem?_push];by_cases hk:k=w.heap.size
 .subst hk;simp
 simp[hk,Ne.symm hk]
theorem qYb(A:Nat)(s:ByteArray)(w:World)(hlen:s.size<=4611686018427387904)(hA:A < w.heap.size)(ht:∀x:UInt8,w.cell? ⟨A,x.toNat,none⟩=some (.int .u8 ((qja x).toNat:Int))):
 Calls prog 326 #[.pointer (some ⟨A,0,none⟩),.string s] w fun e w' =>e=.returned (.string ⟨(s.data.toList.map qja).toArray⟩)/\(w' =w∨∃C fz,w' =(w.alloc (.cells C 5 fz)).drew):=by
 have HT:Aside (∀x:UInt8,w.cell? ⟨A,x.toNat,none⟩=some (.int .u8 ((qja x).toNat:Int))):=ht;clear ht;have HT2:Aside (∀(x:UInt8) (C:Array Value) (fz:Nat × Nat),(w.alloc (.cells C 5 fz)).cell? ⟨A,x.toNat,none⟩=some (.int .u8 ((qja x).toNat:Int))):=fun x C fz=>by
  rw[World.cell?_alloc_past _ _ _ hA];exact HT.out x
 have hcv:(convert 9 24 (.string s)).run prog w=.ok (.slice (some ⟨w.heap.size,0,none⟩) s.size (grownCap w s.size 0 5))
  (w.alloc (.cells (bytesRow s (grownCap w s.size 0 5)) 5 ((bytesRow s (grownCap w s.size 0 5)).size,(bytesRow s (grownCap w s.size 0 5)).size+1))).drew:=run_bytes_of_string (P:=prog) w 9 24 5 s underlying9 underlying24 underlying5
 have hn1:∀w:World,(binOp .eql 24 (.slice none 0 0) (.slice none 0 0)).run prog w=.ok (.bool true) w:=fun w=>by
  simp only[binOp];simp[run_equal_slice_nil w 24 5 none 0 0 underlying24]
 have hn2:∀(a:Addr) (l c:Nat) (w:World),(binOp .eql 24 (.slice (some a) l c) (.slice none 0 0)).run prog w=.ok (.bool false) w:=fun a l c w=>by
  simp only[binOp];simp[run_equal_slice_nil w 24 5 (some a) l c underlying24]
 have hL:Lib.Kept (s.data.toList.length=s.size):=rfl;go_enter func326,Tryz.ntmps326
 go_wp2
 go_loopg [5,6] s.size (fun g v5 v6 wx=>∃i:Nat,i+g=s.size/\v6=.int .i64 i/\((v5=.slice none 0 0/\wx=w/\Lib.Kept (mixL s.data.toList i=s.data.toList))∨∃C cap lo hi,v5=.slice (some ⟨w.heap.size,0,none⟩) s.size cap/\wx=(w.alloc (.cells C 5 (lo,hi))).drew/\Lib.Kept (lo=C.size)/\Lib.Kept (VDa C (mixL s.data.toList i))))
 case atStart=>exact ⟨0,by omega,rfl,.inl ⟨rfl,rfl,mix_zero _⟩⟩
 case round=>
  obtain ⟨i,hig,rfl,hrel⟩:=hrel;cases gk with
  | zero=>
   obtain rfl:i=s.size:=by omega
   have hiz:¬((s.size:Int) < (s.size:Int)):=by omega
   rcases hrel with ⟨rfl,rfl,hk⟩ | ⟨C,cap,lo,hi,rfl,rfl,hz,hrow⟩
   .go_wp2
    go_ret
    refine ⟨?_,.inl rfl⟩;have hk' :mixL s.data.toList s.size=s.data.toList:=hk;rw[show s.size=s.data.toList.length from rfl,ytb]at hk';rw[hk'];show Ending.returned (Value.string s)=Ending.returned (Value.string ⟨s.data.toList.toArray⟩);simp
   have hback:=run_convert_bytes_back (P:=prog) ((w.alloc (.cells C 5 (lo,hi))).drew) 24 9 5 ⟨w.heap.size,0,none⟩ cap (s.data.toList.map qja) underlying24 underlying5 underlying9 (fun j hj=>by
    have hr:VDa C (mixL s.data.toList s.size):=hrow;rw[show s.size=s.data.toList.length from rfl,ytb]at hr;have:=hr j _ (jAf hj);rw[show (⟨w.heap.size,0,none⟩:Addr).add j=⟨w.heap.size,j,none⟩ by unfold Addr.add;split <;> simp_all];rw[World.cell?_drew,World.cell?_alloc_mark];exact this)
   rw[show (s.data.toList.map qja).length=s.size by simp]at hback;clear hrow hz;go_wp2
   go_ret
   first | exact ⟨rfl,.inr ⟨C,(lo,hi),rfl⟩⟩ | exact ⟨rfl,.inr ⟨C,lo,hi,rfl⟩⟩
  | succ g=>
   have hi:i < s.size:=by omega
   have hiz:(i:Int) < (s.size:Int):=by omega
   obtain ⟨x,hx⟩:∃x:UInt8,s[i]'hi=x:=⟨_,rfl⟩;have hxl:Lib.Kept (s.data.toList[i]? =some x):=by rw[<-hx];exact Lib.data_getElem? s i hi
   have hx256:(x.toNat:Int) < 256:=by have:=UInt8.toNat_lt x;omega
   have hwr:wrap64 ((i:Int)+1)=((i:Int)+1):=by unfold wrap64;omega
   rcases hrel with ⟨rfl,rfl,hk⟩ | ⟨C,cap,lo,hi2,rfl,rfl,hz,hrow⟩
   .have hcell:=HT.out x;by_cases hcl:((qja x).toNat:Int)=(x.toNat:Int)
    .go_wp2
     go_roundg g
     case measure=>omega
     case rel=>exact ⟨i+1,by omega,by first | rfl | simp,.inl ⟨rfl,rfl,(qXb hxl (Y9a hcl)).trans hk⟩⟩
    have hrow:Lib.Kept (VDa (bytesRow s (grownCap wr s.size 0 5)) (mixL s.data.toList i)):=by
     have hk' :mixL s.data.toList i=s.data.toList:=hk;rw[hk'];exact qnb s _
    generalize bytesRow s (grownCap wr s.size 0 5)=B at hcv hrow;have hBi:B[i]? =some (.int .u8 (x.toNat:Int)):=by
     have hr:VDa B (mixL s.data.toList i):=hrow;exact hr i x (yub hxl)
    have hBs:i < B.size:=(jBw.1 hBi).1;have hc2:=HT2.out x B (B.size,B.size+1);have hc1:(wr.alloc (.cells B 5 (B.size,B.size+1))).cell? ⟨wr.heap.size,i,none⟩=some (.int .u8 (x.toNat:Int)):=(World.cell?_alloc_mark wr B 5 _ i).trans hBi;have hf1:(wr.alloc (.cells B 5 (B.size,B.size+1))).frozen? ⟨wr.heap.size,i,none⟩=false:=(World.frozen?_alloc_mark wr B 5 _ _ i).trans (by rw[decide_eq_false (by omega)];rfl);have hs1:=VYa wr B 5 (B.size,B.size+1) i (.int .u8 ((qja x).toNat:Int));have HB:Lib.Kept (B[i]? =some (.int .u8 (x.toNat:Int))):=hBi;clear hBi hBs hk;go_wp2
    go_roundg g
    case measure=>omega
    case rel=>
     refine ⟨i+1,by omega,by first | rfl | simp,.inr ⟨_,_,_,_,rfl,by first | rfl | exact congrArg World.drew hs1,?_,?_⟩⟩
     .show B.size=(B.setIfInBounds i _).size;simp
     have hr:VDa B (mixL s.data.toList i):=hrow;show VDa _ (mixL s.data.toList (i+1));rw[J1a hxl];exact kfb hr (by rw[qmb];exact hi)
   have hBi:C[i]? =some (.int .u8 (x.toNat:Int)):=by
    have hr:VDa C (mixL s.data.toList i):=hrow;exact hr i x (yub hxl)
   have hBs:i < C.size:=(jBw.1 hBi).1;have hz' :lo=C.size:=hz;have hc2:=HT2.out x C (lo,hi2);have hc1:(w.alloc (.cells C 5 (lo,hi2))).cell? ⟨w.heap.size,i,none⟩=some (.int .u8 (x.toNat:Int)):=(World.cell?_alloc_mark w C 5 _ i).trans hBi;have hf1:(w.alloc (.cells C 5 (lo,hi2))).frozen? ⟨w.heap.size,i,none⟩=false:=(World.frozen?_alloc_mark w C 5 _ _ i).trans (by rw[decide_eq_false (by omega)];rfl);have hs1:=VYa w C 5 (lo,hi2) i (.int .u8 ((qja x).toNat:Int));clear hBi hBs hz';by_cases hcl:((qja x).toNat:Int)=(x.toNat:Int)
   .go_wp2
    go_roundg g
    case measure=>omega
    case rel=>
     refine ⟨i+1,by omega,by first | rfl | simp,.inr ⟨C,cap,lo,hi2,rfl,rfl,hz,?_⟩⟩;show VDa C (mixL s.data.toList (i+1));rw[qXb hxl (Y9a hcl)];exact hrow
   go_wp2
   go_roundg g
   case measure=>omega
   case rel=>
    refine ⟨i+1,by omega,by first | rfl | simp,.inr ⟨_,_,_,_,rfl,by first | rfl | exact congrArg World.drew hs1,?_,?_⟩⟩
    .show lo=(C.setIfInBounds i _).size;rw[Array.size_setIfInBounds];exact hz
    have hr:VDa C (mixL s.data.toList i):=hrow;show VDa _ (mixL s.data.toList (i+1));rw[J1a hxl];exact kfb hr (by rw[qmb];exact hi)
end
section
open Go.Shelf Go.RowKit Go.Lib Go.Proofs.Tryz
structure Built (w:World) (b A:Nat):Prop where
 hb:b < w.heap.size
 hA:A < w.heap.size
 c0:w.cell? ⟨b,0,none⟩=some (.int .u32 1)
 c3:w.cell? ⟨b,3,none⟩=some (bI A)
 tab:∀x:UInt8,w.cell? ⟨A,x.toNat,none⟩=some (.int .u8 ((qja x).toNat:Int))
def ranT(T:Array Value)(b:Nat)(w:World):World:=(((((w.setCell ⟨b,1,none⟩ (.int .i32 1)).setCell ⟨b,3,none⟩ (bI w.heap.size)).setCell ⟨b,4,none⟩ (.slice none 0 0)).alloc (.cells T 295)).drew.setCell ⟨b,0,none⟩ (.int .u32 1)).setCell ⟨b,1,none⟩ (.int .i32 0)
theorem kgb(b:Nat)(w:World):ranW b w=ranT kpa b w:=rfl
theorem same0{w:World}{a:Addr}{v v0:Value}(h:w.cell? a=some v0):(w.setCell a v).cell? a=some v:=World.cell?_setCell_same w a v h
theorem Jaa{b:Nat}{w:World}(T:Array Value)(hb:b < w.heap.size)(c0:w.cell? ⟨b,0,none⟩=some (.int .u32 0))(c3:w.cell? ⟨b,3,none⟩=some .nilIface):
 (ranT T b w).heap.size=w.heap.size+1/\(ranT T b w).cell? ⟨b,0,none⟩=some (.int .u32 1)/\(ranT T b w).cell? ⟨b,3,none⟩=some (bI w.heap.size)/\∀k,(ranT T b w).cell? ⟨w.heap.size,k,none⟩=T[k]? :=by
 have hne:b≠w.heap.size:=by omega
 refine ⟨by unfold ranT;simp,?_,?_,fun k=>?_⟩
 .unfold ranT;rw[World.cell?_setCell_other _ _ _ _ (q3a (by decide))];refine same0 (v0:=.int .u32 0) ?_;rw[World.cell?_drew,World.cell?_alloc_past _ _ _ (by simp;exact hb),World.cell?_setCell_other _ _ _ _ (q3a (by decide)),World.cell?_setCell_other _ _ _ _ (q3a (by decide)),World.cell?_setCell_other _ _ _ _ (q3a (by decide))];exact c0
 .unfold ranT;rw[World.cell?_setCell_other _ _ _ _ (q3a (by decide)),World.cell?_setCell_other _ _ _ _ (q3a (by decide)),World.cell?_drew,World.cell?_alloc_past _ _ _ (by simp;exact hb),World.cell?_setCell_other _ _ _ _ (q3a (by decide))];refine same0 (v0:=.nilIface) ?_;rw[World.cell?_setCell_other _ _ _ _ (q3a (by decide))];exact c3
 unfold ranT;rw[World.cell?_setCell_other _ _ _ _ (Y8a hne),World.cell?_setCell_other _ _ _ _ (Y8a hne),World.cell?_drew];exact World.cell?_alloc_at T _ _ k (by simp)
theorem tab_at(x:UInt8):kpa[x.toNat]? =some (.int .u8 ((qja x).toNat:Int)):=by
 have hx:=UInt8.toNat_lt x;unfold kpa;simp only[jBc,jAj,List.getElem?_range hx,jCr]
 congr 2
 unfold qja;by_cases h:x=0∨x=13
 .rw[if_pos h,if_pos (by rcases h with rfl | rfl <;> decide)];rfl
 rw[if_neg h,if_neg (fun h2=>h (h2.imp (fun e=>UInt8.toNat_inj.1 e) (fun e=>UInt8.toNat_inj.1 e)))]
theorem khb{b d o c:Nat}{w:World}(F:vQb w b d o c):Built (ranW b w) b w.heap.size:=by
 obtain ⟨h1,h2,h3,h4⟩:=Jaa kpa F.hb F.c0 F.c3;have hb:=F.hb;rw[kgb];exact ⟨by omega,by omega,h2,h3,fun x=>(h4 _).trans (tab_at x)⟩
theorem kib (n : Nat) (a : Addr) (w : World) : (method (n + 1) 296 (.pointer (some a)) "Replace").run prog w = .ok (326, .pointer (some a)) w := by kernel_rfl
theorem Wga(b A:Nat)(s:ByteArray)(w:World)(hlen:s.size<=4611686018427387904)(B:Built w b A):
 Calls prog 156 #[.pointer (some ⟨b,0,none⟩),.string s] w fun e w' =>e=.returned (.string ⟨(s.data.toList.map qja).toArray⟩)/\(w' =w∨∃C fz,w' =(w.alloc (.cells C 5 fz)).drew):=by
 have hmf:∀(fn:Fn) (first cap:Array Value) (w:World),(Instr.makeFunc fn first cap).run prog w=.ok (.func fn first cap) w:=fun _ _ _ _=>rfl
 have hme:=kib;have hc3:=B.c3;go_enter func156,Tryz.ntmps156
 go_wp2_with (first | (go_at_call 192;refine (vRb b _ _ B.c0).mono ?_;rintro e w' ⟨rfl,rfl⟩) | (go_at_call 326;refine (qYb A s _ hlen B.hA B.tab).mono ?_;rintro e w' ⟨rfl,hw'⟩))
 go_ret
 exact ⟨rfl,hw'⟩
theorem Wha(b d o c:Nat)(s:ByteArray)(w:World)(hlen:s.size<=4611686018427387904)(F:vQb w b d o c):
 Calls prog 156 #[.pointer (some ⟨b,0,none⟩),.string s] w fun e w' =>e=.returned (.string ⟨(s.data.toList.map qja).toArray⟩)/\(w' =ranW b w∨∃C fz,w' =((ranW b w).alloc (.cells C 5 fz)).drew):=by
 have hmf:∀(fn:Fn) (first cap:Array Value) (w:World),(Instr.makeFunc fn first cap).run prog w=.ok (.func fn first cap) w:=fun _ _ _ _=>rfl
 have hme:=kib;have B:=khb F;have hc3:=B.c3;go_enter func156,Tryz.ntmps156
 go_wp2_with (first | (go_at_call 192;refine (qlb b d o c _ F).mono ?_;rintro e w' ⟨rfl,rfl⟩) | (go_at_call 326;refine (qYb _ s _ hlen B.hA B.tab).mono ?_;rintro e w' ⟨rfl,hw'⟩))
 go_ret
 exact ⟨rfl,hw'⟩
end
def RpQ(w:World)(u:Nat->Nat)(vs:Array Value):Prop:=
 (vs[0]? =some (.int .u32 0)/\vs[1]? =some (.int .i32 0)/\vs[3]? =some .nilIface/\∃d o c,vs[4]? =some (.slice (some ⟨d,o,none⟩) 4 c)/\d < w.heap.size/\o+4<=u d/\
  w.cell? ⟨d,o,none⟩=some (.string ⟨#[0]⟩)/\w.cell? ⟨d,o+1,none⟩=some (.string ⟨#[32]⟩)/\w.cell? ⟨d,o+2,none⟩=some (.string ⟨#[13]⟩)/\w.cell? ⟨d,o+3,none⟩=some (.string ⟨#[32]⟩))∨
 (vs[0]? =some (.int .u32 1)/\∃A,vs[3]? =some (bI A)/\A < w.heap.size/\256<=u A/\∀x:UInt8,w.cell? ⟨A,x.toNat,none⟩=some (.int .u8 ((qja x).toNat:Int)))
theorem RpQ.mono{w w' :World}{u u' :Nat->Nat}{vs:Array Value}(hx:Ext0 w u w' u')(h:RpQ w u vs):RpQ w' u' vs:=by
 rcases h with ⟨h0,h1,h3,d,o,c,h4,hd,hu,s0,s1,s2,s3⟩ | ⟨h0,A,h3,hA,hu,ht⟩
 .refine .inl ⟨h0,h1,h3,d,o,c,h4,jBl hd hx.size,jBk hu (hx.pub d hd),?_,?_,?_,?_⟩
  .rw[hx.cell d _ hd (by omega)];exact s0
  .rw[hx.cell d _ hd (by omega)];exact s1
  .rw[hx.cell d _ hd (by omega)];exact s2
  rw[hx.cell d _ hd (by omega)];exact s3
 refine .inr ⟨h0,A,h3,jBl hA hx.size,jBk hu (hx.pub A hA),fun x=>?_⟩;rw[hx.cell A _ hA (by have:=UInt8.toNat_lt x;omega)];exact ht x
theorem Q5a{w:World}{b:Nat}{vs:Array Value}{t:TypeId}{fz:Nat × Nat}(h:w.heap[b]? =some (.cells vs t fz))(c i:Nat)(v:Value):∃vs',(w.setCell ⟨c,i,none⟩ v).heap[b]? =some (.cells vs' t fz)/\vs'.size=vs.size:=by
 unfold World.setCell;simp only[jBj,h];by_cases e:c=b
 .subst e;exact ⟨vs.setIfInBounds i v,by simp,by simp⟩
 exact ⟨vs,by simp[e],rfl⟩
theorem yHa{w:World}{b c:Nat}(h:c≠b)(i:Nat)(v:Value):(w.setCell ⟨c,i,none⟩ v).heap[b]? =w.heap[b]? :=by
 unfold World.setCell;simp only[jBj];simp[h]
theorem yvb(T:Array Value){b k:Nat}{w:World}(hk:k < w.heap.size)(hne:b≠k):(ranT T b w).heap[k]? =w.heap[k]? :=by
 unfold ranT;rw[yHa hne,yHa hne];show (World.alloc _ _).heap[k]? =_;rw[Below.heap_alloc _ _ _ (by simpa using hk),yHa hne,yHa hne,yHa hne]
theorem ranT_own(T:Array Value){b:Nat}{w:World}{vs:Array Value}{t:TypeId}{fz:Nat × Nat}(hb:w.heap[b]? =some (.cells vs t fz)):∃vs',(ranT T b w).heap[b]? =some (.cells vs' t fz)/\vs'.size=vs.size:=by
 have hlt:=zCa hb;unfold ranT;obtain ⟨v1,h1,n1⟩:=Q5a hb b 1 (.int .i32 1);obtain ⟨v2,h2,n2⟩:=Q5a h1 b 3 (bI w.heap.size);obtain ⟨v3,h3,n3⟩:=Q5a h2 b 4 (.slice none 0 0);have h4:(((((w.setCell ⟨b,1,none⟩ (.int .i32 1)).setCell ⟨b,3,none⟩ (bI w.heap.size)).setCell ⟨b,4,none⟩ (.slice none 0 0)).alloc (.cells T 295)).drew).heap[b]? =some (.cells v3 t fz):=by
  show (World.alloc _ _).heap[b]? =_;rw[Below.heap_alloc _ _ _ (by simpa using hlt)];exact h3
 obtain ⟨v5,h5,n5⟩:=Q5a h4 b 0 (.int .u32 1);obtain ⟨v6,h6,n6⟩:=Q5a h5 b 1 (.int .i32 0);exact ⟨v6,h6,by omega⟩
structure RpG (g:G) (b:Nat) (t:TypeId) (g' :G):Prop where
 loc:g'.loc=g.loc
 old:Old (fun k=>k=b) g g'
 wf:Wf g'
 u0:g'.u b=0
 own:∃vs,g'.w.heap[b]? =some (.cells vs t (0,0))/\vs.size=5/\RpQ g'.w g'.u vs
theorem RpG.refl{g:G}{b:Nat}{t:TypeId}{vs:Array Value}(hb:g.w.heap[b]? =some (.cells vs t (0,0)))(hn:vs.size=5)(hu:g.u b=0)(hw:Wf g)(hq:RpQ g.w g.u vs):RpG g b t g:=
 ⟨rfl,Old.refl _ _,hw,hu,vs,hb,hn,hq⟩
theorem RpG.tail{g g1:G}{b:Nat}{t:TypeId}(h:RpG g b t g1)(C:Array Value)(e:TypeId)(fz:Nat × Nat):RpG g b t ⟨(g1.w.alloc (.cells C e fz)).drew,fun k=>if k=g1.w.heap.size then 0 else g1.u k,g1.loc⟩:=by
 obtain ⟨hl,ho,hw,hu,vs,hb,hn,hq⟩:=h;have hlt:=zCa hb;have hz:∀k,k < g1.w.heap.size->((g1.w.alloc (.cells C e fz)).drew).heap[k]? =g1.w.heap[k]? :=fun k hk=>Below.heap_alloc _ _ _ hk
 have hx:Ext g1.w g1.u (g1.w.alloc (.cells C e fz)).drew (fun k=>if k=g1.w.heap.size then 0 else g1.u k):=⟨by simp,fun k hk=>by
  show g1.u k<=if k=g1.w.heap.size then 0 else g1.u k;rw[if_neg (by omega)];exact jAt _,fun k i hk _=>by
  simp only[World.cell?];rw[hz k hk],fun r hr=>(hz r (zCa hr)).trans hr⟩
 refine ⟨hl,ho.trans ⟨rfl,rfl,rfl,hx,fun k hk _=>⟨hz k hk,by show (if k=g1.w.heap.size then 0 else g1.u k)=_;rw[if_neg (by omega)]⟩⟩,fun k hk=>?_,?_,vs,(hz b hlt).trans hb,hn,hq.mono hx.to0⟩
 .have hk:g1.w.heap.size+1<=k:=by simpa using hk
  show (if k=g1.w.heap.size then 0 else g1.u k)=0;rw[if_neg (by omega)];exact hw k (by omega)
 show (if b=g1.w.heap.size then 0 else g1.u b)=0;rw[hu];exact ite_self 0
theorem RpG.ran{g:G}{b d o c:Nat}{t:TypeId}{vs:Array Value}(hb:g.w.heap[b]? =some (.cells vs t (0,0)))(hn:vs.size=5)(hu:g.u b=0)(hw:Wf g)(F:vQb g.w b d o c):
 RpG g b t ⟨ranW b g.w,fun k=>if k=g.w.heap.size then 256 else g.u k,g.loc⟩:=by
 have hlt:=zCa hb;have B:=khb F;obtain ⟨hsz,f0,f3,ft⟩:=Jaa kpa F.hb F.c0 F.c3;rw[<-kgb]at hsz f0 f3 ft;obtain ⟨vs',hb',hn'⟩:=ranT_own kpa hb;rw[<-kgb]at hb';have hz:∀k,k < g.w.heap.size->k≠b->(ranW b g.w).heap[k]? =g.w.heap[k]? :=fun k hk hne=>by rw[kgb];exact yvb kpa hk (Ne.symm hne)
 have hos:(ranW b g.w).os=g.w.os/\(ranW b g.w).tape=g.w.tape/\(ranW b g.w).output=g.w.output:=by
  rw[kgb];generalize kpa=T;exact ⟨rfl,rfl,rfl⟩
 have huk:∀k,k < g.w.heap.size->(if k=g.w.heap.size then 256 else g.u k)=g.u k:=fun k hk=>if_neg (by omega)
 have hbu:(if b=g.w.heap.size then 256 else g.u b)=0:=(huk b hlt).trans hu;have hcell:∀i,i < 5->(ranW b g.w).cell? ⟨b,i,none⟩=vs'[i]? :=fun i hi=>by
  simp[World.cell?,hb']
 refine ⟨rfl,⟨hos.1,hos.2.1,hos.2.2,⟨by show g.w.heap.size<=(ranW b g.w).heap.size;omega,fun k hk=>jBn (huk k hk).symm,fun k i hk hi=>?_,fun r hr=>?_⟩,fun k hk hne=>⟨hz k hk hne,huk k hk⟩⟩,fun k hk=>?_,hbu,vs',hb',hn'.trans hn,.inr ⟨(hcell 0 (by omega)).symm.trans f0,g.w.heap.size,(hcell 3 (by omega)).symm.trans f3,by show g.w.heap.size < (ranW b g.w).heap.size;omega,jBn (if_pos rfl).symm,B.tab⟩⟩
 .have hne:k≠b:=by rintro rfl;omega
  simp only[World.cell?];rw[hz k hk hne]
 .have hne:r≠b:=by rintro rfl;rw[hb]at hr;cases hr
  exact (hz r (zCa hr) hne).trans hr
 have hk:(ranW b g.w).heap.size<=k:=hk;show (if k=g.w.heap.size then 256 else g.u k)=0;rw[if_neg (by omega)];exact hw k (by omega)
theorem rp_step{g:G}{b:Nat}{t:TypeId}{vs:Array Value}(s:ByteArray)(hlen:s.size<=4611686018427387904)(hb:g.w.heap[b]? =some (.cells vs t (0,0)))(hn:vs.size=5)(hu:g.u b=0)(hw:Wf g)(hq:RpQ g.w g.u vs):
 Calls prog 156 #[.pointer (some ⟨b,0,none⟩),.string s] g.w fun e w' =>e=.returned (.string ⟨(s.data.toList.map qja).toArray⟩)/\∃g',g'.w=w' /\RpG g b t g' :=by
 have hlt:=zCa hb;have hcell:∀i,g.w.cell? ⟨b,i,none⟩=vs[i]? :=fun i=>by simp[World.cell?,hb]
 rcases hq with ⟨h0,h1,h3,d,o,c,h4,hd,hud,s0,s1,s2,s3⟩ | ⟨h0,A,h3,hA,huA,ht⟩
 .have F:vQb g.w b d o c:=⟨hlt,hd,by rintro rfl;omega,(hcell 0).trans h0,(hcell 1).trans h1,(hcell 3).trans h3,(hcell 4).trans h4,fun i=>by simp[World.frozen?,hb],s0,s1,s2,s3⟩;refine (Wha b d o c s g.w hlen F).mono ?_;rintro e w' ⟨rfl,rfl | ⟨C,fz,rfl⟩⟩
  .exact ⟨rfl,_,rfl,RpG.ran hb hn hu hw F⟩
  exact ⟨rfl,_,rfl,(RpG.ran hb hn hu hw F).tail C _ fz⟩
 refine (Wga b A s g.w hlen ⟨hlt,hA,(hcell 0).trans h0,(hcell 3).trans h3,ht⟩).mono ?_;rintro e w' ⟨rfl,rfl | ⟨C,fz,rfl⟩⟩
 .exact ⟨rfl,g,rfl,RpG.refl hb hn hu hw (.inr ⟨h0,A,h3,hA,huA,ht⟩)⟩
 exact ⟨rfl,_,rfl,(RpG.refl hb hn hu hw (.inr ⟨h0,A,h3,hA,huA,ht⟩)).tail C _ fz⟩
theorem yga(O:Nat)(s:Str)(r:Str)(hr:qga s=some r):RunS prog 156 [.ptr O 0,.s s] [(O,.opq 0 5 RpQ)] (.s r) [(O,.opq 0 5 RpQ)] O []:=by
 unfold qga at hr;split at hr
 case isFalse=>cases hr
 rename_i hlen;cases hr;refine ⟨⟨_,_,⟨func156,rfl,by kernel_rfl⟩⟩,by simp[Sto.okS,AO.okS],by simp[Sto.okS,AO.okS],fun g vs hw hg ho ha=>?_⟩;obtain ⟨hsz,hrel⟩:=ha;obtain ⟨vl⟩:=vs
 match vl,hsz with
 | [x,y],_=>
  have hx:=hrel 0 _ rfl;have hy:y=.string (strB s):=zTa (hrel 1 _ rfl);subst hy;have hO:=ho.obj O _ (show Sto.get [(O,AO.opq 0 5 RpQ)] O=some (.opq 0 5 RpQ) by simp[Sto.get]);have hget:∀o ob,Sto.get [(O,AO.opq 0 5 RpQ)] o=some ob->o=O/\ob=.opq 0 5 RpQ:=fun o ob h=>by
   rw[Sto.get_cons]at h;split at h
   .rename_i e;exact ⟨e.symm,(Option.some.inj h).symm⟩
   cases h
  cases hO with
  | @opq t t1 n Q b vs' hl hb hn hu hq=>
   have hx' :x=.pointer (some ⟨b,0,none⟩):=by
    cases hx with
    | ptr hl2=>rw[hl]at hl2;cases hl2;rfl
   subst hx';refine callsIn_wide.2 ((rp_step (strB s) (by rw[zwa];exact hlen) hb hn hu hw (hq _ _ ⟨jAt _,fun _ _=>jAt _,fun _ _ _ _=>rfl⟩)).mono ?_);rintro e w' ⟨rfl,g',rfl,G'⟩;obtain ⟨hl',hold,hwf,hu',vs2,hb2,hn2,hq2⟩:=G';have hsb:SB g [(O,AO.opq 0 5 RpQ)] b:=⟨O,.opq 0 5 RpQ,by simp[Sto.get],by rw[hl];rfl⟩;refine ⟨g',_,rfl,fun k _=>by rw[hl'],hold.mono fun k _ e=>e▸hsb,hwf,rfl,?_,?_,?_,?_⟩
   .have:(strB s).data.toList.map qja=s.map qja:=by simp[strB]
    rw[this];exact .pv (.b rfl)
   .intro o ob h;obtain ⟨rfl,rfl⟩:=hget o ob h;exact .opq (by rw[hl'];exact hl) hb2 hn2 hu' fun w' u' hx' =>hq2.mono hx'
   .intro o o' ob ob' b' h1 h2 _ _;rw[(hget o ob h1).1,(hget o' ob' h2).1]
   intro o ob b' h1 h2;obtain ⟨rfl,rfl⟩:=hget o ob h1;rw[hl',hl]at h2;cases h2;exact .inr hsb
section
open Go.Shelf Go.RowKit Go.Lib Go.Proofs.Tryz
theorem kjb(d o c:Nat)(w:World)(s0:w.cell? ⟨d,o,none⟩=some (.string ⟨#[0]⟩))(s1:w.cell? ⟨d,o+1,none⟩=some (.string ⟨#[32]⟩))(s2:w.cell? ⟨d,o+2,none⟩=some (.string ⟨#[13]⟩))(s3:w.cell? ⟨d,o+3,none⟩=some (.string ⟨#[32]⟩)):
 Calls prog 155 #[.slice (some ⟨d,o,none⟩) 4 c] w fun e w' =>∃(cap:Nat) (z:Array Value),e=.returned (.pointer (some ⟨w.heap.size+1,0,none⟩))/\
  w' =((w.alloc (.cells (#[Value.string ⟨#[0]⟩,.string ⟨#[32]⟩,.string ⟨#[13]⟩,.string ⟨#[32]⟩]++z) 9)).alloc (.cells #[.int .u32 0,.int .i32 0,.int .u32 0,.nilIface,.slice (some ⟨w.heap.size,0,none⟩) 4 cap] 255)).drew:=by
 go_enter func155,Tryz.ntmps155
 go_wp2
 go_ret
 exact ⟨_,_,rfl,rfl⟩
theorem vSb{g:G}{v:Value}(h:Rel g (.l cS [[0],[32],[13],[32]]) v):∃d o c,v=.slice (some ⟨d,o,none⟩) 4 c/\g.w.cell? ⟨d,o,none⟩=some (.string ⟨#[0]⟩)/\g.w.cell? ⟨d,o+1,none⟩=some (.string ⟨#[32]⟩)/\g.w.cell? ⟨d,o+2,none⟩=some (.string ⟨#[13]⟩)/\g.w.cell? ⟨d,o+3,none⟩=some (.string ⟨#[32]⟩):=by
 cases h with
 | pv h=>
  unfold pL at h;generalize hE:List.map cS [[0],[32],[13],[32]]=elems at h;cases h with
  | @sl _ _ a cap size b off val hn h0 hc hz ha hu hcell h=>
   have hne:elems≠ []:=by rw[<-hE];simp
   have hs1:size=1:=by
    have:=hz (cS [0]) (by rw[<-hE];simp);simpa[cS]using this.symm
   subst hs1;have hlen:elems.length=4:=by rw[<-hE];rfl
   have key:∀(i:Nat) (s:Str),elems[i]? =some (cS s)->g.w.cell? ⟨b,off+i,none⟩=some (.string (strB s)):=fun i s hi=>by
    have hil:=(jAc.1 hi).1;rw[hcell i (by omega)];have:=h i 0 _ (.b (.string (strB s))) hi rfl;simp only[jCi,jBq]at this;rw[zTa (g:=g) (.pv this)]
   refine ⟨b,off,cap,by rw[ha hne,hlen],key 0 [0] (by rw[<-hE];rfl),key 1 [32] (by rw[<-hE];rfl),key 2 [13] (by rw[<-hE];rfl),key 3 [32] (by rw[<-hE];rfl)⟩
theorem jYa(k:Nat):RunS prog 155 [.l cS [[0],[32],[13],[32]]] [] (.ptr k 0) [(k,.opq 0 5 RpQ)] k [k]:=by
 refine ⟨⟨_,_,⟨func155,rfl,by kernel_rfl⟩⟩,by simp[Sto.okS],by simp[Sto.okS,AO.okS],fun g vs hw hg ho ha=>?_⟩;obtain ⟨hsz,hrel⟩:=ha;obtain ⟨vl⟩:=vs
 match vl,hsz with
 | [x],_=>
  obtain ⟨d,o,c,hx,s0,s1,s2,s3⟩:=vSb (hrel 0 _ rfl);have hx:x=.slice (some ⟨d,o,none⟩) 4 c:=hx;subst hx;refine callsIn_wide.2 ((kjb d o c g.w s0 s1 s2 s3).mono ?_);rintro e w' ⟨cap,z,rfl,rfl⟩;generalize hC: #[Value.string ⟨#[0]⟩,.string ⟨#[32]⟩,.string ⟨#[13]⟩,.string ⟨#[32]⟩]++z=C;generalize hV: #[Value.int .u32 0,.int .i32 0,.int .u32 0,.nilIface,.slice (some ⟨g.w.heap.size,0,none⟩) 4 cap]=V;have hz:∀q,q < g.w.heap.size->(((g.w.alloc (.cells C 9)).alloc (.cells V 255)).drew).heap[q]? =g.w.heap[q]? :=fun q hq=>by
   show (World.alloc _ _).heap[q]? =_;rw[Below.heap_alloc _ _ _ (by simp;omega),Below.heap_alloc _ _ _ hq]
  have h1:(((g.w.alloc (.cells C 9)).alloc (.cells V 255)).drew).heap[g.w.heap.size]? =some (.cells C 9 (0,0)):=by
   show (World.alloc _ _).heap[_]? =_;rw[Below.heap_alloc _ _ _ (by simp)];exact heap_alloc_new g.w _
  have h2:(((g.w.alloc (.cells C 9)).alloc (.cells V 255)).drew).heap[g.w.heap.size+1]? =some (.cells V 255 (0,0)):=by
   show (World.alloc _ _).heap[_]? =_;have:=heap_alloc_new (g.w.alloc (.cells C 9)) (.cells V 255);simpa using this
  have hsize:(((g.w.alloc (.cells C 9)).alloc (.cells V 255)).drew).heap.size=g.w.heap.size+2:=by simp
  generalize hW:((g.w.alloc (.cells C 9)).alloc (.cells V 255)).drew=W at hz h1 h2 hsize;have hos:W.os=g.w.os/\W.tape=g.w.tape/\W.output=g.w.output:=by subst hW;exact ⟨rfl,rfl,rfl⟩
  have hcell:∀i,W.cell? ⟨g.w.heap.size,i,none⟩=C[i]? :=fun i=>by simp[World.cell?,h1]
  have hget:∀o ob,Sto.get [(k,AO.opq 0 5 RpQ)] o=some ob->o=k/\ob=.opq 0 5 RpQ:=fun o ob h=>by
   rw[Sto.get_cons]at h;split at h
   .rename_i e;exact ⟨e.symm,(Option.some.inj h).symm⟩
   cases h
  have hq:RpQ W (fun q=>if q=g.w.heap.size then 4 else if q=g.w.heap.size+1 then 0 else g.u q) V:=by
   subst hV hC;refine .inl ⟨rfl,rfl,rfl,g.w.heap.size,0,cap,rfl,by omega,jBn (if_pos rfl).symm,?_,?_,?_,?_⟩;all_goals (rw[hcell,jBe (by simp)];rfl)
  have huk:∀q,q < g.w.heap.size->(if q=g.w.heap.size then 4 else if q=g.w.heap.size+1 then 0 else g.u q)=g.u q:=fun q hq=>by rw[if_neg (by omega),if_neg (by omega)]
  refine ⟨⟨W,fun q=>if q=g.w.heap.size then 4 else if q=g.w.heap.size+1 then 0 else g.u q,fun q=>if q=k then .blk (g.w.heap.size+1) else g.loc q⟩,_,rfl,fun q hq=>if_neg (by simpa using hq),
   ⟨hos.1,hos.2.1,hos.2.2,⟨by show g.w.heap.size<=W.heap.size;omega,fun q hq=>jBn (huk q hq).symm,fun q i hq _=>by simp only[World.cell?];rw[hz q hq],fun r hr=>(hz r (zCa hr)).trans hr⟩,fun q hq _=>⟨hz q hq,huk q hq⟩⟩,fun q hq=>?_,rfl,.ptr (if_pos rfl),?_,?_,?_⟩
  .have hq:W.heap.size<=q:=hq;show (if q=g.w.heap.size then 4 else if q=g.w.heap.size+1 then 0 else g.u q)=0;rw[if_neg (by omega),if_neg (by omega)];exact hw q (by omega)
  .intro o ob h;obtain ⟨rfl,rfl⟩:=hget o ob h;refine .opq (if_pos rfl) h2 (by subst hV;rfl) ?_ fun w' u' hx' =>hq.mono hx'
   show (if g.w.heap.size+1=g.w.heap.size then 4 else if g.w.heap.size+1=g.w.heap.size+1 then 0 else g.u _)=0;rw[if_neg (by omega),if_pos rfl]
  .intro o o' ob ob' b' h1 h2 _ _;rw[(hget o ob h1).1,(hget o' ob' h2).1]
  intro o ob b' h1 h2;obtain ⟨rfl,rfl⟩:=hget o ob h1;have h2:AO.own (.opq 0 5 RpQ) (if o=o then .blk (g.w.heap.size+1) else g.loc o) b' :=h2;rw[if_pos rfl]at h2;have h2:some (g.w.heap.size+1)=some b' :=h2;cases h2;exact .inl (by omega)
end
theorem kkb{g:G}{s:Str}{v:Value}(h:Rel g (.s s) v):v=.string (strB s):=zTa h
theorem qob{g:G}{w' :World}(h:Below g.w.heap.size g.w w'):Old (fun _=>False) g ⟨w',g.u,g.loc⟩:=
 ⟨h.os,h.tape,h.output,⟨h.size,fun _ _=>jAt _,fun k i hk _=>by simp only[World.cell?];rw[h.block k hk],fun r hr=>(h.block r (zCa hr)).trans hr⟩,fun k hk _=>⟨h.block k hk,rfl⟩⟩
theorem Wia(s t:Str)(r:Str)(hr:Zza s t=some r):Run prog 162 [.s s,.s t] (.s r):=by
 unfold Zza at hr;split at hr
 case isFalse=>cases hr
 rename_i hc;obtain ⟨h1,h2,h3⟩:=hc;cases hr;refine ⟨⟨_,_,⟨func162,rfl,by kernel_rfl⟩⟩,fun g vs hw hg ha=>?_⟩;obtain ⟨hsz,hrel⟩:=ha;obtain ⟨l⟩:=vs
 match l,hsz with
 | [x,y],_=>
  obtain rfl:=kkb (hrel 0 _ rfl);obtain rfl:=kkb (hrel 1 _ rfl);have h116:(prog.info? 261).map (fun i=>(i.zero,i.size))=some (some (.agg (Array.replicate 256 (.bool false))),256):=by kernel_rfl
  refine callsIn_wide.2 ((Any.strings_Trim_laid Tryz.lays160 h116 (strB s) (strB t) g.w (by rw[zwa];exact h1) (by rw[zwa];exact h2) (ascii_of_all (by simpa[YQa,strB]using h3))).mono ?_);rintro e w' ⟨rfl,hb⟩;refine ⟨⟨w',g.u,g.loc⟩,_,rfl,(by intros;rfl),qob hb,fun k hk=>hw k (jBk hb.size hk),rfl,?_⟩;rw[show (strB s).data.toList=s by simp[strB],show (strB t).data.toList=t by simp[strB]];exact .pv (.b rfl)
theorem VEa(a0:Str)(r:zca × Bool)(hr:jMa a0=some r):Run prog 161 [.s a0] (.tup [.agg [.s r.1.Name,.s r.1.Value],.bo r.2]):=by
 unfold jMa at hr;refine rfx (fn:=Tryz.f161) func161 fun g0 hg=>?_
 refine clx 9 hr (yEa _ _) fun v1 _ hr=>?_
 refine clx 12 hr (wUa _ _) fun v3 _ hr=>?_
 refine jq 3 hr [2] [] (fun j5=>[(3,.bo j5)]) (fun _=>[(2,.cells [.s v3,.s v1.2.1])]) (fun j5 hr=>?_) (fun j5 hr=>?_)
 .refine bx 6 19 hr (fun c6 hr=>?_) fun c6 hr=>?_
  .refine rn tk 1 rfl ?_;obtain ⟨v7,h8,hr⟩:=zaa hr;refine ug rfl rfl rfl<|cl (ZPa _ _ h8) rfl rfl ?_;exact jx 4 hr
  exact jx 6 hr
 exact kx 1 hr
theorem vTb{g:G}{l:List UInt8}{v:Value}(h:Rel g (.l cU l) v):∀n cap,v=.slice none n cap->n=0/\cap=0:=by
 intro n cap e;cases h with
 | pv h=>
  unfold pL at h;generalize l.map cU=elems at h;cases h with
  | @sl _ _ a cap2 size b off val hn h0 hc hz ha hu hcell h=>
   cases e;obtain ⟨h1,h2⟩:=h0 rfl;exact ⟨by rw[h2];rfl,h1⟩
theorem Qea(a:List UInt8)(c:UInt8)(r:Int)(hr:qZa a c=some r):Run prog 181 [.l cU a,.u8 c] (.i r):=by
 unfold qZa at hr;cases hr;refine ⟨⟨_,_,⟨func181,rfl,by kernel_rfl⟩⟩,fun g vs hw hg ha=>?_⟩;obtain ⟨hsz,hrel⟩:=ha;obtain ⟨l⟩:=vs
 match l,hsz with
 | [x,y],_=>
  have h0:Rel g (.l cU a) x:=hrel 0 _ rfl;obtain rfl:y=.int .u8 (c.toNat:Int):=zTa (hrel 1 _ rfl);obtain ⟨ad,cap,rfl,hcap,hcell⟩:=Qaa h0;refine callsIn_wide.2 ?_
  suffices hs:Calls prog 181 #[.slice ad a.length cap,.int .u8 (c.toNat:Int)] g.w fun e w' =>e=.returned (.int .i64 (Lib.indexByte a c))/\w' =g.w by
   refine hs.mono ?_;rintro e w' ⟨rfl,rfl⟩;exact ⟨g,_,rfl,(by intros;rfl),Old.refl _ g,hw,rfl,.pv (.b rfl)⟩
  by_cases hs:a=[]
  .subst hs;cases ad with
   | none=>
    obtain ⟨_,rfl⟩:=vTb h0 _ _ rfl;exact Tryz.bytes_IndexByte_nil _ g.w
   | some ad=>
    have:=Tryz.bytes_IndexByte_at ad 0 cap [] (c.toNat:Int) g.w rfl (fun i hi=>by omega);simpa[Lib.bytesOf]using this
  obtain ⟨b1,o1,rfl,hc1⟩:=hcell hs;have:=Tryz.bytes_IndexByte_at ⟨b1,o1,none⟩ a.length cap (nums a) (c.toNat:Int) g.w (by simp[nums]) hc1;rw[VBa]at this;simpa using this
theorem Qfa(a0:List UInt8)(a1:List UInt8)(r:Bool)(hr:qUa a0 a1=some r):Run prog 222 [.l cU a0,.l cU a1] (.bo r):=by
 unfold qUa at hr;refine rfx (fn:=f222) func222 fun g0 hg=>?_
 refine jq 5 hr [] [] (fun j1=>[(4,.bo j1)]) (fun _=>[]) (fun j1 hr=>?_) (fun j1 hr=>?_)
 .refine rn tk 2 rfl<|wn tk rfl rfl rfl<|rn tk 1 rfl<|wn tk rfl rfl rfl ?_;refine bx 2 10 hr (fun c2 hr=>?_) fun c2 hr=>?_
  .refine rn tk 2 rfl<|ug rfl rfl rfl<|wn tk rfl rfl rfl<|rn tk 1 rfl<|ug rfl rfl rfl<|wn tk rfl rfl rfl<|rn tk 1 rfl ?_;obtain ⟨v3,h4,hr⟩:=zaa hr;refine ug rfl rfl rfl<|wlL tk h4 rfl rfl rfl (fun _=>rfl) rfl<|rn tk 1 rfl ?_;obtain ⟨v5,h6,hr⟩:=zaa hr;refine ug rfl rfl rfl<|cl (ZQa _ _ _ h6) rfl rfl ?_;exact jx 3 hr
  exact jx 12 hr
 exact kx 1 hr
theorem Kua(a0:List UInt8)(a1:List UInt8)(r:List UInt8)(hr:qCa a0 a1=some r):Run prog 195 [.l cU a0,.l cU a1] (.l cU r):=by
 unfold qCa at hr;refine rfx (fn:=f195) func195 fun g0 hg=>?_
 refine clx 10 hr (Qfa _ _) fun v1 _ hr=>?_
 refine ax 2 7 hr (fun hr=>?_) fun hr=>?_
 .refine rn tk 4 rfl<|wn tk rfl rfl rfl<|rn tk 1 rfl<|wn tk rfl rfl rfl<|rn tk 1 rfl ?_;obtain ⟨v4,h5,hr⟩:=zaa hr;refine wlH tk h5 rfl rfl rfl (fun _=>rfl) rfl ?_;exact kx 5 hr
 exact kx 9 hr
theorem Yfa(a0:List UInt8)(r:Str × Int)(hr:K1a a0=some r):Run prog 159 [.l cU a0] (.tup [.s r.1,.i r.2]):=by
 unfold K1a at hr;refine rfx (fn:=f159) func159 fun g0 hg=>?_
 refine clx 9 hr (Qea _ _) fun v1 _ hr=>?_
 refine ax 10 8 hr (fun hr=>?_) fun hr=>?_
 .refine rn tk 3 rfl<|wb tk rfl rfl rfl<|rn tk 1 rfl<|wn tk rfl rfl rfl ?_;exact kx 6 hr
 refine rn tk 6 rfl ?_;obtain ⟨v4,h5,hr⟩:=zaa hr;refine wlH tk h5 rfl rfl rfl (fun _=>rfl) rfl ?_;refine yPa rfl (Qra (F:=cU) (l:=([(13:UInt8)]:List UInt8)) zra zJa rfl (fun _=>rfl) rfl rfl) zra zJa (zMa rfl) (zMa rfl) rfl (hO ?_);refine clx 0 hr (Kua _ _) fun v6 _ hr=>?_
 refine wb tk rfl rfl rfl ?_;exact kx 7 hr
theorem ZRa(a0:List UInt8)(r:(List zca) × Int × zma)(hr:jNa a0=some r):Run prog 119 [.l cU a0] (.tup [.l zca.pc r.1,.i r.2.1,.agg [.i r.2.2.Code,.i r.2.2.Index]]):=by
 unfold jNa at hr;refine rfx (fn:=Tryz.f119) func119 fun g0 hg=>?_
 refine rn tk 11 rfl<|wn tk rfl rfl rfl ?_;refine ax 3 16 hr (fun hr=>?_) fun hr=>?_
 .refine clx 2 hr (zga _ _) fun v2 _ hr=>?_
  exact kx 7 hr
 refine rn tk 5 rfl ?_;refine vza 1005 (d:=5) 38 2 rfl rfl rfl (hO ?_);refine aq1 9 hr [0,4,5] [4] (fun s4=>[(6,.i s4.1)]) (fun s4=>[(1005,.row 38 true 2 (List.map zca.pc s4.2))]) (.exit 0) [4,5] [4] (fun b5=>[(6,.i b5.1)]) (fun b5=>[(1005,.row 38 true 2 (List.map zca.pc b5.2))]) (fun s4 x6 hr=>?_) (fun b5 hr=>?_)
 .unfold KEa at hr;refine rn tk 5 rfl<|wn tk rfl rfl rfl ?_;refine ax 3 21 hr (fun hr=>?_) fun hr=>?_
  .refine rn tk 7 rfl ?_;obtain ⟨v8,h9,hr⟩:=zaa hr;refine wlL tk h9 rfl rfl rfl (fun _=>rfl) rfl ?_;refine clx 0 hr (Yfa _) fun v10 _ hr=>?_
   refine ax 14 30 hr (fun hr=>?_) fun hr=>?_
   .exact ox 11 hr
   refine jq 3 hr [0,4,5,6,7,8] [1005,4] (fun j13=>[(41,.bo j13)]) (fun _=>[]) (fun j13 hr=>?_) (fun j13 hr=>?_)
   .refine rn tk 2 rfl ?_;obtain ⟨v14,h15,hr⟩:=zaa hr;refine ws tk h15 rfl rfl rfl rfl ?_;refine clx 0 hr (q2a _) fun v16 _ hr=>?_
    refine bx 1 37 hr (fun c18 hr=>?_) fun c18 hr=>?_
    .refine rn tk 1 rfl<|ug rfl rfl rfl<|wnh tk rfl rfl rfl rfl ?_;exact jx 3 hr
    exact jx 5 hr
   refine ax 0 41 hr (fun hr=>?_) fun hr=>?_
   .refine rn tk 4 rfl<|wnh tk rfl rfl rfl rfl<|rn tk 1 rfl ?_;obtain ⟨v20,h21,hr⟩:=zaa hr;refine wih tk h21 rfl rfl rfl rfl rfl<|rn tk 1 rfl ?_;obtain ⟨v22,h23,hr⟩:=zaa hr;refine wq (Woa (F:=zca.pc) (l:=s4.2) (n:=((w64 ((s4.2.length:Int) - 1)))) (j:=1) rfl rfl zya rfl h23 rfl) rfl rfl rfl<|rn tk 1 rfl ?_;obtain ⟨v24,h25,hr⟩:=zaa hr;refine wc h25 rfl rfl rfl ?_;obtain ⟨v26,h27,hr⟩:=zaa hr;refine wih tk h27 rfl rfl rfl rfl rfl<|rn tk 1 rfl ?_;obtain ⟨v28,h29,hr⟩:=zaa hr;refine wo (wga (F:=zca.pc) (l:=s4.2) (n:=((w64 ((s4.2.length:Int) - 1)))) (j:=1) (v:=v28) (v' :=((zca.mk v28.Name v24))) (pcs:=[pS v24]) rfl rfl rfl zya rfl h29 rfl rfl) rfl ?_;exact cx 13 hr
   refine clx 5 hr (VEa _) fun v30 _ hr=>?_
   refine ax 15 62 hr (fun hr=>?_) fun hr=>?_
   .exact ox 3 hr
   refine rn tk 6 rfl<|wz zca.pc ([v30.1]:List zca) tk rfl rfl (fun _=>rfl) rfl rfl rfl ?_;obtain ⟨v33,h34,hr⟩:=zaa hr;refine wa tk h34 rfl rfl rfl rfl (fun _=>rfl) rfl rfl ?_;exact cx 10 hr
  exact ox 2 hr
 refine rn tk 6 rfl<|wnh tk rfl rfl rfl rfl ?_;refine ax 3 72 hr (fun hr=>?_) fun hr=>?_
 .refine clx 2 hr (zga _ _) fun v36 _ hr=>?_
  exact kx 7 hr
 refine rn tk 4 rfl<|wz cS ([([0]:Str),([32]:Str),([13]:Str),([32]:Str)]:List Str) tk rfl rfl (fun _=>rfl) rfl rfl rfl<|wo (Vja (k:=75) (jYa 7075) rfl rfl zBa) rfl<|rn tk 7 rfl<|wnh tk rfl rfl rfl rfl ?_;refine aq2 4 hr [4,5,6,11,77] [7075,4] (fun s38=>[(78,.i s38.1)]) (fun s38=>[(1005,.row 38 true 2 (List.map zca.pc s38.2))]) (.exit 2) [4,5,6] [4] (fun _=>[]) (fun b39=>[(1005,.row 38 true 2 (List.map zca.pc b39))]) .ret [4] [] (fun b40=>[(2,.l zca.pc b40.1),(3,.i b40.2.1)]) (fun b40=>[(4,.cells [.i b40.2.2.Code,.i b40.2.2.Index])]) (fun s38 x42 hr=>?_) (fun b39 hr=>?_) (fun b40 hr=>?_)
 .unfold KFa at hr;refine ax 6 79 hr (fun hr=>?_) fun hr=>?_
  .refine rn tk 15 rfl ?_;obtain ⟨v44,h45,hr⟩:=zaa hr;refine wih tk h45 rfl rfl rfl rfl rfl<|rn tk 1 rfl ?_;obtain ⟨v46,h47,hr⟩:=zaa hr;refine wq (Woa (F:=zca.pc) (l:=s38.2) (n:=s38.1) (j:=1) rfl rfl zya rfl h47 rfl) rfl rfl rfl ?_;refine csx 0 hr (yga 7075 v46.Value) fun v48 _ hr=>?_
   refine clx 0 hr (Wia _ _) fun v50 _ hr=>?_
   refine ax 11 91 hr (fun hr=>?_) fun hr=>?_
   .refine clx 3 hr (zga _ _) fun v53 _ hr=>?_
    exact ox 9 hr
   refine rn tk 6 rfl ?_;obtain ⟨v55,h56,hr⟩:=zaa hr;refine wih tk h56 rfl rfl rfl rfl rfl<|rn tk 1 rfl ?_;obtain ⟨v57,h58,hr⟩:=zaa hr;refine wo (wga (F:=zca.pc) (l:=s38.2) (n:=s38.1) (j:=1) (v:=v57) (v' :=((zca.mk v57.Name v50))) (pcs:=[pS v50]) rfl rfl rfl zya rfl h58 rfl rfl) rfl ?_;exact cx 7 hr
  exact ox 2 hr
 .refine clx 6 hr zna fun v59 _ hr=>?_
  refine rn tk 5 rfl ?_;refine Z9a 1005 rfl (hC ?_);refine qma (d:=2) (F:=zca.pc) (l:=b39) rfl rfl (hC ?_);exact kx 1 hr
 exact kx 2 hr
theorem VFa(a0:List UInt8)(r:List UInt8)(hr:jOa a0=some r):Run prog 120 [.l cU a0] (.l cU r):=by
 unfold jOa at hr;refine rfx (fn:=Tryz.f120) func120 fun g0 hg=>?_
 refine rn tk 8 rfl ?_;refine kwa 1003 (d:=3) 5 1 rfl rfl rfl (hO ?_);refine aq1 9 hr [0,3] [] (fun s1=>[(4,.i s1.1)]) (fun s1=>[(1003,.row 5 false 1 (List.map cU s1.2))]) (.exit 0) [3] [] (fun _=>[]) (fun b2=>[(1003,.row 5 false 1 (List.map cU b2))]) (fun s1 x3 hr=>?_) (fun b2 hr=>?_)
 .unfold j0a at hr;refine rn tk 5 rfl<|wn tk rfl rfl rfl ?_;refine ax 3 8 hr (fun hr=>?_) fun hr=>?_
  .refine jq 2 hr [0,3] [] (fun j5=>[(4,.i j5.1)]) (fun j5=>[(1003,.row 5 false 1 (List.map cU j5.2))]) (fun j5 hr=>?_) (fun j5 hr=>?_)
   .refine jq 2 hr [0,3,4] [1003] (fun j6=>[(18,.bo j6)]) (fun _=>[]) (fun j6 hr=>?_) (fun j6 hr=>?_)
    .refine rn tk 3 rfl ?_;obtain ⟨v7,h8,hr⟩:=zaa hr;refine wi tk h8 rfl rfl rfl rfl rfl ?_;refine bx 3 24 hr (fun c9 hr=>?_) fun c9 hr=>?_
     .refine rn tk 3 rfl<|ug rfl rfl rfl<|wn tk rfl rfl rfl ?_;refine bx 3 31 hr (fun c10 hr=>?_) fun c10 hr=>?_
      .refine rn tk 3 rfl ?_;obtain ⟨v11,h12,hr⟩:=zaa hr;refine ug rfl rfl rfl<|wi tk h12 rfl rfl rfl rfl rfl ?_;exact jx 5 hr
      exact jx 9 hr
     exact jx 16 hr
    refine ax 0 18 hr (fun hr=>?_) fun hr=>?_
    .refine rn tk 9 rfl<|wz cU ([(13:UInt8),(10:UInt8)]:List UInt8) tk rfl rfl (fun _=>rfl) rfl rfl rfl ?_;obtain ⟨v14,h15,hr⟩:=zaa hr;refine wa tk h15 rfl rfl rfl rfl (fun _=>rfl) rfl rfl ?_;exact jx 4 hr
    refine jq 0 hr [0,3,4] [1003] (fun j16=>[(44,.bo j16)]) (fun _=>[]) (fun j16 hr=>?_) (fun j16 hr=>?_)
    .refine rn tk 3 rfl ?_;obtain ⟨v17,h18,hr⟩:=zaa hr;refine wi tk h18 rfl rfl rfl rfl rfl ?_;refine bx 3 50 hr (fun c19 hr=>?_) fun c19 hr=>?_
     .exact jx 8 hr
     refine rn tk 2 rfl ?_;obtain ⟨v20,h21,hr⟩:=zaa hr;refine ug rfl rfl rfl<|wi tk h21 rfl rfl rfl rfl rfl ?_;exact jx 5 hr
    refine ax 0 44 hr (fun hr=>?_) fun hr=>?_
    .refine rn tk 2 rfl<|wz cU ([(13:UInt8),(10:UInt8)]:List UInt8) tk rfl rfl (fun _=>rfl) rfl rfl rfl ?_;obtain ⟨v23,h24,hr⟩:=zaa hr;refine wa tk h24 rfl rfl rfl rfl (fun _=>rfl) rfl rfl ?_;exact jx 4 hr
    refine rn tk 4 rfl ?_;obtain ⟨v25,h26,hr⟩:=zaa hr;refine wi tk h26 rfl rfl rfl rfl rfl<|rn tk 1 rfl<|wz cU ([v25]:List UInt8) tk rfl rfl (fun _=>rfl) rfl rfl rfl ?_;obtain ⟨v27,h28,hr⟩:=zaa hr;refine wa tk h28 rfl rfl rfl rfl (fun _=>rfl) rfl rfl ?_;exact jx 4 hr
   exact cx 5 hr
  exact ox 2 hr
 refine rn tk 8 rfl ?_;refine qma (d:=2) (F:=cU) (l:=b2) rfl rfl (hC ?_);exact kx 1 hr
theorem Wja(a0:List UInt8)(r:zda × zma)(hr:ZAa a0=some r):Run prog 83 [.l cU a0] (.tup [.agg [.l zca.pc r.1.Fields,.l cU r.1.Body],.agg [.i r.2.Code,.i r.2.Index]]):=by
 unfold ZAa at hr;refine rfx (fn:=f83) func83 fun g0 hg=>?_
 refine clx 9 hr (ZRa _) fun v1 _ hr=>?_
 refine clx 14 hr (zha _) fun v3 _ hr=>?_
 refine ax 2 16 hr (fun hr=>?_) fun hr=>?_
 .refine mdq 1 [] [2,3] .nil ?_ mixed;exact kx 3 hr
 refine rn tk 7 rfl ?_;obtain ⟨v6,h7,hr⟩:=zaa hr;refine wlL tk h7 rfl rfl rfl (fun _=>rfl) rfl ?_;refine clx 0 hr (VFa _) fun v8 _ hr=>?_
 refine clx 9 hr (kka _) fun v10 _ hr=>?_
 refine clx 7 hr (zha _) fun v12 _ hr=>?_
 refine ax 2 28 hr (fun hr=>?_) fun hr=>?_
 .refine mdq 1 [] [2,3] .nil ?_ mixed;exact kx 3 hr
 refine rn tk 3 rfl ?_;obtain ⟨v15,h16,hr⟩:=zaa hr;refine mdq 0 [(1,.agg [.i v15.Code,.i v15.Index])] [2,3] (.cons rfl rfl (fun _ _=>(zAa (zna v15 h16) rfl)) .nil) ?_ mixed;exact kx 2 hr
theorem Q6a(a0:zka)(r:zda × Bool)(hr:y4a a0=some r):Run prog 50 [.agg [.l zca.pc a0.Fields,.l cU a0.Body,.pv (.sl none [])]] (.tup [.agg [.l zca.pc r.1.Fields,.l cU r.1.Body],.bo r.2]):=by
 unfold y4a at hr;refine rfx (fn:=f50) func50 fun g0 hg=>?_
 refine rn tk 12 rfl<|wq (VAa rfl kUa.u) rfl rfl rfl<|rn tk 4 rfl ?_;obtain ⟨v1,h2,hr⟩:=zaa hr;refine ug rfl rfl rfl<|cl (v8a _ _ _ _ h2) rfl rfl ?_;refine ax 4 16 hr (fun hr=>?_) fun hr=>?_
 .exact kx 9 hr
 refine clx 6 hr (Wja _) fun v4 _ hr=>?_
 refine clx 13 hr (zha _) fun v6 _ hr=>?_
 refine ax 2 25 hr (fun hr=>?_) fun hr=>?_
 .exact kx 9 hr
 refine clx 5 hr (wta _) fun v9 _ hr=>?_
 refine jq 7 hr [2] [] (fun j11=>[(3,.bo j11)]) (fun _=>[(2,.cells [.l zca.pc v4.1.Fields,.l cU v4.1.Body])]) (fun j11 hr=>?_) (fun j11 hr=>?_)
 .obtain ⟨v12,h13,hr⟩:=zaa hr;refine vDa ((!v12)) (fun c14=>?_) (fun c14=>?_)
  .replace hr:=VJa c14 hr
   obtain ⟨v15,h16,hr⟩:=zaa hr;refine drX 10 11 3 3 [9] [(41,.bo v15),(40,.bo v15),(39,.l cU a0.Body),(38,.ptr 1 1),(37,.l cU v9.1),(36,.bo true),(35,.bo ((!v12))),(34,.bo v12),(33,.agg [.i v9.2.Code,.i v9.2.Index]),(32,.agg [.l zca.pc v4.1.Fields,.l cU v4.1.Body])] [(2,.ptr 2 0),(41,.bo v15)] [(5,.cells [.i v9.2.Code,.i v9.2.Index]),(4,.cells [.l zca.pc v4.1.Fields,.l cU v4.1.Body]),(2,.cells [.l zca.pc v4.1.Fields,.l cU v4.1.Body]),(1,.cells [.l zca.pc a0.Fields,.l cU a0.Body,.l (zka.pcn 0) ([])])] tk mixed (by kernel_rfl) rfl rfl rfl (pqX tk rfl (.plain rfl) (pqX tk rfl (.plain rfl) (.run (.plain rfl) (zAa (zha v9.2 v12 h13) rfl) (pqX tk rfl (.plain rfl) (.run (.plain rfl) (opG_bl c14 (kaa Q9a)) (pqX tk rfl (.yes (d:=36) rfl rfl rfl rfl) (pqX tk rfl (.yes (d:=36) rfl rfl rfl rfl) (pqX tk rfl (.yes (d:=36) rfl rfl rfl rfl) (.run (.yes (d:=36) rfl rfl rfl rfl) (zAa (ZQa v9.1 a0.Body v15 h16) rfl) (pqX tk rfl (.plain rfl) .nil)))))))))) rfl rfl rfl rfl (by kernel_rfl) ?_;exact jx 2 hr
  replace hr:=VKa c14 hr
  refine drX 10 11 3 3 [9] [(41,.bo false),(40,.tup []),(39,.tup []),(38,.tup []),(37,.tup []),(36,.bo false),(35,.bo ((!v12))),(34,.bo v12),(33,.agg [.i v9.2.Code,.i v9.2.Index]),(32,.agg [.l zca.pc v4.1.Fields,.l cU v4.1.Body])] [(2,.ptr 2 0),(41,.bo false)] [(5,.cells [.i v9.2.Code,.i v9.2.Index]),(4,.cells [.l zca.pc v4.1.Fields,.l cU v4.1.Body]),(2,.cells [.l zca.pc v4.1.Fields,.l cU v4.1.Body]),(1,.cells [.l zca.pc a0.Fields,.l cU a0.Body,.l (zka.pcn 0) ([])])] tk mixed (by kernel_rfl) rfl rfl rfl (pqX tk rfl (.plain rfl) (pqX tk rfl (.plain rfl) (.run (.plain rfl) (zAa (zha v9.2 v12 h13) rfl) (pqX tk rfl (.plain rfl) (.run (.plain rfl) (opG_bl c14 (kaa Q9a)) (.skip (.no (d:=36) rfl rfl rfl rfl) (.skip (.no (d:=36) rfl rfl rfl rfl) (.skip (.no (d:=36) rfl rfl rfl rfl) (.skip (.no (d:=36) rfl rfl rfl rfl) (pqX tk rfl (.plain rfl) .nil)))))))))) rfl rfl rfl rfl (by kernel_rfl) ?_;exact jx 2 hr
 exact kx 1 hr
theorem KSa(a0:List zca)(r:(List zca) × Bool)(hr:Kfa a0=some r):Run prog 86 [.l zca.pc a0] (.tup [.l zca.pc r.1,.bo r.2]):=by
 unfold Kfa at hr;refine rfx (fn:=f86) func86 fun g0 hg=>?_
 refine rn tk 9 rfl ?_;obtain ⟨v1,h2,hr⟩:=zaa hr;refine wo (Vja (k:=12) (runS_mu (wxa a0 v1 h2) rfl) rfl rfl zBa) rfl<|rn tk 5 rfl ?_;refine J9a 1004 (o:=4) (j:=2) 131 2 rfl rfl rfl rfl (hO ?_);refine ctq 9 hr [0,4,5] [] (fun _=>[(18,.hs 90011003 0)]) (fun j3=>[(4,.cells [.s v1.1.Type_,.s v1.1.Sub,.any]),(90011003,.row 131 true 2 (List.map zoa.pc j3))]) (fun j3 hr jump1=>?_) (fun j3 hr=>?_)
 .refine iq 0 100000 [0,4,5] (fn:=f123) ⟨func123,rfl,by kernel_rfl⟩ fun T1 ds1=>?_
  refine rn tk 3 rfl ?_;refine vza 2004 (d:=4) 131 2 rfl rfl rfl (hO ?_);refine ctq 6 hr [0,1] [199999,100000,100004,100005,4,90011003] (fun j4=>[(10,.i j4)]) (fun _=>[]) (fun j4 hr jump2=>?_) (fun j4 hr=>?_)
  .refine iq 0 200000 [0,1] (fn:=Tryz.f165) ⟨func165,rfl,by kernel_rfl⟩ fun T2 ds2=>?_
   refine rn tk 9 rfl<|wnh tk rfl rfl rfl rfl ?_;refine aq2 4 hr [0,1,7] [299999,200000,200001,199999,100000,100004,100005,4,90011003] (fun s5=>[(8,.i s5)]) (fun _=>[]) (.exit 0) [] [299999,200000,200001,199999,100000,100004,100005,4,90011003] (fun _=>[]) (fun _=>[]) .ret [] [299999,200000,200001,199999,100000,100004,100005,4,90011003] (fun b7=>[(4,.i b7)]) (fun _=>[]) (fun s5 x9 hr=>?_) (fun b6 hr=>?_) (fun b7 hr=>?_)
   .unfold QGa at hr;refine ax 6 9 hr (fun hr=>?_) fun hr=>?_
    .refine rn tk 15 rfl ?_;obtain ⟨v11,h12,hr⟩:=zaa hr;refine wih tk h12 rfl rfl rfl rfl rfl ?_;obtain ⟨v13,h14,hr⟩:=zaa hr;refine wq (zeb (F:=zoa.pc) (l:=v1.1.Params) (n:=s5) (j:=0) rfl rfl kTa rfl h14 rfl) rfl rfl rfl ?_;refine iq 0 400000 [0,1,5,7,8] (fn:=f124) ⟨func124,rfl,by kernel_rfl⟩ fun T4 ds4=>?_
     refine clx 10 hr (z9a _ _) fun v15 _ hr=>?_
     refine ieq 4 (hO ?_);refine ax 2 16 hr (fun hr=>?_) fun hr=>?_
     .exact ox 9 hr
     exact cx 7 hr
    exact ox 2 hr
   .refine ieq 8 ?_;cases hr;exact jump2 _ _ rfl rfl
   refine ieq 2 ?_;cases hr;exact jump2 _ _ rfl rfl
  refine ax 10 12 hr (fun hr=>?_) fun hr=>?_
  .refine rn tk 6 rfl ?_;refine zkb (d' :=4) (F:=zoa.pc) (l:=v1.1.Params) rfl rfl (hC ?_);refine ieq 2 ?_;cases hr;exact jump1 _ _ rfl rfl
  refine aq1 11 hr [0,1] [199999,100000,100004,100005,4] (fun s19=>[(5,.i s19.1),(6,.i s19.2.1)]) (fun s19=>[(90011003,.row 131 true 2 (List.map zoa.pc s19.2.2))]) (.exit 0) [0] [199999,100000,100004,100005,4] (fun b20=>[(5,.i b20.1)]) (fun b20=>[(90011003,.row 131 true 2 (List.map zoa.pc b20.2))]) (fun s19 x21 hr=>?_) (fun b20 hr=>?_)
  .unfold QHa at hr;refine rn tk 5 rfl<|wnh tk rfl rfl rfl rfl ?_;refine ax 3 19 hr (fun hr=>?_) fun hr=>?_
   .refine jq 2 hr [0,1,6] [199999,100000,100004,100005,4] (fun j23=>[(5,.i j23.1)]) (fun j23=>[(90011003,.row 131 true 2 (List.map zoa.pc j23.2))]) (fun j23 hr=>?_) (fun j23 hr=>?_)
    .refine rn tk 5 rfl ?_;obtain ⟨v24,h25,hr⟩:=zaa hr;refine wih tk h25 rfl rfl rfl rfl rfl ?_;obtain ⟨v26,h27,hr⟩:=zaa hr;refine wq (zeb (F:=zoa.pc) (l:=s19.2.2) (n:=s19.2.1) (j:=0) rfl rfl kTa rfl h27 rfl) rfl rfl rfl ?_;refine iq 8 1000000 [0,1,5,6,7] (fn:=f124) ⟨func124,rfl,by kernel_rfl⟩ fun T10 ds10=>?_
     refine clx 10 hr (z9a _ _) fun v28 _ hr=>?_
     refine ieq 4 (hO ?_);refine ax 3 29 hr (fun hr=>?_) fun hr=>?_
     .refine rn tk 5 rfl ?_;obtain ⟨v31,h32,hr⟩:=zaa hr;refine wih tk h32 rfl rfl rfl rfl rfl ?_;obtain ⟨v33,h34,hr⟩:=zaa hr;refine wo (wga (F:=zoa.pc) (l:=s19.2.2) (n:=s19.1) (j:=0) (v:=v33) (v' :=v26) (pcs:=[pS v26.Name,pS v26.Value]) rfl rfl rfl kTa rfl h34 rfl rfl) rfl ?_;exact jx 8 hr
     exact jx 2 hr
    exact cx 5 hr
   exact ox 2 hr
  refine rn tk 6 rfl ?_;obtain ⟨v35,h36,hr⟩:=zaa hr;refine wq (ev_hsub (F:=zoa.pc) (l:=b20.2) (p:=b20.1) rfl rfl rfl k0a kTa h36) rfl rfl rfl<|wo (vab (F:=zoa.pc) (l:=b20.2) (z:=((zoa.mk (([]:Str)) (([]:Str))))) rfl rfl k0a kTa rfl rfl) rfl<|rn tk 6 rfl ?_;obtain ⟨v37,h38,hr⟩:=zaa hr;refine wo (q9b (k:=41) (F:=zoa.pc) (l:=((clr0 b20.2 (Int.toNat b20.1) ((zoa.mk (([]:Str)) (([]:Str))))))) rfl rfl rfl rfl k0a kTa h38) rfl<|rn tk 3 rfl ?_;refine zkb (d' :=4) (F:=zoa.pc) (l:=v37) rfl rfl (hC ?_);refine ieq 1 ?_;cases hr;exact jump1 _ _ rfl rfl
 refine rn tk 7 rfl ?_;refine zdb 90011003 rfl (hO ?_);refine wCa (d' :=21) (j:=2) (F:=zoa.pc) (l:=j3) rfl rfl rfl (hO ?_);refine clx 0 hr (yGa _) fun v39 _ hr=>?_
 refine clx 12 hr (zha _) fun v41 _ hr=>?_
 refine ax 2 26 hr (fun hr=>?_) fun hr=>?_
 .exact kx 8 hr
 refine rn tk 5 rfl ?_;obtain ⟨v44,h45,hr⟩:=zaa hr;refine wo (Vha (k:=28) 1028 (kFa a0 v44 h45) rfl rfl rfl rfl) rfl<|rn tk 8 rfl ?_;obtain ⟨v46,h47,hr⟩:=zaa hr;refine wih tk h47 rfl rfl rfl rfl rfl<|rn tk 1 rfl ?_;obtain ⟨v48,h49,hr⟩:=zaa hr;refine wo (wga (F:=zca.pc) (l:=v44) (n:=v1.2.1) (j:=1) (v:=v48) (v' :=((zca.mk v48.Name v39.1))) (pcs:=[pS v39.1]) rfl rfl rfl zya rfl h49 rfl rfl) rfl<|rn tk 9 rfl ?_;refine Z9a 1028 rfl (hC ?_);refine qma (d:=2) (F:=zca.pc) (l:=((List.set v44 (Int.toNat v1.2.1) ((zca.mk v48.Name v39.1))))) rfl rfl (hC ?_);exact kx 1 hr
end Go.Proofs.YtpphhgbmooofgaaGreatDoor
