/- Part 5 of the proof of the law ClientMatchesSpec: what it needs. -/
import Derived.Test.YtjnmamghadpedaaGreatDoorKClientMatchesSpec4
set_option linter.unusedVariables false
set_option linter.unusedSimpArgs false
namespace Go.Proofs.YtjnmamghadpedaaGreatDoor
open Go.RowKit
set_option maxRecDepth 100000
theorem KVa (s t:Str) (r:Bool) (hr:kTa s t=some r):Run Tryz.prog 157 [.s s, .s t] (.bo r):=by
 unfold kTa at hr
 split at hr
 case isFalse=> cases hr
 rename_i hlen
 cases hr
 refine ⟨⟨_,_,⟨Tryz.func157,rfl,by kernel_rfl⟩⟩,fun g vs hw hg ha=> ?_⟩
 obtain ⟨hsz,hrel⟩:=ha
 obtain ⟨l⟩:=vs
 match l,hsz with
 | [x,y],_=>
  obtain rfl:=Qra (hrel 0 _ rfl)
  obtain rfl:=Qra (hrel 1 _ rfl)
  obtain ⟨_,_,m,hm⟩:=hg.1 (0,0) (by simp [vSb])
  refine callsIn_wide.2 ((Tryz.strings_Contains (strB s) (strB t) m g.w (by rw [kga];exact hlen) hm).mono ?_)
  rintro e w' ⟨rfl,rfl⟩
  exact ⟨g,_,rfl,rfl,Old.refl _ g,hw,rfl, .pv (.b rfl)⟩
theorem Yva (s t:Str) (r:Str × Str × Bool) (hr:v3a s t=some r):Run Tryz.prog 130 [.s s, .s t] (.tup [.s r.1, .s r.2.1, .bo r.2.2]):=by
 unfold v3a at hr
 split at hr
 case isFalse=> cases hr
 rename_i hlen
 cases hr
 refine ⟨⟨_,_,⟨Tryz.func130,rfl,by kernel_rfl⟩⟩,fun g vs hw hg ha=> ?_⟩
 obtain ⟨hsz,hrel⟩:=ha
 obtain ⟨l⟩:=vs
 match l,hsz with
 | [x,y],_=>
  obtain rfl:=Qra (hrel 0 _ rfl)
  obtain rfl:=Qra (hrel 1 _ rfl)
  obtain ⟨_,_,m,hm⟩:=hg.1 (0,0) (by simp [vSb])
  refine callsIn_wide.2 ((Tryz.strings_Cut (strB s) (strB t) m g.w (by rw [kga];exact hlen) hm).mono ?_)
  rintro e w' ⟨rfl,q,rfl⟩
  refine ⟨⟨g.w.drewN q,g.u,g.loc⟩,_,rfl,rfl,kkb g q,hw,rfl, .tup rfl fun i c hi=> ?_⟩
  match i,hi with
  | 0,rfl=> exact .pv (.b rfl)
  | 1,rfl=> exact .pv (.b rfl)
  | 2,rfl=> exact .pv (.b rfl)
end Go.Proofs.YtjnmamghadpedaaGreatDoor
namespace Go.Proofs.YtjnmamghadpedaaGreatDoor
open Go.RowKit
set_option maxRecDepth 100000
set_option maxHeartbeats 40000000
theorem wma (a0:Str) (a1:Str) (r:Bool) (hr:kla a0 a1=some r):Run Tryz.prog 169 [.s a0, .s a1] (.bo r):=by
 unfold kla at hr
 refine rf (fn:=Tryz.f169) ⟨Tryz.func169,rfl,by kernel_rfl⟩ rfl (fun _=> rfl) fun g0 hg=> ?_
 refine rn tk 5 rfl ?_
 refine jb hr (fun j1=> [(4, .bo j1)]) (fun j1=> []) (fun j1 hr=> ?_) (fun j1 hr=> ?_)
 ·
  refine rn tk 7 rfl ?_
  refine bs 10 hr rfl (fun c2 hr=> ?_) (fun c2 hr=> ?_)
  ·
   refine rn tk 3 rfl ?_
   obtain ⟨v3,h4,hr⟩:=zaa hr
   refine ug rfl rfl rfl ?_
   refine wscH tk h4 rfl rfl rfl rfl ?_
   refine rn tk 5 rfl ?_
   cases hr
   exact jn _ rfl rfl rfl
  ·
   refine rn tk 9 rfl ?_
   cases hr
   exact jn _ rfl rfl rfl
 ·
  refine rn tk 1 rfl ?_
  cases hr
  exact kr tk (.inr rfl) rfl rfl
theorem Kda (a0:Str) (a1:Str) (r:Bool) (hr:kJa a0 a1=some r):Run Tryz.prog 155 [.s a0, .s a1] (.bo r):=by
 unfold kJa at hr
 refine rf (fn:=Tryz.f155) ⟨Tryz.func155,rfl,by kernel_rfl⟩ rfl (fun _=> rfl) fun g0 hg=> ?_
 refine rn tk 9 rfl ?_
 obtain ⟨v1,h2,hr⟩:=zaa hr
 refine cl (wma _ _ _ h2) rfl rfl ?_
 refine rn tk 4 rfl ?_
 cases hr
 exact kr tk (.inr rfl) rfl rfl
theorem wna (a0:Str) (a1:Str) (r:Bool) (hr:kma a0 a1=some r):Run Tryz.prog 170 [.s a0, .s a1] (.bo r):=by
 unfold kma at hr
 refine rf (fn:=Tryz.f170) ⟨Tryz.func170,rfl,by kernel_rfl⟩ rfl (fun _=> rfl) fun g0 hg=> ?_
 refine rn tk 5 rfl ?_
 refine jb hr (fun j1=> [(4, .bo j1)]) (fun j1=> []) (fun j1 hr=> ?_) (fun j1 hr=> ?_)
 ·
  refine rn tk 7 rfl ?_
  refine bs 10 hr rfl (fun c2 hr=> ?_) (fun c2 hr=> ?_)
  ·
   refine rn tk 6 rfl ?_
   obtain ⟨v3,h4,hr⟩:=zaa hr
   refine ug rfl rfl rfl ?_
   refine wscL tk h4 rfl rfl rfl rfl ?_
   refine rn tk 5 rfl ?_
   cases hr
   exact jn _ rfl rfl rfl
  ·
   refine rn tk 12 rfl ?_
   cases hr
   exact jn _ rfl rfl rfl
 ·
  refine rn tk 1 rfl ?_
  cases hr
  exact kr tk (.inr rfl) rfl rfl
theorem Kea (a0:Str) (a1:Str) (r:Bool) (hr:kKa a0 a1=some r):Run Tryz.prog 156 [.s a0, .s a1] (.bo r):=by
 unfold kKa at hr
 refine rf (fn:=Tryz.f156) ⟨Tryz.func156,rfl,by kernel_rfl⟩ rfl (fun _=> rfl) fun g0 hg=> ?_
 refine rn tk 9 rfl ?_
 obtain ⟨v1,h2,hr⟩:=zaa hr
 refine cl (wna _ _ _ h2) rfl rfl ?_
 refine rn tk 4 rfl ?_
 cases hr
 exact kr tk (.inr rfl) rfl rfl
theorem Qta (a0:Str) (r:Bool) (hr:vga a0=some r):Run Tryz.prog 133 [.s a0] (.bo r):=by
 unfold vga at hr
 refine rf (fn:=Tryz.f133) ⟨Tryz.func133,rfl,by kernel_rfl⟩ rfl (fun _=> rfl) fun g0 hg=> ?_
 refine rn tk 10 rfl ?_
 refine jb hr (fun j1=> [(2, .bo j1)]) (fun j1=> []) (fun j1 hr=> ?_) (fun j1 hr=> ?_)
 ·
  refine rn tk 4 rfl ?_
  refine bs 6 hr rfl (fun c2 hr=> ?_) (fun c2 hr=> ?_)
  ·
   refine rn tk 5 rfl ?_
   refine bs 11 hr rfl (fun c3 hr=> ?_) (fun c3 hr=> ?_)
   ·
    refine rn tk 2 rfl ?_
    refine ug rfl rfl rfl ?_
    refine ct hr (fun j4=> [(0, .s a0),(11, .bo true),(14, .bo j4)]) (fun j4=> []) (fun j4 hr jump4=> ?_) (fun j4 hr=> ?_)
    ·
     refine il (fn:=Tryz.f69) (args:= [.s a0, .fn (.func 154) [] []]) 400000 499999 [(0, .s a0),(11, .bo true)] rfl ⟨Tryz.func69,rfl,by kernel_rfl⟩ rfl rfl rfl fun T4 ds4=> ?_
     refine rn tk 14 rfl ?_
     refine al2 hr (fun s5=> [(0, .s a0),(1, .fn (.func 154) [] []),(7, .i ((a0.length:Int))),(8, .i s5)]) (fun s5=> [(499999, .sus g0.w.heap.size ds4),(400000, .hold (.s a0) (T4.getD 0 undef)),(400011, .hold (.bo true) (T4.getD 11 undef))]) (.exit 0) (fun b6=> []) (fun b6=> [(499999, .sus g0.w.heap.size ds4),(400000, .hold (.s a0) (T4.getD 0 undef)),(400011, .hold (.bo true) (T4.getD 11 undef))]) .ret (fun b7=> [(4, .bo false)]) (fun b7=> [(499999, .sus g0.w.heap.size ds4),(400000, .hold (.s a0) (T4.getD 0 undef)),(400011, .hold (.bo true) (T4.getD 11 undef))]) rfl rfl (fun s5 x9 hr=> ?_) (fun b6 hr=> ?_) (fun b7 hr=> ?_)
     ·
      unfold qja at hr
      refine rn tk 6 rfl ?_
      refine ac 9 hr rfl (fun c10 hr=> ?_) (fun c10 hr=> ?_)
      ·
       refine rn tk 15 rfl ?_
       obtain ⟨v11,h12,hr⟩:=zaa hr
       refine ws tk h12 rfl rfl rfl rfl ?_
       refine il (fn:=Tryz.f154) (args:= [.u8 v11]) 600000 699999 [(0, .s a0),(1, .fn (.func 154) [] []),(7, .i ((a0.length:Int))),(8, .i s5)] rfl ⟨Tryz.func154,rfl,by kernel_rfl⟩ rfl rfl rfl fun T6 ds6=> ?_
       refine rn tk 5 rfl ?_
       refine jb hr (fun j13=> [(2, .bo j13)]) (fun j13=> [(699999, .sus g0.w.heap.size ds6),(600000, .hold (.s a0) (T6.getD 0 undef)),(600001, .hold (.fn (.func 154) [] []) (T6.getD 1 undef)),(600007, .hold (.i ((a0.length:Int))) (T6.getD 7 undef)),(600008, .hold (.i s5) (T6.getD 8 undef)),(499999, .sus g0.w.heap.size ds4),(400000, .hold (.s a0) (T4.getD 0 undef)),(400011, .hold (.bo true) (T4.getD 11 undef))]) (fun j13 hr=> ?_) (fun j13 hr=> ?_)
       ·
        refine rn tk 4 rfl ?_
        refine bs 5 hr rfl (fun c14 hr=> ?_) (fun c14 hr=> ?_)
        ·
         refine rn tk 4 rfl ?_
         refine bs 9 hr rfl (fun c15 hr=> ?_) (fun c15 hr=> ?_)
         ·
          refine rn tk 17 rfl ?_
          cases hr
          exact jn _ rfl rfl rfl
         ·
          refine rn tk 3 rfl ?_
          refine bs 12 hr rfl (fun c16 hr=> ?_) (fun c16 hr=> ?_)
          ·
           refine rn tk 5 rfl ?_
           refine bs 17 hr rfl (fun c17 hr=> ?_) (fun c17 hr=> ?_)
           ·
            refine rn tk 9 rfl ?_
            cases hr
            exact jn _ rfl rfl rfl
           ·
            refine rn tk 4 rfl ?_
            refine bs 21 hr rfl (fun c18 hr=> ?_) (fun c18 hr=> ?_)
            ·
             refine rn tk 5 rfl ?_
             cases hr
             exact jn _ rfl rfl rfl
            ·
             refine rn tk 5 rfl ?_
             cases hr
             exact jn _ rfl rfl rfl
          ·
           refine rn tk 9 rfl ?_
           refine bs 21 hr rfl (fun c19 hr=> ?_) (fun c19 hr=> ?_)
           ·
            refine rn tk 5 rfl ?_
            cases hr
            exact jn _ rfl rfl rfl
           ·
            refine rn tk 5 rfl ?_
            cases hr
            exact jn _ rfl rfl rfl
        ·
         refine rn tk 7 rfl ?_
         refine bs 12 hr rfl (fun c20 hr=> ?_) (fun c20 hr=> ?_)
         ·
          refine rn tk 5 rfl ?_
          refine bs 17 hr rfl (fun c21 hr=> ?_) (fun c21 hr=> ?_)
          ·
           refine rn tk 9 rfl ?_
           cases hr
           exact jn _ rfl rfl rfl
          ·
           refine rn tk 4 rfl ?_
           refine bs 21 hr rfl (fun c22 hr=> ?_) (fun c22 hr=> ?_)
           ·
            refine rn tk 5 rfl ?_
            cases hr
            exact jn _ rfl rfl rfl
           ·
            refine rn tk 5 rfl ?_
            cases hr
            exact jn _ rfl rfl rfl
         ·
          refine rn tk 9 rfl ?_
          refine bs 21 hr rfl (fun c23 hr=> ?_) (fun c23 hr=> ?_)
          ·
           refine rn tk 5 rfl ?_
           cases hr
           exact jn _ rfl rfl rfl
          ·
           refine rn tk 5 rfl ?_
           cases hr
           exact jn _ rfl rfl rfl
       ·
        refine rn tk 1 rfl ?_
        refine ie tk [.bo j13] [(0, .s a0),(1, .fn (.func 154) [] []),(7, .i ((a0.length:Int))),(8, .i s5)] [(499999, .sus g0.w.heap.size ds4),(400000, .hold (.s a0) (T4.getD 0 undef)),(400011, .hold (.bo true) (T4.getD 11 undef))] (.inr rfl) rfl rfl rfl rfl (hO ?_)
        refine rn tk 3 rfl ?_
        refine ac 16 hr rfl (fun c24 hr=> ?_) (fun c24 hr=> ?_)
        ·
         refine rn tk 8 rfl ?_
         cases hr
         exact ato rfl rfl rfl rfl
        ·
         refine rn tk 7 rfl ?_
         cases hr
         exact atc rfl rfl
      ·
       refine rn tk 2 rfl ?_
       cases hr
       exact ato rfl rfl rfl rfl
     ·
      refine rn tk 8 rfl ?_
      refine ie tk [.bo true] [(0, .s a0),(11, .bo true)] [] (.inr rfl) rfl rfl rfl rfl ?_
      cases hr
      exact jump4 _ _ rfl rfl
     ·
      refine rn tk 2 rfl ?_
      refine ie tk [.bo false] [(0, .s a0),(11, .bo true)] [] (.inr rfl) rfl rfl rfl rfl ?_
      cases hr
      exact jump4 _ _ rfl rfl
    ·
     refine rn tk 2 rfl ?_
     refine bs 16 hr rfl (fun c25 hr=> ?_) (fun c25 hr=> ?_)
     ·
      refine rn tk 1 rfl ?_
      obtain ⟨v26,h27,hr⟩:=zaa hr
      refine ug rfl rfl rfl ?_
      refine cl (Kda _ _ _ h27) rfl rfl ?_
      refine rn tk 3 rfl ?_
      refine bs 21 hr rfl (fun c28 hr=> ?_) (fun c28 hr=> ?_)
      ·
       refine rn tk 1 rfl ?_
       obtain ⟨v29,h30,hr⟩:=zaa hr
       refine ug rfl rfl rfl ?_
       refine cl (Kea _ _ _ h30) rfl rfl ?_
       refine rn tk 3 rfl ?_
       refine bs 26 hr rfl (fun c31 hr=> ?_) (fun c31 hr=> ?_)
       ·
        refine rn tk 1 rfl ?_
        obtain ⟨v32,h33,hr⟩:=zaa hr
        refine ug rfl rfl rfl ?_
        refine cl (KVa _ _ _ h33) rfl rfl ?_
        refine rn tk 4 rfl ?_
        cases hr
        exact jn _ rfl rfl rfl
       ·
        refine rn tk 6 rfl ?_
        cases hr
        exact jn _ rfl rfl rfl
      ·
       refine rn tk 11 rfl ?_
       cases hr
       exact jn _ rfl rfl rfl
     ·
      refine rn tk 16 rfl ?_
      cases hr
      exact jn _ rfl rfl rfl
   ·
    refine rn tk 21 rfl ?_
    cases hr
    exact jn _ rfl rfl rfl
  ·
   refine rn tk 26 rfl ?_
   cases hr
   exact jn _ rfl rfl rfl
 ·
  refine rn tk 1 rfl ?_
  cases hr
  exact kr tk (.inr rfl) rfl rfl
theorem Vba (a0:Str) (r:Str × Str × Bool) (hr:vKa a0=some r):Run Tryz.prog 112 [.s a0] (.tup [.s r.1, .s r.2.1, .bo r.2.2]):=by
 unfold vKa at hr
 refine rf (fn:=Tryz.f112) ⟨Tryz.func112,rfl,by kernel_rfl⟩ rfl (fun _=> rfl) fun g0 hg=> ?_
 refine rn tk 10 rfl ?_
 obtain ⟨v1,h2,hr⟩:=zaa hr
 refine cl (Yva _ _ _ h2) rfl rfl ?_
 refine rn tk 14 rfl ?_
 refine jb hr (fun j3=> [(2, .s v1.1),(3, .s v1.2.1),(4, .bo j3)]) (fun j3=> []) (fun j3 hr=> ?_) (fun j3 hr=> ?_)
 ·
  refine rn tk 5 rfl ?_
  refine bs 15 hr rfl (fun c4 hr=> ?_) (fun c4 hr=> ?_)
  ·
   refine rn tk 4 rfl ?_
   refine bs 19 hr rfl (fun c5 hr=> ?_) (fun c5 hr=> ?_)
   ·
    refine rn tk 5 rfl ?_
    refine bs 24 hr rfl (fun c6 hr=> ?_) (fun c6 hr=> ?_)
    ·
     refine rn tk 2 rfl ?_
     refine ug rfl rfl rfl ?_
     refine ct hr (fun j7=> [(3, .s v1.2.1),(12, .s v1.1),(13, .s v1.2.1),(24, .bo true),(27, .bo j7)]) (fun j7=> []) (fun j7 hr jump4=> ?_) (fun j7 hr=> ?_)
     ·
      refine il (fn:=Tryz.f69) (args:= [.s v1.1, .fn (.func 131) [] []]) 400000 499999 [(3, .s v1.2.1),(12, .s v1.1),(13, .s v1.2.1),(24, .bo true)] rfl ⟨Tryz.func69,rfl,by kernel_rfl⟩ rfl rfl rfl fun T4 ds4=> ?_
      refine rn tk 14 rfl ?_
      refine al2 hr (fun s8=> [(0, .s v1.1),(1, .fn (.func 131) [] []),(7, .i ((v1.1.length:Int))),(8, .i s8)]) (fun s8=> [(499999, .sus g0.w.heap.size ds4),(400003, .hold (.s v1.2.1) (T4.getD 3 undef)),(400012, .hold (.s v1.1) (T4.getD 12 undef)),(400013, .hold (.s v1.2.1) (T4.getD 13 undef)),(400024, .hold (.bo true) (T4.getD 24 undef))]) (.exit 0) (fun b9=> []) (fun b9=> [(499999, .sus g0.w.heap.size ds4),(400003, .hold (.s v1.2.1) (T4.getD 3 undef)),(400012, .hold (.s v1.1) (T4.getD 12 undef)),(400013, .hold (.s v1.2.1) (T4.getD 13 undef)),(400024, .hold (.bo true) (T4.getD 24 undef))]) .ret (fun b10=> [(4, .bo false)]) (fun b10=> [(499999, .sus g0.w.heap.size ds4),(400003, .hold (.s v1.2.1) (T4.getD 3 undef)),(400012, .hold (.s v1.1) (T4.getD 12 undef)),(400013, .hold (.s v1.2.1) (T4.getD 13 undef)),(400024, .hold (.bo true) (T4.getD 24 undef))]) rfl rfl (fun s8 x12 hr=> ?_) (fun b9 hr=> ?_) (fun b10 hr=> ?_)
      ·
       unfold qAa at hr
       refine rn tk 6 rfl ?_
       refine ac 9 hr rfl (fun c13 hr=> ?_) (fun c13 hr=> ?_)
       ·
        refine rn tk 15 rfl ?_
        obtain ⟨v14,h15,hr⟩:=zaa hr
        refine ws tk h15 rfl rfl rfl rfl ?_
        refine il (fn:=Tryz.f131) (args:= [.u8 v14]) 600000 699999 [(0, .s v1.1),(1, .fn (.func 131) [] []),(7, .i ((v1.1.length:Int))),(8, .i s8)] rfl ⟨Tryz.func131,rfl,by kernel_rfl⟩ rfl rfl rfl fun T6 ds6=> ?_
        refine rn tk 5 rfl ?_
        refine jb hr (fun j16=> [(2, .bo j16)]) (fun j16=> [(699999, .sus g0.w.heap.size ds6),(600000, .hold (.s v1.1) (T6.getD 0 undef)),(600001, .hold (.fn (.func 131) [] []) (T6.getD 1 undef)),(600007, .hold (.i ((v1.1.length:Int))) (T6.getD 7 undef)),(600008, .hold (.i s8) (T6.getD 8 undef)),(499999, .sus g0.w.heap.size ds4),(400003, .hold (.s v1.2.1) (T4.getD 3 undef)),(400012, .hold (.s v1.1) (T4.getD 12 undef)),(400013, .hold (.s v1.2.1) (T4.getD 13 undef)),(400024, .hold (.bo true) (T4.getD 24 undef))]) (fun j16 hr=> ?_) (fun j16 hr=> ?_)
        ·
         refine rn tk 2 rfl ?_
         obtain ⟨v17,h18,hr⟩:=zaa hr
         refine cl (Zya _ _ h18) rfl rfl ?_
         refine rn tk 1 rfl ?_
         refine bs 5 hr rfl (fun c19 hr=> ?_) (fun c19 hr=> ?_)
         ·
          refine rn tk 6 rfl ?_
          cases hr
          exact jn _ rfl rfl rfl
         ·
          refine rn tk 1 rfl ?_
          obtain ⟨v20,h21,hr⟩:=zaa hr
          refine ug rfl rfl rfl ?_
          refine cl (vpa _ _ _ h21) rfl rfl ?_
          refine rn tk 4 rfl ?_
          cases hr
          exact jn _ rfl rfl rfl
        ·
         refine rn tk 1 rfl ?_
         refine ie tk [.bo j16] [(0, .s v1.1),(1, .fn (.func 131) [] []),(7, .i ((v1.1.length:Int))),(8, .i s8)] [(499999, .sus g0.w.heap.size ds4),(400003, .hold (.s v1.2.1) (T4.getD 3 undef)),(400012, .hold (.s v1.1) (T4.getD 12 undef)),(400013, .hold (.s v1.2.1) (T4.getD 13 undef)),(400024, .hold (.bo true) (T4.getD 24 undef))] (.inr rfl) rfl rfl rfl rfl (hO ?_)
         refine rn tk 3 rfl ?_
         refine ac 16 hr rfl (fun c22 hr=> ?_) (fun c22 hr=> ?_)
         ·
          refine rn tk 8 rfl ?_
          cases hr
          exact ato rfl rfl rfl rfl
         ·
          refine rn tk 7 rfl ?_
          cases hr
          exact atc rfl rfl
       ·
        refine rn tk 2 rfl ?_
        cases hr
        exact ato rfl rfl rfl rfl
      ·
       refine rn tk 8 rfl ?_
       refine ie tk [.bo true] [(3, .s v1.2.1),(12, .s v1.1),(13, .s v1.2.1),(24, .bo true)] [] (.inr rfl) rfl rfl rfl rfl ?_
       cases hr
       exact jump4 _ _ rfl rfl
      ·
       refine rn tk 2 rfl ?_
       refine ie tk [.bo false] [(3, .s v1.2.1),(12, .s v1.1),(13, .s v1.2.1),(24, .bo true)] [] (.inr rfl) rfl rfl rfl rfl ?_
       cases hr
       exact jump4 _ _ rfl rfl
     ·
      refine rn tk 2 rfl ?_
      refine bs 29 hr rfl (fun c23 hr=> ?_) (fun c23 hr=> ?_)
      ·
       refine rn tk 1 rfl ?_
       obtain ⟨v24,h25,hr⟩:=zaa hr
       refine ug rfl rfl rfl ?_
       refine cl (Qta _ _ h25) rfl rfl ?_
       refine rn tk 5 rfl ?_
       cases hr
       exact jn _ rfl rfl rfl
      ·
       refine rn tk 7 rfl ?_
       cases hr
       exact jn _ rfl rfl rfl
    ·
     refine rn tk 12 rfl ?_
     cases hr
     exact jn _ rfl rfl rfl
   ·
    refine rn tk 17 rfl ?_
    cases hr
    exact jn _ rfl rfl rfl
  ·
   refine rn tk 21 rfl ?_
   cases hr
   exact jn _ rfl rfl rfl
 ·
  refine rn tk 1 rfl ?_
  cases hr
  exact kr tk (.inr rfl) rfl rfl
theorem vHa (a0:Str) (r:Bool) (hr:kUa a0=some r):Run Tryz.prog 95 [.s a0] (.bo r):=by
 unfold kUa at hr
 refine rf (fn:=Tryz.f95) ⟨Tryz.func95,rfl,by kernel_rfl⟩ rfl (fun _=> rfl) fun g0 hg=> ?_
 refine rn tk 8 rfl ?_
 obtain ⟨v1,h2,hr⟩:=zaa hr
 refine cl (Vba _ _ h2) rfl rfl ?_
 refine rn tk 16 rfl ?_
 cases hr
 exact kr tk (.inr rfl) rfl rfl
theorem jca (a0:Int) (r:Bool) (hr:qBa a0=some r):Run Tryz.prog 113 [.i a0] (.bo r):=by
 unfold qBa at hr
 refine rf (fn:=Tryz.f113) ⟨Tryz.func113,rfl,by kernel_rfl⟩ rfl (fun _=> rfl) fun g0 hg=> ?_
 refine rn tk 5 rfl ?_
 refine jb hr (fun j1=> [(2, .bo j1)]) (fun j1=> []) (fun j1 hr=> ?_) (fun j1 hr=> ?_)
 ·
  refine rn tk 4 rfl ?_
  refine bs 5 hr rfl (fun c2 hr=> ?_) (fun c2 hr=> ?_)
  ·
   refine rn tk 5 rfl ?_
   cases hr
   exact jn _ rfl rfl rfl
  ·
   refine rn tk 5 rfl ?_
   cases hr
   exact jn _ rfl rfl rfl
 ·
  refine rn tk 1 rfl ?_
  cases hr
  exact kr tk (.inr rfl) rfl rfl
theorem Zra (a0:List zca) (r:zza) (hr:qaa a0=some r):Run Tryz.prog 96 [.l zca.pc a0] (.agg [.i r.Code, .i r.Index]):=by
 unfold qaa at hr
 refine rf (fn:=Tryz.f96) ⟨Tryz.func96,rfl,by kernel_rfl⟩ rfl (fun _=> rfl) fun g0 hg=> ?_
 refine rn tk 9 rfl ?_
 refine wn tk rfl rfl rfl ?_
 refine rn tk 4 rfl ?_
 refine al2 hr (fun s1=> [(0, .l zca.pc a0),(2, .ptr 2 0),(5, .l zca.pc a0),(6, .i ((a0.length:Int))),(7, .i s1)]) (fun s1=> [(2, .cells [.i 0, .i 0])]) (.exit 0) (fun b2=> [(2, .ptr 2 0)]) (fun b2=> [(2, .cells [.i 0, .i 0])]) .ret (fun b3=> [(2, .ptr 2 0)]) (fun b3=> [(2, .cells [.i b3.Code, .i b3.Index])]) rfl rfl (fun s1 x5 hr=> ?_) (fun b2 hr=> ?_) (fun b3 hr=> ?_)
 ·
  unfold qba at hr
  refine rn tk 6 rfl ?_
  refine ac 8 hr rfl (fun c6 hr=> ?_) (fun c6 hr=> ?_)
  ·
   refine rn tk 7 rfl ?_
   obtain ⟨v7,h8,hr⟩:=zaa hr
   refine wi tk h8 rfl rfl rfl rfl rfl ?_
   refine rn tk 11 rfl ?_
   obtain ⟨v9,h10,hr⟩:=zaa hr
   refine cl (vHa _ _ h10) rfl rfl ?_
   refine rn tk 4 rfl ?_
   refine ac 12 hr rfl (fun c11 hr=> ?_) (fun c11 hr=> ?_)
   ·
    refine rn tk 3 rfl ?_
    obtain ⟨v12,h13,hr⟩:=zaa hr
    refine cl (zoa _ _ _ h13) rfl rfl ?_
    refine rn tk 7 rfl ?_
    cases hr
    exact ato rfl rfl rfl rfl
   ·
    refine rn tk 4 rfl ?_
    obtain ⟨v14,h15,hr⟩:=zaa hr
    refine cl (jca _ _ h15) rfl rfl ?_
    refine rn tk 4 rfl ?_
    refine ac 19 hr rfl (fun c16 hr=> ?_) (fun c16 hr=> ?_)
    ·
     refine rn tk 3 rfl ?_
     obtain ⟨v17,h18,hr⟩:=zaa hr
     refine cl (zoa _ _ _ h18) rfl rfl ?_
     refine rn tk 7 rfl ?_
     cases hr
     exact ato rfl rfl rfl rfl
    ·
     refine rn tk 4 rfl ?_
     obtain ⟨v19,h20,hr⟩:=zaa hr
     refine wlH tk h20 rfl rfl rfl (fun _=> rfl) rfl ?_
     refine rn tk 1 rfl ?_
     refine il (fn:=Tryz.f114) (args:= [.l zca.pc v19, .fn (.func 115) [] [.ptr 4 0]]) 500000 599999 [(0, .l zca.pc a0),(2, .ptr 2 0),(3, .i s1),(5, .l zca.pc a0),(6, .i ((a0.length:Int))),(7, .i s1)] rfl ⟨Tryz.func114,rfl,by kernel_rfl⟩ rfl rfl rfl fun T5 ds5=> ?_
     refine rn tk 9 rfl ?_
     refine ct hr (fun j21=> [(7, .i j21)]) (fun j21=> [(599999, .sus g0.w.heap.size ds5),(500000, .hold (.l zca.pc a0) (T5.getD 0 undef)),(500002, .hold (.ptr 2 0) (T5.getD 2 undef)),(500005, .hold (.l zca.pc a0) (T5.getD 5 undef)),(500006, .hold (.i ((a0.length:Int))) (T5.getD 6 undef)),(500007, .hold (.i s1) (T5.getD 7 undef)),(500003, .hold (.i s1) (T5.getD 3 undef)),(2, .cells [.i 0, .i 0])]) (fun j21 hr jump6=> ?_) (fun j21 hr=> ?_)
     ·
      refine il (fn:=Tryz.f134) (args:= [.l zca.pc v19, .fn (.func 115) [] [.ptr 4 0]]) 600000 699999 [] rfl ⟨Tryz.func134,rfl,by kernel_rfl⟩ rfl rfl rfl fun T6 ds6=> ?_
      refine rn tk 9 rfl ?_
      refine wn tk rfl rfl rfl ?_
      refine rn tk 4 rfl ?_
      refine al2 hr (fun s22=> [(0, .l zca.pc v19),(1, .fn (.func 115) [] [.ptr 4 0]),(7, .i ((v19.length:Int))),(8, .i s22)]) (fun s22=> [(699999, .sus g0.w.heap.size ds6),(599999, .sus g0.w.heap.size ds5),(500000, .hold (.l zca.pc a0) (T5.getD 0 undef)),(500002, .hold (.ptr 2 0) (T5.getD 2 undef)),(500005, .hold (.l zca.pc a0) (T5.getD 5 undef)),(500006, .hold (.i ((a0.length:Int))) (T5.getD 6 undef)),(500007, .hold (.i s1) (T5.getD 7 undef)),(500003, .hold (.i s1) (T5.getD 3 undef)),(4, .cells [.s v7.Address, .i v7.Notify]),(2, .cells [.i 0, .i 0])]) (.exit 0) (fun b23=> []) (fun b23=> [(699999, .sus g0.w.heap.size ds6),(599999, .sus g0.w.heap.size ds5),(500000, .hold (.l zca.pc a0) (T5.getD 0 undef)),(500002, .hold (.ptr 2 0) (T5.getD 2 undef)),(500005, .hold (.l zca.pc a0) (T5.getD 5 undef)),(500006, .hold (.i ((a0.length:Int))) (T5.getD 6 undef)),(500007, .hold (.i s1) (T5.getD 7 undef)),(500003, .hold (.i s1) (T5.getD 3 undef)),(2, .cells [.i 0, .i 0])]) .ret (fun b24=> [(4, .i b24)]) (fun b24=> [(699999, .sus g0.w.heap.size ds6),(599999, .sus g0.w.heap.size ds5),(500000, .hold (.l zca.pc a0) (T5.getD 0 undef)),(500002, .hold (.ptr 2 0) (T5.getD 2 undef)),(500005, .hold (.l zca.pc a0) (T5.getD 5 undef)),(500006, .hold (.i ((a0.length:Int))) (T5.getD 6 undef)),(500007, .hold (.i s1) (T5.getD 7 undef)),(500003, .hold (.i s1) (T5.getD 3 undef)),(2, .cells [.i 0, .i 0])]) rfl rfl (fun s22 x26 hr=> ?_) (fun b23 hr=> ?_) (fun b24 hr=> ?_)
      ·
       unfold kEa at hr
       refine rn tk 6 rfl ?_
       refine ac 9 hr rfl (fun c27 hr=> ?_) (fun c27 hr=> ?_)
       ·
        refine rn tk 15 rfl ?_
        obtain ⟨v28,h29,hr⟩:=zaa hr
        refine wi tk h29 rfl rfl rfl rfl rfl ?_
        refine rn tk 1 rfl ?_
        refine il (fn:=Tryz.f115) (args:= [.agg [.s v28.Address, .i v28.Notify], .ptr 4 0]) 800000 899999 [(0, .l zca.pc v19),(1, .fn (.func 115) [] [.ptr 4 0]),(5, .i s22),(7, .i ((v19.length:Int))),(8, .i s22)] rfl ⟨Tryz.func115,rfl,by kernel_rfl⟩ rfl rfl rfl fun T8 ds8=> ?_
        refine rn tk 2 rfl ?_
        refine wo (Kta (k:=2) 1002 rfl rfl rfl rfl rfl) rfl ?_
        refine rn tk 14 rfl ?_
        refine ie tk [.bo ((v28.Address==v7.Address))] [(0, .l zca.pc v19),(1, .fn (.func 115) [] [.ptr 4 0]),(5, .i s22),(7, .i ((v19.length:Int))),(8, .i s22)] [(1002, .cells [.s v28.Address, .i v28.Notify]),(699999, .sus g0.w.heap.size ds6),(599999, .sus g0.w.heap.size ds5),(500000, .hold (.l zca.pc a0) (T5.getD 0 undef)),(500002, .hold (.ptr 2 0) (T5.getD 2 undef)),(500005, .hold (.l zca.pc a0) (T5.getD 5 undef)),(500006, .hold (.i ((a0.length:Int))) (T5.getD 6 undef)),(500007, .hold (.i s1) (T5.getD 7 undef)),(500003, .hold (.i s1) (T5.getD 3 undef)),(4, .cells [.s v7.Address, .i v7.Notify]),(2, .cells [.i 0, .i 0])] (.inr rfl) rfl rfl rfl rfl (hO ?_)
        refine rn tk 2 rfl ?_
        refine ac 16 hr rfl (fun c30 hr=> ?_) (fun c30 hr=> ?_)
        ·
         refine rn tk 9 rfl ?_
         cases hr
         exact ato rfl rfl rfl rfl
        ·
         refine rn tk 7 rfl ?_
         cases hr
         exact atc rfl rfl
       ·
        refine rn tk 2 rfl ?_
        cases hr
        exact ato rfl rfl rfl rfl
      ·
       refine rn tk 8 rfl ?_
       refine ie tk [.i ((-1))] [] [(599999, .sus g0.w.heap.size ds5),(500000, .hold (.l zca.pc a0) (T5.getD 0 undef)),(500002, .hold (.ptr 2 0) (T5.getD 2 undef)),(500005, .hold (.l zca.pc a0) (T5.getD 5 undef)),(500006, .hold (.i ((a0.length:Int))) (T5.getD 6 undef)),(500007, .hold (.i s1) (T5.getD 7 undef)),(500003, .hold (.i s1) (T5.getD 3 undef)),(2, .cells [.i 0, .i 0])] (.inr rfl) rfl rfl rfl rfl ?_
       cases hr
       exact jump6 _ _ rfl rfl
      ·
       refine rn tk 2 rfl ?_
       refine ie tk [.i b24] [] [(599999, .sus g0.w.heap.size ds5),(500000, .hold (.l zca.pc a0) (T5.getD 0 undef)),(500002, .hold (.ptr 2 0) (T5.getD 2 undef)),(500005, .hold (.l zca.pc a0) (T5.getD 5 undef)),(500006, .hold (.i ((a0.length:Int))) (T5.getD 6 undef)),(500007, .hold (.i s1) (T5.getD 7 undef)),(500003, .hold (.i s1) (T5.getD 3 undef)),(2, .cells [.i 0, .i 0])] (.inr rfl) rfl rfl rfl rfl ?_
       cases hr
       exact jump6 _ _ rfl rfl
     ·
      refine rn tk 5 rfl ?_
      refine ie tk [.bo (decide (0≤j21))] [(0, .l zca.pc a0),(2, .ptr 2 0),(3, .i s1),(5, .l zca.pc a0),(6, .i ((a0.length:Int))),(7, .i s1)] [(2, .cells [.i 0, .i 0])] (.inr rfl) rfl rfl rfl rfl (hO ?_)
      refine rn tk 3 rfl ?_
      refine ac 26 hr rfl (fun c31 hr=> ?_) (fun c31 hr=> ?_)
      ·
       refine rn tk 3 rfl ?_
       obtain ⟨v32,h33,hr⟩:=zaa hr
       refine cl (zoa _ _ _ h33) rfl rfl ?_
       refine rn tk 7 rfl ?_
       cases hr
       exact ato rfl rfl rfl rfl
      ·
       refine rn tk 8 rfl ?_
       cases hr
       exact atc rfl rfl
  ·
   refine rn tk 2 rfl ?_
   cases hr
   exact ato rfl rfl rfl rfl
 ·
  refine rn tk 4 rfl ?_
  obtain ⟨v34,h35,hr⟩:=zaa hr
  refine cl (zSa _ h35) rfl rfl ?_
  refine rn tk 4 rfl ?_
  cases hr
  exact kr tk (.inr rfl) rfl rfl
 ·
  refine rn tk 2 rfl ?_
  cases hr
  exact kr tk (.inr rfl) rfl rfl
theorem Kfa (a0:zKa) (r:zza) (hr:qCa a0=some r):Run Tryz.prog 72 [.agg [.s a0.From, .l zca.pc a0.To, .s a0.Id]] (.agg [.i r.Code, .i r.Index]):=by
 unfold qCa at hr
 refine rf (fn:=Tryz.f72) ⟨Tryz.func72,rfl,by kernel_rfl⟩ rfl (fun _=> rfl) fun g0 hg=> ?_
 refine rn tk 8 rfl ?_
 refine jb hr (fun j1=> [(1, .ptr 1 0),(2, .ptr 2 0),(3, .bo j1)]) (fun j1=> [(2, .cells [.i 0, .i 0]),(1, .cells [.s a0.From, .l zca.pc a0.To, .s a0.Id])]) (fun j1 hr=> ?_) (fun j1 hr=> ?_)
 ·
  refine rn tk 5 rfl ?_
  refine bs 7 hr rfl (fun c2 hr=> ?_) (fun c2 hr=> ?_)
  ·
   refine rn tk 2 rfl ?_
   obtain ⟨v3,h4,hr⟩:=zaa hr
   refine ug rfl rfl rfl ?_
   refine cl (vHa _ _ h4) rfl rfl ?_
   refine rn tk 4 rfl ?_
   cases hr
   exact jn _ rfl rfl rfl
  ·
   refine rn tk 7 rfl ?_
   cases hr
   exact jn _ rfl rfl rfl
 ·
  refine ac 3 hr rfl (fun c5 hr=> ?_) (fun c5 hr=> ?_)
  ·
   refine rn tk 2 rfl ?_
   obtain ⟨v6,h7,hr⟩:=zaa hr
   refine cl (zoa _ _ _ h7) rfl rfl ?_
   refine rn tk 6 rfl ?_
   cases hr
   exact kr tk (.inr rfl) rfl rfl
  ·
   refine jb hr (fun j8=> [(1, .ptr 1 0),(2, .ptr 2 0),(14, .bo j8)]) (fun j8=> [(2, .cells [.i 0, .i 0]),(1, .cells [.s a0.From, .l zca.pc a0.To, .s a0.Id])]) (fun j8 hr=> ?_) (fun j8 hr=> ?_)
   ·
    refine rn tk 3 rfl ?_
    refine wn tk rfl rfl rfl ?_
    refine rn tk 2 rfl ?_
    refine bs 19 hr rfl (fun c9 hr=> ?_) (fun c9 hr=> ?_)
    ·
     refine rn tk 7 rfl ?_
     cases hr
     exact jn _ rfl rfl rfl
    ·
     refine rn tk 2 rfl ?_
     refine ug rfl rfl rfl ?_
     refine wn tk rfl rfl rfl ?_
     refine rn tk 4 rfl ?_
     cases hr
     exact jn _ rfl rfl rfl
   ·
    refine ac 14 hr rfl (fun c10 hr=> ?_) (fun c10 hr=> ?_)
    ·
     refine rn tk 2 rfl ?_
     obtain ⟨v11,h12,hr⟩:=zaa hr
     refine cl (zoa _ _ _ h12) rfl rfl ?_
     refine rn tk 6 rfl ?_
     cases hr
     exact kr tk (.inr rfl) rfl rfl
    ·
     refine jb hr (fun j13=> [(1, .ptr 1 0),(2, .ptr 2 0),(26, .bo j13)]) (fun j13=> [(2, .cells [.i 0, .i 0]),(1, .cells [.s a0.From, .l zca.pc a0.To, .s a0.Id])]) (fun j13 hr=> ?_) (fun j13 hr=> ?_)
     ·
      refine rn tk 5 rfl ?_
      refine bs 30 hr rfl (fun c14 hr=> ?_) (fun c14 hr=> ?_)
      ·
       refine rn tk 2 rfl ?_
       obtain ⟨v15,h16,hr⟩:=zaa hr
       refine ug rfl rfl rfl ?_
       refine cl (jFa _ _ h16) rfl rfl ?_
       refine rn tk 4 rfl ?_
       cases hr
       exact jn _ rfl rfl rfl
      ·
       refine rn tk 7 rfl ?_
       cases hr
       exact jn _ rfl rfl rfl
     ·
      refine ac 26 hr rfl (fun c17 hr=> ?_) (fun c17 hr=> ?_)
      ·
       refine rn tk 2 rfl ?_
       obtain ⟨v18,h19,hr⟩:=zaa hr
       refine cl (zoa _ _ _ h19) rfl rfl ?_
       refine rn tk 6 rfl ?_
       cases hr
       exact kr tk (.inr rfl) rfl rfl
      ·
       refine rn tk 7 rfl ?_
       obtain ⟨v20,h21,hr⟩:=zaa hr
       refine cl (Zra _ _ h21) rfl rfl ?_
       refine rn tk 4 rfl ?_
       cases hr
       exact kr tk (.inr rfl) rfl rfl
theorem Vca (a0:kea) (r:zza) (hr:vLa a0=some r):Run Tryz.prog 44 [.agg [.s a0.Envelope.From, .l zca.pc a0.Envelope.To, .s a0.Envelope.Id, .l zga.pc a0.Message.Fields, .l cU a0.Message.Body]] (.agg [.i r.Code, .i r.Index]):=by
 unfold vLa at hr
 refine rf (fn:=Tryz.f44) ⟨Tryz.func44,rfl,by kernel_rfl⟩ rfl (fun _=> rfl) fun g0 hg=> ?_
 refine rn tk 11 rfl ?_
 obtain ⟨v1,h2,hr⟩:=zaa hr
 refine cl (Kfa _ _ h2) rfl rfl ?_
 refine rn tk 7 rfl ?_
 obtain ⟨v3,h4,hr⟩:=zaa hr
 refine cl (z2a _ _ h4) rfl rfl ?_
 refine rn tk 2 rfl ?_
 refine ac 9 hr rfl (fun c5 hr=> ?_) (fun c5 hr=> ?_)
 ·
  refine rn tk 8 rfl ?_
  cases hr
  exact kr tk (.inr rfl) rfl rfl
 ·
  refine rn tk 7 rfl ?_
  obtain ⟨v6,h7,hr⟩:=zaa hr
  refine cl (yoa _ _ h7) rfl rfl ?_
  refine rn tk 7 rfl ?_
  obtain ⟨v8,h9,hr⟩:=zaa hr
  refine cl (z2a _ _ h9) rfl rfl ?_
  refine rn tk 2 rfl ?_
  refine ac 15 hr rfl (fun c10 hr=> ?_) (fun c10 hr=> ?_)
  ·
   refine rn tk 4 rfl ?_
   obtain ⟨v11,h12,hr⟩:=zaa hr
   refine cl (zoa _ _ _ h12) rfl rfl ?_
   refine rn tk 5 rfl ?_
   cases hr
   exact kr tk (.inr rfl) rfl rfl
  ·
   refine rn tk 4 rfl ?_
   obtain ⟨v13,h14,hr⟩:=zaa hr
   refine cl (zSa _ h14) rfl rfl ?_
   refine rn tk 4 rfl ?_
   cases hr
   exact kr tk (.inr rfl) rfl rfl
theorem Zza (a0:Str) (a1:kea) (r:zza) (hr:wfa a0 a1=some r):Run Tryz.prog 19 [.s a0, .agg [.s a1.Envelope.From, .l zca.pc a1.Envelope.To, .s a1.Envelope.Id, .l zga.pc a1.Message.Fields, .l cU a1.Message.Body]] (.agg [.i r.Code, .i r.Index]):=by
 unfold wfa at hr
 refine rf (fn:=Tryz.f19) ⟨Tryz.func19,rfl,by kernel_rfl⟩ rfl (fun _=> rfl) fun g0 hg=> ?_
 refine rn tk 10 rfl ?_
 obtain ⟨v1,h2,hr⟩:=zaa hr
 refine cl (jFa _ _ h2) rfl rfl ?_
 refine rn tk 3 rfl ?_
 refine ac 7 hr rfl (fun c3 hr=> ?_) (fun c3 hr=> ?_)
 ·
  refine rn tk 2 rfl ?_
  obtain ⟨v4,h5,hr⟩:=zaa hr
  refine cl (zoa _ _ _ h5) rfl rfl ?_
  refine rn tk 5 rfl ?_
  cases hr
  exact kr tk (.inr rfl) rfl rfl
 ·
  refine rn tk 5 rfl ?_
  obtain ⟨v6,h7,hr⟩:=zaa hr
  refine cl (Vca _ _ h7) rfl rfl ?_
  refine rn tk 4 rfl ?_
  cases hr
  exact kr tk (.inr rfl) rfl rfl
theorem ZAa (a0:zla) (r:zza) (hr:wga a0=some r):Run Tryz.prog 30 [.agg [.s a0.Name, .s a0.Mail.Envelope.From, .l zca.pc a0.Mail.Envelope.To, .s a0.Mail.Envelope.Id, .l zga.pc a0.Mail.Message.Fields, .l cU a0.Mail.Message.Body, .bo a0.Pipelined, .l cU a0.Buffer, .i a0.Expected, .bo a0.Whole, .bo a0.Done, .l cI a0.Results]] (.agg [.i r.Code, .i r.Index]):=by
 unfold wga at hr
 refine rf (fn:=Tryz.f30) ⟨Tryz.func30,rfl,by kernel_rfl⟩ rfl (fun _=> rfl) fun g0 hg=> ?_
 refine rn tk 13 rfl ?_
 obtain ⟨v1,h2,hr⟩:=zaa hr
 refine cl (Zza _ _ _ h2) rfl rfl ?_
 refine rn tk 7 rfl ?_
 obtain ⟨v3,h4,hr⟩:=zaa hr
 refine cl (z2a _ _ h4) rfl rfl ?_
 refine rn tk 2 rfl ?_
 refine ac 12 hr rfl (fun c5 hr=> ?_) (fun c5 hr=> ?_)
 ·
  refine rn tk 8 rfl ?_
  cases hr
  exact kr tk (.inr rfl) rfl rfl
 ·
  refine rn tk 8 rfl ?_
  refine wn tk rfl rfl rfl ?_
  refine rn tk 9 rfl ?_
  refine jb hr (fun j6=> [(2, .ptr 2 0),(57, .bo j6)]) (fun j6=> [(2, .cells [.i 0, .i 0])]) (fun j6 hr=> ?_) (fun j6 hr=> ?_)
  ·
   refine rn tk 3 rfl ?_
   refine wn tk rfl rfl rfl ?_
   refine rn tk 3 rfl ?_
   refine bs 24 hr rfl (fun c7 hr=> ?_) (fun c7 hr=> ?_)
   ·
    refine rn tk 34 rfl ?_
    cases hr
    exact jn _ rfl rfl rfl
   ·
    refine rn tk 3 rfl ?_
    refine ug rfl rfl rfl ?_
    refine il (fn:=Tryz.f53) (args:= [.l cI a0.Results, .fn (.func 52) [] []]) 500000 599999 [(1, .ptr 1 0),(2, .ptr 2 0),(4, .i ((a0.Mail.Envelope.To.length:Int))),(24, .bo false)] rfl ⟨Tryz.func53,rfl,by kernel_rfl⟩ rfl rfl rfl fun T5 ds5=> ?_
    refine rn tk 9 rfl ?_
    refine ct hr (fun j8=> [(7, .i j8)]) (fun j8=> [(599999, .sus g0.w.heap.size ds5),(500001, .hold (.ptr 1 0) (T5.getD 1 undef)),(500002, .hold (.ptr 2 0) (T5.getD 2 undef)),(500004, .hold (.i ((a0.Mail.Envelope.To.length:Int))) (T5.getD 4 undef)),(500024, .hold (.bo false) (T5.getD 24 undef)),(2, .cells [.i 0, .i 0]),(1, .cells [.s a0.Name, .s a0.Mail.Envelope.From, .l zca.pc a0.Mail.Envelope.To, .s a0.Mail.Envelope.Id, .l zga.pc a0.Mail.Message.Fields, .l cU a0.Mail.Message.Body, .bo a0.Pipelined, .l cU a0.Buffer, .i a0.Expected, .bo a0.Whole, .bo a0.Done, .l cI a0.Results])]) (fun j8 hr jump6=> ?_) (fun j8 hr=> ?_)
    ·
     refine il (fn:=Tryz.f78) (args:= [.l cI a0.Results, .fn (.func 52) [] []]) 600000 699999 [] rfl ⟨Tryz.func78,rfl,by kernel_rfl⟩ rfl rfl rfl fun T6 ds6=> ?_
     refine rn tk 9 rfl ?_
     refine wn tk rfl rfl rfl ?_
     refine rn tk 4 rfl ?_
     refine al2 hr (fun s9=> [(0, .l cI a0.Results),(1, .fn (.func 52) [] []),(7, .i ((a0.Results.length:Int))),(8, .i s9)]) (fun s9=> [(699999, .sus g0.w.heap.size ds6),(599999, .sus g0.w.heap.size ds5),(500001, .hold (.ptr 1 0) (T5.getD 1 undef)),(500002, .hold (.ptr 2 0) (T5.getD 2 undef)),(500004, .hold (.i ((a0.Mail.Envelope.To.length:Int))) (T5.getD 4 undef)),(500024, .hold (.bo false) (T5.getD 24 undef)),(2, .cells [.i 0, .i 0]),(1, .cells [.s a0.Name, .s a0.Mail.Envelope.From, .l zca.pc a0.Mail.Envelope.To, .s a0.Mail.Envelope.Id, .l zga.pc a0.Mail.Message.Fields, .l cU a0.Mail.Message.Body, .bo a0.Pipelined, .l cU a0.Buffer, .i a0.Expected, .bo a0.Whole, .bo a0.Done, .l cI a0.Results])]) (.exit 0) (fun b10=> []) (fun b10=> [(699999, .sus g0.w.heap.size ds6),(599999, .sus g0.w.heap.size ds5),(500001, .hold (.ptr 1 0) (T5.getD 1 undef)),(500002, .hold (.ptr 2 0) (T5.getD 2 undef)),(500004, .hold (.i ((a0.Mail.Envelope.To.length:Int))) (T5.getD 4 undef)),(500024, .hold (.bo false) (T5.getD 24 undef)),(2, .cells [.i 0, .i 0]),(1, .cells [.s a0.Name, .s a0.Mail.Envelope.From, .l zca.pc a0.Mail.Envelope.To, .s a0.Mail.Envelope.Id, .l zga.pc a0.Mail.Message.Fields, .l cU a0.Mail.Message.Body, .bo a0.Pipelined, .l cU a0.Buffer, .i a0.Expected, .bo a0.Whole, .bo a0.Done, .l cI a0.Results])]) .ret (fun b11=> [(4, .i b11)]) (fun b11=> [(699999, .sus g0.w.heap.size ds6),(599999, .sus g0.w.heap.size ds5),(500001, .hold (.ptr 1 0) (T5.getD 1 undef)),(500002, .hold (.ptr 2 0) (T5.getD 2 undef)),(500004, .hold (.i ((a0.Mail.Envelope.To.length:Int))) (T5.getD 4 undef)),(500024, .hold (.bo false) (T5.getD 24 undef)),(2, .cells [.i 0, .i 0]),(1, .cells [.s a0.Name, .s a0.Mail.Envelope.From, .l zca.pc a0.Mail.Envelope.To, .s a0.Mail.Envelope.Id, .l zga.pc a0.Mail.Message.Fields, .l cU a0.Mail.Message.Body, .bo a0.Pipelined, .l cU a0.Buffer, .i a0.Expected, .bo a0.Whole, .bo a0.Done, .l cI a0.Results])]) rfl rfl (fun s9 x13 hr=> ?_) (fun b10 hr=> ?_) (fun b11 hr=> ?_)
     ·
      unfold vna at hr
      refine rn tk 6 rfl ?_
      refine ac 9 hr rfl (fun c14 hr=> ?_) (fun c14 hr=> ?_)
      ·
       refine rn tk 15 rfl ?_
       obtain ⟨v15,h16,hr⟩:=zaa hr
       refine wi tk h16 rfl rfl rfl rfl rfl ?_
       refine rn tk 1 rfl ?_
       refine il (fn:=Tryz.f52) (args:= [.i v15]) 800000 899999 [(0, .l cI a0.Results),(1, .fn (.func 52) [] []),(5, .i s9),(7, .i ((a0.Results.length:Int))),(8, .i s9)] rfl ⟨Tryz.func52,rfl,by kernel_rfl⟩ rfl rfl rfl fun T8 ds8=> ?_
       refine rn tk 5 rfl ?_
       refine jb hr (fun j17=> [(2, .bo j17)]) (fun j17=> [(899999, .sus g0.w.heap.size ds8),(800000, .hold (.l cI a0.Results) (T8.getD 0 undef)),(800001, .hold (.fn (.func 52) [] []) (T8.getD 1 undef)),(800007, .hold (.i ((a0.Results.length:Int))) (T8.getD 7 undef)),(800008, .hold (.i s9) (T8.getD 8 undef)),(800005, .hold (.i s9) (T8.getD 5 undef)),(699999, .sus g0.w.heap.size ds6),(599999, .sus g0.w.heap.size ds5),(500001, .hold (.ptr 1 0) (T5.getD 1 undef)),(500002, .hold (.ptr 2 0) (T5.getD 2 undef)),(500004, .hold (.i ((a0.Mail.Envelope.To.length:Int))) (T5.getD 4 undef)),(500024, .hold (.bo false) (T5.getD 24 undef)),(2, .cells [.i 0, .i 0]),(1, .cells [.s a0.Name, .s a0.Mail.Envelope.From, .l zca.pc a0.Mail.Envelope.To, .s a0.Mail.Envelope.Id, .l zga.pc a0.Mail.Message.Fields, .l cU a0.Mail.Message.Body, .bo a0.Pipelined, .l cU a0.Buffer, .i a0.Expected, .bo a0.Whole, .bo a0.Done, .l cI a0.Results])]) (fun j17 hr=> ?_) (fun j17 hr=> ?_)
       ·
        refine rn tk 4 rfl ?_
        refine bs 5 hr rfl (fun c18 hr=> ?_) (fun c18 hr=> ?_)
        ·
         refine rn tk 5 rfl ?_
         cases hr
         exact jn _ rfl rfl rfl
        ·
         refine rn tk 5 rfl ?_
         cases hr
         exact jn _ rfl rfl rfl
       ·
        refine rn tk 1 rfl ?_
        refine ie tk [.bo j17] [(0, .l cI a0.Results),(1, .fn (.func 52) [] []),(5, .i s9),(7, .i ((a0.Results.length:Int))),(8, .i s9)] [(699999, .sus g0.w.heap.size ds6),(599999, .sus g0.w.heap.size ds5),(500001, .hold (.ptr 1 0) (T5.getD 1 undef)),(500002, .hold (.ptr 2 0) (T5.getD 2 undef)),(500004, .hold (.i ((a0.Mail.Envelope.To.length:Int))) (T5.getD 4 undef)),(500024, .hold (.bo false) (T5.getD 24 undef)),(2, .cells [.i 0, .i 0]),(1, .cells [.s a0.Name, .s a0.Mail.Envelope.From, .l zca.pc a0.Mail.Envelope.To, .s a0.Mail.Envelope.Id, .l zga.pc a0.Mail.Message.Fields, .l cU a0.Mail.Message.Body, .bo a0.Pipelined, .l cU a0.Buffer, .i a0.Expected, .bo a0.Whole, .bo a0.Done, .l cI a0.Results])] (.inr rfl) rfl rfl rfl rfl (hO ?_)
        refine rn tk 2 rfl ?_
        refine ac 16 hr rfl (fun c19 hr=> ?_) (fun c19 hr=> ?_)
        ·
         refine rn tk 9 rfl ?_
         cases hr
         exact ato rfl rfl rfl rfl
        ·
         refine rn tk 7 rfl ?_
         cases hr
         exact atc rfl rfl
      ·
       refine rn tk 2 rfl ?_
       cases hr
       exact ato rfl rfl rfl rfl
     ·
      refine rn tk 8 rfl ?_
      refine ie tk [.i ((-1))] [] [(599999, .sus g0.w.heap.size ds5),(500001, .hold (.ptr 1 0) (T5.getD 1 undef)),(500002, .hold (.ptr 2 0) (T5.getD 2 undef)),(500004, .hold (.i ((a0.Mail.Envelope.To.length:Int))) (T5.getD 4 undef)),(500024, .hold (.bo false) (T5.getD 24 undef)),(2, .cells [.i 0, .i 0]),(1, .cells [.s a0.Name, .s a0.Mail.Envelope.From, .l zca.pc a0.Mail.Envelope.To, .s a0.Mail.Envelope.Id, .l zga.pc a0.Mail.Message.Fields, .l cU a0.Mail.Message.Body, .bo a0.Pipelined, .l cU a0.Buffer, .i a0.Expected, .bo a0.Whole, .bo a0.Done, .l cI a0.Results])] (.inr rfl) rfl rfl rfl rfl ?_
      cases hr
      exact jump6 _ _ rfl rfl
     ·
      refine rn tk 2 rfl ?_
      refine ie tk [.i b11] [] [(599999, .sus g0.w.heap.size ds5),(500001, .hold (.ptr 1 0) (T5.getD 1 undef)),(500002, .hold (.ptr 2 0) (T5.getD 2 undef)),(500004, .hold (.i ((a0.Mail.Envelope.To.length:Int))) (T5.getD 4 undef)),(500024, .hold (.bo false) (T5.getD 24 undef)),(2, .cells [.i 0, .i 0]),(1, .cells [.s a0.Name, .s a0.Mail.Envelope.From, .l zca.pc a0.Mail.Envelope.To, .s a0.Mail.Envelope.Id, .l zga.pc a0.Mail.Message.Fields, .l cU a0.Mail.Message.Body, .bo a0.Pipelined, .l cU a0.Buffer, .i a0.Expected, .bo a0.Whole, .bo a0.Done, .l cI a0.Results])] (.inr rfl) rfl rfl rfl rfl ?_
      cases hr
      exact jump6 _ _ rfl rfl
    ·
     refine rn tk 5 rfl ?_
     refine ie tk [.bo (decide (0≤j8))] [(1, .ptr 1 0),(2, .ptr 2 0),(4, .i ((a0.Mail.Envelope.To.length:Int))),(24, .bo false)] [(2, .cells [.i 0, .i 0]),(1, .cells [.s a0.Name, .s a0.Mail.Envelope.From, .l zca.pc a0.Mail.Envelope.To, .s a0.Mail.Envelope.Id, .l zga.pc a0.Mail.Message.Fields, .l cU a0.Mail.Message.Body, .bo a0.Pipelined, .l cU a0.Buffer, .i a0.Expected, .bo a0.Whole, .bo a0.Done, .l cI a0.Results])] (.inr rfl) rfl rfl rfl rfl (hO ?_)
     refine rn tk 2 rfl ?_
     refine bs 30 hr rfl (fun c20 hr=> ?_) (fun c20 hr=> ?_)
     ·
      refine rn tk 28 rfl ?_
      cases hr
      exact jn _ rfl rfl rfl
     ·
      refine rn tk 5 rfl ?_
      refine bs 35 hr rfl (fun c21 hr=> ?_) (fun c21 hr=> ?_)
      ·
       refine rn tk 23 rfl ?_
       cases hr
       exact jn _ rfl rfl rfl
      ·
       refine rn tk 7 rfl ?_
       refine bs 42 hr rfl (fun c22 hr=> ?_) (fun c22 hr=> ?_)
       ·
        refine rn tk 16 rfl ?_
        cases hr
        exact jn _ rfl rfl rfl
       ·
        refine rn tk 2 rfl ?_
        refine ug rfl rfl rfl ?_
        refine wn tk rfl rfl rfl ?_
        refine rn tk 3 rfl ?_
        refine bs 48 hr rfl (fun c23 hr=> ?_) (fun c23 hr=> ?_)
        ·
         refine rn tk 10 rfl ?_
         cases hr
         exact jn _ rfl rfl rfl
        ·
         refine rn tk 4 rfl ?_
         refine bs 52 hr rfl (fun c24 hr=> ?_) (fun c24 hr=> ?_)
         ·
          refine rn tk 1 rfl ?_
          obtain ⟨v25,h26,hr⟩:=zaa hr
          refine ug rfl rfl rfl ?_
          refine cl (Yua _ _ h26) rfl rfl ?_
          refine rn tk 4 rfl ?_
          cases hr
          exact jn _ rfl rfl rfl
         ·
          refine rn tk 6 rfl ?_
          cases hr
          exact jn _ rfl rfl rfl
  ·
   refine ac 57 hr rfl (fun c27 hr=> ?_) (fun c27 hr=> ?_)
   ·
    refine rn tk 2 rfl ?_
    obtain ⟨v28,h29,hr⟩:=zaa hr
    refine cl (zoa _ _ _ h29) rfl rfl ?_
    refine rn tk 5 rfl ?_
    cases hr
    exact kr tk (.inr rfl) rfl rfl
   ·
    refine rn tk 4 rfl ?_
    obtain ⟨v30,h31,hr⟩:=zaa hr
    refine cl (zSa _ h31) rfl rfl ?_
    refine rn tk 4 rfl ?_
    cases hr
    exact kr tk (.inr rfl) rfl rfl
theorem vUa (a0:List Int) (r:List Int) (hr:kza a0=some r):RunO Tryz.prog 31 [.l cI a0] 3 1 (List.map cI r):=by
 unfold kza at hr
 refine rfO (fn:=Tryz.f31) ⟨Tryz.func31,rfl,by kernel_rfl⟩ rfl fun g0 hg=> ?_
 refine rn tk 3 rfl ?_
 refine Qca 1002 (d:=2) 3 1 rfl rfl rfl (hO ?_)
 refine rn tk 6 rfl ?_
 refine jMa (d:=3) (F:=cI) (l:=a0) rfl rfl rfl jpa (fun c1=> hO ?_) (hO ?_)
 ·
  replace hr:=QHa c1 hr
  refine rn tk 6 rfl ?_
  refine Qca 2002 (d:=2) 3 1 rfl rfl rfl (hO ?_)
  refine rn tk 4 rfl ?_
  cases hr
  exact krO tk (.inr rfl) rfl rfl
 ·
  replace hr:=QIa hr
  refine rn tk 7 rfl ?_
  refine wo (ZRa (k:=5) rfl jpa qia) rfl ?_
  refine rn tk 1 rfl ?_
  obtain ⟨v2,h3,hr⟩:=zaa hr
  refine wo (wYa (k:=7) (F:=cI) (xs:=a0) (lim:=17592186044416) 2002 rfl rfl rfl jpa qia rfl rfl (fun _=> rfl) rfl rfl rfl h3) rfl ?_
  refine rn tk 4 rfl ?_
  cases hr
  exact krO tk (.inr rfl) rfl rfl
theorem ZBa (a0:zla) (r:zla × zza) (hr:wha a0=some r):Run Tryz.prog 14 [.agg [.s a0.Name, .s a0.Mail.Envelope.From, .l zca.pc a0.Mail.Envelope.To, .s a0.Mail.Envelope.Id, .l zga.pc a0.Mail.Message.Fields, .l cU a0.Mail.Message.Body, .bo a0.Pipelined, .l cU a0.Buffer, .i a0.Expected, .bo a0.Whole, .bo a0.Done, .l cI a0.Results]] (.tup [.agg [.s r.1.Name, .s r.1.Mail.Envelope.From, .l zca.pc r.1.Mail.Envelope.To, .s r.1.Mail.Envelope.Id, .l zga.pc r.1.Mail.Message.Fields, .l cU r.1.Mail.Message.Body, .bo r.1.Pipelined, .l cU r.1.Buffer, .i r.1.Expected, .bo r.1.Whole, .bo r.1.Done, .l cI r.1.Results], .agg [.i r.2.Code, .i r.2.Index]]):=by
 unfold wha at hr
 refine rf (fn:=Tryz.f14) ⟨Tryz.func14,rfl,by kernel_rfl⟩ rfl (fun _=> rfl) fun g0 hg=> ?_
 refine rn tk 11 rfl ?_
 obtain ⟨v1,h2,hr⟩:=zaa hr
 refine cl (ZAa _ _ h2) rfl rfl ?_
 refine rn tk 7 rfl ?_
 obtain ⟨v3,h4,hr⟩:=zaa hr
 refine cl (z2a _ _ h4) rfl rfl ?_
 refine rn tk 2 rfl ?_
 refine ac 9 hr rfl (fun c5 hr=> ?_) (fun c5 hr=> ?_)
 ·
  refine rn tk 1 rfl ?_
  refine drX 2 3 3 3 [1] [(11, .agg [.i v1.Code, .i v1.Index]),(10, .agg [.s (([]:Str)), .s (([]:Str)), .pv (.sl (some true) []), .s (([]:Str)), .pv (.sl (some true) []), .pv (.sl (some true) []), .bo false, .pv (.sl (some true) []), .i 0, .bo false, .bo false, .pv (.sl (some true) [])])] [(2, .ptr 2 0),(3, .ptr 3 0),(11, .agg [.i v1.Code, .i v1.Index])] [(4, .cells [.i v1.Code, .i v1.Index]),(3, .cells [.i 0, .i 0]),(2, .cells [.s (([]:Str)), .s (([]:Str)), .pv (.sl (some true) []), .s (([]:Str)), .pv (.sl (some true) []), .pv (.sl (some true) []), .bo false, .pv (.sl (some true) []), .i 0, .bo false, .bo false, .pv (.sl (some true) [])]),(1, .cells [.s a0.Name, .s a0.Mail.Envelope.From, .l zca.pc a0.Mail.Envelope.To, .s a0.Mail.Envelope.Id, .l zga.pc a0.Mail.Message.Fields, .l cU a0.Mail.Message.Body, .bo a0.Pipelined, .l cU a0.Buffer, .i a0.Expected, .bo a0.Whole, .bo a0.Done, .l cI a0.Results])] tk mixed (by kernel_rfl) rfl rfl rfl (pqX tk rfl (.plain rfl) (pqX tk rfl (.plain rfl) .nil)) rfl rfl rfl rfl (by kernel_rfl) ?_
  refine rn tk 5 rfl ?_
  cases hr
  exact kr tk (.inr rfl) rfl rfl
 ·
  refine rn tk 3 rfl ?_
  obtain ⟨v6,h7,hr⟩:=zaa hr
  obtain ⟨v8,h9,hr⟩:=zaa hr
  refine drX 7 7 1 1 [] [(18, .ptr 1 1),(17, .hs 1017 0),(16, .l cI a0.Results),(15, .ptr 1 11),(14, .agg [.s v6.Envelope.From, .l zca.pc v6.Envelope.To, .s v6.Envelope.Id, .l zga.pc v6.Message.Fields, .l cU v6.Message.Body]),(13, .agg [.s a0.Mail.Envelope.From, .l zca.pc a0.Mail.Envelope.To, .s a0.Mail.Envelope.Id, .l zga.pc a0.Mail.Message.Fields, .l cU a0.Mail.Message.Body]),(12, .ptr 1 1)] [(1, .ptr 1 0),(2, .ptr 2 0),(3, .ptr 3 0),(14, .agg [.s v6.Envelope.From, .l zca.pc v6.Envelope.To, .s v6.Envelope.Id, .l zga.pc v6.Message.Fields, .l cU v6.Message.Body]),(17, .hs 1017 0),(18, .ptr 1 1)] [(1017, .row 3 true 1 (List.map cI v8)),(4, .cells [.i v1.Code, .i v1.Index]),(3, .cells [.i 0, .i 0]),(2, .cells [.s (([]:Str)), .s (([]:Str)), .pv (.sl (some true) []), .s (([]:Str)), .pv (.sl (some true) []), .pv (.sl (some true) []), .bo false, .pv (.sl (some true) []), .i 0, .bo false, .bo false, .pv (.sl (some true) [])]),(1, .cells [.s a0.Name, .s a0.Mail.Envelope.From, .l zca.pc a0.Mail.Envelope.To, .s a0.Mail.Envelope.Id, .l zga.pc a0.Mail.Message.Fields, .l cU a0.Mail.Message.Body, .bo a0.Pipelined, .l cU a0.Buffer, .i a0.Expected, .bo a0.Whole, .bo a0.Done, .l cI a0.Results])] tk mixed (by kernel_rfl) rfl rfl rfl (pqX tk rfl (.plain rfl) (pqX tk rfl (.plain rfl) (.run (.plain rfl) (kda (wSa a0.Mail v6 h7) rfl) (pqX tk rfl (.plain rfl) (pqX tk rfl (.plain rfl) (.new 1017 (.plain rfl) (VUa 1017 (vUa a0.Results v8 h9) rfl) (pqX tk rfl (.plain rfl) .nil))))))) rfl rfl rfl rfl (by kernel_rfl) ?_
  refine rn tk 11 rfl ?_
  refine wo (Kta (k:=23) 90000000 rfl rfl rfl rfl rfl) rfl ?_
  refine rn tk 1 rfl ?_
  refine JSa 1017 90000012 rfl rfl rfl rfl rfl rfl (hO ?_)
  refine zWa 90000015 (o:=90000000) (j:=14) 5 1 rfl rfl rfl rfl (hO ?_)
  refine rn tk 5 rfl ?_
  obtain ⟨v10,h11,hr⟩:=zaa hr
  refine wo (zya (k:=25) (wFa ((zfa.mk ((zla.mk a0.Name v6 a0.Pipelined ([]) a0.Expected a0.Whole a0.Done v8)) ([]) false (([]:List UInt8)))) v10 h11) rfl rfl (YYa rfl rfl (zba rfl (zba rfl zha)))) rfl ?_
  refine rn tk 3 rfl ?_
  obtain ⟨v12,h13,hr⟩:=zaa hr
  refine dr 5 [(30, .agg [.i v12.Code, .i v12.Index]),(29, .agg [.s v10.Client.Name, .s v10.Client.Mail.Envelope.From, .l zca.pc v10.Client.Mail.Envelope.To, .s v10.Client.Mail.Envelope.Id, .l zga.pc v10.Client.Mail.Message.Fields, .l cU v10.Client.Mail.Message.Body, .bo v10.Client.Pipelined, .l cU v10.Client.Buffer, .i v10.Client.Expected, .bo v10.Client.Whole, .bo v10.Client.Done, .hs 90000012 0]),(28, .ptr 90000000 0),(27, .ptr 90000000 0),(26, .ptr 90000000 0)] mixed (by kernel_rfl) rfl rfl (pq tk rfl (.plain rfl) (pq tk rfl (.plain rfl) (pq tk rfl (.plain rfl) (pq tk rfl (.plain rfl) (.run (.plain rfl) (kda (zSa v12 h13) rfl) .nil))))) rfl ?_
  refine rn tk 4 rfl ?_
  refine Zda 90000012 rfl (hC ?_)
  refine Kua (o:=2) (j:=11) (F:=cI) (l:=v10.Client.Results) rfl rfl rfl (hC ?_)
  refine rn tk 1 rfl ?_
  cases hr
  exact kr tk (.inr rfl) rfl rfl
end Go.Proofs.YtjnmamghadpedaaGreatDoor
namespace Go.Proofs.YtjnmamghadpedaaGreatDoor
open Go.RowKit
set_option maxRecDepth 100000
def nums (l:List UInt8):List Int:=l.map fun c=> (c.toNat:Int)
theorem Jva (l:List UInt8):Lib.bytesOf (nums l)=l:=by simp [Lib.bytesOf,nums,Function.comp_def]
theorem Jwa (l:List UInt8):∀x∈nums l,0≤x∧x < 256:=by
 intro x hx
 obtain ⟨c,_,rfl⟩:=List.mem_map.1 hx
 have:=c.toNat_lt
 omega
theorem yCb (l:List UInt8) (i:Nat) (h:i < l.length):(nums l).getD i 0=(l[i].toNat:Int):=by simp [nums,h]
theorem Ywa {g:G} {l:List UInt8} {v:Value} (h:Rel g (.l cU l) v):∃ad cap,v= .slice ad l.length cap∧l.length≤cap∧(l≠ []→∃b off,ad=some ⟨b,off,none⟩∧∀i,i < l.length→g.w.cell? ((⟨b,off,none⟩:Addr).add i)=some (.int .u8 ((nums l).getD i 0))):=by
 cases h with
 | pv h=>
  generalize hE:l.map cU=elems at h
  have hEl:elems.length=l.length:=by rw [←hE];simp
  unfold pL at h
  rw [hE] at h
  cases h with
  | @sl _ _ a cap size b off val hn h0 hc hz ha hu hcell h=>
   refine ⟨a,cap,by rw [hEl],by omega,fun hne=> ⟨b,off,ha (by rw [←hE];simpa using hne),fun i hi=> ?_⟩⟩
   have hget:elems[i]? =some (cU l[i]):=by rw [←hE];simp [hi]
   have hs1:size=1:=by
    have:=hz _ (List.mem_of_getElem? hget)
    simpa [cU] using this.symm
   subst hs1
   rw [wqa,hcell i (by omega),yCb l i hi]
   have:=h i 0 _ (.b (.int .u8 (l[i].toNat:Int))) hget rfl
   simp only [Nat.mul_one,Nat.add_zero] at this
   have e:=kBa (g:=g) (.pv this)
   rw [e]
theorem Kga (a b:List UInt8) (r:Int) (hr:vfa a b=some r):Run Tryz.prog 59 [.l cU a, .l cU b] (.i r):=by
 unfold vfa at hr
 split at hr
 case isFalse=> cases hr
 rename_i hlen
 cases hr
 refine ⟨⟨_,_,⟨Tryz.func59,rfl,by kernel_rfl⟩⟩,fun g vs hw hg ha=> ?_⟩
 obtain ⟨hsz,hrel⟩:=ha
 obtain ⟨l⟩:=vs
 match l,hsz with
 | [x,y],_=>
  have h0:Rel g (.l cU a) x:=hrel 0 _ rfl
  have h1:Rel g (.l cU b) y:=hrel 1 _ rfl
  obtain ⟨ad,cap,rfl,hcap,hcell⟩:=Ywa h0
  obtain ⟨ad2,cap2,rfl,hcap2,hcell2⟩:=Ywa h1
  have hb2:=hlen.2
  obtain ⟨b2,o2,rfl,hc2⟩:=hcell2 (by rintro rfl;simp at hb2)
  refine callsIn_wide.2 ?_
  suffices hs:Calls Tryz.prog 59 #[.slice ad a.length cap, .slice (some ⟨b2,o2,none⟩) b.length cap2] g.w fun e w' => e= .returned (.int .i64 (Lib.index a b))∧∃q,w' =g.w.drewN q by
   refine hs.mono ?_
   rintro e w' ⟨rfl,q,rfl⟩
   exact ⟨⟨g.w.drewN q,g.u,g.loc⟩,_,rfl,rfl,kkb g q,hw,rfl, .pv (.b rfl)⟩
  by_cases hs:a.length < 2
  ·have hi:Lib.index a b= -1:=by
    match a,b,hs,hb2 with
    | [], [p,q],_,_=> rfl
    | [c], [p,q],_,_=> simp [Lib.index]
   rw [hi]
   exact (Tryz.bytes_Index_longer ad (some ⟨b2,o2,none⟩) a.length cap b.length cap2 g.w (by omega) (by omega) (by omega)).mono fun e w' ⟨h1,h2⟩=> ⟨h1,0,h2⟩
  ·obtain ⟨b1,o1,rfl,hc1⟩:=hcell (by rintro rfl;simp at hs)
   obtain ⟨_,_,m,hm⟩:=hg.1 (0,0) (by simp [vSb])
   have:=Tryz.bytes_Index_at ⟨b1,o1,none⟩ ⟨b2,o2,none⟩ a.length cap b.length cap2 (nums a) (nums b) m g.w (by simp [nums]) (by simp [nums]) (Jwa a) (Jwa b) hc1 hc2 hcap hlen.1 (by omega) hm
   rw [Jva,Jva] at this
   exact this
end Go.Proofs.YtjnmamghadpedaaGreatDoor
namespace Go.Proofs.YtjnmamghadpedaaGreatDoor
open Go.RowKit
set_option maxRecDepth 100000
set_option maxHeartbeats 40000000
theorem q5a (a0:Int) (r:Int) (hr:kPa a0=some r):Run Tryz.prog 89 [.i a0] (.i r):=by
 unfold kPa at hr
 refine rf (fn:=Tryz.f89) ⟨Tryz.func89,rfl,by kernel_rfl⟩ rfl (fun _=> rfl) fun g0 hg=> ?_
 refine rn tk 12 rfl ?_
 refine ac 4 hr rfl (fun c1 hr=> ?_) (fun c1 hr=> ?_)
 ·
  refine rn tk 7 rfl ?_
  cases hr
  exact kr tk (.inr rfl) rfl rfl
 ·
  refine rn tk 8 rfl ?_
  cases hr
  exact kr tk (.inr rfl) rfl rfl
theorem wHa (a0:zfa) (r:Bool × zfa) (hr:kra a0=some r):RunS Tryz.prog 91 [.ptr 90000000 0] [(90000000, .cells [.s a0.Client.Name, .s a0.Client.Mail.Envelope.From, .l zca.pc a0.Client.Mail.Envelope.To, .s a0.Client.Mail.Envelope.Id, .l zga.pc a0.Client.Mail.Message.Fields, .l cU a0.Client.Mail.Message.Body, .bo a0.Client.Pipelined, .l cU a0.Client.Buffer, .i a0.Client.Expected, .bo a0.Client.Whole, .bo a0.Client.Done, .hs 90000012 0, .l cU a0.content, .bo a0.chunk, .hs 90000015 0]),(90000012, .row 3 true 1 (List.map cI a0.Client.Results)),(90000015, .row 5 false 1 (List.map cU a0.out))] (.bo r.1) [(90000000, .cells [.s r.2.Client.Name, .s r.2.Client.Mail.Envelope.From, .l zca.pc r.2.Client.Mail.Envelope.To, .s r.2.Client.Mail.Envelope.Id, .l zga.pc r.2.Client.Mail.Message.Fields, .l cU r.2.Client.Mail.Message.Body, .bo r.2.Client.Pipelined, .l cU r.2.Client.Buffer, .i r.2.Client.Expected, .bo r.2.Client.Whole, .bo r.2.Client.Done, .hs 90000012 0, .l cU r.2.content, .bo r.2.chunk, .hs 90000015 0]),(90000012, .row 3 true 1 (List.map cI r.2.Client.Results)),(90000015, .row 5 false 1 (List.map cU r.2.out))] 90000000 [90000012,90000015]:=by
 unfold kra at hr
 refine rfS (fn:=Tryz.f91) (H:=90000999) (.ptr 90000000 0) ⟨Tryz.func91,rfl,by kernel_rfl⟩ rfl (hasT rfl) (.inl ⟨rfl,rfl⟩) rfl rfl rfl rfl fun g0 hg S sg T=> ?_
 refine rn tk 12 rfl ?_
 refine il (fn:=Tryz.f109) (args:= [.hs 90000012 0, .i 0]) 100000 199999 [] rfl ⟨Tryz.func109,rfl,by kernel_rfl⟩ rfl rfl rfl fun T1 ds1=> ?_
 refine rn tk 9 rfl ?_
 refine ct hr (fun j1=> [(7, .i j1)]) (fun j1=> [(199999, .sus g0.w.heap.size ds1),(90000999, .hold (.ptr 90000000 0) (T.getD 0 undef)),(90000000, .cells [.s a0.Client.Name, .s a0.Client.Mail.Envelope.From, .l zca.pc a0.Client.Mail.Envelope.To, .s a0.Client.Mail.Envelope.Id, .l zga.pc a0.Client.Mail.Message.Fields, .l cU a0.Client.Mail.Message.Body, .bo a0.Client.Pipelined, .l cU a0.Client.Buffer, .i a0.Client.Expected, .bo a0.Client.Whole, .bo a0.Client.Done, .hs 90000012 0, .l cU a0.content, .bo a0.chunk, .hs 90000015 0]),(90000012, .row 3 true 1 (List.map cI a0.Client.Results)),(90000015, .row 5 false 1 (List.map cU a0.out))]) (fun j1 hr jump2=> ?_) (fun j1 hr=> ?_)
 ·
  refine il (fn:=Tryz.f124) (args:= [.hs 90000012 0, .i 0]) 200000 299999 [] rfl ⟨Tryz.func124,rfl,by kernel_rfl⟩ rfl rfl rfl fun T2 ds2=> ?_
  refine rn tk 9 rfl ?_
  refine wnh tk rfl rfl rfl rfl ?_
  refine rn tk 4 rfl ?_
  refine al2 hr (fun s2=> [(0, .hs 90000012 0),(1, .i 0),(7, .i ((a0.Client.Results.length:Int))),(8, .i s2)]) (fun s2=> [(299999, .sus g0.w.heap.size ds2),(199999, .sus g0.w.heap.size ds1),(90000999, .hold (.ptr 90000000 0) (T.getD 0 undef)),(90000000, .cells [.s a0.Client.Name, .s a0.Client.Mail.Envelope.From, .l zca.pc a0.Client.Mail.Envelope.To, .s a0.Client.Mail.Envelope.Id, .l zga.pc a0.Client.Mail.Message.Fields, .l cU a0.Client.Mail.Message.Body, .bo a0.Client.Pipelined, .l cU a0.Client.Buffer, .i a0.Client.Expected, .bo a0.Client.Whole, .bo a0.Client.Done, .hs 90000012 0, .l cU a0.content, .bo a0.chunk, .hs 90000015 0]),(90000012, .row 3 true 1 (List.map cI a0.Client.Results)),(90000015, .row 5 false 1 (List.map cU a0.out))]) (.exit 0) (fun b3=> []) (fun b3=> [(299999, .sus g0.w.heap.size ds2),(199999, .sus g0.w.heap.size ds1),(90000999, .hold (.ptr 90000000 0) (T.getD 0 undef)),(90000000, .cells [.s a0.Client.Name, .s a0.Client.Mail.Envelope.From, .l zca.pc a0.Client.Mail.Envelope.To, .s a0.Client.Mail.Envelope.Id, .l zga.pc a0.Client.Mail.Message.Fields, .l cU a0.Client.Mail.Message.Body, .bo a0.Client.Pipelined, .l cU a0.Client.Buffer, .i a0.Client.Expected, .bo a0.Client.Whole, .bo a0.Client.Done, .hs 90000012 0, .l cU a0.content, .bo a0.chunk, .hs 90000015 0]),(90000012, .row 3 true 1 (List.map cI a0.Client.Results)),(90000015, .row 5 false 1 (List.map cU a0.out))]) .ret (fun b4=> [(4, .i b4)]) (fun b4=> [(299999, .sus g0.w.heap.size ds2),(199999, .sus g0.w.heap.size ds1),(90000999, .hold (.ptr 90000000 0) (T.getD 0 undef)),(90000000, .cells [.s a0.Client.Name, .s a0.Client.Mail.Envelope.From, .l zca.pc a0.Client.Mail.Envelope.To, .s a0.Client.Mail.Envelope.Id, .l zga.pc a0.Client.Mail.Message.Fields, .l cU a0.Client.Mail.Message.Body, .bo a0.Client.Pipelined, .l cU a0.Client.Buffer, .i a0.Client.Expected, .bo a0.Client.Whole, .bo a0.Client.Done, .hs 90000012 0, .l cU a0.content, .bo a0.chunk, .hs 90000015 0]),(90000012, .row 3 true 1 (List.map cI a0.Client.Results)),(90000015, .row 5 false 1 (List.map cU a0.out))]) rfl rfl (fun s2 x6 hr=> ?_) (fun b3 hr=> ?_) (fun b4 hr=> ?_)
  ·
   unfold qca at hr
   refine rn tk 6 rfl ?_
   refine ac 9 hr rfl (fun c7 hr=> ?_) (fun c7 hr=> ?_)
   ·
    refine rn tk 15 rfl ?_
    obtain ⟨v8,h9,hr⟩:=zaa hr
    refine wih tk h9 rfl rfl rfl rfl rfl ?_
    obtain ⟨v10,h11,hr⟩:=zaa hr
    refine wq (qzb (F:=cI) (l:=a0.Client.Results) (n:=s2) (j:=0) rfl rfl qia rfl h11 rfl) rfl rfl rfl ?_
    refine rn tk 3 rfl ?_
    refine ac 16 hr rfl (fun c12 hr=> ?_) (fun c12 hr=> ?_)
    ·
     refine rn tk 9 rfl ?_
     cases hr
     exact ato rfl rfl rfl rfl
    ·
     refine rn tk 7 rfl ?_
     cases hr
     exact atc rfl rfl
   ·
    refine rn tk 2 rfl ?_
    cases hr
    exact ato rfl rfl rfl rfl
  ·
   refine rn tk 8 rfl ?_
   refine ie tk [.i ((-1))] [] [(199999, .sus g0.w.heap.size ds1),(90000999, .hold (.ptr 90000000 0) (T.getD 0 undef)),(90000000, .cells [.s a0.Client.Name, .s a0.Client.Mail.Envelope.From, .l zca.pc a0.Client.Mail.Envelope.To, .s a0.Client.Mail.Envelope.Id, .l zga.pc a0.Client.Mail.Message.Fields, .l cU a0.Client.Mail.Message.Body, .bo a0.Client.Pipelined, .l cU a0.Client.Buffer, .i a0.Client.Expected, .bo a0.Client.Whole, .bo a0.Client.Done, .hs 90000012 0, .l cU a0.content, .bo a0.chunk, .hs 90000015 0]),(90000012, .row 3 true 1 (List.map cI a0.Client.Results)),(90000015, .row 5 false 1 (List.map cU a0.out))] (.inr rfl) rfl rfl rfl rfl ?_
   cases hr
   exact jump2 _ _ rfl rfl
  ·
   refine rn tk 2 rfl ?_
   refine ie tk [.i b4] [] [(199999, .sus g0.w.heap.size ds1),(90000999, .hold (.ptr 90000000 0) (T.getD 0 undef)),(90000000, .cells [.s a0.Client.Name, .s a0.Client.Mail.Envelope.From, .l zca.pc a0.Client.Mail.Envelope.To, .s a0.Client.Mail.Envelope.Id, .l zga.pc a0.Client.Mail.Message.Fields, .l cU a0.Client.Mail.Message.Body, .bo a0.Client.Pipelined, .l cU a0.Client.Buffer, .i a0.Client.Expected, .bo a0.Client.Whole, .bo a0.Client.Done, .hs 90000012 0, .l cU a0.content, .bo a0.chunk, .hs 90000015 0]),(90000012, .row 3 true 1 (List.map cI a0.Client.Results)),(90000015, .row 5 false 1 (List.map cU a0.out))] (.inr rfl) rfl rfl rfl rfl ?_
   cases hr
   exact jump2 _ _ rfl rfl
 ·
  refine rn tk 5 rfl ?_
  refine ie tk [.bo (decide (0≤j1))] [] [(90000999, .hold (.ptr 90000000 0) (T.getD 0 undef)),(90000000, .cells [.s a0.Client.Name, .s a0.Client.Mail.Envelope.From, .l zca.pc a0.Client.Mail.Envelope.To, .s a0.Client.Mail.Envelope.Id, .l zga.pc a0.Client.Mail.Message.Fields, .l cU a0.Client.Mail.Message.Body, .bo a0.Client.Pipelined, .l cU a0.Client.Buffer, .i a0.Client.Expected, .bo a0.Client.Whole, .bo a0.Client.Done, .hs 90000012 0, .l cU a0.content, .bo a0.chunk, .hs 90000015 0]),(90000012, .row 3 true 1 (List.map cI a0.Client.Results)),(90000015, .row 5 false 1 (List.map cU a0.out))] (.inr rfl) rfl rfl rfl rfl (hO ?_)
  refine rn tk 5 rfl ?_
  cases hr
  exact krS tk (.inr rfl) rfl rfl (zba rfl (zba rfl (zba rfl (zba rfl zha))))
end Go.Proofs.YtjnmamghadpedaaGreatDoor
namespace Go.Proofs.YtjnmamghadpedaaGreatDoor
open Go.RowKit
set_option maxRecDepth 100000
theorem str_argN {g:G} {s:Str} {v:Value} (h:Rel g (.s s) v):v= .string (strB s):=kBa h
theorem pow_tab {g : G} (hg : Gl g) : Lib.TabIs Tryz.prog g.w "internal/strconv.uint64pow10" .u64 Lib.pow10Tab := by
 obtain ⟨t,fz,h⟩:=hg.2.1 (3,(Lib.pow10Tab.map fun z=> Value.int .u64 z).toArray) (by simp [globK])
 have hn : Tryz.prog.globalNamed "internal/strconv.uint64pow10" = some 3 := by kernel_rfl
 unfold Lib.TabIs World.var?
 rw [hn]
 simp only [Option.bind_some]
 simp only at h
 rw [h]
theorem q2b (g:G) (q:Nat) (os:Array Obj):Old (fun _=> False) g ⟨Go.Sort.grow (g.w.drewN q) os,g.u,g.loc⟩:=by
 have hb:∀k,k < g.w.heap.size→(Go.Sort.grow (g.w.drewN q) os).heap[k]? =g.w.heap[k]? :=by
  intro k hk
  show (g.w.heap++os)[k]? =_
  rw [Array.getElem?_append_left hk]
 refine ⟨rfl,rfl,rfl,⟨?_,fun _ _=> Nat.le_refl _,fun k i hk hi=> ?_,fun r hr=> (hb r (kXa hr)).trans hr⟩,fun k hk _=> ⟨hb k hk,rfl⟩⟩
 ·show g.w.heap.size≤(g.w.heap++os).size
  simp
 ·simp only [World.cell?];rw [hb k hk]
end Go.Proofs.YtjnmamghadpedaaGreatDoor
namespace Go.Proofs.YtjnmamghadpedaaGreatDoor
open Go.RowKit
set_option maxRecDepth 100000
theorem ZCa (n:Int) (r:Str) (hr:k5a n=some r):Run Tryz.prog 149 [.i n] (.s r):=by
 unfold k5a at hr
 split at hr
 case isFalse=> cases hr
 rename_i hlen
 cases hr
 refine ⟨⟨_,_,⟨Tryz.func149,rfl,by kernel_rfl⟩⟩,fun g vs hw hg ha=> ?_⟩
 obtain ⟨hsz,hrel⟩:=ha
 obtain ⟨l⟩:=vs
 match l,hsz with
 | [x],_=>
  have e2:x= .int .i64 n:=kBa (hrel 0 _ rfl)
  subst e2
  refine callsIn_wide.2 ((Tryz.strconv_Itoa n hlen.1 hlen.2 g.w (pow_tab hg)).mono ?_)
  rintro e w' ⟨rfl,q,os,rfl⟩
  exact ⟨⟨Go.Sort.grow (g.w.drewN q) os,g.u,g.loc⟩,_,rfl,rfl,q2b g q os,fun k hk=> hw k (Nat.le_trans (q2b g q os).ext.size hk),rfl, .pv (.b rfl)⟩
end Go.Proofs.YtjnmamghadpedaaGreatDoor
namespace Go.Proofs.YtjnmamghadpedaaGreatDoor
open Go.RowKit
set_option maxRecDepth 100000
set_option maxHeartbeats 40000000
theorem Wla (a0:zta) (r:zta) (hr:w6a a0=some r):Run Tryz.prog 163 [.agg [.i a0.Verb, .s a0.Name, .s a0.Address, .i a0.Size, .i a0.Notify, .bo a0.Last]] (.agg [.i r.Verb, .s r.Name, .s r.Address, .i r.Size, .i r.Notify, .bo r.Last]):=by
 unfold w6a at hr
 refine rf (fn:=Tryz.f163) ⟨Tryz.func163,rfl,by kernel_rfl⟩ rfl (fun _=> rfl) fun g0 hg=> ?_
 refine rn tk 15 rfl ?_
 refine jb hr (fun j1=> [(2, .ptr 2 0),(3, .ptr 3 0)]) (fun j1=> [(3, .cells [.i a0.Verb, .s j1.1, .s j1.2.1, .i j1.2.2.1, .i j1.2.2.2.1, .bo j1.2.2.2.2]),(2, .cells [.i 0, .s (([]:Str)), .s (([]:Str)), .i 0, .i 0, .bo false])]) (fun j1 hr=> ?_) (fun j1 hr=> ?_)
 ·
  refine rn tk 13 rfl ?_
  refine ac 9 hr rfl (fun c2 hr=> ?_) (fun c2 hr=> ?_)
  ·
   refine rn tk 7 rfl ?_
   cases hr
   exact jn _ rfl rfl rfl
  ·
   refine rn tk 6 rfl ?_
   refine ac 14 hr rfl (fun c3 hr=> ?_) (fun c3 hr=> ?_)
   ·
    refine drX 5 6 4 8 [2,3] [(20, .ptr 3 2),(19, .i a0.Size),(18, .ptr 1 3),(17, .s a0.Address),(16, .ptr 1 2)] [(2, .ptr 2 0),(3, .ptr 3 0),(19, .i a0.Size)] [(3, .cells [.i a0.Verb, .s (([]:Str)), .s a0.Address, .i 0, .i 0, .bo false]),(2, .cells [.i 0, .s (([]:Str)), .s (([]:Str)), .i 0, .i 0, .bo false]),(1, .cells [.i a0.Verb, .s a0.Name, .s a0.Address, .i a0.Size, .i a0.Notify, .bo a0.Last])] tk mixed (by kernel_rfl) rfl rfl rfl (pqX tk rfl (.plain rfl) (pqX tk rfl (.plain rfl) (pqX tk rfl (.plain rfl) (pqX tk rfl (.plain rfl) (pqX tk rfl (.plain rfl) .nil))))) rfl rfl rfl rfl (by kernel_rfl) ?_
    refine rn tk 4 rfl ?_
    cases hr
    exact jn _ rfl rfl rfl
   ·
    refine rn tk 6 rfl ?_
    refine ac 22 hr rfl (fun c4 hr=> ?_) (fun c4 hr=> ?_)
    ·
     refine drX 5 6 4 8 [2,3] [(28, .ptr 3 2),(27, .i a0.Notify),(26, .ptr 1 4),(25, .s a0.Address),(24, .ptr 1 2)] [(2, .ptr 2 0),(3, .ptr 3 0),(27, .i a0.Notify)] [(3, .cells [.i a0.Verb, .s (([]:Str)), .s a0.Address, .i 0, .i 0, .bo false]),(2, .cells [.i 0, .s (([]:Str)), .s (([]:Str)), .i 0, .i 0, .bo false]),(1, .cells [.i a0.Verb, .s a0.Name, .s a0.Address, .i a0.Size, .i a0.Notify, .bo a0.Last])] tk mixed (by kernel_rfl) rfl rfl rfl (pqX tk rfl (.plain rfl) (pqX tk rfl (.plain rfl) (pqX tk rfl (.plain rfl) (pqX tk rfl (.plain rfl) (pqX tk rfl (.plain rfl) .nil))))) rfl rfl rfl rfl (by kernel_rfl) ?_
     refine rn tk 4 rfl ?_
     cases hr
     exact jn _ rfl rfl rfl
    ·
     refine rn tk 6 rfl ?_
     refine ac 30 hr rfl (fun c5 hr=> ?_) (fun c5 hr=> ?_)
     ·
      refine drX 5 6 4 8 [2,3] [(36, .ptr 3 3),(35, .bo a0.Last),(34, .ptr 1 5),(33, .i a0.Size),(32, .ptr 1 3)] [(2, .ptr 2 0),(3, .ptr 3 0),(35, .bo a0.Last)] [(3, .cells [.i a0.Verb, .s (([]:Str)), .s (([]:Str)), .i a0.Size, .i 0, .bo false]),(2, .cells [.i 0, .s (([]:Str)), .s (([]:Str)), .i 0, .i 0, .bo false]),(1, .cells [.i a0.Verb, .s a0.Name, .s a0.Address, .i a0.Size, .i a0.Notify, .bo a0.Last])] tk mixed (by kernel_rfl) rfl rfl rfl (pqX tk rfl (.plain rfl) (pqX tk rfl (.plain rfl) (pqX tk rfl (.plain rfl) (pqX tk rfl (.plain rfl) (pqX tk rfl (.plain rfl) .nil))))) rfl rfl rfl rfl (by kernel_rfl) ?_
      refine rn tk 4 rfl ?_
      cases hr
      exact jn _ rfl rfl rfl
     ·
      refine rn tk 2 rfl ?_
      cases hr
      exact jn _ rfl rfl rfl
 ·
  refine rn tk 7 rfl ?_
  cases hr
  exact kr tk (.inr rfl) rfl rfl
theorem KWa (a0:zta) (r:zza) (hr:qVa a0=some r):Run Tryz.prog 147 [.agg [.i a0.Verb, .s a0.Name, .s a0.Address, .i a0.Size, .i a0.Notify, .bo a0.Last]] (.agg [.i r.Code, .i r.Index]):=by
 unfold qVa at hr
 refine rf (fn:=Tryz.f147) ⟨Tryz.func147,rfl,by kernel_rfl⟩ rfl (fun _=> rfl) fun g0 hg=> ?_
 refine rn tk 6 rfl ?_
 refine jb hr (fun j1=> [(1, .ptr 1 0),(2, .ptr 2 0),(3, .bo j1)]) (fun j1=> [(2, .cells [.i 0, .i 0]),(1, .cells [.i a0.Verb, .s a0.Name, .s a0.Address, .i a0.Size, .i a0.Notify, .bo a0.Last])]) (fun j1 hr=> ?_) (fun j1 hr=> ?_)
 ·
  refine rn tk 5 rfl ?_
  refine bs 7 hr rfl (fun c2 hr=> ?_) (fun c2 hr=> ?_)
  ·
   refine rn tk 11 rfl ?_
   cases hr
   exact jn _ rfl rfl rfl
  ·
   refine rn tk 4 rfl ?_
   refine bs 11 hr rfl (fun c3 hr=> ?_) (fun c3 hr=> ?_)
   ·
    refine rn tk 7 rfl ?_
    cases hr
    exact jn _ rfl rfl rfl
   ·
    refine rn tk 7 rfl ?_
    cases hr
    exact jn _ rfl rfl rfl
 ·
  refine rn tk 2 rfl ?_
  refine jb hr (fun j4=> [(1, .ptr 1 0),(2, .ptr 2 0),(3, .bo j1),(17, .bo j4)]) (fun j4=> [(2, .cells [.i 0, .i 0]),(1, .cells [.i a0.Verb, .s a0.Name, .s a0.Address, .i a0.Size, .i a0.Notify, .bo a0.Last])]) (fun j4 hr=> ?_) (fun j4 hr=> ?_)
  ·
   refine rn tk 5 rfl ?_
   refine bs 21 hr rfl (fun c5 hr=> ?_) (fun c5 hr=> ?_)
   ·
    refine rn tk 6 rfl ?_
    cases hr
    exact jn _ rfl rfl rfl
   ·
    refine rn tk 6 rfl ?_
    cases hr
    exact jn _ rfl rfl rfl
  ·
   refine ac 17 hr rfl (fun c6 hr=> ?_) (fun c6 hr=> ?_)
   ·
    refine rn tk 2 rfl ?_
    obtain ⟨v7,h8,hr⟩:=zaa hr
    refine cl (zoa _ _ _ h8) rfl rfl ?_
    refine rn tk 6 rfl ?_
    cases hr
    exact kr tk (.inr rfl) rfl rfl
   ·
    refine rn tk 1 rfl ?_
    obtain ⟨v9,h10,hr⟩:=zaa hr
    refine dr 3 [(30, .agg [.i v9.Verb, .s v9.Name, .s v9.Address, .i v9.Size, .i v9.Notify, .bo v9.Last]),(29, .agg [.i a0.Verb, .s a0.Name, .s a0.Address, .i a0.Size, .i a0.Notify, .bo a0.Last]),(28, .agg [.i a0.Verb, .s a0.Name, .s a0.Address, .i a0.Size, .i a0.Notify, .bo a0.Last])] mixed (by kernel_rfl) rfl rfl (pq tk rfl (.plain rfl) (pq tk rfl (.plain rfl) (.run (.plain rfl) (kda (Wla a0 v9 h10) rfl) .nil))) rfl ?_
    refine wq (Zba rfl rfl K1a WRa (.int rfl (by decide) qia (.str rfl (by decide) zDa (.str rfl (by decide) zDa (.int rfl (by decide) qia (.int rfl (by decide) qia (.bool rfl (by decide) kYb .nil))))))) rfl rfl rfl ?_
    refine rn tk 3 rfl ?_
    refine ac 27 hr rfl (fun c11 hr=> ?_) (fun c11 hr=> ?_)
    ·
     refine rn tk 2 rfl ?_
     obtain ⟨v12,h13,hr⟩:=zaa hr
     refine cl (zoa _ _ _ h13) rfl rfl ?_
     refine rn tk 6 rfl ?_
     cases hr
     exact kr tk (.inr rfl) rfl rfl
    ·
     refine jb hr (fun j14=> [(1, .ptr 1 0),(2, .ptr 2 0),(3, .bo j1),(33, .bo j14)]) (fun j14=> [(2, .cells [.i 0, .i 0]),(1, .cells [.i a0.Verb, .s a0.Name, .s a0.Address, .i a0.Size, .i a0.Notify, .bo a0.Last])]) (fun j14 hr=> ?_) (fun j14 hr=> ?_)
     ·
      refine rn tk 5 rfl ?_
      refine bs 37 hr rfl (fun c15 hr=> ?_) (fun c15 hr=> ?_)
      ·
       refine rn tk 2 rfl ?_
       obtain ⟨v16,h17,hr⟩:=zaa hr
       refine ug rfl rfl rfl ?_
       refine cl (jFa _ _ h17) rfl rfl ?_
       refine rn tk 4 rfl ?_
       cases hr
       exact jn _ rfl rfl rfl
      ·
       refine rn tk 7 rfl ?_
       cases hr
       exact jn _ rfl rfl rfl
     ·
      refine ac 33 hr rfl (fun c18 hr=> ?_) (fun c18 hr=> ?_)
      ·
       refine rn tk 2 rfl ?_
       obtain ⟨v19,h20,hr⟩:=zaa hr
       refine cl (zoa _ _ _ h20) rfl rfl ?_
       refine rn tk 6 rfl ?_
       cases hr
       exact kr tk (.inr rfl) rfl rfl
      ·
       refine jb hr (fun j21=> [(1, .ptr 1 0),(2, .ptr 2 0),(44, .bo j21)]) (fun j21=> [(2, .cells [.i 0, .i 0]),(1, .cells [.i a0.Verb, .s a0.Name, .s a0.Address, .i a0.Size, .i a0.Notify, .bo a0.Last])]) (fun j21 hr=> ?_) (fun j21 hr=> ?_)
       ·
        refine rn tk 3 rfl ?_
        refine bs 46 hr rfl (fun c22 hr=> ?_) (fun c22 hr=> ?_)
        ·
         refine rn tk 2 rfl ?_
         obtain ⟨v23,h24,hr⟩:=zaa hr
         refine ug rfl rfl rfl ?_
         refine cl (vHa _ _ h24) rfl rfl ?_
         refine rn tk 4 rfl ?_
         cases hr
         exact jn _ rfl rfl rfl
        ·
         refine rn tk 7 rfl ?_
         cases hr
         exact jn _ rfl rfl rfl
       ·
        refine ac 44 hr rfl (fun c25 hr=> ?_) (fun c25 hr=> ?_)
        ·
         refine rn tk 2 rfl ?_
         obtain ⟨v26,h27,hr⟩:=zaa hr
         refine cl (zoa _ _ _ h27) rfl rfl ?_
         refine rn tk 6 rfl ?_
         cases hr
         exact kr tk (.inr rfl) rfl rfl
        ·
         refine jb hr (fun j28=> [(1, .ptr 1 0),(2, .ptr 2 0),(53, .bo j28)]) (fun j28=> [(2, .cells [.i 0, .i 0]),(1, .cells [.i a0.Verb, .s a0.Name, .s a0.Address, .i a0.Size, .i a0.Notify, .bo a0.Last])]) (fun j28 hr=> ?_) (fun j28 hr=> ?_)
         ·
          refine rn tk 5 rfl ?_
          refine bs 57 hr rfl (fun c29 hr=> ?_) (fun c29 hr=> ?_)
          ·
           refine rn tk 6 rfl ?_
           cases hr
           exact jn _ rfl rfl rfl
          ·
           refine rn tk 6 rfl ?_
           cases hr
           exact jn _ rfl rfl rfl
         ·
          refine ac 53 hr rfl (fun c30 hr=> ?_) (fun c30 hr=> ?_)
          ·
           refine rn tk 2 rfl ?_
           obtain ⟨v31,h32,hr⟩:=zaa hr
           refine cl (zoa _ _ _ h32) rfl rfl ?_
           refine rn tk 6 rfl ?_
           cases hr
           exact kr tk (.inr rfl) rfl rfl
          ·
           refine rn tk 4 rfl ?_
           obtain ⟨v33,h34,hr⟩:=zaa hr
           refine cl (jca _ _ h34) rfl rfl ?_
           refine rn tk 4 rfl ?_
           refine ac 63 hr rfl (fun c35 hr=> ?_) (fun c35 hr=> ?_)
           ·
            refine rn tk 2 rfl ?_
            obtain ⟨v36,h37,hr⟩:=zaa hr
            refine cl (zoa _ _ _ h37) rfl rfl ?_
            refine rn tk 6 rfl ?_
            cases hr
            exact kr tk (.inr rfl) rfl rfl
           ·
            refine rn tk 5 rfl ?_
            obtain ⟨v38,h39,hr⟩:=zaa hr
            refine cl (zSa _ h39) rfl rfl ?_
            refine rn tk 4 rfl ?_
            cases hr
            exact kr tk (.inr rfl) rfl rfl
end Go.Proofs.YtjnmamghadpedaaGreatDoor
namespace Go.Proofs.YtjnmamghadpedaaGreatDoor
open Go.RowKit
set_option maxRecDepth 100000
theorem yDb {g:G} {w' :World} (h:Below g.w.heap.size g.w w'):Old (fun _=> False) g ⟨w',g.u,g.loc⟩:=
 ⟨h.os,h.tape,h.output,⟨h.size,fun _ _=> Nat.le_refl _,fun k i hk _=> by simp only [World.cell?];rw [h.block k hk],fun r hr=> (h.block r (kXa hr)).trans hr⟩,fun k hk _=> ⟨h.block k hk,rfl⟩⟩
theorem str_argJ {g:G} {s:Str} {v:Value} (h:Rel g (.s s) v):v= .string (strB s):=kBa h
theorem yEb {g:G} {l:List Str} {v:Value} (h:Rel g (.l cS l) v):∃ad cap,v= .slice ad l.length cap∧l.length≤cap∧(l≠ []→∃b off,ad=some ⟨b,off,none⟩∧b < g.w.heap.size∧∀(i:Nat) s,l[i]? =some s→g.w.cell? ⟨b,off+i,none⟩=some (.string (strB s))):=by
 cases h with
 | pv h=>
  generalize hE:l.map cS=elems at h
  have hEl:elems.length=l.length:=by rw [←hE];simp
  unfold pL at h
  rw [hE] at h
  cases h with
  | @sl _ _ a cap size b off val hn h0 hc hz ha hu hcell h=>
   refine ⟨a,cap,by rw [hEl],by omega,fun hne=> ?_⟩
   have hne' :elems≠ []:=by rw [←hE];simpa using hne
   refine ⟨b,off,ha hne',(hu hne').2,fun i s hi=> ?_⟩
   have hget:elems[i]? =some (cS s):=by rw [←hE];simp [hi]
   have hs1:size=1:=by
    have:=hz _ (List.mem_of_getElem? hget)
    simpa [cS] using this.symm
   subst hs1
   have hlt:i < elems.length:=(List.getElem?_eq_some_iff.1 hget).1
   rw [hcell i (by omega)]
   have:=h i 0 _ (.b (.string (strB s))) hget rfl
   simp only [Nat.mul_one,Nat.add_zero] at this
   have e:=kBa (g:=g) (.pv this)
   rw [e]
theorem Wma (l:List Str) (s:Str) (r:Str) (hr:vma l s=some r):Run Tryz.prog 166 [.l cS l, .s s] (.s r):=by
 unfold vma at hr
 split at hr
 case isFalse=> cases hr
 rename_i hlen
 cases hr
 refine ⟨⟨_,_,⟨Tryz.func166,rfl,by kernel_rfl⟩⟩,fun g vs hw hg ha=> ?_⟩
 obtain ⟨hsz,hrel⟩:=ha
 obtain ⟨vl⟩:=vs
 match vl,hsz with
 | [x,y],_=>
  have h0:Rel g (.l cS l) x:=hrel 0 _ rfl
  obtain rfl:=str_argJ (hrel 1 _ rfl)
  obtain ⟨ad,cap,rfl,hcap,hcell⟩:=yEb h0
  refine callsIn_wide.2 ?_
  suffices hs:Calls Tryz.prog 166 #[.slice ad l.length cap, .string (strB s)] g.w fun e w' => e= .returned (.string (strB (Lib.join l s)))∧Below g.w.heap.size g.w w' by
   refine hs.mono ?_
   rintro e w' ⟨rfl,hb⟩
   exact ⟨⟨w',g.u,g.loc⟩,_,rfl,rfl,yDb hb,fun k hk=> hw k (Nat.le_trans hb.size hk),rfl, .pv (.b rfl)⟩
  cases l with
  | nil=> exact (Tryz.strings_Join_none ad cap (strB s) g.w).mono fun e w' ⟨he,hw⟩=> ⟨he,hw▸Below.refl _ _⟩
  | cons a l=>
   obtain ⟨b,off,rfl,hb,hc⟩:=hcell (by simp)
   have e1:((a::l).map strB).map (·.data.toList)=a::l:=by
    rw [List.map_map]
    conv=> rhs;rw [←List.map_id (a::l)]
    exact List.map_congr_left fun x _=> rfl
   have:=Tryz.strings_Join b off cap ((a::l).map strB) (strB s) g.w (fun j x hx=> by
    simp only [List.getElem?_map,Option.map_eq_some_iff] at hx
    obtain ⟨y,hy,rfl⟩:=hx
    exact hc j y hy) hb (by rw [List.length_map];exact hlen.1) (by rw [List.length_map];exact hcap) (by rw [e1];exact hlen.2)
   rw [e1,List.length_map] at this
   exact this
end Go.Proofs.YtjnmamghadpedaaGreatDoor
namespace Go.Proofs.YtjnmamghadpedaaGreatDoor
open Go.RowKit
set_option maxRecDepth 100000
set_option maxHeartbeats 40000000
theorem ZLa (r:zna × zna × zna) (hr:q4a=some r):Run Tryz.prog 165 [] (.agg [.i r.1.n, .s r.1.word, .i r.2.1.n, .s r.2.1.word, .i r.2.2.n, .s r.2.2.word]):=by
 unfold q4a at hr
 refine rf (fn:=Tryz.f165) ⟨Tryz.func165,rfl,by kernel_rfl⟩ rfl (fun _=> rfl) fun g0 hg=> ?_
 refine rn tk 10 rfl ?_
 refine wq (zCb (cs:= [.i 1, .s (([102,97,105,108,117,114,101]:Str)), .i 2, .s (([100,101,108,97,121]:Str)), .i 4, .s (([115,117,99,99,101,115,115]:Str))]) qKa vFa (.inr ⟨rfl,rfl⟩) (by kernel_rfl)) rfl rfl rfl ?_
 refine rn tk 4 rfl ?_
 cases hr
 exact kr tk (.inr rfl) rfl rfl
theorem Vda (a0:Int) (r:Str) (hr:vQa a0=some r):Run Tryz.prog 150 [.i a0] (.s r):=by
 unfold vQa at hr
 refine rf (fn:=Tryz.f150) ⟨Tryz.func150,rfl,by kernel_rfl⟩ rfl (fun _=> rfl) fun g0 hg=> ?_
 refine rn tk 8 rfl ?_
 refine ksa 1003 (d:=3) 9 1 rfl rfl rfl (hO ?_)
 refine rn tk 5 rfl ?_
 obtain ⟨v1,h2,hr⟩:=zaa hr
 refine cl (ZLa _ h2) rfl rfl ?_
 refine rn tk 4 rfl ?_
 refine al1 hr (fun s3=> [(0, .i a0),(3, .hs 1003 0),(6, .agg [.i v1.1.n, .s v1.1.word, .i v1.2.1.n, .s v1.2.1.word, .i v1.2.2.n, .s v1.2.2.word]),(7, .i s3.1)]) (fun s3=> [(1003, .row 9 false 1 (List.map cS s3.2))]) (.exit 0) (fun b4=> [(3, .hs 1003 0)]) (fun b4=> [(1003, .row 9 false 1 (List.map cS b4))]) rfl rfl (fun s3 x5 hr=> ?_) (fun b4 hr=> ?_)
 ·
  unfold wOa at hr
  refine rn tk 6 rfl ?_
  refine ac 8 hr rfl (fun c6 hr=> ?_) (fun c6 hr=> ?_)
  ·
   refine rn tk 2 rfl ?_
   refine jb hr (fun j7=> [(0, .i a0),(3, .hs 1003 0),(6, .agg [.i v1.1.n, .s v1.1.word, .i v1.2.1.n, .s v1.2.1.word, .i v1.2.2.n, .s v1.2.2.word]),(7, .i s3.1)]) (fun j7=> [(1003, .row 9 false 1 (List.map cS j7))]) (fun j7 hr=> ?_) (fun j7 hr=> ?_)
   ·
    refine rn tk 3 rfl ?_
    obtain ⟨v8,h9,hr⟩:=zaa hr
    refine wq (ev_aidxN (f:=zna.pc) (L:=([v1.1,v1.2.1,v1.2.2]:List zna)) rfl rfl qKa vFa rfl rfl (fun _=> rfl) h9) rfl rfl rfl ?_
    refine rn tk 9 rfl ?_
    refine wq (ev_iand rfl rfl) rfl rfl rfl ?_
    refine rn tk 3 rfl ?_
    refine ac 14 hr rfl (fun c10 hr=> ?_) (fun c10 hr=> ?_)
    ·
     refine rn tk 4 rfl ?_
     refine wz cS ([v8.word]:List Str) tk rfl rfl (fun _=> rfl) rfl rfl rfl ?_
     obtain ⟨v11,h12,hr⟩:=zaa hr
     refine wa tk h12 rfl rfl rfl rfl (fun _=> rfl) rfl rfl ?_
     refine rn tk 3 rfl ?_
     cases hr
     exact jn _ rfl rfl rfl
    ·
     refine rn tk 2 rfl ?_
     cases hr
     exact jn _ rfl rfl rfl
   ·
    refine rn tk 4 rfl ?_
    cases hr
    exact atc rfl rfl
  ·
   refine rn tk 2 rfl ?_
   cases hr
   exact ato rfl rfl rfl rfl
 ·
  refine rn tk 6 rfl ?_
  refine wnh tk rfl rfl rfl rfl ?_
  refine rn tk 3 rfl ?_
  refine ac 23 hr rfl (fun c13 hr=> ?_) (fun c13 hr=> ?_)
  ·
   refine rn tk 7 rfl ?_
   cases hr
   exact kr tk (.inr rfl) rfl rfl
  ·
   refine rn tk 5 rfl ?_
   refine j9a (d:=24) (F:=cS) (l:=b4) rfl rfl (hO ?_)
   obtain ⟨v14,h15,hr⟩:=zaa hr
   refine cl (Wma _ _ _ h15) rfl rfl ?_
   refine rn tk 4 rfl ?_
   cases hr
   exact kr tk (.inr rfl) rfl rfl
theorem VKa (r:Str × Str × Str × Str × Str × Str × Str × Str) (hr:yra=some r):Run Tryz.prog 148 [] (.agg [.s r.1, .s r.2.1, .s r.2.2.1, .s r.2.2.2.1, .s r.2.2.2.2.1, .s r.2.2.2.2.2.1, .s r.2.2.2.2.2.2.1, .s r.2.2.2.2.2.2.2]):=by
 unfold yra at hr
 refine rf (fn:=Tryz.f148) ⟨Tryz.func148,rfl,by kernel_rfl⟩ rfl (fun _=> rfl) fun g0 hg=> ?_
 refine rn tk 7 rfl ?_
 refine wq (zCb (cs:= [.s (([104,101,108,108,111]:Str)), .s (([109,97,105,108]:Str)), .s (([114,99,112,116]:Str)), .s (([100,97,116,97]:Str)), .s (([99,104,117,110,107]:Str)), .s (([114,101,115,101,116]:Str)), .s (([110,111,111,112]:Str)), .s (([113,117,105,116]:Str))]) ZWa zDa (.inr ⟨rfl,rfl⟩) (by kernel_rfl)) rfl rfl rfl ?_
 refine rn tk 4 rfl ?_
 cases hr
 exact kr tk (.inr rfl) rfl rfl
theorem VLa (a0:zta) (r:Str × zza) (hr:wAa a0=some r):Run Tryz.prog 123 [.agg [.i a0.Verb, .s a0.Name, .s a0.Address, .i a0.Size, .i a0.Notify, .bo a0.Last]] (.tup [.s r.1, .agg [.i r.2.Code, .i r.2.Index]]):=by
 unfold wAa at hr
 refine rf (fn:=Tryz.f123) ⟨Tryz.func123,rfl,by kernel_rfl⟩ rfl (fun _=> rfl) fun g0 hg=> ?_
 refine rn tk 11 rfl ?_
 obtain ⟨v1,h2,hr⟩:=zaa hr
 refine cl (KWa _ _ h2) rfl rfl ?_
 refine rn tk 7 rfl ?_
 obtain ⟨v3,h4,hr⟩:=zaa hr
 refine cl (z2a _ _ h4) rfl rfl ?_
 refine rn tk 2 rfl ?_
 refine ac 9 hr rfl (fun c5 hr=> ?_) (fun c5 hr=> ?_)
 ·
  refine rn tk 1 rfl ?_
  refine dr 2 [(2, .s (([]:Str))),(10, .agg [.i v1.Code, .i v1.Index])] mixed (by kernel_rfl) rfl rfl (pq tk rfl (.plain rfl) (pq tk rfl (.plain rfl) .nil)) rfl ?_
  refine rn tk 5 rfl ?_
  cases hr
  exact kr tk (.inr rfl) rfl rfl
 ·
  refine rn tk 3 rfl ?_
  obtain ⟨v6,h7,hr⟩:=zaa hr
  refine dr 4 [(14, .i ((w64 (a0.Verb - 1)))),(13, .i a0.Verb),(12, .ptr 1 0),(11, .agg [.s v6.1, .s v6.2.1, .s v6.2.2.1, .s v6.2.2.2.1, .s v6.2.2.2.2.1, .s v6.2.2.2.2.2.1, .s v6.2.2.2.2.2.2.1, .s v6.2.2.2.2.2.2.2])] mixed (by kernel_rfl) rfl rfl (.run (.plain rfl) (kda (VKa v6 h7) rfl) (pq tk rfl (.plain rfl) (pq tk rfl (.plain rfl) (pq tk rfl (.plain rfl) .nil)))) rfl ?_
  obtain ⟨v8,h9,hr⟩:=zaa hr
  refine wq (ev_aidx (f:=cS) (L:=([v6.1,v6.2.1,v6.2.2.1,v6.2.2.2.1,v6.2.2.2.2.1,v6.2.2.2.2.2.1,v6.2.2.2.2.2.2.1,v6.2.2.2.2.2.2.2]:List Str)) rfl rfl ZWa zDa rfl rfl (fun _=> rfl) h9 rfl) rfl rfl rfl ?_
  refine rn tk 3 rfl ?_
  refine jb hr (fun j10=> [(3, .ptr 3 0),(5, .s j10)]) (fun j10=> [(3, .cells [.i 0, .i 0])]) (fun j10 hr=> ?_) (fun j10 hr=> ?_)
  ·
   refine rn tk 13 rfl ?_
   refine ac 18 hr rfl (fun c11 hr=> ?_) (fun c11 hr=> ?_)
   ·
    refine rn tk 4 rfl ?_
    obtain ⟨v12,h13,hr⟩:=zaa hr
    refine wc h13 rfl rfl rfl ?_
    obtain ⟨v14,h15,hr⟩:=zaa hr
    refine wc h15 rfl rfl rfl ?_
    refine rn tk 3 rfl ?_
    cases hr
    exact jn _ rfl rfl rfl
   ·
    refine rn tk 6 rfl ?_
    refine ac 25 hr rfl (fun c16 hr=> ?_) (fun c16 hr=> ?_)
    ·
     refine rn tk 5 rfl ?_
     obtain ⟨v17,h18,hr⟩:=zaa hr
     refine wc h18 rfl rfl rfl ?_
     obtain ⟨v19,h20,hr⟩:=zaa hr
     refine wc h20 rfl rfl rfl ?_
     obtain ⟨v21,h22,hr⟩:=zaa hr
     refine wc h22 rfl rfl rfl ?_
     refine rn tk 10 rfl ?_
     refine ac 35 hr rfl (fun c23 hr=> ?_) (fun c23 hr=> ?_)
     ·
      refine rn tk 4 rfl ?_
      obtain ⟨v24,h25,hr⟩:=zaa hr
      refine cl (ZCa _ _ h25) rfl rfl ?_
      obtain ⟨v26,h27,hr⟩:=zaa hr
      refine wc h27 rfl rfl rfl ?_
      obtain ⟨v28,h29,hr⟩:=zaa hr
      refine wc h29 rfl rfl rfl ?_
      refine rn tk 3 rfl ?_
      cases hr
      exact jn _ rfl rfl rfl
     ·
      refine rn tk 2 rfl ?_
      cases hr
      exact jn _ rfl rfl rfl
    ·
     refine rn tk 6 rfl ?_
     refine ac 42 hr rfl (fun c30 hr=> ?_) (fun c30 hr=> ?_)
     ·
      refine rn tk 5 rfl ?_
      obtain ⟨v31,h32,hr⟩:=zaa hr
      refine wc h32 rfl rfl rfl ?_
      obtain ⟨v33,h34,hr⟩:=zaa hr
      refine wc h34 rfl rfl rfl ?_
      obtain ⟨v35,h36,hr⟩:=zaa hr
      refine wc h36 rfl rfl rfl ?_
      refine rn tk 10 rfl ?_
      refine ac 52 hr rfl (fun c37 hr=> ?_) (fun c37 hr=> ?_)
      ·
       refine rn tk 4 rfl ?_
       obtain ⟨v38,h39,hr⟩:=zaa hr
       refine cl (Vda _ _ h39) rfl rfl ?_
       obtain ⟨v40,h41,hr⟩:=zaa hr
       refine wc h41 rfl rfl rfl ?_
       obtain ⟨v42,h43,hr⟩:=zaa hr
       refine wc h43 rfl rfl rfl ?_
       refine rn tk 3 rfl ?_
       cases hr
       exact jn _ rfl rfl rfl
      ·
       refine rn tk 2 rfl ?_
       cases hr
       exact jn _ rfl rfl rfl
     ·
      refine rn tk 6 rfl ?_
      refine ac 59 hr rfl (fun c44 hr=> ?_) (fun c44 hr=> ?_)
      ·
       refine rn tk 5 rfl ?_
       obtain ⟨v45,h46,hr⟩:=zaa hr
       refine cl (ZCa _ _ h46) rfl rfl ?_
       obtain ⟨v47,h48,hr⟩:=zaa hr
       refine wc h48 rfl rfl rfl ?_
       obtain ⟨v49,h50,hr⟩:=zaa hr
       refine wc h50 rfl rfl rfl ?_
       refine rn tk 9 rfl ?_
       refine ac 68 hr rfl (fun c51 hr=> ?_) (fun c51 hr=> ?_)
       ·
        refine rn tk 2 rfl ?_
        obtain ⟨v52,h53,hr⟩:=zaa hr
        refine wc h53 rfl rfl rfl ?_
        refine rn tk 3 rfl ?_
        cases hr
        exact jn _ rfl rfl rfl
       ·
        refine rn tk 2 rfl ?_
        cases hr
        exact jn _ rfl rfl rfl
      ·
       refine rn tk 2 rfl ?_
       cases hr
       exact jn _ rfl rfl rfl
  ·
   refine rn tk 3 rfl ?_
   obtain ⟨v54,h55,hr⟩:=zaa hr
   refine cl (zSa _ h55) rfl rfl ?_
   refine rn tk 5 rfl ?_
   cases hr
   exact kr tk (.inr rfl) rfl rfl
theorem kfa (a0:zfa) (a1:zta) (r:zfa) (hr:zFa a0 a1=some r):RunS Tryz.prog 107 [.ptr 90000000 0, .agg [.i a1.Verb, .s a1.Name, .s a1.Address, .i a1.Size, .i a1.Notify, .bo a1.Last]] [(90000000, .cells [.s a0.Client.Name, .s a0.Client.Mail.Envelope.From, .l zca.pc a0.Client.Mail.Envelope.To, .s a0.Client.Mail.Envelope.Id, .l zga.pc a0.Client.Mail.Message.Fields, .l cU a0.Client.Mail.Message.Body, .bo a0.Client.Pipelined, .l cU a0.Client.Buffer, .i a0.Client.Expected, .bo a0.Client.Whole, .bo a0.Client.Done, .hs 90000012 0, .l cU a0.content, .bo a0.chunk, .hs 90000015 0]),(90000012, .row 3 true 1 (List.map cI a0.Client.Results)),(90000015, .row 5 false 1 (List.map cU a0.out))] (.tup []) [(90000000, .cells [.s r.Client.Name, .s r.Client.Mail.Envelope.From, .l zca.pc r.Client.Mail.Envelope.To, .s r.Client.Mail.Envelope.Id, .l zga.pc r.Client.Mail.Message.Fields, .l cU r.Client.Mail.Message.Body, .bo r.Client.Pipelined, .l cU r.Client.Buffer, .i r.Client.Expected, .bo r.Client.Whole, .bo r.Client.Done, .hs 90000012 0, .l cU r.content, .bo r.chunk, .hs 90000015 0]),(90000012, .row 3 true 1 (List.map cI r.Client.Results)),(90000015, .row 5 false 1 (List.map cU r.out))] 90000000 [90000012,90000015]:=by
 unfold zFa at hr
 refine rfS (fn:=Tryz.f107) (H:=90000999) (.ptr 90000000 0) ⟨Tryz.func107,rfl,by kernel_rfl⟩ rfl (hasT rfl) (.inl ⟨rfl,rfl⟩) rfl rfl rfl rfl fun g0 hg S sg T=> ?_
 refine rn tk 8 rfl ?_
 obtain ⟨v1,h2,hr⟩:=zaa hr
 refine cl (VLa _ _ h2) rfl rfl ?_
 refine rn tk 15 rfl ?_
 obtain ⟨v3,h4,hr⟩:=zaa hr
 refine wo (vaa (k:=17) (l:=a0.out) (s:=v1.1) (lim:=140737488355328) rfl rfl rfl rfl zka zDa.u zua rfl h4) rfl ?_
 refine wz cU ([(13:UInt8),(10:UInt8)]:List UInt8) tk rfl rfl (fun _=> rfl) rfl rfl rfl ?_
 obtain ⟨v5,h6,hr⟩:=zaa hr
 refine wa tk h6 rfl rfl rfl rfl (fun _=> rfl) rfl rfl ?_
 refine rn tk 4 rfl ?_
 cases hr
 exact krS tk (.inl rfl) rfl rfl (zba rfl (zba rfl (zba rfl (zba rfl zha))))
theorem kua (a0:zfa) (a1:Int) (r:zfa) (hr:zJa a0 a1=some r):RunS Tryz.prog 88 [.ptr 90000000 0, .i a1] [(90000000, .cells [.s a0.Client.Name, .s a0.Client.Mail.Envelope.From, .l zca.pc a0.Client.Mail.Envelope.To, .s a0.Client.Mail.Envelope.Id, .l zga.pc a0.Client.Mail.Message.Fields, .l cU a0.Client.Mail.Message.Body, .bo a0.Client.Pipelined, .l cU a0.Client.Buffer, .i a0.Client.Expected, .bo a0.Client.Whole, .bo a0.Client.Done, .hs 90000012 0, .l cU a0.content, .bo a0.chunk, .hs 90000015 0]),(90000012, .row 3 true 1 (List.map cI a0.Client.Results)),(90000015, .row 5 false 1 (List.map cU a0.out))] (.tup []) [(90000000, .cells [.s r.Client.Name, .s r.Client.Mail.Envelope.From, .l zca.pc r.Client.Mail.Envelope.To, .s r.Client.Mail.Envelope.Id, .l zga.pc r.Client.Mail.Message.Fields, .l cU r.Client.Mail.Message.Body, .bo r.Client.Pipelined, .l cU r.Client.Buffer, .i r.Client.Expected, .bo r.Client.Whole, .bo r.Client.Done, .hs 90000012 0, .l cU r.content, .bo r.chunk, .hs 90000015 0]),(90000012, .row 3 true 1 (List.map cI r.Client.Results)),(90000015, .row 5 false 1 (List.map cU r.out))] 90000000 [90000012,90000015]:=by
 unfold zJa at hr
 refine rfS (fn:=Tryz.f88) (H:=90000999) (.ptr 90000000 0) ⟨Tryz.func88,rfl,by kernel_rfl⟩ rfl (hasT rfl) (.inl ⟨rfl,rfl⟩) rfl rfl rfl rfl fun g0 hg S sg T=> ?_
 refine rn tk 4 rfl ?_
 obtain ⟨v1,h2,hr⟩:=zaa hr
 refine wo (zya (k:=6) (wEa a0 a1 v1 h2) rfl rfl (zba rfl (zba rfl (zba rfl zha)))) rfl ?_
 refine rn tk 6 rfl ?_
 obtain ⟨v3,h4,hr⟩:=zaa hr
 refine wo (zya (k:=9) (kfa v1 ((zta.mk 8 (([]:Str)) (([]:Str)) 0 0 false)) v3 h4) rfl rfl (zba rfl (zba rfl (zba rfl zha)))) rfl ?_
 refine rn tk 9 rfl ?_
 cases hr
 exact krS tk (.inl rfl) rfl rfl (zba rfl (zba rfl (zba rfl (zba rfl zha))))
theorem Qua (a0:List UInt8) (a1:List UInt8) (r:Bool) (hr:k9a a0 a1=some r):Run Tryz.prog 126 [.l cU a0, .l cU a1] (.bo r):=by
 unfold k9a at hr
 refine wKa (fn:=Tryz.f126) ⟨Tryz.func126,rfl,by kernel_rfl⟩ rfl (fun _=> rfl) fun g0 hg=> ?_
 refine zNa ?_
 refine zpa ?_
 refine zia rfl (zja (d:=4) rfl rfl zBa) ?_
 refine zwa ?_
 refine zma ?_
 obtain ⟨j1,hx,hy⟩:=zaa hr
 refine q0a (fun j1=> [(4, .bo j1)]) (fun j1=> []) (fun z=> j1=z) ?_ ?_
 ·have hr:=hx
  clear hx hy
  refine zpa ?_
  refine zia rfl (zja (d:=5) rfl rfl zqa) ?_
  refine zia rfl (zja (d:=6) rfl rfl (vDa (f:=cU) rfl zka.u)) ?_
  refine zia rfl (zja (d:=7) rfl rfl zqa) ?_
  refine zia rfl (zja (d:=8) rfl rfl (vDa (f:=cU) rfl zka.u)) ?_
  refine zia rfl (zja (d:=9) rfl rfl (vVb rfl rfl)) ?_
  refine zia rfl (zja (d:=10) rfl rfl zqa) ?_
  refine qya (decide ((a1.length:Int)≤(a0.length:Int))) (fun c2=> ?_) (fun c2=> ?_)
  ·replace hr:=vAa c2 hr
   refine zEa (d:=10) rfl rfl rfl c2 (zja (d:=11) rfl rfl zqa) ?_
   refine zEa (d:=10) rfl rfl rfl c2 (zja (d:=12) rfl rfl zqa) ?_
   refine zEa (d:=10) rfl rfl rfl c2 (zja (d:=13) rfl rfl (vDa (f:=cU) rfl zka.u)) ?_
   obtain ⟨v3,h4,hr⟩:=zaa hr
   refine zEa (d:=10) rfl rfl rfl c2 (zja (d:=14) rfl rfl (kzb (F:=cU) rfl rfl zka zua (fun _=> rfl) h4)) ?_
   refine zEa (d:=10) rfl rfl rfl c2 (zja (d:=15) rfl rfl zqa) ?_
   obtain ⟨v5,h6,hr⟩:=zaa hr
   refine zEa (d:=10) rfl rfl rfl c2 (wra (k:=16) (Kba v3 a1 v5 h6) rfl rfl) ?_
   refine zia rfl (zja (d:=17) rfl rfl (qPa rfl c2)) ?_
   refine zia rfl (zja (d:=4) rfl rfl zBa) ?_
   refine zwa ?_
   cases hr
   exact zIa _ rfl (zda rfl zva) zha
  ·replace hr:=vBa c2 hr
   refine zGa (d:=10) rfl rfl rfl c2 ?_
   refine zGa (d:=10) rfl rfl rfl c2 ?_
   refine zGa (d:=10) rfl rfl rfl c2 ?_
   refine zGa (d:=10) rfl rfl rfl c2 ?_
   refine zGa (d:=10) rfl rfl rfl c2 ?_
   refine zGa (d:=10) rfl rfl rfl c2 ?_
   refine zia rfl (zja (d:=17) rfl rfl (qxa rfl c2)) ?_
   refine zia rfl (zja (d:=4) rfl rfl zBa) ?_
   refine zwa ?_
   cases hr
   exact zIa _ rfl (zda rfl zva) zha
 ·rintro _ rfl
  have hr:=hy
  clear hx hy
  refine yda ?_
  cases hr
  exact zrb rfl (.cons (wJa rfl) .nil) rfl
theorem Yxa (a0:List UInt8) (r:(List UInt8) × zza) (hr:v4a a0=some r):Run Tryz.prog 110 [.l cU a0] (.tup [.l cU r.1, .agg [.i r.2.Code, .i r.2.Index]]):=by
 unfold v4a at hr
 refine wKa (fn:=Tryz.f110) ⟨Tryz.func110,rfl,by kernel_rfl⟩ rfl (fun _=> rfl) fun g0 hg=> ?_
 refine zNa ?_
 refine zpa ?_
 refine zia rfl (zja (d:=2) rfl rfl zBa) ?_
 refine ksa 1002 (d:=2) 5 1 rfl rfl rfl ?_
 refine zia rfl (Vma (k:=3) 3 rfl kja (.inr ⟨rfl,rfl⟩) rfl rfl rfl) ?_
 refine zwa ?_
 refine zma ?_
 refine zNa ?_
 refine zNa ?_
 refine zpa ?_
 refine zia rfl (zja (d:=6) rfl rfl zqa) ?_
 refine zia rfl (zja (d:=7) rfl rfl (vDa (f:=cU) rfl zka.u)) ?_
 refine zia rfl (zja (d:=8) rfl rfl (Y1a rfl rfl)) ?_
 refine zwa ?_
 refine zma ?_
 refine qZa rfl (fun c1=> ?_) (fun c1=> ?_)
 ·replace hr:=vAa c1 hr
  refine zNa ?_
  refine zpa ?_
  obtain ⟨v2,h3,hr⟩:=zaa hr
  refine zia rfl (wra (k:=9) (zoa 1 ((-1)) v2 h3) rfl rfl) ?_
  refine zia rfl (zja (d:=2) rfl rfl zBa) ?_
  refine ksa 2002 (d:=2) 5 1 rfl rfl rfl ?_
  refine zia rfl (yva rfl rfl rfl kja rfl rfl) ?_
  refine zwa ?_
  refine zma ?_
  refine vba (d:=2) (F:=cU) (l:=(([]:List UInt8))) rfl rfl ?_
  refine yda ?_
  refine WBa ?_
  cases hr
  exact zrb rfl (.cons (wJa rfl) (.cons (QCa rfl rfl kja rfl rfl) .nil)) rfl
 ·replace hr:=vBa c1 hr
  refine vWa ?_
  refine zma ?_
  refine zNa ?_
  obtain ⟨j4,hx,hy⟩:=zaa hr
  refine q0a (fun j4=> [(0, .l cU a0),(3, .ptr 3 0),(19, .bo j4)]) (fun j4=> [(3, .cells [.i 0, .i 0])]) (fun z=> j4=z) ?_ ?_
  ·have hr:=hx
   clear hx hy
   refine zpa ?_
   refine zia rfl (zja (d:=10) rfl rfl zqa) ?_
   refine zia rfl (zja (d:=11) rfl rfl (vDa (f:=cU) rfl zka.u)) ?_
   refine zia rfl (zja (d:=12) rfl rfl (Y1a rfl rfl)) ?_
   refine zia rfl (zja (d:=13) rfl rfl zqa) ?_
   refine qya (decide (0 < (a0.length:Int))) (fun c5=> ?_) (fun c5=> ?_)
   ·replace hr:=vAa c5 hr
    refine zEa (d:=13) rfl rfl rfl c5 (zja (d:=14) rfl rfl zqa) ?_
    refine vda rfl (jna (F:=cU) (l:=([(13:UInt8),(10:UInt8)]:List UInt8)) zka zua rfl (fun _=> rfl) rfl rfl) zka zua (Voa (d:=13) rfl rfl rfl c5) (Voa (d:=13) rfl rfl rfl c5) rfl ?_
    obtain ⟨v6,h7,hr⟩:=zaa hr
    refine zEa (d:=13) rfl rfl rfl c5 (wra (k:=17) (jba a0 (([(13:UInt8),(10:UInt8)]:List UInt8)) v6 h7) rfl rfl) ?_
    refine zEa (d:=13) rfl rfl rfl c5 (zja (d:=18) rfl rfl (vYb rfl)) ?_
    refine zia rfl (zja (d:=19) rfl rfl (qPa rfl c5)) ?_
    refine zwa ?_
    cases hr
    exact zIa _ rfl (zda rfl (zda rfl (zda rfl zva))) (zba rfl zha)
   ·replace hr:=vBa c5 hr
    refine zGa (d:=13) rfl rfl rfl c5 ?_
    refine zGa (d:=13) rfl rfl rfl c5 ?_
    refine zGa (d:=13) rfl rfl rfl c5 ?_
    refine zGa (d:=13) rfl rfl rfl c5 ?_
    refine zGa (d:=13) rfl rfl rfl c5 ?_
    refine zia rfl (zja (d:=19) rfl rfl (qxa rfl c5)) ?_
    refine zwa ?_
    cases hr
    exact zIa _ rfl (zda rfl (zda rfl (zda rfl zva))) (zba rfl zha)
  ·rintro _ rfl
   have hr:=hy
   clear hx hy
   refine qZa rfl (fun c8=> ?_) (fun c8=> ?_)
   ·replace hr:=vAa c8 hr
    refine zNa ?_
    refine zpa ?_
    obtain ⟨v9,h10,hr⟩:=zaa hr
    refine zia rfl (wra (k:=20) (zoa 5 ((-2)) v9 h10) rfl rfl) ?_
    refine zia rfl (zja (d:=2) rfl rfl zBa) ?_
    refine ksa 1002 (d:=2) 5 1 rfl rfl rfl ?_
    refine zia rfl (yva rfl rfl rfl kja rfl rfl) ?_
    refine zwa ?_
    refine zma ?_
    refine vba (d:=2) (F:=cU) (l:=(([]:List UInt8))) rfl rfl ?_
    refine yda ?_
    refine WBa ?_
    cases hr
    exact zrb rfl (.cons (wJa rfl) (.cons (QCa rfl rfl kja rfl rfl) .nil)) rfl
   ·replace hr:=vBa c8 hr
    refine vWa ?_
    refine zma ?_
    refine zNa ?_
    refine zpa ?_
    refine zia rfl (Vma (k:=4) 4 rfl zka (.inl rfl) rfl rfl rfl) ?_
    refine zWa 1004 (o:=4) (j:=0) 5 1 rfl rfl rfl rfl ?_
    refine zwa ?_
    refine zma ?_
    refine zNa ?_
    refine zNa ?_
    refine zpa ?_
    refine zia rfl (zja (d:=21) rfl rfl zqa) ?_
    refine JGa (fn:=Tryz.f125) (args:= [.l cU a0]) 900000 999999 [(3, .ptr 3 0),(4, .ptr 4 0)] (zra rfl) rfl ⟨Tryz.func125,rfl,by kernel_rfl⟩ rfl rfl (.cons rfl (.cons rfl .nil)) fun T9 ds9 hT9=> ?_
    refine zNa ?_
    refine zpa ?_
    refine zia rfl (Kta (k:=1) 1 rfl rfl rfl rfl rfl) ?_
    refine zia rfl (zja (d:=2) rfl rfl zBa) ?_
    refine zwa ?_
    refine zma ?_
    refine zNa ?_
    refine zpa ?_
    refine zia rfl (zja (d:=3) rfl rfl (WIa rfl rfl)) ?_
    refine zia rfl (zja (d:=2) rfl rfl zBa) ?_
    refine zwa ?_
    refine zma ?_
    refine yda ?_
    refine inlK (cs:= [.fn (.func 151) [] [.ptr 1 0]]) (fr'' := [(3, .ptr 3 0),(4, .ptr 4 0)]) (σ'' := [(1, .cells [.l cU a0]),(1004, .row 5 false 1 (List.map cU (([]:List UInt8)))),(4, .cells [.hs 1004 0]),(3, .cells [.i 0, .i 0])]) (.inl rfl) wWa jGa (.cons (wJa rfl) .nil) (.cons rfl (.cons rfl .nil)) rfl (zba rfl (zba rfl (zba rfl (zba rfl zha)))) ?_
    refine zwa ?_
    refine zma ?_
    refine q8a ?_
    refine q7b (fn0:=Tryz.f151) 1000000 1099998 1099999 [(3, .ptr 3 0),(4, .ptr 4 0),(22, .fn (.func 151) [] [.ptr 1 0])] rfl rfl rfl ⟨Tryz.func151,rfl,by kernel_rfl⟩ rfl rfl rfl rfl rfl (.cons rfl (.cons rfl (.cons rfl .nil))) fun T10 b10 L10 ds10 hT10 hLs10 hLp10 hLt10 hLq10 hLa10 hLb10=> ?_
    refine zNa ?_
    refine zpa ?_
    refine zia rfl (zja (d:=3) rfl rfl zBa) ?_
    refine zwa ?_
    refine zma ?_
    refine q8a ?_
    obtain ⟨b12,hl,hr⟩:=zaa hr
    refine Qza (k3a a0) (fun s11=> [(0, .fn (.yield b10) [] []),(1, .ptr 1 0),(3, .i s11.1)]) (fun s11=> [(1099999, .sus g0.w.heap.size ds10),(1099998, .lp b10 L10),(1000003, .hold (.ptr 3 0) (T10.getD 3 undef)),(1000004, .hold (.ptr 4 0) (T10.getD 4 undef)),(1000022, .hold (.fn (.func 151) [] [.ptr 1 0]) (T10.getD 22 undef)),(1, .cells [.l cU a0]),(1004, .row 5 false 1 (List.map cU s11.2)),(4, .cells [.hs 1004 0]),(3, .cells [.i 0, .i 0])]) (fun b12=> At .ret [] [(1099999, .sus g0.w.heap.size ds10),(1099998, .lp b10 L10),(1000003, .hold (.ptr 3 0) (T10.getD 3 undef)),(1000004, .hold (.ptr 4 0) (T10.getD 4 undef)),(1000022, .hold (.fn (.func 151) [] [.ptr 1 0]) (T10.getD 22 undef)),(1, .cells [.l cU a0]),(1004, .row 5 false 1 (List.map cU b12)),(4, .cells [.hs 1004 0]),(3, .cells [.i 0, .i 0])]) ?_ ((0,([]:List UInt8))) hl (zda rfl (zda rfl (zda rfl zva))) (zba rfl (zba rfl (zba rfl (zba rfl (zba rfl (zba rfl (zba rfl (zba rfl (zba rfl zha))))))))) ?_
    ·intro s11 x13 hr
     unfold k3a at hr
     refine q8a ?_
     refine zNa ?_
     refine zpa ?_
     refine zia rfl (zja (d:=5) rfl rfl (yDa rfl rfl zka rfl rfl)) ?_
     refine zia rfl (zja (d:=6) rfl rfl zqa) ?_
     obtain ⟨v14,h15,hr⟩:=zaa hr
     refine zia rfl (zja (d:=7) rfl rfl (WFa (F:=cU) rfl rfl zka zua (fun _=> rfl) h15)) ?_
     refine vda rfl (jna (F:=cU) (l:=([(13:UInt8),(10:UInt8)]:List UInt8)) zka zua rfl (fun _=> rfl) rfl rfl) zka zua (zra rfl) (zra rfl) rfl ?_
     obtain ⟨v16,h17,hr⟩:=zaa hr
     refine zia rfl (wra (k:=10) (Kga v14 (([(13:UInt8),(10:UInt8)]:List UInt8)) v16 h17) rfl rfl) ?_
     refine zia rfl (zja (d:=4) rfl rfl zBa) ?_
     refine zwa ?_
     refine zma ?_
     refine zNa ?_
     obtain ⟨j18,hx,hy⟩:=zaa hr
     refine q0a (fun j18=> [(0, .fn (.yield b10) [] []),(1, .ptr 1 0),(3, .i s11.1),(4, .i v16),(27, .bo j18.1)]) (fun j18=> [(1099999, .sus g0.w.heap.size ds10),(1099998, .lp b10 L10),(1000003, .hold (.ptr 3 0) (T10.getD 3 undef)),(1000004, .hold (.ptr 4 0) (T10.getD 4 undef)),(1000022, .hold (.fn (.func 151) [] [.ptr 1 0]) (T10.getD 22 undef)),(1, .cells [.l cU a0]),(1004, .row 5 false 1 (List.map cU j18.2)),(4, .cells [.hs 1004 0]),(3, .cells [.i 0, .i 0])]) (fun z=> j18=z) ?_ ?_
     ·have hr:=hx
      clear hx hy
      refine zpa ?_
      refine zia rfl (zja (d:=11) rfl rfl zqa) ?_
      refine zia rfl (zja (d:=12) rfl rfl (Y0a rfl rfl)) ?_
      refine zia rfl (zja (d:=13) rfl rfl zqa) ?_
      refine qya (decide (v16 < 0)) (fun c19=> ?_) (fun c19=> ?_)
      ·replace hr:=vAa c19 hr
       refine zGa (d:=13) rfl rfl rfl c19 ?_
       refine zGa (d:=13) rfl rfl rfl c19 ?_
       refine zGa (d:=13) rfl rfl rfl c19 ?_
       refine zGa (d:=13) rfl rfl rfl c19 ?_
       refine zGa (d:=13) rfl rfl rfl c19 ?_
       refine zGa (d:=13) rfl rfl rfl c19 ?_
       refine zGa (d:=13) rfl rfl rfl c19 ?_
       refine zGa (d:=13) rfl rfl rfl c19 ?_
       refine zGa (d:=13) rfl rfl rfl c19 ?_
       refine zGa (d:=13) rfl rfl rfl c19 ?_
       refine zGa (d:=13) rfl rfl rfl c19 ?_
       refine zGa (d:=13) rfl rfl rfl c19 ?_
       refine zGa (d:=13) rfl rfl rfl c19 ?_
       refine zia rfl (zja (d:=27) rfl rfl (qPa rfl c19)) ?_
       refine zwa ?_
       cases hr
       exact zIa _ rfl (zda rfl (zda rfl (zda rfl (zda rfl (zda rfl zva))))) (zba rfl (zba rfl (zba rfl (zba rfl (zba rfl (zba rfl (zba rfl (zba rfl (zba rfl zha)))))))))
      ·replace hr:=vBa c19 hr
       refine zEa (d:=13) rfl rfl rfl c19 (zja (d:=14) rfl rfl zqa) ?_
       refine zEa (d:=13) rfl rfl rfl c19 (zja (d:=15) rfl rfl (yDa rfl rfl zka rfl rfl)) ?_
       refine zEa (d:=13) rfl rfl rfl c19 (zja (d:=16) rfl rfl zqa) ?_
       refine zEa (d:=13) rfl rfl rfl c19 (zja (d:=17) rfl rfl zqa) ?_
       refine zEa (d:=13) rfl rfl rfl c19 (zja (d:=18) rfl rfl zqa) ?_
       refine zEa (d:=13) rfl rfl rfl c19 (zja (d:=19) rfl rfl (jIa rfl rfl)) ?_
       obtain ⟨v20,h21,hr⟩:=zaa hr
       refine zEa (d:=13) rfl rfl rfl c19 (zja (d:=20) rfl rfl (Wsa (F:=cU) rfl rfl rfl zka zua (fun _=> rfl) h21)) ?_
       refine zEa (d:=13) rfl rfl rfl c19 (zja (d:=21) rfl rfl zqa) ?_
       refine zEa (d:=13) rfl rfl rfl c19 (zja (d:=22) rfl rfl zqa) ?_
       refine zEa (d:=13) rfl rfl rfl c19 (zja (d:=23) rfl rfl (jIa rfl rfl)) ?_
       refine zEa (d:=13) rfl rfl rfl c19 (zja (d:=24) rfl rfl (jIa rfl rfl)) ?_
       refine kEb (ps:= [23,24]) (args:= [.l cU v20, .i ((w64 ((w64 (s11.1+v16))+2)))]) 1000000 1600000 1099998 1699999 [(3, .ptr 3 0),(4, .ptr 4 0),(22, .fn (.func 151) [] [.ptr 1 0])] [(0, .fn (.yield b10) [] []),(1, .ptr 1 0),(3, .i s11.1),(4, .i v16),(13, .bo (decide (v16 < 0))),(14, .fn (.yield b10) [] []),(15, .l cU a0),(16, .i s11.1),(17, .i s11.1),(18, .i v16),(19, .i ((w64 (s11.1+v16)))),(20, .l cU v20),(21, .i s11.1),(22, .i v16),(23, .i ((w64 (s11.1+v16)))),(24, .i ((w64 ((w64 (s11.1+v16))+2))))] (Voa (d:=13) rfl rfl rfl c19) rfl rfl hLs10 hLp10 hLt10 hLq10 hLa10 hLb10 hT10 rfl rfl rfl rfl (.cons rfl (.cons rfl (.cons rfl (.cons rfl (.cons rfl (.cons rfl (.cons rfl (.cons rfl (.cons rfl (.cons rfl (.cons rfl (.cons rfl (.cons rfl (.cons rfl (.cons rfl (.cons rfl .nil)))))))))))))))) (.cons rfl (.cons rfl (.cons rfl .nil))) fun T16 ds16 hT16=> ?_
       refine zpa ?_
       refine zia rfl (zja (d:=5) rfl rfl zBa) ?_
       refine zwa ?_
       refine asgK wWa jGa rfl ?_
       refine q8a ?_
       obtain ⟨j22,hx,hy⟩:=zaa hr
       refine q0a (fun j22=> [(4, .ptr 4 0),(5, .l cU v20)]) (fun j22=> [(1699999, .sus g0.w.heap.size ds16),(1600000, .hold (.fn (.yield b10) [] []) (T16.getD 0 undef)),(1600001, .hold (.ptr 1 0) (T16.getD 1 undef)),(1600003, .hold (.i s11.1) (T16.getD 3 undef)),(1600004, .hold (.i v16) (T16.getD 4 undef)),(1600013, .hold (.bo (decide (v16 < 0))) (T16.getD 13 undef)),(1600014, .hold (.fn (.yield b10) [] []) (T16.getD 14 undef)),(1600015, .hold (.l cU a0) (T16.getD 15 undef)),(1600016, .hold (.i s11.1) (T16.getD 16 undef)),(1600017, .hold (.i s11.1) (T16.getD 17 undef)),(1600018, .hold (.i v16) (T16.getD 18 undef)),(1600019, .hold (.i ((w64 (s11.1+v16)))) (T16.getD 19 undef)),(1600020, .hold (.l cU v20) (T16.getD 20 undef)),(1600021, .hold (.i s11.1) (T16.getD 21 undef)),(1600022, .hold (.i v16) (T16.getD 22 undef)),(1600023, .hold (.i ((w64 (s11.1+v16)))) (T16.getD 23 undef)),(1600024, .hold (.i ((w64 ((w64 (s11.1+v16))+2)))) (T16.getD 24 undef)),(1099999, .sus g0.w.heap.size ds10),(1099998, .lp b10 ((busy L10))),(1000003, .hold (.ptr 3 0) (T10.getD 3 undef)),(1000004, .hold (.ptr 4 0) (T10.getD 4 undef)),(1000022, .hold (.fn (.func 151) [] [.ptr 1 0]) (T10.getD 22 undef)),(1, .cells [.l cU a0]),(1004, .row 5 false 1 (List.map cU j22)),(4, .cells [.hs 1004 0]),(3, .cells [.i 0, .i 0])]) (fun z=> j22=z) ?_ ?_
       ·have hr:=hx
        clear hx hy
        refine zNa ?_
        refine zpa ?_
        refine zia rfl (zja (d:=25) rfl rfl zqa) ?_
        refine vda rfl (jna (F:=cU) (l:=([(46:UInt8)]:List UInt8)) zka zua rfl (fun _=> rfl) rfl rfl) zka zua (zra rfl) (zra rfl) rfl ?_
        obtain ⟨v23,h24,hr⟩:=zaa hr
        refine zia rfl (wra (k:=28) (Qua v20 (([(46:UInt8)]:List UInt8)) v23 h24) rfl rfl) ?_
        refine zwa ?_
        refine zma ?_
        refine qZa rfl (fun c25=> ?_) (fun c25=> ?_)
        ·replace hr:=vAa c25 hr
         refine zpa ?_
         refine zia rfl (zja (d:=29) rfl rfl (yDa rfl rfl zka rfl rfl)) ?_
         refine zia rfl (jma (d:=30) rfl rfl (vEa (F:=cU) (l:=([(46:UInt8)]:List UInt8)) zka zua rfl (fun _=> rfl) rfl rfl)) ?_
         obtain ⟨v26,h27,hr⟩:=zaa hr
         refine zia rfl (kHa (k:=31) (F:=cU) (l:=s11.2) (xs:=(([(46:UInt8)]:List UInt8))) (lim:=140737488355328) rfl rfl rfl rfl zka zua rfl rfl (fun _=> rfl) rfl h27) ?_
         refine zia rfl (yva rfl rfl rfl zka rfl rfl) ?_
         refine zwa ?_
         cases hr
         exact zIa _ rfl (zda rfl (zda rfl zva)) (zba rfl (zba rfl (zba rfl (zba rfl (zba rfl (zba rfl (zba rfl (zba rfl (zba rfl (zba rfl (zba rfl (zba rfl (zba rfl (zba rfl (zba rfl (zba rfl (zba rfl (zba rfl (zba rfl (zba rfl (zba rfl (zba rfl (zba rfl (zba rfl (zba rfl (zba rfl zha))))))))))))))))))))))))))
        ·replace hr:=vBa c25 hr
         refine vWa ?_
         cases hr
         exact zIa _ rfl (zda rfl (zda rfl zva)) (zba rfl (zba rfl (zba rfl (zba rfl (zba rfl (zba rfl (zba rfl (zba rfl (zba rfl (zba rfl (zba rfl (zba rfl (zba rfl (zba rfl (zba rfl (zba rfl (zba rfl (zba rfl (zba rfl (zba rfl (zba rfl (zba rfl (zba rfl (zba rfl (zba rfl (zba rfl zha))))))))))))))))))))))))))
       ·rintro _ rfl
        have hr:=hy
        clear hx hy
        refine zpa ?_
        refine zia rfl (zja (d:=32) rfl rfl (yDa rfl rfl zka rfl rfl)) ?_
        refine zia rfl (zja (d:=33) rfl rfl zqa) ?_
        obtain ⟨v28,h29,hr⟩:=zaa hr
        refine zia rfl (kHa (k:=34) (F:=cU) (l:=j22) (xs:=v20) (lim:=140737488355328) rfl rfl rfl rfl zka zua rfl rfl (fun _=> rfl) rfl h29) ?_
        obtain ⟨v30,h31,hr⟩:=zaa hr
        refine zia rfl (vaa (k:=35) (l:=v28) (s:=(([13,10]:Str))) (lim:=140737488355328) rfl rfl rfl rfl zka zDa.u zua rfl h31) ?_
        refine zia rfl (yva rfl rfl rfl zka rfl rfl) ?_
        refine zwa ?_
        refine k0a ?_
        refine rndK (fr'' := [(0, .fn (.yield b10) [] []),(1, .ptr 1 0),(3, .i s11.1),(4, .i v16),(13, .bo (decide (v16 < 0))),(14, .fn (.yield b10) [] []),(15, .l cU a0),(16, .i s11.1),(17, .i s11.1),(18, .i v16),(19, .i ((w64 (s11.1+v16)))),(20, .l cU v20),(21, .i s11.1),(22, .i v16),(23, .i ((w64 (s11.1+v16)))),(24, .i ((w64 ((w64 (s11.1+v16))+2))))]) (σ'' := [(1099999, .sus g0.w.heap.size ds10),(1099998, .lp b10 L10),(1000003, .hold (.ptr 3 0) (T10.getD 3 undef)),(1000004, .hold (.ptr 4 0) (T10.getD 4 undef)),(1000022, .hold (.fn (.func 151) [] [.ptr 1 0]) (T10.getD 22 undef)),(1, .cells [.l cU a0]),(1004, .row 5 false 1 (List.map cU v30)),(4, .cells [.hs 1004 0]),(3, .cells [.i 0, .i 0])]) .off jGa rfl (.cons rfl (.cons rfl (.cons rfl (.cons rfl (.cons rfl (.cons rfl (.cons rfl (.cons rfl (.cons rfl (.cons rfl (.cons rfl (.cons rfl (.cons rfl (.cons rfl (.cons rfl (.cons rfl .nil)))))))))))))))) rfl (zba rfl (zba rfl (zba rfl (zba rfl (zba rfl (zba rfl (zba rfl (zba rfl (zba rfl zha))))))))) ?_
        refine zEa (d:=13) rfl rfl rfl c19 (zja (d:=26) rfl rfl (vYb rfl)) ?_
        refine zia rfl (zja (d:=27) rfl rfl (qxa rfl c19)) ?_
        refine zwa ?_
        cases hr
        exact zIa _ rfl (zda rfl (zda rfl (zda rfl (zda rfl (zda rfl zva))))) (zba rfl (zba rfl (zba rfl (zba rfl (zba rfl (zba rfl (zba rfl (zba rfl (zba rfl zha)))))))))
     ·rintro _ rfl
      have hr:=hy
      clear hx hy
      refine qZa rfl (fun c32=> ?_) (fun c32=> ?_)
      ·replace hr:=vAa c32 hr
       refine yda ?_
       refine WBa ?_
       refine YXa ?_
       cases hr
       exact ⟨by simp,rfl,zva,(zba rfl (zba rfl (zba rfl (zba rfl (zba rfl (zba rfl (zba rfl (zba rfl (zba rfl zha)))))))))⟩
      ·replace hr:=vBa c32 hr
       refine vWa ?_
       refine zma ?_
       refine zpa ?_
       refine zia rfl (zja (d:=28) rfl rfl zqa) ?_
       refine zia rfl (zja (d:=29) rfl rfl zqa) ?_
       refine zia rfl (zja (d:=30) rfl rfl (jIa rfl rfl)) ?_
       refine zia rfl (zja (d:=31) rfl rfl (jIa rfl rfl)) ?_
       refine zia rfl (zja (d:=3) rfl rfl zBa) ?_
       refine zwa ?_
       refine k0a ?_
       cases hr
       exact ⟨rfl,(zda rfl (zda rfl (zda rfl zva))),(zba rfl (zba rfl (zba rfl (zba rfl (zba rfl (zba rfl (zba rfl (zba rfl (zba rfl zha)))))))))⟩
    ·intro e fr2 st2 hq
     obtain ⟨rfl,hf,hs⟩:=hq
     refine YXa ?_
     refine itrK (L' :=L10) (fr'' := [(3, .ptr 3 0),(4, .ptr 4 0),(22, .fn (.func 151) [] [.ptr 1 0])]) (σ'' := [(1, .cells [.l cU a0]),(1004, .row 5 false 1 (List.map cU b12)),(4, .cells [.hs 1004 0]),(3, .cells [.i 0, .i 0])]) (.inl rfl) hs rfl (.cons rfl (.cons rfl (.cons rfl .nil))) rfl (zba rfl (zba rfl (zba rfl (zba rfl zha)))) rfl ?_
     refine .off ?_
     refine k0a ?_
     refine zma ?_
     refine zNa ?_
     refine zpa ?_
     refine zia rfl (zja (d:=36) rfl rfl (yDa rfl rfl zka rfl rfl)) ?_
     obtain ⟨v33,h34,hr⟩:=zaa hr
     refine zia rfl (vaa (k:=37) (l:=b12) (s:=(([46,13,10]:Str))) (lim:=140737488355328) rfl rfl rfl rfl zka zDa.u zua rfl h34) ?_
     obtain ⟨v35,h36,hr⟩:=zaa hr
     refine zia rfl (wra (k:=38) (zSa v35 h36) rfl rfl) ?_
     refine zia rfl (zja (d:=2) rfl rfl zBa) ?_
     refine zia rfl (yva rfl rfl rfl kja rfl rfl) ?_
     refine zwa ?_
     refine zma ?_
     refine vba (d:=2) (F:=cU) (l:=v33) rfl rfl ?_
     refine yda ?_
     cases hr
     exact zrb rfl (.cons (wJa rfl) (.cons (QCa rfl rfl kja rfl rfl) .nil)) rfl
theorem j4a (a0:zfa) (a1:Int) (r:zfa) (hr:qva a0 a1=some r):RunS Tryz.prog 92 [.ptr 90000000 0, .i a1] [(90000000, .cells [.s a0.Client.Name, .s a0.Client.Mail.Envelope.From, .l zca.pc a0.Client.Mail.Envelope.To, .s a0.Client.Mail.Envelope.Id, .l zga.pc a0.Client.Mail.Message.Fields, .l cU a0.Client.Mail.Message.Body, .bo a0.Client.Pipelined, .l cU a0.Client.Buffer, .i a0.Client.Expected, .bo a0.Client.Whole, .bo a0.Client.Done, .hs 90000012 0, .l cU a0.content, .bo a0.chunk, .hs 90000015 0]),(90000012, .row 3 true 1 (List.map cI a0.Client.Results)),(90000015, .row 5 false 1 (List.map cU a0.out))] (.tup []) [(90000000, .cells [.s r.Client.Name, .s r.Client.Mail.Envelope.From, .l zca.pc r.Client.Mail.Envelope.To, .s r.Client.Mail.Envelope.Id, .l zga.pc r.Client.Mail.Message.Fields, .l cU r.Client.Mail.Message.Body, .bo r.Client.Pipelined, .l cU r.Client.Buffer, .i r.Client.Expected, .bo r.Client.Whole, .bo r.Client.Done, .hs 90000012 0, .l cU r.content, .bo r.chunk, .hs 90000015 0]),(90000012, .row 3 true 1 (List.map cI r.Client.Results)),(90000015, .row 5 false 1 (List.map cU r.out))] 90000000 [90000012,90000015]:=by
 unfold qva at hr
 refine rfS (fn:=Tryz.f92) (H:=90000999) (.ptr 90000000 0) ⟨Tryz.func92,rfl,by kernel_rfl⟩ rfl (hasT rfl) (.inl ⟨rfl,rfl⟩) rfl rfl rfl rfl fun g0 hg S sg T=> ?_
 refine rn tk 8 rfl ?_
 refine ac 36 hr rfl (fun c1 hr=> ?_) (fun c1 hr=> ?_)
 ·
  refine rn tk 3 rfl ?_
  obtain ⟨v2,h3,hr⟩:=zaa hr
  refine cl (q5a _ _ h3) rfl rfl ?_
  obtain ⟨v4,h5,hr⟩:=zaa hr
  refine wo (zya (k:=42) (kua a0 v2 v4 h5) rfl rfl (zba rfl (zba rfl (zba rfl zha)))) rfl ?_
  refine rn tk 2 rfl ?_
  cases hr
  exact krS tk (.inl rfl) rfl rfl (zba rfl (zba rfl (zba rfl (zba rfl zha))))
 ·
  refine rn tk 3 rfl ?_
  obtain ⟨v6,h7,hr⟩:=zaa hr
  refine wo (zya (k:=45) (wHa a0 v6 h7) rfl rfl (zba rfl (zba rfl (zba rfl zha)))) rfl ?_
  refine rn tk 3 rfl ?_
  refine ac 43 hr rfl (fun c8 hr=> ?_) (fun c8 hr=> ?_)
  ·
   refine rn tk 8 rfl ?_
   cases hr
   exact krS tk (.inl rfl) rfl rfl (zba rfl (zba rfl (zba rfl (zba rfl zha))))
  ·
   refine rn tk 6 rfl ?_
   obtain ⟨v9,h10,hr⟩:=zaa hr
   refine cl (Yxa _ _ h10) rfl rfl ?_
   refine rn tk 16 rfl ?_
   obtain ⟨v11,h12,hr⟩:=zaa hr
   refine wa tk h12 rfl rfl rfl rfl (fun _=> rfl) rfl rfl ?_
   refine rn tk 27 rfl ?_
   cases hr
   exact krS tk (.inl rfl) rfl rfl (zba rfl (zba rfl (zba rfl (zba rfl zha))))
theorem qOa (a0:zfa) (r:Int × zfa) (hr:z9a a0=some r):RunS Tryz.prog 87 [.ptr 90000000 0] [(90000000, .cells [.s a0.Client.Name, .s a0.Client.Mail.Envelope.From, .l zca.pc a0.Client.Mail.Envelope.To, .s a0.Client.Mail.Envelope.Id, .l zga.pc a0.Client.Mail.Message.Fields, .l cU a0.Client.Mail.Message.Body, .bo a0.Client.Pipelined, .l cU a0.Client.Buffer, .i a0.Client.Expected, .bo a0.Client.Whole, .bo a0.Client.Done, .hs 90000012 0, .l cU a0.content, .bo a0.chunk, .hs 90000015 0]),(90000012, .row 3 true 1 (List.map cI a0.Client.Results)),(90000015, .row 5 false 1 (List.map cU a0.out))] (.i r.1) [(90000000, .cells [.s r.2.Client.Name, .s r.2.Client.Mail.Envelope.From, .l zca.pc r.2.Client.Mail.Envelope.To, .s r.2.Client.Mail.Envelope.Id, .l zga.pc r.2.Client.Mail.Message.Fields, .l cU r.2.Client.Mail.Message.Body, .bo r.2.Client.Pipelined, .l cU r.2.Client.Buffer, .i r.2.Client.Expected, .bo r.2.Client.Whole, .bo r.2.Client.Done, .hs 90000012 0, .l cU r.2.content, .bo r.2.chunk, .hs 90000015 0]),(90000012, .row 3 true 1 (List.map cI r.2.Client.Results)),(90000015, .row 5 false 1 (List.map cU r.2.out))] 90000000 [90000012,90000015]:=by
 unfold z9a at hr
 refine rfS (fn:=Tryz.f87) (H:=90000999) (.ptr 90000000 0) ⟨Tryz.func87,rfl,by kernel_rfl⟩ rfl (hasT rfl) (.inl ⟨rfl,rfl⟩) rfl rfl rfl rfl fun g0 hg S sg T=> ?_
 refine rn tk 14 rfl ?_
 refine wn tk rfl rfl rfl ?_
 refine rn tk 4 rfl ?_
 cases hr
 exact krS tk (.inr rfl) rfl rfl (zba rfl (zba rfl (zba rfl (zba rfl zha))))
theorem vCa (a0:zfa) (a1:Int) (r:zfa) (hr:zMa a0 a1=some r):RunS Tryz.prog 108 [.ptr 90000000 0, .i a1] [(90000000, .cells [.s a0.Client.Name, .s a0.Client.Mail.Envelope.From, .l zca.pc a0.Client.Mail.Envelope.To, .s a0.Client.Mail.Envelope.Id, .l zga.pc a0.Client.Mail.Message.Fields, .l cU a0.Client.Mail.Message.Body, .bo a0.Client.Pipelined, .l cU a0.Client.Buffer, .i a0.Client.Expected, .bo a0.Client.Whole, .bo a0.Client.Done, .hs 90000012 0, .l cU a0.content, .bo a0.chunk, .hs 90000015 0]),(90000012, .row 3 true 1 (List.map cI a0.Client.Results)),(90000015, .row 5 false 1 (List.map cU a0.out))] (.tup []) [(90000000, .cells [.s r.Client.Name, .s r.Client.Mail.Envelope.From, .l zca.pc r.Client.Mail.Envelope.To, .s r.Client.Mail.Envelope.Id, .l zga.pc r.Client.Mail.Message.Fields, .l cU r.Client.Mail.Message.Body, .bo r.Client.Pipelined, .l cU r.Client.Buffer, .i r.Client.Expected, .bo r.Client.Whole, .bo r.Client.Done, .hs 90000012 0, .l cU r.content, .bo r.chunk, .hs 90000015 0]),(90000012, .row 3 true 1 (List.map cI r.Client.Results)),(90000015, .row 5 false 1 (List.map cU r.out))] 90000000 [90000012,90000015]:=by
 unfold zMa at hr
 refine rfS (fn:=Tryz.f108) (H:=90000999) (.ptr 90000000 0) ⟨Tryz.func108,rfl,by kernel_rfl⟩ rfl (hasT rfl) (.inl ⟨rfl,rfl⟩) rfl rfl rfl rfl fun g0 hg S sg T=> ?_
 refine rn tk 20 rfl ?_
 refine ac 15 hr rfl (fun c1 hr=> ?_) (fun c1 hr=> ?_)
 ·
  refine rn tk 8 rfl ?_
  obtain ⟨v2,h3,hr⟩:=zaa hr
  refine wo (zya (k:=25) (kfa a0 ((zta.mk 1 a0.Client.Name (([]:Str)) 0 0 false)) v2 h3) rfl rfl (zba rfl (zba rfl (zba rfl zha)))) rfl ?_
  refine rn tk 2 rfl ?_
  cases hr
  exact krS tk (.inl rfl) rfl rfl (zba rfl (zba rfl (zba rfl (zba rfl zha))))
 ·
  refine rn tk 7 rfl ?_
  refine ac 26 hr rfl (fun c4 hr=> ?_) (fun c4 hr=> ?_)
  ·
   refine dr 9 [(37, .agg [.i 2, .s (([]:Str)), .s a0.Client.Mail.Envelope.From, .i ((a0.content.length:Int)), .i 0, .bo false]),(36, .i ((a0.content.length:Int))),(35, .l cU a0.content),(34, .ptr 90000000 12),(33, .ptr 90000000 0),(32, .ptr 90000000 0),(31, .s a0.Client.Mail.Envelope.From),(30, .ptr 4 0),(29, .ptr 90000000 0)] mixed (by kernel_rfl) rfl rfl (pq tk rfl (.plain rfl) (pq tk rfl (.plain rfl) (pq tk rfl (.plain rfl) (pq tk rfl (.plain rfl) (pq tk rfl (.plain rfl) (pq tk rfl (.plain rfl) (pq tk rfl (.plain rfl) (.run (.plain rfl) (qda (vDa (f:=cU) rfl zka.u)) (pq tk rfl (.plain rfl) .nil))))))))) rfl ?_
   obtain ⟨v5,h6,hr⟩:=zaa hr
   refine wo (zya (k:=38) (kfa a0 ((zta.mk 2 (([]:Str)) a0.Client.Mail.Envelope.From ((a0.content.length:Int)) 0 false)) v5 h6) rfl rfl (zba rfl (zba rfl (zba rfl zha)))) rfl ?_
   refine rn tk 2 rfl ?_
   cases hr
   exact krS tk (.inl rfl) rfl rfl (zba rfl (zba rfl (zba rfl (zba rfl zha))))
  ·
   refine rn tk 4 rfl ?_
   obtain ⟨v7,h8,hr⟩:=zaa hr
   refine wo (zya (k:=42) (qOa a0 v7 h8) rfl rfl (zba rfl (zba rfl (zba rfl zha)))) rfl ?_
   refine rn tk 5 rfl ?_
   refine ac 39 hr rfl (fun c9 hr=> ?_) (fun c9 hr=> ?_)
   ·
    refine rn tk 6 rfl ?_
    obtain ⟨v10,h11,hr⟩:=zaa hr
    refine wi tk h11 rfl rfl rfl rfl rfl ?_
    refine rn tk 12 rfl ?_
    obtain ⟨v12,h13,hr⟩:=zaa hr
    refine wo (zya (k:=57) (kfa v7.2 ((zta.mk 3 (([]:Str)) v10.Address 0 v10.Notify false)) v12 h13) rfl rfl (zba rfl (zba rfl (zba rfl zha)))) rfl ?_
    refine rn tk 2 rfl ?_
    cases hr
    exact krS tk (.inl rfl) rfl rfl (zba rfl (zba rfl (zba rfl (zba rfl zha))))
   ·
    refine rn tk 9 rfl ?_
    refine ac 58 hr rfl (fun c14 hr=> ?_) (fun c14 hr=> ?_)
    ·
     refine rn tk 7 rfl ?_
     refine wn tk rfl rfl rfl ?_
     refine rn tk 1 rfl ?_
     obtain ⟨v15,h16,hr⟩:=zaa hr
     refine wo (zya (k:=70) (kfa v7.2 ((zta.mk 5 (([]:Str)) (([]:Str)) ((v7.2.content.length:Int)) 0 true)) v15 h16) rfl rfl (zba rfl (zba rfl (zba rfl zha)))) rfl ?_
     refine rn tk 3 rfl ?_
     obtain ⟨v17,h18,hr⟩:=zaa hr
     refine drF 9 0 [(79, .l cU v15.content),(78, .ptr 90000000 12),(77, .ptr 90000000 0),(76, .ptr 90000000 0),(75, .hs 90000015 0),(74, .ptr 90000000 14),(73, .ptr 90000000 0),(72, .ptr 90000000 0),(71, .ptr 90000000 0)] [(79, .l cU v15.content),(78, .ptr 90000000 12),(77, .ptr 90000000 0),(76, .ptr 90000000 0),(75, .hs 90000015 0),(74, .ptr 90000000 14),(73, .ptr 90000000 0),(72, .ptr 90000000 0),(71, .any)] [(0, .ptr 90000000 0),(71, .ptr 90000000 0),(80, .hs 90000015 0)] [(90000000, .cells [.s v15.Client.Name, .s v15.Client.Mail.Envelope.From, .l zca.pc v15.Client.Mail.Envelope.To, .s v15.Client.Mail.Envelope.Id, .l zga.pc v15.Client.Mail.Message.Fields, .l cU v15.Client.Mail.Message.Body, .bo v15.Client.Pipelined, .l cU v15.Client.Buffer, .i v15.Client.Expected, .bo v15.Client.Whole, .bo v15.Client.Done, .hs 90000012 0, .l cU v15.content, .bo v15.chunk, .any]),(90000012, .row 3 true 1 (List.map cI v15.Client.Results)),(90000015, .row 5 false 1 (List.map cU v17)),(4, .cells [.s a0.Client.Mail.Envelope.From, .l zca.pc a0.Client.Mail.Envelope.To, .s a0.Client.Mail.Envelope.Id]),(90000999, .hold (.ptr 90000000 0) (T.getD 0 undef))] mixed (by kernel_rfl) rfl rfl rfl rfl rfl (pqA tk rfl (.plain rfl) (pqA tk rfl (.plain rfl) (pqA tk rfl (.plain rfl) (pqA tk rfl (.plain rfl) (pqA tk rfl (.plain rfl) (pqA tk rfl (.plain rfl) (pqA tk rfl (.plain rfl) (pqA tk rfl (.plain rfl) (pqA tk rfl (.plain rfl) .nil))))))))) rfl rfl rfl rfl rfl (fun hJ=> ?_) (fun hJ=> ?_) ?_
     ·
      refine wa tk h18 rfl rfl rfl rfl (fun _=> rfl) rfl rfl ?_
      exact hJ _ _ rfl rfl
     ·
      refine wa tk h18 rfl rfl rfl rfl (fun _=> rfl) rfl rfl ?_
      refine rn tk 1 rfl ?_
      exact hJ _ _ rfl rfl
     refine rn tk 13 rfl ?_
     cases hr
     exact krS tk (.inl rfl) rfl rfl (zba rfl (zba rfl (zba rfl (zba rfl zha))))
    ·
     refine rn tk 3 rfl ?_
     obtain ⟨v19,h20,hr⟩:=zaa hr
     refine wo (zya (k:=14) (kfa v7.2 ((zta.mk 4 (([]:Str)) (([]:Str)) 0 0 false)) v19 h20) rfl rfl (zba rfl (zba rfl (zba rfl zha)))) rfl ?_
     refine rn tk 2 rfl ?_
     cases hr
     exact krS tk (.inl rfl) rfl rfl (zba rfl (zba rfl (zba rfl (zba rfl zha))))
theorem vVa (a0:zfa) (r:zfa) (hr:kaa a0=some r):RunS Tryz.prog 90 [.ptr 90000000 0] [(90000000, .cells [.s a0.Client.Name, .s a0.Client.Mail.Envelope.From, .l zca.pc a0.Client.Mail.Envelope.To, .s a0.Client.Mail.Envelope.Id, .l zga.pc a0.Client.Mail.Message.Fields, .l cU a0.Client.Mail.Message.Body, .bo a0.Client.Pipelined, .l cU a0.Client.Buffer, .i a0.Client.Expected, .bo a0.Client.Whole, .bo a0.Client.Done, .hs 90000012 0, .l cU a0.content, .bo a0.chunk, .hs 90000015 0]),(90000012, .row 3 true 1 (List.map cI a0.Client.Results)),(90000015, .row 5 false 1 (List.map cU a0.out))] (.tup []) [(90000000, .cells [.s r.Client.Name, .s r.Client.Mail.Envelope.From, .l zca.pc r.Client.Mail.Envelope.To, .s r.Client.Mail.Envelope.Id, .l zga.pc r.Client.Mail.Message.Fields, .l cU r.Client.Mail.Message.Body, .bo r.Client.Pipelined, .l cU r.Client.Buffer, .i r.Client.Expected, .bo r.Client.Whole, .bo r.Client.Done, .hs 90000012 0, .l cU r.content, .bo r.chunk, .hs 90000015 0]),(90000012, .row 3 true 1 (List.map cI r.Client.Results)),(90000015, .row 5 false 1 (List.map cU r.out))] 90000000 [90000012,90000015]:=by
 unfold kaa at hr
 refine rfS (fn:=Tryz.f90) (H:=90000999) (.ptr 90000000 0) ⟨Tryz.func90,rfl,by kernel_rfl⟩ rfl (hasT rfl) (.inl ⟨rfl,rfl⟩) rfl rfl rfl rfl fun g0 hg S sg T=> ?_
 refine rn tk 17 rfl ?_
 obtain ⟨v1,h2,hr⟩:=zaa hr
 refine wo (zya (k:=14) (qOa ((zfa.mk ((zla.mk a0.Client.Name a0.Client.Mail a0.Client.Pipelined a0.Client.Buffer ((w64 (a0.Client.Expected+1))) a0.Client.Whole a0.Client.Done a0.Client.Results)) a0.content a0.chunk a0.out)) v1 h2) rfl rfl (zba rfl (zba rfl (zba rfl zha)))) rfl ?_
 refine rn tk 4 rfl ?_
 refine jb hr (fun j3=> [(0, .ptr 90000000 0),(2, .i j3.1)]) (fun j3=> [(90000000, .cells [.s j3.2.Client.Name, .s j3.2.Client.Mail.Envelope.From, .l zca.pc j3.2.Client.Mail.Envelope.To, .s j3.2.Client.Mail.Envelope.Id, .l zga.pc j3.2.Client.Mail.Message.Fields, .l cU j3.2.Client.Mail.Message.Body, .bo j3.2.Client.Pipelined, .l cU j3.2.Client.Buffer, .i j3.2.Client.Expected, .bo j3.2.Client.Whole, .bo j3.2.Client.Done, .hs 90000012 0, .l cU j3.2.content, .bo j3.2.chunk, .hs 90000015 0]),(90000012, .row 3 true 1 (List.map cI j3.2.Client.Results)),(90000015, .row 5 false 1 (List.map cU j3.2.out)),(90000999, .hold (.ptr 90000000 0) (T.getD 0 undef))]) (fun j3 hr=> ?_) (fun j3 hr=> ?_)
 ·
  refine rn tk 1 rfl ?_
  refine jb hr (fun j4=> [(0, .ptr 90000000 0),(2, .i j4.1),(16, .bo j4.2)]) (fun j4=> [(90000000, .cells [.s v1.2.Client.Name, .s v1.2.Client.Mail.Envelope.From, .l zca.pc v1.2.Client.Mail.Envelope.To, .s v1.2.Client.Mail.Envelope.Id, .l zga.pc v1.2.Client.Mail.Message.Fields, .l cU v1.2.Client.Mail.Message.Body, .bo v1.2.Client.Pipelined, .l cU v1.2.Client.Buffer, .i v1.2.Client.Expected, .bo v1.2.Client.Whole, .bo v1.2.Client.Done, .hs 90000012 0, .l cU v1.2.content, .bo v1.2.chunk, .hs 90000015 0]),(90000012, .row 3 true 1 (List.map cI v1.2.Client.Results)),(90000015, .row 5 false 1 (List.map cU v1.2.out)),(90000999, .hold (.ptr 90000000 0) (T.getD 0 undef))]) (fun j4 hr=> ?_) (fun j4 hr=> ?_)
  ·
   refine rn tk 8 rfl ?_
   refine bs 23 hr rfl (fun c5 hr=> ?_) (fun c5 hr=> ?_)
   ·
    refine rn tk 9 rfl ?_
    cases hr
    exact jn _ rfl rfl rfl
   ·
    refine rn tk 9 rfl ?_
    cases hr
    exact jn _ rfl rfl rfl
  ·
   refine ac 16 hr rfl (fun c6 hr=> ?_) (fun c6 hr=> ?_)
   ·
    refine rn tk 7 rfl ?_
    obtain ⟨v7,h8,hr⟩:=zaa hr
    refine wo (zya (k:=37) (vCa v1.2 v1.2.Client.Expected v7 h8) rfl rfl (zba rfl (zba rfl (zba rfl zha)))) rfl ?_
    refine rn tk 2 rfl ?_
    cases hr
    exact jn _ rfl rfl rfl
   ·
    refine rn tk 11 rfl ?_
    refine ac 38 hr rfl (fun c9 hr=> ?_) (fun c9 hr=> ?_)
    ·
     refine rn tk 6 rfl ?_
     refine al1 hr (fun s10=> [(0, .ptr 90000000 0),(2, .i j4.1),(3, .i s10.1)]) (fun s10=> [(90000000, .cells [.s s10.2.Client.Name, .s s10.2.Client.Mail.Envelope.From, .l zca.pc s10.2.Client.Mail.Envelope.To, .s s10.2.Client.Mail.Envelope.Id, .l zga.pc s10.2.Client.Mail.Message.Fields, .l cU s10.2.Client.Mail.Message.Body, .bo s10.2.Client.Pipelined, .l cU s10.2.Client.Buffer, .i s10.2.Client.Expected, .bo s10.2.Client.Whole, .bo s10.2.Client.Done, .hs 90000012 0, .l cU s10.2.content, .bo s10.2.chunk, .hs 90000015 0]),(90000012, .row 3 true 1 (List.map cI s10.2.Client.Results)),(90000015, .row 5 false 1 (List.map cU s10.2.out)),(90000999, .hold (.ptr 90000000 0) (T.getD 0 undef))]) (.exit 1) (fun b11=> [(0, .ptr 90000000 0),(2, .i j4.1)]) (fun b11=> [(90000000, .cells [.s b11.Client.Name, .s b11.Client.Mail.Envelope.From, .l zca.pc b11.Client.Mail.Envelope.To, .s b11.Client.Mail.Envelope.Id, .l zga.pc b11.Client.Mail.Message.Fields, .l cU b11.Client.Mail.Message.Body, .bo b11.Client.Pipelined, .l cU b11.Client.Buffer, .i b11.Client.Expected, .bo b11.Client.Whole, .bo b11.Client.Done, .hs 90000012 0, .l cU b11.content, .bo b11.chunk, .hs 90000015 0]),(90000012, .row 3 true 1 (List.map cI b11.Client.Results)),(90000015, .row 5 false 1 (List.map cU b11.out)),(90000999, .hold (.ptr 90000000 0) (T.getD 0 undef))]) rfl rfl (fun s10 x12 hr=> ?_) (fun b11 hr=> ?_)
     ·
      unfold zXa at hr
      refine rn tk 8 rfl ?_
      refine ac 47 hr rfl (fun c13 hr=> ?_) (fun c13 hr=> ?_)
      ·
       refine rn tk 7 rfl ?_
       obtain ⟨v14,h15,hr⟩:=zaa hr
       refine wo (zya (k:=52) (vCa s10.2 s10.1 v14 h15) rfl rfl (zba rfl (zba rfl (zba rfl zha)))) rfl ?_
       refine rn tk 8 rfl ?_
       cases hr
       exact atc rfl rfl
      ·
       refine rn tk 2 rfl ?_
       cases hr
       exact ato rfl rfl rfl rfl
     ·
      refine rn tk 2 rfl ?_
      cases hr
      exact jn _ rfl rfl rfl
    ·
     refine rn tk 2 rfl ?_
     cases hr
     exact jn _ rfl rfl rfl
 ·
  refine jb hr (fun j16=> [(0, .ptr 90000000 0),(65, .bo j16)]) (fun j16=> [(90000000, .cells [.s j3.2.Client.Name, .s j3.2.Client.Mail.Envelope.From, .l zca.pc j3.2.Client.Mail.Envelope.To, .s j3.2.Client.Mail.Envelope.Id, .l zga.pc j3.2.Client.Mail.Message.Fields, .l cU j3.2.Client.Mail.Message.Body, .bo j3.2.Client.Pipelined, .l cU j3.2.Client.Buffer, .i j3.2.Client.Expected, .bo j3.2.Client.Whole, .bo j3.2.Client.Done, .hs 90000012 0, .l cU j3.2.content, .bo j3.2.chunk, .hs 90000015 0]),(90000012, .row 3 true 1 (List.map cI j3.2.Client.Results)),(90000015, .row 5 false 1 (List.map cU j3.2.out)),(90000999, .hold (.ptr 90000000 0) (T.getD 0 undef))]) (fun j16 hr=> ?_) (fun j16 hr=> ?_)
  ·
   refine rn tk 9 rfl ?_
   refine bs 60 hr rfl (fun c17 hr=> ?_) (fun c17 hr=> ?_)
   ·
    refine rn tk 6 rfl ?_
    cases hr
    exact jn _ rfl rfl rfl
   ·
    refine rn tk 6 rfl ?_
    cases hr
    exact jn _ rfl rfl rfl
  ·
   refine ac 65 hr rfl (fun c18 hr=> ?_) (fun c18 hr=> ?_)
   ·
    refine rn tk 12 rfl ?_
    cases hr
    exact krS tk (.inl rfl) rfl rfl (zba rfl (zba rfl (zba rfl (zba rfl zha))))
   ·
    refine rn tk 1 rfl ?_
    cases hr
    exact krS tk (.inl rfl) rfl rfl (zba rfl (zba rfl (zba rfl (zba rfl zha))))
theorem K9a (a0:Int) (r:Bool) (hr:yxa a0=some r):Run Tryz.prog 105 [.i a0] (.bo r):=by
 unfold yxa at hr
 refine rf (fn:=Tryz.f105) ⟨Tryz.func105,rfl,by kernel_rfl⟩ rfl (fun _=> rfl) fun g0 hg=> ?_
 refine rn tk 5 rfl ?_
 refine jb hr (fun j1=> [(2, .bo j1)]) (fun j1=> []) (fun j1 hr=> ?_) (fun j1 hr=> ?_)
 ·
  refine rn tk 4 rfl ?_
  refine bs 5 hr rfl (fun c2 hr=> ?_) (fun c2 hr=> ?_)
  ·
   refine rn tk 5 rfl ?_
   cases hr
   exact jn _ rfl rfl rfl
  ·
   refine rn tk 5 rfl ?_
   cases hr
   exact jn _ rfl rfl rfl
 ·
  refine rn tk 1 rfl ?_
  cases hr
  exact kr tk (.inr rfl) rfl rfl
theorem Vea (a0:kba) (r:zza) (hr:vPa a0=some r):Run Tryz.prog 106 [.agg [.i a0.Code, .l cS a0.Lines]] (.agg [.i r.Code, .i r.Index]):=by
 unfold vPa at hr
 refine rf (fn:=Tryz.f106) ⟨Tryz.func106,rfl,by kernel_rfl⟩ rfl (fun _=> rfl) fun g0 hg=> ?_
 refine rn tk 11 rfl ?_
 obtain ⟨v1,h2,hr⟩:=zaa hr
 refine cl (K9a _ _ h2) rfl rfl ?_
 refine rn tk 3 rfl ?_
 refine ac 8 hr rfl (fun c3 hr=> ?_) (fun c3 hr=> ?_)
 ·
  refine rn tk 2 rfl ?_
  obtain ⟨v4,h5,hr⟩:=zaa hr
  refine cl (zoa _ _ _ h5) rfl rfl ?_
  refine rn tk 5 rfl ?_
  cases hr
  exact kr tk (.inr rfl) rfl rfl
 ·
  refine rn tk 3 rfl ?_
  refine jb hr (fun j6=> [(1, .ptr 1 0),(2, .ptr 2 0),(19, .bo j6)]) (fun j6=> [(2, .cells [.i 0, .i 0]),(1, .cells [.i a0.Code, .l cS a0.Lines])]) (fun j6 hr=> ?_) (fun j6 hr=> ?_)
  ·
   refine rn tk 3 rfl ?_
   refine wn tk rfl rfl rfl ?_
   refine rn tk 2 rfl ?_
   refine bs 14 hr rfl (fun c7 hr=> ?_) (fun c7 hr=> ?_)
   ·
    refine rn tk 6 rfl ?_
    cases hr
    exact jn _ rfl rfl rfl
   ·
    refine rn tk 2 rfl ?_
    refine ug rfl rfl rfl ?_
    refine wn tk rfl rfl rfl ?_
    refine rn tk 3 rfl ?_
    cases hr
    exact jn _ rfl rfl rfl
  ·
   refine ac 19 hr rfl (fun c8 hr=> ?_) (fun c8 hr=> ?_)
   ·
    refine rn tk 2 rfl ?_
    obtain ⟨v9,h10,hr⟩:=zaa hr
    refine cl (zoa _ _ _ h10) rfl rfl ?_
    refine rn tk 5 rfl ?_
    cases hr
    exact kr tk (.inr rfl) rfl rfl
   ·
    refine rn tk 7 rfl ?_
    refine wn tk rfl rfl rfl ?_
    refine rn tk 4 rfl ?_
    refine al2 hr (fun s11=> [(2, .ptr 2 0),(22, .l cS a0.Lines),(23, .i ((a0.Lines.length:Int))),(24, .i s11)]) (fun s11=> [(2, .cells [.i 0, .i 0])]) (.exit 0) (fun b12=> [(2, .ptr 2 0)]) (fun b12=> [(2, .cells [.i 0, .i 0])]) .ret (fun b13=> [(2, .ptr 2 0)]) (fun b13=> [(2, .cells [.i b13.Code, .i b13.Index])]) rfl rfl (fun s11 x15 hr=> ?_) (fun b12 hr=> ?_) (fun b13 hr=> ?_)
    ·
     unfold vya at hr
     refine rn tk 6 rfl ?_
     refine ac 25 hr rfl (fun c16 hr=> ?_) (fun c16 hr=> ?_)
     ·
      refine rn tk 7 rfl ?_
      obtain ⟨v17,h18,hr⟩:=zaa hr
      refine wi tk h18 rfl rfl rfl rfl rfl ?_
      refine rn tk 13 rfl ?_
      refine ac 31 hr rfl (fun c19 hr=> ?_) (fun c19 hr=> ?_)
      ·
       refine rn tk 3 rfl ?_
       obtain ⟨v20,h21,hr⟩:=zaa hr
       refine cl (zoa _ _ _ h21) rfl rfl ?_
       refine rn tk 7 rfl ?_
       cases hr
       exact ato rfl rfl rfl rfl
      ·
       refine rn tk 5 rfl ?_
       obtain ⟨v22,h23,hr⟩:=zaa hr
       refine cl (k2a _ _ _ h23) rfl rfl ?_
       refine rn tk 2 rfl ?_
       refine ac 35 hr rfl (fun c24 hr=> ?_) (fun c24 hr=> ?_)
       ·
        refine rn tk 3 rfl ?_
        obtain ⟨v25,h26,hr⟩:=zaa hr
        refine cl (zoa _ _ _ h26) rfl rfl ?_
        refine rn tk 6 rfl ?_
        cases hr
        exact ato rfl rfl rfl rfl
       ·
        refine rn tk 7 rfl ?_
        cases hr
        exact atc rfl rfl
     ·
      refine rn tk 2 rfl ?_
      cases hr
      exact ato rfl rfl rfl rfl
    ·
     refine rn tk 4 rfl ?_
     obtain ⟨v27,h28,hr⟩:=zaa hr
     refine cl (zSa _ h28) rfl rfl ?_
     refine rn tk 4 rfl ?_
     cases hr
     exact kr tk (.inr rfl) rfl rfl
    ·
     refine rn tk 2 rfl ?_
     cases hr
     exact kr tk (.inr rfl) rfl rfl
theorem Yya (a0:kba) (r:Int × zza) (hr:yPa a0=some r):Run Tryz.prog 86 [.agg [.i a0.Code, .l cS a0.Lines]] (.tup [.i r.1, .agg [.i r.2.Code, .i r.2.Index]]):=by
 unfold yPa at hr
 refine rf (fn:=Tryz.f86) ⟨Tryz.func86,rfl,by kernel_rfl⟩ rfl (fun _=> rfl) fun g0 hg=> ?_
 refine rn tk 11 rfl ?_
 obtain ⟨v1,h2,hr⟩:=zaa hr
 refine cl (Vea _ _ h2) rfl rfl ?_
 refine rn tk 7 rfl ?_
 obtain ⟨v3,h4,hr⟩:=zaa hr
 refine cl (z2a _ _ h4) rfl rfl ?_
 refine rn tk 2 rfl ?_
 refine ac 8 hr rfl (fun c5 hr=> ?_) (fun c5 hr=> ?_)
 ·
  refine rn tk 1 rfl ?_
  refine dr 2 [(2, .i 0),(9, .agg [.i v1.Code, .i v1.Index])] mixed (by kernel_rfl) rfl rfl (pq tk rfl (.plain rfl) (pq tk rfl (.plain rfl) .nil)) rfl ?_
  refine rn tk 5 rfl ?_
  cases hr
  exact kr tk (.inr rfl) rfl rfl
 ·
  refine rn tk 3 rfl ?_
  obtain ⟨v6,h7,hr⟩:=zaa hr
  refine dr 4 [(13, .agg [.i v6.Code, .i v6.Index]),(12, .i ((iQuo a0.Code 100))),(11, .i a0.Code),(10, .ptr 1 0)] mixed (by kernel_rfl) rfl rfl (pq tk rfl (.plain rfl) (pq tk rfl (.plain rfl) (.run (.plain rfl) (qda (v1a rfl rfl rfl)) (.run (.plain rfl) (kda (zSa v6 h7) rfl) .nil)))) rfl ?_
  refine rn tk 5 rfl ?_
  cases hr
  exact kr tk (.inr rfl) rfl rfl
theorem Zsa (a0:zfa) (a1:kba) (r:zfa) (hr:kMa a0 a1=some r):RunS Tryz.prog 61 [.ptr 90000000 0, .agg [.i a1.Code, .l cS a1.Lines]] [(90000000, .cells [.s a0.Client.Name, .s a0.Client.Mail.Envelope.From, .l zca.pc a0.Client.Mail.Envelope.To, .s a0.Client.Mail.Envelope.Id, .l zga.pc a0.Client.Mail.Message.Fields, .l cU a0.Client.Mail.Message.Body, .bo a0.Client.Pipelined, .l cU a0.Client.Buffer, .i a0.Client.Expected, .bo a0.Client.Whole, .bo a0.Client.Done, .hs 90000012 0, .l cU a0.content, .bo a0.chunk, .hs 90000015 0]),(90000012, .row 3 true 1 (List.map cI a0.Client.Results)),(90000015, .row 5 false 1 (List.map cU a0.out))] (.tup []) [(90000000, .cells [.s r.Client.Name, .s r.Client.Mail.Envelope.From, .l zca.pc r.Client.Mail.Envelope.To, .s r.Client.Mail.Envelope.Id, .l zga.pc r.Client.Mail.Message.Fields, .l cU r.Client.Mail.Message.Body, .bo r.Client.Pipelined, .l cU r.Client.Buffer, .i r.Client.Expected, .bo r.Client.Whole, .bo r.Client.Done, .hs 90000012 0, .l cU r.content, .bo r.chunk, .hs 90000015 0]),(90000012, .row 3 true 1 (List.map cI r.Client.Results)),(90000015, .row 5 false 1 (List.map cU r.out))] 90000000 [90000012,90000015]:=by
 unfold kMa at hr
 refine rfS (fn:=Tryz.f61) (H:=90000999) (.ptr 90000000 0) ⟨Tryz.func61,rfl,by kernel_rfl⟩ rfl (hasT rfl) (.inl ⟨rfl,rfl⟩) rfl rfl rfl rfl fun g0 hg S sg T=> ?_
 refine rn tk 8 rfl ?_
 obtain ⟨v1,h2,hr⟩:=zaa hr
 refine cl (Yya _ _ h2) rfl rfl ?_
 refine rn tk 11 rfl ?_
 obtain ⟨v3,h4,hr⟩:=zaa hr
 refine wo (zya (k:=13) (qOa a0 v3 h4) rfl rfl (zba rfl (zba rfl (zba rfl zha)))) rfl ?_
 refine rn tk 16 rfl ?_
 refine ac 19 hr rfl (fun c5 hr=> ?_) (fun c5 hr=> ?_)
 ·
  refine rn tk 7 rfl ?_
  refine ac 27 hr rfl (fun c6 hr=> ?_) (fun c6 hr=> ?_)
  ·
   refine rn tk 4 rfl ?_
   obtain ⟨v7,h8,hr⟩:=zaa hr
   refine cl (q5a _ _ h8) rfl rfl ?_
   obtain ⟨v9,h10,hr⟩:=zaa hr
   refine wo (zya (k:=31) (kua v3.2 v7 v9 h10) rfl rfl (zba rfl (zba rfl (zba rfl zha)))) rfl ?_
   refine rn tk 5 rfl ?_
   cases hr
   exact krS tk (.inr rfl) rfl rfl (zba rfl (zba rfl (zba rfl (zba rfl zha))))
  ·
   refine rn tk 4 rfl ?_
   obtain ⟨v11,h12,hr⟩:=zaa hr
   refine wo (zya (k:=33) (vVa v3.2 v11 h12) rfl rfl (zba rfl (zba rfl (zba rfl zha)))) rfl ?_
   refine rn tk 2 rfl ?_
   cases hr
   exact krS tk (.inl rfl) rfl rfl (zba rfl (zba rfl (zba rfl (zba rfl zha))))
 ·
  refine rn tk 12 rfl ?_
  refine ac 34 hr rfl (fun c13 hr=> ?_) (fun c13 hr=> ?_)
  ·
   refine jb hr (fun j14=> [(0, .ptr 90000000 0),(6, .i j14.1)]) (fun j14=> [(90000000, .cells [.s j14.2.Client.Name, .s j14.2.Client.Mail.Envelope.From, .l zca.pc j14.2.Client.Mail.Envelope.To, .s j14.2.Client.Mail.Envelope.Id, .l zga.pc j14.2.Client.Mail.Message.Fields, .l cU j14.2.Client.Mail.Message.Body, .bo j14.2.Client.Pipelined, .l cU j14.2.Client.Buffer, .i j14.2.Client.Expected, .bo j14.2.Client.Whole, .bo j14.2.Client.Done, .hs 90000012 0, .l cU j14.2.content, .bo j14.2.chunk, .hs 90000015 0]),(90000012, .row 3 true 1 (List.map cI j14.2.Client.Results)),(90000015, .row 5 false 1 (List.map cU j14.2.out)),(90000999, .hold (.ptr 90000000 0) (T.getD 0 undef))]) (fun j14 hr=> ?_) (fun j14 hr=> ?_)
   ·
    refine rn tk 6 rfl ?_
    refine ac 43 hr rfl (fun c15 hr=> ?_) (fun c15 hr=> ?_)
    ·
     obtain ⟨v16,h17,hr⟩:=zaa hr
     refine dr 13 [(56, .i v16),(55, .i v1.1),(54, .i ((w64 (v3.2.Client.Expected - 3)))),(53, .i v3.2.Client.Expected),(52, .ptr 90000000 8),(51, .ptr 90000000 0),(50, .ptr 90000000 0),(49, .ptr 90000000 0),(48, .hs 90000012 0),(47, .ptr 90000000 11),(46, .ptr 90000000 0),(45, .ptr 90000000 0),(44, .ptr 90000000 0)] mixed (by kernel_rfl) rfl rfl (pq tk rfl (.plain rfl) (pq tk rfl (.plain rfl) (pq tk rfl (.plain rfl) (pq tk rfl (.plain rfl) (pq tk rfl (.plain rfl) (pq tk rfl (.plain rfl) (pq tk rfl (.plain rfl) (pq tk rfl (.plain rfl) (pq tk rfl (.plain rfl) (pq tk rfl (.plain rfl) (pq tk rfl (.plain rfl) (pq tk rfl (.plain rfl) (.run (.plain rfl) (kda (q5a v1.1 v16 h17) rfl) .nil))))))))))))) rfl ?_
     obtain ⟨v18,h19,hr⟩:=zaa hr
     refine wih tk h19 rfl rfl rfl rfl rfl ?_
     obtain ⟨v20,h21,hr⟩:=zaa hr
     refine wo (Qha (F:=cI) (l:=v3.2.Client.Results) (n:=((w64 (v3.2.Client.Expected - 3)))) (j:=0) (v:=v20) (v' :=v16) (pcs:= [pI v16]) rfl rfl rfl qia rfl h21 rfl rfl) rfl ?_
     refine rn tk 1 rfl ?_
     cases hr
     exact jn _ rfl rfl rfl
    ·
     refine rn tk 1 rfl ?_
     cases hr
     exact jn _ rfl rfl rfl
   ·
    refine rn tk 1 rfl ?_
    refine jb hr (fun j22=> [(0, .ptr 90000000 0),(77, .bo j22.1)]) (fun j22=> [(90000000, .cells [.s j22.2.Client.Name, .s j22.2.Client.Mail.Envelope.From, .l zca.pc j22.2.Client.Mail.Envelope.To, .s j22.2.Client.Mail.Envelope.Id, .l zga.pc j22.2.Client.Mail.Message.Fields, .l cU j22.2.Client.Mail.Message.Body, .bo j22.2.Client.Pipelined, .l cU j22.2.Client.Buffer, .i j22.2.Client.Expected, .bo j22.2.Client.Whole, .bo j22.2.Client.Done, .hs 90000012 0, .l cU j22.2.content, .bo j22.2.chunk, .hs 90000015 0]),(90000012, .row 3 true 1 (List.map cI j22.2.Client.Results)),(90000015, .row 5 false 1 (List.map cU j22.2.out)),(90000999, .hold (.ptr 90000000 0) (T.getD 0 undef))]) (fun j22 hr=> ?_) (fun j22 hr=> ?_)
    ·
     refine rn tk 10 rfl ?_
     refine bs 66 hr rfl (fun c23 hr=> ?_) (fun c23 hr=> ?_)
     ·
      refine rn tk 8 rfl ?_
      refine bs 74 hr rfl (fun c24 hr=> ?_) (fun c24 hr=> ?_)
      ·
       refine rn tk 1 rfl ?_
       obtain ⟨v25,h26,hr⟩:=zaa hr
       refine ug rfl rfl rfl ?_
       refine wo (zya (k:=76) (wHa j14.2 v25 h26) rfl rfl (zba rfl (zba rfl (zba rfl zha)))) rfl ?_
       refine rn tk 2 rfl ?_
       cases hr
       exact jn _ rfl rfl rfl
      ·
       refine rn tk 4 rfl ?_
       cases hr
       exact jn _ rfl rfl rfl
     ·
      refine rn tk 12 rfl ?_
      cases hr
      exact jn _ rfl rfl rfl
    ·
     refine ac 77 hr rfl (fun c27 hr=> ?_) (fun c27 hr=> ?_)
     ·
      refine rn tk 3 rfl ?_
      obtain ⟨v28,h29,hr⟩:=zaa hr
      refine wo (zya (k:=79) (kua j22.2 2 v28 h29) rfl rfl (zba rfl (zba rfl (zba rfl zha)))) rfl ?_
      refine rn tk 5 rfl ?_
      cases hr
      exact krS tk (.inr rfl) rfl rfl (zba rfl (zba rfl (zba rfl (zba rfl zha))))
     ·
      refine rn tk 4 rfl ?_
      obtain ⟨v30,h31,hr⟩:=zaa hr
      refine wo (zya (k:=81) (vVa j22.2 v30 h31) rfl rfl (zba rfl (zba rfl (zba rfl zha)))) rfl ?_
      refine rn tk 2 rfl ?_
      cases hr
      exact krS tk (.inl rfl) rfl rfl (zba rfl (zba rfl (zba rfl (zba rfl zha))))
  ·
   refine rn tk 12 rfl ?_
   refine ac 82 hr rfl (fun c32 hr=> ?_) (fun c32 hr=> ?_)
   ·
    refine rn tk 3 rfl ?_
    obtain ⟨v33,h34,hr⟩:=zaa hr
    refine wo (zya (k:=92) (j4a v3.2 v1.1 v33 h34) rfl rfl (zba rfl (zba rfl (zba rfl zha)))) rfl ?_
    refine rn tk 2 rfl ?_
    cases hr
    exact krS tk (.inl rfl) rfl rfl (zba rfl (zba rfl (zba rfl (zba rfl zha))))
   ·
    refine rn tk 7 rfl ?_
    refine ac 93 hr rfl (fun c35 hr=> ?_) (fun c35 hr=> ?_)
    ·
     refine rn tk 2 rfl ?_
     obtain ⟨v36,h37,hr⟩:=zaa hr
     refine wo (zya (k:=97) (kua v3.2 1 v36 h37) rfl rfl (zba rfl (zba rfl (zba rfl zha)))) rfl ?_
     refine rn tk 2 rfl ?_
     cases hr
     exact krS tk (.inl rfl) rfl rfl (zba rfl (zba rfl (zba rfl (zba rfl zha))))
    ·
     refine rn tk 3 rfl ?_
     obtain ⟨v38,h39,hr⟩:=zaa hr
     refine cl (q5a _ _ h39) rfl rfl ?_
     obtain ⟨v40,h41,hr⟩:=zaa hr
     refine wo (zya (k:=18) (kua v3.2 v38 v40 h41) rfl rfl (zba rfl (zba rfl (zba rfl zha)))) rfl ?_
     refine rn tk 2 rfl ?_
     cases hr
     exact krS tk (.inl rfl) rfl rfl (zba rfl (zba rfl (zba rfl (zba rfl zha))))
end Go.Proofs.YtjnmamghadpedaaGreatDoor
namespace Go.Proofs.YtjnmamghadpedaaGreatDoor
open Go.RowKit
set_option maxRecDepth 100000
theorem kmb (g:G) (e:TypeId) (s:ByteArray):Old (fun _=> False) g ⟨Lib.bytesWorld g.w e s,g.u,g.loc⟩:=by
 generalize hw:Lib.bytesWorld g.w e s=w'
 unfold Lib.bytesWorld at hw
 have hother:∀q,q < g.w.heap.size→w'.heap[q]? =g.w.heap[q]? :=by
  intro q hq
  subst hw
  simp only [World.freeze,Nat.one_ne_zero,if_false,Array.getElem?_modify]
  rw [if_neg (by omega)]
  exact Below.heap_alloc g.w.drew _ _ hq
 have hws:w'.heap.size=g.w.heap.size+1:=by subst hw;simp [World.freeze]
 refine ⟨by subst hw;first | (simp [World.freeze];done) | (simp [World.freeze];rfl),by subst hw;first | (simp [World.freeze];done) | (simp [World.freeze];rfl),by subst hw;first | (simp [World.freeze];done) | (simp [World.freeze];rfl),⟨by show g.w.heap.size≤w'.heap.size;omega,fun _ _=> Nat.le_refl _,fun k i hk hi=> ?_,fun r hr=> (hother r (kXa hr)).trans hr⟩,fun k hk _=> ⟨hother k hk,rfl⟩⟩
 simp only [World.cell?];rw [hother k hk]
theorem vOb {g:G} {w' :World} (h:Below g.w.heap.size g.w w'):Old (fun _=> False) g ⟨w',g.u,g.loc⟩:=
 ⟨h.os,h.tape,h.output,⟨h.size,fun _ _=> Nat.le_refl _,fun k i hk _=> by simp only [World.cell?];rw [h.block k hk],fun r hr=> (h.block r (kXa hr)).trans hr⟩,fun k hk _=> ⟨h.block k hk,rfl⟩⟩
theorem err_var {g : G} (hg : Gl g) : ∃ tp p, g.w.var? Tryz.prog "strconv.ErrSyntax" = some #[.iface tp p] := by
 obtain ⟨tp,x,t,fz,h⟩:=hg.2.2 1 (by simp [q3b])
 have hn : Tryz.prog.globalNamed "strconv.ErrSyntax" = some 1 := by kernel_rfl
 refine ⟨tp,x, ?_⟩
 unfold World.var?
 rw [hn]
 simp only [Option.bind_some]
 rw [h]
theorem Wna (s:Str) (r:Int × Bool) (hr:qJa s=some r):Run Tryz.prog 104 [.s s] (.tup [.i r.1, .ifc r.2]):=by
 unfold qJa at hr
 split at hr
 case isFalse=> cases hr
 rename_i hlen
 refine ⟨⟨_,_,⟨Tryz.func104,rfl,by kernel_rfl⟩⟩,fun g vs hw hg ha=> ?_⟩
 obtain ⟨hsz,hrel⟩:=ha
 obtain ⟨l⟩:=vs
 match l,hsz with
 | [x],_=>
  obtain rfl:=str_argN (hrel 0 _ rfl)
  cases hn:Lib.atoi s with
  | none=>
   rw [hn] at hr
   cases hr
   obtain ⟨tp,p,hvar⟩:=err_var hg
   refine callsIn_wide.2 ((Tryz.strconv_Atoi_err_var (strB s) (by rw [kga];exact hlen) (by simpa [strB] using hn) tp p g.w hvar).mono ?_)
   rintro e w' ⟨N,rfl,_,_,hb⟩
   exact ⟨⟨w',g.u,g.loc⟩,_,rfl,rfl,vOb hb,fun k hk=> hw k (Nat.le_trans hb.size hk),rfl, .tup rfl fun i c hi=> by
    match i,hi with
    | 0,rfl=> exact .pv (.b rfl)
    | 1,rfl=> exact .ifc rfl⟩
  | some n=>
   rw [hn] at hr
   cases hr
   refine callsIn_wide.2 ((Tryz.strconv_Atoi (strB s) n (by rw [kga];exact hlen) (by simpa [strB] using hn) g.w).mono ?_)
   rintro e w' ⟨rfl,t,rfl⟩
   exact ⟨⟨_,g.u,g.loc⟩,_,rfl,rfl,kmb g _ _,fun k hk=> hw k (Nat.le_trans (kmb g _ _).ext.size hk),rfl, .tup rfl fun i c hi=> by
    match i,hi with
    | 0,rfl=> exact .pv (.b rfl)
    | 1,rfl=> exact .ifc rfl⟩
end Go.Proofs.YtjnmamghadpedaaGreatDoor
namespace Go.Proofs.YtjnmamghadpedaaGreatDoor
open Go.RowKit
set_option maxRecDepth 100000
set_option maxHeartbeats 40000000
theorem ZDa (a0:Str) (r:Bool) (hr:vla a0=some r):Run Tryz.prog 102 [.s a0] (.bo r):=by
 unfold vla at hr
 refine rf (fn:=Tryz.f102) ⟨Tryz.func102,rfl,by kernel_rfl⟩ rfl (fun _=> rfl) fun g0 hg=> ?_
 refine rn tk 14 rfl ?_
 refine al2 hr (fun s1=> [(0, .s a0),(5, .i ((a0.length:Int))),(6, .i s1)]) (fun s1=> []) (.exit 0) (fun b2=> [(0, .s a0)]) (fun b2=> []) .ret (fun b3=> [(2, .bo b3)]) (fun b3=> []) rfl rfl (fun s1 x5 hr=> ?_) (fun b2 hr=> ?_) (fun b3 hr=> ?_)
 ·
  unfold wza at hr
  refine rn tk 6 rfl ?_
  refine ac 7 hr rfl (fun c6 hr=> ?_) (fun c6 hr=> ?_)
  ·
   refine rn tk 10 rfl ?_
   refine jb hr (fun j7=> [(0, .s a0),(5, .i ((a0.length:Int))),(6, .i s1),(18, .bo j7)]) (fun j7=> []) (fun j7 hr=> ?_) (fun j7 hr=> ?_)
   ·
    refine rn tk 3 rfl ?_
    obtain ⟨v8,h9,hr⟩:=zaa hr
    refine ws tk h9 rfl rfl rfl rfl ?_
    refine rn tk 2 rfl ?_
    refine bs 13 hr rfl (fun c10 hr=> ?_) (fun c10 hr=> ?_)
    ·
     refine rn tk 6 rfl ?_
     cases hr
     exact jn _ rfl rfl rfl
    ·
     refine rn tk 2 rfl ?_
     obtain ⟨v11,h12,hr⟩:=zaa hr
     refine ug rfl rfl rfl ?_
     refine ws tk h12 rfl rfl rfl rfl ?_
     refine rn tk 3 rfl ?_
     cases hr
     exact jn _ rfl rfl rfl
   ·
    refine ac 18 hr rfl (fun c13 hr=> ?_) (fun c13 hr=> ?_)
    ·
     refine rn tk 8 rfl ?_
     cases hr
     exact ato rfl rfl rfl rfl
    ·
     refine rn tk 7 rfl ?_
     cases hr
     exact atc rfl rfl
  ·
   refine rn tk 2 rfl ?_
   cases hr
   exact ato rfl rfl rfl rfl
 ·
  refine rn tk 10 rfl ?_
  cases hr
  exact kr tk (.inr rfl) rfl rfl
 ·
  refine rn tk 2 rfl ?_
  cases hr
  exact kr tk (.inr rfl) rfl rfl
theorem YUa (a0:Str) (r:Int × Str × Bool × Bool) (hr:jVa a0=some r):Run Tryz.prog 85 [.s a0] (.tup [.i r.1, .s r.2.1, .bo r.2.2.1, .bo r.2.2.2]):=by
 unfold jVa at hr
 refine rf (fn:=Tryz.f85) ⟨Tryz.func85,rfl,by kernel_rfl⟩ rfl (fun _=> rfl) fun g0 hg=> ?_
 refine rn tk 9 rfl ?_
 refine jb hr (fun j1=> [(0, .s a0),(30, .bo j1)]) (fun j1=> []) (fun j1 hr=> ?_) (fun j1 hr=> ?_)
 ·
  refine rn tk 5 rfl ?_
  refine bs 11 hr rfl (fun c2 hr=> ?_) (fun c2 hr=> ?_)
  ·
   refine rn tk 20 rfl ?_
   cases hr
   exact jn _ rfl rfl rfl
  ·
   refine rn tk 1 rfl ?_
   obtain ⟨v3,h4,hr⟩:=zaa hr
   refine ug rfl rfl rfl ?_
   refine ws tk h4 rfl rfl rfl rfl ?_
   refine rn tk 2 rfl ?_
   refine bs 15 hr rfl (fun c5 hr=> ?_) (fun c5 hr=> ?_)
   ·
    refine rn tk 1 rfl ?_
    obtain ⟨v6,h7,hr⟩:=zaa hr
    refine ug rfl rfl rfl ?_
    refine ws tk h7 rfl rfl rfl rfl ?_
    refine rn tk 4 rfl ?_
    refine bs 21 hr rfl (fun c8 hr=> ?_) (fun c8 hr=> ?_)
    ·
     refine rn tk 10 rfl ?_
     cases hr
     exact jn _ rfl rfl rfl
    ·
     refine rn tk 1 rfl ?_
     obtain ⟨v9,h10,hr⟩:=zaa hr
     refine ug rfl rfl rfl ?_
     refine wscH tk h10 rfl rfl rfl rfl ?_
     obtain ⟨v11,h12,hr⟩:=zaa hr
     refine ug rfl rfl rfl ?_
     refine cl (ZDa _ _ h12) rfl rfl ?_
     refine rn tk 3 rfl ?_
     refine bs 27 hr rfl (fun c13 hr=> ?_) (fun c13 hr=> ?_)
     ·
      refine rn tk 4 rfl ?_
      cases hr
      exact jn _ rfl rfl rfl
     ·
      refine rn tk 1 rfl ?_
      obtain ⟨v14,h15,hr⟩:=zaa hr
      refine ug rfl rfl rfl ?_
      refine cl (k2a _ _ _ h15) rfl rfl ?_
      refine rn tk 2 rfl ?_
      cases hr
      exact jn _ rfl rfl rfl
   ·
    refine rn tk 7 rfl ?_
    obtain ⟨v16,h17,hr⟩:=zaa hr
    refine ug rfl rfl rfl ?_
    refine wscH tk h17 rfl rfl rfl rfl ?_
    obtain ⟨v18,h19,hr⟩:=zaa hr
    refine ug rfl rfl rfl ?_
    refine cl (ZDa _ _ h19) rfl rfl ?_
    refine rn tk 3 rfl ?_
    refine bs 27 hr rfl (fun c20 hr=> ?_) (fun c20 hr=> ?_)
    ·
     refine rn tk 4 rfl ?_
     cases hr
     exact jn _ rfl rfl rfl
    ·
     refine rn tk 1 rfl ?_
     obtain ⟨v21,h22,hr⟩:=zaa hr
     refine ug rfl rfl rfl ?_
     refine cl (k2a _ _ _ h22) rfl rfl ?_
     refine rn tk 2 rfl ?_
     cases hr
     exact jn _ rfl rfl rfl
 ·
  refine ac 30 hr rfl (fun c23 hr=> ?_) (fun c23 hr=> ?_)
  ·
   refine rn tk 10 rfl ?_
   cases hr
   exact kr tk (.inr rfl) rfl rfl
  ·
   refine rn tk 5 rfl ?_
   obtain ⟨v24,h25,hr⟩:=zaa hr
   refine wscH tk h25 rfl rfl rfl rfl ?_
   obtain ⟨v26,h27,hr⟩:=zaa hr
   refine cl (Wna _ _ h27) rfl rfl ?_
   refine rn tk 8 rfl ?_
   obtain ⟨v28,h29,hr⟩:=zaa hr
   obtain ⟨v30,h31,hr⟩:=zaa hr
   obtain ⟨v32,h33,hr⟩:=zaa hr
   refine dr 10 [(3, .s v28),(2, .i v26.1),(44, .bo v32),(43, .i v26.1),(42, .bo (((v30.toNat:Int)==32))),(41, .u8 v30),(40, .s a0),(39, .s v28),(38, .s a0),(37, .i v26.1)] mixed (by kernel_rfl) rfl rfl (pq tk rfl (.plain rfl) (pq tk rfl (.plain rfl) (.run (.plain rfl) (qda (Wra rfl rfl zDa h29)) (pq tk rfl (.plain rfl) (.run (.plain rfl) (qda (ZPa rfl rfl zDa h31)) (pq tk rfl (.plain rfl) (pq tk rfl (.plain rfl) (.run (.plain rfl) (kda (K9a v26.1 v32 h33) rfl) (pq tk rfl (.plain rfl) (pq tk rfl (.plain rfl) .nil)))))))))) rfl ?_
   refine rn tk 5 rfl ?_
   cases hr
   exact kr tk (.inr rfl) rfl rfl
theorem Yza (a0:List Str) (r:kba × Int × zza) (hr:yOa a0=some r):Run Tryz.prog 60 [.l cS a0] (.tup [.agg [.i r.1.Code, .l cS r.1.Lines], .i r.2.1, .agg [.i r.2.2.Code, .i r.2.2.Index]]):=by
 unfold yOa at hr
 refine rf (fn:=Tryz.f60) ⟨Tryz.func60,rfl,by kernel_rfl⟩ rfl (fun _=> rfl) fun g0 hg=> ?_
 refine rn tk 11 rfl ?_
 refine wn tk rfl rfl rfl ?_
 refine rn tk 3 rfl ?_
 refine ac 15 hr rfl (fun c1 hr=> ?_) (fun c1 hr=> ?_)
 ·
  refine rn tk 3 rfl ?_
  obtain ⟨v2,h3,hr⟩:=zaa hr
  refine cl (zoa _ _ _ h3) rfl rfl ?_
  refine rn tk 7 rfl ?_
  cases hr
  exact kr tk (.inr rfl) rfl rfl
 ·
  refine rn tk 5 rfl ?_
  refine zWa 1005 (o:=5) (j:=1) 9 1 rfl rfl rfl rfl (hO ?_)
  refine rn tk 6 rfl ?_
  refine wn tk rfl rfl rfl ?_
  refine rn tk 4 rfl ?_
  refine al2 hr (fun s4=> [(2, .ptr 2 0),(4, .ptr 4 0),(5, .ptr 5 0),(18, .l cS a0),(19, .i ((a0.length:Int))),(20, .i s4.1)]) (fun s4=> [(1005, .row 9 false 1 (List.map cS s4.2.1)),(5, .cells [.i s4.2.2, .hs 1005 0]),(4, .cells [.i 0, .i 0]),(2, .cells [.i 0, .l cS ([])])]) (.exit 0) (fun b5=> [(2, .ptr 2 0),(4, .ptr 4 0)]) (fun b5=> [(4, .cells [.i 0, .i 0]),(2, .cells [.i 0, .l cS ([])])]) .ret (fun b6=> [(2, .ptr 2 0),(3, .i b6.2.1),(4, .ptr 4 0)]) (fun b6=> [(2, .cells [.i b6.1.Code, .l cS b6.1.Lines]),(4, .cells [.i b6.2.2.Code, .i b6.2.2.Index])]) rfl rfl (fun s4 x8 hr=> ?_) (fun b5 hr=> ?_) (fun b6 hr=> ?_)
  ·
   unfold wVa at hr
   refine rn tk 6 rfl ?_
   refine ac 21 hr rfl (fun c9 hr=> ?_) (fun c9 hr=> ?_)
   ·
    refine rn tk 7 rfl ?_
    obtain ⟨v10,h11,hr⟩:=zaa hr
    refine wi tk h11 rfl rfl rfl rfl rfl ?_
    refine rn tk 8 rfl ?_
    obtain ⟨v12,h13,hr⟩:=zaa hr
    refine cl (YUa _ _ h13) rfl rfl ?_
    refine rn tk 16 rfl ?_
    refine jb hr (fun j14=> [(2, .ptr 2 0),(4, .ptr 4 0),(5, .ptr 5 0),(6, .i s4.1),(8, .i v12.1),(9, .s v12.2.1),(10, .bo v12.2.2.1),(12, .i j14),(18, .l cS a0),(19, .i ((a0.length:Int))),(20, .i s4.1)]) (fun j14=> [(1005, .row 9 false 1 (List.map cS s4.2.1)),(5, .cells [.i s4.2.2, .hs 1005 0]),(4, .cells [.i 0, .i 0]),(2, .cells [.i 0, .l cS ([])])]) (fun j14 hr=> ?_) (fun j14 hr=> ?_)
    ·
     refine rn tk 8 rfl ?_
     refine ac 32 hr rfl (fun c15 hr=> ?_) (fun c15 hr=> ?_)
     ·
      refine rn tk 4 rfl ?_
      cases hr
      exact jn _ rfl rfl rfl
     ·
      refine rn tk 7 rfl ?_
      refine ac 35 hr rfl (fun c16 hr=> ?_) (fun c16 hr=> ?_)
      ·
       refine rn tk 4 rfl ?_
       cases hr
       exact jn _ rfl rfl rfl
      ·
       refine rn tk 8 rfl ?_
       refine ac 38 hr rfl (fun c17 hr=> ?_) (fun c17 hr=> ?_)
       ·
        refine rn tk 4 rfl ?_
        cases hr
        exact jn _ rfl rfl rfl
       ·
        refine jb hr (fun j18=> [(2, .ptr 2 0),(4, .ptr 4 0),(5, .ptr 5 0),(6, .i s4.1),(8, .i v12.1),(9, .s v12.2.1),(10, .bo v12.2.2.1),(12, .i 0),(18, .l cS a0),(19, .i ((a0.length:Int))),(20, .i s4.1),(42, .bo j18)]) (fun j18=> [(1005, .row 9 false 1 (List.map cS s4.2.1)),(5, .cells [.i s4.2.2, .hs 1005 0]),(4, .cells [.i 0, .i 0]),(2, .cells [.i 0, .l cS ([])])]) (fun j18 hr=> ?_) (fun j18 hr=> ?_)
        ·
         refine rn tk 4 rfl ?_
         refine bs 45 hr rfl (fun c19 hr=> ?_) (fun c19 hr=> ?_)
         ·
          refine rn tk 7 rfl ?_
          cases hr
          exact jn _ rfl rfl rfl
         ·
          refine rn tk 7 rfl ?_
          cases hr
          exact jn _ rfl rfl rfl
        ·
         refine ac 42 hr rfl (fun c20 hr=> ?_) (fun c20 hr=> ?_)
         ·
          refine rn tk 4 rfl ?_
          cases hr
          exact jn _ rfl rfl rfl
         ·
          refine rn tk 2 rfl ?_
          cases hr
          exact jn _ rfl rfl rfl
    ·
     refine rn tk 7 rfl ?_
     refine ac 52 hr rfl (fun c21 hr=> ?_) (fun c21 hr=> ?_)
     ·
      refine rn tk 5 rfl ?_
      obtain ⟨v22,h23,hr⟩:=zaa hr
      refine cl (zoa _ _ _ h23) rfl rfl ?_
      refine rn tk 9 rfl ?_
      cases hr
      exact ato rfl rfl rfl rfl
     ·
      refine rn tk 14 rfl ?_
      refine wz cS ([v12.2.1]:List Str) tk rfl rfl (fun _=> rfl) rfl rfl rfl ?_
      obtain ⟨v24,h25,hr⟩:=zaa hr
      refine wa tk h25 rfl rfl rfl rfl (fun _=> rfl) rfl rfl ?_
      refine rn tk 9 rfl ?_
      refine ac 65 hr rfl (fun c26 hr=> ?_) (fun c26 hr=> ?_)
      ·
       refine rn tk 1 rfl ?_
       obtain ⟨v27,h28,hr⟩:=zaa hr
       refine drX 4 5 4 8 [1,2] [(69, .agg [.i v27.Code, .i v27.Index]),(68, .i ((w64 (s4.1+1)))),(67, .i s4.1),(66, .agg [.i v12.1, .hs 1005 0])] [(2, .ptr 2 0),(4, .ptr 4 0),(68, .i ((w64 (s4.1+1)))),(69, .agg [.i v27.Code, .i v27.Index])] [(1005, .row 9 false 1 (List.map cS v24)),(5, .cells [.i v12.1, .hs 1005 0]),(4, .cells [.i 0, .i 0]),(2, .cells [.i v12.1, .hs 1005 0])] tk mixed (by kernel_rfl) rfl rfl rfl (pqX tk rfl (.plain rfl) (pqX tk rfl (.plain rfl) (pqX tk rfl (.plain rfl) (.run (.plain rfl) (kda (zSa v27 h28) rfl) .nil)))) rfl rfl rfl rfl (by kernel_rfl) ?_
       refine rn tk 4 rfl ?_
       refine Kua (o:=2) (j:=1) (F:=cS) (l:=v24) rfl rfl rfl (hC ?_)
       refine rn tk 3 rfl ?_
       cases hr
       exact ato rfl rfl rfl rfl
      ·
       refine rn tk 7 rfl ?_
       cases hr
       exact atc rfl rfl
   ·
    refine rn tk 2 rfl ?_
    cases hr
    exact ato rfl rfl rfl rfl
  ·
   refine rn tk 5 rfl ?_
   obtain ⟨v29,h30,hr⟩:=zaa hr
   refine cl (zoa _ _ _ h30) rfl rfl ?_
   refine rn tk 6 rfl ?_
   cases hr
   exact kr tk (.inr rfl) rfl rfl
  ·
   refine rn tk 2 rfl ?_
   cases hr
   exact kr tk (.inr rfl) rfl rfl
theorem Zta (a0:zfa) (r:Bool × zfa) (hr:kNa a0=some r):RunS Tryz.prog 36 [.ptr 90000000 0] [(90000000, .cells [.s a0.Client.Name, .s a0.Client.Mail.Envelope.From, .l zca.pc a0.Client.Mail.Envelope.To, .s a0.Client.Mail.Envelope.Id, .l zga.pc a0.Client.Mail.Message.Fields, .l cU a0.Client.Mail.Message.Body, .bo a0.Client.Pipelined, .l cU a0.Client.Buffer, .i a0.Client.Expected, .bo a0.Client.Whole, .bo a0.Client.Done, .hs 90000012 0, .l cU a0.content, .bo a0.chunk, .hs 90000015 0]),(90000012, .row 3 true 1 (List.map cI a0.Client.Results)),(90000015, .row 5 false 1 (List.map cU a0.out))] (.bo r.1) [(90000000, .cells [.s r.2.Client.Name, .s r.2.Client.Mail.Envelope.From, .l zca.pc r.2.Client.Mail.Envelope.To, .s r.2.Client.Mail.Envelope.Id, .l zga.pc r.2.Client.Mail.Message.Fields, .l cU r.2.Client.Mail.Message.Body, .bo r.2.Client.Pipelined, .l cU r.2.Client.Buffer, .i r.2.Client.Expected, .bo r.2.Client.Whole, .bo r.2.Client.Done, .hs 90000012 0, .l cU r.2.content, .bo r.2.chunk, .hs 90000015 0]),(90000012, .row 3 true 1 (List.map cI r.2.Client.Results)),(90000015, .row 5 false 1 (List.map cU r.2.out))] 90000000 [90000012,90000015]:=by
 unfold kNa at hr
 refine rfS (fn:=Tryz.f36) (H:=90000999) (.ptr 90000000 0) ⟨Tryz.func36,rfl,by kernel_rfl⟩ rfl (hasT rfl) (.inl ⟨rfl,rfl⟩) rfl rfl rfl rfl fun g0 hg S sg T=> ?_
 refine rn tk 8 rfl ?_
 refine ksa 1003 (d:=3) 9 1 rfl rfl rfl (hO ?_)
 refine rn tk 8 rfl ?_
 refine al1 hr (fun s1=> [(0, .ptr 90000000 0),(3, .hs 1003 0),(4, .i s1.1)]) (fun s1=> [(1003, .row 9 false 1 (List.map cS s1.2)),(90000999, .hold (.ptr 90000000 0) (T.getD 0 undef)),(90000000, .cells [.s a0.Client.Name, .s a0.Client.Mail.Envelope.From, .l zca.pc a0.Client.Mail.Envelope.To, .s a0.Client.Mail.Envelope.Id, .l zga.pc a0.Client.Mail.Message.Fields, .l cU a0.Client.Mail.Message.Body, .bo a0.Client.Pipelined, .l cU a0.Client.Buffer, .i a0.Client.Expected, .bo a0.Client.Whole, .bo a0.Client.Done, .hs 90000012 0, .l cU a0.content, .bo a0.chunk, .hs 90000015 0]),(90000012, .row 3 true 1 (List.map cI a0.Client.Results)),(90000015, .row 5 false 1 (List.map cU a0.out))]) .ret (fun b2=> [(2, .bo b2.1)]) (fun b2=> [(90000000, .cells [.s b2.2.Client.Name, .s b2.2.Client.Mail.Envelope.From, .l zca.pc b2.2.Client.Mail.Envelope.To, .s b2.2.Client.Mail.Envelope.Id, .l zga.pc b2.2.Client.Mail.Message.Fields, .l cU b2.2.Client.Mail.Message.Body, .bo b2.2.Client.Pipelined, .l cU b2.2.Client.Buffer, .i b2.2.Client.Expected, .bo b2.2.Client.Whole, .bo b2.2.Client.Done, .hs 90000012 0, .l cU b2.2.content, .bo b2.2.chunk, .hs 90000015 0]),(90000012, .row 3 true 1 (List.map cI b2.2.Client.Results)),(90000015, .row 5 false 1 (List.map cU b2.2.out)),(90000999, .hold (.ptr 90000000 0) (T.getD 0 undef))]) rfl rfl (fun s1 x3 hr=> ?_) (fun b2 hr=> ?_)
 ·
  unfold kna at hr
  refine rn tk 9 rfl ?_
  obtain ⟨v4,h5,hr⟩:=zaa hr
  refine wlL tk h5 rfl rfl rfl (fun _=> rfl) rfl ?_
  refine vda rfl (jna (F:=cU) (l:=([(13:UInt8),(10:UInt8)]:List UInt8)) zka zua rfl (fun _=> rfl) rfl rfl) zka zua (zra rfl) (zra rfl) rfl (hO ?_)
  obtain ⟨v6,h7,hr⟩:=zaa hr
  refine cl (Kga _ _ _ h7) rfl rfl ?_
  refine rn tk 10 rfl ?_
  refine ac 20 hr rfl (fun c8 hr=> ?_) (fun c8 hr=> ?_)
  ·
   refine rn tk 8 rfl ?_
   cases hr
   exact ato rfl rfl rfl rfl
  ·
   refine rn tk 14 rfl ?_
   obtain ⟨v9,h10,hr⟩:=zaa hr
   refine wlLH tk h10 rfl rfl rfl rfl (fun _=> rfl) rfl ?_
   refine wb tk rfl rfl rfl ?_
   refine wz cS ([v9]:List Str) tk rfl rfl (fun _=> rfl) rfl rfl rfl ?_
   obtain ⟨v11,h12,hr⟩:=zaa hr
   refine wa tk h12 rfl rfl rfl rfl (fun _=> rfl) rfl rfl ?_
   refine rn tk 15 rfl ?_
   refine j9a (d:=40) (F:=cS) (l:=v11) rfl rfl (hO ?_)
   obtain ⟨v13,h14,hr⟩:=zaa hr
   refine cl (Yza _ _ h14) rfl rfl ?_
   refine rn tk 12 rfl ?_
   refine jb hr (fun j15=> [(0, .ptr 90000000 0),(3, .hs 1003 0),(4, .i j15.1),(6, .ptr 6 0),(8, .ptr 8 0),(45, .bo j15.2)]) (fun j15=> [(8, .cells [.i v13.2.2.Code, .i v13.2.2.Index]),(6, .cells [.i v13.1.Code, .l cS v13.1.Lines]),(1003, .row 9 false 1 (List.map cS v11)),(90000999, .hold (.ptr 90000000 0) (T.getD 0 undef)),(90000000, .cells [.s a0.Client.Name, .s a0.Client.Mail.Envelope.From, .l zca.pc a0.Client.Mail.Envelope.To, .s a0.Client.Mail.Envelope.Id, .l zga.pc a0.Client.Mail.Message.Fields, .l cU a0.Client.Mail.Message.Body, .bo a0.Client.Pipelined, .l cU a0.Client.Buffer, .i a0.Client.Expected, .bo a0.Client.Whole, .bo a0.Client.Done, .hs 90000012 0, .l cU a0.content, .bo a0.chunk, .hs 90000015 0]),(90000012, .row 3 true 1 (List.map cI a0.Client.Results)),(90000015, .row 5 false 1 (List.map cU a0.out))]) (fun j15 hr=> ?_) (fun j15 hr=> ?_)
   ·
    refine rn tk 4 rfl ?_
    refine bs 48 hr rfl (fun c16 hr=> ?_) (fun c16 hr=> ?_)
    ·
     refine rn tk 11 rfl ?_
     cases hr
     exact jn _ rfl rfl rfl
    ·
     refine rn tk 4 rfl ?_
     refine bs 52 hr rfl (fun c17 hr=> ?_) (fun c17 hr=> ?_)
     ·
      refine rn tk 7 rfl ?_
      cases hr
      exact jn _ rfl rfl rfl
     ·
      refine rn tk 7 rfl ?_
      cases hr
      exact jn _ rfl rfl rfl
   ·
    refine ac 45 hr rfl (fun c18 hr=> ?_) (fun c18 hr=> ?_)
    ·
     refine rn tk 3 rfl ?_
     obtain ⟨v19,h20,hr⟩:=zaa hr
     refine wo (zya (k:=59) (wFa a0 v19 h20) rfl rfl (zba rfl (zba rfl (zba rfl zha)))) rfl ?_
     refine rn tk 10 rfl ?_
     cases hr
     exact ato rfl rfl rfl rfl
    ·
     refine rn tk 8 rfl ?_
     refine ac 60 hr rfl (fun c21 hr=> ?_) (fun c21 hr=> ?_)
     ·
      refine rn tk 9 rfl ?_
      obtain ⟨v22,h23,hr⟩:=zaa hr
      refine wlL tk h23 rfl rfl rfl (fun _=> rfl) rfl ?_
      refine rn tk 10 rfl ?_
      obtain ⟨v24,h25,hr⟩:=zaa hr
      refine wo (zya (k:=77) (Zsa ((zfa.mk ((zla.mk a0.Client.Name a0.Client.Mail a0.Client.Pipelined v22 a0.Client.Expected a0.Client.Whole a0.Client.Done a0.Client.Results)) a0.content a0.chunk a0.out)) v13.1 v24 h25) rfl rfl (zba rfl (zba rfl (zba rfl zha)))) rfl ?_
      refine rn tk 10 rfl ?_
      cases hr
      exact ato rfl rfl rfl rfl
     ·
      refine rn tk 3 rfl ?_
      cases hr
      exact atc rfl rfl
 ·
  refine rn tk 1 rfl ?_
  cases hr
  exact krS tk (.inr rfl) rfl rfl (zba rfl (zba rfl (zba rfl (zba rfl zha))))
theorem jda (a0:List (List UInt8)) (r:List UInt8) (hr:kxa a0=some r):Run Tryz.prog 34 [.l (cL cU) a0] (.l cU r):=by
 unfold kxa at hr
 refine rf (fn:=Tryz.f34) ⟨Tryz.func34,rfl,by kernel_rfl⟩ rfl (fun _=> rfl) fun g0 hg=> ?_
 refine rn tk 14 rfl ?_
 refine wn tk rfl rfl rfl ?_
 refine rn tk 4 rfl ?_
 refine al1 hr (fun s1=> [(0, .l (cL cU) a0),(3, .i s1.1),(9, .l (cL cU) a0),(10, .i ((a0.length:Int))),(11, .i s1.2)]) (fun s1=> []) (.exit 0) (fun b2=> [(0, .l (cL cU) a0),(3, .i b2)]) (fun b2=> []) rfl rfl (fun s1 x3 hr=> ?_) (fun b2 hr=> ?_)
 ·
  unfold kha at hr
  refine rn tk 6 rfl ?_
  refine ac 12 hr rfl (fun c4 hr=> ?_) (fun c4 hr=> ?_)
  ·
   refine rn tk 6 rfl ?_
   obtain ⟨v5,h6,hr⟩:=zaa hr
   refine wi tk h6 rfl rfl rfl rfl rfl ?_
   refine rn tk 8 rfl ?_
   refine wn tk rfl rfl rfl ?_
   refine rn tk 10 rfl ?_
   refine ac 20 hr rfl (fun c7 hr=> ?_) (fun c7 hr=> ?_)
   ·
    refine rn tk 1 rfl ?_
    cases hr
   ·
    refine rn tk 7 rfl ?_
    cases hr
    exact atc rfl rfl
  ·
   refine rn tk 2 rfl ?_
   cases hr
   exact ato rfl rfl rfl rfl
 ·
  refine rn tk 5 rfl ?_
  refine il (fn:=Tryz.f56) (args:= [.pv (.sl (some true) []), .i b2]) 100000 199999 [(0, .l (cL cU) a0)] rfl ⟨Tryz.func56,rfl,by kernel_rfl⟩ rfl rfl rfl fun T1 ds1=> ?_
  refine rn tk 12 rfl ?_
  refine ac 6 hr rfl (fun c8 hr=> ?_) (fun c8 hr=> ?_)
  ·
   refine rn tk 1 rfl ?_
   cases hr
  ·
   refine rn tk 7 rfl ?_
   refine wq (zwb rfl zka.u) rfl rfl rfl ?_
   refine rn tk 1 rfl ?_
   refine wq (zxb rfl zka.u) rfl rfl rfl ?_
   refine rn tk 11 rfl ?_
   refine ac 16 hr rfl (fun c9 hr=> ?_) (fun c9 hr=> ?_)
   ·
    refine rn tk 3 rfl ?_
    refine wq (zwb rfl zka.u) rfl rfl rfl ?_
    refine wq (ev_slnil rfl rfl zka zua) rfl rfl rfl ?_
    refine rn tk 1 rfl ?_
    obtain ⟨v10,h11,hr⟩:=zaa hr
    refine wo (zyb (k:=22) (F:=cU) (z:=((0:UInt8):UInt8)) (lim:=140737488355328) 1022 rfl rfl rfl rfl rfl zka qia zua rfl rfl rfl h11) rfl ?_
    refine rn tk 1 rfl ?_
    refine wq (zxb rfl zka.u) rfl rfl rfl ?_
    obtain ⟨v12,h13,hr⟩:=zaa hr
    refine wo (q9b (k:=25) (F:=cU) (l:=v10) rfl rfl rfl rfl zka zua h13) rfl ?_
    refine rn tk 10 rfl ?_
    refine ie tk [.hs 1022 0] [(0, .l (cL cU) a0)] [(1022, .row 5 true 1 (List.map cU v12))] (.inr rfl) rfl rfl rfl rfl (hO ?_)
    refine rn tk 7 rfl ?_
    refine wn tk rfl rfl rfl ?_
    refine rn tk 4 rfl ?_
    refine al1 hr (fun s14=> [(6, .hs 1022 0),(25, .l (cL cU) a0),(26, .i ((a0.length:Int))),(27, .i s14.1)]) (fun s14=> [(1022, .row 5 true 1 (List.map cU s14.2))]) (.exit 2) (fun b15=> [(6, .hs 1022 0)]) (fun b15=> [(1022, .row 5 true 1 (List.map cU b15))]) rfl rfl (fun s14 x16 hr=> ?_) (fun b15 hr=> ?_)
    ·
     unfold kia at hr
     refine rn tk 6 rfl ?_
     refine ac 28 hr rfl (fun c17 hr=> ?_) (fun c17 hr=> ?_)
     ·
      refine rn tk 6 rfl ?_
      obtain ⟨v18,h19,hr⟩:=zaa hr
      refine wi tk h19 rfl rfl rfl rfl rfl ?_
      refine rn tk 7 rfl ?_
      obtain ⟨v20,h21,hr⟩:=zaa hr
      refine wa tk h21 rfl rfl rfl rfl (fun _=> rfl) rfl rfl ?_
      refine rn tk 8 rfl ?_
      cases hr
      exact atc rfl rfl
     ·
      refine rn tk 2 rfl ?_
      cases hr
      exact ato rfl rfl rfl rfl
    ·
     refine rn tk 8 rfl ?_
     refine Zda 1022 rfl (hC ?_)
     refine vba (d:=2) (F:=cU) (l:=b15) rfl rfl (hC ?_)
     refine rn tk 1 rfl ?_
     cases hr
     exact kr tk (.inr rfl) rfl rfl
   ·
    refine rn tk 5 rfl ?_
    refine ksa 1026 (d:=26) 5 1 rfl rfl rfl (hO ?_)
    refine rn tk 4 rfl ?_
    refine ie tk [.hs 1026 0] [(0, .l (cL cU) a0)] [(1026, .row 5 false 1 (List.map cU (([]:List UInt8))))] (.inr rfl) rfl rfl rfl rfl (hO ?_)
    refine rn tk 7 rfl ?_
    refine wn tk rfl rfl rfl ?_
    refine rn tk 4 rfl ?_
    refine al1 hr (fun s22=> [(6, .hs 1026 0),(25, .l (cL cU) a0),(26, .i ((a0.length:Int))),(27, .i s22.1)]) (fun s22=> [(1026, .row 5 false 1 (List.map cU s22.2))]) (.exit 2) (fun b23=> [(6, .hs 1026 0)]) (fun b23=> [(1026, .row 5 false 1 (List.map cU b23))]) rfl rfl (fun s22 x24 hr=> ?_) (fun b23 hr=> ?_)
    ·
     unfold kCa at hr
     refine rn tk 6 rfl ?_
     refine ac 28 hr rfl (fun c25 hr=> ?_) (fun c25 hr=> ?_)
     ·
      refine rn tk 6 rfl ?_
      obtain ⟨v26,h27,hr⟩:=zaa hr
      refine wi tk h27 rfl rfl rfl rfl rfl ?_
      refine rn tk 7 rfl ?_
      obtain ⟨v28,h29,hr⟩:=zaa hr
      refine wa tk h29 rfl rfl rfl rfl (fun _=> rfl) rfl rfl ?_
      refine rn tk 8 rfl ?_
      cases hr
      exact atc rfl rfl
     ·
      refine rn tk 2 rfl ?_
      cases hr
      exact ato rfl rfl rfl rfl
    ·
     refine rn tk 8 rfl ?_
     refine vba (d:=2) (F:=cU) (l:=b23) rfl rfl (hC ?_)
     refine rn tk 1 rfl ?_
     cases hr
     exact kr tk (.inr rfl) rfl rfl
theorem jea (a0:zla) (a1:List UInt8) (r:zla × (List UInt8) × zza) (hr:v5a a0 a1=some r):Run Tryz.prog 15 [.agg [.s a0.Name, .s a0.Mail.Envelope.From, .l zca.pc a0.Mail.Envelope.To, .s a0.Mail.Envelope.Id, .l zga.pc a0.Mail.Message.Fields, .l cU a0.Mail.Message.Body, .bo a0.Pipelined, .l cU a0.Buffer, .i a0.Expected, .bo a0.Whole, .bo a0.Done, .l cI a0.Results], .l cU a1] (.tup [.agg [.s r.1.Name, .s r.1.Mail.Envelope.From, .l zca.pc r.1.Mail.Envelope.To, .s r.1.Mail.Envelope.Id, .l zga.pc r.1.Mail.Message.Fields, .l cU r.1.Mail.Message.Body, .bo r.1.Pipelined, .l cU r.1.Buffer, .i r.1.Expected, .bo r.1.Whole, .bo r.1.Done, .l cI r.1.Results], .l cU r.2.1, .agg [.i r.2.2.Code, .i r.2.2.Index]]):=by
 unfold v5a at hr
 refine rf (fn:=Tryz.f15) ⟨Tryz.func15,rfl,by kernel_rfl⟩ rfl (fun _=> rfl) fun g0 hg=> ?_
 refine rn tk 12 rfl ?_
 obtain ⟨v1,h2,hr⟩:=zaa hr
 refine cl (ZAa _ _ h2) rfl rfl ?_
 refine rn tk 7 rfl ?_
 obtain ⟨v3,h4,hr⟩:=zaa hr
 refine cl (z2a _ _ h4) rfl rfl ?_
 refine rn tk 2 rfl ?_
 refine ac 12 hr rfl (fun c5 hr=> ?_) (fun c5 hr=> ?_)
 ·
  refine rn tk 1 rfl ?_
  refine drX 2 4 4 4 [1] [(14, .agg [.i v1.Code, .i v1.Index]),(13, .agg [.s (([]:Str)), .s (([]:Str)), .pv (.sl (some true) []), .s (([]:Str)), .pv (.sl (some true) []), .pv (.sl (some true) []), .bo false, .pv (.sl (some true) []), .i 0, .bo false, .bo false, .pv (.sl (some true) [])])] [(4, .ptr 4 0),(5, .pv (.sl (some true) [])),(6, .ptr 6 0),(14, .agg [.i v1.Code, .i v1.Index])] [(7, .cells [.i v1.Code, .i v1.Index]),(6, .cells [.i 0, .i 0]),(4, .cells [.s (([]:Str)), .s (([]:Str)), .pv (.sl (some true) []), .s (([]:Str)), .pv (.sl (some true) []), .pv (.sl (some true) []), .bo false, .pv (.sl (some true) []), .i 0, .bo false, .bo false, .pv (.sl (some true) [])]),(2, .cells [.s a0.Name, .s a0.Mail.Envelope.From, .l zca.pc a0.Mail.Envelope.To, .s a0.Mail.Envelope.Id, .l zga.pc a0.Mail.Message.Fields, .l cU a0.Mail.Message.Body, .bo a0.Pipelined, .l cU a0.Buffer, .i a0.Expected, .bo a0.Whole, .bo a0.Done, .l cI a0.Results])] tk mixed (by kernel_rfl) rfl rfl rfl (pqX tk rfl (.plain rfl) (pqX tk rfl (.plain rfl) .nil)) rfl rfl rfl rfl (by kernel_rfl) ?_
  refine rn tk 5 rfl ?_
  cases hr
  exact kr tk (.inr rfl) rfl rfl
 ·
  refine rn tk 7 rfl ?_
  refine wn tk rfl rfl rfl ?_
  refine rn tk 1 rfl ?_
  refine wn tk rfl rfl rfl ?_
  refine rn tk 4 rfl ?_
  refine ac 21 hr rfl (fun c6 hr=> ?_) (fun c6 hr=> ?_)
  ·
   refine rn tk 3 rfl ?_
   obtain ⟨v7,h8,hr⟩:=zaa hr
   refine cl (zoa _ _ _ h8) rfl rfl ?_
   refine rn tk 7 rfl ?_
   cases hr
   exact kr tk (.inr rfl) rfl rfl
  ·
   refine rn tk 3 rfl ?_
   obtain ⟨v9,h10,hr⟩:=zaa hr
   obtain ⟨v11,h12,hr⟩:=zaa hr
   refine drX 7 7 1 1 [] [(30, .ptr 2 1),(29, .hs 1029 0),(28, .l cI a0.Results),(27, .ptr 2 11),(26, .agg [.s v9.Envelope.From, .l zca.pc v9.Envelope.To, .s v9.Envelope.Id, .l zga.pc v9.Message.Fields, .l cU v9.Message.Body]),(25, .agg [.s a0.Mail.Envelope.From, .l zca.pc a0.Mail.Envelope.To, .s a0.Mail.Envelope.Id, .l zga.pc a0.Mail.Message.Fields, .l cU a0.Mail.Message.Body]),(24, .ptr 2 1)] [(1, .l cU a1),(2, .ptr 2 0),(4, .ptr 4 0),(6, .ptr 6 0),(26, .agg [.s v9.Envelope.From, .l zca.pc v9.Envelope.To, .s v9.Envelope.Id, .l zga.pc v9.Message.Fields, .l cU v9.Message.Body]),(29, .hs 1029 0),(30, .ptr 2 1)] [(1029, .row 3 true 1 (List.map cI v11)),(7, .cells [.i v1.Code, .i v1.Index]),(6, .cells [.i 0, .i 0]),(4, .cells [.s (([]:Str)), .s (([]:Str)), .pv (.sl (some true) []), .s (([]:Str)), .pv (.sl (some true) []), .pv (.sl (some true) []), .bo false, .pv (.sl (some true) []), .i 0, .bo false, .bo false, .pv (.sl (some true) [])]),(2, .cells [.s a0.Name, .s a0.Mail.Envelope.From, .l zca.pc a0.Mail.Envelope.To, .s a0.Mail.Envelope.Id, .l zga.pc a0.Mail.Message.Fields, .l cU a0.Mail.Message.Body, .bo a0.Pipelined, .l cU a0.Buffer, .i a0.Expected, .bo a0.Whole, .bo a0.Done, .l cI a0.Results])] tk mixed (by kernel_rfl) rfl rfl rfl (pqX tk rfl (.plain rfl) (pqX tk rfl (.plain rfl) (.run (.plain rfl) (kda (wSa a0.Mail v9 h10) rfl) (pqX tk rfl (.plain rfl) (pqX tk rfl (.plain rfl) (.new 1029 (.plain rfl) (VUa 1029 (vUa a0.Results v11 h12) rfl) (pqX tk rfl (.plain rfl) .nil))))))) rfl rfl rfl rfl (by kernel_rfl) ?_
   refine rn tk 10 rfl ?_
   refine wz (cL cU) ([a0.Buffer,a1]:List (List UInt8)) tk rfl rfl (fun _=> rfl) rfl rfl rfl ?_
   obtain ⟨v13,h14,hr⟩:=zaa hr
   refine cl (jda _ _ h14) rfl rfl ?_
   refine rn tk 8 rfl ?_
   refine wo (Kta (k:=40) 90000000 rfl rfl rfl rfl rfl) rfl ?_
   refine rn tk 1 rfl ?_
   refine JSa 1029 90000012 rfl rfl rfl rfl rfl rfl (hO ?_)
   refine zWa 90000015 (o:=90000000) (j:=14) 5 1 rfl rfl rfl rfl (hO ?_)
   refine rn tk 9 rfl ?_
   obtain ⟨v15,h16,hr⟩:=zaa hr
   refine cl (jya _ _ h16) rfl rfl ?_
   refine rn tk 13 rfl ?_
   refine al1 hr (fun s17=> [(4, .ptr 4 0),(6, .ptr 6 0),(8, .ptr 90000000 0)]) (fun s17=> [(90000015, .row 5 false 1 (List.map cU s17.out)),(90000012, .row 3 true 1 (List.map cI s17.Client.Results)),(90000000, .cells [.s s17.Client.Name, .s s17.Client.Mail.Envelope.From, .l zca.pc s17.Client.Mail.Envelope.To, .s s17.Client.Mail.Envelope.Id, .l zga.pc s17.Client.Mail.Message.Fields, .l cU s17.Client.Mail.Message.Body, .bo s17.Client.Pipelined, .l cU s17.Client.Buffer, .i s17.Client.Expected, .bo s17.Client.Whole, .bo s17.Client.Done, .hs 90000012 0, .l cU s17.content, .bo s17.chunk, .hs 90000015 0]),(6, .cells [.i 0, .i 0]),(4, .cells [.s (([]:Str)), .s (([]:Str)), .l zca.pc ([]), .s (([]:Str)), .l zga.pc ([]), .l cU ([]), .bo false, .l cU ([]), .i 0, .bo false, .bo false, .l cI ([])])]) (.exit 0) (fun b18=> [(4, .ptr 4 0),(6, .ptr 6 0),(8, .ptr 90000000 0)]) (fun b18=> [(90000000, .cells [.s b18.Client.Name, .s b18.Client.Mail.Envelope.From, .l zca.pc b18.Client.Mail.Envelope.To, .s b18.Client.Mail.Envelope.Id, .l zga.pc b18.Client.Mail.Message.Fields, .l cU b18.Client.Mail.Message.Body, .bo b18.Client.Pipelined, .l cU b18.Client.Buffer, .i b18.Client.Expected, .bo b18.Client.Whole, .bo b18.Client.Done, .hs 90000012 0, .l cU b18.content, .bo b18.chunk, .hs 90000015 0]),(90000012, .row 3 true 1 (List.map cI b18.Client.Results)),(90000015, .row 5 false 1 (List.map cU b18.out)),(6, .cells [.i 0, .i 0]),(4, .cells [.s (([]:Str)), .s (([]:Str)), .l zca.pc ([]), .s (([]:Str)), .l zga.pc ([]), .l cU ([]), .bo false, .l cU ([]), .i 0, .bo false, .bo false, .l cI ([])])]) rfl rfl (fun s17 x19 hr=> ?_) (fun b18 hr=> ?_)
   ·
    unfold qoa at hr
    refine rn tk 1 rfl ?_
    refine jb hr (fun j20=> [(4, .ptr 4 0),(6, .ptr 6 0),(8, .ptr 90000000 0),(63, .bo j20.1)]) (fun j20=> [(90000000, .cells [.s j20.2.Client.Name, .s j20.2.Client.Mail.Envelope.From, .l zca.pc j20.2.Client.Mail.Envelope.To, .s j20.2.Client.Mail.Envelope.Id, .l zga.pc j20.2.Client.Mail.Message.Fields, .l cU j20.2.Client.Mail.Message.Body, .bo j20.2.Client.Pipelined, .l cU j20.2.Client.Buffer, .i j20.2.Client.Expected, .bo j20.2.Client.Whole, .bo j20.2.Client.Done, .hs 90000012 0, .l cU j20.2.content, .bo j20.2.chunk, .hs 90000015 0]),(90000012, .row 3 true 1 (List.map cI j20.2.Client.Results)),(90000015, .row 5 false 1 (List.map cU j20.2.out)),(6, .cells [.i 0, .i 0]),(4, .cells [.s (([]:Str)), .s (([]:Str)), .l zca.pc ([]), .s (([]:Str)), .l zga.pc ([]), .l cU ([]), .bo false, .l cU ([]), .i 0, .bo false, .bo false, .l cI ([])])]) (fun j20 hr=> ?_) (fun j20 hr=> ?_)
    ·
     refine rn tk 8 rfl ?_
     refine bs 60 hr rfl (fun c21 hr=> ?_) (fun c21 hr=> ?_)
     ·
      refine rn tk 1 rfl ?_
      obtain ⟨v22,h23,hr⟩:=zaa hr
      refine ug rfl rfl rfl ?_
      refine wo (zya (k:=62) (Zta s17 v22 h23) rfl rfl (zba rfl (zba rfl (zba rfl zha)))) rfl ?_
      refine rn tk 2 rfl ?_
      cases hr
      exact jn _ rfl rfl rfl
     ·
      refine rn tk 4 rfl ?_
      cases hr
      exact jn _ rfl rfl rfl
    ·
     refine ac 63 hr rfl (fun c24 hr=> ?_) (fun c24 hr=> ?_)
     ·
      refine rn tk 5 rfl ?_
      cases hr
      exact atc rfl rfl
     ·
      refine rn tk 2 rfl ?_
      cases hr
      exact ato rfl rfl rfl rfl
   ·
    refine rn tk 2 rfl ?_
    refine jb hr (fun j25=> [(4, .ptr 4 0),(6, .ptr 6 0),(8, .ptr 90000000 0)]) (fun j25=> [(90000000, .cells [.s j25.Client.Name, .s j25.Client.Mail.Envelope.From, .l zca.pc j25.Client.Mail.Envelope.To, .s j25.Client.Mail.Envelope.Id, .l zga.pc j25.Client.Mail.Message.Fields, .l cU j25.Client.Mail.Message.Body, .bo j25.Client.Pipelined, .l cU j25.Client.Buffer, .i j25.Client.Expected, .bo j25.Client.Whole, .bo j25.Client.Done, .hs 90000012 0, .l cU j25.content, .bo j25.chunk, .hs 90000015 0]),(90000012, .row 3 true 1 (List.map cI j25.Client.Results)),(90000015, .row 5 false 1 (List.map cU j25.out)),(6, .cells [.i 0, .i 0]),(4, .cells [.s (([]:Str)), .s (([]:Str)), .l zca.pc ([]), .s (([]:Str)), .l zga.pc ([]), .l cU ([]), .bo false, .l cU ([]), .i 0, .bo false, .bo false, .l cI ([])])]) (fun j25 hr=> ?_) (fun j25 hr=> ?_)
    ·
     refine rn tk 8 rfl ?_
     refine ct hr (fun j26=> [(4, .ptr 4 0),(6, .ptr 6 0),(8, .ptr 90000000 0),(64, .ptr 90000000 0),(70, .l cU j26)]) (fun j26=> [(90000000, .cells [.s b18.Client.Name, .s b18.Client.Mail.Envelope.From, .l zca.pc b18.Client.Mail.Envelope.To, .s b18.Client.Mail.Envelope.Id, .l zga.pc b18.Client.Mail.Message.Fields, .l cU b18.Client.Mail.Message.Body, .bo b18.Client.Pipelined, .l cU b18.Client.Buffer, .i b18.Client.Expected, .bo b18.Client.Whole, .bo b18.Client.Done, .hs 90000012 0, .l cU b18.content, .bo b18.chunk, .hs 90000015 0]),(90000012, .row 3 true 1 (List.map cI b18.Client.Results)),(90000015, .row 5 false 1 (List.map cU b18.out)),(6, .cells [.i 0, .i 0]),(4, .cells [.s (([]:Str)), .s (([]:Str)), .l zca.pc ([]), .s (([]:Str)), .l zga.pc ([]), .l cU ([]), .bo false, .l cU ([]), .i 0, .bo false, .bo false, .l cI ([])])]) (fun j26 hr jump2=> ?_) (fun j26 hr=> ?_)
     ·
      refine il (fn:=Tryz.f37) (args:= [.l cU b18.Client.Buffer]) 200000 299999 [(4, .ptr 4 0),(6, .ptr 6 0),(8, .ptr 90000000 0),(64, .ptr 90000000 0)] rfl ⟨Tryz.func37,rfl,by kernel_rfl⟩ rfl rfl rfl fun T2 ds2=> ?_
      refine rn tk 9 rfl ?_
      refine jMa (d:=3) (F:=cU) (l:=b18.Client.Buffer) rfl rfl rfl zka (fun c27=> hO ?_) (hO ?_)
      ·
       replace hr:=QHa c27 hr
       refine rn tk 10 rfl ?_
       refine ie tk [.pv (.sl (some true) [])] [(4, .ptr 4 0),(6, .ptr 6 0),(8, .ptr 90000000 0),(64, .ptr 90000000 0)] [(90000000, .cells [.s b18.Client.Name, .s b18.Client.Mail.Envelope.From, .l zca.pc b18.Client.Mail.Envelope.To, .s b18.Client.Mail.Envelope.Id, .l zga.pc b18.Client.Mail.Message.Fields, .l cU b18.Client.Mail.Message.Body, .bo b18.Client.Pipelined, .l cU b18.Client.Buffer, .i b18.Client.Expected, .bo b18.Client.Whole, .bo b18.Client.Done, .hs 90000012 0, .l cU b18.content, .bo b18.chunk, .hs 90000015 0]),(90000012, .row 3 true 1 (List.map cI b18.Client.Results)),(90000015, .row 5 false 1 (List.map cU b18.out)),(6, .cells [.i 0, .i 0]),(4, .cells [.s (([]:Str)), .s (([]:Str)), .l zca.pc ([]), .s (([]:Str)), .l zga.pc ([]), .l cU ([]), .bo false, .l cU ([]), .i 0, .bo false, .bo false, .l cI ([])])] (.inr rfl) rfl rfl rfl rfl ?_
       cases hr
       exact jump2 _ _ rfl rfl
      ·
       replace hr:=QIa hr
       refine rn tk 7 rfl ?_
       refine wo (ZRa (k:=5) rfl zka zua) rfl ?_
       refine rn tk 1 rfl ?_
       obtain ⟨v28,h29,hr⟩:=zaa hr
       refine wo (wYa (k:=7) (F:=cU) (xs:=b18.Client.Buffer) (lim:=140737488355328) 1002 rfl rfl rfl zka zua rfl rfl (fun _=> rfl) rfl rfl rfl h29) rfl ?_
       refine rn tk 3 rfl ?_
       refine Zda 1002 rfl (hC ?_)
       refine vba (d:=2) (F:=cU) (l:=v28) rfl rfl (hC ?_)
       refine rn tk 1 rfl ?_
       refine ie tk [.l cU v28] [(4, .ptr 4 0),(6, .ptr 6 0),(8, .ptr 90000000 0),(64, .ptr 90000000 0)] [(1002, .row 5 false 1 (List.map cU v28)),(90000000, .cells [.s b18.Client.Name, .s b18.Client.Mail.Envelope.From, .l zca.pc b18.Client.Mail.Envelope.To, .s b18.Client.Mail.Envelope.Id, .l zga.pc b18.Client.Mail.Message.Fields, .l cU b18.Client.Mail.Message.Body, .bo b18.Client.Pipelined, .l cU b18.Client.Buffer, .i b18.Client.Expected, .bo b18.Client.Whole, .bo b18.Client.Done, .hs 90000012 0, .l cU b18.content, .bo b18.chunk, .hs 90000015 0]),(90000012, .row 3 true 1 (List.map cI b18.Client.Results)),(90000015, .row 5 false 1 (List.map cU b18.out)),(6, .cells [.i 0, .i 0]),(4, .cells [.s (([]:Str)), .s (([]:Str)), .l zca.pc ([]), .s (([]:Str)), .l zga.pc ([]), .l cU ([]), .bo false, .l cU ([]), .i 0, .bo false, .bo false, .l cI ([])])] (.inr rfl) rfl rfl rfl rfl ?_
       cases hr
       exact jump2 _ _ rfl rfl
     ·
      refine rn tk 15 rfl ?_
      refine ac 78 hr rfl (fun c30 hr=> ?_) (fun c30 hr=> ?_)
      ·
       refine rn tk 7 rfl ?_
       cases hr
       exact jn _ rfl rfl rfl
      ·
       refine rn tk 1 rfl ?_
       cases hr
       exact jn _ rfl rfl rfl
    ·
     refine rn tk 1 rfl ?_
     obtain ⟨v31,h32,hr⟩:=zaa hr
     refine drX 9 10 6 73 [4,5,6,7] [(91, .agg [.i v31.Code, .i v31.Index]),(90, .hs 90000015 0),(89, .ptr 90000000 14),(88, .ptr 90000000 0),(87, .ptr 90000000 0),(86, .agg [.s j25.Client.Name, .s j25.Client.Mail.Envelope.From, .l zca.pc j25.Client.Mail.Envelope.To, .s j25.Client.Mail.Envelope.Id, .l zga.pc j25.Client.Mail.Message.Fields, .l cU j25.Client.Mail.Message.Body, .bo j25.Client.Pipelined, .l cU j25.Client.Buffer, .i j25.Client.Expected, .bo j25.Client.Whole, .bo j25.Client.Done, .hs 90000012 0]),(85, .ptr 90000000 0),(84, .ptr 90000000 0),(83, .ptr 90000000 0)] [(4, .ptr 4 0),(6, .ptr 6 0),(90, .hs 90000015 0),(91, .agg [.i v31.Code, .i v31.Index])] [(90000000, .cells [.s j25.Client.Name, .s j25.Client.Mail.Envelope.From, .l zca.pc j25.Client.Mail.Envelope.To, .s j25.Client.Mail.Envelope.Id, .l zga.pc j25.Client.Mail.Message.Fields, .l cU j25.Client.Mail.Message.Body, .bo j25.Client.Pipelined, .l cU j25.Client.Buffer, .i j25.Client.Expected, .bo j25.Client.Whole, .bo j25.Client.Done, .hs 90000012 0, .l cU j25.content, .bo j25.chunk, .hs 90000015 0]),(90000012, .row 3 true 1 (List.map cI j25.Client.Results)),(90000015, .row 5 false 1 (List.map cU j25.out)),(6, .cells [.i 0, .i 0]),(4, .cells [.s j25.Client.Name, .s j25.Client.Mail.Envelope.From, .l zca.pc j25.Client.Mail.Envelope.To, .s j25.Client.Mail.Envelope.Id, .l zga.pc j25.Client.Mail.Message.Fields, .l cU j25.Client.Mail.Message.Body, .bo j25.Client.Pipelined, .l cU j25.Client.Buffer, .i j25.Client.Expected, .bo j25.Client.Whole, .bo j25.Client.Done, .hs 90000012 0])] tk mixed (by kernel_rfl) rfl rfl rfl (pqX tk rfl (.plain rfl) (pqX tk rfl (.plain rfl) (pqX tk rfl (.plain rfl) (pqX tk rfl (.plain rfl) (pqX tk rfl (.plain rfl) (pqX tk rfl (.plain rfl) (pqX tk rfl (.plain rfl) (pqX tk rfl (.plain rfl) (.run (.plain rfl) (kda (zSa v31 h32) rfl) .nil))))))))) rfl rfl rfl rfl (by kernel_rfl) ?_
     refine rn tk 4 rfl ?_
     refine Zda 90000012 rfl (hC ?_)
     refine Kua (o:=4) (j:=11) (F:=cI) (l:=j25.Client.Results) rfl rfl rfl (hC ?_)
     refine vba (d:=5) (F:=cU) (l:=j25.out) rfl rfl (hC ?_)
     refine rn tk 1 rfl ?_
     cases hr
     exact kr tk (.inr rfl) rfl rfl
theorem Woa (a0:Str) (a1:kea) (a2:Bool) (r:zla × zza) (hr:w8a a0 a1 a2=some r):Run Tryz.prog 7 [.s a0, .agg [.s a1.Envelope.From, .l zca.pc a1.Envelope.To, .s a1.Envelope.Id, .l zga.pc a1.Message.Fields, .l cU a1.Message.Body], .bo a2] (.tup [.agg [.s r.1.Name, .s r.1.Mail.Envelope.From, .l zca.pc r.1.Mail.Envelope.To, .s r.1.Mail.Envelope.Id, .l zga.pc r.1.Mail.Message.Fields, .l cU r.1.Mail.Message.Body, .bo r.1.Pipelined, .l cU r.1.Buffer, .i r.1.Expected, .bo r.1.Whole, .bo r.1.Done, .l cI r.1.Results], .agg [.i r.2.Code, .i r.2.Index]]):=by
 unfold w8a at hr
 refine rf (fn:=Tryz.f7) ⟨Tryz.func7,rfl,by kernel_rfl⟩ rfl (fun _=> rfl) fun g0 hg=> ?_
 refine rn tk 12 rfl ?_
 obtain ⟨v1,h2,hr⟩:=zaa hr
 refine cl (Zza _ _ _ h2) rfl rfl ?_
 refine rn tk 7 rfl ?_
 obtain ⟨v3,h4,hr⟩:=zaa hr
 refine cl (z2a _ _ h4) rfl rfl ?_
 refine rn tk 2 rfl ?_
 refine ac 13 hr rfl (fun c5 hr=> ?_) (fun c5 hr=> ?_)
 ·
  refine rn tk 1 rfl ?_
  refine drX 2 3 3 3 [1] [(15, .agg [.i v1.Code, .i v1.Index]),(14, .agg [.s (([]:Str)), .s (([]:Str)), .pv (.sl (some true) []), .s (([]:Str)), .pv (.sl (some true) []), .pv (.sl (some true) []), .bo false, .pv (.sl (some true) []), .i 0, .bo false, .bo false, .pv (.sl (some true) [])])] [(6, .ptr 6 0),(7, .ptr 7 0),(15, .agg [.i v1.Code, .i v1.Index])] [(8, .cells [.i v1.Code, .i v1.Index]),(7, .cells [.i 0, .i 0]),(6, .cells [.s (([]:Str)), .s (([]:Str)), .pv (.sl (some true) []), .s (([]:Str)), .pv (.sl (some true) []), .pv (.sl (some true) []), .bo false, .pv (.sl (some true) []), .i 0, .bo false, .bo false, .pv (.sl (some true) [])]),(4, .cells [.s a1.Envelope.From, .l zca.pc a1.Envelope.To, .s a1.Envelope.Id, .l zga.pc a1.Message.Fields, .l cU a1.Message.Body])] tk mixed (by kernel_rfl) rfl rfl rfl (pqX tk rfl (.plain rfl) (pqX tk rfl (.plain rfl) .nil)) rfl rfl rfl rfl (by kernel_rfl) ?_
  refine rn tk 5 rfl ?_
  cases hr
  exact kr tk (.inr rfl) rfl rfl
 ·
  refine rn tk 3 rfl ?_
  obtain ⟨v6,h7,hr⟩:=zaa hr
  obtain ⟨v8,h9,hr⟩:=zaa hr
  obtain ⟨v10,h11,hr⟩:=zaa hr
  refine dr 11 [(26, .agg [.i v10.Code, .i v10.Index]),(25, .agg [.s a0, .s v6.Envelope.From, .l zca.pc v6.Envelope.To, .s v6.Envelope.Id, .l zga.pc v6.Message.Fields, .l cU v6.Message.Body, .bo a2, .pv (.sl (some true) []), .i 0, .bo false, .bo false, .l cI v8]),(24, .l cI v8),(23, .i ((a1.Envelope.To.length:Int))),(22, .l zca.pc a1.Envelope.To),(21, .ptr 4 1),(20, .ptr 4 0),(19, .bo a2),(18, .agg [.s v6.Envelope.From, .l zca.pc v6.Envelope.To, .s v6.Envelope.Id, .l zga.pc v6.Message.Fields, .l cU v6.Message.Body]),(17, .agg [.s a1.Envelope.From, .l zca.pc a1.Envelope.To, .s a1.Envelope.Id, .l zga.pc a1.Message.Fields, .l cU a1.Message.Body]),(16, .s a0)] mixed (by kernel_rfl) rfl rfl (pq tk rfl (.plain rfl) (pq tk rfl (.plain rfl) (.run (.plain rfl) (kda (wSa a1 v6 h7) rfl) (pq tk rfl (.plain rfl) (pq tk rfl (.plain rfl) (pq tk rfl (.plain rfl) (pq tk rfl (.plain rfl) (.run (.plain rfl) (qda (vDa (f:=zca.pc) rfl zLa.u)) (.run (.plain rfl) (opG_make (F:=cI) (z:=(0:Int)) (lim:=17592186044416) rfl jpa qia (fun _=> rfl) rfl rfl rfl h9) (pq tk rfl (.plain rfl) (.run (.plain rfl) (kda (zSa v10 h11) rfl) .nil))))))))))) rfl ?_
  refine rn tk 5 rfl ?_
  cases hr
  exact kr tk (.inr rfl) rfl rfl
theorem V8a (r:Bool) (hr:KDa=some r):Run Tryz.prog 11 [] (.bo r):=by
 unfold KDa at hr
 refine rf (fn:=Tryz.f11) ⟨Tryz.func11,rfl,by kernel_rfl⟩ rfl (fun _=> rfl) fun g0 hg=> ?_
 refine rn tk 7 rfl ?_
 refine wz cS ([([97,64,121]:Str)]:List Str) tk rfl rfl (fun _=> rfl) rfl rfl rfl ?_
 obtain ⟨v1,h2,hr⟩:=zaa hr
 refine cl (kjb _ _ h2) rfl rfl ?_
 obtain ⟨v3,h4,hr⟩:=zaa hr
 refine cl (Woa _ _ _ _ h4) rfl rfl ?_
 refine rn tk 12 rfl ?_
 refine vda rfl (jna (F:=cU) (l:=([(50:UInt8),(50:UInt8),(48:UInt8),(32:UInt8),(109:UInt8),(120:UInt8),(13:UInt8),(10:UInt8)]:List UInt8)) zka zua rfl (fun _=> rfl) rfl (by kernel_rfl)) zka zua (zra rfl) (zra rfl) rfl (hO ?_)
 obtain ⟨v5,h6,hr⟩:=zaa hr
 refine cl (jea _ _ _ h6) rfl rfl ?_
 refine rn tk 14 rfl ?_
 refine vda rfl (jna (F:=cU) (l:=([(50:UInt8),(53:UInt8),(48:UInt8),(45:UInt8),(109:UInt8),(120:UInt8),(13:UInt8),(10:UInt8),(50:UInt8),(53:UInt8),(48:UInt8),(32:UInt8),(111:UInt8),(107:UInt8),(13:UInt8),(10:UInt8)]:List UInt8)) zka zua rfl (fun _=> rfl) rfl (by kernel_rfl)) zka zua (zra rfl) (zra rfl) rfl (hO ?_)
 obtain ⟨v7,h8,hr⟩:=zaa hr
 refine cl (jea _ _ _ h8) rfl rfl ?_
 refine rn tk 14 rfl ?_
 obtain ⟨v9,h10,hr⟩:=zaa hr
 refine cl (ZBa _ _ h10) rfl rfl ?_
 refine rn tk 9 rfl ?_
 refine jb hr (fun j11=> [(0, .bo j11)]) (fun j11=> []) (fun j11 hr=> ?_) (fun j11 hr=> ?_)
 ·
  refine rn tk 5 rfl ?_
  refine bs 41 hr rfl (fun c12 hr=> ?_) (fun c12 hr=> ?_)
  ·
   refine rn tk 5 rfl ?_
   refine bs 46 hr rfl (fun c13 hr=> ?_) (fun c13 hr=> ?_)
   ·
    refine rn tk 5 rfl ?_
    refine bs 51 hr rfl (fun c14 hr=> ?_) (fun c14 hr=> ?_)
    ·
     refine rn tk 5 rfl ?_
     refine bs 56 hr rfl (fun c15 hr=> ?_) (fun c15 hr=> ?_)
     ·
      refine rn tk 1 rfl ?_
      refine ug rfl rfl rfl ?_
      refine wb tk rfl rfl rfl ?_
      refine rn tk 3 rfl ?_
      refine bs 61 hr rfl (fun c16 hr=> ?_) (fun c16 hr=> ?_)
      ·
       refine rn tk 1 rfl ?_
       refine ug rfl rfl rfl ?_
       refine wb tk rfl rfl rfl ?_
       refine rn tk 3 rfl ?_
       refine bs 66 hr rfl (fun c17 hr=> ?_) (fun c17 hr=> ?_)
       ·
        refine rn tk 5 rfl ?_
        refine bs 71 hr rfl (fun c18 hr=> ?_) (fun c18 hr=> ?_)
        ·
         refine rn tk 4 rfl ?_
         refine bs 75 hr rfl (fun c19 hr=> ?_) (fun c19 hr=> ?_)
         ·
          refine rn tk 2 rfl ?_
          refine ug rfl rfl rfl ?_
          refine wz cI ([2]:List Int) tk rfl rfl (fun _=> rfl) rfl rfl rfl ?_
          obtain ⟨v20,h21,hr⟩:=zaa hr
          refine ug rfl rfl rfl ?_
          refine cl (Jta _ _ _ h21) rfl rfl ?_
          refine rn tk 3 rfl ?_
          cases hr
          exact jn _ rfl rfl rfl
         ·
          refine rn tk 7 rfl ?_
          cases hr
          exact jn _ rfl rfl rfl
        ·
         refine rn tk 11 rfl ?_
         cases hr
         exact jn _ rfl rfl rfl
       ·
        refine rn tk 16 rfl ?_
        cases hr
        exact jn _ rfl rfl rfl
      ·
       refine rn tk 21 rfl ?_
       cases hr
       exact jn _ rfl rfl rfl
     ·
      refine rn tk 26 rfl ?_
      cases hr
      exact jn _ rfl rfl rfl
    ·
     refine rn tk 31 rfl ?_
     cases hr
     exact jn _ rfl rfl rfl
   ·
    refine rn tk 36 rfl ?_
    cases hr
    exact jn _ rfl rfl rfl
  ·
   refine rn tk 41 rfl ?_
   cases hr
   exact jn _ rfl rfl rfl
 ·
  refine rn tk 1 rfl ?_
  cases hr
  exact kr tk (.inr rfl) rfl rfl
theorem wTa (a0:UInt8) (r:Bool) (hr:wxa a0=some r):Run Tryz.prog 76 [.u8 a0] (.bo r):=by
 unfold wxa at hr
 refine rf (fn:=Tryz.f76) ⟨Tryz.func76,rfl,by kernel_rfl⟩ rfl (fun _=> rfl) fun g0 hg=> ?_
 refine rn tk 5 rfl ?_
 refine jb hr (fun j1=> [(2, .bo j1)]) (fun j1=> []) (fun j1 hr=> ?_) (fun j1 hr=> ?_)
 ·
  refine rn tk 4 rfl ?_
  refine bs 5 hr rfl (fun c2 hr=> ?_) (fun c2 hr=> ?_)
  ·
   refine rn tk 5 rfl ?_
   cases hr
   exact jn _ rfl rfl rfl
  ·
   refine rn tk 5 rfl ?_
   cases hr
   exact jn _ rfl rfl rfl
 ·
  refine rn tk 1 rfl ?_
  cases hr
  exact kr tk (.inr rfl) rfl rfl
theorem ZEa (a0:Str) (a1:Str) (r:List Str) (hr:wea a0 a1=some r):Run Tryz.prog 77 [.s a0, .s a1] (.l cS r):=by
 unfold wea at hr
 refine rf (fn:=Tryz.f77) ⟨Tryz.func77,rfl,by kernel_rfl⟩ rfl (fun _=> rfl) fun g0 hg=> ?_
 refine rn tk 8 rfl ?_
 obtain ⟨v1,h2,hr⟩:=zaa hr
 refine wc h2 rfl rfl rfl ?_
 refine rn tk 1 rfl ?_
 obtain ⟨v3,h4,hr⟩:=zaa hr
 refine wc h4 rfl rfl rfl ?_
 refine rn tk 14 rfl ?_
 refine ksa 1007 (d:=7) 9 1 rfl rfl rfl (hO ?_)
 refine rn tk 4 rfl ?_
 refine al1 hr (fun s5=> [(5, .s s5.1),(6, .i s5.2.1),(7, .hs 1007 0)]) (fun s5=> [(1007, .row 9 false 1 (List.map cS s5.2.2))]) (.exit 0) (fun b6=> [(5, .s b6.1),(7, .hs 1007 0)]) (fun b6=> [(1007, .row 9 false 1 (List.map cS b6.2))]) rfl rfl (fun s5 x7 hr=> ?_) (fun b6 hr=> ?_)
 ·
  unfold vka at hr
  refine rn tk 8 rfl ?_
  refine ac 20 hr rfl (fun c8 hr=> ?_) (fun c8 hr=> ?_)
  ·
   refine rn tk 15 rfl ?_
   refine al1 hr (fun s9=> [(5, .s s5.1),(6, .i s5.2.1),(7, .hs 1007 0),(8, .i s9.1),(9, .i s9.2)]) (fun s9=> [(1007, .row 9 false 1 (List.map cS s5.2.2))]) (.exit 2) (fun b10=> [(5, .s s5.1),(6, .i s5.2.1),(7, .hs 1007 0),(8, .i b10)]) (fun b10=> [(1007, .row 9 false 1 (List.map cS s5.2.2))]) rfl rfl (fun s9 x11 hr=> ?_) (fun b10 hr=> ?_)
   ·
    unfold kSa at hr
    refine rn tk 1 rfl ?_
    refine jb hr (fun j12=> [(5, .s s5.1),(6, .i s5.2.1),(7, .hs 1007 0),(8, .i s9.1),(9, .i s9.2),(26, .bo j12)]) (fun j12=> [(1007, .row 9 false 1 (List.map cS s5.2.2))]) (fun j12 hr=> ?_) (fun j12 hr=> ?_)
    ·
     refine rn tk 4 rfl ?_
     refine bs 23 hr rfl (fun c13 hr=> ?_) (fun c13 hr=> ?_)
     ·
      refine rn tk 4 rfl ?_
      cases hr
      exact jn _ rfl rfl rfl
     ·
      refine rn tk 4 rfl ?_
      cases hr
      exact jn _ rfl rfl rfl
    ·
     refine ac 26 hr rfl (fun c14 hr=> ?_) (fun c14 hr=> ?_)
     ·
      refine rn tk 2 rfl ?_
      refine jb hr (fun j15=> [(5, .s s5.1),(6, .i s5.2.1),(7, .hs 1007 0),(8, .i j15),(9, .i s9.2)]) (fun j15=> [(1007, .row 9 false 1 (List.map cS s5.2.2))]) (fun j15 hr=> ?_) (fun j15 hr=> ?_)
      ·
       refine rn tk 1 rfl ?_
       refine jb hr (fun j16=> [(5, .s s5.1),(6, .i s5.2.1),(7, .hs 1007 0),(8, .i s9.1),(9, .i s9.2),(45, .bo j16)]) (fun j16=> [(1007, .row 9 false 1 (List.map cS s5.2.2))]) (fun j16 hr=> ?_) (fun j16 hr=> ?_)
       ·
        refine rn tk 5 rfl ?_
        refine bs 32 hr rfl (fun c17 hr=> ?_) (fun c17 hr=> ?_)
        ·
         refine rn tk 2 rfl ?_
         obtain ⟨v18,h19,hr⟩:=zaa hr
         refine ug rfl rfl rfl ?_
         refine ws tk h19 rfl rfl rfl rfl ?_
         obtain ⟨v20,h21,hr⟩:=zaa hr
         refine ug rfl rfl rfl ?_
         refine cl (wTa _ _ h21) rfl rfl ?_
         refine rn tk 2 rfl ?_
         refine bs 38 hr rfl (fun c22 hr=> ?_) (fun c22 hr=> ?_)
         ·
          refine rn tk 3 rfl ?_
          obtain ⟨v23,h24,hr⟩:=zaa hr
          refine ug rfl rfl rfl ?_
          refine ws tk h24 rfl rfl rfl rfl ?_
          obtain ⟨v25,h26,hr⟩:=zaa hr
          refine ug rfl rfl rfl ?_
          refine cl (wTa _ _ h26) rfl rfl ?_
          refine rn tk 3 rfl ?_
          cases hr
          exact jn _ rfl rfl rfl
         ·
          refine rn tk 8 rfl ?_
          cases hr
          exact jn _ rfl rfl rfl
        ·
         refine rn tk 14 rfl ?_
         cases hr
         exact jn _ rfl rfl rfl
       ·
        refine ac 45 hr rfl (fun c27 hr=> ?_) (fun c27 hr=> ?_)
        ·
         refine rn tk 5 rfl ?_
         cases hr
         exact jn _ rfl rfl rfl
        ·
         refine rn tk 2 rfl ?_
         cases hr
         exact jn _ rfl rfl rfl
      ·
       refine rn tk 5 rfl ?_
       cases hr
       exact atc rfl rfl
     ·
      refine rn tk 2 rfl ?_
      cases hr
      exact ato rfl rfl rfl rfl
   ·
    refine rn tk 9 rfl ?_
    refine al1 hr (fun s28=> [(5, .s s5.1),(6, .i s5.2.1),(7, .hs 1007 0),(8, .i s28.1),(10, .i s28.2)]) (fun s28=> [(1007, .row 9 false 1 (List.map cS s5.2.2))]) (.exit 4) (fun b29=> [(5, .s s5.1),(7, .hs 1007 0),(8, .i b29)]) (fun b29=> [(1007, .row 9 false 1 (List.map cS s5.2.2))]) rfl rfl (fun s28 x30 hr=> ?_) (fun b29 hr=> ?_)
    ·
     unfold kwa at hr
     refine rn tk 1 rfl ?_
     refine jb hr (fun j31=> [(5, .s s5.1),(6, .i s5.2.1),(7, .hs 1007 0),(8, .i s28.1),(10, .i s28.2),(54, .bo j31)]) (fun j31=> [(1007, .row 9 false 1 (List.map cS s5.2.2))]) (fun j31 hr=> ?_) (fun j31 hr=> ?_)
     ·
      refine rn tk 6 rfl ?_
      refine bs 51 hr rfl (fun c32 hr=> ?_) (fun c32 hr=> ?_)
      ·
       refine rn tk 4 rfl ?_
       cases hr
       exact jn _ rfl rfl rfl
      ·
       refine rn tk 4 rfl ?_
       cases hr
       exact jn _ rfl rfl rfl
     ·
      refine ac 54 hr rfl (fun c33 hr=> ?_) (fun c33 hr=> ?_)
      ·
       refine rn tk 2 rfl ?_
       refine jb hr (fun j34=> [(5, .s s5.1),(6, .i s5.2.1),(7, .hs 1007 0),(8, .i j34),(10, .i s28.2)]) (fun j34=> [(1007, .row 9 false 1 (List.map cS s5.2.2))]) (fun j34 hr=> ?_) (fun j34 hr=> ?_)
       ·
        refine rn tk 1 rfl ?_
        refine jb hr (fun j35=> [(5, .s s5.1),(6, .i s5.2.1),(7, .hs 1007 0),(8, .i s28.1),(10, .i s28.2),(73, .bo j35)]) (fun j35=> [(1007, .row 9 false 1 (List.map cS s5.2.2))]) (fun j35 hr=> ?_) (fun j35 hr=> ?_)
        ·
         refine rn tk 5 rfl ?_
         refine bs 60 hr rfl (fun c36 hr=> ?_) (fun c36 hr=> ?_)
         ·
          refine rn tk 2 rfl ?_
          obtain ⟨v37,h38,hr⟩:=zaa hr
          refine ug rfl rfl rfl ?_
          refine ws tk h38 rfl rfl rfl rfl ?_
          obtain ⟨v39,h40,hr⟩:=zaa hr
          refine ug rfl rfl rfl ?_
          refine cl (wTa _ _ h40) rfl rfl ?_
          refine rn tk 2 rfl ?_
          refine bs 66 hr rfl (fun c41 hr=> ?_) (fun c41 hr=> ?_)
          ·
           refine rn tk 3 rfl ?_
           obtain ⟨v42,h43,hr⟩:=zaa hr
           refine ug rfl rfl rfl ?_
           refine ws tk h43 rfl rfl rfl rfl ?_
           obtain ⟨v44,h45,hr⟩:=zaa hr
           refine ug rfl rfl rfl ?_
           refine cl (wTa _ _ h45) rfl rfl ?_
           refine rn tk 3 rfl ?_
           cases hr
           exact jn _ rfl rfl rfl
          ·
           refine rn tk 8 rfl ?_
           cases hr
           exact jn _ rfl rfl rfl
         ·
          refine rn tk 14 rfl ?_
          cases hr
          exact jn _ rfl rfl rfl
        ·
         refine ac 73 hr rfl (fun c46 hr=> ?_) (fun c46 hr=> ?_)
         ·
          refine rn tk 5 rfl ?_
          cases hr
          exact jn _ rfl rfl rfl
         ·
          refine rn tk 2 rfl ?_
          cases hr
          exact jn _ rfl rfl rfl
       ·
        refine rn tk 5 rfl ?_
        cases hr
        exact atc rfl rfl
      ·
       refine rn tk 2 rfl ?_
       cases hr
       exact ato rfl rfl rfl rfl
    ·
     refine rn tk 9 rfl ?_
     refine ac 76 hr rfl (fun c47 hr=> ?_) (fun c47 hr=> ?_)
     ·
      refine rn tk 3 rfl ?_
      cases hr
      exact ato rfl rfl rfl rfl
     ·
      refine rn tk 7 rfl ?_
      obtain ⟨v48,h49,hr⟩:=zaa hr
      refine wscH tk h49 rfl rfl rfl rfl ?_
      refine wz cS ([v48]:List Str) tk rfl rfl (fun _=> rfl) rfl rfl rfl ?_
      obtain ⟨v50,h51,hr⟩:=zaa hr
      refine wa tk h51 rfl rfl rfl rfl (fun _=> rfl) rfl rfl ?_
      refine rn tk 7 rfl ?_
      obtain ⟨v52,h53,hr⟩:=zaa hr
      refine wscL tk h53 rfl rfl rfl rfl ?_
      refine rn tk 7 rfl ?_
      cases hr
      exact atc rfl rfl
  ·
   refine rn tk 2 rfl ?_
   cases hr
   exact ato rfl rfl rfl rfl
 ·
  refine rn tk 6 rfl ?_
  refine wz cS ([b6.1]:List Str) tk rfl rfl (fun _=> rfl) rfl rfl rfl ?_
  obtain ⟨v54,h55,hr⟩:=zaa hr
  refine wa tk h55 rfl rfl rfl rfl (fun _=> rfl) rfl rfl ?_
  refine rn tk 3 rfl ?_
  refine vba (d:=4) (F:=cS) (l:=v54) rfl rfl (hC ?_)
  refine rn tk 1 rfl ?_
  cases hr
  exact kr tk (.inr rfl) rfl rfl
theorem q6a (a0:zxa) (r:List UInt8) (hr:k4a a0=some r):Run Tryz.prog 50 [.agg [.l zga.pc a0.Fields, .l cU a0.Body]] (.l cU r):=by
 unfold k4a at hr
 refine rf (fn:=Tryz.f50) ⟨Tryz.func50,rfl,by kernel_rfl⟩ rfl (fun _=> rfl) fun g0 hg=> ?_
 refine rn tk 9 rfl ?_
 refine ksa 1003 (d:=3) 5 1 rfl rfl rfl (hO ?_)
 refine rn tk 9 rfl ?_
 refine al1 hr (fun s1=> [(1, .ptr 1 0),(3, .hs 1003 0),(4, .i s1.1)]) (fun s1=> [(1003, .row 5 false 1 (List.map cU s1.2)),(1, .cells [.l zga.pc a0.Fields, .l cU a0.Body])]) (.exit 0) (fun b2=> [(1, .ptr 1 0),(3, .hs 1003 0)]) (fun b2=> [(1003, .row 5 false 1 (List.map cU b2)),(1, .cells [.l zga.pc a0.Fields, .l cU a0.Body])]) rfl rfl (fun s1 x3 hr=> ?_) (fun b2 hr=> ?_)
 ·
  unfold qEa at hr
  refine rn tk 6 rfl ?_
  refine wn tk rfl rfl rfl ?_
  refine rn tk 3 rfl ?_
  refine ac 11 hr rfl (fun c4 hr=> ?_) (fun c4 hr=> ?_)
  ·
   refine rn tk 5 rfl ?_
   obtain ⟨v5,h6,hr⟩:=zaa hr
   obtain ⟨v7,h8,hr⟩:=zaa hr
   refine dr 12 [(25, .s v7.Value),(24, .ep [pS v7.Value]),(23, .ep [pS v7.Name,pS v7.Value]),(22, .i s1.1),(21, .l zga.pc a0.Fields),(20, .ptr 1 0),(19, .s v5.Name),(18, .ep [pS v5.Name,pS v5.Value]),(17, .ep [pS v5.Name,pS v5.Value]),(16, .i s1.1),(15, .l zga.pc a0.Fields),(14, .ptr 1 0)] mixed (by kernel_rfl) rfl rfl (pq tk rfl (.plain rfl) (pq tk rfl (.plain rfl) (pq tk rfl (.plain rfl) (.run (.plain rfl) (qda (wca (f:=zga.pc) rfl rfl kOa qha rfl h6)) (pq tk rfl (.plain rfl) (pq tk rfl (.plain rfl) (pq tk rfl (.plain rfl) (pq tk rfl (.plain rfl) (pq tk rfl (.plain rfl) (.run (.plain rfl) (qda (wca (f:=zga.pc) rfl rfl kOa qha rfl h8)) (pq tk rfl (.plain rfl) (pq tk rfl (.plain rfl) .nil)))))))))))) rfl ?_
   obtain ⟨v9,h10,hr⟩:=zaa hr
   refine cl (ZEa _ _ _ h10) rfl rfl ?_
   refine rn tk 9 rfl ?_
   refine al1 hr (fun s11=> [(1, .ptr 1 0),(3, .hs 1003 0),(4, .i s1.1),(5, .l cS v9),(6, .i s11.1)]) (fun s11=> [(1003, .row 5 false 1 (List.map cU s11.2)),(1, .cells [.l zga.pc a0.Fields, .l cU a0.Body])]) (.exit 2) (fun b12=> [(1, .ptr 1 0),(3, .hs 1003 0),(4, .i s1.1)]) (fun b12=> [(1003, .row 5 false 1 (List.map cU b12)),(1, .cells [.l zga.pc a0.Fields, .l cU a0.Body])]) rfl rfl (fun s11 x13 hr=> ?_) (fun b12 hr=> ?_)
   ·
    unfold qDa at hr
    refine rn tk 5 rfl ?_
    refine wn tk rfl rfl rfl ?_
    refine rn tk 3 rfl ?_
    refine ac 30 hr rfl (fun c14 hr=> ?_) (fun c14 hr=> ?_)
    ·
     refine rn tk 9 rfl ?_
     obtain ⟨v15,h16,hr⟩:=zaa hr
     refine wi tk h16 rfl rfl rfl rfl rfl ?_
     refine rn tk 1 rfl ?_
     obtain ⟨v17,h18,hr⟩:=zaa hr
     refine wo (vaa (k:=38) (l:=s11.2) (s:=v15) (lim:=140737488355328) rfl rfl rfl rfl zka zDa.u zua rfl h18) rfl ?_
     refine rn tk 5 rfl ?_
     refine wz cU ([(13:UInt8),(10:UInt8)]:List UInt8) tk rfl rfl (fun _=> rfl) rfl rfl rfl ?_
     obtain ⟨v19,h20,hr⟩:=zaa hr
     refine wa tk h20 rfl rfl rfl rfl (fun _=> rfl) rfl rfl ?_
     refine rn tk 9 rfl ?_
     cases hr
     exact atc rfl rfl
    ·
     refine rn tk 2 rfl ?_
     cases hr
     exact ato rfl rfl rfl rfl
   ·
    refine rn tk 8 rfl ?_
    cases hr
    exact atc rfl rfl
  ·
   refine rn tk 2 rfl ?_
   cases hr
   exact ato rfl rfl rfl rfl
 ·
  refine rn tk 5 rfl ?_
  refine wz cU ([(13:UInt8),(10:UInt8)]:List UInt8) tk rfl rfl (fun _=> rfl) rfl rfl rfl ?_
  obtain ⟨v21,h22,hr⟩:=zaa hr
  refine wa tk h22 rfl rfl rfl rfl (fun _=> rfl) rfl rfl ?_
  refine rn tk 8 rfl ?_
  obtain ⟨v23,h24,hr⟩:=zaa hr
  refine wa tk h24 rfl rfl rfl rfl (fun _=> rfl) rfl rfl ?_
  refine rn tk 3 rfl ?_
  refine vba (d:=2) (F:=cU) (l:=v23) rfl rfl (hC ?_)
  refine rn tk 1 rfl ?_
  cases hr
  exact kr tk (.inr rfl) rfl rfl
theorem VMa (a0:zxa) (r:Bool) (hr:VWa a0=some r):Run Tryz.prog 29 [.agg [.l zga.pc a0.Fields, .l cU a0.Body]] (.bo r):=by
 unfold VWa at hr
 refine rf (fn:=Tryz.f29) ⟨Tryz.func29,rfl,by kernel_rfl⟩ rfl (fun _=> rfl) fun g0 hg=> ?_
 refine rn tk 9 rfl ?_
 obtain ⟨v1,h2,hr⟩:=zaa hr
 refine cl (q6a _ _ h2) rfl rfl ?_
 refine rn tk 6 rfl ?_
 refine wn tk rfl rfl rfl ?_
 refine rn tk 3 rfl ?_
 refine jb hr (fun j3=> [(2, .bo j3)]) (fun j3=> []) (fun j3 hr=> ?_) (fun j3 hr=> ?_)
 ·
  refine rn tk 4 rfl ?_
  obtain ⟨v4,h5,hr⟩:=zaa hr
  refine wi tk h5 rfl rfl rfl rfl rfl ?_
  refine rn tk 3 rfl ?_
  refine bs 15 hr rfl (fun c6 hr=> ?_) (fun c6 hr=> ?_)
  ·
   refine rn tk 9 rfl ?_
   cases hr
   exact jn _ rfl rfl rfl
  ·
   refine rn tk 3 rfl ?_
   obtain ⟨v7,h8,hr⟩:=zaa hr
   refine ug rfl rfl rfl ?_
   refine wi tk h8 rfl rfl rfl rfl rfl ?_
   refine rn tk 5 rfl ?_
   cases hr
   exact jn _ rfl rfl rfl
 ·
  refine rn tk 1 rfl ?_
  cases hr
  exact kr tk (.inr rfl) rfl rfl
theorem kya (a0:Int) (a1:Int) (r:zza) (hr:R_At a0 a1=some r):Run Tryz.prog 9 [.i a0, .i a1] (.agg [.i r.Code, .i r.Index]):=by
 unfold R_At at hr
 refine rf (fn:=Tryz.f9) ⟨Tryz.func9,rfl,by kernel_rfl⟩ rfl (fun _=> rfl) fun g0 hg=> ?_
 refine rn tk 14 rfl ?_
 cases hr
 exact kr tk (.inr rfl) rfl rfl
theorem qla (a0:Int) (a1:Int) (a2:Int) (r:Bool) (hr:R_In a0 a1 a2=some r):Run Tryz.prog 24 [.i a0, .i a1, .i a2] (.bo r):=by
 unfold R_In at hr
 refine rf (fn:=Tryz.f24) ⟨Tryz.func24,rfl,by kernel_rfl⟩ rfl (fun _=> rfl) fun g0 hg=> ?_
 refine rn tk 5 rfl ?_
 refine jb hr (fun j1=> [(6, .bo j1)]) (fun j1=> []) (fun j1 hr=> ?_) (fun j1 hr=> ?_)
 ·
  refine rn tk 5 rfl ?_
  refine bs 10 hr rfl (fun c2 hr=> ?_) (fun c2 hr=> ?_)
  ·
   refine rn tk 6 rfl ?_
   cases hr
   exact jn _ rfl rfl rfl
  ·
   refine rn tk 6 rfl ?_
   cases hr
   exact jn _ rfl rfl rfl
 ·
  refine rn tk 1 rfl ?_
  cases hr
  exact kr tk (.inr rfl) rfl rfl
theorem YVa (a0:Str) (r:Bool) (hr:jPa a0=some r):Run Tryz.prog 75 [.s a0] (.bo r):=by
 unfold jPa at hr
 refine rf (fn:=Tryz.f75) ⟨Tryz.func75,rfl,by kernel_rfl⟩ rfl (fun _=> rfl) fun g0 hg=> ?_
 refine rn tk 12 rfl ?_
 refine al2 hr (fun s1=> [(0, .s a0),(3, .i s1)]) (fun s1=> []) (.exit 0) (fun b2=> [(0, .s a0)]) (fun b2=> []) .ret (fun b3=> [(2, .bo b3)]) (fun b3=> []) rfl rfl (fun s1 x5 hr=> ?_) (fun b2 hr=> ?_) (fun b3 hr=> ?_)
 ·
  unfold qLa at hr
  refine rn tk 9 rfl ?_
  refine ac 8 hr rfl (fun c6 hr=> ?_) (fun c6 hr=> ?_)
  ·
   refine rn tk 8 rfl ?_
   obtain ⟨v7,h8,hr⟩:=zaa hr
   refine ws tk h8 rfl rfl rfl rfl ?_
   refine wu tk rfl rfl rfl ?_
   refine rn tk 4 rfl ?_
   refine jb hr (fun j9=> [(0, .s a0),(3, .i s1),(4, .i ((v7.toNat:Int))),(36, .bo j9)]) (fun j9=> []) (fun j9 hr=> ?_) (fun j9 hr=> ?_)
   ·
    refine rn tk 3 rfl ?_
    obtain ⟨v10,h11,hr⟩:=zaa hr
    refine ws tk h11 rfl rfl rfl rfl ?_
    refine rn tk 2 rfl ?_
    refine bs 19 hr rfl (fun c12 hr=> ?_) (fun c12 hr=> ?_)
    ·
     refine rn tk 3 rfl ?_
     refine bs 22 hr rfl (fun c13 hr=> ?_) (fun c13 hr=> ?_)
     ·
      refine rn tk 15 rfl ?_
      cases hr
      exact jn _ rfl rfl rfl
     ·
      refine rn tk 7 rfl ?_
      refine bs 29 hr rfl (fun c14 hr=> ?_) (fun c14 hr=> ?_)
      ·
       refine rn tk 8 rfl ?_
       cases hr
       exact jn _ rfl rfl rfl
      ·
       refine rn tk 3 rfl ?_
       obtain ⟨v15,h16,hr⟩:=zaa hr
       refine ug rfl rfl rfl ?_
       refine ws tk h16 rfl rfl rfl rfl ?_
       refine rn tk 4 rfl ?_
       cases hr
       exact jn _ rfl rfl rfl
    ·
     refine rn tk 18 rfl ?_
     cases hr
     exact jn _ rfl rfl rfl
   ·
    refine ac 36 hr rfl (fun c17 hr=> ?_) (fun c17 hr=> ?_)
    ·
     refine rn tk 9 rfl ?_
     cases hr
     exact ato rfl rfl rfl rfl
    ·
     refine rn tk 2 rfl ?_
     refine jb hr (fun j18=> [(0, .s a0),(3, .i s1),(56, .bo j18)]) (fun j18=> []) (fun j18 hr=> ?_) (fun j18 hr=> ?_)
     ·
      refine rn tk 2 rfl ?_
      obtain ⟨v19,h20,hr⟩:=zaa hr
      refine cl (qla _ _ _ _ h20) rfl rfl ?_
      refine rn tk 2 rfl ?_
      refine bs 40 hr rfl (fun c21 hr=> ?_) (fun c21 hr=> ?_)
      ·
       refine rn tk 1 rfl ?_
       obtain ⟨v22,h23,hr⟩:=zaa hr
       refine ug rfl rfl rfl ?_
       refine cl (qla _ _ _ _ h23) rfl rfl ?_
       refine rn tk 3 rfl ?_
       refine bs 45 hr rfl (fun c24 hr=> ?_) (fun c24 hr=> ?_)
       ·
        refine rn tk 2 rfl ?_
        obtain ⟨v25,h26,hr⟩:=zaa hr
        refine ug rfl rfl rfl ?_
        refine ws tk h26 rfl rfl rfl rfl ?_
        refine rn tk 3 rfl ?_
        refine bs 51 hr rfl (fun c27 hr=> ?_) (fun c27 hr=> ?_)
        ·
         refine rn tk 2 rfl ?_
         obtain ⟨v28,h29,hr⟩:=zaa hr
         refine ug rfl rfl rfl ?_
         refine ws tk h29 rfl rfl rfl rfl ?_
         refine rn tk 3 rfl ?_
         cases hr
         exact jn _ rfl rfl rfl
        ·
         refine rn tk 6 rfl ?_
         cases hr
         exact jn _ rfl rfl rfl
       ·
        refine rn tk 12 rfl ?_
        cases hr
        exact jn _ rfl rfl rfl
      ·
       refine rn tk 17 rfl ?_
       cases hr
       exact jn _ rfl rfl rfl
     ·
      refine ac 56 hr rfl (fun c30 hr=> ?_) (fun c30 hr=> ?_)
      ·
       refine rn tk 8 rfl ?_
       cases hr
       exact ato rfl rfl rfl rfl
      ·
       refine rn tk 8 rfl ?_
       cases hr
       exact atc rfl rfl
  ·
   refine rn tk 2 rfl ?_
   cases hr
   exact ato rfl rfl rfl rfl
 ·
  refine rn tk 6 rfl ?_
  obtain ⟨v31,h32,hr⟩:=zaa hr
  refine cl (qla _ _ _ _ h32) rfl rfl ?_
  refine rn tk 4 rfl ?_
  cases hr
  exact kr tk (.inr rfl) rfl rfl
 ·
  refine rn tk 2 rfl ?_
  cases hr
  exact kr tk (.inr rfl) rfl rfl
theorem jfa (a0:UInt8) (r:Bool) (hr:qza a0=some r):Run Tryz.prog 23 [.u8 a0] (.bo r):=by
 unfold qza at hr
 refine rf (fn:=Tryz.f23) ⟨Tryz.func23,rfl,by kernel_rfl⟩ rfl (fun _=> rfl) fun g0 hg=> ?_
 refine rn tk 8 rfl ?_
 refine wu tk rfl rfl rfl ?_
 refine rn tk 3 rfl ?_
 refine jb hr (fun j1=> [(2, .bo j1)]) (fun j1=> []) (fun j1 hr=> ?_) (fun j1 hr=> ?_)
 ·
  refine rn tk 2 rfl ?_
  obtain ⟨v2,h3,hr⟩:=zaa hr
  refine cl (qla _ _ _ _ h3) rfl rfl ?_
  refine rn tk 1 rfl ?_
  refine bs 8 hr rfl (fun c4 hr=> ?_) (fun c4 hr=> ?_)
  ·
   refine rn tk 9 rfl ?_
   cases hr
   exact jn _ rfl rfl rfl
  ·
   refine rn tk 1 rfl ?_
   obtain ⟨v5,h6,hr⟩:=zaa hr
   refine ug rfl rfl rfl ?_
   refine cl (qla _ _ _ _ h6) rfl rfl ?_
   refine rn tk 2 rfl ?_
   refine bs 12 hr rfl (fun c7 hr=> ?_) (fun c7 hr=> ?_)
   ·
    refine rn tk 5 rfl ?_
    cases hr
    exact jn _ rfl rfl rfl
   ·
    refine rn tk 1 rfl ?_
    obtain ⟨v8,h9,hr⟩:=zaa hr
    refine ug rfl rfl rfl ?_
    refine cl (qla _ _ _ _ h9) rfl rfl ?_
    refine rn tk 3 rfl ?_
    cases hr
    exact jn _ rfl rfl rfl
 ·
  refine rn tk 1 rfl ?_
  cases hr
  exact kr tk (.inr rfl) rfl rfl
theorem vPb (a0:Str) (r:Int) (hr:zLb a0=some r):Run Tryz.prog 74 [.s a0] (.i r):=by
 unfold zLb at hr
 refine rf (fn:=Tryz.f74) ⟨Tryz.func74,rfl,by kernel_rfl⟩ rfl (fun _=> rfl) fun g0 hg=> ?_
 refine rn tk 12 rfl ?_
 refine al2 hr (fun s1=> [(0, .s a0),(3, .i s1)]) (fun s1=> []) (.exit 0) (fun b2=> [(0, .s a0)]) (fun b2=> []) .ret (fun b3=> [(2, .i b3)]) (fun b3=> []) rfl rfl (fun s1 x5 hr=> ?_) (fun b2 hr=> ?_) (fun b3 hr=> ?_)
 ·
  unfold QOa at hr
  refine rn tk 9 rfl ?_
  refine ac 7 hr rfl (fun c6 hr=> ?_) (fun c6 hr=> ?_)
  ·
   refine rn tk 8 rfl ?_
   obtain ⟨v7,h8,hr⟩:=zaa hr
   refine ws tk h8 rfl rfl rfl rfl ?_
   refine rn tk 3 rfl ?_
   refine ac 13 hr rfl (fun c9 hr=> ?_) (fun c9 hr=> ?_)
   ·
    refine rn tk 9 rfl ?_
    cases hr
    exact ato rfl rfl rfl rfl
   ·
    refine rn tk 8 rfl ?_
    cases hr
    exact atc rfl rfl
  ·
   refine rn tk 2 rfl ?_
   cases hr
   exact ato rfl rfl rfl rfl
 ·
  refine rn tk 10 rfl ?_
  cases hr
  exact kr tk (.inr rfl) rfl rfl
 ·
  refine rn tk 2 rfl ?_
  cases hr
  exact kr tk (.inr rfl) rfl rfl
theorem Kha (a0:Str) (r:Bool) (hr:wMa a0=some r):Run Tryz.prog 47 [.s a0] (.bo r):=by
 unfold wMa at hr
 refine rf (fn:=Tryz.f47) ⟨Tryz.func47,rfl,by kernel_rfl⟩ rfl (fun _=> rfl) fun g0 hg=> ?_
 refine rn tk 8 rfl ?_
 obtain ⟨v1,h2,hr⟩:=zaa hr
 refine cl (vPb _ _ h2) rfl rfl ?_
 refine rn tk 10 rfl ?_
 refine al2 hr (fun s3=> [(0, .s a0),(3, .i v1),(4, .i s3)]) (fun s3=> []) (.exit 0) (fun b4=> [(0, .s a0),(3, .i v1)]) (fun b4=> []) .ret (fun b5=> [(2, .bo b5)]) (fun b5=> []) rfl rfl (fun s3 x7 hr=> ?_) (fun b4 hr=> ?_) (fun b5 hr=> ?_)
 ·
  unfold vJa at hr
  refine rn tk 8 rfl ?_
  refine ac 10 hr rfl (fun c8 hr=> ?_) (fun c8 hr=> ?_)
  ·
   refine rn tk 8 rfl ?_
   obtain ⟨v9,h10,hr⟩:=zaa hr
   refine ws tk h10 rfl rfl rfl rfl ?_
   refine rn tk 3 rfl ?_
   refine jb hr (fun j11=> [(0, .s a0),(3, .i v1),(4, .i s3),(38, .bo j11)]) (fun j11=> []) (fun j11 hr=> ?_) (fun j11 hr=> ?_)
   ·
    refine rn tk 2 rfl ?_
    obtain ⟨v12,h13,hr⟩:=zaa hr
    refine cl (jfa _ _ h13) rfl rfl ?_
    refine rn tk 2 rfl ?_
    refine bs 19 hr rfl (fun c14 hr=> ?_) (fun c14 hr=> ?_)
    ·
     refine rn tk 4 rfl ?_
     refine bs 23 hr rfl (fun c15 hr=> ?_) (fun c15 hr=> ?_)
     ·
      refine rn tk 4 rfl ?_
      refine bs 27 hr rfl (fun c16 hr=> ?_) (fun c16 hr=> ?_)
      ·
       refine rn tk 4 rfl ?_
       refine bs 31 hr rfl (fun c17 hr=> ?_) (fun c17 hr=> ?_)
       ·
        refine rn tk 4 rfl ?_
        refine bs 35 hr rfl (fun c18 hr=> ?_) (fun c18 hr=> ?_)
        ·
         refine rn tk 4 rfl ?_
         cases hr
         exact jn _ rfl rfl rfl
        ·
         refine rn tk 4 rfl ?_
         cases hr
         exact jn _ rfl rfl rfl
       ·
        refine rn tk 8 rfl ?_
        cases hr
        exact jn _ rfl rfl rfl
      ·
       refine rn tk 12 rfl ?_
       cases hr
       exact jn _ rfl rfl rfl
     ·
      refine rn tk 16 rfl ?_
      cases hr
      exact jn _ rfl rfl rfl
    ·
     refine rn tk 20 rfl ?_
     cases hr
     exact jn _ rfl rfl rfl
   ·
    refine ac 38 hr rfl (fun c19 hr=> ?_) (fun c19 hr=> ?_)
    ·
     refine rn tk 8 rfl ?_
     cases hr
     exact ato rfl rfl rfl rfl
    ·
     refine rn tk 8 rfl ?_
     cases hr
     exact atc rfl rfl
  ·
   refine rn tk 2 rfl ?_
   cases hr
   exact ato rfl rfl rfl rfl
 ·
  refine rn tk 2 rfl ?_
  refine jb hr (fun j20=> [(2, .bo j20)]) (fun j20=> []) (fun j20 hr=> ?_) (fun j20 hr=> ?_)
  ·
   refine rn tk 2 rfl ?_
   obtain ⟨v21,h22,hr⟩:=zaa hr
   refine cl (qla _ _ _ _ h22) rfl rfl ?_
   refine rn tk 1 rfl ?_
   refine bs 41 hr rfl (fun c23 hr=> ?_) (fun c23 hr=> ?_)
   ·
    refine rn tk 6 rfl ?_
    refine bs 47 hr rfl (fun c24 hr=> ?_) (fun c24 hr=> ?_)
    ·
     refine rn tk 3 rfl ?_
     obtain ⟨v25,h26,hr⟩:=zaa hr
     refine ug rfl rfl rfl ?_
     refine wscL tk h26 rfl rfl rfl rfl ?_
     obtain ⟨v27,h28,hr⟩:=zaa hr
     refine ug rfl rfl rfl ?_
     refine cl (YVa _ _ h28) rfl rfl ?_
     refine rn tk 3 rfl ?_
     cases hr
     exact jn _ rfl rfl rfl
    ·
     refine rn tk 8 rfl ?_
     cases hr
     exact jn _ rfl rfl rfl
   ·
    refine rn tk 14 rfl ?_
    cases hr
    exact jn _ rfl rfl rfl
  ·
   refine rn tk 1 rfl ?_
   cases hr
   exact kr tk (.inr rfl) rfl rfl
 ·
  refine rn tk 2 rfl ?_
  cases hr
  exact kr tk (.inr rfl) rfl rfl
theorem qsb (a0:List zca) (a1:Str) (r:Int) (hr:WVa a0 a1=some r):Run Tryz.prog 48 [.l zca.pc a0, .s a1] (.i r):=by
 unfold WVa at hr
 refine rf (fn:=Tryz.f48) ⟨Tryz.func48,rfl,by kernel_rfl⟩ rfl (fun _=> rfl) fun g0 hg=> ?_
 refine rn tk 12 rfl ?_
 refine al2 hr (fun s1=> [(0, .l zca.pc a0),(1, .s a1),(5, .i s1)]) (fun s1=> []) (.exit 0) (fun b2=> []) (fun b2=> []) .ret (fun b3=> [(4, .i b3)]) (fun b3=> []) rfl rfl (fun s1 x5 hr=> ?_) (fun b2 hr=> ?_) (fun b3 hr=> ?_)
 ·
  unfold KAa at hr
  refine rn tk 5 rfl ?_
  refine wn tk rfl rfl rfl ?_
  refine rn tk 3 rfl ?_
  refine ac 9 hr rfl (fun c6 hr=> ?_) (fun c6 hr=> ?_)
  ·
   refine rn tk 8 rfl ?_
   obtain ⟨v7,h8,hr⟩:=zaa hr
   refine wi tk h8 rfl rfl rfl rfl rfl ?_
   refine rn tk 6 rfl ?_
   refine ac 18 hr rfl (fun c9 hr=> ?_) (fun c9 hr=> ?_)
   ·
    refine rn tk 9 rfl ?_
    cases hr
    exact ato rfl rfl rfl rfl
   ·
    refine rn tk 8 rfl ?_
    cases hr
    exact atc rfl rfl
  ·
   refine rn tk 2 rfl ?_
   cases hr
   exact ato rfl rfl rfl rfl
 ·
  refine rn tk 8 rfl ?_
  cases hr
  exact kr tk (.inr rfl) rfl rfl
 ·
  refine rn tk 2 rfl ?_
  cases hr
  exact kr tk (.inr rfl) rfl rfl
theorem V9a (a0:Str) (r:Bool) (hr:Kza a0=some r):Run Tryz.prog 8 [.s a0] (.bo r):=by
 unfold Kza at hr
 refine rf (fn:=Tryz.f8) ⟨Tryz.func8,rfl,by kernel_rfl⟩ rfl (fun _=> rfl) fun g0 hg=> ?_
 refine rn tk 12 rfl ?_
 refine al2 hr (fun s1=> [(0, .s a0),(3, .i s1)]) (fun s1=> []) (.exit 0) (fun b2=> [(0, .s a0)]) (fun b2=> []) .ret (fun b3=> [(2, .bo b3)]) (fun b3=> []) rfl rfl (fun s1 x5 hr=> ?_) (fun b2 hr=> ?_) (fun b3 hr=> ?_)
 ·
  unfold Zja at hr
  refine rn tk 9 rfl ?_
  refine ac 7 hr rfl (fun c6 hr=> ?_) (fun c6 hr=> ?_)
  ·
   refine rn tk 4 rfl ?_
   refine jb hr (fun j7=> [(0, .s a0),(3, .i s1),(32, .bo j7)]) (fun j7=> []) (fun j7 hr=> ?_) (fun j7 hr=> ?_)
   ·
    refine rn tk 3 rfl ?_
    obtain ⟨v8,h9,hr⟩:=zaa hr
    refine ws tk h9 rfl rfl rfl rfl ?_
    obtain ⟨v10,h11,hr⟩:=zaa hr
    refine cl (jfa _ _ h11) rfl rfl ?_
    refine rn tk 2 rfl ?_
    refine bs 15 hr rfl (fun c12 hr=> ?_) (fun c12 hr=> ?_)
    ·
     refine rn tk 2 rfl ?_
     obtain ⟨v13,h14,hr⟩:=zaa hr
     refine ug rfl rfl rfl ?_
     refine ws tk h14 rfl rfl rfl rfl ?_
     refine rn tk 3 rfl ?_
     refine bs 21 hr rfl (fun c15 hr=> ?_) (fun c15 hr=> ?_)
     ·
      refine rn tk 2 rfl ?_
      obtain ⟨v16,h17,hr⟩:=zaa hr
      refine ug rfl rfl rfl ?_
      refine ws tk h17 rfl rfl rfl rfl ?_
      refine rn tk 3 rfl ?_
      refine bs 27 hr rfl (fun c18 hr=> ?_) (fun c18 hr=> ?_)
      ·
       refine rn tk 2 rfl ?_
       obtain ⟨v19,h20,hr⟩:=zaa hr
       refine ug rfl rfl rfl ?_
       refine ws tk h20 rfl rfl rfl rfl ?_
       refine rn tk 3 rfl ?_
       cases hr
       exact jn _ rfl rfl rfl
      ·
       refine rn tk 6 rfl ?_
       cases hr
       exact jn _ rfl rfl rfl
     ·
      refine rn tk 12 rfl ?_
      cases hr
      exact jn _ rfl rfl rfl
    ·
     refine rn tk 18 rfl ?_
     cases hr
     exact jn _ rfl rfl rfl
   ·
    refine ac 32 hr rfl (fun c21 hr=> ?_) (fun c21 hr=> ?_)
    ·
     refine rn tk 8 rfl ?_
     cases hr
     exact ato rfl rfl rfl rfl
    ·
     refine rn tk 8 rfl ?_
     cases hr
     exact atc rfl rfl
  ·
   refine rn tk 2 rfl ?_
   cases hr
   exact ato rfl rfl rfl rfl
 ·
  refine rn tk 6 rfl ?_
  obtain ⟨v22,h23,hr⟩:=zaa hr
  refine cl (qla _ _ _ _ h23) rfl rfl ?_
  refine rn tk 4 rfl ?_
  cases hr
  exact kr tk (.inr rfl) rfl rfl
 ·
  refine rn tk 2 rfl ?_
  cases hr
  exact kr tk (.inr rfl) rfl rfl
theorem Qva (a0:zKa) (r:zza) (hr:vha a0=some r):Run Tryz.prog 25 [.agg [.s a0.From, .l zca.pc a0.To, .s a0.Id]] (.agg [.i r.Code, .i r.Index]):=by
 unfold vha at hr
 refine rf (fn:=Tryz.f25) ⟨Tryz.func25,rfl,by kernel_rfl⟩ rfl (fun _=> rfl) fun g0 hg=> ?_
 refine rn tk 7 rfl ?_
 refine jb hr (fun j1=> [(1, .ptr 1 0),(2, .ptr 2 0),(12, .bo j1)]) (fun j1=> [(2, .cells [.i 0, .i 0]),(1, .cells [.s a0.From, .l zca.pc a0.To, .s a0.Id])]) (fun j1 hr=> ?_) (fun j1 hr=> ?_)
 ·
  refine rn tk 5 rfl ?_
  refine bs 7 hr rfl (fun c2 hr=> ?_) (fun c2 hr=> ?_)
  ·
   refine rn tk 2 rfl ?_
   obtain ⟨v3,h4,hr⟩:=zaa hr
   refine ug rfl rfl rfl ?_
   refine cl (Kha _ _ h4) rfl rfl ?_
   refine rn tk 3 rfl ?_
   cases hr
   exact jn _ rfl rfl rfl
  ·
   refine rn tk 6 rfl ?_
   cases hr
   exact jn _ rfl rfl rfl
 ·
  refine ac 12 hr rfl (fun c5 hr=> ?_) (fun c5 hr=> ?_)
  ·
   refine rn tk 2 rfl ?_
   obtain ⟨v6,h7,hr⟩:=zaa hr
   refine cl (kya _ _ _ h7) rfl rfl ?_
   refine rn tk 5 rfl ?_
   cases hr
   exact kr tk (.inr rfl) rfl rfl
  ·
   refine rn tk 7 rfl ?_
   refine wn tk rfl rfl rfl ?_
   obtain ⟨v8,h9,hr⟩:=zaa hr
   refine cl (qla _ _ _ _ h9) rfl rfl ?_
   refine rn tk 3 rfl ?_
   refine ac 18 hr rfl (fun c10 hr=> ?_) (fun c10 hr=> ?_)
   ·
    refine rn tk 2 rfl ?_
    obtain ⟨v11,h12,hr⟩:=zaa hr
    refine cl (kya _ _ _ h12) rfl rfl ?_
    refine rn tk 5 rfl ?_
    cases hr
    exact kr tk (.inr rfl) rfl rfl
   ·
    refine rn tk 3 rfl ?_
    refine jb hr (fun j13=> [(1, .ptr 1 0),(2, .ptr 2 0),(28, .bo j13)]) (fun j13=> [(2, .cells [.i 0, .i 0]),(1, .cells [.s a0.From, .l zca.pc a0.To, .s a0.Id])]) (fun j13 hr=> ?_) (fun j13 hr=> ?_)
    ·
     refine rn tk 5 rfl ?_
     refine bs 23 hr rfl (fun c14 hr=> ?_) (fun c14 hr=> ?_)
     ·
      refine rn tk 2 rfl ?_
      obtain ⟨v15,h16,hr⟩:=zaa hr
      refine ug rfl rfl rfl ?_
      refine cl (V9a _ _ h16) rfl rfl ?_
      refine rn tk 3 rfl ?_
      cases hr
      exact jn _ rfl rfl rfl
     ·
      refine rn tk 6 rfl ?_
      cases hr
      exact jn _ rfl rfl rfl
    ·
     refine ac 28 hr rfl (fun c17 hr=> ?_) (fun c17 hr=> ?_)
     ·
      refine rn tk 2 rfl ?_
      obtain ⟨v18,h19,hr⟩:=zaa hr
      refine cl (kya _ _ _ h19) rfl rfl ?_
      refine rn tk 5 rfl ?_
      cases hr
      exact kr tk (.inr rfl) rfl rfl
     ·
      refine rn tk 9 rfl ?_
      refine al2 hr (fun s20=> [(1, .ptr 1 0),(2, .ptr 2 0),(3, .i s20)]) (fun s20=> [(2, .cells [.i 0, .i 0]),(1, .cells [.s a0.From, .l zca.pc a0.To, .s a0.Id])]) (.exit 0) (fun b21=> [(2, .ptr 2 0)]) (fun b21=> [(2, .cells [.i 0, .i 0])]) .ret (fun b22=> [(2, .ptr 2 0)]) (fun b22=> [(2, .cells [.i b22.Code, .i b22.Index])]) rfl rfl (fun s20 x24 hr=> ?_) (fun b21 hr=> ?_) (fun b22 hr=> ?_)
      ·
       unfold qka at hr
       refine rn tk 6 rfl ?_
       refine wn tk rfl rfl rfl ?_
       refine rn tk 3 rfl ?_
       refine ac 34 hr rfl (fun c25 hr=> ?_) (fun c25 hr=> ?_)
       ·
        refine rn tk 10 rfl ?_
        obtain ⟨v26,h27,hr⟩:=zaa hr
        refine wi tk h27 rfl rfl rfl rfl rfl ?_
        refine rn tk 2 rfl ?_
        obtain ⟨v28,h29,hr⟩:=zaa hr
        refine cl (Kha _ _ h29) rfl rfl ?_
        refine rn tk 3 rfl ?_
        refine ac 44 hr rfl (fun c30 hr=> ?_) (fun c30 hr=> ?_)
        ·
         refine rn tk 3 rfl ?_
         obtain ⟨v31,h32,hr⟩:=zaa hr
         refine cl (kya _ _ _ h32) rfl rfl ?_
         refine rn tk 7 rfl ?_
         cases hr
         exact ato rfl rfl rfl rfl
        ·
         refine rn tk 8 rfl ?_
         obtain ⟨v33,h34,hr⟩:=zaa hr
         refine wi tk h34 rfl rfl rfl rfl rfl ?_
         refine rn tk 2 rfl ?_
         obtain ⟨v35,h36,hr⟩:=zaa hr
         refine cl (qla _ _ _ _ h36) rfl rfl ?_
         refine rn tk 3 rfl ?_
         refine ac 54 hr rfl (fun c37 hr=> ?_) (fun c37 hr=> ?_)
         ·
          refine rn tk 3 rfl ?_
          obtain ⟨v38,h39,hr⟩:=zaa hr
          refine cl (kya _ _ _ h39) rfl rfl ?_
          refine rn tk 7 rfl ?_
          cases hr
          exact ato rfl rfl rfl rfl
         ·
          refine rn tk 3 rfl ?_
          obtain ⟨v40,h41,hr⟩:=zaa hr
          obtain ⟨v42,h43,hr⟩:=zaa hr
          refine dr 10 [(66, .s v42.Address),(65, .ep [pS v42.Address,pI v42.Notify]),(64, .ep [pS v42.Address,pI v42.Notify]),(63, .i s20),(62, .l zca.pc a0.To),(61, .ptr 1 1),(60, .l zca.pc v40),(59, .i s20),(58, .l zca.pc a0.To),(57, .ptr 1 1)] mixed (by kernel_rfl) rfl rfl (pq tk rfl (.plain rfl) (pq tk rfl (.plain rfl) (pq tk rfl (.plain rfl) (.run (.plain rfl) (qda (kzb (F:=zca.pc) rfl rfl zLa zVa (fun _=> rfl) h41)) (pq tk rfl (.plain rfl) (pq tk rfl (.plain rfl) (pq tk rfl (.plain rfl) (.run (.plain rfl) (qda (wca (f:=zca.pc) rfl rfl zLa zVa rfl h43)) (pq tk rfl (.plain rfl) (pq tk rfl (.plain rfl) .nil)))))))))) rfl ?_
          obtain ⟨v44,h45,hr⟩:=zaa hr
          refine cl (qsb _ _ _ h45) rfl rfl ?_
          refine rn tk 3 rfl ?_
          refine ac 68 hr rfl (fun c46 hr=> ?_) (fun c46 hr=> ?_)
          ·
           refine rn tk 3 rfl ?_
           obtain ⟨v47,h48,hr⟩:=zaa hr
           refine cl (kya _ _ _ h48) rfl rfl ?_
           refine rn tk 6 rfl ?_
           cases hr
           exact ato rfl rfl rfl rfl
          ·
           refine rn tk 8 rfl ?_
           cases hr
           exact atc rfl rfl
       ·
        refine rn tk 2 rfl ?_
        cases hr
        exact ato rfl rfl rfl rfl
      ·
       refine rn tk 9 rfl ?_
       cases hr
       exact kr tk (.inr rfl) rfl rfl
      ·
       refine rn tk 2 rfl ?_
       cases hr
       exact kr tk (.inr rfl) rfl rfl
theorem YAa (a0:zga) (r:Int) (hr:yMa a0=some r):Run Tryz.prog 49 [.agg [.s a0.Name, .s a0.Value]] (.i r):=by
 unfold yMa at hr
 refine rf (fn:=Tryz.f49) ⟨Tryz.func49,rfl,by kernel_rfl⟩ rfl (fun _=> rfl) fun g0 hg=> ?_
 refine rn tk 13 rfl ?_
 refine al2 hr (fun s1=> [(1, .ptr 1 0),(3, .i s1)]) (fun s1=> [(1, .cells [.s a0.Name, .s a0.Value])]) (.exit 0) (fun b2=> [(1, .ptr 1 0)]) (fun b2=> [(1, .cells [.s a0.Name, .s a0.Value])]) .ret (fun b3=> [(2, .i b3)]) (fun b3=> []) rfl rfl (fun s1 x5 hr=> ?_) (fun b2 hr=> ?_) (fun b3 hr=> ?_)
 ·
  unfold vMa at hr
  refine rn tk 10 rfl ?_
  refine ac 12 hr rfl (fun c6 hr=> ?_) (fun c6 hr=> ?_)
  ·
   refine rn tk 4 rfl ?_
   refine jb hr (fun j7=> [(1, .ptr 1 0),(3, .i s1),(28, .bo j7)]) (fun j7=> [(1, .cells [.s a0.Name, .s a0.Value])]) (fun j7 hr=> ?_) (fun j7 hr=> ?_)
   ·
    refine rn tk 4 rfl ?_
    obtain ⟨v8,h9,hr⟩:=zaa hr
    refine ws tk h9 rfl rfl rfl rfl ?_
    refine wu tk rfl rfl rfl ?_
    obtain ⟨v10,h11,hr⟩:=zaa hr
    refine cl (qla _ _ _ _ h11) rfl rfl ?_
    refine rn tk 2 rfl ?_
    refine bs 22 hr rfl (fun c12 hr=> ?_) (fun c12 hr=> ?_)
    ·
     refine rn tk 7 rfl ?_
     cases hr
     exact jn _ rfl rfl rfl
    ·
     refine rn tk 3 rfl ?_
     obtain ⟨v13,h14,hr⟩:=zaa hr
     refine ug rfl rfl rfl ?_
     refine ws tk h14 rfl rfl rfl rfl ?_
     refine rn tk 3 rfl ?_
     cases hr
     exact jn _ rfl rfl rfl
   ·
    refine ac 28 hr rfl (fun c15 hr=> ?_) (fun c15 hr=> ?_)
    ·
     refine rn tk 8 rfl ?_
     cases hr
     exact ato rfl rfl rfl rfl
    ·
     refine rn tk 8 rfl ?_
     cases hr
     exact atc rfl rfl
  ·
   refine rn tk 2 rfl ?_
   cases hr
   exact ato rfl rfl rfl rfl
 ·
  refine rn tk 8 rfl ?_
  obtain ⟨v16,h17,hr⟩:=zaa hr
  refine cl (qla _ _ _ _ h17) rfl rfl ?_
  refine rn tk 3 rfl ?_
  refine ac 33 hr rfl (fun c18 hr=> ?_) (fun c18 hr=> ?_)
  ·
   refine rn tk 7 rfl ?_
   cases hr
   exact kr tk (.inr rfl) rfl rfl
  ·
   refine rn tk 11 rfl ?_
   refine ac 37 hr rfl (fun c19 hr=> ?_) (fun c19 hr=> ?_)
   ·
    refine rn tk 7 rfl ?_
    cases hr
    exact kr tk (.inr rfl) rfl rfl
   ·
    refine rn tk 17 rfl ?_
    refine al2 hr (fun s20=> [(1, .ptr 1 0),(4, .i ((a0.Value.length:Int))),(5, .i s20)]) (fun s20=> [(1, .cells [.s a0.Name, .s a0.Value])]) (.exit 2) (fun b21=> [(1, .ptr 1 0),(4, .i ((a0.Value.length:Int)))]) (fun b21=> [(1, .cells [.s a0.Name, .s a0.Value])]) .ret (fun b22=> [(2, .i b22)]) (fun b22=> []) rfl rfl (fun s20 x24 hr=> ?_) (fun b21 hr=> ?_) (fun b22 hr=> ?_)
    ·
     unfold vNa at hr
     refine rn tk 8 rfl ?_
     refine ac 43 hr rfl (fun c25 hr=> ?_) (fun c25 hr=> ?_)
     ·
      refine rn tk 4 rfl ?_
      refine jb hr (fun j26=> [(1, .ptr 1 0),(4, .i ((a0.Value.length:Int))),(5, .i s20),(64, .bo j26)]) (fun j26=> [(1, .cells [.s a0.Name, .s a0.Value])]) (fun j26 hr=> ?_) (fun j26 hr=> ?_)
      ·
       refine rn tk 4 rfl ?_
       obtain ⟨v27,h28,hr⟩:=zaa hr
       refine ws tk h28 rfl rfl rfl rfl ?_
       refine rn tk 2 rfl ?_
       refine bs 51 hr rfl (fun c29 hr=> ?_) (fun c29 hr=> ?_)
       ·
        refine rn tk 14 rfl ?_
        cases hr
        exact jn _ rfl rfl rfl
       ·
        refine rn tk 3 rfl ?_
        obtain ⟨v30,h31,hr⟩:=zaa hr
        refine ug rfl rfl rfl ?_
        refine ws tk h31 rfl rfl rfl rfl ?_
        refine rn tk 3 rfl ?_
        refine bs 58 hr rfl (fun c32 hr=> ?_) (fun c32 hr=> ?_)
        ·
         refine rn tk 7 rfl ?_
         cases hr
         exact jn _ rfl rfl rfl
        ·
         refine rn tk 3 rfl ?_
         obtain ⟨v33,h34,hr⟩:=zaa hr
         refine ug rfl rfl rfl ?_
         refine ws tk h34 rfl rfl rfl rfl ?_
         refine rn tk 3 rfl ?_
         cases hr
         exact jn _ rfl rfl rfl
      ·
       refine ac 64 hr rfl (fun c35 hr=> ?_) (fun c35 hr=> ?_)
       ·
        refine rn tk 8 rfl ?_
        cases hr
        exact ato rfl rfl rfl rfl
       ·
        refine rn tk 8 rfl ?_
        cases hr
        exact atc rfl rfl
     ·
      refine rn tk 2 rfl ?_
      cases hr
      exact ato rfl rfl rfl rfl
    ·
     refine rn tk 3 rfl ?_
     refine jb hr (fun j36=> [(1, .ptr 1 0),(80, .bo j36)]) (fun j36=> [(1, .cells [.s a0.Name, .s a0.Value])]) (fun j36 hr=> ?_) (fun j36 hr=> ?_)
     ·
      refine rn tk 4 rfl ?_
      refine bs 67 hr rfl (fun c37 hr=> ?_) (fun c37 hr=> ?_)
      ·
       refine rn tk 2 rfl ?_
       obtain ⟨v38,h39,hr⟩:=zaa hr
       refine ug rfl rfl rfl ?_
       refine ws tk h39 rfl rfl rfl rfl ?_
       obtain ⟨v40,h41,hr⟩:=zaa hr
       refine ug rfl rfl rfl ?_
       refine cl (wTa _ _ h41) rfl rfl ?_
       refine rn tk 1 rfl ?_
       refine bs 72 hr rfl (fun c42 hr=> ?_) (fun c42 hr=> ?_)
       ·
        refine rn tk 9 rfl ?_
        cases hr
        exact jn _ rfl rfl rfl
       ·
        refine rn tk 4 rfl ?_
        obtain ⟨v43,h44,hr⟩:=zaa hr
        refine ug rfl rfl rfl ?_
        refine ws tk h44 rfl rfl rfl rfl ?_
        obtain ⟨v45,h46,hr⟩:=zaa hr
        refine ug rfl rfl rfl ?_
        refine cl (wTa _ _ h46) rfl rfl ?_
        refine rn tk 3 rfl ?_
        cases hr
        exact jn _ rfl rfl rfl
      ·
       refine rn tk 14 rfl ?_
       cases hr
       exact jn _ rfl rfl rfl
     ·
      refine ac 80 hr rfl (fun c47 hr=> ?_) (fun c47 hr=> ?_)
      ·
       refine rn tk 7 rfl ?_
       cases hr
       exact kr tk (.inr rfl) rfl rfl
      ·
       refine rn tk 8 rfl ?_
       obtain ⟨v48,h49,hr⟩:=zaa hr
       refine cl (ZEa _ _ _ h49) rfl rfl ?_
       refine rn tk 10 rfl ?_
       refine al2 hr (fun s50=> [(6, .l cS v48),(7, .i s50)]) (fun s50=> []) (.exit 4) (fun b51=> []) (fun b51=> []) .ret (fun b52=> [(2, .i b52)]) (fun b52=> []) rfl rfl (fun s50 x54 hr=> ?_) (fun b51 hr=> ?_) (fun b52 hr=> ?_)
       ·
        unfold vOa at hr
        refine rn tk 5 rfl ?_
        refine wn tk rfl rfl rfl ?_
        refine rn tk 3 rfl ?_
        refine ac 89 hr rfl (fun c55 hr=> ?_) (fun c55 hr=> ?_)
        ·
         refine rn tk 8 rfl ?_
         obtain ⟨v56,h57,hr⟩:=zaa hr
         refine wi tk h57 rfl rfl rfl rfl rfl ?_
         refine rn tk 5 rfl ?_
         refine ac 97 hr rfl (fun c58 hr=> ?_) (fun c58 hr=> ?_)
         ·
          refine rn tk 8 rfl ?_
          cases hr
          exact ato rfl rfl rfl rfl
         ·
          refine rn tk 8 rfl ?_
          cases hr
          exact atc rfl rfl
        ·
         refine rn tk 2 rfl ?_
         cases hr
         exact ato rfl rfl rfl rfl
       ·
        refine rn tk 8 rfl ?_
        cases hr
        exact kr tk (.inr rfl) rfl rfl
       ·
        refine rn tk 2 rfl ?_
        cases hr
        exact kr tk (.inr rfl) rfl rfl
    ·
     refine rn tk 2 rfl ?_
     cases hr
     exact kr tk (.inr rfl) rfl rfl
 ·
  refine rn tk 2 rfl ?_
  cases hr
  exact kr tk (.inr rfl) rfl rfl
theorem jza (a0:zxa) (r:zza) (hr:qWa a0=some r):Run Tryz.prog 26 [.agg [.l zga.pc a0.Fields, .l cU a0.Body]] (.agg [.i r.Code, .i r.Index]):=by
 unfold qWa at hr
 refine rf (fn:=Tryz.f26) ⟨Tryz.func26,rfl,by kernel_rfl⟩ rfl (fun _=> rfl) fun g0 hg=> ?_
 refine rn tk 11 rfl ?_
 refine wn tk rfl rfl rfl ?_
 refine rn tk 3 rfl ?_
 refine ac 11 hr rfl (fun c1 hr=> ?_) (fun c1 hr=> ?_)
 ·
  refine rn tk 2 rfl ?_
  obtain ⟨v2,h3,hr⟩:=zaa hr
  refine cl (kya _ _ _ h3) rfl rfl ?_
  refine rn tk 5 rfl ?_
  cases hr
  exact kr tk (.inr rfl) rfl rfl
 ·
  refine rn tk 9 rfl ?_
  refine al2 hr (fun s4=> [(1, .ptr 1 0),(2, .ptr 2 0),(3, .i s4)]) (fun s4=> [(2, .cells [.i 0, .i 0]),(1, .cells [.l zga.pc a0.Fields, .l cU a0.Body])]) (.exit 0) (fun b5=> [(1, .ptr 1 0),(2, .ptr 2 0)]) (fun b5=> [(2, .cells [.i 0, .i 0]),(1, .cells [.l zga.pc a0.Fields, .l cU a0.Body])]) .ret (fun b6=> [(2, .ptr 2 0)]) (fun b6=> [(2, .cells [.i b6.Code, .i b6.Index])]) rfl rfl (fun s4 x8 hr=> ?_) (fun b5 hr=> ?_) (fun b6 hr=> ?_)
  ·
   unfold vxa at hr
   refine rn tk 6 rfl ?_
   refine wn tk rfl rfl rfl ?_
   refine rn tk 3 rfl ?_
   refine ac 17 hr rfl (fun c9 hr=> ?_) (fun c9 hr=> ?_)
   ·
    refine rn tk 9 rfl ?_
    obtain ⟨v10,h11,hr⟩:=zaa hr
    refine wi tk h11 rfl rfl rfl rfl rfl ?_
    refine rn tk 1 rfl ?_
    obtain ⟨v12,h13,hr⟩:=zaa hr
    refine cl (YAa _ _ h13) rfl rfl ?_
    refine rn tk 9 rfl ?_
    refine ac 27 hr rfl (fun c14 hr=> ?_) (fun c14 hr=> ?_)
    ·
     refine rn tk 4 rfl ?_
     obtain ⟨v15,h16,hr⟩:=zaa hr
     refine cl (kya _ _ _ h16) rfl rfl ?_
     refine rn tk 6 rfl ?_
     cases hr
     exact ato rfl rfl rfl rfl
    ·
     refine rn tk 8 rfl ?_
     cases hr
     exact atc rfl rfl
   ·
    refine rn tk 2 rfl ?_
    cases hr
    exact ato rfl rfl rfl rfl
  ·
   refine rn tk 3 rfl ?_
   refine jb hr (fun j17=> [(1, .ptr 1 0),(2, .ptr 2 0),(40, .bo j17)]) (fun j17=> [(2, .cells [.i 0, .i 0]),(1, .cells [.l zga.pc a0.Fields, .l cU a0.Body])]) (fun j17 hr=> ?_) (fun j17 hr=> ?_)
   ·
    refine rn tk 3 rfl ?_
    refine wn tk rfl rfl rfl ?_
    refine rn tk 2 rfl ?_
    refine bs 35 hr rfl (fun c18 hr=> ?_) (fun c18 hr=> ?_)
    ·
     refine rn tk 6 rfl ?_
     cases hr
     exact jn _ rfl rfl rfl
    ·
     refine rn tk 1 rfl ?_
     obtain ⟨v19,h20,hr⟩:=zaa hr
     refine ug rfl rfl rfl ?_
     refine cl (q6a _ _ h20) rfl rfl ?_
     refine ug rfl rfl rfl ?_
     refine wn tk rfl rfl rfl ?_
     refine rn tk 3 rfl ?_
     cases hr
     exact jn _ rfl rfl rfl
   ·
    refine ac 40 hr rfl (fun c21 hr=> ?_) (fun c21 hr=> ?_)
    ·
     refine rn tk 2 rfl ?_
     obtain ⟨v22,h23,hr⟩:=zaa hr
     refine cl (kya _ _ _ h23) rfl rfl ?_
     refine rn tk 5 rfl ?_
     cases hr
     exact kr tk (.inr rfl) rfl rfl
    ·
     refine rn tk 14 rfl ?_
     refine al2 hr (fun s24=> [(1, .ptr 1 0),(2, .ptr 2 0),(5, .i s24.1),(6, .i s24.2)]) (fun s24=> [(2, .cells [.i 0, .i 0]),(1, .cells [.l zga.pc a0.Fields, .l cU a0.Body])]) (.exit 2) (fun b25=> [(2, .ptr 2 0)]) (fun b25=> [(2, .cells [.i 0, .i 0])]) .ret (fun b26=> [(2, .ptr 2 0)]) (fun b26=> [(2, .cells [.i b26.Code, .i b26.Index])]) rfl rfl (fun s24 x28 hr=> ?_) (fun b25 hr=> ?_) (fun b26 hr=> ?_)
     ·
      unfold k7a at hr
      refine rn tk 6 rfl ?_
      refine wn tk rfl rfl rfl ?_
      refine rn tk 3 rfl ?_
      refine ac 46 hr rfl (fun c29 hr=> ?_) (fun c29 hr=> ?_)
      ·
       refine rn tk 2 rfl ?_
       refine jk (fun j30=> [(1, .ptr 1 0),(2, .ptr 2 0),(5, .i j30.1),(6, .i j30.2)]) (fun j30=> [(2, .cells [.i 0, .i 0]),(1, .cells [.l zga.pc a0.Fields, .l cU a0.Body])]) (fun j30=> qFa j30=some x28) ?_ ?_
       ·
        refine rn tk 6 rfl ?_
        obtain ⟨v31,h32,hr⟩:=zaa hr
        refine wi tk h32 rfl rfl rfl rfl rfl ?_
        refine rn tk 5 rfl ?_
        refine jb hr (fun j33=> [(1, .ptr 1 0),(2, .ptr 2 0),(5, .i s24.1),(6, .i s24.2),(7, .u8 v31),(72, .bo j33)]) (fun j33=> [(2, .cells [.i 0, .i 0]),(1, .cells [.l zga.pc a0.Fields, .l cU a0.Body])]) (fun j33 hr=> ?_) (fun j33 hr=> ?_)
        ·
         refine rn tk 4 rfl ?_
         refine bs 56 hr rfl (fun c34 hr=> ?_) (fun c34 hr=> ?_)
         ·
          refine rn tk 4 rfl ?_
          refine ug rfl rfl rfl ?_
          refine wn tk rfl rfl rfl ?_
          refine rn tk 3 rfl ?_
          refine bs 64 hr rfl (fun c35 hr=> ?_) (fun c35 hr=> ?_)
          ·
           refine rn tk 4 rfl ?_
           obtain ⟨v36,h37,hr⟩:=zaa hr
           refine ug rfl rfl rfl ?_
           refine wi tk h37 rfl rfl rfl rfl rfl ?_
           refine rn tk 4 rfl ?_
           cases hr
           exact jn _ rfl rfl rfl
          ·
           refine rn tk 9 rfl ?_
           cases hr
           exact jn _ rfl rfl rfl
         ·
          refine rn tk 17 rfl ?_
          cases hr
          exact jn _ rfl rfl rfl
        ·
         refine ac 72 hr rfl (fun c38 hr=> ?_) (fun c38 hr=> ?_)
         ·
          refine rn tk 15 rfl ?_
          exact jn ((0,(w64 (s24.2+1)))) hr rfl rfl
         ·
          refine rn tk 3 rfl ?_
          refine jb hr (fun j39=> [(1, .ptr 1 0),(2, .ptr 2 0),(5, .i s24.1),(6, .i s24.2),(80, .bo j39)]) (fun j39=> [(2, .cells [.i 0, .i 0]),(1, .cells [.l zga.pc a0.Fields, .l cU a0.Body])]) (fun j39 hr=> ?_) (fun j39 hr=> ?_)
          ·
           refine rn tk 4 rfl ?_
           refine bs 77 hr rfl (fun c40 hr=> ?_) (fun c40 hr=> ?_)
           ·
            refine rn tk 4 rfl ?_
            cases hr
            exact jn _ rfl rfl rfl
           ·
            refine rn tk 4 rfl ?_
            cases hr
            exact jn _ rfl rfl rfl
          ·
           refine ac 80 hr rfl (fun c41 hr=> ?_) (fun c41 hr=> ?_)
           ·
            refine rn tk 2 rfl ?_
            obtain ⟨v42,h43,hr⟩:=zaa hr
            refine cl (kya _ _ _ h43) rfl rfl ?_
            refine rn tk 7 rfl ?_
            cases hr
            exact ato rfl rfl rfl rfl
           ·
            refine rn tk 15 rfl ?_
            refine ac 85 hr rfl (fun c44 hr=> ?_) (fun c44 hr=> ?_)
            ·
             refine rn tk 2 rfl ?_
             obtain ⟨v45,h46,hr⟩:=zaa hr
             refine cl (kya _ _ _ h46) rfl rfl ?_
             refine rn tk 6 rfl ?_
             cases hr
             exact ato rfl rfl rfl rfl
            ·
             refine rn tk 2 rfl ?_
             exact jn (((w64 (s24.1+1)),s24.2)) hr rfl rfl
       ·
        intro j30 hr
        unfold qFa at hr
        refine rn tk 5 rfl ?_
        cases hr
        exact atc rfl rfl
      ·
       refine rn tk 2 rfl ?_
       cases hr
       exact ato rfl rfl rfl rfl
     ·
      refine rn tk 9 rfl ?_
      cases hr
      exact kr tk (.inr rfl) rfl rfl
     ·
      refine rn tk 2 rfl ?_
      cases hr
      exact kr tk (.inr rfl) rfl rfl
  ·
   refine rn tk 2 rfl ?_
   cases hr
   exact kr tk (.inr rfl) rfl rfl
theorem YBa (a0:kea) (r:zza) (hr:yNa a0=some r):Run Tryz.prog 10 [.agg [.s a0.Envelope.From, .l zca.pc a0.Envelope.To, .s a0.Envelope.Id, .l zga.pc a0.Message.Fields, .l cU a0.Message.Body]] (.agg [.i r.Code, .i r.Index]):=by
 unfold yNa at hr
 refine rf (fn:=Tryz.f10) ⟨Tryz.func10,rfl,by kernel_rfl⟩ rfl (fun _=> rfl) fun g0 hg=> ?_
 refine rn tk 10 rfl ?_
 obtain ⟨v1,h2,hr⟩:=zaa hr
 refine cl (Qva _ _ h2) rfl rfl ?_
 refine rn tk 4 rfl ?_
 refine jb hr (fun j3=> [(2, .ptr 2 0),(3, .ptr 3 0)]) (fun j3=> [(3, .cells [.i j3.1, .i j3.2]),(2, .cells [.i 0, .i 0])]) (fun j3 hr=> ?_) (fun j3 hr=> ?_)
 ·
  refine jb hr (fun j4=> [(1, .ptr 1 0),(2, .ptr 2 0),(3, .ptr 3 0),(16, .bo j4)]) (fun j4=> [(3, .cells [.i v1.Code, .i v1.Index]),(2, .cells [.i 0, .i 0]),(1, .cells [.s a0.Envelope.From, .l zca.pc a0.Envelope.To, .s a0.Envelope.Id, .l zga.pc a0.Message.Fields, .l cU a0.Message.Body])]) (fun j4 hr=> ?_) (fun j4 hr=> ?_)
  ·
   refine rn tk 5 rfl ?_
   refine bs 10 hr rfl (fun c5 hr=> ?_) (fun c5 hr=> ?_)
   ·
    refine rn tk 2 rfl ?_
    obtain ⟨v6,h7,hr⟩:=zaa hr
    refine ug rfl rfl rfl ?_
    refine cl (jza _ _ h7) rfl rfl ?_
    refine rn tk 4 rfl ?_
    cases hr
    exact jn _ rfl rfl rfl
   ·
    refine rn tk 7 rfl ?_
    cases hr
    exact jn _ rfl rfl rfl
  ·
   refine ac 16 hr rfl (fun c8 hr=> ?_) (fun c8 hr=> ?_)
   ·
    refine rn tk 3 rfl ?_
    obtain ⟨v9,h10,hr⟩:=zaa hr
    refine cl (jza _ _ h10) rfl rfl ?_
    refine rn tk 1 rfl ?_
    obtain ⟨v11,h12,hr⟩:=zaa hr
    refine cl (kya _ _ _ h12) rfl rfl ?_
    refine rn tk 2 rfl ?_
    cases hr
    exact jn _ rfl rfl rfl
   ·
    refine rn tk 1 rfl ?_
    cases hr
    exact jn _ rfl rfl rfl
 ·
  refine rn tk 7 rfl ?_
  cases hr
  exact kr tk (.inr rfl) rfl rfl
theorem Vfa (a0:zla) (r:zza) (hr:vSa a0=some r):Run Tryz.prog 13 [.agg [.s a0.Name, .s a0.Mail.Envelope.From, .l zca.pc a0.Mail.Envelope.To, .s a0.Mail.Envelope.Id, .l zga.pc a0.Mail.Message.Fields, .l cU a0.Mail.Message.Body, .bo a0.Pipelined, .l cU a0.Buffer, .i a0.Expected, .bo a0.Whole, .bo a0.Done, .l cI a0.Results]] (.agg [.i r.Code, .i r.Index]):=by
 unfold vSa at hr
 refine rf (fn:=Tryz.f13) ⟨Tryz.func13,rfl,by kernel_rfl⟩ rfl (fun _=> rfl) fun g0 hg=> ?_
 refine rn tk 11 rfl ?_
 obtain ⟨v1,h2,hr⟩:=zaa hr
 refine cl (V9a _ _ h2) rfl rfl ?_
 refine rn tk 3 rfl ?_
 refine ac 12 hr rfl (fun c3 hr=> ?_) (fun c3 hr=> ?_)
 ·
  refine rn tk 2 rfl ?_
  obtain ⟨v4,h5,hr⟩:=zaa hr
  refine cl (kya _ _ _ h5) rfl rfl ?_
  refine rn tk 5 rfl ?_
  cases hr
  exact kr tk (.inr rfl) rfl rfl
 ·
  refine rn tk 6 rfl ?_
  obtain ⟨v6,h7,hr⟩:=zaa hr
  refine cl (YBa _ _ h7) rfl rfl ?_
  refine rn tk 12 rfl ?_
  refine ac 19 hr rfl (fun c8 hr=> ?_) (fun c8 hr=> ?_)
  ·
   refine rn tk 8 rfl ?_
   cases hr
   exact kr tk (.inr rfl) rfl rfl
  ·
   refine rn tk 8 rfl ?_
   refine wn tk rfl rfl rfl ?_
   refine rn tk 3 rfl ?_
   refine jb hr (fun j9=> [(1, .ptr 1 0),(2, .ptr 2 0),(3, .ptr 3 0),(4, .i ((a0.Mail.Envelope.To.length:Int))),(5, .bo j9)]) (fun j9=> [(3, .cells [.i v6.Code, .i v6.Index]),(2, .cells [.i 0, .i 0]),(1, .cells [.s a0.Name, .s a0.Mail.Envelope.From, .l zca.pc a0.Mail.Envelope.To, .s a0.Mail.Envelope.Id, .l zga.pc a0.Mail.Message.Fields, .l cU a0.Mail.Message.Body, .bo a0.Pipelined, .l cU a0.Buffer, .i a0.Expected, .bo a0.Whole, .bo a0.Done, .l cI a0.Results])]) (fun j9 hr=> ?_) (fun j9 hr=> ?_)
   ·
    refine rn tk 3 rfl ?_
    refine wn tk rfl rfl rfl ?_
    refine rn tk 3 rfl ?_
    refine bs 31 hr rfl (fun c10 hr=> ?_) (fun c10 hr=> ?_)
    ·
     refine rn tk 15 rfl ?_
     cases hr
     exact jn _ rfl rfl rfl
    ·
     refine rn tk 4 rfl ?_
     obtain ⟨v11,h12,hr⟩:=zaa hr
     refine ug rfl rfl rfl ?_
     refine cl (qla _ _ _ _ h12) rfl rfl ?_
     refine rn tk 3 rfl ?_
     refine bs 39 hr rfl (fun c13 hr=> ?_) (fun c13 hr=> ?_)
     ·
      refine rn tk 7 rfl ?_
      cases hr
      exact jn _ rfl rfl rfl
     ·
      refine rn tk 2 rfl ?_
      refine ug rfl rfl rfl ?_
      refine wn tk rfl rfl rfl ?_
      refine rn tk 4 rfl ?_
      cases hr
      exact jn _ rfl rfl rfl
   ·
    refine rn tk 7 rfl ?_
    refine al1 hr (fun s14=> [(1, .ptr 1 0),(2, .ptr 2 0),(3, .ptr 3 0),(4, .i ((a0.Mail.Envelope.To.length:Int))),(5, .bo s14.1),(6, .i s14.2)]) (fun s14=> [(3, .cells [.i v6.Code, .i v6.Index]),(2, .cells [.i 0, .i 0]),(1, .cells [.s a0.Name, .s a0.Mail.Envelope.From, .l zca.pc a0.Mail.Envelope.To, .s a0.Mail.Envelope.Id, .l zga.pc a0.Mail.Message.Fields, .l cU a0.Mail.Message.Body, .bo a0.Pipelined, .l cU a0.Buffer, .i a0.Expected, .bo a0.Whole, .bo a0.Done, .l cI a0.Results])]) (.exit 0) (fun b15=> [(1, .ptr 1 0),(2, .ptr 2 0),(3, .ptr 3 0),(4, .i ((a0.Mail.Envelope.To.length:Int))),(5, .bo b15)]) (fun b15=> [(3, .cells [.i v6.Code, .i v6.Index]),(2, .cells [.i 0, .i 0]),(1, .cells [.s a0.Name, .s a0.Mail.Envelope.From, .l zca.pc a0.Mail.Envelope.To, .s a0.Mail.Envelope.Id, .l zga.pc a0.Mail.Message.Fields, .l cU a0.Mail.Message.Body, .bo a0.Pipelined, .l cU a0.Buffer, .i a0.Expected, .bo a0.Whole, .bo a0.Done, .l cI a0.Results])]) rfl rfl (fun s14 x16 hr=> ?_) (fun b15 hr=> ?_)
    ·
     unfold qGa at hr
     refine rn tk 6 rfl ?_
     refine wn tk rfl rfl rfl ?_
     refine rn tk 3 rfl ?_
     refine ac 49 hr rfl (fun c17 hr=> ?_) (fun c17 hr=> ?_)
     ·
      refine rn tk 2 rfl ?_
      refine jb hr (fun j18=> [(1, .ptr 1 0),(2, .ptr 2 0),(3, .ptr 3 0),(4, .i ((a0.Mail.Envelope.To.length:Int))),(5, .bo j18),(6, .i s14.2)]) (fun j18=> [(3, .cells [.i v6.Code, .i v6.Index]),(2, .cells [.i 0, .i 0]),(1, .cells [.s a0.Name, .s a0.Mail.Envelope.From, .l zca.pc a0.Mail.Envelope.To, .s a0.Mail.Envelope.Id, .l zga.pc a0.Mail.Message.Fields, .l cU a0.Mail.Message.Body, .bo a0.Pipelined, .l cU a0.Buffer, .i a0.Expected, .bo a0.Whole, .bo a0.Done, .l cI a0.Results])]) (fun j18 hr=> ?_) (fun j18 hr=> ?_)
      ·
       refine rn tk 4 rfl ?_
       refine bs 53 hr rfl (fun c19 hr=> ?_) (fun c19 hr=> ?_)
       ·
        refine rn tk 31 rfl ?_
        cases hr
        exact jn _ rfl rfl rfl
       ·
        refine rn tk 3 rfl ?_
        obtain ⟨v20,h21,hr⟩:=zaa hr
        refine ug rfl rfl rfl ?_
        refine wi tk h21 rfl rfl rfl rfl rfl ?_
        refine rn tk 1 rfl ?_
        obtain ⟨v22,h23,hr⟩:=zaa hr
        refine ug rfl rfl rfl ?_
        refine cl (qla _ _ _ _ h23) rfl rfl ?_
        refine rn tk 3 rfl ?_
        refine bs 62 hr rfl (fun c24 hr=> ?_) (fun c24 hr=> ?_)
        ·
         refine rn tk 22 rfl ?_
         cases hr
         exact jn _ rfl rfl rfl
        ·
         refine rn tk 4 rfl ?_
         refine bs 66 hr rfl (fun c25 hr=> ?_) (fun c25 hr=> ?_)
         ·
          refine rn tk 7 rfl ?_
          refine bs 73 hr rfl (fun c26 hr=> ?_) (fun c26 hr=> ?_)
          ·
           refine rn tk 3 rfl ?_
           obtain ⟨v27,h28,hr⟩:=zaa hr
           refine ug rfl rfl rfl ?_
           refine wi tk h28 rfl rfl rfl rfl rfl ?_
           refine rn tk 7 rfl ?_
           cases hr
           exact jn _ rfl rfl rfl
          ·
           refine rn tk 11 rfl ?_
           cases hr
           exact jn _ rfl rfl rfl
         ·
          refine rn tk 18 rfl ?_
          cases hr
          exact jn _ rfl rfl rfl
      ·
       refine rn tk 5 rfl ?_
       cases hr
       exact atc rfl rfl
     ·
      refine rn tk 2 rfl ?_
      cases hr
      exact ato rfl rfl rfl rfl
    ·
     refine rn tk 7 rfl ?_
     obtain ⟨v29,h30,hr⟩:=zaa hr
     refine cl (VMa _ _ h30) rfl rfl ?_
     refine rn tk 3 rfl ?_
     refine jb hr (fun j31=> [(1, .ptr 1 0),(2, .ptr 2 0),(3, .ptr 3 0),(4, .i ((a0.Mail.Envelope.To.length:Int))),(5, .bo b15),(7, .bo v29),(8, .bo j31)]) (fun j31=> [(3, .cells [.i v6.Code, .i v6.Index]),(2, .cells [.i 0, .i 0]),(1, .cells [.s a0.Name, .s a0.Mail.Envelope.From, .l zca.pc a0.Mail.Envelope.To, .s a0.Mail.Envelope.Id, .l zga.pc a0.Mail.Message.Fields, .l cU a0.Mail.Message.Body, .bo a0.Pipelined, .l cU a0.Buffer, .i a0.Expected, .bo a0.Whole, .bo a0.Done, .l cI a0.Results])]) (fun j31 hr=> ?_) (fun j31 hr=> ?_)
     ·
      refine rn tk 7 rfl ?_
      refine bs 91 hr rfl (fun c32 hr=> ?_) (fun c32 hr=> ?_)
      ·
       refine rn tk 13 rfl ?_
       cases hr
       exact jn _ rfl rfl rfl
      ·
       refine rn tk 2 rfl ?_
       refine bs 93 hr rfl (fun c33 hr=> ?_) (fun c33 hr=> ?_)
       ·
        refine rn tk 4 rfl ?_
        refine bs 97 hr rfl (fun c34 hr=> ?_) (fun c34 hr=> ?_)
        ·
         refine rn tk 7 rfl ?_
         cases hr
         exact jn _ rfl rfl rfl
        ·
         refine rn tk 7 rfl ?_
         cases hr
         exact jn _ rfl rfl rfl
       ·
        refine rn tk 11 rfl ?_
        cases hr
        exact jn _ rfl rfl rfl
     ·
      refine jb hr (fun j35=> [(2, .ptr 2 0),(3, .ptr 3 0),(5, .bo j35)]) (fun j35=> [(3, .cells [.i v6.Code, .i v6.Index]),(2, .cells [.i 0, .i 0])]) (fun j35 hr=> ?_) (fun j35 hr=> ?_)
      ·
       refine jb hr (fun j36=> [(2, .ptr 2 0),(3, .ptr 3 0),(5, .bo b15),(121, .bo j36)]) (fun j36=> [(3, .cells [.i v6.Code, .i v6.Index]),(2, .cells [.i 0, .i 0])]) (fun j36 hr=> ?_) (fun j36 hr=> ?_)
       ·
        refine rn tk 5 rfl ?_
        refine bs 106 hr rfl (fun c37 hr=> ?_) (fun c37 hr=> ?_)
        ·
         refine rn tk 5 rfl ?_
         refine bs 111 hr rfl (fun c38 hr=> ?_) (fun c38 hr=> ?_)
         ·
          refine rn tk 11 rfl ?_
          cases hr
          exact jn _ rfl rfl rfl
         ·
          refine rn tk 2 rfl ?_
          refine bs 113 hr rfl (fun c39 hr=> ?_) (fun c39 hr=> ?_)
          ·
           refine rn tk 9 rfl ?_
           cases hr
           exact jn _ rfl rfl rfl
          ·
           refine rn tk 9 rfl ?_
           cases hr
           exact jn _ rfl rfl rfl
        ·
         refine rn tk 16 rfl ?_
         cases hr
         exact jn _ rfl rfl rfl
       ·
        refine ac 121 hr rfl (fun c40 hr=> ?_) (fun c40 hr=> ?_)
        ·
         refine rn tk 3 rfl ?_
         cases hr
         exact jn _ rfl rfl rfl
        ·
         refine rn tk 1 rfl ?_
         cases hr
         exact jn _ rfl rfl rfl
      ·
       refine rn tk 6 rfl ?_
       refine ac 122 hr rfl (fun c41 hr=> ?_) (fun c41 hr=> ?_)
       ·
        refine rn tk 2 rfl ?_
        obtain ⟨v42,h43,hr⟩:=zaa hr
        refine cl (kya _ _ _ h43) rfl rfl ?_
        refine rn tk 5 rfl ?_
        cases hr
        exact kr tk (.inr rfl) rfl rfl
       ·
        refine rn tk 9 rfl ?_
        cases hr
        exact kr tk (.inr rfl) rfl rfl
theorem Zua (a0:zla) (r:Int) (hr:jWa a0=some r):Run Tryz.prog 39 [.agg [.s a0.Name, .s a0.Mail.Envelope.From, .l zca.pc a0.Mail.Envelope.To, .s a0.Mail.Envelope.Id, .l zga.pc a0.Mail.Message.Fields, .l cU a0.Mail.Message.Body, .bo a0.Pipelined, .l cU a0.Buffer, .i a0.Expected, .bo a0.Whole, .bo a0.Done, .l cI a0.Results]] (.i r):=by
 unfold jWa at hr
 refine rf (fn:=Tryz.f39) ⟨Tryz.func39,rfl,by kernel_rfl⟩ rfl (fun _=> rfl) fun g0 hg=> ?_
 refine rn tk 13 rfl ?_
 refine ac 4 hr rfl (fun c1 hr=> ?_) (fun c1 hr=> ?_)
 ·
  refine rn tk 7 rfl ?_
  cases hr
  exact kr tk (.inr rfl) rfl rfl
 ·
  refine rn tk 8 rfl ?_
  cases hr
  exact kr tk (.inr rfl) rfl rfl
theorem zjb (a0:zea) (a1:Int) (r:zea) (hr:QSa a0 a1=some r):Run Tryz.prog 38 [.agg [.s a0.C.Name, .s a0.C.Mail.Envelope.From, .l zca.pc a0.C.Mail.Envelope.To, .s a0.C.Mail.Envelope.Id, .l zga.pc a0.C.Mail.Message.Fields, .l cU a0.C.Mail.Message.Body, .bo a0.C.Pipelined, .l cU a0.C.Buffer, .i a0.C.Expected, .bo a0.C.Whole, .bo a0.C.Done, .l cI a0.C.Results, .l cU a0.Out], .i a1] (.agg [.s r.C.Name, .s r.C.Mail.Envelope.From, .l zca.pc r.C.Mail.Envelope.To, .s r.C.Mail.Envelope.Id, .l zga.pc r.C.Mail.Message.Fields, .l cU r.C.Mail.Message.Body, .bo r.C.Pipelined, .l cU r.C.Buffer, .i r.C.Expected, .bo r.C.Whole, .bo r.C.Done, .l cI r.C.Results, .l cU r.Out]):=by
 unfold QSa at hr
 refine rf (fn:=Tryz.f38) ⟨Tryz.func38,rfl,by kernel_rfl⟩ rfl (fun _=> rfl) fun g0 hg=> ?_
 refine rn tk 2 rfl ?_
 refine wo (Kta (k:=2) 90001000 rfl rfl rfl rfl rfl) rfl ?_
 refine rn tk 1 rfl ?_
 refine zWa 1004 (o:=4) (j:=12) 5 1 rfl rfl rfl rfl (hO ?_)
 refine rn tk 5 rfl ?_
 refine ksa 1005 (d:=5) 3 1 rfl rfl rfl (hO ?_)
 refine rn tk 9 rfl ?_
 refine al1 hr (fun s1=> [(1, .i a1),(2, .ptr 90001000 0),(4, .ptr 4 0),(5, .hs 1005 0),(6, .i s1.1)]) (fun s1=> [(1005, .row 3 false 1 (List.map cI s1.2)),(1004, .row 5 false 1 (List.map cU (([]:List UInt8)))),(4, .cells [.s (([]:Str)), .s (([]:Str)), .l zca.pc ([]), .s (([]:Str)), .l zga.pc ([]), .l cU ([]), .bo false, .l cU ([]), .i 0, .bo false, .bo false, .l cI ([]), .hs 1004 0]),(90001000, .cells [.s a0.C.Name, .s a0.C.Mail.Envelope.From, .l zca.pc a0.C.Mail.Envelope.To, .s a0.C.Mail.Envelope.Id, .l zga.pc a0.C.Mail.Message.Fields, .l cU a0.C.Mail.Message.Body, .bo a0.C.Pipelined, .l cU a0.C.Buffer, .i a0.C.Expected, .bo a0.C.Whole, .bo a0.C.Done, .l cI a0.C.Results, .l cU a0.Out])]) (.exit 0) (fun b2=> [(2, .ptr 90001000 0),(4, .ptr 4 0),(5, .hs 1005 0)]) (fun b2=> [(1005, .row 3 false 1 (List.map cI b2)),(1004, .row 5 false 1 (List.map cU (([]:List UInt8)))),(4, .cells [.s (([]:Str)), .s (([]:Str)), .l zca.pc ([]), .s (([]:Str)), .l zga.pc ([]), .l cU ([]), .bo false, .l cU ([]), .i 0, .bo false, .bo false, .l cI ([]), .hs 1004 0]),(90001000, .cells [.s a0.C.Name, .s a0.C.Mail.Envelope.From, .l zca.pc a0.C.Mail.Envelope.To, .s a0.C.Mail.Envelope.Id, .l zga.pc a0.C.Mail.Message.Fields, .l cU a0.C.Mail.Message.Body, .bo a0.C.Pipelined, .l cU a0.C.Buffer, .i a0.C.Expected, .bo a0.C.Whole, .bo a0.C.Done, .l cI a0.C.Results, .l cU a0.Out])]) rfl rfl (fun s1 x3 hr=> ?_) (fun b2 hr=> ?_)
 ·
  unfold VYa at hr
  refine rn tk 7 rfl ?_
  refine wn tk rfl rfl rfl ?_
  refine rn tk 3 rfl ?_
  refine ac 13 hr rfl (fun c4 hr=> ?_) (fun c4 hr=> ?_)
  ·
   refine rn tk 10 rfl ?_
   obtain ⟨v5,h6,hr⟩:=zaa hr
   refine wi tk h6 rfl rfl rfl rfl rfl ?_
   refine rn tk 4 rfl ?_
   refine jb hr (fun j7=> [(1, .i a1),(2, .ptr 90001000 0),(4, .ptr 4 0),(5, .hs 1005 0),(6, .i s1.1),(7, .i j7)]) (fun j7=> [(1005, .row 3 false 1 (List.map cI s1.2)),(1004, .row 5 false 1 (List.map cU (([]:List UInt8)))),(4, .cells [.s (([]:Str)), .s (([]:Str)), .l zca.pc ([]), .s (([]:Str)), .l zga.pc ([]), .l cU ([]), .bo false, .l cU ([]), .i 0, .bo false, .bo false, .l cI ([]), .hs 1004 0]),(90001000, .cells [.s a0.C.Name, .s a0.C.Mail.Envelope.From, .l zca.pc a0.C.Mail.Envelope.To, .s a0.C.Mail.Envelope.Id, .l zga.pc a0.C.Mail.Message.Fields, .l cU a0.C.Mail.Message.Body, .bo a0.C.Pipelined, .l cU a0.C.Buffer, .i a0.C.Expected, .bo a0.C.Whole, .bo a0.C.Done, .l cI a0.C.Results, .l cU a0.Out])]) (fun j7 hr=> ?_) (fun j7 hr=> ?_)
   ·
    refine rn tk 6 rfl ?_
    refine ac 23 hr rfl (fun c8 hr=> ?_) (fun c8 hr=> ?_)
    ·
     refine rn tk 4 rfl ?_
     cases hr
     exact jn _ rfl rfl rfl
    ·
     refine rn tk 1 rfl ?_
     cases hr
     exact jn _ rfl rfl rfl
   ·
    refine rn tk 3 rfl ?_
    refine wz cI ([j7]:List Int) tk rfl rfl (fun _=> rfl) rfl rfl rfl ?_
    obtain ⟨v9,h10,hr⟩:=zaa hr
    refine wa tk h10 rfl rfl rfl rfl (fun _=> rfl) rfl rfl ?_
    refine rn tk 9 rfl ?_
    cases hr
    exact atc rfl rfl
  ·
   refine rn tk 2 rfl ?_
   cases hr
   exact ato rfl rfl rfl rfl
 ·
  refine rn tk 30 rfl ?_
  refine Kua (o:=4) (j:=11) (F:=cI) (l:=b2) rfl rfl rfl (hC ?_)
  refine rn tk 1 rfl ?_
  cases hr
  exact kr tk (.inr rfl) rfl rfl
theorem Vga (a0:zla) (r:zla) (hr:Z4a a0=some r):Run Tryz.prog 16 [.agg [.s a0.Name, .s a0.Mail.Envelope.From, .l zca.pc a0.Mail.Envelope.To, .s a0.Mail.Envelope.Id, .l zga.pc a0.Mail.Message.Fields, .l cU a0.Mail.Message.Body, .bo a0.Pipelined, .l cU a0.Buffer, .i a0.Expected, .bo a0.Whole, .bo a0.Done, .l cI a0.Results]] (.agg [.s r.Name, .s r.Mail.Envelope.From, .l zca.pc r.Mail.Envelope.To, .s r.Mail.Envelope.Id, .l zga.pc r.Mail.Message.Fields, .l cU r.Mail.Message.Body, .bo r.Pipelined, .l cU r.Buffer, .i r.Expected, .bo r.Whole, .bo r.Done, .l cI r.Results]):=by
 unfold Z4a at hr
 refine rf (fn:=Tryz.f16) ⟨Tryz.func16,rfl,by kernel_rfl⟩ rfl (fun _=> rfl) fun g0 hg=> ?_
 refine rn tk 7 rfl ?_
 obtain ⟨v1,h2,hr⟩:=zaa hr
 obtain ⟨v3,h4,hr⟩:=zaa hr
 refine drA 6 [(3, .ptr 90001000 0),(8, .agg [.s v3.C.Name, .s v3.C.Mail.Envelope.From, .l zca.pc v3.C.Mail.Envelope.To, .s v3.C.Mail.Envelope.Id, .l zga.pc v3.C.Mail.Message.Fields, .l cU v3.C.Mail.Message.Body, .bo v3.C.Pipelined, .l cU v3.C.Buffer, .i v3.C.Expected, .bo v3.C.Whole, .bo v3.C.Done, .l cI v3.C.Results, .l cU v3.Out]),(7, .i v1),(6, .agg [.s a0.Name, .s a0.Mail.Envelope.From, .l zca.pc a0.Mail.Envelope.To, .s a0.Mail.Envelope.Id, .l zga.pc a0.Mail.Message.Fields, .l cU a0.Mail.Message.Body, .bo a0.Pipelined, .l cU a0.Buffer, .i a0.Expected, .bo a0.Whole, .bo a0.Done, .l cI a0.Results]),(5, .agg [.s a0.Name, .s a0.Mail.Envelope.From, .l zca.pc a0.Mail.Envelope.To, .s a0.Mail.Envelope.Id, .l zga.pc a0.Mail.Message.Fields, .l cU a0.Mail.Message.Body, .bo a0.Pipelined, .l cU a0.Buffer, .i a0.Expected, .bo a0.Whole, .bo a0.Done, .l cI a0.Results, .pv (.sl (some true) [])]),(4, .agg [.s a0.Name, .s a0.Mail.Envelope.From, .l zca.pc a0.Mail.Envelope.To, .s a0.Mail.Envelope.Id, .l zga.pc a0.Mail.Message.Fields, .l cU a0.Mail.Message.Body, .bo a0.Pipelined, .l cU a0.Buffer, .i a0.Expected, .bo a0.Whole, .bo a0.Done, .l cI a0.Results])] mixed (by kernel_rfl) rfl rfl (pqA tk rfl (.plain rfl) (pqA tk rfl (.plain rfl) (pqA tk rfl (.plain rfl) (.run (.plain rfl) (kda (Zua a0 v1 h2) rfl) (.run (.plain rfl) (kda (zjb ((zea.mk a0 ([]))) v1 v3 h4) rfl) (pnA 90001000 tk rfl rfl rfl (.plain rfl) .nil)))))) rfl rfl rfl ?_
 refine zWa 1003 (o:=90001000) (j:=12) 5 1 rfl rfl rfl rfl (hO ?_)
 refine rn tk 11 rfl ?_
 cases hr
 exact kr tk (.inr rfl) rfl rfl
theorem Qaa (a0:zla) (r:Bool) (hr:yya a0=some r):Run Tryz.prog 67 [.agg [.s a0.Name, .s a0.Mail.Envelope.From, .l zca.pc a0.Mail.Envelope.To, .s a0.Mail.Envelope.Id, .l zga.pc a0.Mail.Message.Fields, .l cU a0.Mail.Message.Body, .bo a0.Pipelined, .l cU a0.Buffer, .i a0.Expected, .bo a0.Whole, .bo a0.Done, .l cI a0.Results]] (.bo r):=by
 unfold yya at hr
 refine rf (fn:=Tryz.f67) ⟨Tryz.func67,rfl,by kernel_rfl⟩ rfl (fun _=> rfl) fun g0 hg=> ?_
 refine rn tk 13 rfl ?_
 refine al2 hr (fun s1=> [(1, .ptr 1 0),(3, .i s1)]) (fun s1=> [(1, .cells [.s a0.Name, .s a0.Mail.Envelope.From, .l zca.pc a0.Mail.Envelope.To, .s a0.Mail.Envelope.Id, .l zga.pc a0.Mail.Message.Fields, .l cU a0.Mail.Message.Body, .bo a0.Pipelined, .l cU a0.Buffer, .i a0.Expected, .bo a0.Whole, .bo a0.Done, .l cI a0.Results])]) (.exit 0) (fun b2=> []) (fun b2=> []) .ret (fun b3=> [(2, .bo b3)]) (fun b3=> []) rfl rfl (fun s1 x5 hr=> ?_) (fun b2 hr=> ?_) (fun b3 hr=> ?_)
 ·
  unfold yta at hr
  refine rn tk 6 rfl ?_
  refine wn tk rfl rfl rfl ?_
  refine rn tk 3 rfl ?_
  refine ac 8 hr rfl (fun c6 hr=> ?_) (fun c6 hr=> ?_)
  ·
   refine rn tk 9 rfl ?_
   obtain ⟨v7,h8,hr⟩:=zaa hr
   refine wi tk h8 rfl rfl rfl rfl rfl ?_
   refine rn tk 4 rfl ?_
   refine ac 16 hr rfl (fun c9 hr=> ?_) (fun c9 hr=> ?_)
   ·
    refine rn tk 8 rfl ?_
    cases hr
    exact ato rfl rfl rfl rfl
   ·
    refine rn tk 8 rfl ?_
    cases hr
    exact atc rfl rfl
  ·
   refine rn tk 2 rfl ?_
   cases hr
   exact ato rfl rfl rfl rfl
 ·
  refine rn tk 8 rfl ?_
  cases hr
  exact kr tk (.inr rfl) rfl rfl
 ·
  refine rn tk 2 rfl ?_
  cases hr
  exact kr tk (.inr rfl) rfl rfl
theorem Wpa (a0:Int) (r:Str) (hr:w7a a0=some r):Run Tryz.prog 129 [.i a0] (.s r):=by
 unfold w7a at hr
 refine rf (fn:=Tryz.f129) ⟨Tryz.func129,rfl,by kernel_rfl⟩ rfl (fun _=> rfl) fun g0 hg=> ?_
 refine rn tk 7 rfl ?_
 refine wz cS ([([110,101,118,101,114]:Str),([102,97,105,108,117,114,101]:Str),([100,101,108,97,121]:Str),([102,97,105,108,117,114,101,44,100,101,108,97,121]:Str),([115,117,99,99,101,115,115]:Str),([102,97,105,108,117,114,101,44,115,117,99,99,101,115,115]:Str),([100,101,108,97,121,44,115,117,99,99,101,115,115]:Str),([102,97,105,108,117,114,101,44,100,101,108,97,121,44,115,117,99,99,101,115,115]:Str)]:List Str) tk rfl rfl (fun _=> rfl) rfl (by kernel_rfl) rfl ?_
 refine rn tk 7 rfl ?_
 obtain ⟨v1,h2,hr⟩:=zaa hr
 refine wi tk h2 rfl rfl rfl rfl rfl ?_
 refine rn tk 5 rfl ?_
 cases hr
 exact kr tk (.inr rfl) rfl rfl
private theorem Kia (a0:Int) (r:Str) (hr:yQa a0=some r):Run Tryz.prog 128 [.i a0] (.s r):=by
 unfold yQa at hr
 refine rf (fn:=Tryz.f128) ⟨Tryz.func128,rfl,by kernel_rfl⟩ rfl (fun _=> rfl) fun g0 hg=> ?_
 refine rn tk 12 rfl ?_
 refine ac 4 hr rfl (fun c1 hr=> ?_) (fun c1 hr=> ?_)
 ·
  refine rn tk 5 rfl ?_
  obtain ⟨v2,h3,hr⟩:=zaa hr
  refine Vta tk h3 rfl rfl rfl rfl rfl ?_
  refine rn tk 5 rfl ?_
  cases hr
  exact kr tk (.inr rfl) rfl rfl
 ·
  refine rn tk 5 rfl ?_
  refine wq (v1a rfl rfl rfl) rfl rfl rfl ?_
  cases hr
private theorem Kja (a0:Int) (r:Str) (hr:yRa a0=some r):Run Tryz.prog 128 [.i a0] (.s r):=by
 unfold yRa at hr
 refine rf (fn:=Tryz.f128) ⟨Tryz.func128,rfl,by kernel_rfl⟩ rfl (fun _=> rfl) fun g0 hg=> ?_
 refine rn tk 12 rfl ?_
 refine ac 4 hr rfl (fun c1 hr=> ?_) (fun c1 hr=> ?_)
 ·
  refine rn tk 5 rfl ?_
  obtain ⟨v2,h3,hr⟩:=zaa hr
  refine Vta tk h3 rfl rfl rfl rfl rfl ?_
  refine rn tk 5 rfl ?_
  cases hr
  exact kr tk (.inr rfl) rfl rfl
 ·
  refine rn tk 5 rfl ?_
  refine wq (v1a rfl rfl rfl) rfl rfl rfl ?_
  obtain ⟨v4,h5,hr⟩:=zaa hr
  refine cl (Kia _ _ h5) rfl rfl ?_
  refine rn tk 1 rfl ?_
  refine wq (yfa rfl rfl rfl) rfl rfl rfl ?_
  obtain ⟨v6,h7,hr⟩:=zaa hr
  refine cl (Kia _ _ h7) rfl rfl ?_
  obtain ⟨v8,h9,hr⟩:=zaa hr
  refine wc h9 rfl rfl rfl ?_
  refine rn tk 4 rfl ?_
  cases hr
  exact kr tk (.inr rfl) rfl rfl
private theorem Kka (a0:Int) (r:Str) (hr:ySa a0=some r):Run Tryz.prog 128 [.i a0] (.s r):=by
 unfold ySa at hr
 refine rf (fn:=Tryz.f128) ⟨Tryz.func128,rfl,by kernel_rfl⟩ rfl (fun _=> rfl) fun g0 hg=> ?_
 refine rn tk 12 rfl ?_
 refine ac 4 hr rfl (fun c1 hr=> ?_) (fun c1 hr=> ?_)
 ·
  refine rn tk 5 rfl ?_
  obtain ⟨v2,h3,hr⟩:=zaa hr
  refine Vta tk h3 rfl rfl rfl rfl rfl ?_
  refine rn tk 5 rfl ?_
  cases hr
  exact kr tk (.inr rfl) rfl rfl
 ·
  refine rn tk 5 rfl ?_
  refine wq (v1a rfl rfl rfl) rfl rfl rfl ?_
  obtain ⟨v4,h5,hr⟩:=zaa hr
  refine cl (Kja _ _ h5) rfl rfl ?_
  refine rn tk 1 rfl ?_
  refine wq (yfa rfl rfl rfl) rfl rfl rfl ?_
  obtain ⟨v6,h7,hr⟩:=zaa hr
  refine cl (Kja _ _ h7) rfl rfl ?_
  obtain ⟨v8,h9,hr⟩:=zaa hr
  refine wc h9 rfl rfl rfl ?_
  refine rn tk 4 rfl ?_
  cases hr
  exact kr tk (.inr rfl) rfl rfl
private theorem Kla (a0:Int) (r:Str) (hr:yTa a0=some r):Run Tryz.prog 128 [.i a0] (.s r):=by
 unfold yTa at hr
 refine rf (fn:=Tryz.f128) ⟨Tryz.func128,rfl,by kernel_rfl⟩ rfl (fun _=> rfl) fun g0 hg=> ?_
 refine rn tk 12 rfl ?_
 refine ac 4 hr rfl (fun c1 hr=> ?_) (fun c1 hr=> ?_)
 ·
  refine rn tk 5 rfl ?_
  obtain ⟨v2,h3,hr⟩:=zaa hr
  refine Vta tk h3 rfl rfl rfl rfl rfl ?_
  refine rn tk 5 rfl ?_
  cases hr
  exact kr tk (.inr rfl) rfl rfl
 ·
  refine rn tk 5 rfl ?_
  refine wq (v1a rfl rfl rfl) rfl rfl rfl ?_
  obtain ⟨v4,h5,hr⟩:=zaa hr
  refine cl (Kka _ _ h5) rfl rfl ?_
  refine rn tk 1 rfl ?_
  refine wq (yfa rfl rfl rfl) rfl rfl rfl ?_
  obtain ⟨v6,h7,hr⟩:=zaa hr
  refine cl (Kka _ _ h7) rfl rfl ?_
  obtain ⟨v8,h9,hr⟩:=zaa hr
  refine wc h9 rfl rfl rfl ?_
  refine rn tk 4 rfl ?_
  cases hr
  exact kr tk (.inr rfl) rfl rfl
private theorem Kma (a0:Int) (r:Str) (hr:yUa a0=some r):Run Tryz.prog 128 [.i a0] (.s r):=by
 unfold yUa at hr
 refine rf (fn:=Tryz.f128) ⟨Tryz.func128,rfl,by kernel_rfl⟩ rfl (fun _=> rfl) fun g0 hg=> ?_
 refine rn tk 12 rfl ?_
 refine ac 4 hr rfl (fun c1 hr=> ?_) (fun c1 hr=> ?_)
 ·
  refine rn tk 5 rfl ?_
  obtain ⟨v2,h3,hr⟩:=zaa hr
  refine Vta tk h3 rfl rfl rfl rfl rfl ?_
  refine rn tk 5 rfl ?_
  cases hr
  exact kr tk (.inr rfl) rfl rfl
 ·
  refine rn tk 5 rfl ?_
  refine wq (v1a rfl rfl rfl) rfl rfl rfl ?_
  obtain ⟨v4,h5,hr⟩:=zaa hr
  refine cl (Kla _ _ h5) rfl rfl ?_
  refine rn tk 1 rfl ?_
  refine wq (yfa rfl rfl rfl) rfl rfl rfl ?_
  obtain ⟨v6,h7,hr⟩:=zaa hr
  refine cl (Kla _ _ h7) rfl rfl ?_
  obtain ⟨v8,h9,hr⟩:=zaa hr
  refine wc h9 rfl rfl rfl ?_
  refine rn tk 4 rfl ?_
  cases hr
  exact kr tk (.inr rfl) rfl rfl
private theorem Kna (a0:Int) (r:Str) (hr:yVa a0=some r):Run Tryz.prog 128 [.i a0] (.s r):=by
 unfold yVa at hr
 refine rf (fn:=Tryz.f128) ⟨Tryz.func128,rfl,by kernel_rfl⟩ rfl (fun _=> rfl) fun g0 hg=> ?_
 refine rn tk 12 rfl ?_
 refine ac 4 hr rfl (fun c1 hr=> ?_) (fun c1 hr=> ?_)
 ·
  refine rn tk 5 rfl ?_
  obtain ⟨v2,h3,hr⟩:=zaa hr
  refine Vta tk h3 rfl rfl rfl rfl rfl ?_
  refine rn tk 5 rfl ?_
  cases hr
  exact kr tk (.inr rfl) rfl rfl
 ·
  refine rn tk 5 rfl ?_
  refine wq (v1a rfl rfl rfl) rfl rfl rfl ?_
  obtain ⟨v4,h5,hr⟩:=zaa hr
  refine cl (Kma _ _ h5) rfl rfl ?_
  refine rn tk 1 rfl ?_
  refine wq (yfa rfl rfl rfl) rfl rfl rfl ?_
  obtain ⟨v6,h7,hr⟩:=zaa hr
  refine cl (Kma _ _ h7) rfl rfl ?_
  obtain ⟨v8,h9,hr⟩:=zaa hr
  refine wc h9 rfl rfl rfl ?_
  refine rn tk 4 rfl ?_
  cases hr
  exact kr tk (.inr rfl) rfl rfl
private theorem Koa (a0:Int) (r:Str) (hr:yWa a0=some r):Run Tryz.prog 128 [.i a0] (.s r):=by
 unfold yWa at hr
 refine rf (fn:=Tryz.f128) ⟨Tryz.func128,rfl,by kernel_rfl⟩ rfl (fun _=> rfl) fun g0 hg=> ?_
 refine rn tk 12 rfl ?_
 refine ac 4 hr rfl (fun c1 hr=> ?_) (fun c1 hr=> ?_)
 ·
  refine rn tk 5 rfl ?_
  obtain ⟨v2,h3,hr⟩:=zaa hr
  refine Vta tk h3 rfl rfl rfl rfl rfl ?_
  refine rn tk 5 rfl ?_
  cases hr
  exact kr tk (.inr rfl) rfl rfl
 ·
  refine rn tk 5 rfl ?_
  refine wq (v1a rfl rfl rfl) rfl rfl rfl ?_
  obtain ⟨v4,h5,hr⟩:=zaa hr
  refine cl (Kna _ _ h5) rfl rfl ?_
  refine rn tk 1 rfl ?_
  refine wq (yfa rfl rfl rfl) rfl rfl rfl ?_
  obtain ⟨v6,h7,hr⟩:=zaa hr
  refine cl (Kna _ _ h7) rfl rfl ?_
  obtain ⟨v8,h9,hr⟩:=zaa hr
  refine wc h9 rfl rfl rfl ?_
  refine rn tk 4 rfl ?_
  cases hr
  exact kr tk (.inr rfl) rfl rfl
private theorem Kpa (a0:Int) (r:Str) (hr:yXa a0=some r):Run Tryz.prog 128 [.i a0] (.s r):=by
 unfold yXa at hr
 refine rf (fn:=Tryz.f128) ⟨Tryz.func128,rfl,by kernel_rfl⟩ rfl (fun _=> rfl) fun g0 hg=> ?_
 refine rn tk 12 rfl ?_
 refine ac 4 hr rfl (fun c1 hr=> ?_) (fun c1 hr=> ?_)
 ·
  refine rn tk 5 rfl ?_
  obtain ⟨v2,h3,hr⟩:=zaa hr
  refine Vta tk h3 rfl rfl rfl rfl rfl ?_
  refine rn tk 5 rfl ?_
  cases hr
  exact kr tk (.inr rfl) rfl rfl
 ·
  refine rn tk 5 rfl ?_
  refine wq (v1a rfl rfl rfl) rfl rfl rfl ?_
  obtain ⟨v4,h5,hr⟩:=zaa hr
  refine cl (Koa _ _ h5) rfl rfl ?_
  refine rn tk 1 rfl ?_
  refine wq (yfa rfl rfl rfl) rfl rfl rfl ?_
  obtain ⟨v6,h7,hr⟩:=zaa hr
  refine cl (Koa _ _ h7) rfl rfl ?_
  obtain ⟨v8,h9,hr⟩:=zaa hr
  refine wc h9 rfl rfl rfl ?_
  refine rn tk 4 rfl ?_
  cases hr
  exact kr tk (.inr rfl) rfl rfl
private theorem Kqa (a0:Int) (r:Str) (hr:yYa a0=some r):Run Tryz.prog 128 [.i a0] (.s r):=by
 unfold yYa at hr
 refine rf (fn:=Tryz.f128) ⟨Tryz.func128,rfl,by kernel_rfl⟩ rfl (fun _=> rfl) fun g0 hg=> ?_
 refine rn tk 12 rfl ?_
 refine ac 4 hr rfl (fun c1 hr=> ?_) (fun c1 hr=> ?_)
 ·
  refine rn tk 5 rfl ?_
  obtain ⟨v2,h3,hr⟩:=zaa hr
  refine Vta tk h3 rfl rfl rfl rfl rfl ?_
  refine rn tk 5 rfl ?_
  cases hr
  exact kr tk (.inr rfl) rfl rfl
 ·
  refine rn tk 5 rfl ?_
  refine wq (v1a rfl rfl rfl) rfl rfl rfl ?_
  obtain ⟨v4,h5,hr⟩:=zaa hr
  refine cl (Kpa _ _ h5) rfl rfl ?_
  refine rn tk 1 rfl ?_
  refine wq (yfa rfl rfl rfl) rfl rfl rfl ?_
  obtain ⟨v6,h7,hr⟩:=zaa hr
  refine cl (Kpa _ _ h7) rfl rfl ?_
  obtain ⟨v8,h9,hr⟩:=zaa hr
  refine wc h9 rfl rfl rfl ?_
  refine rn tk 4 rfl ?_
  cases hr
  exact kr tk (.inr rfl) rfl rfl
private theorem Kra (a0:Int) (r:Str) (hr:yZa a0=some r):Run Tryz.prog 128 [.i a0] (.s r):=by
 unfold yZa at hr
 refine rf (fn:=Tryz.f128) ⟨Tryz.func128,rfl,by kernel_rfl⟩ rfl (fun _=> rfl) fun g0 hg=> ?_
 refine rn tk 12 rfl ?_
 refine ac 4 hr rfl (fun c1 hr=> ?_) (fun c1 hr=> ?_)
 ·
  refine rn tk 5 rfl ?_
  obtain ⟨v2,h3,hr⟩:=zaa hr
  refine Vta tk h3 rfl rfl rfl rfl rfl ?_
  refine rn tk 5 rfl ?_
  cases hr
  exact kr tk (.inr rfl) rfl rfl
 ·
  refine rn tk 5 rfl ?_
  refine wq (v1a rfl rfl rfl) rfl rfl rfl ?_
  obtain ⟨v4,h5,hr⟩:=zaa hr
  refine cl (Kqa _ _ h5) rfl rfl ?_
  refine rn tk 1 rfl ?_
  refine wq (yfa rfl rfl rfl) rfl rfl rfl ?_
  obtain ⟨v6,h7,hr⟩:=zaa hr
  refine cl (Kqa _ _ h7) rfl rfl ?_
  obtain ⟨v8,h9,hr⟩:=zaa hr
  refine wc h9 rfl rfl rfl ?_
  refine rn tk 4 rfl ?_
  cases hr
  exact kr tk (.inr rfl) rfl rfl
private theorem ZFa (a0:Int) (r:Str) (hr:w4a a0=some r):Run Tryz.prog 128 [.i a0] (.s r):=by
 unfold w4a at hr
 refine rf (fn:=Tryz.f128) ⟨Tryz.func128,rfl,by kernel_rfl⟩ rfl (fun _=> rfl) fun g0 hg=> ?_
 refine rn tk 12 rfl ?_
 refine ac 4 hr rfl (fun c1 hr=> ?_) (fun c1 hr=> ?_)
 ·
  refine rn tk 5 rfl ?_
  obtain ⟨v2,h3,hr⟩:=zaa hr
  refine Vta tk h3 rfl rfl rfl rfl rfl ?_
  refine rn tk 5 rfl ?_
  cases hr
  exact kr tk (.inr rfl) rfl rfl
 ·
  refine rn tk 5 rfl ?_
  refine wq (v1a rfl rfl rfl) rfl rfl rfl ?_
  obtain ⟨v4,h5,hr⟩:=zaa hr
  refine cl (Kra _ _ h5) rfl rfl ?_
  refine rn tk 1 rfl ?_
  refine wq (yfa rfl rfl rfl) rfl rfl rfl ?_
  obtain ⟨v6,h7,hr⟩:=zaa hr
  refine cl (Kra _ _ h7) rfl rfl ?_
  obtain ⟨v8,h9,hr⟩:=zaa hr
  refine wc h9 rfl rfl rfl ?_
  refine rn tk 4 rfl ?_
  cases hr
  exact kr tk (.inr rfl) rfl rfl
private theorem ZGa (a0:Int) (r:Str) (hr:w5a a0=some r):Run Tryz.prog 128 [.i a0] (.s r):=by
 unfold w5a at hr
 refine rf (fn:=Tryz.f128) ⟨Tryz.func128,rfl,by kernel_rfl⟩ rfl (fun _=> rfl) fun g0 hg=> ?_
 refine rn tk 12 rfl ?_
 refine ac 4 hr rfl (fun c1 hr=> ?_) (fun c1 hr=> ?_)
 ·
  refine rn tk 5 rfl ?_
  obtain ⟨v2,h3,hr⟩:=zaa hr
  refine Vta tk h3 rfl rfl rfl rfl rfl ?_
  refine rn tk 5 rfl ?_
  cases hr
  exact kr tk (.inr rfl) rfl rfl
 ·
  refine rn tk 5 rfl ?_
  refine wq (v1a rfl rfl rfl) rfl rfl rfl ?_
  obtain ⟨v4,h5,hr⟩:=zaa hr
  refine cl (ZFa _ _ h5) rfl rfl ?_
  refine rn tk 1 rfl ?_
  refine wq (yfa rfl rfl rfl) rfl rfl rfl ?_
  obtain ⟨v6,h7,hr⟩:=zaa hr
  refine cl (ZFa _ _ h7) rfl rfl ?_
  obtain ⟨v8,h9,hr⟩:=zaa hr
  refine wc h9 rfl rfl rfl ?_
  refine rn tk 4 rfl ?_
  cases hr
  exact kr tk (.inr rfl) rfl rfl
theorem Waa (a0:Int) (r:Str) (hr:Zka a0=some r):Run Tryz.prog 128 [.i a0] (.s r):=by
 unfold Zka at hr
 refine rf (fn:=Tryz.f128) ⟨Tryz.func128,rfl,by kernel_rfl⟩ rfl (fun _=> rfl) fun g0 hg=> ?_
 refine rn tk 12 rfl ?_
 refine ac 4 hr rfl (fun c1 hr=> ?_) (fun c1 hr=> ?_)
 ·
  refine rn tk 5 rfl ?_
  obtain ⟨v2,h3,hr⟩:=zaa hr
  refine Vta tk h3 rfl rfl rfl rfl rfl ?_
  refine rn tk 5 rfl ?_
  cases hr
  exact kr tk (.inr rfl) rfl rfl
 ·
  refine rn tk 5 rfl ?_
  refine wq (v1a rfl rfl rfl) rfl rfl rfl ?_
  obtain ⟨v4,h5,hr⟩:=zaa hr
  refine cl (ZGa _ _ h5) rfl rfl ?_
  refine rn tk 1 rfl ?_
  refine wq (yfa rfl rfl rfl) rfl rfl rfl ?_
  obtain ⟨v6,h7,hr⟩:=zaa hr
  refine cl (ZGa _ _ h7) rfl rfl ?_
  obtain ⟨v8,h9,hr⟩:=zaa hr
  refine wc h9 rfl rfl rfl ?_
  refine rn tk 4 rfl ?_
  cases hr
  exact kr tk (.inr rfl) rfl rfl
theorem vQb (a0:Int) (r:Str) (hr:zMb a0=some r):Run Tryz.prog 127 [.i a0] (.s r):=by
 unfold zMb at hr
 refine rf (fn:=Tryz.f127) ⟨Tryz.func127,rfl,by kernel_rfl⟩ rfl (fun _=> rfl) fun g0 hg=> ?_
 refine rn tk 7 rfl ?_
 refine wz cS ([([104,101,108,108,111]:Str),([109,97,105,108]:Str),([114,99,112,116]:Str),([100,97,116,97]:Str),([99,104,117,110,107]:Str),([114,101,115,101,116]:Str),([110,111,111,112]:Str),([113,117,105,116]:Str)]:List Str) tk rfl rfl (fun _=> rfl) rfl (by kernel_rfl) rfl ?_
 refine rn tk 8 rfl ?_
 obtain ⟨v1,h2,hr⟩:=zaa hr
 refine wi tk h2 rfl rfl rfl rfl rfl ?_
 refine rn tk 5 rfl ?_
 cases hr
 exact kr tk (.inr rfl) rfl rfl
theorem VNa (a0:zta) (r:Str) (hr:wBa a0=some r):Run Tryz.prog 111 [.agg [.i a0.Verb, .s a0.Name, .s a0.Address, .i a0.Size, .i a0.Notify, .bo a0.Last]] (.s r):=by
 unfold wBa at hr
 refine rf (fn:=Tryz.f111) ⟨Tryz.func111,rfl,by kernel_rfl⟩ rfl (fun _=> rfl) fun g0 hg=> ?_
 refine rn tk 10 rfl ?_
 obtain ⟨v1,h2,hr⟩:=zaa hr
 refine cl (vQb _ _ h2) rfl rfl ?_
 refine rn tk 3 rfl ?_
 refine jb hr (fun j3=> [(3, .s j3)]) (fun j3=> []) (fun j3 hr=> ?_) (fun j3 hr=> ?_)
 ·
  refine rn tk 13 rfl ?_
  refine ac 9 hr rfl (fun c4 hr=> ?_) (fun c4 hr=> ?_)
  ·
   refine rn tk 2 rfl ?_
   obtain ⟨v5,h6,hr⟩:=zaa hr
   refine wc h6 rfl rfl rfl ?_
   refine rn tk 2 rfl ?_
   obtain ⟨v7,h8,hr⟩:=zaa hr
   refine wc h8 rfl rfl rfl ?_
   refine rn tk 3 rfl ?_
   cases hr
   exact jn _ rfl rfl rfl
  ·
   refine rn tk 6 rfl ?_
   refine ac 16 hr rfl (fun c9 hr=> ?_) (fun c9 hr=> ?_)
   ·
    refine rn tk 3 rfl ?_
    obtain ⟨v10,h11,hr⟩:=zaa hr
    refine wc h11 rfl rfl rfl ?_
    refine rn tk 2 rfl ?_
    obtain ⟨v12,h13,hr⟩:=zaa hr
    refine wc h13 rfl rfl rfl ?_
    obtain ⟨v14,h15,hr⟩:=zaa hr
    refine wc h15 rfl rfl rfl ?_
    refine rn tk 10 rfl ?_
    refine ac 26 hr rfl (fun c16 hr=> ?_) (fun c16 hr=> ?_)
    ·
     refine rn tk 2 rfl ?_
     obtain ⟨v17,h18,hr⟩:=zaa hr
     refine wc h18 rfl rfl rfl ?_
     refine rn tk 2 rfl ?_
     obtain ⟨v19,h20,hr⟩:=zaa hr
     refine cl (Waa _ _ h20) rfl rfl ?_
     obtain ⟨v21,h22,hr⟩:=zaa hr
     refine wc h22 rfl rfl rfl ?_
     refine rn tk 3 rfl ?_
     cases hr
     exact jn _ rfl rfl rfl
    ·
     refine rn tk 2 rfl ?_
     cases hr
     exact jn _ rfl rfl rfl
   ·
    refine rn tk 6 rfl ?_
    refine ac 33 hr rfl (fun c23 hr=> ?_) (fun c23 hr=> ?_)
    ·
     refine rn tk 3 rfl ?_
     obtain ⟨v24,h25,hr⟩:=zaa hr
     refine wc h25 rfl rfl rfl ?_
     refine rn tk 2 rfl ?_
     obtain ⟨v26,h27,hr⟩:=zaa hr
     refine wc h27 rfl rfl rfl ?_
     obtain ⟨v28,h29,hr⟩:=zaa hr
     refine wc h29 rfl rfl rfl ?_
     refine rn tk 10 rfl ?_
     refine ac 43 hr rfl (fun c30 hr=> ?_) (fun c30 hr=> ?_)
     ·
      refine rn tk 2 rfl ?_
      obtain ⟨v31,h32,hr⟩:=zaa hr
      refine wc h32 rfl rfl rfl ?_
      refine rn tk 2 rfl ?_
      obtain ⟨v33,h34,hr⟩:=zaa hr
      refine cl (Wpa _ _ h34) rfl rfl ?_
      obtain ⟨v35,h36,hr⟩:=zaa hr
      refine wc h36 rfl rfl rfl ?_
      refine rn tk 3 rfl ?_
      cases hr
      exact jn _ rfl rfl rfl
     ·
      refine rn tk 2 rfl ?_
      cases hr
      exact jn _ rfl rfl rfl
    ·
     refine rn tk 6 rfl ?_
     refine ac 50 hr rfl (fun c37 hr=> ?_) (fun c37 hr=> ?_)
     ·
      refine rn tk 3 rfl ?_
      obtain ⟨v38,h39,hr⟩:=zaa hr
      refine wc h39 rfl rfl rfl ?_
      refine rn tk 2 rfl ?_
      obtain ⟨v40,h41,hr⟩:=zaa hr
      refine cl (Waa _ _ h41) rfl rfl ?_
      obtain ⟨v42,h43,hr⟩:=zaa hr
      refine wc h43 rfl rfl rfl ?_
      refine rn tk 9 rfl ?_
      refine ac 59 hr rfl (fun c44 hr=> ?_) (fun c44 hr=> ?_)
      ·
       refine rn tk 2 rfl ?_
       obtain ⟨v45,h46,hr⟩:=zaa hr
       refine wc h46 rfl rfl rfl ?_
       refine rn tk 3 rfl ?_
       cases hr
       exact jn _ rfl rfl rfl
      ·
       refine rn tk 2 rfl ?_
       cases hr
       exact jn _ rfl rfl rfl
     ·
      refine rn tk 2 rfl ?_
      cases hr
      exact jn _ rfl rfl rfl
 ·
  refine rn tk 7 rfl ?_
  cases hr
  exact kr tk (.inr rfl) rfl rfl
theorem wUa (a0:zea) (a1:zta) (r:zea) (hr:vGa a0 a1=some r):RunS Tryz.prog 93 [.agg [.s a0.C.Name, .s a0.C.Mail.Envelope.From, .l zca.pc a0.C.Mail.Envelope.To, .s a0.C.Mail.Envelope.Id, .l zga.pc a0.C.Mail.Message.Fields, .l cU a0.C.Mail.Message.Body, .bo a0.C.Pipelined, .l cU a0.C.Buffer, .i a0.C.Expected, .bo a0.C.Whole, .bo a0.C.Done, .l cI a0.C.Results, .hs 90001013 0], .agg [.i a1.Verb, .s a1.Name, .s a1.Address, .i a1.Size, .i a1.Notify, .bo a1.Last]] [(90001013, .row 5 false 1 (List.map cU a0.Out))] (.agg [.s r.C.Name, .s r.C.Mail.Envelope.From, .l zca.pc r.C.Mail.Envelope.To, .s r.C.Mail.Envelope.Id, .l zga.pc r.C.Mail.Message.Fields, .l cU r.C.Mail.Message.Body, .bo r.C.Pipelined, .l cU r.C.Buffer, .i r.C.Expected, .bo r.C.Whole, .bo r.C.Done, .l cI r.C.Results, .hs 90001013 0]) [(90001013, .row 5 false 1 (List.map cU r.Out))] 90001000 [90001013]:=by
 unfold vGa at hr
 refine rfS (fn:=Tryz.f93) (H:=90001999) .any ⟨Tryz.func93,rfl,by kernel_rfl⟩ rfl (hasT rfl) (.inr ⟨rfl,rfl⟩) rfl rfl rfl rfl fun g0 hg S sg T=> ?_
 refine rn tk 5 rfl ?_
 refine zWa 1004 (o:=4) (j:=12) 5 1 rfl rfl rfl rfl (hO ?_)
 refine rn tk 3 rfl ?_
 obtain ⟨v1,h2,hr⟩:=zaa hr
 refine dr 4 [(8, .s v1),(7, .agg [.i a1.Verb, .s a1.Name, .s a1.Address, .i a1.Size, .i a1.Notify, .bo a1.Last]),(6, .hs 90001013 0),(5, .ptr 2 12)] mixed (by kernel_rfl) rfl rfl (pq tk rfl (.plain rfl) (pq tk rfl (.plain rfl) (pq tk rfl (.plain rfl) (.run (.plain rfl) (kda (VNa a1 v1 h2) rfl) .nil)))) rfl ?_
 obtain ⟨v3,h4,hr⟩:=zaa hr
 refine wo (vaa (k:=9) (l:=a0.Out) (s:=v1) (lim:=140737488355328) rfl rfl rfl rfl zka zDa.u zua rfl h4) rfl ?_
 refine rn tk 8 rfl ?_
 refine wz cU ([(13:UInt8),(10:UInt8)]:List UInt8) tk rfl rfl (fun _=> rfl) rfl rfl rfl ?_
 obtain ⟨v5,h6,hr⟩:=zaa hr
 refine wa tk h6 rfl rfl rfl rfl (fun _=> rfl) rfl rfl ?_
 refine rn tk 11 rfl ?_
 cases hr
 exact krS tk (.inr rfl) rfl rfl (zba rfl (zba rfl zha))
end Go.Proofs.YtjnmamghadpedaaGreatDoor
