/- Proved: TopSame, alone, all three queues answer alike, for every input that the statement lets in. No condition of its own. -/
import Derived.Test.YtlejhikddkdanaaGreatM16
import Derived.Test.YtlejhikddkdanaaGreatRows
set_option maxHeartbeats 8000000
set_option maxRecDepth 1000000
set_option linter.unusedVariables false
set_option linter.unusedSimpArgs false
namespace Go.Proofs.YtlejhikddkdanaaGreat.Mdl
open RowKit PTopSame Wk Fns YtlejhikddkdanaaGreatW.PrintWords YtlejhikddkdanaaGreatW.PrintLast YtlejhikddkdanaaGreatW.PrintMore
variable {c:Cf} {tid:Int} {A:Ad} {T:Td} {B:Nat→Prop} {w0 w w1 w2 w6 w7:World} {fv fv':Value} {s s':St} {l l' fs:List Fr} {f f':Fr} {fb cap ga gb qb thb:Nat}
section
attribute [local go_sem] Cs Cq De Dd Cj Ci Cr Cp
attribute [local go_sem high] pJ
def CallsAt (l:List (Int×Int×Int)) (CA:Option Addr) (w:World):Prop:=∀ i,i<l.length→∃ ad,CA=some ad∧w.cell? (ad.add (i*3))=some (Φ (Bp l i).1)∧w.cell? ⟨(ad.add (i*3)).block,(ad.add (i*3)).off+1,none⟩=some (.int .u32 (Bp l i).2.1)∧w.cell? ⟨(ad.add (i*3)).block,(ad.add (i*3)).off+2,none⟩=some (.int .u32 (Bp l i).2.2)
theorem CallsAt.below {l:List (Int×Int×Int)} {CA:Option Addr} {w w1:World} (h:CallsAt l CA w) (hb:Below w.heap.size w w1):CallsAt l CA w1:=fun i hi=>by
 obtain ⟨ad,e,h0,h1,h2⟩:=h i hi
 have ho:=Over.of_below (fun _=>False) hb
 exact ⟨ad,e,ho.cell h0 (fun h=>h),ho.cell h1 (fun h=>h),ho.cell h2 (fun h=>h)⟩
theorem Rb {w:World} {g:Nat} {t:TypeId} {a0 a1 a2 a3 a4 a5 a6 x0 x1 x2 x3 x4 x5 x6:Value} (h:w.heap[g]?=some (.cells #[a0,a1,a2,a3,a4,a5,a6] t (0,0))):(((((((w.setCell (Ψ g 0) x0).setCell (Ψ g 1) x1).setCell (Ψ g 2) x2).setCell (Ψ g 3) x3).setCell (Ψ g 4) x4).setCell (Ψ g 5) x5).setCell (Ψ g 6) x6).heap[g]?=some (.cells #[x0,x1,x2,x3,x4,x5,x6] t (0,0)):=(Ae (cs':=#[x0,x1,x2,x3,x4,x5,x6]) (Ae (cs':=#[x0,x1,x2,x3,x4,x5,a6]) (Ae (cs':=#[x0,x1,x2,x3,x4,a5,a6]) (Ae (cs':=#[x0,x1,x2,x3,a4,a5,a6]) (Ae (cs':=#[x0,x1,x2,a3,a4,a5,a6]) (Ae (cs':=#[x0,x1,a2,a3,a4,a5,a6]) (Ae (cs':=#[x0,a1,a2,a3,a4,a5,a6]) h 0 x0 rfl) 1 x1 rfl) 2 x2 rfl) 3 x3 rfl) 4 x4 rfl) 5 x5 rfl) 6 x6 rfl)
theorem Om {w:World} {g:Nat} {x0 x1 x2 x3 x4 x5 x6:Value}:Over (fun k=>k=g) w (((((((w.setCell (Ψ g 0) x0).setCell (Ψ g 1) x1).setCell (Ψ g 2) x2).setCell (Ψ g 3) x3).setCell (Ψ g 4) x4).setCell (Ψ g 5) x5).setCell (Ψ g 6) x6):=((((((((Over.refl (fun k=>k=g) w).set_ (Or.inl rfl) _).set_ (Or.inl rfl) _).set_ (Or.inl rfl) _).set_ (Or.inl rfl) _).set_ (Or.inl rfl) _).set_ (Or.inl rfl) _).set_ (Or.inl rfl) _)
theorem uX {v:Nat→Value} {k:Nat} (hk:k<3):(#[v 0,v 1,v 2]:Array Value)[k]?=some (v k):=by
 rcases (show k=0∨k=1∨k=2 by omega) with rfl|rfl|rfl<;>rfl
theorem mB {w:World} {CA:Option Addr} {cs:List S29} (h:Kd.C k29 w CA cs.length cs):CallsAt (cs.map fun x=>(x.f0,x.f1,x.f2)) CA w:=fun i hi=>by
 rw [List.length_map] at hi
 obtain ⟨ad,e,h0,h1,h2⟩:=mG h (i:Int) Zo Zo
 have hc:Bp (cs.map fun x=>(x.f0,x.f1,x.f2)) i=((Kp cs (i:Int)).f0,(Kp cs (i:Int)).f1,(Kp cs (i:Int)).f2):=by
  unfold Bp Kp
  rw [Int.toNat_natCast,List.getD_eq_getElem?_getD,List.getElem?_map,List.getElem?_eq_getElem hi,List.getD_eq_getElem?_getD,List.getElem?_eq_getElem hi]
  rfl
 rw [Int.toNat_natCast] at h0 h1 h2
 exact ⟨ad,e,by rw [hc];exact h0,by rw [hc];exact h1,by rw [hc];exact h2⟩
theorem Tz {ca ct cn cl cb cp csn:Int} {CA DA:Option Addr} {ccap dcap:Nat} {l:List (Int×Int×Int)} {ds:List Int} {cs:List S29} (w:World) (hC:CallsAt l CA w) (hKC:Kd.C k29 w CA l.length cs) (hw:∀ i,i<l.length→(0≤(Bp l i).2.1∧(Bp l i).2.1<4294967296)∧(0≤(Bp l i).2.2∧(Bp l i).2.2<4294967296)) (hD:ReadsInt w .u8 DA ds.length ds) (hd:∀ b ∈ ds,0≤b∧b≤255) :
  Calls Tryz.prog 3 #[.agg #[Φ ca,Φ ct,Φ cn,Φ cl,Φ cb,Φ cp,Φ csn],.slice CA l.length ccap,.slice DA ds.length dcap] w fun e w'=>e=.returned (.bool true)∧Below w.heap.size w w':=by
 have HC:=Az.m hC
 have HKC:=Az.m hKC
 have HW:=Az.m hw
 have HD:=Az.m hD
 have HDB:=Az.m hd
 clear hC hKC hw hD hd
 by_cases h40:40<l.length
 .have b0:(40<(l.length:Int))=True:=eq_true Zo
  have b1:(40<l.length)=True:=eq_true h40
  clear h40
  go_enter Tryz.func3,Tryz.ntmps3
  go_wp2_with (first|((with_reducible refine Al (N:=3) rfl ?_);go_must (refine Am ?hg (N:=3) ?hd (cs:=#[Φ ca,Φ ct,Φ cn,Φ cl,Φ cb,Φ cp,Φ csn]) (t:=23) ?hr ?_;(case hd=>rfl);(case hg=>rfl);(case hr=>exact Λ18);intro g3 hg3 wg3 hbox hbl;have HB:=Az.m hbl;have H3:=Az.m hbox;have L3:=Az.m (Nat.le_of_eq hg3.symm);clear hbox hbl hg3))|(go_at_call 5;refine (Hn _).mono ?_;rintro e wL ⟨rfl,hbL⟩;have HBL:=Az.m (show Below w.heap.size w wL from by first|exact Ag HB.o hbL|exact Ag (At HB.o _) hbL);clear hbL))
  go_ret
  exact ⟨rfl,HBL.o⟩
 have b0:(40<(l.length:Int))=False:=eq_false Zo
 have b1:(40<l.length)=False:=eq_false h40
 have H40:=Az.m (Nat.le_of_not_lt h40)
 clear h40
 go_enter Tryz.func3,Tryz.ntmps3
 go_wp2_with (first|((with_reducible refine Al (N:=3) rfl ?_);go_must (refine Am ?hg (N:=3) ?hd (cs:=#[Φ ca,Φ ct,Φ cn,Φ cl,Φ cb,Φ cp,Φ csn]) (t:=23) ?hr ?_;(case hd=>rfl);(case hg=>rfl);(case hr=>exact Λ18);intro g3 hg3 wg3 hbox hbl;have HB:=Az.m hbl;have H3:=Az.m hbox;have L3:=Az.m (Nat.le_of_eq hg3.symm);clear hbox hbl hg3)))
 refine π ?_
 clear b0 b1
 go_loopw [7] (fun i wr=>∃ k:Nat,i=Φ k∧k≤l.length∧Az (Below w.heap.size w wr)∧Az (wr.heap[g3]?=some (.cells #[Φ ca,Φ ct,Φ cn,Φ cl,Φ cb,Φ cp,Φ csn] 23 (0,0)))∧Az (∀ a b,b<a→a<k→(Bp l a).1=0→(Bp l b).1=0→(Bp l a).2.1≠(Bp l b).2.1)) (fun i _=>l.length-(intOf i).toNat)
 case atStart=>exact ⟨0,rfl,Nat.zero_le _,HB,H3,⟨fun a b _ h=>absurd h (Nat.not_lt_zero _)⟩⟩
 case round=>
  obtain ⟨k,rfl,hk,HB,H3,HU⟩:=hrel
  by_cases hkn:k<l.length
  .have b0:((k:Int)<(l.length:Int))=True:=eq_true Zo
   have b1:(k<l.length)=True:=eq_true hkn
   have w1:=Ak (x:=(k:Int)+1) Zo Λ97
   have HK:=Az.m hkn
   clear hk hkn
   go_wp2
   refine π ?_
   go_loopw [8] (fun j wr=>∃ q:Nat,j=Φ q∧q≤k∧Az (Below w.heap.size w wr)∧Az (wr.heap[g3]?=some (.cells #[Φ ca,Φ ct,Φ cn,Φ cl,Φ cb,Φ cp,Φ csn] 23 (0,0)))∧Az (∀ b,b<q→(Bp l k).1=0→(Bp l b).1=0→(Bp l k).2.1≠(Bp l b).2.1)) (fun j _=>k-(intOf j).toNat)
   case atStart=>exact ⟨0,rfl,Nat.zero_le _,HB,H3,⟨fun b h=>absurd h (Nat.not_lt_zero _)⟩⟩
   case round=>
    clear HB H3
    obtain ⟨q,rfl,hq,HB,H3,HV⟩:=hrel
    by_cases hqk:q<k
    .have c0:((q:Int)<(k:Int))=True:=eq_true Zo
     have c1:(q<k)=True:=eq_true hqk
     have c2:((q:Int)<(l.length:Int))=True:=eq_true Λ98
     have c3:(q<l.length)=True:=eq_true Λ98
     have w2:=Ak (x:=(q:Int)+1) Zo (by have:=HK.o;have:=H40.o;omega)
     have hcr:=HC.o.below HB.o
     obtain ⟨ad,e0,x0c,x1c,_⟩:=hcr k HK.o
     obtain ⟨ad2,e1,y0c,y1c,_⟩:=hcr q Λ98
     obtain rfl:ad=ad2:=Option.some.inj (e0.symm.trans e1)
     clear e1 hcr
     subst e0
     have HQ:=Az.m hqk
     clear hq hqk
     obtain ⟨x0,hx0⟩:∃ x,x=(Bp l k).1:=⟨_,rfl⟩
     obtain ⟨x1,hx1⟩:∃ x,x=(Bp l k).2.1:=⟨_,rfl⟩
     obtain ⟨y0,hy0⟩:∃ x,x=(Bp l q).1:=⟨_,rfl⟩
     obtain ⟨y1,hy1⟩:∃ x,x=(Bp l q).2.1:=⟨_,rfl⟩
     rw [← hx0] at x0c
     rw [← hx1] at x1c
     rw [← hy0] at y0c
     rw [← hy1] at y1c
     have NXT:¬ (x0=0∧y0=0∧x1=y1)→∀ b,b<q+1→(Bp l k).1=0→(Bp l b).1=0→(Bp l k).2.1≠(Bp l b).2.1:=by
      intro hne b hb h1 h2 h3
      by_cases hbq:b<q
      .exact HV.o b hbq h1 h2 h3
      .obtain rfl:b=q:=Zo
       exact hne ⟨hx0.trans h1,hy0.trans h2,by rw [hx1,hy1];exact h3⟩
     have NX:=Az.m NXT
     clear NXT hx0 hx1 hy0 hy1
     by_cases h0:x0=0
     .have d0:=As h0
      by_cases h1:y0=0
      .have d1:=As h1
       by_cases h2:x1=y1
       .have d2:(x1==y1)=true:=beq_iff_eq.2 h2
        clear h0 h1 h2
        go_wp2
        go_quiet (fail)
        go_wp2_with (first|(go_at_call 5;refine (Hn _).mono ?_;rintro e wL ⟨rfl,hbL⟩;have HBL:=Az.m (show Below w.heap.size w wL from by first|exact Ag HB.o hbL|exact Ag (At HB.o _) hbL);clear hbL))
        go_ret
        exact ⟨rfl,HBL.o⟩
       .have d2:(x1==y1)=false:=beq_eq_false_iff_ne.2 h2
        have NX2:=Az.m (NX.o (fun h=>h2 h.2.2))
        clear h0 h1 h2
        go_wp2
        go_quiet (fail)
        go_wp2
        exact ⟨⟨q+1,rfl,HQ.o,⟨At HB.o _⟩,⟨Cg H3.o _⟩,NX2⟩,by have:=HQ.o;show k-((q:Int)+1).toNat<k-((q:Int)).toNat;omega⟩
      .have d1:=Aj h1
       have NX2:=Az.m (NX.o (fun h=>h1 h.2.1))
       clear h0 h1
       go_wp2
       go_quiet (fail)
       go_wp2
       exact ⟨⟨q+1,rfl,HQ.o,⟨At HB.o _⟩,⟨Cg H3.o _⟩,NX2⟩,by have:=HQ.o;show k-((q:Int)+1).toNat<k-((q:Int)).toNat;omega⟩
     .have d0:=Aj h0
      have NX2:=Az.m (NX.o (fun h=>h0 h.1))
      clear h0
      go_wp2
      go_quiet (fail)
      go_wp2
      exact ⟨⟨q+1,rfl,HQ.o,⟨At HB.o _⟩,⟨Cg H3.o _⟩,NX2⟩,by have:=HQ.o;show k-((q:Int)+1).toNat<k-((q:Int)).toNat;omega⟩
    .have c0:((q:Int)<(k:Int))=False:=eq_false Zo
     have c1:(q<k)=False:=eq_false hqk
     have hqe:q=k:=Zo
     have HQE:=Az.m hqe
     clear hq hqk hqe
     go_wp2
     refine ⟨⟨k+1,rfl,HK.o,HB,H3,⟨fun a b hb ha h1 h2=>?_⟩⟩,by have:=HK.o;show l.length-((k:Int)+1).toNat<l.length-((k:Int)).toNat;omega⟩
     by_cases hak:a<k
     .exact HU.o a b hb hak h1 h2
     .obtain rfl:a=k:=Zo
      exact HV.o b (by rw [HQE.o];exact hb) h1 h2
  .have HUL:Az (Tw l):=⟨fun a b hb ha h1 h2=>HU.o a b hb Zo h1 h2⟩
   have b0:((k:Int)<(l.length:Int))=False:=eq_false Zo
   have b1:(k<l.length)=False:=eq_false hkn
   clear HU hk hkn
   go_wp2_with (first|((with_reducible refine Al (N:=9) rfl ?_);go_must (refine Am ?hg (N:=9) ?hd (cs:=#[.slice none 0 0,.slice none 0 0,.slice none 0 0]) (t:=31) ?hr ?_;(case hd=>rfl);(case hg=>rfl);(case hr=>exact Λ18);intro g9 hg9 wg9 hbox hbl;have HT:=Az.m (show TopAt ca ct cn cl cb cp csn l g3 g9 (fun _=>.slice none 0 0) (mAt l.length 0 0) w wg9 from ⟨Ac H3.o hbl,hbox,fun j hj=>by rw [(kX j).symm];exact Hw _ _ _ _,fun i j b _ _ _ h=>by simp [Value.ownBlock] at h,⟨L3.o,Nat.le_trans HB.o.size (Nat.le_of_eq hg9.symm)⟩,Ag HB.o hbl⟩);clear HB H3 hbox hbl hg9)))
   refine π ?_
   clear b0 b1
   go_loopw [10] (fun i wr=>∃ (z:Nat) (v:Nat→Value),i=Φ z∧z≤3∧Az (TopAt ca ct cn cl cb cp csn l g3 g9 v (mAt l.length z 0) w wr)) (fun i _=>3-(intOf i).toNat)
   case atStart=>exact ⟨0,_,rfl,Nat.zero_le _,HT⟩
   case round=>
    clear HT
    obtain ⟨z,v,rfl,hz,HT⟩:=hrel
    by_cases hz3:z<3
    .have b0:((z:Int)<3)=True:=eq_true Zo
     have b1:(z<3)=True:=eq_true hz3
     have w1:=Ak (x:=(z:Int)+1) Zo Zo
     obtain ⟨r,hr,hof⟩:=kK ca ct cn cl cb cp csn (z:Int)
     have HOF:=Az.m hof
     have HRG:=Az.m hr
     have HZ:=Az.m hz3
     obtain ⟨p0,p1,p2,p3,p4,p5,p6⟩:=bc7 HT.o.b3
     clear hz hz3 hr hof
     cases r
     .go_wp2_with (first|(go_at_call 6;refine (HOF.o _).mono ?_;rintro e w2 ⟨rfl,hb⟩;have hm:=HT.o.same hb;clear HT;have HT:=Az.m hm;clear hm;clear hb p0 p1 p2 p3 p4 p5 p6)|((with_reducible refine Al (N:=11) rfl ?_);go_must (refine Am ?hg (N:=11) ?hd (cs:=#[Φ 0,Φ 0,Φ 0,Φ 0,Φ 0,Φ 0,Φ 0]) (t:=23) ?hr ?_;(case hd=>rfl);(case hg=>rfl);(case hr=>exact Λ18);intro g11 hg11 wg11 hbox hbl;have X0:=Az.m hbox;have HL:=Az.m hbl;have LE:=Az.m (Nat.le_of_eq hg11.symm);obtain ⟨z0,z1,z2,z3,z4,z5,z6⟩:=bc7 hbox;have zf:=Ab hbox;clear hbox hbl hg11))|((with_reducible refine Bd (t:=23) (p:=11) rfl ?_);go_must (refine Aw (w1:=(((((((wg11.setCell (Ψ g11 0) (Φ (z:Int))).setCell (Ψ g11 1) (Φ ct)).setCell (Ψ g11 2) (Φ cn)).setCell (Ψ g11 3) (Φ cl)).setCell (Ψ g11 4) (Φ cb)).setCell (Ψ g11 5) (Φ cp)).setCell (Ψ g11 6) (Φ csn))) ?hg (t:=23) (p:=11) rfl ?hn ?hr ?_;(case hg=>rfl);(case hn=>rfl);(case hr=>exact Λ25);intro w3 e2;have hX:w3.heap[g11]?=some (.cells #[Φ (z:Int),Φ ct,Φ cn,Φ cl,Φ cb,Φ cp,Φ csn] 23 (0,0)):=(by rw [e2];exact Rb X0.o);have ho:Over (fun k=>k=g11) wg11 w3:=(by rw [e2];exact Om);have hb:=Dg HL.o ho (fun k hk=>hk▸LE.o);clear X0 HL LE ho e2 zf z0 z1 z2 z3 z4 z5 z6;have H11:=Az.m hX;obtain ⟨d0,d1,d2,d3,d4,d5,d6⟩:=bc7 H11.o;have da0:∀ o,(w3.alloc o).cell? (Ψ g11 0)=some (Φ (z:Int)):=fun o=>(Aa (Ba H11.o o) 0).trans rfl;have da1:∀ o,(w3.alloc o).cell? (Ψ g11 1)=some (Φ ct):=fun o=>(Aa (Ba H11.o o) 1).trans rfl;have da2:∀ o,(w3.alloc o).cell? (Ψ g11 2)=some (Φ cn):=fun o=>(Aa (Ba H11.o o) 2).trans rfl;have da3:∀ o,(w3.alloc o).cell? (Ψ g11 3)=some (Φ cl):=fun o=>(Aa (Ba H11.o o) 3).trans rfl;have da4:∀ o,(w3.alloc o).cell? (Ψ g11 4)=some (Φ cb):=fun o=>(Aa (Ba H11.o o) 4).trans rfl;have da5:∀ o,(w3.alloc o).cell? (Ψ g11 5)=some (Φ cp):=fun o=>(Aa (Ba H11.o o) 5).trans rfl;have da6:∀ o,(w3.alloc o).cell? (Ψ g11 6)=some (Φ csn):=fun o=>(Aa (Ba H11.o o) 6).trans rfl;have hm:=HT.o.same hb;clear HT;have HT:=Az.m hm;clear hm;clear hb hX))|(go_at_call 5;refine (Hn _).mono ?_;rintro e wL ⟨rfl,hbL⟩;have HBL:=Az.m (show Below w.heap.size w wL from Ag HT.o.below hbL);clear hbL))
      go_ret
      exact ⟨rfl,HBL.o⟩
     .obtain ⟨bs,hbs⟩:∃ bs,bs=ds.take 4096:=⟨_,rfl⟩
      have HBS:=Az.m hbs
      have HG:=Az.m (HRG.o rfl bs (fun x hx=>HDB.o x (List.mem_of_mem_take (hbs▸hx))))
      have HTH:Az (1≤(⟨(z:Int),ct,cn,cl,cb,cp,csn,bs⟩:Cf).th∧(⟨(z:Int),ct,cn,cl,cb,cp,csn,bs⟩:Cf).th≤6):=⟨HG.o.th⟩
      have HBL4:Az ((⟨(z:Int),ct,cn,cl,cb,cp,csn,bs⟩:Cf).bytes.length≤4096):=⟨by show bs.length≤4096;rw [hbs,List.length_take];omega⟩
      clear hbs
      go_wp2_with (first|(go_at_call 6;refine (HOF.o _).mono ?_;rintro e w2 ⟨rfl,hb⟩;have hm:=HT.o.same hb;clear HT;have HT:=Az.m hm;clear hm;clear hb p0 p1 p2 p3 p4 p5 p6)|((with_reducible refine Al (N:=11) rfl ?_);go_must (refine Am ?hg (N:=11) ?hd (cs:=#[Φ 0,Φ 0,Φ 0,Φ 0,Φ 0,Φ 0,Φ 0]) (t:=23) ?hr ?_;(case hd=>rfl);(case hg=>rfl);(case hr=>exact Λ18);intro g11 hg11 wg11 hbox hbl;have X0:=Az.m hbox;have HL:=Az.m hbl;have LE:=Az.m (Nat.le_of_eq hg11.symm);obtain ⟨z0,z1,z2,z3,z4,z5,z6⟩:=bc7 hbox;have zf:=Ab hbox;clear hbox hbl hg11))|((with_reducible refine Bd (t:=23) (p:=11) rfl ?_);go_must (refine Aw (w1:=(((((((wg11.setCell (Ψ g11 0) (Φ (z:Int))).setCell (Ψ g11 1) (Φ ct)).setCell (Ψ g11 2) (Φ cn)).setCell (Ψ g11 3) (Φ cl)).setCell (Ψ g11 4) (Φ cb)).setCell (Ψ g11 5) (Φ cp)).setCell (Ψ g11 6) (Φ csn))) ?hg (t:=23) (p:=11) rfl ?hn ?hr ?_;(case hg=>rfl);(case hn=>rfl);(case hr=>exact Λ25);intro w3 e2;have hX:w3.heap[g11]?=some (.cells #[Φ (z:Int),Φ ct,Φ cn,Φ cl,Φ cb,Φ cp,Φ csn] 23 (0,0)):=(by rw [e2];exact Rb X0.o);have ho:Over (fun k=>k=g11) wg11 w3:=(by rw [e2];exact Om);have hb:=Dg HL.o ho (fun k hk=>hk▸LE.o);clear X0 HL LE ho e2 zf z0 z1 z2 z3 z4 z5 z6;have H11:=Az.m hX;obtain ⟨d0,d1,d2,d3,d4,d5,d6⟩:=bc7 H11.o;have da0:∀ o,(w3.alloc o).cell? (Ψ g11 0)=some (Φ (z:Int)):=fun o=>(Aa (Ba H11.o o) 0).trans rfl;have da1:∀ o,(w3.alloc o).cell? (Ψ g11 1)=some (Φ ct):=fun o=>(Aa (Ba H11.o o) 1).trans rfl;have da2:∀ o,(w3.alloc o).cell? (Ψ g11 2)=some (Φ cn):=fun o=>(Aa (Ba H11.o o) 2).trans rfl;have da3:∀ o,(w3.alloc o).cell? (Ψ g11 3)=some (Φ cl):=fun o=>(Aa (Ba H11.o o) 3).trans rfl;have da4:∀ o,(w3.alloc o).cell? (Ψ g11 4)=some (Φ cb):=fun o=>(Aa (Ba H11.o o) 4).trans rfl;have da5:∀ o,(w3.alloc o).cell? (Ψ g11 5)=some (Φ cp):=fun o=>(Aa (Ba H11.o o) 5).trans rfl;have da6:∀ o,(w3.alloc o).cell? (Ψ g11 6)=some (Φ csn):=fun o=>(Aa (Ba H11.o o) 6).trans rfl;have hm:=HT.o.same hb;clear HT;have HT:=Az.m hm;clear hm;clear hb hX))|(go_at_call 7;refine (hG (c:=(⟨(z:Int),ct,cn,cl,cb,cp,csn,bs⟩:Cf)) HTH.o (gc:=w3.heap.size) (n:=l.length) (ccap:=ccap) (dcap:=dcap) (CA:=CA) (DA:=DA) (cs:=cs) (ds:=ds) HBS.o _ H40.o ((Aa (Cc w3 _) 0).trans rfl) (Kd.C_below HKC.o (Ag HT.o.below (Af (Below.refl _ _) _))) (HD.o.below (Ag HT.o.below (Af (Below.refl _ _) _)))).mono ?_;rintro e w4 ⟨a8,n8,cp8,FA,fcp,rfl,hfa,hb4⟩;clear da0 da1 da2 da3 da4 da5 da6;have hb:=Ag (Af (Below.refl w3.heap.size w3) _) hb4;have hq:=Ac H11.o hb;clear H11;(try clear d0 d1 d2 d3 d4 d5 d6);have H11:=Az.m hq;clear hq;obtain ⟨d0,d1,d2,d3,d4,d5,d6⟩:=bc7 H11.o;have hm:=HT.o.same hb;clear HT;have HT:=Az.m hm;clear hm;have HFA:=Az.m hfa;clear hb hb4 hfa)|((with_reducible refine Al (N:=13) rfl ?_);go_must (refine Am ?hg (N:=13) ?hd (cs:=#[Φ 0,Φ 0,Φ 0,Φ 0,Φ 0,Φ 0,Φ 0,.slice none 0 0,.slice none 0 0,.slice none 0 0]) (t:=37) ?hr ?_;(case hd=>rfl);(case hg=>rfl);(case hr=>exact Λ18);intro g13 hg13 wg13 hbox hbl;have X0:=Az.m hbox;have HL:=Az.m hbl;have LE:=Az.m (Nat.le_of_eq hg13.symm);obtain ⟨z0,z1,z2,z3,z4,z5,z6,z7,z8,z9⟩:=oL hbox;have zf:=Ab hbox;clear hbox hbl hg13))|((with_reducible refine Bd (t:=37) (p:=13) rfl ?_);go_must (refine Aw (w1:=((((((((((wg13.setCell (Ψ g13 0) (Φ (z:Int))).setCell (Ψ g13 1) (Φ ct)).setCell (Ψ g13 2) (Φ cn)).setCell (Ψ g13 3) (Φ cl)).setCell (Ψ g13 4) (Φ cb)).setCell (Ψ g13 5) (Φ cp)).setCell (Ψ g13 6) (Φ csn)).setCell (Ψ g13 7) (.slice a8 n8 cp8)).setCell (Ψ g13 8) (.slice none 0 0)).setCell (Ψ g13 9) (.slice FA bs.length fcp))) ?hg (t:=37) (p:=13) rfl ?hn ?hr ?_;(case hg=>rfl);(case hn=>rfl);(case hr=>exact Λ24);intro w5 e2;have hX:w5.heap[g13]?=some (.cells #[Φ (z:Int),Φ ct,Φ cn,Φ cl,Φ cb,Φ cp,Φ csn,.slice a8 n8 cp8,.slice none 0 0,.slice FA bs.length fcp] 37 (0,0)):=(by rw [e2];exact Kj X0.o);have ho:Over (fun k=>k=g13) wg13 w5:=(by rw [e2];exact Jc);have hb:=Dg HL.o ho (fun k hk=>hk▸LE.o);clear X0 HL LE ho e2 zf z0 z1 z2 z3 z4 z5 z6 z7 z8 z9;have hq:=Ac H11.o hb;clear H11;(try clear d0 d1 d2 d3 d4 d5 d6);have H11:=Az.m hq;clear hq;obtain ⟨d0,d1,d2,d3,d4,d5,d6⟩:=bc7 H11.o;have hm:=HT.o.same hb;clear HT;have HT:=Az.m hm;clear hm;have hfa:=HFA.o.below hb;clear HFA;have HFA:=Az.m hfa;have t9_:w5.cell? (Ψ g13 9)=some (.slice FA bs.length fcp):=(Aa hX 9).trans rfl;clear hb hX hfa))|(go_at_call 8;refine (Sh (c:=(⟨(z:Int),ct,cn,cl,cb,cp,csn,bs⟩:Cf)) HG.o FA fcp _ HFA.o HBL4.o).mono ?_;rintro e w6 ⟨A,T,qb,thb,rfl,hr,hb⟩;obtain ⟨nq,hnq⟩:∃ nq,nq=w5.heap.size:=⟨_,rfl⟩;rw [← hnq] at hr;have HNQ:=Az.m (show w.heap.size≤nq from hnq▸HT.o.below.size);have hm:=HT.o.same hb;clear HT;have HT:=Az.m hm;clear hm;have HRZ:=Az.m (show RZ (⟨(z:Int),ct,cn,cl,cb,cp,csn,bs⟩:Cf) A T qb thb nq (Zat (⟨(z:Int),ct,cn,cl,cb,cp,csn,bs⟩:Cf) l 0) w6 from ⟨_,hr,[],q0 HG.o,List.Perm.refl _⟩);(try clear d0 d1 d2 d3 d4 d5 d6);clear H11 HFA t9_ hb hr hnq))
      refine π ?_
      go_loopw [16,17] (fun bv iv wr=>∃ (i:Nat) (v:Nat→Value),iv=Φ i∧i≤l.length∧Az (TopAt ca ct cn cl cb cp csn l g3 g9 v (mAt l.length z i) w wr)∧Az (BagAt bv (Jj l i) w wr)∧Az (RZ (⟨(z:Int),ct,cn,cl,cb,cp,csn,bs⟩:Cf) A T qb thb nq (Zat (⟨(z:Int),ct,cn,cl,cb,cp,csn,bs⟩:Cf) l i) wr)∧Az (∀ j,j<i→Jk l j)) (fun _ iv _=>l.length-(intOf iv).toNat)
      case atStart=>exact ⟨0,v,rfl,Nat.zero_le _,HT,⟨Kd.R_nil _ _ _ _ _⟩,HRZ,⟨fun j h=>absurd h (Nat.not_lt_zero _)⟩⟩
      case round=>
       clear HT HRZ
       obtain ⟨i,v2,rfl,hi,HT,HBG,HRZ,HRT⟩:=hrel
       generalize u16=bv at HBG ⊢
       by_cases hil:i<l.length
       .have c0:((i:Int)<(l.length:Int))=True:=eq_true Zo
        have c1:(i<l.length)=True:=eq_true hil
        have w2_:=Ak (x:=(i:Int)+1) Zo Λ97
        have HI:=Az.m hil
        obtain ⟨ad,e0,x0,x1,x2⟩:=HC.o i hil
        subst e0
        obtain ⟨op,hop⟩:∃ x,x=(Bp l i).1:=⟨_,rfl⟩
        obtain ⟨key,hkey⟩:∃ x,x=(Bp l i).2.1:=⟨_,rfl⟩
        obtain ⟨val,hval⟩:∃ x,x=(Bp l i).2.2:=⟨_,rfl⟩
        rw [← hop] at x0
        rw [← hkey] at x1
        rw [← hval] at x2
        have XA:=Az.m (show Tri w ad i op key val from ⟨x0,x1,x2⟩)
        have XC:=XA.o.below HT.o.below
        have HOP:=Az.m hop
        have HKEY:=Az.m hkey
        have HVAL:=Az.m hval
        obtain ⟨r9,h9,hr9⟩:=qK op key val
        have H9:=Az.m h9
        have HR9:=Az.m hr9
        clear x0 x1 x2 hop hkey hval hi hil h9 hr9
        cases r9
        .go_wp2_with (first|(go_at_call 9;refine (jostleref09_Right.calls op key val _ _ H9.o).mono ?_;rintro e w2 ⟨rfl,hb⟩;have hm:=HT.o.same hb;have hg:=HBG.o.same hb;have hz:=HRZ.o.same hb;(try clear XC);clear HT HBG HRZ;have HT:=Az.m hm;have HBG:=Az.m hg;have HRZ:=Az.m hz;have XC:=XA.o.below HT.o.below;clear hm hg hz;clear hb)|(go_at_call 5;refine (Hn _).mono ?_;rintro e wL ⟨rfl,hbL⟩;have HBL:=Az.m (show Below w.heap.size w wL from Ag HT.o.below hbL);clear hbL))
         go_ret
         exact ⟨rfl,HBL.o⟩
        .have hrt:∀ j,j≤i→Jk l j:=by
          intro j hj
          by_cases hji:j<i
          .exact HRT.o j hji
          .obtain rfl:j=i:=Zo
           have hw:=HW.o j HI.o
           unfold Jk Gw
           have h:=HR9.o rfl
           rw [HOP.o,HKEY.o,HVAL.o] at h
           omega
         have HRT2:=Az.m hrt
         clear hrt
         go_wp2_with (first|(go_at_call 9;refine (jostleref09_Right.calls op key val _ _ H9.o).mono ?_;rintro e w2 ⟨rfl,hb⟩;have hm:=HT.o.same hb;have hg:=HBG.o.same hb;have hz:=HRZ.o.same hb;(try clear XC);clear HT HBG HRZ;have HT:=Az.m hm;have HBG:=Az.m hg;have HRZ:=Az.m hz;have XC:=XA.o.below HT.o.below;clear hm hg hz;clear hb)|(go_at_call 10;have h10:=qN HG.o HRZ.o HUL.o HI.o H40.o HRT2.o;rw [← HOP.o,← HKEY.o,← HVAL.o] at h10;refine h10.mono ?_;clear h10;rintro e w3 ⟨ka,kk,kv,Z,rfl,hz,ho,hcase⟩;have HCASE:=Az.m hcase;have hm:=HT.o.machine HNQ.o ho;have hg:=HBG.o.over ho (fun k cs hs hc=>Ik hc Zd hs.1);(try clear XC);clear HT HBG HRZ hcase ho;have HT:=Az.m hm;have HBG:=Az.m hg;have HRZ:=Az.m hz;have XC:=XA.o.below HT.o.below;clear hm hg hz)|((with_reducible refine Al (N:=18) rfl ?_);go_must (refine Am ?hg (N:=18) ?hd (cs:=#[Φ 0,.int .u32 0,.int .u32 0]) (t:=46) ?hr ?_;(case hd=>rfl);(case hg=>rfl);(case hr=>exact Λ18);intro g18 hg18 wg18 hbox hbl;have X0:=Az.m hbox;have HL:=Az.m hbl;have LE:=Az.m (Nat.le_of_eq hg18.symm);obtain ⟨z0,z1,z2⟩:=bc3 hbox;have zf:=Ab hbox;clear hbox hbl hg18;have NF18:=Az.m (HT.o.fresh LE.o)))|((with_reducible refine Bd (t:=46) (p:=18) rfl ?_);go_must (refine Aw (w1:=(((wg18.setCell (Ψ g18 0) (Φ ka)).setCell (Ψ g18 1) (.int .u32 kk)).setCell (Ψ g18 2) (.int .u32 kv))) ?hg (t:=46) (p:=18) rfl ?hn ?hr ?_;(case hg=>rfl);(case hn=>rfl);(case hr=>exact Λ26);intro w5 e2;have hX:w5.heap[g18]?=some (.cells #[Φ ka,.int .u32 kk,.int .u32 kv] 46 (0,0)):=(by rw [e2];exact dA X0.o);have ho:Over (fun k=>k=g18) wg18 w5:=Λ147;have hb:=Dg HL.o ho (fun k hk=>hk▸LE.o);clear X0 HL LE ho e2 zf z0 z1 z2;have hm:=HT.o.same hb;have hg:=HBG.o.same hb;have hz:=HRZ.o.same hb;(try clear XC);clear HT HBG HRZ;have HT:=Az.m hm;have HBG:=Az.m hg;have HRZ:=Az.m hz;have XC:=XA.o.below HT.o.below;clear hm hg hz;have H18:=Az.m hX;have YC:=Qk hX;clear hb hX)))
         have hcase:=HCASE.o
         rw [HOP.o] at hcase
         have hdo:=oG H40.o HI.o (HRT2.o i (Nat.le_refl _)) hcase
         rw [← HOP.o,← HKEY.o,← HVAL.o] at hdo
         obtain ⟨b',hf,hend⟩:=hdo
         have HF:=Az.m hf
         have HEND:=Az.m hend
         clear hf hend hcase HCASE
         with_reducible refine Dw (id:=27) ?_
         refine wp_region_held_drew (S:=fun W=>(W.cell? (ad.add (i*3))=some (Φ op)∧W.cell? ⟨(ad.add (i*3)).block,(ad.add (i*3)).off+1,none⟩=some (.int .u32 key)∧W.cell? ⟨(ad.add (i*3)).block,(ad.add (i*3)).off+2,none⟩=some (.int .u32 val))∧(W.cell? (Ψ g18 0)=some (Φ ka)∧W.cell? (Ψ g18 1)=some (.int .u32 kk)∧W.cell? (Ψ g18 2)=some (.int .u32 kv))) Zk ⟨XA.o.below HT.o.drew.below,Qk (w:=w5.drew) H18.o⟩ (fun hZ8=>?_);refine π ?_;(have hm:=HT.o.drew;have hg:=HBG.o.same (Da (Below.refl _ _));have hz:=HRZ.o.same (Da (Below.refl _ _));have h8:w5.drew.heap[g18]?=_:=H18.o;clear HT HBG HRZ H18 XC YC;have HT:=Az.m hm;have HBG:=Az.m hg;have HRZ:=Az.m hz;have H18:=Az.m h8;clear hm hg hz h8);generalize w5.drew=v0 at hZ8 HT HBG HRZ H18 ⊢;(refine Δ 0 ?_);refine π ?_;(refine Δ 1 ?_);refine π ?_;(refine Δ 2 ?_);refine π ?_;(refine Δ 3 ?_);refine π ?_;(refine Δ 4 ?_);refine π ?_;(refine Δ 5 ?_);refine π ?_;refine wpAnyH_ready (rs:=[6]) Zk Zs ?_;refine AllReadyH.cons (o:=_) rfl (fun K hK=>?_) AllReadyH.nil;go_simp;((with_reducible refine Ap ?_);go_must (go_at_call 11;refine (rT HT.o.below HBG.o HF.o).mono ?_;rintro e w6 ⟨bv',rfl,hg,ho⟩;have hm:=HT.o.off ho (fun k hk=>HT.o.free (HBG.o.type hk).2 (HBG.o.type hk).1.choose_spec Zd);have hz:=HRZ.o.far ho (fun k hk=>Pd (HBG.o.type hk).1.choose_spec Zd);have h8:=ho.blk H18.o (fun hk=>An (HBG.o.type hk).1.choose_spec H18.o Zd rfl);clear HT HBG HRZ H18 ho;have HT:=Az.m hm;have HBG:=Az.m hg;have HRZ:=Az.m hz;have H18:=Az.m h8;clear hm hg hz h8));refine hK.out _ _ ⟨XA.o.below HT.o.below,Qk H18.o⟩ (fun hZ9=>?_);clear hK K hZ8;have hZ8:=hZ9;clear hZ9;refine π ?_;(refine Δ 7 ?_);refine π ?_;(refine Δ 8 ?_);refine π ?_;(refine Δ 9 ?_);refine π ?_;(refine Δ 10 ?_);refine π ?_;(refine Δ 11 ?_);refine π ?_;clear hZ8;refine wpAnyH_done Zk ?_ _
         rcases HEND.o with hka|⟨hka,hans,hzz,hbb⟩
         .have k1:=As hka
          have YC:=Qk H18.o
          clear hka
          go_wp2_with (first|(go_at_call 5;refine (Hn _).mono ?_;rintro e wL ⟨rfl,hbL⟩;have HBL:=Az.m (show Below w.heap.size w wL from Ag HT.o.below hbL);clear hbL))
          go_ret
          exact ⟨rfl,HBL.o⟩
         .have k1:=Aj hka
          subst hzz hbb
          have HANS:=Az.m hans
          have YC:=Qk H18.o
          have EM:Az (mAt l.length z i z=i):=⟨by simp [mAt]⟩
          obtain ⟨i46,hi46,hz46,hs46,hb46⟩:=info_parts nX
          clear hka hans
          go_wp2
          with_reducible refine Dw (id:=33) ?_
          refine Mi 8 (fun W=>W.cell? (Ψ g9 z)=some (v2 z)∧W.cell? (Ψ g18 0)=some (Φ ka)∧W.cell? (Ψ g18 1)=some (.int .u32 kk)∧W.cell? (Ψ g18 2)=some (.int .u32 kv)) Zk ⟨HT.o.drew.c9 HZ.o,Qk (w:=w6.drew) H18.o⟩ (fun hZ8=>?_);refine π ?_;(have hm:=HT.o.drew;have hg:=HBG.o.same (Da (Below.refl _ _));have hz:=HRZ.o.same (Da (Below.refl _ _));have h8:w6.drew.heap[g18]?=_:=H18.o;clear HT HBG HRZ H18 YC;have HT:=Az.m hm;have HBG:=Az.m hg;have HRZ:=Az.m hz;have H18:=Az.m h8;clear hm hg hz h8);generalize w6.drew=v0 at hZ8 HT HBG HRZ H18 ⊢;(refine Bj (i:=0) (oi:=_) rfl Zk Zk Zk Zk (fun _ _ _ h=>h) μ Za ?_);refine π ?_;(refine Bj (i:=1) (oi:=_) rfl Zk Zk Zk Zk (fun _ _ _ h=>h) μ Za ?_);refine π ?_;(refine Bj (i:=2) (oi:=_) rfl Zk Zk Zk Zk (fun _ _ _ h=>h) μ Za ?_);refine π ?_;(refine Bj (i:=3) (oi:=_) rfl Zk Zk Zk Zk (fun _ _ _ h=>h) μ Za ?_);refine π ?_;(refine Bj (i:=4) (oi:=_) rfl Zk Zk Zk Zk (fun _ _ _ h=>h) μ Za ?_);refine π ?_;refine Cb (rs:=[5]) Zk Zs ?_;refine AllReadyL.cons (o:=_) rfl (fun K hK=>?_) AllReadyL.nil;go_simp;refine Cn ?_;intro v1 e1;have B5:=Az.m (Ce e1);have hb:=Cz e1;(have hm:=HT.o.same hb;have hg:=HBG.o.same hb;have hz:=HRZ.o.same hb;have h8:=Ac H18.o hb;clear HT HBG HRZ H18 e1 hb;have HT:=Az.m hm;have HBG:=Az.m hg;have HRZ:=Az.m hz;have H18:=Az.m h8;clear hm hg hz h8);refine hK.out _ _ ⟨HT.o.c9 HZ.o,Qk H18.o⟩ (fun hZ9=>?_);clear hK K hZ8;have hZ8:=hZ9;clear hZ9;refine π ?_;refine Cb (rs:=[6]) Zk Zs ?_;refine AllReadyL.cons (o:=_) rfl (fun K hK=>?_) AllReadyL.nil;have hrow:v1.ownsRow w.heap.size 46 3 (v2 z) i (Eo l i):=(by have h:=HT.o.told z HZ.o;rw [EM.o] at h;exact h);refine Bm _ rfl (.tmp 142) (.tmp 144) 30 rfl w.heap.size 46 i46 (.agg #[Φ 0,.int .u32 0,.int .u32 0]) 3 16 Tryz.underlying30 hi46 hz46 hs46 hb46 rfl Zd (v2 z) i (Eo l i) Λ153 hrow (Ψ v0.heap.size 0) 1 1 [Φ ka,.int .u32 kk,.int .u32 kv] Λ153 rfl ?hnews Λ154 Zd (by have:=HI.o;have:=H40.o;simp only [maxLen];omega) (by have:=HI.o;have:=H40.o;omega) HT.o.below.size _ rfl ?_;(case hnews=>intro q u hq;rw [Dj];exact (Aa B5.o q).trans (by simpa using hq));intro g1 cap1 w7 hown6 hg6 hat6 hlt6 hkp6;have G6:=Az.m hg6;have O6:=Az.m hown6;have AT6:=Az.m hat6;have ho7:=Fv hg6;have b97:=ho7.blk HT.o.b9 (fun hs=>(Ay hrow hs.symm).elim fun cs2 h2=>An HT.o.b9 h2 Zd rfl);have h87:=ho7.blk H18.o (fun hs=>NF18.o.2.2.2 z HZ.o hs.symm);have B97:=Az.m b97;have F97:=Ab b97;refine hK.out _ _ ⟨(Aa b97 z).trans (uX HZ.o),Qk h87⟩ (fun hZ9=>?_);clear hown6 hg6 hat6 hlt6 hkp6 ho7 b97 h87 hrow;clear hK K hZ8;have hZ8:=hZ9;clear hZ9;refine π ?_;(refine Bj (i:=7) (oi:=_) rfl Zk Zk Zk Zk (fun _ _ _ h=>h) μ Za ?_);refine π ?_;refine Cb (rs:=[8]) Zk Zs ?_;refine AllReadyL.last rfl (fun K hK=>?_);have C9:=hZ8.1;go_simp;refine hK.out _ _ ?_;refine π ?_;refine Mj Zk ?_ _
          have ecells:Eo l i++[Φ ka,.int .u32 kk,.int .u32 kv]=Eo l (i+1):=by
           show _=Eo l i++_
           rw [← HANS.o]
          have o6:=O6.o
          rw [ecells] at o6
          have h9:=HT.o.more (v2:=Tv g1 i cap1) HZ.o G6.o (by rw [EM.o];exact o6) (AT6.o.elim (fun h=>.inl h) (fun h=>.inr ⟨g1,rfl,Nat.le_of_eq h.symm⟩))
          have h9:=h9.cong (m':=mAt l.length z (i+1)) (fun j _=>kY j)
          have hrow:=HT.o.told z HZ.o
          have ho9:Over (fun k=>k=g9) w7 (w7.setCell (Ψ g9 z) (Tv g1 i cap1)):=(Over.refl (fun k=>k=g9) w7).set_ (Or.inl rfl) _
          have hg9:=(HBG.o.over (Fv G6.o) (fun k cs hs hc=>(Ay hrow hs.symm).elim fun cs2 h2=>An hc h2 Zd rfl)).over ho9 (fun k cs hs hc=>An hc B97.o Zd hs)
          have hz9:=(HRZ.o.far (Fv G6.o) (fun k hs=>(Ay hrow hs.symm).elim fun cs2 h2=>Pd h2 Zd)).far ho9 (fun k hs=>by rw [hs];exact Pd B97.o Zd)
          have H9T:=Az.m h9
          have HG9:=Az.m hg9
          have HZ9:=Az.m hz9
          clear h9 hg9 hz9 ho9 hrow o6 ecells
          go_wp2
          exact ⟨⟨i+1,_,rfl,HI.o,H9T,HG9,HZ9,⟨fun j hj=>HRT2.o j Zo⟩⟩,by have:=HI.o;show l.length-((i:Int)+1).toNat<l.length-((i:Int)).toNat;omega⟩
       .have c0:((i:Int)<(l.length:Int))=False:=eq_false Zo
        have c1:(i<l.length)=False:=eq_false hil
        obtain rfl:i=l.length:=Zo
        have H9T:=Az.m (HT.o.cong (m':=mAt l.length (z+1) 0) (fun j _=>nO j))
        clear hi hil HT
        go_wp2
        exact ⟨⟨z+1,v2,rfl,HZ.o,H9T⟩,by have:=HZ.o;show 3-((z:Int)+1).toNat<3-((z:Int)).toNat;omega⟩
    .have b0:((z:Int)<3)=False:=eq_false Zo
     have b1:(z<3)=False:=eq_false hz3
     obtain rfl:z=3:=Zo
     have HT3:=Az.m (HT.o.cong (m':=fun _=>l.length) (fun j hj=>by unfold mAt;rw [if_pos hj]))
     clear hz hz3 HT
     go_wp2
     refine π ?_
     go_loopw [22] (fun i wr=>∃ q:Nat,i=Φ q∧q≤l.length∧Az (TopAt ca ct cn cl cb cp csn l g3 g9 v (fun _=>l.length) w wr)) (fun i _=>l.length-(intOf i).toNat)
     case atStart=>exact ⟨0,rfl,Nat.zero_le _,HT3⟩
     case round=>
      clear HT3
      obtain ⟨q,rfl,hq,HT⟩:=hrel
      by_cases hql:q<l.length
      .have c0:((q:Int)<(l.length:Int))=True:=eq_true Zo
       have c1:(q<l.length)=True:=eq_true hql
       have w2_:=Ak (x:=(q:Int)+1) Zo Λ97
       have HQ:=Az.m hql
       obtain ⟨ga,cpa,ea,xa0,xa1,xa2⟩:=HT.o.row (j:=0) Zd hql
       obtain ⟨gb,cpb,eb,xb0,xb1,xb2⟩:=HT.o.row (j:=1) Zd hql
       obtain ⟨gc,cpc,ec,xc0,xc1,xc2⟩:=HT.o.row (j:=2) Zd hql
       have n0:=HT.o.c9 (k:=0) Zd
       have n1:=HT.o.c9 (k:=1) Zd
       have n2:=HT.o.c9 (k:=2) Zd
       rw [ea] at n0
       rw [eb] at n1
       rw [ec] at n2
       obtain ⟨y0,hy0⟩:∃ y,y=(Is l q).1:=⟨_,rfl⟩
       obtain ⟨y1,hy1⟩:∃ y,y=(Is l q).2.1:=⟨_,rfl⟩
       obtain ⟨y2,hy2⟩:∃ y,y=(Is l q).2.2:=⟨_,rfl⟩
       rw [← hy0] at xa0 xb0 xc0
       rw [← hy1] at xa1 xb1 xc1
       rw [← hy2] at xa2 xb2 xc2
       clear hq hql ea eb ec hy0 hy1 hy2
       go_wp2
       go_quiet (fail)
       go_wp2
       exact ⟨⟨q+1,rfl,HQ.o,⟨HT.o.drewN _⟩⟩,by have:=HQ.o;show l.length-((q:Int)+1).toNat<l.length-((q:Int)).toNat;omega⟩
      .have c0:((q:Int)<(l.length:Int))=False:=eq_false Zo
       have c1:(q<l.length)=False:=eq_false hql
       clear hq hql
       go_wp2_with (first|(go_at_call 5;refine (Hn _).mono ?_;rintro e wL ⟨rfl,hbL⟩;have HBL:=Az.m (show Below w.heap.size w wL from Ag HT.o.below hbL);clear hbL))
       go_ret
       exact ⟨rfl,HBL.o⟩
end
end Go.Proofs.YtlejhikddkdanaaGreat.Mdl
namespace Go.Proofs.YtlejhikddkdanaaGreat.topSame
open Go.ChangeShapes Go.WideShapes Go.ChangeAt Go.RowKit Go.Deep
open Go.Proofs.YtlejhikddkdanaaGreat.PTopSame Go.Proofs.YtlejhikddkdanaaGreat.Mdl Go.Proofs.YtlejhikddkdanaaGreatW.PrintWords
theorem own:ownKnob Tryz.prog.godebug=none:=Zk
theorem Xk:laidOutB Tryz.prog=true:=Zk
theorem kJ {x:Int} (h:(Lit.int .u32 x).wf=true):0≤x∧x<4294967296:=by
 simp [Lit.wf,IntKind.min,IntKind.max,IntKind.bits,IntKind.signed] at h
 omega
theorem tN {x:Int} (h:(Lit.int .u8 x).wf=true):0≤x∧x≤255:=by
 simp [Lit.wf,IntKind.min,IntKind.max,IntKind.bits,IntKind.signed] at h
 omega
section
variable {H:Type} {enc:TypeId×Value→H} {w:World} {base:Nat} {spare:Nat→Bool} {held:Bool}
theorem c3:Tryz.prog.cellsOf 3=1:=Zk
theorem c27:Tryz.prog.cellsOf 27=1:=Zk
theorem c23:Tryz.prog.cellsOf 23=7:=Zk
theorem c29:Tryz.prog.cellsOf 29=3:=Zk
theorem gO {fuel:Nat} {cs:List Value} {x:DataW H×List MemPlace} (h:DataW.trod enc Tryz.prog w base spare held fuel 23 cs=some x) :
  ∃ a0 a1 a2 a3 a4 a5 a6,cs=[Φ a0,Φ a1,Φ a2,Φ a3,Φ a4,Φ a5,Φ a6]:=by
 obtain ⟨xs,n,rfl,hx,hl,hlen,hf⟩:=DataW.trod_struct Tryz.underlying23 h
 rw [c23] at hl
 have hs:xs.length=7:=hlen
 match cs,hl,xs,hs with
 |[v0,v1,v2,v3,v4,v5,v6],_,[y0,y1,y2,y3,y4,y5,y6],_=>
  have g0:DataW.trod enc Tryz.prog w base spare held n 3 (([v0,v1,v2,v3,v4,v5,v6].drop 0).take (Tryz.prog.cellsOf 3))=some y0:=hf 0 _ rfl
  have g1:DataW.trod enc Tryz.prog w base spare held n 3 (([v0,v1,v2,v3,v4,v5,v6].drop 1).take (Tryz.prog.cellsOf 3))=some y1:=hf 1 _ rfl
  have g2:DataW.trod enc Tryz.prog w base spare held n 3 (([v0,v1,v2,v3,v4,v5,v6].drop 2).take (Tryz.prog.cellsOf 3))=some y2:=hf 2 _ rfl
  have g3:DataW.trod enc Tryz.prog w base spare held n 3 (([v0,v1,v2,v3,v4,v5,v6].drop 3).take (Tryz.prog.cellsOf 3))=some y3:=hf 3 _ rfl
  have g4:DataW.trod enc Tryz.prog w base spare held n 3 (([v0,v1,v2,v3,v4,v5,v6].drop 4).take (Tryz.prog.cellsOf 3))=some y4:=hf 4 _ rfl
  have g5:DataW.trod enc Tryz.prog w base spare held n 3 (([v0,v1,v2,v3,v4,v5,v6].drop 5).take (Tryz.prog.cellsOf 3))=some y5:=hf 5 _ rfl
  have g6:DataW.trod enc Tryz.prog w base spare held n 3 (([v0,v1,v2,v3,v4,v5,v6].drop 6).take (Tryz.prog.cellsOf 3))=some y6:=hf 6 _ rfl
  rw [c3] at g0 g1 g2 g3 g4 g5 g6
  obtain ⟨a0,e0,_⟩:=DataW.trod_int (cs:=[v0]) Tryz.underlying3 g0
  obtain ⟨a1,e1,_⟩:=DataW.trod_int (cs:=[v1]) Tryz.underlying3 g1
  obtain ⟨a2,e2,_⟩:=DataW.trod_int (cs:=[v2]) Tryz.underlying3 g2
  obtain ⟨a3,e3,_⟩:=DataW.trod_int (cs:=[v3]) Tryz.underlying3 g3
  obtain ⟨a4,e4,_⟩:=DataW.trod_int (cs:=[v4]) Tryz.underlying3 g4
  obtain ⟨a5,e5,_⟩:=DataW.trod_int (cs:=[v5]) Tryz.underlying3 g5
  obtain ⟨a6,e6,_⟩:=DataW.trod_int (cs:=[v6]) Tryz.underlying3 g6
  injection e0 with e0
  injection e1 with e1
  injection e2 with e2
  injection e3 with e3
  injection e4 with e4
  injection e5 with e5
  injection e6 with e6
  exact ⟨a0,a1,a2,a3,a4,a5,a6,by rw [e0,e1,e2,e3,e4,e5,e6]⟩
theorem gP {fuel:Nat} {cs:List Value} {x:DataW H×List MemPlace} (h:DataW.trod enc Tryz.prog w base spare held fuel 29 cs=some x) :
  ∃ a0 a1 a2,cs=[Φ a0,.int .u32 a1,.int .u32 a2]∧(Lit.int .u32 a1).wf=true∧(Lit.int .u32 a2).wf=true:=by
 obtain ⟨xs,n,rfl,hx,hl,hlen,hf⟩:=DataW.trod_struct Tryz.underlying29 h
 rw [c29] at hl
 have hs:xs.length=3:=hlen
 match cs,hl,xs,hs with
 |[v0,v1,v2],_,[y0,y1,y2],_=>
  have g0:DataW.trod enc Tryz.prog w base spare held n 3 (([v0,v1,v2].drop 0).take (Tryz.prog.cellsOf 3))=some y0:=hf 0 _ rfl
  have g1:DataW.trod enc Tryz.prog w base spare held n 27 (([v0,v1,v2].drop 1).take (Tryz.prog.cellsOf 27))=some y1:=hf 1 _ rfl
  have g2:DataW.trod enc Tryz.prog w base spare held n 27 (([v0,v1,v2].drop 2).take (Tryz.prog.cellsOf 27))=some y2:=hf 2 _ rfl
  rw [c3] at g0
  rw [c27] at g1 g2
  obtain ⟨a0,e0,_⟩:=DataW.trod_int (cs:=[v0]) Tryz.underlying3 g0
  obtain ⟨a1,e1,_,h1⟩:=DataW.trod_int (cs:=[v1]) Tryz.underlying27 g1
  obtain ⟨a2,e2,_,h2⟩:=DataW.trod_int (cs:=[v2]) Tryz.underlying27 g2
  injection e0 with e0
  injection e1 with e1
  injection e2 with e2
  exact ⟨a0,a1,a2,by rw [e0,e1,e2],h1,h2⟩
theorem dH {fuel:Nat} {a:Option Addr} {len cap:Nat} {x:DataW H×List MemPlace} (h:DataW.trod enc Tryz.prog w base spare held fuel 24 [.slice a len cap]=some x) :
  ∃ cs:List S29,cs.length=len∧Kd.C k29 w a len cs∧∀ y ∈ cs,(0≤y.f1∧y.f1<4294967296)∧(0≤y.f2∧y.f2<4294967296):=by
 rcases open_slice Tryz.underlying24 h with ⟨hc,_⟩|⟨ad,len',cap',m,n,D,Pl,hc,hb,hl,hm,hmm,hx,he⟩
 .injection hc with hc
  injection hc with h1 h2 h3
  subst h1 h2
  exact ⟨[],rfl,⟨rfl,Nat.zero_le _,fun h=>absurd h (Nat.lt_irrefl _)⟩,fun y hy=>by cases hy⟩
 .injection hc with hc
  injection hc with h1 h2 h3
  subst h1 h2 h3
  have hlm:len≤m:=by rw [hmm];split<;>omega
  have each:∀ i,i<len→∃ y:Int×Int×Int,(w.cell? (ad.add (i*3+0))=some (Φ y.1)∧w.cell? (ad.add (i*3+1))=some (.int .u32 y.2.1)∧w.cell? (ad.add (i*3+2))=some (.int .u32 y.2.2))∧(Lit.int .u32 y.2.1).wf=true∧(Lit.int .u32 y.2.2).wf=true:=by
   intro i hi
   obtain ⟨cs',h1,h2⟩:=he i Zo
   rw [c29] at h1
   obtain ⟨a0,a1,a2,rfl,w1,w2⟩:=gP h2
   obtain ⟨_,_,hcell⟩:=World.cells?_some h1
   have e0:=hcell 0 Zo
   have e1:=hcell 1 Zo
   have e2:=hcell 2 Zo
   rw [Deep.add_add] at e0 e1 e2
   exact ⟨(a0,a1,a2),⟨e0,e1,e2⟩,w1,w2⟩
  obtain ⟨q,hq⟩:=choose_lt each
  refine ⟨(List.range len).map fun i=>⟨(q i).1,(q i).2.1,(q i).2.2⟩,Zs,⟨Zs,by simp only [maxLen] at hm;omega,fun _=>⟨ad,rfl,fun j p hp=>?_⟩⟩,fun y hy=>?_⟩
  .have hj:j<len:=by
    have:=(List.getElem?_eq_some_iff.1 hp).1
    simpa using this
   have e:p=⟨(q j).1,(q j).2.1,(q j).2.2⟩:=by
    rw [List.getElem?_map,List.getElem?_range hj] at hp
    exact (Option.some.inj hp).symm
   subst e
   refine ⟨_,rfl,rH _ _,fun i u hu=>?_⟩
   obtain ⟨⟨h0,h1,h2⟩,_⟩:=hq j hj
   match i,hu with
   |0,hu=>cases hu;exact h0
   |1,hu=>cases hu;exact h1
   |2,hu=>cases hu;exact h2
   |i+3,hu=>simp at hu
  .obtain ⟨i,hi,rfl⟩:=List.mem_map.1 hy
   obtain ⟨_,w1,w2⟩:=hq i (List.mem_range.1 hi)
   exact ⟨kJ w1,kJ w2⟩
end
def vM (k:IntKind) (w:World) (a:Option Addr) (len cap:Nat) (zs:List Int):Prop:=
 (a=none∧len=0∧cap=0∧zs=[])∨
 ∃ x,a=some x∧len≤cap∧cap≤maxLen∧zs.length=cap∧(∀ i,i<zs.length→w.cell? (x.add i)=some (.int k (zs.getD i 0)))∧∀ n ∈ zs,(Lit.int k n).wf=true
theorem rD (os:Os) (started:os.Started) (H:Type) (enc:TypeId×Value→H) :
  ReturnsInHanded {} Tryz.checked os 3 .any (Rows.topSameSpec.pre6 enc Tryz.prog Tryz.f3 Rows.topSameRow.domain false) (Rows.topSameSpec.post enc Tryz.prog Tryz.f3 false true false false):=by
 refine returnsInHanded_of_change_sized (C:=Tryz.checked) own started Zk Tryz.func3
  (ChangeSpec.witness6 (enc:=enc) (C:=Tryz.checked) false ⟨#[],#[.agg #[Φ 0,Φ 0,Φ 0,Φ 0,Φ 0,Φ 0,Φ 0],.slice none 0 0,.slice none 0 0],[]⟩ 8 Zk Zk Zk Zk) ?_
 intro W base args ds gs before hval0 hW hcnd hsz0 _
 have hval:∀ (j:Nat) t v,Tryz.f3.params[j]?=some t→args[j]?=some v→Value.okWide Tryz.prog W .any base t v:=hval0
 have hW':=hW
 obtain ⟨p,q,hA0,hV,rfl,hfz,hnd⟩:=hW
 have hA:DataW.TrodAll enc Tryz.prog W 0 (fun _=>true) true Tryz.f3.params.toList args.toList ds p:=hA0
 rw [Tryz.params3] at hA hval
 obtain ⟨v0,vs0,d0,ds0,p0,q0,hargs,rfl,rfl,h0,r0⟩:=trodAll_cons hA
 obtain ⟨v1,vs1,d1,ds1,p1,q1,rfl,rfl,rfl,h1,r1⟩:=trodAll_cons r0
 obtain ⟨v2,vs2,d2,ds2,p2,q2,rfl,rfl,rfl,h2,r2⟩:=trodAll_cons r1
 obtain ⟨rfl,rfl,rfl⟩:=trodAll_nil r2
 obtain rfl:args=#[v0,v1,v2]:=by cases args;simp_all
 obtain ⟨rfl,rfl⟩:=trodVars_none hV
 obtain ⟨cs0,rfl,hs0⟩:=okWide_struct Tryz.underlying23 (hval 0 23 v0 rfl rfl)
 obtain ⟨a1,len1,cap1,rfl⟩:=okWide_slice Tryz.underlying24 (hval 1 24 v1 rfl rfl)
 obtain ⟨a2,len2,cap2,rfl⟩:=okWide_slice Tryz.underlying25 (hval 2 25 v2 rfl rfl)
 have k0:=h0
 have k1:=h1
 have k2:=h2
 have lt0:∀ x ∈ p0,x.block<W.heap.size:=by obtain ⟨m,hm⟩:=k0;exact DataW.trod_lt m _ _ _ hm
 have lt1:∀ x ∈ p1,x.block<W.heap.size:=by obtain ⟨m,hm⟩:=k1;exact DataW.trod_lt m _ _ _ hm
 have lt2:∀ x ∈ p2,x.block<W.heap.size:=by obtain ⟨m,hm⟩:=k2;exact DataW.trod_lt m _ _ _ hm
 obtain ⟨b0,b1,b2,b3,b4,b5,b6,hcs⟩:∃ a0 a1 a2 a3 a4 a5 a6,cs0=#[Φ a0,Φ a1,Φ a2,Φ a3,Φ a4,Φ a5,Φ a6]:=by
  obtain ⟨fuel,hf⟩:=h0
  obtain ⟨a0,a1,a2,a3,a4,a5,a6,e⟩:=gO hf
  refine ⟨a0,a1,a2,a3,a4,a5,a6,?_⟩
  have e':cs0.toList=_:=e
  rw [← Array.toArray_toList (xs:=cs0),e']
 subst hcs
 obtain ⟨cs,hl1,hC,hR⟩:∃ cs:List S29,cs.length=len1∧Kd.C k29 W a1 len1 cs∧∀ y ∈ cs,(0≤y.f1∧y.f1<4294967296)∧(0≤y.f2∧y.f2<4294967296):=by
  obtain ⟨fuel,hf⟩:=h1
  exact dH (cap:=cap1) hf
 obtain ⟨z2,w2⟩:∃ zs,vM .u8 W a2 len2 cap2 zs:=by
  obtain ⟨fuel,hf⟩:=h2
  rcases open_ints Tryz.underlying25 Tryz.underlying5 Zk hf with ⟨hcs,_⟩|⟨x,l,c,zs,hcs,_,hl,hm,hz,_,hcell,hwz⟩
  .simp [Value.cells] at hcs
   obtain ⟨rfl,rfl,rfl⟩:=hcs
   exact ⟨[],.inl ⟨rfl,rfl,rfl,rfl⟩⟩
  .simp [Value.cells] at hcs
   obtain ⟨rfl,rfl,rfl⟩:=hcs
   exact ⟨zs,.inr ⟨_,rfl,hl,hm,by simpa using hz,hcell,hwz⟩⟩
 obtain ⟨l2,rfl,hr2,hm2,hw2,hc2⟩:=ReadsInt.ofRowC w2
 clear hA0 hval0 hsz0
 subst hl1
 have hll:(cs.map fun x:S29=>(x.f0,x.f1,x.f2)).length=cs.length:=List.length_map _
 have main:=Tz (ca:=b0) (ct:=b1) (cn:=b2) (cl:=b3) (cb:=b4) (cp:=b5) (csn:=b6) (CA:=a1) (DA:=a2) (ccap:=cap1) (dcap:=cap2) (l:=cs.map fun x:S29=>(x.f0,x.f1,x.f2)) (ds:=l2) (cs:=cs) W (mB hC) (by rw [hll];exact hC) (fun i hi=>by
  rw [hll] at hi
  have e:Bp (cs.map fun x:S29=>(x.f0,x.f1,x.f2)) i=((cs[i]).f0,(cs[i]).f1,(cs[i]).f2):=by
   unfold Bp
   rw [List.getD_eq_getElem?_getD,List.getElem?_map,List.getElem?_eq_getElem hi]
   rfl
  rw [e]
  exact hR _ (List.getElem_mem hi)) hr2 (fun b hb=>tN (hw2 b hb))
 rw [hll] at main
 refine main.mono fun e W' ⟨he,bel⟩=>?_
 subst he
 exact ⟨_,rfl,_,_,_,[],_,[],hW',trodAll_mk1 (shut_bool Tryz.underlying4 _),(trodAll_cons_mk (Below.trod Xk Zk (of_decide_eq_true Zk) k0 bel lt0) (trodAll_cons_mk (Below.trod Xk Zk (of_decide_eq_true Zk) k1 bel lt1) (trodAll_cons_mk (Below.trod Xk Zk (of_decide_eq_true Zk) k2 bel lt2) trodAll_mk0))),rfl,bel.frame _,fun h=>by cases h⟩
theorem over:Rows.topSameRow.holds Tryz.pinned (OpenSpec.ofChange Rows.topSameSpec):=
 OpenClaim.holds_of_wide 3 Tryz.f3 rfl rfl rfl rfl rfl rfl rfl ⟨rfl,rfl,rfl,rfl,rfl⟩ rfl rfl rfl rfl rfl Zk Tryz.func3 Zk
  (of_decide_eq_true Zk) (by unfold Func.isWrapper;first|(rw [if_pos (by decide +kernel)];kernel_rfl)|(rw [if_neg (by decide +kernel)];exact ⟨rfl,rfl⟩))
  (fun os started H enc _=>rD os started H enc)
theorem proved:Rows.TopSameSaid:=over
#print axioms proved
end Go.Proofs.YtlejhikddkdanaaGreat.topSame
namespace Go.Proofs.YtlejhikddkdanaaGreat
theorem topSame_holds:Rows.TopSameSaid:=topSame.proved
end Go.Proofs.YtlejhikddkdanaaGreat
