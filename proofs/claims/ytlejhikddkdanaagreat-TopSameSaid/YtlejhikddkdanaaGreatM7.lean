/- TopSame, part 7: lemmas on the way. -/
import Derived.Test.YtlejhikddkdanaaGreatM6
set_option maxHeartbeats 8000000
set_option maxRecDepth 1000000
set_option linter.unusedVariables false
set_option linter.unusedSimpArgs false
namespace Go.Proofs.YtlejhikddkdanaaGreat.Fns
open PTopSame
open RowKit YtlejhikddkdanaaGreatW.PrintWords YtlejhikddkdanaaGreatW.PrintLast YtlejhikddkdanaaGreatW.PrintMore
section
attribute [local go_sem] Cs Cq De Dd Cj Ci Cr Cp
attribute [local go_sem high] uR
def jostleref09_May.f (dg dh di:Int):Option (Bool):=if dg=2 then (some true) else (if dg=0 then (if dh=0 then (some (di==0)) else (some false)) else (if dg=1 then (if dh=0 then (some (di==0)) else (some false)) else (if dg=3 then (if dh=0 then (some (di==0)) else (some false)) else (some false))))
namespace Y59
theorem F1 {p:Prop} (h:p:=by go_enter Tryz.func59,Tryz.ntmps59;exact FE):p:=h
end Y59
open Y59 in
theorem jostleref09_May.calls (dg dh di:Int) (r:Bool) (w:World) (h:jostleref09_May.f dg dh di=some r) :
  Calls Tryz.prog 59 #[.agg #[Φ dg,.int .u32 dh,.int .u32 di]] w fun e w'=>e=.returned (.bool r)∧Below w.heap.size w w':=by
 unfold jostleref09_May.f at h
 exact FO
def jostleref12_Fits.f (dg dh di db da dc:Int):Option (Bool):=(jostleref09_Right.f dg dh di).bind fun t252=>(if t252=true then ((jostleref09_May.f db da dc).bind fun t253=>(if t253=true then (some ((dg==0)==(decide (db<2)))) else (some false))) else (some false))
namespace Y20
theorem F1 {p:Prop} (h:p:=by go_enter Tryz.func20,Tryz.ntmps20;exact FE):p:=h
end Y20
open Y20 in
theorem jostleref12_Fits.calls (dg dh di db da dc:Int) (r:Bool) (w:World) (h:jostleref12_Fits.f dg dh di db da dc=some r) :
  Calls Tryz.prog 20 #[.agg #[Φ dg,.int .u32 dh,.int .u32 di],.agg #[Φ db,.int .u32 da,.int .u32 dc]] w fun e w'=>e=.returned (.bool r)∧Below w.heap.size w w':=by
 unfold jostleref12_Fits.f at h
 exact FO
def jostleref13_Least.l0:Nat→List (S66)→Int→Int→Option (Int×Bool)
 |0,_,_,_=>none
 |k+1,x0,x4,x5=>if x5<(x0.length:Int) then (if 0≤x5 then (if ((Ax x0 x5).f0)<x4 then (jostleref13_Least.l0 k x0 ((Ax x0 x5).f0) (wrap64 (x5+1))) else (jostleref13_Least.l0 k x0 x4 (wrap64 (x5+1)))) else (none)) else (some (x4,true))
def jostleref13_Least.f (k:Nat) (l0:List (S66)):Option (Int×Bool):=if (l0.length:Int)=0 then (some (0,false)) else (if 0<(l0.length:Int) then (jostleref13_Least.l0 k l0 ((Ax l0 0).f0) 0) else (none))
theorem jostleref13_Least.calls (k:Nat) (A0:Option Addr) (c0:Nat) (l0:List (S66)) (r1:Int) (r2:Bool) (w:World) (hr0:Kd.C k66 w A0 l0.length l0) (hc0:l0.length≤c0) (h:jostleref13_Least.f k l0=some (r1,r2)) :
  Calls Tryz.prog 21 #[.slice A0 l0.length c0] w fun e w'=>e=.returned (.tuple #[.int .u32 r1,.bool r2])∧Drawn0 w w':=by
 have HR0:=Az.m hr0
 have HC0:=Az.m hc0
 clear hr0 hc0
 have H:(if (l0.length:Int)=0 then (some (0,false)) else (if 0<(l0.length:Int) then (jostleref13_Least.l0 k l0 ((Ax l0 0).f0) 0) else (none)))=some (r1,r2):=h
 clear h
 by_cases c2:(l0.length:Int)=0
 .rw [if_pos c2] at H
  have c2b0:((l0.length:Int)==0)=true:=beq_iff_eq.mpr c2
  have c2b1:((l0.length:Int) != 0)=false:=bne_eq_false_iff_eq.mpr c2
  clear c2
  simp only [Option.some.injEq,Prod.mk.injEq] at H
  obtain ⟨rfl,rfl⟩:=H
  go_enter Tryz.func21,Tryz.ntmps21
  go_wp2
  go_ret2
  exact ⟨by first|rfl|(simp;done)|(simp [*];done),by repeat (first|exact Drawn0.refl _|apply Drawn0.step)⟩
 .rw [if_neg c2] at H
  have c2b0:((l0.length:Int)==0)=false:=beq_eq_false_iff_ne.mpr c2
  have c2b1:((l0.length:Int) != 0)=true:=bne_iff_ne.mpr c2
  have c2b2:¬ (l0=[]):=fun h_=>c2 (by rw [h_];rfl)
  by_cases c3:0<(l0.length:Int)
  .rw [if_pos c3] at H
   have c3b0:decide (0<(l0.length:Int))=true:=decide_eq_true c3
   have c3b1:decide (0<l0.length)=true:=decide_eq_true Zo
   clear c3
   have H':=Az.m H
   clear H
   have p254:0≤(0:Int):=Zo
   have q254:0<(l0.length:Int):=of_decide_eq_true Λ27
   obtain ⟨ad254,e254,hx254_0,hx254_1⟩:=Jy HR0.o 0 p254 q254
   cases e254
   have qi254:(0<l0.length)=True:=eq_true Zo
   (try rw [show ((0:Int)).toNat=0 from rfl] at hx254_0)
   (try rw [show 0*2=0 from rfl] at hx254_0)
   (try rw [Addr.add_zero'] at hx254_0)
   (try rw [show ((0:Int)).toNat=0 from rfl] at hx254_1)
   (try rw [show 0*2=0 from rfl] at hx254_1)
   (try rw [Addr.add_zero'] at hx254_1)
   replace p254:=eq_true p254
   replace q254:=eq_true q254
   go_enter Tryz.func21,Tryz.ntmps21
   go_wp2
   go_loopg [4,5] k (fun kq v4 v5 w'=>∃ (x4_1:Int) (x5_1:Int),v4=.int .u32 x4_1∧v5=Φ x5_1∧Az (jostleref13_Least.l0 kq l0 x4_1 x5_1=some (r1,r2))∧Az (kq≤k)∧Drawn0 w w')
   case atStart=>exact ⟨((Ax l0 0).f0),(0),Λ46,Λ46,H',⟨Nat.le_refl _⟩,by repeat (first|exact Drawn0.refl _|apply Drawn0.step)⟩
   case round=>
    clear H'
    try clear c2
    try clear c2b0
    try clear c2b1
    try clear c2b2
    try clear p2
    try clear q2
    try clear hx2
    try clear qi2
    try clear c3
    try clear c3b0
    try clear c3b1
    try clear hx254_0
    try clear hx254_1
    try clear p254
    try clear q254
    obtain ⟨x4_1,x5_1,rfl,rfl,HA,HK1,⟨m1,rfl⟩⟩:=hrel
    cases gk with
    |zero=>exact absurd HA.o (by simp [jostleref13_Least.l0])
    |succ k1=>
     have H:=HA.o
     clear HA
     simp only [jostleref13_Least.l0] at H
     by_cases c4:x5_1<(l0.length:Int)
     .rw [if_pos c4] at H
      have c4b0:decide (x5_1<(l0.length:Int))=true:=decide_eq_true c4
      clear c4
      by_cases c5:0≤x5_1
      .rw [if_pos c5] at H
       have c5b0:decide (0≤x5_1)=true:=decide_eq_true c5
       clear c5
       by_cases c6:((Ax l0 x5_1).f0)<x4_1
       .rw [if_pos c6] at H
        have c6b0:decide (((Ax l0 x5_1).f0)<x4_1)=true:=decide_eq_true c6
        clear c6
        have H':=Az.m H
        clear H
        have p255:0≤(x5_1:Int):=of_decide_eq_true Λ27
        have q255:x5_1<(l0.length:Int):=of_decide_eq_true Λ27
        obtain ⟨ad255,e255,hx255_0,hx255_1⟩:=Jy HR0.o x5_1 p255 q255
        obtain rfl:ad254=ad255:=(by injection e255)
        replace p255:=eq_true p255
        replace q255:=eq_true q255
        have p256:0≤(x5_1:Int):=of_decide_eq_true Λ27
        have q256:x5_1<(l0.length:Int):=of_decide_eq_true Λ27
        obtain ⟨ad256,e256,hx256_0,hx256_1⟩:=Jy HR0.o x5_1 p256 q256
        obtain rfl:ad254=ad256:=(by injection e256)
        replace p256:=eq_true p256
        replace q256:=eq_true q256
        go_wp2
        go_roundg k1
        case measure=>have:=HK1.o;omega
        case rel=>exact ⟨((Ax l0 x5_1).f0),(wrap64 (x5_1+1)),Λ46,Λ46,H',⟨by have:=HK1.o;omega⟩,by repeat (first|exact Drawn0.refl _|apply Drawn0.step)⟩
       .rw [if_neg c6] at H
        have c6b0:decide (((Ax l0 x5_1).f0)<x4_1)=false:=decide_eq_false c6
        clear c6
        have H':=Az.m H
        clear H
        have p255:0≤(x5_1:Int):=of_decide_eq_true Λ27
        have q255:x5_1<(l0.length:Int):=of_decide_eq_true Λ27
        obtain ⟨ad255,e255,hx255_0,hx255_1⟩:=Jy HR0.o x5_1 p255 q255
        obtain rfl:ad254=ad255:=(by injection e255)
        replace p255:=eq_true p255
        replace q255:=eq_true q255
        go_wp2
        go_roundg k1
        case measure=>have:=HK1.o;omega
        case rel=>exact ⟨(x4_1),(wrap64 (x5_1+1)),Λ46,Λ46,H',⟨by have:=HK1.o;omega⟩,by repeat (first|exact Drawn0.refl _|apply Drawn0.step)⟩
      .rw [if_neg c5] at H
       exact absurd H Zs
     .rw [if_neg c4] at H
      have c4b0:decide (x5_1<(l0.length:Int))=false:=decide_eq_false c4
      clear c4
      simp only [Option.some.injEq,Prod.mk.injEq] at H
      obtain ⟨rfl,rfl⟩:=H
      go_wp2
      go_ret2
      exact ⟨by first|rfl|(simp;done)|(simp [*];done),by repeat (first|exact Drawn0.refl _|apply Drawn0.step)⟩
  .rw [if_neg c3] at H
   exact absurd H Zs
def jostleref13_Count.l0:Nat→List (S66)→Int→Int→Int→Int→Option (Int)
 |0,_,_,_,_,_=>none
 |k+1,x0,x5,x6,x258000,x258001=>if x6<(x0.length:Int) then (if 0≤x6 then (if (((Ax x0 x6).f0)==x258000 && (((Ax x0 x6).f1)==x258001))=true then (jostleref13_Count.l0 k x0 (wrap64 (x5+1)) (wrap64 (x6+1)) x258000 x258001) else (jostleref13_Count.l0 k x0 x5 (wrap64 (x6+1)) x258000 x258001)) else (none)) else (some x5)
def jostleref13_Count.f (k:Nat) (l0:List (S66)) (db da:Int):Option (Int):=jostleref13_Count.l0 k l0 0 0 db da
theorem jostleref13_Count.calls (k:Nat) (A0:Option Addr) (c0:Nat) (l0:List (S66)) (db da r:Int) (w:World) (hr0:Kd.C k66 w A0 l0.length l0) (hc0:l0.length≤c0) (h:jostleref13_Count.f k l0 db da=some r) :
  Calls Tryz.prog 22 #[.slice A0 l0.length c0,.agg #[.int .u32 db,.int .u32 da]] w fun e w'=>e=.returned (Φ r)∧Below w.heap.size w w':=by
 have hu66:=Tryz.underlying66
 have HR0:=Az.m hr0
 have HC0:=Az.m hc0
 clear hr0 hc0
 have HB:=Az.m (Below.refl w.heap.size w)
 have H:(jostleref13_Count.l0 k l0 0 0 db da)=some r:=h
 clear h
 have H':=Az.m H
 clear H
 go_enter Tryz.func22,Tryz.ntmps22
 go_wp2_with (first|((with_reducible refine Al (N:=3) rfl ?_);refine Am ?hg (N:=3) ?hd (cs:=#[.int .u32 db,.int .u32 da]) (t:=66) ?hr ?_;(case hd=>rfl);(case hg=>rfl);(case hr=>exact Λ18);intro gb257 hg w3 hbox hb;have n0_:=Az.m (Ag Λ134 hb);have n1_:=Az.m (hbox);have n2_:=Az.m ((by rw [hg];exact (Bz Λ134):w.heap.size≤gb257));have n3_:=Az.m ((by rw [hg];exact (Bz Λ134):w.heap.size≤gb257));clear HB;have HB:=n0_;have BK257:=n1_;have GW257:=n2_;have GE257:=n3_;clear n0_ n1_ n2_ n3_;clear hb hbox hg))
 go_loopg [5,6] k (fun kq v5 v6 w'=>∃ (x5_1:Int) (x6_1:Int),v5=Φ x5_1∧v6=Φ x6_1∧Az (jostleref13_Count.l0 kq l0 x5_1 x6_1 db da=some r)∧Az (kq≤k)∧Az (w'.heap[gb257]?=some (.cells #[.int .u32 db,.int .u32 da] 66 (0,0)))∧Az (Below w.heap.size w w'))
 case atStart=>exact ⟨(0),(0),Λ46,Λ46,H',⟨Nat.le_refl _⟩,⟨by (with_reducible repeat (first|refine Cg ?_ _|refine Bl ?_|refine Ba ?_ _));exact BK257.o⟩,⟨by repeat (first|(with_reducible first|exact HB.o|apply Af|apply At|apply Bu|refine Aq ?_ GE257.o)|exact HB.o)⟩⟩
 case round=>
  clear H'
  try clear c2
  try clear p2
  obtain ⟨x5_1,x6_1,rfl,rfl,HA,HK1,BK257,HB⟩:=hrel
  cases gk with
  |zero=>exact absurd HA.o (by simp [jostleref13_Count.l0])
  |succ k1=>
   have H:=HA.o
   clear HA
   simp only [jostleref13_Count.l0] at H
   by_cases c4:x6_1<(l0.length:Int)
   .rw [if_pos c4] at H
    have c4b0:decide (x6_1<(l0.length:Int))=true:=decide_eq_true c4
    clear c4
    by_cases c5:0≤x6_1
    .rw [if_pos c5] at H
     have c5b0:decide (0≤x6_1)=true:=decide_eq_true c5
     clear c5
     by_cases c6:(((Ax l0 x6_1).f0)==db && (((Ax l0 x6_1).f1)==da))=true
     .rw [if_pos c6] at H
      have c6b0:(((Ax l0 x6_1).f0)==db && (((Ax l0 x6_1).f1)==da))=true:=c6
      (try (have c6b1:decide (((Ax l0 x6_1).f0)=db && (((Ax l0 x6_1).f1)==da))=true:=by simpa using c6))
      (try (have c6b2:(((Ax l0 x6_1).f0)==db && (((Ax l0 x6_1).f1)==da))=true:=by simpa using c6))
      clear c6
      have H':=Az.m H
      clear H
      have p258:0≤(x6_1:Int):=of_decide_eq_true Λ27
      have q258:x6_1<(l0.length:Int):=of_decide_eq_true Λ27
      obtain ⟨ad258,e258,hx258_0,hx258_1⟩:=Jy HR0.o x6_1 p258 q258
      cases e258
      replace hx258_0:=(HB.o.cell (World.block_lt_of_cell? w _ hx258_0)).trans hx258_0
      replace hx258_1:=(HB.o.cell (World.block_lt_of_cell? w _ hx258_1)).trans hx258_1
      replace p258:=eq_true p258
      replace q258:=eq_true q258
      obtain ⟨hcz7_0,hcz7_1⟩:=bc2 BK257.o
      have hfz7_0:=Ab BK257.o
      go_wp2
      repeat (go_quiet (fail);try go_wp2)
      go_roundg k1
      case measure=>have:=HK1.o;omega
      case rel=>exact ⟨(wrap64 (x5_1+1)),(wrap64 (x6_1+1)),Λ46,Λ46,H',⟨by have:=HK1.o;omega⟩,⟨by (with_reducible repeat (first|refine Cg ?_ _|refine Bl ?_|refine Ba ?_ _));exact BK257.o⟩,⟨by repeat (first|(with_reducible first|exact HB.o|apply Af|apply At|apply Bu|refine Aq ?_ GE257.o)|exact HB.o)⟩⟩
     .rw [if_neg c6] at H
      have c6b0:(((Ax l0 x6_1).f0)==db && (((Ax l0 x6_1).f1)==da))=false:=by simpa using c6
      (try (have c6b1:decide (((Ax l0 x6_1).f0)=db && (((Ax l0 x6_1).f1)==da))=false:=by simpa using c6))
      (try (have c6b2:(((Ax l0 x6_1).f0)==db && (((Ax l0 x6_1).f1)==da))=false:=by simpa using c6))
      (try (have c6b3:¬ (((Ax l0 x6_1).f0)=db && (((Ax l0 x6_1).f1)==da)):=by simpa using c6))
      clear c6
      have H':=Az.m H
      clear H
      have p258:0≤(x6_1:Int):=of_decide_eq_true Λ27
      have q258:x6_1<(l0.length:Int):=of_decide_eq_true Λ27
      obtain ⟨ad258,e258,hx258_0,hx258_1⟩:=Jy HR0.o x6_1 p258 q258
      cases e258
      replace hx258_0:=(HB.o.cell (World.block_lt_of_cell? w _ hx258_0)).trans hx258_0
      replace hx258_1:=(HB.o.cell (World.block_lt_of_cell? w _ hx258_1)).trans hx258_1
      replace p258:=eq_true p258
      replace q258:=eq_true q258
      obtain ⟨hcz8_0,hcz8_1⟩:=bc2 BK257.o
      have hfz8_0:=Ab BK257.o
      go_wp2
      repeat (go_quiet (fail);try go_wp2)
      go_roundg k1
      case measure=>have:=HK1.o;omega
      case rel=>exact ⟨(x5_1),(wrap64 (x6_1+1)),Λ46,Λ46,H',⟨by have:=HK1.o;omega⟩,⟨by (with_reducible repeat (first|refine Cg ?_ _|refine Bl ?_|refine Ba ?_ _));exact BK257.o⟩,⟨by repeat (first|(with_reducible first|exact HB.o|apply Af|apply At|apply Bu|refine Aq ?_ GE257.o)|exact HB.o)⟩⟩
    .rw [if_neg c5] at H
     exact absurd H Zs
   .rw [if_neg c4] at H
    have c4b0:decide (x6_1<(l0.length:Int))=false:=decide_eq_false c4
    clear c4
    obtain rfl:=Option.some.inj H
    go_wp2
    repeat (go_quiet (fail);try go_wp2)
    go_ret
    exact ⟨by first|rfl|(simp [errW_none,errW_some]<;>rfl)|(simp [*,errW_none,errW_some]<;>rfl),by repeat (first|(with_reducible first|exact HB.o|apply Af|apply At|apply Bu|refine Aq ?_ GE257.o)|exact HB.o)⟩
def jostleref13_Without.l0:Nat→List (S66)→List (S66)→Bool→Int→Int→Int→Option ((List (S66)))
 |0,_,_,_,_,_,_=>none
 |k+1,x0,x5,x6,x7,x260000,x260001=>if x7<(x0.length:Int) then (if 0≤x7 then (if (((Ax x0 x7).f0)==x260000 && (((Ax x0 x7).f1)==x260001))=true then (if x6=true then (if x5.length<17592186044416 then (jostleref13_Without.l0 k x0 (x5++[(⟨(Ax x0 x7).f0,(Ax x0 x7).f1⟩:S66)]) x6 (wrap64 (x7+1)) x260000 x260001) else (none)) else (jostleref13_Without.l0 k x0 x5 true (wrap64 (x7+1)) x260000 x260001)) else (if x5.length<17592186044416 then (jostleref13_Without.l0 k x0 (x5++[(⟨(Ax x0 x7).f0,(Ax x0 x7).f1⟩:S66)]) x6 (wrap64 (x7+1)) x260000 x260001) else (none))) else (none)) else (some x5)
def jostleref13_Without.f (k:Nat) (l0:List (S66)) (db da:Int):Option ((List (S66))):=jostleref13_Without.l0 k l0 ([]:List (S66)) false 0 db da
theorem jostleref13_Without.calls (k:Nat) (A0:Option Addr) (c0:Nat) (l0:List (S66)) (db da:Int) (r:List (S66)) (w:World) (hr0:Kd.C k66 w A0 l0.length l0) (hc0:l0.length≤c0) (h:jostleref13_Without.f k l0 db da=some r) :
  Calls Tryz.prog 23 #[.slice A0 l0.length c0,.agg #[.int .u32 db,.int .u32 da]] w fun e w'=>∃ v0_:Value,e=.returned (v0_)∧Kd.R k66 66 w' w.heap.size (fun _=>True) v0_ r∧Below w.heap.size w w':=by
 have hu66:=Tryz.underlying66
 have HR0:=Az.m hr0
 have HC0:=Az.m hc0
 clear hr0 hc0
 have HB:=Az.m (Below.refl w.heap.size w)
 have H:(jostleref13_Without.l0 k l0 ([]:List (S66)) false 0 db da)=some r:=h
 clear h
 have H':=Az.m H
 clear H
 go_enter Tryz.func23,Tryz.ntmps23
 go_wp2_with (first|((with_reducible refine Al (N:=3) rfl ?_);refine Am ?hg (N:=3) ?hd (cs:=#[.int .u32 db,.int .u32 da]) (t:=66) ?hr ?_;(case hd=>rfl);(case hg=>rfl);(case hr=>exact Λ18);intro gb259 hg w3 hbox hb;have n0_:=Az.m (Ag Λ134 hb);have n1_:=Az.m (hbox);have n2_:=Az.m ((by rw [hg];exact (Bz Λ134):w.heap.size≤gb259));have n3_:=Az.m ((by rw [hg];exact (Bz Λ134):w.heap.size≤gb259));clear HB;have HB:=n0_;have BK259:=n1_;have GW259:=n2_;have GE259:=n3_;clear n0_ n1_ n2_ n3_;clear hb hbox hg))
 go_loopg [5,6,7] k (fun kq v5 v6 v7 w'=>∃ (x5_1:List (S66)) (x6_1:Bool) (x7_1:Int),v6=.bool x6_1∧v7=Φ x7_1∧Az (jostleref13_Without.l0 kq l0 x5_1 x6_1 x7_1 db da=some r)∧Az (kq≤k)∧Az (Kd.R k66 66 w' w.heap.size (fun k_=>k_≠gb259) v5 x5_1)∧Az (w'.heap[gb259]?=some (.cells #[.int .u32 db,.int .u32 da] 66 (0,0)))∧Az (Below w.heap.size w w'))
 case atStart=>exact ⟨(([]:List (S66))),(false),(0),Λ46,Λ46,H',⟨Nat.le_refl _⟩,⟨by first|exact Kd.R_nil _ _ _ _ _|exact Kd.N_nil _ _ _ _ _|exact Kd.V_nil _ _ _ _ _|exact Kd.Q_nil _ _ _ _ _|exact Kd.S_nil _ _ _ _ _⟩,⟨by (with_reducible repeat (first|refine Cg ?_ _|refine Bl ?_|refine Ba ?_ _));exact BK259.o⟩,⟨by repeat (first|(with_reducible first|exact HB.o|apply Af|apply At|apply Bu|refine Aq ?_ GE259.o)|exact HB.o)⟩⟩
 case round=>
  clear H'
  try clear c2
  try clear p2
  obtain ⟨x5_1,x6_1,x7_1,rfl,rfl,HA,HK1,HO_5,BK259,HB⟩:=hrel
  cases gk with
  |zero=>exact absurd HA.o (by simp [jostleref13_Without.l0])
  |succ k1=>
   have H:=HA.o
   clear HA
   simp only [jostleref13_Without.l0] at H
   by_cases c4:x7_1<(l0.length:Int)
   .rw [if_pos c4] at H
    have c4b0:decide (x7_1<(l0.length:Int))=true:=decide_eq_true c4
    clear c4
    by_cases c5:0≤x7_1
    .rw [if_pos c5] at H
     have c5b0:decide (0≤x7_1)=true:=decide_eq_true c5
     clear c5
     by_cases c6:(((Ax l0 x7_1).f0)==db && (((Ax l0 x7_1).f1)==da))=true
     .rw [if_pos c6] at H
      have c6b0:(((Ax l0 x7_1).f0)==db && (((Ax l0 x7_1).f1)==da))=true:=c6
      (try (have c6b1:decide (((Ax l0 x7_1).f0)=db && (((Ax l0 x7_1).f1)==da))=true:=by simpa using c6))
      (try (have c6b2:(((Ax l0 x7_1).f0)==db && (((Ax l0 x7_1).f1)==da))=true:=by simpa using c6))
      clear c6
      by_cases c7:x6_1=true
      .subst c7
       have H1:(if x5_1.length<17592186044416 then (jostleref13_Without.l0 k1 l0 (x5_1++[(⟨(Ax l0 x7_1).f0,(Ax l0 x7_1).f1⟩:S66)]) true (wrap64 (x7_1+1)) db da) else (none))=some r:=by rw [if_pos rfl] at H;exact H
       clear H
       have H:=H1
       clear H1
       by_cases c8:x5_1.length<17592186044416
       .rw [if_pos c8] at H
        have LMc8:=Az.m c8
        clear c8
        obtain ⟨y262,hy262⟩:∃ y_:List (S66),y_=(x5_1++[(⟨(Ax l0 x7_1).f0,(Ax l0 x7_1).f1⟩:S66)]):=⟨_,rfl⟩
        replace H:(jostleref13_Without.l0 k1 l0 y262 true (wrap64 (x7_1+1)) db da)=some r:=by first|(rw [hy262];with_reducible exact H)|(have H2_:=(Option.bind_some _ _).symm.trans H;rw [hy262];with_reducible exact H2_)|(have H2_:=(Option.bind_some _ _).symm.trans H;with_reducible exact H2_)|with_reducible exact H|(rw [hy262];exact H)|exact H
        have Ny262:=Az.m hy262
        clear hy262
        have H':=Az.m H
        clear H
        have p260:0≤(x7_1:Int):=of_decide_eq_true Λ27
        have q260:x7_1<(l0.length:Int):=of_decide_eq_true Λ27
        obtain ⟨ad260,e260,hx260_0,hx260_1⟩:=Jy HR0.o x7_1 p260 q260
        cases e260
        replace hx260_0:=(HB.o.cell (World.block_lt_of_cell? w _ hx260_0)).trans hx260_0
        replace hx260_1:=(HB.o.cell (World.block_lt_of_cell? w _ hx260_1)).trans hx260_1
        replace p260:=eq_true p260
        replace q260:=eq_true q260
        obtain ⟨hcz9_0,hcz9_1⟩:=bc2 BK259.o
        have hfz9_0:=Ab BK259.o
        have p261:0≤(x7_1:Int):=of_decide_eq_true Λ27
        have q261:x7_1<(l0.length:Int):=of_decide_eq_true Λ27
        obtain ⟨ad261,e261,hx261_0,hx261_1⟩:=Jy HR0.o x7_1 p261 q261
        obtain rfl:ad260=ad261:=(by injection e261)
        replace hx261_0:=(HB.o.cell (World.block_lt_of_cell? w _ hx261_0)).trans hx261_0
        replace hx261_1:=(HB.o.cell (World.block_lt_of_cell? w _ hx261_1)).trans hx261_1
        replace p261:=eq_true p261
        replace q261:=eq_true q261
        go_wp2_with (first|((with_reducible refine Gt (b:=.append) (xs:=#[.tmp 24,.tmp 29]) rfl ?_);at_builtin;refine Kd.R_append k66 (w0:=w) w.heap.size rfl (.tmp 24) (.tmp 29) 43 66 (.agg #[(.int .u32 0),(.int .u32 0)]) 8 rfl Tryz.underlying43 Kt rfl Zd Zo u5 x5_1 (⟨(Ax l0 x7_1).f0,(Ax l0 x7_1).f1⟩:S66) [.int .u32 ((Ax l0 x7_1).f0),.int .u32 ((Ax l0 x7_1).f1)] (fun k_=>k_≠gb259) (fun _=>False) rfl rfl ?aP (fun _ hk=>hk.elim) ?aF ?aO ?aB ?aS ?aL ?_;(case aP=>exact Je _ _ _ (⟨(Ax l0 x7_1).f0,(Ax l0 x7_1).f1⟩:S66));(case aB=>exact Λ133);(case aF=>exact (fun k_ hk=>Kd.freshB (g:=gb259) (o:=.cells #[.int .u32 db,.int .u32 da] 66 (0,0)) Λ14 k_ hk));(case aO=>exact Λ12);(case aS=>exact (Bz Λ133));(case aL=>have:=LMc8.o;omega);intro v263 w10 ho hb hg hat;rw [← Ny262.o] at ho;have n0_:=Az.m (Ed (g:=gb259) (o:=.cells #[.int .u32 db,.int .u32 da] 66 (0,0)) Λ14 hg (Kd.R_away HO_5.o (fun _ hk=>hk)));have n1_:=Az.m (hb);have n2_:=Az.m (ho);clear BK259;clear HB;clear HO_5;have BK259:=n0_;have HB:=n1_;have HO264:=n2_;clear n0_ n1_ n2_;clear ho hb hg hat))
        repeat (go_quiet (first|((with_reducible refine Gt (b:=.append) (xs:=#[.tmp 24,.tmp 29]) rfl ?_);at_builtin;refine Kd.R_append k66 (w0:=w) w.heap.size rfl (.tmp 24) (.tmp 29) 43 66 (.agg #[(.int .u32 0),(.int .u32 0)]) 8 rfl Tryz.underlying43 Kt rfl Zd Zo u5 x5_1 (⟨(Ax l0 x7_1).f0,(Ax l0 x7_1).f1⟩:S66) [.int .u32 ((Ax l0 x7_1).f0),.int .u32 ((Ax l0 x7_1).f1)] (fun k_=>k_≠gb259) (fun _=>False) rfl rfl ?aP (fun _ hk=>hk.elim) ?aF ?aO ?aB ?aS ?aL ?_;(case aP=>exact Je _ _ _ (⟨(Ax l0 x7_1).f0,(Ax l0 x7_1).f1⟩:S66));(case aB=>exact Λ133);(case aF=>exact (fun k_ hk=>Kd.freshB (g:=gb259) (o:=.cells #[.int .u32 db,.int .u32 da] 66 (0,0)) Λ14 k_ hk));(case aO=>exact Λ12);(case aS=>exact (Bz Λ133));(case aL=>have:=LMc8.o;omega);intro v263 w10 ho hb hg hat;rw [← Ny262.o] at ho;have n0_:=Az.m (Ed (g:=gb259) (o:=.cells #[.int .u32 db,.int .u32 da] 66 (0,0)) Λ14 hg (Kd.R_away HO_5.o (fun _ hk=>hk)));have n1_:=Az.m (hb);have n2_:=Az.m (ho);clear BK259;clear HB;clear HO_5;have BK259:=n0_;have HB:=n1_;have HO264:=n2_;clear n0_ n1_ n2_;clear ho hb hg hat));try go_wp2_with (first|((with_reducible refine Gt (b:=.append) (xs:=#[.tmp 24,.tmp 29]) rfl ?_);at_builtin;refine Kd.R_append k66 (w0:=w) w.heap.size rfl (.tmp 24) (.tmp 29) 43 66 (.agg #[(.int .u32 0),(.int .u32 0)]) 8 rfl Tryz.underlying43 Kt rfl Zd Zo u5 x5_1 (⟨(Ax l0 x7_1).f0,(Ax l0 x7_1).f1⟩:S66) [.int .u32 ((Ax l0 x7_1).f0),.int .u32 ((Ax l0 x7_1).f1)] (fun k_=>k_≠gb259) (fun _=>False) rfl rfl ?aP (fun _ hk=>hk.elim) ?aF ?aO ?aB ?aS ?aL ?_;(case aP=>exact Je _ _ _ (⟨(Ax l0 x7_1).f0,(Ax l0 x7_1).f1⟩:S66));(case aB=>exact Λ133);(case aF=>exact (fun k_ hk=>Kd.freshB (g:=gb259) (o:=.cells #[.int .u32 db,.int .u32 da] 66 (0,0)) Λ14 k_ hk));(case aO=>exact Λ12);(case aS=>exact (Bz Λ133));(case aL=>have:=LMc8.o;omega);intro v263 w10 ho hb hg hat;rw [← Ny262.o] at ho;have n0_:=Az.m (Ed (g:=gb259) (o:=.cells #[.int .u32 db,.int .u32 da] 66 (0,0)) Λ14 hg (Kd.R_away HO_5.o (fun _ hk=>hk)));have n1_:=Az.m (hb);have n2_:=Az.m (ho);clear BK259;clear HB;clear HO_5;have BK259:=n0_;have HB:=n1_;have HO264:=n2_;clear n0_ n1_ n2_;clear ho hb hg hat)))
        go_roundg k1
        case measure=>have:=HK1.o;omega
        case rel=>exact ⟨(y262),(true),(wrap64 (x7_1+1)),Λ46,Λ46,H',⟨by have:=HK1.o;omega⟩,⟨by (with_reducible repeat (first|apply Kd.R_alloc|apply Kd.R_drewN|apply Kd.R_drew));exact HO264.o⟩,⟨by (with_reducible repeat (first|refine Cg ?_ _|refine Bl ?_|refine Ba ?_ _));exact BK259.o⟩,⟨by repeat (first|(with_reducible first|exact HB.o|apply Af|apply At|apply Bu|refine Aq ?_ GE259.o)|exact HB.o)⟩⟩
       .rw [if_neg c8] at H
        exact absurd H Zs
      .replace c7:=Bool.eq_false_iff.mpr c7
       subst c7
       have H1:(jostleref13_Without.l0 k1 l0 x5_1 true (wrap64 (x7_1+1)) db da)=some r:=by rw [if_neg (show ¬ (false=true) by decide)] at H;exact H
       clear H
       have H:=H1
       clear H1
       have H':=Az.m H
       clear H
       have p260:0≤(x7_1:Int):=of_decide_eq_true Λ27
       have q260:x7_1<(l0.length:Int):=of_decide_eq_true Λ27
       obtain ⟨ad260,e260,hx260_0,hx260_1⟩:=Jy HR0.o x7_1 p260 q260
       cases e260
       replace hx260_0:=(HB.o.cell (World.block_lt_of_cell? w _ hx260_0)).trans hx260_0
       replace hx260_1:=(HB.o.cell (World.block_lt_of_cell? w _ hx260_1)).trans hx260_1
       replace p260:=eq_true p260
       replace q260:=eq_true q260
       obtain ⟨hcz11_0,hcz11_1⟩:=bc2 BK259.o
       have hfz11_0:=Ab BK259.o
       go_wp2
       repeat (go_quiet (fail);try go_wp2)
       go_roundg k1
       case measure=>have:=HK1.o;omega
       case rel=>exact ⟨(x5_1),(true),(wrap64 (x7_1+1)),Λ46,Λ46,H',⟨by have:=HK1.o;omega⟩,⟨by (with_reducible repeat (first|apply Kd.R_alloc|apply Kd.R_drewN|apply Kd.R_drew));exact HO_5.o⟩,⟨by (with_reducible repeat (first|refine Cg ?_ _|refine Bl ?_|refine Ba ?_ _));exact BK259.o⟩,⟨by repeat (first|(with_reducible first|exact HB.o|apply Af|apply At|apply Bu|refine Aq ?_ GE259.o)|exact HB.o)⟩⟩
     .rw [if_neg c6] at H
      have c6b0:(((Ax l0 x7_1).f0)==db && (((Ax l0 x7_1).f1)==da))=false:=by simpa using c6
      (try (have c6b1:decide (((Ax l0 x7_1).f0)=db && (((Ax l0 x7_1).f1)==da))=false:=by simpa using c6))
      (try (have c6b2:(((Ax l0 x7_1).f0)==db && (((Ax l0 x7_1).f1)==da))=false:=by simpa using c6))
      (try (have c6b3:¬ (((Ax l0 x7_1).f0)=db && (((Ax l0 x7_1).f1)==da)):=by simpa using c6))
      clear c6
      by_cases c12:x5_1.length<17592186044416
      .rw [if_pos c12] at H
       have LMc12:=Az.m c12
       clear c12
       obtain ⟨y266,hy266⟩:∃ y_:List (S66),y_=(x5_1++[(⟨(Ax l0 x7_1).f0,(Ax l0 x7_1).f1⟩:S66)]):=⟨_,rfl⟩
       replace H:(jostleref13_Without.l0 k1 l0 y266 x6_1 (wrap64 (x7_1+1)) db da)=some r:=by first|(rw [hy266];with_reducible exact H)|(have H2_:=(Option.bind_some _ _).symm.trans H;rw [hy266];with_reducible exact H2_)|(have H2_:=(Option.bind_some _ _).symm.trans H;with_reducible exact H2_)|with_reducible exact H|(rw [hy266];exact H)|exact H
       have Ny266:=Az.m hy266
       clear hy266
       have H':=Az.m H
       clear H
       have p260:0≤(x7_1:Int):=of_decide_eq_true Λ27
       have q260:x7_1<(l0.length:Int):=of_decide_eq_true Λ27
       obtain ⟨ad260,e260,hx260_0,hx260_1⟩:=Jy HR0.o x7_1 p260 q260
       cases e260
       replace hx260_0:=(HB.o.cell (World.block_lt_of_cell? w _ hx260_0)).trans hx260_0
       replace hx260_1:=(HB.o.cell (World.block_lt_of_cell? w _ hx260_1)).trans hx260_1
       replace p260:=eq_true p260
       replace q260:=eq_true q260
       obtain ⟨hcz13_0,hcz13_1⟩:=bc2 BK259.o
       have hfz13_0:=Ab BK259.o
       have p265:0≤(x7_1:Int):=of_decide_eq_true Λ27
       have q265:x7_1<(l0.length:Int):=of_decide_eq_true Λ27
       obtain ⟨ad265,e265,hx265_0,hx265_1⟩:=Jy HR0.o x7_1 p265 q265
       obtain rfl:ad260=ad265:=(by injection e265)
       replace hx265_0:=(HB.o.cell (World.block_lt_of_cell? w _ hx265_0)).trans hx265_0
       replace hx265_1:=(HB.o.cell (World.block_lt_of_cell? w _ hx265_1)).trans hx265_1
       replace p265:=eq_true p265
       replace q265:=eq_true q265
       go_wp2_with (first|((with_reducible refine Gt (b:=.append) (xs:=#[.tmp 24,.tmp 29]) rfl ?_);at_builtin;refine Kd.R_append k66 (w0:=w) w.heap.size rfl (.tmp 24) (.tmp 29) 43 66 (.agg #[(.int .u32 0),(.int .u32 0)]) 8 rfl Tryz.underlying43 Kt rfl Zd Zo u5 x5_1 (⟨(Ax l0 x7_1).f0,(Ax l0 x7_1).f1⟩:S66) [.int .u32 ((Ax l0 x7_1).f0),.int .u32 ((Ax l0 x7_1).f1)] (fun k_=>k_≠gb259) (fun _=>False) rfl rfl ?aP (fun _ hk=>hk.elim) ?aF ?aO ?aB ?aS ?aL ?_;(case aP=>exact Je _ _ _ (⟨(Ax l0 x7_1).f0,(Ax l0 x7_1).f1⟩:S66));(case aB=>exact Λ133);(case aF=>exact (fun k_ hk=>Kd.freshB (g:=gb259) (o:=.cells #[.int .u32 db,.int .u32 da] 66 (0,0)) Λ14 k_ hk));(case aO=>exact Λ12);(case aS=>exact (Bz Λ133));(case aL=>have:=LMc12.o;omega);intro v267 w14 ho hb hg hat;rw [← Ny266.o] at ho;have n0_:=Az.m (Ed (g:=gb259) (o:=.cells #[.int .u32 db,.int .u32 da] 66 (0,0)) Λ14 hg (Kd.R_away HO_5.o (fun _ hk=>hk)));have n1_:=Az.m (hb);have n2_:=Az.m (ho);clear BK259;clear HB;clear HO_5;have BK259:=n0_;have HB:=n1_;have HO268:=n2_;clear n0_ n1_ n2_;clear ho hb hg hat))
       repeat (go_quiet (first|((with_reducible refine Gt (b:=.append) (xs:=#[.tmp 24,.tmp 29]) rfl ?_);at_builtin;refine Kd.R_append k66 (w0:=w) w.heap.size rfl (.tmp 24) (.tmp 29) 43 66 (.agg #[(.int .u32 0),(.int .u32 0)]) 8 rfl Tryz.underlying43 Kt rfl Zd Zo u5 x5_1 (⟨(Ax l0 x7_1).f0,(Ax l0 x7_1).f1⟩:S66) [.int .u32 ((Ax l0 x7_1).f0),.int .u32 ((Ax l0 x7_1).f1)] (fun k_=>k_≠gb259) (fun _=>False) rfl rfl ?aP (fun _ hk=>hk.elim) ?aF ?aO ?aB ?aS ?aL ?_;(case aP=>exact Je _ _ _ (⟨(Ax l0 x7_1).f0,(Ax l0 x7_1).f1⟩:S66));(case aB=>exact Λ133);(case aF=>exact (fun k_ hk=>Kd.freshB (g:=gb259) (o:=.cells #[.int .u32 db,.int .u32 da] 66 (0,0)) Λ14 k_ hk));(case aO=>exact Λ12);(case aS=>exact (Bz Λ133));(case aL=>have:=LMc12.o;omega);intro v267 w14 ho hb hg hat;rw [← Ny266.o] at ho;have n0_:=Az.m (Ed (g:=gb259) (o:=.cells #[.int .u32 db,.int .u32 da] 66 (0,0)) Λ14 hg (Kd.R_away HO_5.o (fun _ hk=>hk)));have n1_:=Az.m (hb);have n2_:=Az.m (ho);clear BK259;clear HB;clear HO_5;have BK259:=n0_;have HB:=n1_;have HO268:=n2_;clear n0_ n1_ n2_;clear ho hb hg hat));try go_wp2_with (first|((with_reducible refine Gt (b:=.append) (xs:=#[.tmp 24,.tmp 29]) rfl ?_);at_builtin;refine Kd.R_append k66 (w0:=w) w.heap.size rfl (.tmp 24) (.tmp 29) 43 66 (.agg #[(.int .u32 0),(.int .u32 0)]) 8 rfl Tryz.underlying43 Kt rfl Zd Zo u5 x5_1 (⟨(Ax l0 x7_1).f0,(Ax l0 x7_1).f1⟩:S66) [.int .u32 ((Ax l0 x7_1).f0),.int .u32 ((Ax l0 x7_1).f1)] (fun k_=>k_≠gb259) (fun _=>False) rfl rfl ?aP (fun _ hk=>hk.elim) ?aF ?aO ?aB ?aS ?aL ?_;(case aP=>exact Je _ _ _ (⟨(Ax l0 x7_1).f0,(Ax l0 x7_1).f1⟩:S66));(case aB=>exact Λ133);(case aF=>exact (fun k_ hk=>Kd.freshB (g:=gb259) (o:=.cells #[.int .u32 db,.int .u32 da] 66 (0,0)) Λ14 k_ hk));(case aO=>exact Λ12);(case aS=>exact (Bz Λ133));(case aL=>have:=LMc12.o;omega);intro v267 w14 ho hb hg hat;rw [← Ny266.o] at ho;have n0_:=Az.m (Ed (g:=gb259) (o:=.cells #[.int .u32 db,.int .u32 da] 66 (0,0)) Λ14 hg (Kd.R_away HO_5.o (fun _ hk=>hk)));have n1_:=Az.m (hb);have n2_:=Az.m (ho);clear BK259;clear HB;clear HO_5;have BK259:=n0_;have HB:=n1_;have HO268:=n2_;clear n0_ n1_ n2_;clear ho hb hg hat)))
       go_roundg k1
       case measure=>have:=HK1.o;omega
       case rel=>exact ⟨(y266),(x6_1),(wrap64 (x7_1+1)),Λ46,Λ46,H',⟨by have:=HK1.o;omega⟩,⟨by (with_reducible repeat (first|apply Kd.R_alloc|apply Kd.R_drewN|apply Kd.R_drew));exact HO268.o⟩,⟨by (with_reducible repeat (first|refine Cg ?_ _|refine Bl ?_|refine Ba ?_ _));exact BK259.o⟩,⟨by repeat (first|(with_reducible first|exact HB.o|apply Af|apply At|apply Bu|refine Aq ?_ GE259.o)|exact HB.o)⟩⟩
      .rw [if_neg c12] at H
       exact absurd H Zs
    .rw [if_neg c5] at H
     exact absurd H Zs
   .rw [if_neg c4] at H
    have c4b0:decide (x7_1<(l0.length:Int))=false:=decide_eq_false c4
    clear c4
    obtain rfl:=Option.some.inj H
    go_wp2
    repeat (go_quiet (fail);try go_wp2)
    go_ret
    exact ⟨_,by first|rfl|(simp [errW_none,errW_some]<;>rfl)|(simp [*,errW_none,errW_some]<;>rfl),by (with_reducible repeat (first|apply Kd.R_alloc|apply Kd.R_drewN|apply Kd.R_drew));exact Kd.R_mono HO_5.o (fun _ hk=>trivial),by repeat (first|(with_reducible first|exact HB.o|apply Af|apply At|apply Bu|refine Aq ?_ GE259.o)|exact HB.o)⟩
def jostleref13_Do.j0:Nat→List (S66)→Bool→Int→Int→Int→Int→Int→Option ((List (S66))×Bool)
 |0,_,_,_,_,_,_,_=>none
 |k+1,x0,x59,x270000,x270001,x270002,x273000,x273001=>if x59=true then (some (x0,false)) else (if x270000=1 then ((jostleref13_Without.f k x0 x273000 x273001).bind fun t285=>(some (t285,true))) else (some (x0,true)))
def jostleref13_Do.f (k:Nat) (l0:List (S66)) (db da dc dd de df:Int):Option ((List (S66))×Bool):=(jostleref12_Fits.f db da dc dd de df).bind fun t271=>(if t271=true then ((jostleref13_Least.f k l0).bind fun bt273=>(if dd=0 then (if ([]:List (S66)).length+l0.length<17592186044416 then ((some (([]:List (S66))++l0:List (S66))).bind fun y275=>((some (([(⟨da,dc⟩:S66)]:List (S66)):List (S66))).bind fun y278=>(if y275.length+y278.length<17592186044416 then (some ((y275++y278),true)) else (none)))) else (none)) else (if dd=1 then (some (l0,true)) else (if dd=3 then (some (l0,!bt273.2)) else ((jostleref13_Count.f k l0 de df).bind fun t284=>(if t284=0 then (jostleref13_Do.j0 k l0 true db da dc de df) else (jostleref13_Do.j0 k l0 (de != bt273.1) db da dc de df))))))) else (some (l0,false)))
theorem wE {P0_:Nat→Prop} {v:Value} {l:List S66} {w0 w w':World} {e:Ending} {r2:Bool} (hB:Below w0.heap.size w0 w) (ho0:Kd.R k66 66 w w0.heap.size P0_ v l) (he:e=.returned (.tuple #[v,.bool r2])) (hF:Below w.heap.size w w'):∃ v0_:Value,e=.returned (.tuple #[v0_,.bool r2])∧Kd.R k66 66 w' w0.heap.size (fun k_=>(P0_ k_∨w.heap.size≤k_)) v0_ l∧Below w0.heap.size w0 w'∧Kept w w' (fun k_=>P0_ k_):=⟨v,he,Kd.R_mono (Kd.R_below ho0 hF) (fun _=>Or.inl),Mb hB hB.size hF,Kept.below (Kept.refl _ _) hF⟩
theorem uV {P0_:Nat→Prop} {v:Value} {l:List S66} {w0 w w' W:World} {e:Ending} {r2:Bool} (hB:Below w0.heap.size w0 w) (hR:Kd.R k66 66 w' W.heap.size (fun _=>True) v l) (hs:w.heap.size≤W.heap.size) (he:e=.returned (.tuple #[v,.bool r2])) (hF:Below w.heap.size w w'):∃ v0_:Value,e=.returned (.tuple #[v0_,.bool r2])∧Kd.R k66 66 w' w0.heap.size (fun k_=>(P0_ k_∨w.heap.size≤k_)) v0_ l∧Below w0.heap.size w0 w'∧Kept w w' (fun k_=>P0_ k_):=⟨v,he,Kd.R_mono (Kd.R_lower (Kd.R_newM (M:=fun k_=>(P0_ k_∨w.heap.size≤k_)) hR hs (fun _ h_=>.inr h_)) (Nat.le_trans hB.size hs)) (fun _ h_=>h_.1),Mb hB hB.size hF,Kept.below (Kept.refl _ _) hF⟩
namespace Y11
theorem HL {p:Prop} (h:p:=by exact (Kd.R_reads' (Kd.R_below ho0 FB)).2.2):p:=h
theorem HM {p:Prop} (h:p:=by exact (Kd.R_reads' ho0).2.1):p:=h
theorem KD {p:Prop} (h:p:=by first|(go_at_call 20;with_reducible exact jostleref12_Fits.calls _ _ _ _ _ _ _ _ Za)|(go_at_call 21;with_reducible exact jostleref13_Least.calls _ _ _ _ _ _ _ HL HM Za)|(go_at_call 22;with_reducible exact jostleref13_Count.calls _ _ _ _ _ _ _ _ HL HM Za)|(go_at_call 23;with_reducible exact jostleref13_Without.calls _ _ _ _ _ _ _ _ HL HM Za)):p:=h
theorem ED {p:Prop} (h:p:=by go_ret2;first|exact wE hB ho0 VAL FB|exact uV hB hR SZ VAL FB):p:=h
theorem FG {p:Prop} (h:p:=by go_wp2_with (first|((with_reducible refine iJ ?_);go_must ((with_reducible apply Calls.mono);(case h=>exact KD);first|rintro e w2 ⟨rfl,⟨nd,rfl⟩⟩|((first|(have:=w9;clear this;first|rintro e w2 ⟨rfl,hb⟩|rintro e w2 ⟨v9,rfl,hR,hb⟩)|rintro e w9 ⟨rfl,hb⟩);have hs:=Bz hb;(try simp only [World.size_alloc,World.size_drew,World.size_setCell,Gi] at hs);(try have c0:=fun i=>hb.cell (p:=(Ψ w.heap.size i)) SZ);(try have d0:=fun i=>hb.frozen (p:=(Ψ w.heap.size i)) SZ);(try have c1:=fun i=>hb.cell (p:=(Ψ (w.heap.size+1) i)) SZ);(try have d1:=fun i=>hb.frozen (p:=(Ψ (w.heap.size+1) i)) SZ);(try have c2:=fun i=>hb.cell (p:=(Ψ w9.heap.size i)) SZ);(try have d2:=fun i=>hb.frozen (p:=(Ψ w9.heap.size i)) SZ);(try have n0:=(And.intro (eq_true (show w.heap.size<w9.heap.size from SZ)) (And.intro (eq_false (show ¬ w.heap.size=w9.heap.size from SZ)) (And.intro (eq_false (show ¬ w9.heap.size=w.heap.size from SZ)) (eq_false (show ¬ w9.heap.size<w.heap.size from SZ))))));(try have n1:=(And.intro (eq_true (show w.heap.size+1<w9.heap.size from SZ)) (And.intro (eq_false (show ¬ w.heap.size+1=w9.heap.size from SZ)) (And.intro (eq_false (show ¬ w9.heap.size=w.heap.size+1 from SZ)) (eq_false (show ¬ w9.heap.size<w.heap.size+1 from SZ))))));(try have n2:=(And.intro (eq_true (show w.heap.size<w2.heap.size from SZ)) (And.intro (eq_false (show ¬ w.heap.size=w2.heap.size from SZ)) (And.intro (eq_false (show ¬ w2.heap.size=w.heap.size from SZ)) (eq_false (show ¬ w2.heap.size<w.heap.size from SZ))))));(try have n3:=(And.intro (eq_true (show w.heap.size+1<w2.heap.size from SZ)) (And.intro (eq_false (show ¬ w.heap.size+1=w2.heap.size from SZ)) (And.intro (eq_false (show ¬ w2.heap.size=w.heap.size+1 from SZ)) (eq_false (show ¬ w2.heap.size<w.heap.size+1 from SZ))))));(try have n4:=(And.intro (eq_true (show w9.heap.size<w2.heap.size from SZ)) (And.intro (eq_false (show ¬ w9.heap.size=w2.heap.size from SZ)) (And.intro (eq_false (show ¬ w2.heap.size=w9.heap.size from SZ)) (eq_false (show ¬ w2.heap.size<w9.heap.size from SZ))))))))));all_goals (repeat (go_quiet (fail);try go_wp2));all_goals exact ED):p:=h
end Y11
open Y11 in
theorem Rg (k:Nat) (P0_:Nat→Prop) (u9000_:Value) (l0:List (S66)) (db da dc dd de df:Int) (r1:List (S66)) (r2:Bool) (w0 w:World) (hB:Below w0.heap.size w0 w) (ho0:Kd.R k66 66 w w0.heap.size P0_ u9000_ l0) (h:jostleref13_Do.f k l0 db da dc dd de df=some (r1,r2)) (hx:¬ (dd=0∧jostleref12_Fits.f db da dc dd de df=some true)) :
  Calls Tryz.prog 11 #[u9000_,.agg #[Φ db,.int .u32 da,.int .u32 dc],.agg #[Φ dd,.int .u32 de,.int .u32 df]] w fun e w'=>∃ v0_:Value,e=.returned (.tuple #[v0_,.bool r2])∧Kd.R k66 66 w' w0.heap.size (fun k_=>(P0_ k_∨w.heap.size≤k_)) v0_ r1∧Below w0.heap.size w0 w'∧Kept w w' (fun k_=>P0_ k_):=by
 obtain ⟨A,c,rfl⟩:=Kd.R_slice ho0
 unfold jostleref13_Do.f at h
 rw [Option.bind_eq_some_iff] at h
 obtain ⟨t,hf,h⟩:=h
 by_cases ht:t=true
 .subst ht
  rw [if_pos rfl,Option.bind_eq_some_iff] at h
  obtain ⟨⟨t1,t2⟩,hl,h⟩:=h
  have h0:¬ dd=0:=fun e=>hx ⟨e,hf⟩
  have q0:=eG h0
  rw [if_neg h0] at h
  clear hx h0
  by_cases h1:dd=1
  .rw [if_pos h1] at h;have q1:=eH h1;clear h1;cases h
   go_enter Tryz.func11,Tryz.ntmps11
   exact FG
  rw [if_neg h1] at h;have q1:=eG h1;clear h1
  by_cases h3:dd=3
  .rw [if_pos h3] at h;have q3:=eH h3;clear h3;cases h
   go_enter Tryz.func11,Tryz.ntmps11
   exact FG
  rw [if_neg h3,Option.bind_eq_some_iff] at h;have q3:=eG h3;clear h3
  obtain ⟨n,hn,h⟩:=h
  have hj:jostleref13_Do.j0 k l0 (if n=0 then true else (de != t1)) db da dc de df=some (r1,r2):=by
   split at h<;>rename_i e
   .rw [if_pos e];exact h
   .rw [if_neg e];exact h
  clear h
  rcases k with _|k
  .cases hj
  simp only [jostleref13_Do.j0] at hj
  by_cases hz:n=0
  .have q4:=eH hz;rw [if_pos hz,if_pos rfl] at hj;clear hz;cases hj
   go_enter Tryz.func11,Tryz.ntmps11
   exact FG
  have q4:=eG hz;rw [if_neg hz] at hj;clear hz
  by_cases hy:de=t1
  .have q5:=eH hy;rw [q5.2,if_neg Zd] at hj;clear hy
   by_cases ho:db=1
   .rw [if_pos ho,Option.bind_eq_some_iff] at hj;have q6:=eH ho;clear ho
    obtain ⟨_,_,hj⟩:=hj
    cases hj
    go_enter Tryz.func11,Tryz.ntmps11
    exact FG
   rw [if_neg ho] at hj;have q6:=eG ho;clear ho;cases hj
   go_enter Tryz.func11,Tryz.ntmps11
   exact FG
  .have q5:=eG hy;rw [q5.2,if_pos rfl] at hj;clear hy;cases hj
   go_enter Tryz.func11,Tryz.ntmps11
   exact FG
 .have e:=f_b ht
  subst e
  rw [if_neg Zd] at h
  cases h
  go_enter Tryz.func11,Tryz.ntmps11
  exact FG
theorem OI {p:Prop} (h:p:=by simp only [List.getElem?_toArray,List.getElem?_cons_succ,List.getElem?_cons_zero];rfl):p:=h
theorem kO {W:World} {g:Nat} {o:Obj} {v1:Value} (hb:W.heap[g]?=some o) (h:v1.ownBlock=(Value.slice none 0 0).ownBlock∨∃ b,v1.ownBlock=some b∧W.heap.size≤b):some g≠v1.ownBlock:=by
 intro e
 rcases h with h|⟨b,h,hl⟩
 .rw [h] at e;simp [Value.ownBlock] at e
 .rw [h] at e;cases e;have:=Bb hb;omega
theorem tH {P:Program} {id:Nat} {ops:Array Oper} {Q:Exit→Act→World→Prop} {a:Act} {w:World} (h:∀ W,W=w→(Code.region id ops true).wp P Q a W):(Code.region id ops true).wp P Q a w:=h w rfl
theorem uU {P0_:Nat→Prop} {v:Value} {l:List S66} {w0 w w':World} {e:Ending} {r2:Bool} (hB:Below w0.heap.size w0 w) (hR:Kd.R k66 66 w' w.heap.size (fun k_=>w.heap.size≤k_) v l) (he:e=.returned (.tuple #[v,.bool r2])) (hF:Below w.heap.size w w'):∃ v0_:Value,e=.returned (.tuple #[v0_,.bool r2])∧Kd.R k66 66 w' w0.heap.size (fun k_=>(P0_ k_∨w.heap.size≤k_)) v0_ l∧Below w0.heap.size w0 w'∧Kept w w' (fun k_=>P0_ k_):=⟨v,he,Kd.R_mono (Kd.R_lower hR hB.size) (fun _=>Or.inr),Mb hB hB.size hF,Kept.below (Kept.refl _ _) hF⟩
open Y11 in
theorem Rh (k:Nat) (P0_:Nat→Prop) (u9000_:Value) (l0:List (S66)) (db da dc dd de df:Int) (r1:List (S66)) (r2:Bool) (w0 w:World) (hB:Below w0.heap.size w0 w) (ho0:Kd.R k66 66 w w0.heap.size P0_ u9000_ l0) (h:jostleref13_Do.f k l0 db da dc dd de df=some (r1,r2)) (hx:dd=0∧jostleref12_Fits.f db da dc dd de df=some true) :
  Calls Tryz.prog 11 #[u9000_,.agg #[Φ db,.int .u32 da,.int .u32 dc],.agg #[Φ dd,.int .u32 de,.int .u32 df]] w fun e w'=>∃ v0_:Value,e=.returned (.tuple #[v0_,.bool r2])∧Kd.R k66 66 w' w0.heap.size (fun k_=>(P0_ k_∨w.heap.size≤k_)) v0_ r1∧Below w0.heap.size w0 w'∧Kept w w' (fun k_=>P0_ k_):=by
 obtain ⟨A,c,rfl⟩:=Kd.R_slice ho0
 have hf:=hx.2
 have q0:=eH hx.1
 unfold jostleref13_Do.f at h
 rw [hf,Option.bind_some,if_pos rfl,Option.bind_eq_some_iff] at h
 obtain ⟨⟨t1,t2⟩,hl,h⟩:=h
 rw [if_pos hx.1] at h
 clear hx
 split at h
 case isFalse=>cases h
 rw [Option.bind_some,Option.bind_some] at h
 split at h
 case isFalse=>cases h
 rename_i hc1 hc2
 have hc:Az (l0.length+1<17592186044416):=⟨by simpa using hc2⟩
 clear hc1 hc2
 cases h
 go_enter Tryz.func11,Tryz.ntmps11
 go_wp2_with (first|((with_reducible refine iJ ?_);go_must ((with_reducible apply Calls.mono);(case h=>exact KD);first|rintro e w2 ⟨rfl,⟨nd,rfl⟩⟩|((first|(have:=w9;clear this;first|rintro e w2 ⟨rfl,hb⟩|rintro e w2 ⟨v9,rfl,hR,hb⟩)|rintro e w9 ⟨rfl,hb⟩);have hs:=Bz hb;(try simp only [World.size_alloc,World.size_drew,World.size_setCell,Gi] at hs);(try have c0:=fun i=>hb.cell (p:=(Ψ w.heap.size i)) SZ);(try have d0:=fun i=>hb.frozen (p:=(Ψ w.heap.size i)) SZ);(try have c1:=fun i=>hb.cell (p:=(Ψ (w.heap.size+1) i)) SZ);(try have d1:=fun i=>hb.frozen (p:=(Ψ (w.heap.size+1) i)) SZ);(try have c2:=fun i=>hb.cell (p:=(Ψ w9.heap.size i)) SZ);(try have d2:=fun i=>hb.frozen (p:=(Ψ w9.heap.size i)) SZ);(try have n0:=(And.intro (eq_true (show w.heap.size<w9.heap.size from SZ)) (And.intro (eq_false (show ¬ w.heap.size=w9.heap.size from SZ)) (And.intro (eq_false (show ¬ w9.heap.size=w.heap.size from SZ)) (eq_false (show ¬ w9.heap.size<w.heap.size from SZ))))));(try have n1:=(And.intro (eq_true (show w.heap.size+1<w9.heap.size from SZ)) (And.intro (eq_false (show ¬ w.heap.size+1=w9.heap.size from SZ)) (And.intro (eq_false (show ¬ w9.heap.size=w.heap.size+1 from SZ)) (eq_false (show ¬ w9.heap.size<w.heap.size+1 from SZ))))));(try have n2:=(And.intro (eq_true (show w.heap.size<w2.heap.size from SZ)) (And.intro (eq_false (show ¬ w.heap.size=w2.heap.size from SZ)) (And.intro (eq_false (show ¬ w2.heap.size=w.heap.size from SZ)) (eq_false (show ¬ w2.heap.size<w.heap.size from SZ))))));(try have n3:=(And.intro (eq_true (show w.heap.size+1<w2.heap.size from SZ)) (And.intro (eq_false (show ¬ w.heap.size+1=w2.heap.size from SZ)) (And.intro (eq_false (show ¬ w2.heap.size=w.heap.size+1 from SZ)) (eq_false (show ¬ w2.heap.size<w.heap.size+1 from SZ))))));(try have n4:=(And.intro (eq_true (show w9.heap.size<w2.heap.size from SZ)) (And.intro (eq_false (show ¬ w9.heap.size=w2.heap.size from SZ)) (And.intro (eq_false (show ¬ w2.heap.size=w9.heap.size from SZ)) (eq_false (show ¬ w2.heap.size<w9.heap.size from SZ)))))))))|((with_reducible refine lN ?_);go_must (
  refine tH (fun W eW=>?_);
  have hF:Below w.heap.size w W:=(by rw [eW];exact FB);
  have BK:W.heap[w.heap.size]?=some (.cells #[Φ db,.int .u32 da,.int .u32 dc] 29 (0,0)):=(by rw [eW];exact BLK);
  have hR:=Kd.R_below ho0 hF;
  clear eW;(try clear c0);(try clear c1);(try clear c2);(try clear d0);(try clear d1);(try clear d2);(try clear n0);(try clear n1);(try clear n2);(try clear n3);(try clear n4);(try clear hs);(try clear hb);
  refine wp_region_held_drew (S:=fun W'=>W'.cell? (Ψ w.heap.size 1)=some (.int .u32 da)∧W'.cell? (Ψ w.heap.size 2)=some (.int .u32 dc)) Zk ⟨(Aa (Bl BK) 1).trans rfl,(Aa (Bl BK) 2).trans rfl⟩ (fun hZ8=>?_);
  replace hF:=Az.m (Bu hF);replace BK:=Az.m (Bl BK);replace hR:=Az.m (Kd.R_drew hR);
  generalize W.drew=W8 at hF BK hR hZ8 ⊢;
  refine Δ 0 ?_ (hi:=OI);refine π ?_;refine Δ 1 ?_ (hi:=OI);refine π ?_;refine Δ 3 ?_ (hi:=OI);refine π ?_;refine Δ 4 ?_ (hi:=OI);refine π ?_;refine Δ 5 ?_ (hi:=OI);refine π ?_;refine Δ 6 ?_ (hi:=OI);refine π ?_;refine Δ 7 ?_ (hi:=OI);refine π ?_;
  refine wpAnyH_ready (rs:=[2,8]) Zk Zs ?_;
  refine AllReadyH.cons (o:=_) OI (fun K hK=>?_) (AllReadyH.cons (o:=_) OI (fun K hK=>?_) AllReadyH.nil);
  (focus (refine Kd.R_append_rows_step k66 (w0:=w) w.heap.size (by rfl) (.tmp 31) (.tmp 32) 43 66 (.agg #[.int .u32 0,.int .u32 0]) 8 rfl Tryz.underlying43 Kt rfl Zd Zo (.slice none 0 0) ([]:List S66) l0 _ _ _ (fun k_=>w.heap.size≤k_) (fun _=>False) rfl rfl (Kd.R_nil _ _ _ _ _) (Kd.R_reads' hR.out).2.2 (fun _ _ h=>h) (fun _ h=>h.elim) (fun _ h=>Nat.le_trans hF.out.size h) hF.out hF.out.size Λ108 ?_;intro v1 W1 hR1 hF1 hg1 hat;have HN:=Az.m (kO BK.o hat);have BK:=Az.m (Ed BK.o hg1 (by simp [Value.ownBlock]));have hF:=Az.m hF1;have hR1:=Az.m hR1;clear hF1 hg1 hR;refine hK.out _ _ ⟨(Aa BK.o 1).trans rfl,(Aa BK.o 2).trans rfl⟩ (fun hZ8=>?_);clear hK K;refine π ?_;refine wpAnyH_ready (rs:=[8]) Zk Zs ?_;refine AllReadyH.cons (o:=_) OI (fun K hK=>?_) AllReadyH.nil;refine Kd.R_lit_step k66 (w0:=W1) W1.heap.size 66 ?hg05 (N:=39) ?hd05 (xs:=[(⟨da,dc⟩:S66)]) (inner:=[.int .u32 da,.int .u32 dc]) (ok:=fun _=>True) (okp:=fun _=>True) ?hr05 (Reps.c2 (show Kd.M k66 _ _ _ (⟨da,dc⟩:S66) [.int .u32 da,.int .u32 dc] from (Je _ _ _ (⟨da,dc⟩:S66))) (Reps.none _ _)) (fun _ hk=>hk) trivial (Below.refl _ _) (Nat.le_refl _) Zs ?_;(case hd05=>rfl);(case hg05=>rfl);(case hr05=>first|(go_simp;done)|(go_simp;rfl));intro v2 W2 hR2 hB2 hg2 _;have BK:=Az.m (Ac BK.o hB2);have hF:=Az.m (Ag hF.out hB2);have hR1:=Az.m (Kd.R_below hR1.out hB2);have hR2:=Az.m hR2;clear hB2 hg2;obtain ⟨A2,c2,rfl⟩:=Kd.R_slice hR2.out;refine hK.out _ _ ⟨(Aa BK.o 1).trans rfl,(Aa BK.o 2).trans rfl⟩ (fun hZ8=>?_);clear hK K;refine π ?_;refine wpAnyH_ready (rs:=[9]) Zk Zs ?_;refine AllReadyH.cons (o:=_) OI (fun K hK=>?_) AllReadyH.nil;refine Kd.R_append_rows_step k66 (w0:=w) w.heap.size (by rfl) (.tmp 33) (.tmp 39) 43 66 (.agg #[.int .u32 0,.int .u32 0]) 8 rfl Tryz.underlying43 Kt rfl Zd Zo v1 ([]++l0) [(⟨da,dc⟩:S66)] _ _ _ (fun k_=>w.heap.size≤k_) (fun _=>False) rfl rfl hR1.out (Kd.R_reads' hR2.out).2.2 (fun _ _ h=>h) (fun _ h=>h.elim) (fun _ h=>Nat.le_trans hF.out.size h) hF.out hF.out.size Λ109 ?_;intro v3 W3 hR3 hF3 hg3 _;have BK:=Az.m (Ed BK.o hg3 HN.o);have hF:=Az.m hF3;have hR3:=Az.m hR3;clear hF3 hg3 hR1 hR2;refine hK.out _ _ ⟨(Aa BK.o 1).trans rfl,(Aa BK.o 2).trans rfl⟩ (fun hZ8=>?_);clear hK K;refine π ?_;refine Δ 10 ?_ (hi:=OI);refine π ?_;clear hZ8;refine wpAnyH_done Zk ?_ _));rotate_left;(focus (refine Kd.R_lit_step k66 (w0:=W8) W8.heap.size 66 ?hg15 (N:=39) ?hd15 (xs:=[(⟨da,dc⟩:S66)]) (inner:=[.int .u32 da,.int .u32 dc]) (ok:=fun _=>True) (okp:=fun _=>True) ?hr15 (Reps.c2 (show Kd.M k66 _ _ _ (⟨da,dc⟩:S66) [.int .u32 da,.int .u32 dc] from (Je _ _ _ (⟨da,dc⟩:S66))) (Reps.none _ _)) (fun _ hk=>hk) trivial (Below.refl _ _) (Nat.le_refl _) Zs ?_;(case hd15=>rfl);(case hg15=>rfl);(case hr15=>first|(go_simp;done)|(go_simp;rfl));intro v2 W2 hR2 hB2 hg2 _;have BK:=Az.m (Ac BK.o hB2);have hF:=Az.m (Ag hF.out hB2);have hR:=Az.m (Kd.R_below hR.out hB2);have hR2:=Az.m hR2;clear hB2 hg2;obtain ⟨A2,c2,rfl⟩:=Kd.R_slice hR2.out;refine hK.out _ _ ⟨(Aa BK.o 1).trans rfl,(Aa BK.o 2).trans rfl⟩ (fun hZ8=>?_);clear hK K;refine π ?_;refine wpAnyH_ready (rs:=[2]) Zk Zs ?_;refine AllReadyH.cons (o:=_) OI (fun K hK=>?_) AllReadyH.nil;refine Kd.R_append_rows_step k66 (w0:=w) w.heap.size (by rfl) (.tmp 31) (.tmp 32) 43 66 (.agg #[.int .u32 0,.int .u32 0]) 8 rfl Tryz.underlying43 Kt rfl Zd Zo (.slice none 0 0) ([]:List S66) l0 _ _ _ (fun k_=>w.heap.size≤k_) (fun _=>False) rfl rfl (Kd.R_nil _ _ _ _ _) (Kd.R_reads' hR.out).2.2 (fun _ _ h=>h) (fun _ h=>h.elim) (fun _ h=>Nat.le_trans hF.out.size h) hF.out hF.out.size Λ108 ?_;intro v1 W1 hR1 hF1 hg1 hat;have HN:=Az.m (kO BK.o hat);have BK:=Az.m (Ed BK.o hg1 (by simp [Value.ownBlock]));have hF:=Az.m hF1;have hR1:=Az.m hR1;have hR2:=Az.m (Kd.R_after (Kd.R_mono hR2.out (fun k_ hk=>⟨hk,by simp [Value.ownBlock]⟩)) hg1 hat);clear hF1 hg1 hR;refine hK.out _ _ ⟨(Aa BK.o 1).trans rfl,(Aa BK.o 2).trans rfl⟩ (fun hZ8=>?_);clear hK K;refine π ?_;refine wpAnyH_ready (rs:=[9]) Zk Zs ?_;refine AllReadyH.cons (o:=_) OI (fun K hK=>?_) AllReadyH.nil;refine Kd.R_append_rows_step k66 (w0:=w) w.heap.size (by rfl) (.tmp 33) (.tmp 39) 43 66 (.agg #[.int .u32 0,.int .u32 0]) 8 rfl Tryz.underlying43 Kt rfl Zd Zo v1 ([]++l0) [(⟨da,dc⟩:S66)] _ _ _ (fun k_=>w.heap.size≤k_) (fun _=>False) rfl rfl hR1.out (Kd.R_reads' hR2.out).2.2 (fun _ _ h=>h) (fun _ h=>h.elim) (fun _ h=>Nat.le_trans hF.out.size h) hF.out hF.out.size Λ109 ?_;intro v3 W3 hR3 hF3 hg3 _;have BK:=Az.m (Ed BK.o hg3 HN.o);have hF:=Az.m hF3;have hR3:=Az.m hR3;clear hF3 hg3 hR1 hR2;refine hK.out _ _ ⟨(Aa BK.o 1).trans rfl,(Aa BK.o 2).trans rfl⟩ (fun hZ8=>?_);clear hK K;refine π ?_;refine Δ 10 ?_ (hi:=OI);refine π ?_;clear hZ8;refine wpAnyH_done Zk ?_ _)))))
 all_goals go_ret2
 all_goals exact uU hB hR3.out VAL hF.out
theorem jostleref13_Do.calls (k:Nat) (P0_:Nat→Prop) (u9000_:Value) (l0:List (S66)) (db da dc dd de df:Int) (r1:List (S66)) (r2:Bool) (w0 w:World) (hB:Below w0.heap.size w0 w) (ho0:Kd.R k66 66 w w0.heap.size P0_ u9000_ l0) (h:jostleref13_Do.f k l0 db da dc dd de df=some (r1,r2)) :
  Calls Tryz.prog 11 #[u9000_,.agg #[Φ db,.int .u32 da,.int .u32 dc],.agg #[Φ dd,.int .u32 de,.int .u32 df]] w fun e w'=>∃ v0_:Value,e=.returned (.tuple #[v0_,.bool r2])∧Kd.R k66 66 w' w0.heap.size (fun k_=>(P0_ k_∨w.heap.size≤k_)) v0_ r1∧Below w0.heap.size w0 w'∧Kept w w' (fun k_=>P0_ k_):=by
 by_cases hx:dd=0∧jostleref12_Fits.f db da dc dd de df=some true
 .exact Rh k P0_ u9000_ l0 db da dc dd de df r1 r2 w0 w hB ho0 h hx
 .exact Rg k P0_ u9000_ l0 db da dc dd de df r1 r2 w0 w hB ho0 h hx
end
end Go.Proofs.YtlejhikddkdanaaGreat.Fns
namespace Go.Proofs.YtlejhikddkdanaaGreat.Mdl
open RowKit Fns
variable {c:Cf} {tid:Int}
def kd:Loc→Int
 |.gl _=>0
 |.haz _ _=>1
 |.link _=>2
 |.nd _ _=>3
 |.tr _=>4
def kd1:Loc→Int
 |.gl i=>i
 |.haz t _=>t
 |.link n=>n
 |.nd n _=>n
 |.tr p=>p
def kd2:Loc→Int
 |.haz _ s=>s
 |.nd _ f=>f
 |_=>0
theorem w64 {x:Int} (h0:-9223372036854775808≤x) (h1:x≤9223372036854775807):wrap64 x=x:=by unfold wrap64;omega
theorem Ks {a b d:Int} (h:a≤b) (hd:0≤d):a*d≤b*d:=Int.mul_le_mul_of_nonneg_right h hd
structure Bounds (c:Cf):Prop where
 sl:2≤c.sl∧c.sl≤14
 wI:3≤c.wI∧c.wI≤11
 haz:0≤c.th*c.sl∧c.th*c.sl≤84
 nod:0≤c.ns*c.wI∧c.ns*c.wI≤704
 pl:0≤c.pl∧c.pl≤64
 ns:1≤c.ns∧c.ns≤64
theorem Dy (G:Good c tid):Bounds c:=by
 have hs:=Es G
 have hl:=G.lv
 have ht:=G.th
 have hn:=G.ns
 have hw:3≤c.wI∧c.wI≤11:=by unfold Cf.wI;split<;>omega
 have hse:0≤c.sE:=by unfold Cf.sE;split<;>omega
 refine ⟨hs,hw,?_,?_,?_,Zo⟩
 .have h1:=Ks (d:=c.sl) ht.1 Zo
  have h2:=Ks (d:=c.sl) ht.2 Zo
  omega
 .have h1:=Ks (d:=c.wI) (show 0≤c.ns by omega) Zo
  have h2:=Ks (d:=c.wI) hn.2 Zo
  omega
 .unfold Cf.pl
  split
  .have:∀ k:Nat,k<7→(2 ^ k:Nat)≤64:=Zd
   have h7:=this c.lv.toNat Zo
   exact ⟨Int.natCast_nonneg _,by exact_mod_cast h7⟩
  .omega
theorem Tu (G:Good c tid) {t i:Int} (h:c.has (.haz t i)=true):c.hZ≤c.addr (.haz t i)∧c.addr (.haz t i)<c.lK∧(c.addr (.haz t i)-c.hZ) / c.sl=t∧(c.addr (.haz t i)-c.hZ) % c.sl=i:=by
 have hb:=Dy G
 have h1:=of_decide_eq_true h
 have h2:=Ks (d:=c.sl) (show t+1≤c.th by omega) Zo
 have h3:=Ks (d:=c.sl) h1.1 Zo
 rw [Int.add_mul] at h2
 have e:c.addr (.haz t i)=8+t*c.sl+i:=rfl
 have e2:c.lK=8+c.th*c.sl:=rfl
 have e3:c.hZ=8:=rfl
 rw [e,e2,e3]
 have hs:=hb.sl
 refine ⟨Zo,Zo,?_,?_⟩
 .rw [show 8+t*c.sl+i-8=i+t*c.sl by omega,Int.add_mul_ediv_right _ _ Zo,Int.ediv_eq_zero_of_lt h1.2.2.1 h1.2.2.2]
  omega
 .rw [show 8+t*c.sl+i-8=i+t*c.sl by omega,Int.add_mul_emod_self_right]
  exact Int.emod_eq_of_lt h1.2.2.1 h1.2.2.2
theorem Qi (G:Good c tid) {n f:Int} (h:c.has (.nd n f)=true):c.nA≤c.addr (.nd n f)∧c.addr (.nd n f)<c.tA∧(c.addr (.nd n f)-c.nA) / c.wI=n-1∧(c.addr (.nd n f)-c.nA) % c.wI=f:=by
 have hb:=Dy G
 have h1:=of_decide_eq_true h
 have hw:=hb.wI
 have h2:=Ks (d:=c.wI) (show n-1+1≤c.ns by omega) Zo
 have h3:=Ks (d:=c.wI) (show 0≤n-1 by omega) Zo
 rw [Int.add_mul] at h2
 have e:c.addr (.nd n f)=c.nA+(n-1)*c.wI+f:=rfl
 have e2:c.tA=c.nA+c.ns*c.wI:=rfl
 rw [e,e2]
 refine ⟨Zo,Zo,?_,?_⟩
 .rw [show c.nA+(n-1)*c.wI+f-c.nA=f+(n-1)*c.wI by omega,Int.add_mul_ediv_right _ _ Zo,Int.ediv_eq_zero_of_lt h1.2.2.1 h1.2.2.2]
  omega
 .rw [show c.nA+(n-1)*c.wI+f-c.nA=f+(n-1)*c.wI by omega,Int.add_mul_emod_self_right]
  exact Int.emod_eq_of_lt h1.2.2.1 h1.2.2.2
theorem Ft (G:Good c tid):c.hZ=8∧c.hZ≤c.lK∧c.lK≤92∧0≤c.nA∧c.nA=c.lK+c.ns∧c.nA≤c.tA∧c.tA≤c.nA+704∧c.size=c.tA+c.pl∧c.size≤924:=by
 have hb:=Dy G
 have e2:c.tA=c.nA+c.ns*c.wI:=rfl
 have e3:c.lK=8+c.th*c.sl:=rfl
 have e4:c.nA=c.lK+c.ns:=rfl
 have e5:c.size=c.tA+c.pl:=rfl
 have e6:c.hZ=8:=rfl
 have:=hb.haz
 have:=hb.nod
 have:=hb.pl
 have:=hb.ns
 omega
theorem Dv (G:Good c tid) {x:Loc} (h:c.has x=true):0≤c.addr x∧c.addr x<c.size:=by
 have ho:=Ft G
 cases x with
 |gl i=>have h1:=of_decide_eq_true h;have e:c.addr (.gl i)=i:=rfl;rw [e];have:=Dy G;have:=this.ns;have:=(Dy G).pl;omega
 |haz t i=>have h1:=Tu G h;have:=(Dy G).pl;have:=(Dy G).ns;omega
 |link n=>have h1:=of_decide_eq_true h;have e:c.addr (.link n)=c.lK+n-1:=rfl;rw [e];have:=(Dy G).pl;omega
 |nd n f=>have h1:=Qi G h;have:=(Dy G).pl;omega
 |tr p=>have h1:=of_decide_eq_true h;have e:c.addr (.tr p)=c.tA+p:=rfl;rw [e];omega
theorem Mk (G:Good c tid) {x:Loc} (h:c.has x=true) :
  plan_Plan_Where.f 1 c.algo c.th c.ns c.lv c.batch c.probes c.scan c.sl c.wI c.sE c.hZ c.lK c.nA c.tA c.size (c.addr x)=some (kd x,kd1 x,kd2 x):=by
 have hr:=Dv G h
 have ho:=Ft G
 have hb:=Dy G
 have hs:=hb.sl
 have hw:=hb.wI
 have hno:=hb.ns
 unfold plan_Plan_Where.f
 rw [if_neg Zo,decide_eq_false Zo]
 simp only [plan_Plan_Where.j0]
 rw [if_neg Zd]
 cases x with
 |gl i=>
  have h1:=of_decide_eq_true h
  have e:c.addr (.gl i)=i:=rfl
  rw [if_pos Zo]
  rfl
 |haz t i=>
  have h1:=Tu G h
  rw [if_neg Zo,if_pos h1.2.1,if_neg Zo,w64 (x:=c.addr (.haz t i)-c.hZ) Zo Zo,Int.tdiv_eq_ediv_of_nonneg Zo,Int.tmod_eq_emod_of_nonneg Zo,h1.2.2.1,h1.2.2.2]
  have h2:=of_decide_eq_true h
  have:=G.th
  rw [w64 Zo Zo]
  rfl
 |link n=>
  have h1:=of_decide_eq_true h
  have e:c.addr (.link n)=c.lK+n-1:=rfl
  rw [if_neg Zo,if_neg Zo,if_pos Zo,w64 (x:=c.addr (.link n)-c.lK) Zo Zo,w64 Zo Zo,e]
  show some (2,c.lK+n-1-c.lK+1,(0:Int))=some (2,n,0)
  rw [show c.lK+n-1-c.lK+1=n by omega]
 |nd n f=>
  have h1:=Qi G h
  have h2:=of_decide_eq_true h
  rw [if_neg Zo,if_neg Zo,if_neg Zo,if_pos h1.2.1,if_neg Zo,w64 (x:=c.addr (.nd n f)-c.nA) Zo Zo,Int.tdiv_eq_ediv_of_nonneg Zo,Int.tmod_eq_emod_of_nonneg Zo,h1.2.2.1,h1.2.2.2]
  rw [w64 (x:=n-1) Zo Zo,w64 Zo Zo]
  show some (3,n-1+1,f)=some (3,n,f)
  rw [show n-1+1=n by omega]
 |tr p=>
  have h1:=of_decide_eq_true h
  have e:c.addr (.tr p)=c.tA+p:=rfl
  rw [if_neg Zo,if_neg Zo,if_neg Zo,if_neg Zo,w64 Zo Zo,e]
  show some (4,c.tA+p-c.tA,(0:Int))=some (4,p,0)
  rw [show c.tA+p-c.tA=p by omega]
end Go.Proofs.YtlejhikddkdanaaGreat.Mdl
namespace Go.Proofs.YtlejhikddkdanaaGreat.Mdl
open RowKit Wk Fns YtlejhikddkdanaaGreatW.PrintWords YtlejhikddkdanaaGreatW.PrintLast YtlejhikddkdanaaGreatW.PrintMore
variable {c:Cf} {tid:Int}
section
attribute [local go_sem] Cs Cq De Dd Cj Ci Cr Cp
structure Ad where
 mb:Nat
 pb:Nat
 wb:Nat
 fb:Nat
 bb:Nat
 gh:Option (Nat×Nat)
 thr:Value
def Ad.ghp (A:Ad):Value:=match A.gh with
 |none=>.pointer none
 |some (gb,_)=>Pt gb 0
def Ad.may (A:Ad) (k:Nat):Prop:=k=A.mb∨k=A.pb∨k=A.wb∨k=A.fb∨∃ gb tb,A.gh=some (gb,tb)∧(k=gb∨k=tb)
structure IsMach (c:Cf) (A:Ad) (m:Loc→Int) (g:Gh) (us:Nat) (aT:Bool) (w:World):Prop where
 head:w.heap[A.mb]?=some (.cells #[Φ c.algo,Φ c.th,Φ c.ns,Φ c.lv,Φ c.batch,Φ c.probes,Φ c.scan,Φ c.sl,Φ c.wI,Φ c.sE,Φ c.hZ,Φ c.lK,Φ c.nA,Φ c.tA,Φ c.size,Pt A.pb 0,A.ghp,Pt A.fb 0,A.thr,.bool aT,.bool false] 96 (0,0))
 mm:∃ ws,IsMem A.pb A.wb ws w∧(ws.length:Int)=c.size∧∀ x,c.has x=true→rd ws (c.addr x)=m x
 fits:∀ x,c.has x=true→0≤m x∧m x<18446744073709551616
 gho:∀ gb tb,A.gh=some (gb,tb)→IsGh gb tb g w
 feed:IsFeed A.fb A.bb c.bytes us w
namespace IsMach
variable {A:Ad} {m:Loc→Int} {g:Gh} {us:Nat} {aT:Bool} {w w1:World}
theorem same (h:IsMach c A m g us aT w) (hb:Below w.heap.size w w1):IsMach c A m g us aT w1:=by
 obtain ⟨ws,h1,h2,h3⟩:=h.mm
 exact ⟨Ac h.head hb,⟨ws,h1.same hb,h2,h3⟩,h.fits,fun gb tb e=>(h.gho gb tb e).same hb,h.feed.same hb⟩
theorem ne_pb (h:IsMach c A m g us aT w):A.mb≠A.pb:=by
 obtain ⟨ws,h1,_⟩:=h.mm
 obtain ⟨st,h2⟩:=h1.head
 exact An h.head h2 Zd
theorem ne_wb (h:IsMach c A m g us aT w):A.mb≠A.wb:=by
 obtain ⟨ws,h1,_⟩:=h.mm
 exact An h.head h1.row Zd
theorem ne_fb (h:IsMach c A m g us aT w):A.mb≠A.fb:=by
 obtain ⟨a,cap,h2,_⟩:=h.feed.head
 exact An h.head h2 Zd
theorem head_ (h:IsMach c A m g us aT w) (ho:Over (fun k=>k=A.mb) w w1) {acted':Bool}
  (h1:w1.heap[A.mb]?=some (.cells #[Φ c.algo,Φ c.th,Φ c.ns,Φ c.lv,Φ c.batch,Φ c.probes,Φ c.scan,Φ c.sl,Φ c.wI,Φ c.sE,Φ c.hZ,Φ c.lK,Φ c.nA,Φ c.tA,Φ c.size,Pt A.pb 0,A.ghp,Pt A.fb 0,A.thr,.bool acted',.bool false] 96 (0,0))):IsMach c A m g us acted' w1:=by
 obtain ⟨ws,h2,h3,h4⟩:=h.mm
 refine ⟨h1,⟨ws,h2.over ho (Ne.symm h.ne_pb) (Ne.symm h.ne_wb),h3,h4⟩,h.fits,fun gb tb e=>?_,h.feed.over ho (Ne.symm h.ne_fb) (fun hp=>?_)⟩
 .have hg:=h.gho gb tb e
  exact hg.over ho (An hg.head h.head Zd) (An hg.row h.head Zd)
 .obtain ⟨cs,h5,_⟩:=h.feed.row hp
  exact An h5 h.head Zd
theorem words_ (h:IsMach c A m g us aT w) {m':Loc→Int} (ho:Over (fun k=>k=A.pb∨k=A.wb) w w1) {ws:List Int}
  (h1:IsMem A.pb A.wb ws w1) (h2:(ws.length:Int)=c.size) (h3:∀ x,c.has x=true→rd ws (c.addr x)=m' x) (h4:∀ x,c.has x=true→0≤m' x∧m' x<18446744073709551616):IsMach c A m' g us aT w1:=by
 obtain ⟨ws0,h0,_⟩:=h.mm
 obtain ⟨st,hs⟩:=h0.head
 refine ⟨ho.blk h.head (fun e=>e.elim h.ne_pb h.ne_wb),⟨ws,h1,h2,h3⟩,h4,fun gb tb e=>?_,h.feed.over ho ?_ (fun hp=>?_)⟩
 .have hg:=h.gho gb tb e
  exact hg.over ho (fun e=>e.elim (An hg.head hs Zd) (An hg.head h0.row Zd)) (fun e=>e.elim (An hg.row hs Zd) (An hg.row h0.row Zd))
 .obtain ⟨a,cap,h5,_⟩:=h.feed.head
  exact fun e=>e.elim (An h5 hs Zd) (An h5 h0.row Zd)
 .obtain ⟨cs,h5,_⟩:=h.feed.row hp
  exact fun e=>e.elim (An h5 hs Zd) (An h5 h0.row Zd)
theorem ghost_ (h:IsMach c A m g us aT w) {g':Gh} {gb tb:Nat} (e:A.gh=some (gb,tb)) (ho:Over (fun k=>k=gb∨k=tb) w w1) (h1:IsGh gb tb g' w1):IsMach c A m g' us aT w1:=by
 obtain ⟨ws,h2,h3,h4⟩:=h.mm
 obtain ⟨st,hs⟩:=h2.head
 have hg:=h.gho gb tb e
 refine ⟨ho.blk h.head (fun e=>e.elim (An h.head hg.head Zd) (An h.head hg.row Zd)),
  ⟨ws,h2.over ho (fun e=>e.elim (An hs hg.head Zd) (An hs hg.row Zd)) (fun e=>e.elim (An h2.row hg.head Zd) (An h2.row hg.row Zd)),h3,h4⟩,h.fits,fun gb' tb' e'=>?_,h.feed.over ho ?_ (fun hp=>?_)⟩
 .rw [e] at e'
  injection e' with e'
  injection e' with e1 e2
  subst e1 e2
  exact h1
 .obtain ⟨a,cap,h5,_⟩:=h.feed.head
  exact fun e=>e.elim (An h5 hg.head Zd) (An h5 hg.row Zd)
 .obtain ⟨cs,h5,_⟩:=h.feed.row hp
  exact fun e=>e.elim (An h5 hg.head Zd) (An h5 hg.row Zd)
theorem feed_ (h:IsMach c A m g us aT w) {used':Nat} (ho:Over (fun k=>k=A.fb) w w1) (h1:IsFeed A.fb A.bb c.bytes used' w1):IsMach c A m g used' aT w1:=by
 obtain ⟨ws,h2,h3,h4⟩:=h.mm
 obtain ⟨st,hs⟩:=h2.head
 obtain ⟨a,cap,hf,_⟩:=h.feed.head
 refine ⟨ho.blk h.head h.ne_fb,⟨ws,h2.over ho (An hs hf Zd) (An h2.row hf Zd),h3,h4⟩,h.fits,fun gb tb e=>?_,h1⟩
 have hg:=h.gho gb tb e
 exact hg.over ho (An hg.head hf Zd) (An hg.row hf Zd)
end IsMach
def bE (g:Gh):Loc→Gh
 |.nd n _=>g.touch n
 |_=>g
theorem oA (g:Gh) {x:Loc} (h:kd x≠3):bE g x=g:=by
 cases x<;>first|rfl|exact absurd rfl h
theorem iN (g:Gh) {x:Loc} (h:kd x=3):bE g x=g.touch (kd1 x):=by
 cases x<;>first|rfl|(simp [kd] at h)
theorem bX (G:Good c tid) {x y:Loc} (hx:c.has x=true) (hy:c.has y=true) (h:c.addr x=c.addr y):x=y:=by
 have h1:=Mk G hx
 have h2:=Mk G hy
 rw [h,h2] at h1
 injection h1 with h1
 injection h1 with h1 h3
 injection h3 with h3 h4
 cases x<;>cases y<;>simp_all [kd,kd1,kd2]
theorem qM {ws:List Int} {a b v:Int} (h0:0≤a) (h1:a<ws.length) (h2:0≤b):rd (ws.set a.toNat v) b=if b=a then v else rd ws b:=by
 unfold rd
 by_cases h:b=a
 .rw [if_pos h,h]
  simp [List.getD_eq_getElem?_getD,List.getElem?_set_self (show a.toNat<ws.length by omega)]
 .rw [if_neg h]
  simp [List.getD_eq_getElem?_getD,List.getElem?_set_ne (show a.toNat≠b.toNat by omega)]
theorem Wg (G:Good c tid) {ws:List Int} {m:Loc→Int} {x:Loc} (hx:c.has x=true) (hl:(ws.length:Int)=c.size) (h:∀ y,c.has y=true→rd ws (c.addr y)=m y) (v:Int) :
  ∀ y,c.has y=true→rd (ws.set (c.addr x).toNat v) (c.addr y)=upd m x v y:=by
 intro y hy
 have h1:=Dv G hx
 have h2:=Dv G hy
 rw [qM h1.1 Zo h2.1]
 by_cases e:y=x
 .rw [if_pos (by rw [e]),e,Fi]
 .rw [if_neg (fun e2=>e (bX G hy hx e2)),By _ _ e]
  exact h y hy
theorem Ij (A:Ad) (m:Loc→Int) (g:Gh) (us:Nat) (aT:Bool) (w:World) (h:IsMach c A m g us aT w) :
  Calls Tryz.prog 130 #[Pt A.mb 0,Φ 0] w fun e w'=>e=.returned (.tuple #[])∧IsMach c A m g us aT w'∧Over (fun k=>k=A.mb) w w':=by
 have H:=Az.m h
 have p20:w.cell? (Ψ A.mb 20)=some (.bool false):=(Aa h.head 20).trans rfl;have q20:=Ab h.head 20;
 clear h
 go_enter Tryz.func130,Tryz.ntmps130
 go_wp2
 go_end0
 exact ⟨rfl,H.o.head_ ((Over.refl (fun k=>k=A.mb) w).set_ (Or.inl rfl) _) (Ae H.o.head 20 _ rfl),(Over.refl (fun k=>k=A.mb) w).set_ (Or.inl rfl) _⟩
theorem Ja (G:Good c tid) (A:Ad) (m:Loc→Int) (g:Gh) (us:Nat) (aT:Bool) (x:Loc) (gl:Nat) (w:World) (h:IsMach c A m g us aT w) (hx:c.has x=true)
  (hg:w.heap[gl]?=some (.cells #[Φ (c.addr x)] 3 (0,0))) (hne:∀ gb tb,A.gh=some (gb,tb)→gl≠tb) :
  Calls Tryz.prog 128 #[Pt A.mb 0,.slice (some (Ψ gl 0)) 1 1] w fun e w'=>e=.returned (.bool true)∧IsMach c A m (bE g x) us true w'∧Over A.may w w':=by
 have H:=Az.m h
 have HG:=Az.m hg
 have HN:=Az.m hne
 have HW:=Az.m (Mk G hx)
 have HMG:=Az.m (An hg h.head Zd)
 have p19:w.cell? (Ψ A.mb 19)=some (.bool aT):=(Aa h.head 19).trans rfl;have q19:=Ab h.head 19;
 clear h hx hg hne
 go_enter Tryz.func128,Tryz.ntmps128
 go_wp2
 have S1:=Az.m (H.o.head_ ((Over.refl (fun k=>k=A.mb) w).set_ (Or.inl rfl) (.bool true)) (acted':=true) (Ae H.o.head 19 _ rfl))
 have S2:=Az.m ((Over.refl A.may w).set_ (p:=(Ψ A.mb 19)) (Or.inl (Or.inl rfl)) (.bool true))
 have S3:=Az.m (Av (p:=(Ψ A.mb 19)) HG.o HMG.o (.bool true))
 clear p19 q19
 go_loopw [17] (fun i wr=>∃ k:Nat,i=Φ k∧k≤1∧Az (IsMach c A m (if k=0 then g else bE g x) us true wr)∧Az (Over A.may w wr)∧Az (wr.heap[gl]?=some (.cells #[Φ (c.addr x)] 3 (0,0)))) (fun i _=>1-(intOf i).toNat)
 case atStart=>exact ⟨0,rfl,Zo,S1,S2,S3⟩
 case round=>
  clear S1 S2 S3 H HG
  obtain ⟨k,rfl,hk,hh,ho,hl⟩:=hrel
  have cg:wr.cell? (Ψ gl 0)=some (Φ (c.addr x)):=(Aa hl.out 0).trans rfl
  cases k with
  |zero=>
   replace hh:=Az.m (show IsMach c A m g us true wr from hh.out)
   have p0:wr.cell? (Ψ A.mb 0)=some (Φ c.algo):=(Aa hh.out.head 0).trans rfl;have p1:wr.cell? (Ψ A.mb 1)=some (Φ c.th):=(Aa hh.out.head 1).trans rfl;have p2:wr.cell? (Ψ A.mb 2)=some (Φ c.ns):=(Aa hh.out.head 2).trans rfl;have p3:wr.cell? (Ψ A.mb 3)=some (Φ c.lv):=(Aa hh.out.head 3).trans rfl;have p4:wr.cell? (Ψ A.mb 4)=some (Φ c.batch):=(Aa hh.out.head 4).trans rfl;have p5:wr.cell? (Ψ A.mb 5)=some (Φ c.probes):=(Aa hh.out.head 5).trans rfl;have p6:wr.cell? (Ψ A.mb 6)=some (Φ c.scan):=(Aa hh.out.head 6).trans rfl;have p7:wr.cell? (Ψ A.mb 7)=some (Φ c.sl):=(Aa hh.out.head 7).trans rfl;have p8:wr.cell? (Ψ A.mb 8)=some (Φ c.wI):=(Aa hh.out.head 8).trans rfl;have p9:wr.cell? (Ψ A.mb 9)=some (Φ c.sE):=(Aa hh.out.head 9).trans rfl;have p10:wr.cell? (Ψ A.mb 10)=some (Φ c.hZ):=(Aa hh.out.head 10).trans rfl;have p11:wr.cell? (Ψ A.mb 11)=some (Φ c.lK):=(Aa hh.out.head 11).trans rfl;have p12:wr.cell? (Ψ A.mb 12)=some (Φ c.nA):=(Aa hh.out.head 12).trans rfl;have p13:wr.cell? (Ψ A.mb 13)=some (Φ c.tA):=(Aa hh.out.head 13).trans rfl;have p14:wr.cell? (Ψ A.mb 14)=some (Φ c.size):=(Aa hh.out.head 14).trans rfl;have p16:wr.cell? (Ψ A.mb 16)=some (A.ghp):=(Aa hh.out.head 16).trans rfl;
   by_cases h3:kd x=3
   .have b3:(kd x==3)=true:=by rw [h3];rfl
    have HA:=Az.m (iN g h3)
    clear h3
    cases e:A.gh with
    |none=>
     have eg:A.ghp=.pointer none:=by unfold Ad.ghp;rw [e]
     have HE:=Az.m e
     clear e
     go_wp2_with (first|((with_reducible refine Ai (f:=197) rfl ?_);refine Bk (some 27) rfl rfl Tryz.func197 Zk rfl #[.agg #[Φ c.algo,Φ c.th,Φ c.ns,Φ c.lv,Φ c.batch,Φ c.probes,Φ c.scan,Φ c.sl,Φ c.wI,Φ c.sE,Φ c.hZ,Φ c.lK,Φ c.nA,Φ c.tA,Φ c.size],Φ (c.addr x)] rfl Λ10 ?_;(with_reducible refine (plan_Plan_Where.calls 1 _ _ _ _ _ _ _ _ _ _ _ _ _ _ _ _ _ _ _ _ HW.o).mono ?_);rintro e w2 ⟨rfl,hb⟩;refine ⟨_,rfl,?_⟩;have H2:=Az.m (hh.out.same hb);have O2:=Az.m (ho.out.below hb);have L2:=Az.m (Ac hl.out hb);clear p0 p1 p2 p3 p4 p5 p6 p7 p8 p9 p10 p11 p12 p13 p14 p16;have p16:w2.cell? (Ψ A.mb 16)=some A.ghp:=(Aa H2.o.head 16).trans rfl;clear hb))
     go_round
     case measure=>simp [intOf]
     case rel=>exact ⟨1,rfl,Zo,⟨by rw [if_neg Zd];exact ⟨H2.o.head,H2.o.mm,H2.o.fits,fun gb tb e2=>Λ140,H2.o.feed⟩⟩,O2,L2⟩
    |some gt=>
     obtain ⟨gb,tb⟩:=gt
     have eg:A.ghp=Pt gb 0:=by unfold Ad.ghp;rw [e]
     have HE:=Az.m e
     clear e
     go_wp2_with (first|((with_reducible refine Ai (f:=197) rfl ?_);refine Bk (some 27) rfl rfl Tryz.func197 Zk rfl #[.agg #[Φ c.algo,Φ c.th,Φ c.ns,Φ c.lv,Φ c.batch,Φ c.probes,Φ c.scan,Φ c.sl,Φ c.wI,Φ c.sE,Φ c.hZ,Φ c.lK,Φ c.nA,Φ c.tA,Φ c.size],Φ (c.addr x)] rfl Λ10 ?_;(with_reducible refine (plan_Plan_Where.calls 1 _ _ _ _ _ _ _ _ _ _ _ _ _ _ _ _ _ _ _ _ HW.o).mono ?_);rintro e w2 ⟨rfl,hb⟩;refine ⟨_,rfl,?_⟩;have H2:=Az.m (hh.out.same hb);have O2:=Az.m (ho.out.below hb);have L2:=Az.m (Ac hl.out hb);clear p0 p1 p2 p3 p4 p5 p6 p7 p8 p9 p10 p11 p12 p13 p14 p16;have p16:w2.cell? (Ψ A.mb 16)=some A.ghp:=(Aa H2.o.head 16).trans rfl;clear hb)|((with_reducible refine Ai (f:=198) rfl ?_);refine Bk (some 45) rfl rfl Tryz.func198 Zk rfl #[Pt gb 0,Φ (kd1 x)] rfl Λ10 ?_;(with_reducible refine (Ye gb tb g (kd1 x) _ (H2.o.gho gb tb HE.o)).mono ?_);rintro e w4 ⟨⟨bb4,rfl⟩,hm4,ho4⟩;refine ⟨_,rfl,?_⟩;have H4:=Az.m (H2.o.ghost_ HE.o ho4 hm4);have O4:=Az.m (O2.o.then_ ho4 (fun k hk=>Or.inl (Or.inr (Or.inr (Or.inr (Or.inr ⟨gb,tb,HE.o,hk⟩))))));have L4:=Az.m (ho4.blk L2.o (fun e5=>e5.elim (An L2.o (H2.o.gho gb tb HE.o).head Zd) (HN.o gb tb HE.o)));clear hm4 ho4))
     go_round
     case measure=>simp [intOf]
     case rel=>exact ⟨1,rfl,Zo,⟨by rw [if_neg Zd,HA.o];exact H4.o⟩,O4,L4⟩
   .have b3:(kd x==3)=false:=by rw [beq_eq_false_iff_ne];exact h3
    have HA:=Az.m (oA g h3)
    clear h3
    go_wp2_with (first|((with_reducible refine Ai (f:=197) rfl ?_);refine Bk (some 27) rfl rfl Tryz.func197 Zk rfl #[.agg #[Φ c.algo,Φ c.th,Φ c.ns,Φ c.lv,Φ c.batch,Φ c.probes,Φ c.scan,Φ c.sl,Φ c.wI,Φ c.sE,Φ c.hZ,Φ c.lK,Φ c.nA,Φ c.tA,Φ c.size],Φ (c.addr x)] rfl Λ10 ?_;(with_reducible refine (plan_Plan_Where.calls 1 _ _ _ _ _ _ _ _ _ _ _ _ _ _ _ _ _ _ _ _ HW.o).mono ?_);rintro e w2 ⟨rfl,hb⟩;refine ⟨_,rfl,?_⟩;have H2:=Az.m (hh.out.same hb);have O2:=Az.m (ho.out.below hb);have L2:=Az.m (Ac hl.out hb);clear p0 p1 p2 p3 p4 p5 p6 p7 p8 p9 p10 p11 p12 p13 p14 p16;have p16:w2.cell? (Ψ A.mb 16)=some A.ghp:=(Aa H2.o.head 16).trans rfl;clear hb))
    go_round
    case measure=>simp [intOf]
    case rel=>exact ⟨1,rfl,Zo,⟨by rw [if_neg Zd,HA.o];exact H2.o⟩,O2,L2⟩
  |succ k=>
   obtain rfl:k=0:=Zo
   go_wp2
   go_ret
   exact ⟨rfl,hh.out,ho.out⟩
theorem IsMach.after {A:Ad} {m:Loc→Int} {g:Gh} {us:Nat} {aT:Bool} {w:World} (h:IsMach c A m g us aT w) (o:Obj):∀ gb tb,A.gh=some (gb,tb)→w.heap.size≠tb:=by
 intro gb tb e
 have:=Bb (h.gho gb tb e).row
 omega
theorem On (A:Ad) {w:World}:∀ k,k=A.pb∨k=A.wb→A.may k∨w.heap.size≤k:=fun k hk=>Or.inl (hk.elim (fun h=>Or.inr (Or.inl h)) (fun h=>Or.inr (Or.inr (Or.inl h))))
theorem rB (A:Ad) {w:World}:∀ k,k=A.pb→A.may k∨w.heap.size≤k:=fun k hk=>Or.inl (Or.inr (Or.inl hk))
theorem Pz (A:Ad) {w:World}:∀ k,k=A.mb→A.may k∨w.heap.size≤k:=fun k hk=>Or.inl (Or.inl hk)
theorem pE (G:Good c tid) (A:Ad) (m:Loc→Int) (g:Gh) (us:Nat) (aT:Bool) (x:Loc) (w:World) (h:IsMach c A m g us aT w) (hx:c.has x=true) :
  Calls Tryz.prog 73 #[Pt A.mb 0,Φ (c.addr x)] w fun e w'=>e=.returned (Γ (m x))∧IsMach c A m (bE g x) us true w'∧Over A.may w w':=by
 have H:=Az.m h
 have HX:=Az.m hx
 have HR:=Az.m (Dv G hx)
 clear h hx
 go_enter Tryz.func73,Tryz.ntmps73
 go_wp2_with (first|((with_reducible refine Ai (f:=128) rfl ?_);refine Bk (some 10) rfl rfl Tryz.func128 Zk rfl #[Pt A.mb 0,.slice (some (Ψ w.heap.size 0)) 1 1] rfl Λ10 ?_;(with_reducible refine (Ja G A m g us aT x w.heap.size _ (H.o.same (Af (Below.refl _ _) _)) HX.o (Cc w _) (H.o.after (.cells #[Φ (c.addr x)] 3))).mono ?_);rintro e w1 ⟨rfl,hm,ho⟩;refine ⟨_,rfl,?_⟩;have H1:=Az.m hm;have O1:=Az.m (((Over.refl A.may w).below (Af (Below.refl _ _) _)).then_ ho (fun _ hk=>.inl hk));have pm:w1.cell? (Ψ A.mb 15)=some (Pt A.pb 0):=(Aa hm.head 15).trans rfl;clear hm ho)|(obtain ⟨ws,hw,hl,hr⟩:=H1.o.mm;have er:=hr x HX.o;have HL:=Az.m hl;have HV:=Az.m hr;clear hl hr;(with_reducible refine Ai (f:=129) rfl ?_);refine Bk (some 18) rfl rfl Tryz.func129 Zk rfl #[Pt A.pb 0,Φ (c.addr x)] rfl Λ10 ?_;(with_reducible refine (dW A.pb A.wb ws (c.addr x) _ hw HR.o.1 Λ106).mono ?_);rintro e w2 ⟨rfl,hm,ho⟩;refine ⟨_,rfl,?_⟩;have H2:=Az.m (H1.o.words_ (ho.mono (fun _ hk=>Or.inl hk)) hm HL.o HV.o H1.o.fits);have O2:=Az.m (O1.o.then_ ho (rB A));clear hm ho hw pm)|((with_reducible refine Ai (f:=130) rfl ?_);refine Bk (some 23) rfl rfl Tryz.func130 Zk rfl #[Pt A.mb 0,Φ 0] rfl Λ10 ?_;(with_reducible refine (Ij A _ _ _ _ _ H2.o).mono ?_);rintro e w3 ⟨rfl,hm,ho⟩;refine ⟨_,rfl,?_⟩;have H3:=Az.m hm;have O3:=Az.m (O2.o.then_ ho (Pz A));clear hm ho))
 go_ret
 exact ⟨rfl,H3.o,O3.o⟩
theorem Tk {m:Loc→Int} (h:∀ x,c.has x=true→0≤m x∧m x<18446744073709551616) {x:Loc} {v:Int} (h0:0≤v) (h1:v<18446744073709551616):∀ y,c.has y=true→0≤upd m x v y∧upd m x v y<18446744073709551616:=by
 intro y hy
 by_cases e:y=x
 .rw [e,Fi];exact ⟨h0,h1⟩
 .rw [By _ _ e];exact h y hy
theorem IsMach.put_ (G:Good c tid) {A:Ad} {m:Loc→Int} {g:Gh} {us:Nat} {aT:Bool} {w w1:World} (h:IsMach c A m g us aT w) (ho:Over (fun k=>k=A.pb∨k=A.wb) w w1) {ws:List Int} {x:Loc} {v:Int} (hx:c.has x=true)
  (h1:IsMem A.pb A.wb (ws.set (c.addr x).toNat v) w1) (h2:(ws.length:Int)=c.size) (h3:∀ x,c.has x=true→rd ws (c.addr x)=m x) (h4:0≤v) (h5:v<18446744073709551616):IsMach c A (upd m x v) g us aT w1:=
 h.words_ ho h1 (by rw [List.length_set];exact h2) (Wg G hx h2 h3 v) (Tk h.fits h4 h5)
def mA (m:Loc→Int) (x:Loc) (o v:Int):Loc→Int:=if m x=o then upd m x v else m
theorem IsMach.cas_ (G:Good c tid) {A:Ad} {m:Loc→Int} {g:Gh} {us:Nat} {aT:Bool} {w w1:World} (h:IsMach c A m g us aT w) (ho:Over (fun k=>k=A.pb∨k=A.wb) w w1) {ws:List Int} {x:Loc} {o v:Int} (hx:c.has x=true)
  (h1:IsMem A.pb A.wb (if rd ws (c.addr x)=o then ws.set (c.addr x).toNat v else ws) w1) (h2:(ws.length:Int)=c.size) (h3:∀ x,c.has x=true→rd ws (c.addr x)=m x) (h4:0≤v) (h5:v<18446744073709551616) :
  IsMach c A (mA m x o v) g us aT w1:=by
 unfold mA
 rw [h3 x hx] at h1
 by_cases e:m x=o
 .rw [if_pos e] at h1 ⊢
  exact h.put_ G ho hx h1 h2 h3 h4 h5
 .rw [if_neg e] at h1 ⊢
  exact h.words_ ho h1 h2 h3 h.fits
theorem qX (G:Good c tid) (A:Ad) (m:Loc→Int) (g:Gh) (us:Nat) (aT:Bool) (x:Loc) (v:Int) (w:World) (h:IsMach c A m g us aT w) (hx:c.has x=true) (hv:0≤v∧v<18446744073709551616) :
  Calls Tryz.prog 132 #[Pt A.mb 0,Φ (c.addr x),Γ v] w fun e w'=>e=.returned (.tuple #[])∧IsMach c A (upd m x v) (bE g x) us true w'∧Over A.may w w':=by
 have H:=Az.m h
 have HX:=Az.m hx
 have HR:=Az.m (Dv G hx)
 have HV5:=Az.m hv
 clear h hx hv
 go_enter Tryz.func132,Tryz.ntmps132
 go_wp2_with (first|((with_reducible refine Ai (f:=128) rfl ?_);refine Bk (some 9) rfl rfl Tryz.func128 Zk rfl #[Pt A.mb 0,.slice (some (Ψ w.heap.size 0)) 1 1] rfl Λ10 ?_;(with_reducible refine (Ja G A m g us aT x w.heap.size _ (H.o.same (Af (Below.refl _ _) _)) HX.o (Cc w _) (H.o.after (.cells #[Φ (c.addr x)] 3))).mono ?_);rintro e w1 ⟨rfl,hm,ho⟩;refine ⟨_,rfl,?_⟩;have H1:=Az.m hm;have O1:=Az.m (((Over.refl A.may w).below (Af (Below.refl _ _) _)).then_ ho (fun _ hk=>.inl hk));have pm:w1.cell? (Ψ A.mb 15)=some (Pt A.pb 0):=(Aa hm.head 15).trans rfl;clear hm ho)|(obtain ⟨ws,hw,hl,hr⟩:=H1.o.mm;have er:=hr x HX.o;have HL:=Az.m hl;have HV:=Az.m hr;clear hl hr;(with_reducible refine Ai (f:=66) rfl ?_);refine Bk (some 17) rfl rfl Tryz.func66 Zk rfl #[Pt A.pb 0,Φ (c.addr x),Γ v] rfl Λ10 ?_;(with_reducible refine (Qm A.pb A.wb ws (c.addr x) v _ hw HR.o.1 Λ106).mono ?_);rintro e w2 ⟨rfl,hm,ho⟩;refine ⟨_,rfl,?_⟩;have H2:=Az.m (H1.o.put_ G ho HX.o hm HL.o HV.o HV5.o.1 HV5.o.2);have O2:=Az.m (O1.o.then_ ho (On A));clear hm ho hw pm)|((with_reducible refine Ai (f:=130) rfl ?_);refine Bk (some 18) rfl rfl Tryz.func130 Zk rfl #[Pt A.mb 0,Φ 0] rfl Λ10 ?_;(with_reducible refine (Ij A _ _ _ _ _ H2.o).mono ?_);rintro e w3 ⟨rfl,hm,ho⟩;refine ⟨_,rfl,?_⟩;have H3:=Az.m hm;have O3:=Az.m (O2.o.then_ ho (Pz A));clear hm ho))
 go_end0
 exact ⟨rfl,H3.o,O3.o⟩
theorem uA (G:Good c tid) (A:Ad) (m:Loc→Int) (g:Gh) (us:Nat) (aT:Bool) (x:Loc) (o v:Int) (w:World) (h:IsMach c A m g us aT w) (hx:c.has x=true) (hv:0≤v∧v<18446744073709551616) :
  Calls Tryz.prog 139 #[Pt A.mb 0,Φ (c.addr x),Γ o,Γ v] w fun e w'=>e=.returned (.bool (m x==o))∧IsMach c A (mA m x o v) (bE g x) us true w'∧Over A.may w w':=by
 have H:=Az.m h
 have HX:=Az.m hx
 have HR:=Az.m (Dv G hx)
 have HV5:=Az.m hv
 clear h hx hv
 go_enter Tryz.func139,Tryz.ntmps139
 go_wp2_with (first|((with_reducible refine Ai (f:=128) rfl ?_);refine Bk (some 14) rfl rfl Tryz.func128 Zk rfl #[Pt A.mb 0,.slice (some (Ψ w.heap.size 0)) 1 1] rfl Λ10 ?_;(with_reducible refine (Ja G A m g us aT x w.heap.size _ (H.o.same (Af (Below.refl _ _) _)) HX.o (Cc w _) (H.o.after (.cells #[Φ (c.addr x)] 3))).mono ?_);rintro e w1 ⟨rfl,hm,ho⟩;refine ⟨_,rfl,?_⟩;have H1:=Az.m hm;have O1:=Az.m (((Over.refl A.may w).below (Af (Below.refl _ _) _)).then_ ho (fun _ hk=>.inl hk));have pm:w1.cell? (Ψ A.mb 15)=some (Pt A.pb 0):=(Aa hm.head 15).trans rfl;clear hm ho)|(obtain ⟨ws,hw,hl,hr⟩:=H1.o.mm;have er:=hr x HX.o;have HL:=Az.m hl;have HV:=Az.m hr;clear hl hr;(with_reducible refine Ai (f:=200) rfl ?_);refine Bk (some 24) rfl rfl Tryz.func200 Zk rfl #[Pt A.pb 0,Φ (c.addr x),Γ o,Γ v] rfl Λ10 ?_;(with_reducible refine (iT A.pb A.wb ws (c.addr x) o v _ hw HR.o.1 Λ106).mono ?_);rintro e w2 ⟨rfl,hm,ho⟩;refine ⟨_,rfl,?_⟩;have H2:=Az.m (H1.o.cas_ G ho HX.o hm HL.o HV.o HV5.o.1 HV5.o.2);have O2:=Az.m (O1.o.then_ ho (On A));clear hm ho hw pm)|((with_reducible refine Ai (f:=130) rfl ?_);refine Bk (some 29) rfl rfl Tryz.func130 Zk rfl #[Pt A.mb 0,Φ 0] rfl Λ10 ?_;(with_reducible refine (Ij A _ _ _ _ _ H2.o).mono ?_);rintro e w3 ⟨rfl,hm,ho⟩;refine ⟨_,rfl,?_⟩;have H3:=Az.m hm;have O3:=Az.m (O2.o.then_ ho (Pz A));clear hm ho))
 go_ret
 exact ⟨rfl,H3.o,O3.o⟩
theorem vX (G:Good c tid) (A:Ad) (m:Loc→Int) (g:Gh) (us:Nat) (aT:Bool) (x:Loc) (d:Int) (w:World) (h:IsMach c A m g us aT w) (hx:c.has x=true) :
  Calls Tryz.prog 114 #[Pt A.mb 0,Φ (c.addr x),Γ d] w fun e w'=>e=.returned (Γ (m x))∧IsMach c A (upd m x (IntKind.u64.wrap (m x+d))) (bE g x) us true w'∧Over A.may w w':=by
 have H:=Az.m h
 have HX:=Az.m hx
 have HR:=Az.m (Dv G hx)
 have hv:0≤IntKind.u64.wrap (m x+d)∧IntKind.u64.wrap (m x+d)<18446744073709551616:=by
  show 0≤(m x+d) % 18446744073709551616∧(m x+d) % 18446744073709551616<18446744073709551616
  omega
 have HV5:=Az.m hv
 clear h hx hv
 go_enter Tryz.func114,Tryz.ntmps114
 go_wp2_with (first|((with_reducible refine Ai (f:=128) rfl ?_);refine Bk (some 12) rfl rfl Tryz.func128 Zk rfl #[Pt A.mb 0,.slice (some (Ψ w.heap.size 0)) 1 1] rfl Λ10 ?_;(with_reducible refine (Ja G A m g us aT x w.heap.size _ (H.o.same (Af (Below.refl _ _) _)) HX.o (Cc w _) (H.o.after (.cells #[Φ (c.addr x)] 3))).mono ?_);rintro e w1 ⟨rfl,hm,ho⟩;refine ⟨_,rfl,?_⟩;have H1:=Az.m hm;have O1:=Az.m (((Over.refl A.may w).below (Af (Below.refl _ _) _)).then_ ho (fun _ hk=>.inl hk));have pm:w1.cell? (Ψ A.mb 15)=some (Pt A.pb 0):=(Aa hm.head 15).trans rfl;clear hm ho)|(obtain ⟨ws,hw,hl,hr⟩:=H1.o.mm;have er:=hr x HX.o;have HL:=Az.m hl;have HV:=Az.m hr;clear hl hr;(with_reducible refine Ai (f:=192) rfl ?_);refine Bk (some 21) rfl rfl Tryz.func192 Zk rfl #[Pt A.pb 0,Φ (c.addr x),Γ d] rfl Λ10 ?_;(with_reducible refine (jB A.pb A.wb ws (c.addr x) d _ hw HR.o.1 Λ106).mono ?_);rintro e w2 ⟨rfl,hm,ho⟩;refine ⟨_,rfl,?_⟩;rw [er] at hm;have H2:=Az.m (H1.o.put_ G ho HX.o hm HL.o HV.o HV5.o.1 HV5.o.2);have O2:=Az.m (O1.o.then_ ho (On A));clear hm ho hw pm)|((with_reducible refine Ai (f:=130) rfl ?_);refine Bk (some 26) rfl rfl Tryz.func130 Zk rfl #[Pt A.mb 0,Φ 0] rfl Λ10 ?_;(with_reducible refine (Ij A _ _ _ _ _ H2.o).mono ?_);rintro e w3 ⟨rfl,hm,ho⟩;refine ⟨_,rfl,?_⟩;have H3:=Az.m hm;have O3:=Az.m (O2.o.then_ ho (Pz A));clear hm ho))
 go_ret
 exact ⟨rfl,H3.o,O3.o⟩
theorem tW (A:Ad) (m:Loc→Int) (g:Gh) (us:Nat) (aT:Bool) (w:World) (h:IsMach c A m g us aT w) :
  Calls Tryz.prog 115 #[Pt A.mb 0] w fun e w'=>e=.returned (.agg #[Φ c.algo,Φ c.th,Φ c.ns,Φ c.lv,Φ c.batch,Φ c.probes,Φ c.scan,Φ c.sl,Φ c.wI,Φ c.sE,Φ c.hZ,Φ c.lK,Φ c.nA,Φ c.tA,Φ c.size])∧Below w.heap.size w w':=by
 have H:=Az.m h
 clear h
 go_enter Tryz.func115,Tryz.ntmps115
 go_wp2_with (first|((with_reducible refine Al (N:=2) rfl ?_);refine Am ?hg (N:=2) ?hd (cs:=#[Φ 0,Φ 0,Φ 0,Φ 0,Φ 0,Φ 0,Φ 0,Φ 0,Φ 0,Φ 0,Φ 0,Φ 0,Φ 0,Φ 0,Φ 0]) (t:=85) ?hr ?_;(case hd=>rfl);(case hg=>rfl);(case hr=>exact Λ18);intro gb hgb w6 hbox hbl;have H6:=Az.m (H.o.same hbl);have B6:=Az.m hbl;have K6:=Az.m hbox;have GW:=Az.m (show w.heap.size≤gb by rw [hgb];exact Nat.le_refl _);have p0:w6.cell? (Ψ A.mb 0)=some (Φ c.algo):=(Aa H6.o.head 0).trans rfl;have p1:w6.cell? (Ψ A.mb 1)=some (Φ c.th):=(Aa H6.o.head 1).trans rfl;have p2:w6.cell? (Ψ A.mb 2)=some (Φ c.ns):=(Aa H6.o.head 2).trans rfl;have p3:w6.cell? (Ψ A.mb 3)=some (Φ c.lv):=(Aa H6.o.head 3).trans rfl;have p4:w6.cell? (Ψ A.mb 4)=some (Φ c.batch):=(Aa H6.o.head 4).trans rfl;have p5:w6.cell? (Ψ A.mb 5)=some (Φ c.probes):=(Aa H6.o.head 5).trans rfl;have p6:w6.cell? (Ψ A.mb 6)=some (Φ c.scan):=(Aa H6.o.head 6).trans rfl;have p7:w6.cell? (Ψ A.mb 7)=some (Φ c.sl):=(Aa H6.o.head 7).trans rfl;have p8:w6.cell? (Ψ A.mb 8)=some (Φ c.wI):=(Aa H6.o.head 8).trans rfl;have p9:w6.cell? (Ψ A.mb 9)=some (Φ c.sE):=(Aa H6.o.head 9).trans rfl;have p10:w6.cell? (Ψ A.mb 10)=some (Φ c.hZ):=(Aa H6.o.head 10).trans rfl;have p11:w6.cell? (Ψ A.mb 11)=some (Φ c.lK):=(Aa H6.o.head 11).trans rfl;have p12:w6.cell? (Ψ A.mb 12)=some (Φ c.nA):=(Aa H6.o.head 12).trans rfl;have p13:w6.cell? (Ψ A.mb 13)=some (Φ c.tA):=(Aa H6.o.head 13).trans rfl;have p14:w6.cell? (Ψ A.mb 14)=some (Φ c.size):=(Aa H6.o.head 14).trans rfl;obtain ⟨z0,z1,z2,z3,z4,z5,z6,z7,z8,z9,z10,z11,z12,z13,z14⟩:=Nq K6.o;have y0:=Ab K6.o;skip;clear hbox hbl hgb))
 refine bodyPost_ret (v:=.agg #[Φ c.algo,Φ c.th,Φ c.ns,Φ c.lv,Φ c.batch,Φ c.probes,Φ c.scan,Φ c.sl,Φ c.wI,Φ c.sE,Φ c.hZ,Φ c.lK,Φ c.nA,Φ c.tA,Φ c.size]) ?_ rfl ⟨rfl,?_⟩
 .have hres:Tryz.f115.results=#[.cell 2 85]:=rfl
  simp only [results,hres]
  go_simp
 .iterate 15 with_reducible refine Below.setCell ?_ GW.o _
  exact B6.o
theorem tZ (A:Ad) (m:Loc→Int) (g:Gh) (us:Nat) (aT:Bool) (w:World) (h:IsMach c A m g us aT w) :
  Calls Tryz.prog 134 #[Pt A.mb 0] w fun e w'=>e=.returned (Pt A.fb 0)∧w=w':=by
 have p17:w.cell? (Ψ A.mb 17)=some (Pt A.fb 0):=(Aa h.head 17).trans rfl;
 clear h
 go_enter Tryz.func134,Tryz.ntmps134
 go_wp2
 go_ret
 exact ⟨rfl,rfl⟩
theorem Lb (A:Ad) (m:Loc→Int) (g:Gh) (us:Nat) (aT:Bool) (w:World) (h:IsMach c A m g us aT w) :
  Calls Tryz.prog 61 #[Pt A.mb 0] w fun e w'=>e=.returned (.bool A.gh.isSome)∧w=w':=by
 have p16:w.cell? (Ψ A.mb 16)=some (A.ghp):=(Aa h.head 16).trans rfl;
 clear h
 cases e:A.gh with
 |none=>
  have eg:A.ghp=.pointer none:=by unfold Ad.ghp;rw [e]
  clear e
  go_enter Tryz.func61,Tryz.ntmps61
  go_wp2
  go_ret
  exact ⟨rfl,rfl⟩
 |some gt=>
  obtain ⟨gb,tb⟩:=gt
  have eg:A.ghp=Pt gb 0:=by unfold Ad.ghp;rw [e]
  clear e
  go_enter Tryz.func61,Tryz.ntmps61
  go_wp2
  go_ret
  exact ⟨rfl,rfl⟩
theorem tU (A:Ad) (m:Loc→Int) (g:Gh) (us:Nat) (aT:Bool) (i:Int) (w:World) (h:IsMach c A m g us aT w) :
  Calls Tryz.prog 214 #[Pt A.mb 0,Φ i] w fun e w'=>e=.returned (.tuple #[])∧IsMach c A m (g.turn i 0 1 1) us aT w'∧Over A.may w w':=by
 have H:=Az.m h
 have p16:w.cell? (Ψ A.mb 16)=some (A.ghp):=(Aa h.head 16).trans rfl;
 clear h
 cases e:A.gh with
 |none=>
  have eg:A.ghp=.pointer none:=by unfold Ad.ghp;rw [e]
  have ei:A.gh.isSome=false:=by rw [e];rfl
  have HE:=Az.m e
  clear e
  go_enter Tryz.func214,Tryz.ntmps214
  go_wp2_with (first|((with_reducible refine Ai (f:=61) rfl ?_);refine Bk (some 5) rfl rfl Tryz.func61 Zk rfl #[Pt A.mb 0] rfl Λ10 ?_;(with_reducible refine (Lb A m g us aT _ H.o).mono ?_);rintro e w1 ⟨he,rfl⟩;rw [ei] at he;subst he;refine ⟨_,rfl,?_⟩;skip))
  go_end0
  exact ⟨rfl,⟨H.o.head,H.o.mm,H.o.fits,fun gb tb e2=>Λ140,H.o.feed⟩,Over.refl _ w⟩
 |some gt=>
  obtain ⟨gb,tb⟩:=gt
  have eg:A.ghp=Pt gb 0:=by unfold Ad.ghp;rw [e]
  have ei:A.gh.isSome=true:=by rw [e];rfl
  have HE:=Az.m e
  clear e
  go_enter Tryz.func214,Tryz.ntmps214
  go_wp2_with (first|((with_reducible refine Ai (f:=61) rfl ?_);refine Bk (some 5) rfl rfl Tryz.func61 Zk rfl #[Pt A.mb 0] rfl Λ10 ?_;(with_reducible refine (Lb A m g us aT _ H.o).mono ?_);rintro e w1 ⟨he,rfl⟩;rw [ei] at he;subst he;refine ⟨_,rfl,?_⟩;skip)|((with_reducible refine Ai (f:=226) rfl ?_);refine Bk (some 11) rfl rfl Tryz.func226 Zk rfl #[Pt gb 0,Φ i] rfl Λ10 ?_;(with_reducible refine (cH gb tb g i _ (H.o.gho gb tb HE.o)).mono ?_);rintro e w2 ⟨⟨bb,rfl⟩,hm,ho⟩;refine ⟨_,rfl,?_⟩;have H2:=Az.m (H.o.ghost_ HE.o ho hm);have O2:=Az.m ((Over.refl A.may w).then_ ho (fun k hk=>Or.inl (Or.inr (Or.inr (Or.inr (Or.inr ⟨gb,tb,HE.o,hk⟩))))));clear hm ho))
  go_end0
  exact ⟨rfl,H2.o,O2.o⟩
theorem tY (A:Ad) (m:Loc→Int) (g:Gh) (us:Nat) (aT:Bool) (i:Int) (w:World) (h:IsMach c A m g us aT w) :
  Calls Tryz.prog 154 #[Pt A.mb 0,Φ i] w fun e w'=>e=.returned (.tuple #[])∧IsMach c A m (g.turn i 1 2 2) us aT w'∧Over A.may w w':=by
 have H:=Az.m h
 have p16:w.cell? (Ψ A.mb 16)=some (A.ghp):=(Aa h.head 16).trans rfl;
 clear h
 cases e:A.gh with
 |none=>
  have eg:A.ghp=.pointer none:=by unfold Ad.ghp;rw [e]
  have ei:A.gh.isSome=false:=by rw [e];rfl
  have HE:=Az.m e
  clear e
  go_enter Tryz.func154,Tryz.ntmps154
  go_wp2_with (first|((with_reducible refine Ai (f:=61) rfl ?_);refine Bk (some 5) rfl rfl Tryz.func61 Zk rfl #[Pt A.mb 0] rfl Λ10 ?_;(with_reducible refine (Lb A m g us aT _ H.o).mono ?_);rintro e w1 ⟨he,rfl⟩;rw [ei] at he;subst he;refine ⟨_,rfl,?_⟩;skip))
  go_end0
  exact ⟨rfl,⟨H.o.head,H.o.mm,H.o.fits,fun gb tb e2=>Λ140,H.o.feed⟩,Over.refl _ w⟩
 |some gt=>
  obtain ⟨gb,tb⟩:=gt
  have eg:A.ghp=Pt gb 0:=by unfold Ad.ghp;rw [e]
  have ei:A.gh.isSome=true:=by rw [e];rfl
  have HE:=Az.m e
  clear e
  go_enter Tryz.func154,Tryz.ntmps154
  go_wp2_with (first|((with_reducible refine Ai (f:=61) rfl ?_);refine Bk (some 5) rfl rfl Tryz.func61 Zk rfl #[Pt A.mb 0] rfl Λ10 ?_;(with_reducible refine (Lb A m g us aT _ H.o).mono ?_);rintro e w1 ⟨he,rfl⟩;rw [ei] at he;subst he;refine ⟨_,rfl,?_⟩;skip)|((with_reducible refine Ai (f:=207) rfl ?_);refine Bk (some 11) rfl rfl Tryz.func207 Zk rfl #[Pt gb 0,Φ i] rfl Λ10 ?_;(with_reducible refine (eD gb tb g i _ (H.o.gho gb tb HE.o)).mono ?_);rintro e w2 ⟨⟨bb,rfl⟩,hm,ho⟩;refine ⟨_,rfl,?_⟩;have H2:=Az.m (H.o.ghost_ HE.o ho hm);have O2:=Az.m ((Over.refl A.may w).then_ ho (fun k hk=>Or.inl (Or.inr (Or.inr (Or.inr (Or.inr ⟨gb,tb,HE.o,hk⟩))))));clear hm ho))
  go_end0
  exact ⟨rfl,H2.o,O2.o⟩
theorem rA (A:Ad) (m:Loc→Int) (g:Gh) (us:Nat) (aT:Bool) (i:Int) (w:World) (h:IsMach c A m g us aT w) :
  Calls Tryz.prog 215 #[Pt A.mb 0,Φ i] w fun e w'=>e=.returned (.tuple #[])∧IsMach c A m (g.turn i 2 0 3) us aT w'∧Over A.may w w':=by
 have H:=Az.m h
 have p16:w.cell? (Ψ A.mb 16)=some (A.ghp):=(Aa h.head 16).trans rfl;
 clear h
 cases e:A.gh with
 |none=>
  have eg:A.ghp=.pointer none:=by unfold Ad.ghp;rw [e]
  have ei:A.gh.isSome=false:=by rw [e];rfl
  have HE:=Az.m e
  clear e
  go_enter Tryz.func215,Tryz.ntmps215
  go_wp2_with (first|((with_reducible refine Ai (f:=61) rfl ?_);refine Bk (some 5) rfl rfl Tryz.func61 Zk rfl #[Pt A.mb 0] rfl Λ10 ?_;(with_reducible refine (Lb A m g us aT _ H.o).mono ?_);rintro e w1 ⟨he,rfl⟩;rw [ei] at he;subst he;refine ⟨_,rfl,?_⟩;skip))
  go_end0
  exact ⟨rfl,⟨H.o.head,H.o.mm,H.o.fits,fun gb tb e2=>Λ140,H.o.feed⟩,Over.refl _ w⟩
 |some gt=>
  obtain ⟨gb,tb⟩:=gt
  have eg:A.ghp=Pt gb 0:=by unfold Ad.ghp;rw [e]
  have ei:A.gh.isSome=true:=by rw [e];rfl
  have HE:=Az.m e
  clear e
  go_enter Tryz.func215,Tryz.ntmps215
  go_wp2_with (first|((with_reducible refine Ai (f:=61) rfl ?_);refine Bk (some 5) rfl rfl Tryz.func61 Zk rfl #[Pt A.mb 0] rfl Λ10 ?_;(with_reducible refine (Lb A m g us aT _ H.o).mono ?_);rintro e w1 ⟨he,rfl⟩;rw [ei] at he;subst he;refine ⟨_,rfl,?_⟩;skip)|((with_reducible refine Ai (f:=227) rfl ?_);refine Bk (some 11) rfl rfl Tryz.func227 Zk rfl #[Pt gb 0,Φ i] rfl Λ10 ?_;(with_reducible refine (bG gb tb g i _ (H.o.gho gb tb HE.o)).mono ?_);rintro e w2 ⟨⟨bb,rfl⟩,hm,ho⟩;refine ⟨_,rfl,?_⟩;have H2:=Az.m (H.o.ghost_ HE.o ho hm);have O2:=Az.m ((Over.refl A.may w).then_ ho (fun k hk=>Or.inl (Or.inr (Or.inr (Or.inr (Or.inr ⟨gb,tb,HE.o,hk⟩))))));clear hm ho))
  go_end0
  exact ⟨rfl,H2.o,O2.o⟩
theorem Of (G:Good c tid) (A:Ad) (m:Loc→Int) (g:Gh) (us:Nat) (aT:Bool) (x y:Loc) (gl:Nat) (w:World) (h:IsMach c A m g us aT w) (hx:c.has x=true) (hy:c.has y=true) (hkx:kd x≠3) (hky:kd y≠3)
  (hg:w.heap[gl]?=some (.cells #[Φ (c.addr x),Φ (c.addr y)] 3 (0,0))) :
  Calls Tryz.prog 128 #[Pt A.mb 0,.slice (some (Ψ gl 0)) 2 2] w fun e w'=>e=.returned (.bool true)∧IsMach c A m g us true w'∧Over A.may w w':=by
 have H:=Az.m h
 have HG:=Az.m hg
 have HW:=Az.m (Mk G hx)
 have HWy:=Az.m (Mk G hy)
 have HMG:=Az.m (An hg h.head Zd)
 have bx:(kd x==3)=false:=by rw [beq_eq_false_iff_ne];exact hkx
 have bY:(kd y==3)=false:=by rw [beq_eq_false_iff_ne];exact hky
 have p19:w.cell? (Ψ A.mb 19)=some (.bool aT):=(Aa h.head 19).trans rfl;have q19:=Ab h.head 19;
 clear h hx hy hkx hky hg
 go_enter Tryz.func128,Tryz.ntmps128
 go_wp2
 have S1:=Az.m (H.o.head_ ((Over.refl (fun k=>k=A.mb) w).set_ (Or.inl rfl) (.bool true)) (acted':=true) (Ae H.o.head 19 _ rfl))
 have S2:=Az.m ((Over.refl A.may w).set_ (p:=(Ψ A.mb 19)) (Or.inl (Or.inl rfl)) (.bool true))
 have S3:=Az.m (Av (p:=(Ψ A.mb 19)) HG.o HMG.o (.bool true))
 clear p19 q19
 go_loopw [17] (fun i wr=>∃ k:Nat,i=Φ k∧k≤2∧Az (IsMach c A m g us true wr)∧Az (Over A.may w wr)∧Az (wr.heap[gl]?=some (.cells #[Φ (c.addr x),Φ (c.addr y)] 3 (0,0)))) (fun i _=>2-(intOf i).toNat)
 case atStart=>exact ⟨0,rfl,Zo,S1,S2,S3⟩
 case round=>
  clear S1 S2 S3 H HG
  obtain ⟨k,rfl,hk,hh,ho,hl⟩:=hrel
  obtain ⟨cg,cg2⟩:=bc2 hl.out
  cases k with
  |zero=>
   have p0:wr.cell? (Ψ A.mb 0)=some (Φ c.algo):=(Aa hh.out.head 0).trans rfl;have p1:wr.cell? (Ψ A.mb 1)=some (Φ c.th):=(Aa hh.out.head 1).trans rfl;have p2:wr.cell? (Ψ A.mb 2)=some (Φ c.ns):=(Aa hh.out.head 2).trans rfl;have p3:wr.cell? (Ψ A.mb 3)=some (Φ c.lv):=(Aa hh.out.head 3).trans rfl;have p4:wr.cell? (Ψ A.mb 4)=some (Φ c.batch):=(Aa hh.out.head 4).trans rfl;have p5:wr.cell? (Ψ A.mb 5)=some (Φ c.probes):=(Aa hh.out.head 5).trans rfl;have p6:wr.cell? (Ψ A.mb 6)=some (Φ c.scan):=(Aa hh.out.head 6).trans rfl;have p7:wr.cell? (Ψ A.mb 7)=some (Φ c.sl):=(Aa hh.out.head 7).trans rfl;have p8:wr.cell? (Ψ A.mb 8)=some (Φ c.wI):=(Aa hh.out.head 8).trans rfl;have p9:wr.cell? (Ψ A.mb 9)=some (Φ c.sE):=(Aa hh.out.head 9).trans rfl;have p10:wr.cell? (Ψ A.mb 10)=some (Φ c.hZ):=(Aa hh.out.head 10).trans rfl;have p11:wr.cell? (Ψ A.mb 11)=some (Φ c.lK):=(Aa hh.out.head 11).trans rfl;have p12:wr.cell? (Ψ A.mb 12)=some (Φ c.nA):=(Aa hh.out.head 12).trans rfl;have p13:wr.cell? (Ψ A.mb 13)=some (Φ c.tA):=(Aa hh.out.head 13).trans rfl;have p14:wr.cell? (Ψ A.mb 14)=some (Φ c.size):=(Aa hh.out.head 14).trans rfl;
   go_wp2_with (first|((with_reducible refine Ai (f:=197) rfl ?_);refine Bk (some 27) rfl rfl Tryz.func197 Zk rfl #[.agg #[Φ c.algo,Φ c.th,Φ c.ns,Φ c.lv,Φ c.batch,Φ c.probes,Φ c.scan,Φ c.sl,Φ c.wI,Φ c.sE,Φ c.hZ,Φ c.lK,Φ c.nA,Φ c.tA,Φ c.size],Φ (c.addr x)] rfl Λ10 ?_;(with_reducible refine (plan_Plan_Where.calls 1 _ _ _ _ _ _ _ _ _ _ _ _ _ _ _ _ _ _ _ _ HW.o).mono ?_);rintro e w2 ⟨rfl,hb⟩;refine ⟨_,rfl,?_⟩;have H2:=Az.m (hh.out.same hb);have O2:=Az.m (ho.out.below hb);have L2:=Az.m (Ac hl.out hb);clear p0 p1 p2 p3 p4 p5 p6 p7 p8 p9 p10 p11 p12 p13 p14;clear hb))
   go_round
   case measure=>simp [intOf]
   case rel=>exact ⟨1,rfl,Zo,H2,O2,L2⟩
  |succ k=>
   cases k with
   |zero=>
    have p0:wr.cell? (Ψ A.mb 0)=some (Φ c.algo):=(Aa hh.out.head 0).trans rfl;have p1:wr.cell? (Ψ A.mb 1)=some (Φ c.th):=(Aa hh.out.head 1).trans rfl;have p2:wr.cell? (Ψ A.mb 2)=some (Φ c.ns):=(Aa hh.out.head 2).trans rfl;have p3:wr.cell? (Ψ A.mb 3)=some (Φ c.lv):=(Aa hh.out.head 3).trans rfl;have p4:wr.cell? (Ψ A.mb 4)=some (Φ c.batch):=(Aa hh.out.head 4).trans rfl;have p5:wr.cell? (Ψ A.mb 5)=some (Φ c.probes):=(Aa hh.out.head 5).trans rfl;have p6:wr.cell? (Ψ A.mb 6)=some (Φ c.scan):=(Aa hh.out.head 6).trans rfl;have p7:wr.cell? (Ψ A.mb 7)=some (Φ c.sl):=(Aa hh.out.head 7).trans rfl;have p8:wr.cell? (Ψ A.mb 8)=some (Φ c.wI):=(Aa hh.out.head 8).trans rfl;have p9:wr.cell? (Ψ A.mb 9)=some (Φ c.sE):=(Aa hh.out.head 9).trans rfl;have p10:wr.cell? (Ψ A.mb 10)=some (Φ c.hZ):=(Aa hh.out.head 10).trans rfl;have p11:wr.cell? (Ψ A.mb 11)=some (Φ c.lK):=(Aa hh.out.head 11).trans rfl;have p12:wr.cell? (Ψ A.mb 12)=some (Φ c.nA):=(Aa hh.out.head 12).trans rfl;have p13:wr.cell? (Ψ A.mb 13)=some (Φ c.tA):=(Aa hh.out.head 13).trans rfl;have p14:wr.cell? (Ψ A.mb 14)=some (Φ c.size):=(Aa hh.out.head 14).trans rfl;
    go_wp2_with (first|((with_reducible refine Ai (f:=197) rfl ?_);refine Bk (some 27) rfl rfl Tryz.func197 Zk rfl #[.agg #[Φ c.algo,Φ c.th,Φ c.ns,Φ c.lv,Φ c.batch,Φ c.probes,Φ c.scan,Φ c.sl,Φ c.wI,Φ c.sE,Φ c.hZ,Φ c.lK,Φ c.nA,Φ c.tA,Φ c.size],Φ (c.addr y)] rfl Λ10 ?_;(with_reducible refine (plan_Plan_Where.calls 1 _ _ _ _ _ _ _ _ _ _ _ _ _ _ _ _ _ _ _ _ HWy.o).mono ?_);rintro e w2 ⟨rfl,hb⟩;refine ⟨_,rfl,?_⟩;have H2:=Az.m (hh.out.same hb);have O2:=Az.m (ho.out.below hb);have L2:=Az.m (Ac hl.out hb);clear p0 p1 p2 p3 p4 p5 p6 p7 p8 p9 p10 p11 p12 p13 p14;clear hb))
    go_round
    case measure=>simp [intOf]
    case rel=>exact ⟨2,rfl,Zo,H2,O2,L2⟩
   |succ k=>
    obtain rfl:k=0:=Zo
    go_wp2
    go_ret
    exact ⟨rfl,hh.out,ho.out⟩
def bM (m:Loc→Int) (x:Loc) (o v:Int) (y:Loc) (q:Int):Loc→Int:=if m x=o∧m y=q then upd m x v else m
def bN (m:Loc→Int) (x:Loc) (o v:Int) (y:Loc) (q r:Int):Loc→Int:=if m x=o∧m y=q then upd (upd m x v) y r else m
theorem IsMach.dcss_ (G:Good c tid) {A:Ad} {m:Loc→Int} {g:Gh} {us:Nat} {aT:Bool} {w w1:World} (h:IsMach c A m g us aT w) (ho:Over (fun k=>k=A.pb∨k=A.wb) w w1) {ws:List Int} {x y:Loc} {o v q:Int} (hx:c.has x=true) (hy:c.has y=true)
  (h1:IsMem A.pb A.wb (if rd ws (c.addr x)=o∧rd ws (c.addr y)=q then ws.set (c.addr x).toNat v else ws) w1) (h2:(ws.length:Int)=c.size) (h3:∀ x,c.has x=true→rd ws (c.addr x)=m x) (h4:0≤v) (h5:v<18446744073709551616) :
  IsMach c A (bM m x o v y q) g us aT w1:=by
 rw [h3 x hx,h3 y hy] at h1
 unfold bM
 by_cases e:m x=o∧m y=q
 .rw [if_pos e] at h1 ⊢
  exact h.put_ G ho hx h1 h2 h3 h4 h5
 .rw [if_neg e] at h1 ⊢
  exact h.words_ ho h1 h2 h3 h.fits
theorem IsMach.dcas_ (G:Good c tid) {A:Ad} {m:Loc→Int} {g:Gh} {us:Nat} {aT:Bool} {w w1:World} (h:IsMach c A m g us aT w) (ho:Over (fun k=>k=A.pb∨k=A.wb) w w1) {ws:List Int} {x y:Loc} {o v q r:Int} (hx:c.has x=true) (hy:c.has y=true)
  (h1:IsMem A.pb A.wb (if rd ws (c.addr x)=o∧rd ws (c.addr y)=q then (ws.set (c.addr x).toNat v).set (c.addr y).toNat r else ws) w1) (h2:(ws.length:Int)=c.size) (h3:∀ x,c.has x=true→rd ws (c.addr x)=m x) (h4:0≤v∧v<18446744073709551616) (h5:0≤r∧r<18446744073709551616) :
  IsMach c A (bN m x o v y q r) g us aT w1:=by
 rw [h3 x hx,h3 y hy] at h1
 unfold bN
 by_cases e:m x=o∧m y=q
 .rw [if_pos e] at h1 ⊢
  have hl:((ws.set (c.addr x).toNat v).length:Int)=c.size:=by rw [List.length_set];exact h2
  exact h.words_ ho h1 (by rw [List.length_set];exact hl) (Wg G hy hl (Wg G hx h2 h3 v) r) (Tk (Tk h.fits h4.1 h4.2) h5.1 h5.2)
 .rw [if_neg e] at h1 ⊢
  exact h.words_ ho h1 h2 h3 h.fits
theorem pG (G:Good c tid) (A:Ad) (m:Loc→Int) (g:Gh) (us:Nat) (aT:Bool) (x y:Loc) (o v q:Int) (w:World) (h:IsMach c A m g us aT w) (hx:c.has x=true) (hy:c.has y=true) (hkx:kd x≠3) (hky:kd y≠3) (hv:0≤v∧v<18446744073709551616) :
  Calls Tryz.prog 147 #[Pt A.mb 0,Φ (c.addr x),Γ o,Γ v,Φ (c.addr y),Γ q] w fun e w'=>e=.returned (.bool (m x==o && m y==q))∧IsMach c A (bM m x o v y q) g us true w'∧Over A.may w w':=by
 have H:=Az.m h
 have HX:=Az.m hx
 have HY:=Az.m hy
 have HR:=Az.m (Dv G hx)
 have HQ:=Az.m (Dv G hy)
 have HK:=Az.m (And.intro hkx hky)
 have HV5:=Az.m hv
 clear h hx hy hkx hky hv
 go_enter Tryz.func147,Tryz.ntmps147
 go_wp2_with (first|((with_reducible refine Ai (f:=128) rfl ?_);refine Bk (some 19) rfl rfl Tryz.func128 Zk rfl #[Pt A.mb 0,.slice (some (Ψ w.heap.size 0)) 2 2] rfl Λ10 ?_;(with_reducible refine (Of G A m g us aT x y w.heap.size _ (H.o.same (Af (Below.refl _ _) _)) HX.o HY.o HK.o.1 HK.o.2 (Cc w _)).mono ?_);rintro e w1 ⟨rfl,hm,ho⟩;refine ⟨_,rfl,?_⟩;have H1:=Az.m hm;have O1:=Az.m (((Over.refl A.may w).below (Af (Below.refl _ _) _)).then_ ho (fun _ hk=>.inl hk));have pm:w1.cell? (Ψ A.mb 15)=some (Pt A.pb 0):=(Aa hm.head 15).trans rfl;clear hm ho)|(obtain ⟨ws,hw,hl,hr⟩:=H1.o.mm;have er:=hr x HX.o;have er2:=hr y HY.o;have HL:=Az.m hl;have HV:=Az.m hr;clear hl hr;(with_reducible refine Ai (f:=203) rfl ?_);refine Bk (some 31) rfl rfl Tryz.func203 Zk rfl #[Pt A.pb 0,Φ (c.addr x),Γ o,Γ v,Φ (c.addr y),Γ q] rfl Λ10 ?_;(with_reducible refine (eK A.pb A.wb ws (c.addr x) o v (c.addr y) q _ hw HR.o.1 Λ106 HQ.o.1 (by have:=HQ.o.2;have:=HL.o;omega)).mono ?_);rintro e w2 ⟨rfl,hm,ho⟩;refine ⟨_,rfl,?_⟩;have H2:=Az.m (H1.o.dcss_ G ho HX.o HY.o hm HL.o HV.o HV5.o.1 HV5.o.2);have O2:=Az.m (O1.o.then_ ho (On A));clear hm ho hw pm)|((with_reducible refine Ai (f:=130) rfl ?_);refine Bk (some 36) rfl rfl Tryz.func130 Zk rfl #[Pt A.mb 0,Φ 0] rfl Λ10 ?_;(with_reducible refine (Ij A _ _ _ _ _ H2.o).mono ?_);rintro e w3 ⟨rfl,hm,ho⟩;refine ⟨_,rfl,?_⟩;have H3:=Az.m hm;have O3:=Az.m (O2.o.then_ ho (Pz A));clear hm ho))
 go_ret
 exact ⟨rfl,H3.o,O3.o⟩
theorem pH (G:Good c tid) (A:Ad) (m:Loc→Int) (g:Gh) (us:Nat) (aT:Bool) (x y:Loc) (o v q r:Int) (w:World) (h:IsMach c A m g us aT w) (hx:c.has x=true) (hy:c.has y=true) (hkx:kd x≠3) (hky:kd y≠3) (hxy:x≠y) (hv:0≤v∧v<18446744073709551616) (hr5:0≤r∧r<18446744073709551616) :
  Calls Tryz.prog 149 #[Pt A.mb 0,Φ (c.addr x),Γ o,Γ v,Φ (c.addr y),Γ q,Γ r] w fun e w'=>e=.returned (.bool (m x==o && m y==q))∧IsMach c A (bN m x o v y q r) g us true w'∧Over A.may w w':=by
 have H:=Az.m h
 have HX:=Az.m hx
 have HY:=Az.m hy
 have HR:=Az.m (Dv G hx)
 have HQ:=Az.m (Dv G hy)
 have HK:=Az.m (And.intro hkx hky)
 have HV5:=Az.m hv
 have HR5:=Az.m hr5
 have HNE:=Az.m (fun e=>hxy (bX G hx hy e))
 clear h hx hy hkx hky hv hr5 hxy
 go_enter Tryz.func149,Tryz.ntmps149
 go_wp2_with (first|((with_reducible refine Ai (f:=128) rfl ?_);refine Bk (some 21) rfl rfl Tryz.func128 Zk rfl #[Pt A.mb 0,.slice (some (Ψ w.heap.size 0)) 2 2] rfl Λ10 ?_;(with_reducible refine (Of G A m g us aT x y w.heap.size _ (H.o.same (Af (Below.refl _ _) _)) HX.o HY.o HK.o.1 HK.o.2 (Cc w _)).mono ?_);rintro e w1 ⟨rfl,hm,ho⟩;refine ⟨_,rfl,?_⟩;have H1:=Az.m hm;have O1:=Az.m (((Over.refl A.may w).below (Af (Below.refl _ _) _)).then_ ho (fun _ hk=>.inl hk));have pm:w1.cell? (Ψ A.mb 15)=some (Pt A.pb 0):=(Aa hm.head 15).trans rfl;clear hm ho)|(obtain ⟨ws,hw,hl,hr⟩:=H1.o.mm;have er:=hr x HX.o;have er2:=hr y HY.o;have HL:=Az.m hl;have HV:=Az.m hr;clear hl hr;(with_reducible refine Ai (f:=205) rfl ?_);refine Bk (some 34) rfl rfl Tryz.func205 Zk rfl #[Pt A.pb 0,Φ (c.addr x),Γ o,Γ v,Φ (c.addr y),Γ q,Γ r] rfl Λ10 ?_;(with_reducible refine (eL A.pb A.wb ws (c.addr x) o v (c.addr y) q r _ hw HR.o.1 Λ106 HQ.o.1 (by have:=HQ.o.2;have:=HL.o;omega) HNE.o).mono ?_);rintro e w2 ⟨rfl,hm,ho⟩;refine ⟨_,rfl,?_⟩;have H2:=Az.m (H1.o.dcas_ G ho HX.o HY.o hm HL.o HV.o HV5.o HR5.o);have O2:=Az.m (O1.o.then_ ho (On A));clear hm ho hw pm)|((with_reducible refine Ai (f:=130) rfl ?_);refine Bk (some 39) rfl rfl Tryz.func130 Zk rfl #[Pt A.mb 0,Φ 0] rfl Λ10 ?_;(with_reducible refine (Ij A _ _ _ _ _ H2.o).mono ?_);rintro e w3 ⟨rfl,hm,ho⟩;refine ⟨_,rfl,?_⟩;have H3:=Az.m hm;have O3:=Az.m (O2.o.then_ ho (Pz A));clear hm ho))
 go_ret
 exact ⟨rfl,H3.o,O3.o⟩
end
end Go.Proofs.YtlejhikddkdanaaGreat.Mdl
namespace Go.Proofs.YtlejhikddkdanaaGreat.Wk
open RowKit YtlejhikddkdanaaGreatW.PrintWords
section
variable {P:Program} (w:World)
theorem Po (t ty:TypeId) (base:Nat) (e:TypeId) (i:TypeInfo) (z:Value) (size bytes:Nat) (ht:P.underlying t=some (.slice e)) (hi:P.info? e=some i) (hz:i.zero=some z)
  (hsize:i.size=size) (hby:i.bytes=bytes) (hzs:z.cells.size=size) (hsz:0<size)
  (v:Value) (n:Nat) (xs:List Value) (hown:w.ownsRow base e size v n xs)
  (ad:Addr) (m c:Nat) (news:List Value) (hl:news.length=m*size) (hnews:∀ j u,news[j]?=some u→w.cell? (ad.add j)=some u) (h1:∀ u ∈ news,u.oneCell'=true)
  (hm:0<m) (h63:n+m≤maxLen) (hbytes:(n+m)*bytes≤140737488355328) (hbase:base≤w.heap.size) (H:Nat) (hH:w.heap.size=H) :
  ∃ g cap w',(Builtin.append_ #[t,t] ty #[v,.slice (some ad) m c]).run P w=.ok (.slice (some (Ψ g 0)) (n+m) cap) w'∧
   w'.ownsRow base e size (.slice (some (Ψ g 0)) (n+m) cap) (n+m) (xs++news)∧w.grownBy w' v.ownBlock∧(v.ownBlock=some g∨g=H)∧g<w'.heap.size∧(∀ b i u,v.ownBlock=some b→xs[i]?=some u→w'.cell? (Ψ b i)=some u):=by
 obtain ⟨g,cap,w',hr,h2,h3,h4,h5⟩:=run_append_lies (P:=P) w t ty base e i z size bytes ht hi hz hsize hby hzs hsz v n xs hown ad m c news hl hnews h1 hm h63 hbytes hbase H hH
 refine ⟨g,cap,w',hr,h2,h3,h4,h5,fun b j u hb hj=>?_⟩
 have h0:=hown.cells (g:=b) hb j u hj
 rcases hown.2 with ⟨rfl,_⟩|⟨gb,cp,cur,rfl,hbb,hgg,hnc,hcm,hcs,htake⟩
 .simp [Value.ownBlock] at hb
 .have hgb:gb=b:=by simpa [Value.ownBlock] using hb
  subst hgb
  by_cases hroom:n+m≤cp
  .subst hsize
   have hr2:=run_append_room (P:=P) w t ty e i ht hi gb n cp cur hgg ad m c news hl hnews h1 hroom (by rw [hl,hcs,← Nat.add_mul];exact Nat.mul_le_mul_right _ hroom)
   rw [hr] at hr2
   injection hr2 with e1 e2
   injection e1 with e1 _ _
   injection e1 with e1
   injection e1 with e1 _ _
   have h6:=h2.cells (g:=gb) (by rw [e1];rfl) j u (by rw [List.getElem?_append_left (List.getElem?_eq_some_iff.1 hj).1];exact hj)
   rw [Dj] at h6
   exact h6
  .obtain ⟨v2,w2,hr2,_,hg2⟩:=run_append_arg_grows (P:=P) w t ty e i z size bytes ht hi hz hsize hby hzs hsz (Ψ gb 0) n cp xs hown.1 (fun j u hj=>hown.cells (g:=gb) rfl j u hj) ad m c news hl hnews Zo h63 hbytes
   rw [hr] at hr2
   injection hr2 with _ e2
   rw [Dj] at h0
   rw [e2]
   exact hg2.cell h0 Zs
theorem Bm {ops:Array Oper} {o:Oper} {a:Act} {K:Act→World→Prop} {Q:Exit→Act→World→Prop} {E:Prop} (hgd:o.guard=none) (s x:Operand) (t:TypeId)
  (ho:o.op=.call {callee:=.builtin .append,args:=#[s,x],argTypes:=#[t,t]})
  (base:Nat) (e:TypeId) (i:TypeInfo) (z:Value) (size bytes:Nat) (ht:P.underlying t=some (.slice e)) (hi:P.info? e=some i) (hz:i.zero=some z)
  (hsize:i.size=size) (hby:i.bytes=bytes) (hzs:z.cells.size=size) (hsz:0<size)
  (v:Value) (n:Nat) (xs:List Value) (hs:a.eval s=v) (hown:w.ownsRow base e size v n xs)
  (ad:Addr) (m c:Nat) (news:List Value) (hx:a.eval x=.slice (some ad) m c) (hl:news.length=m*size) (hnews:∀ j u,news[j]?=some u→w.cell? (ad.add j)=some u) (h1:∀ u ∈ news,u.oneCell'=true)
  (hm:0<m) (h63:n+m≤maxLen) (hbytes:(n+m)*bytes≤140737488355328) (hbase:base≤w.heap.size) (H:Nat) (hH:w.heap.size=H)
  (h:∀ g cap w',w'.ownsRow base e size (.slice (some (Ψ g 0)) (n+m) cap) (n+m) (xs++news)→w.grownBy w' v.ownBlock→(v.ownBlock=some g∨g=H)→g<w'.heap.size→(∀ b i u,v.ownBlock=some b→xs[i]?=some u→w'.cell? (Ψ b i)=some u)→K (a.put o.dst (.slice (some (Ψ g 0)) (n+m) cap)) w') :
  if Region.wanted o (yielded ops a.tmps)=true then Oper.wp P o a w K Q else E:=by
 have hw:Region.wanted o (yielded ops a.tmps)=true:=by simp [Region.wanted,hgd]
 rw [if_pos hw]
 obtain ⟨g,cap,w',hr,h2,h3,h4,h5,h6⟩:=Po (P:=P) w t o.type base e i z size bytes ht hi hz hsize hby hzs hsz v n xs hown ad m c news hl hnews h1 hm h63 hbytes hbase H hH
 unfold Oper.wp execOp
 simp only [ho,resolve,invoke,builtin,Sem.run_bind,Sem.run_pure,Result.andThen_ok,List.map_toArray,List.map_cons,List.map_nil,hs,hx,hr]
 exact h g cap w' h2 h3 h4 h5 h6
end
end Go.Proofs.YtlejhikddkdanaaGreat.Wk
namespace Go.Proofs.YtlejhikddkdanaaGreat.Mdl
open RowKit Wk Fns YtlejhikddkdanaaGreatW.PrintWords YtlejhikddkdanaaGreatW.PrintLast YtlejhikddkdanaaGreatW.PrintMore
section
attribute [local go_sem] Cs Cq De Dd Cj Ci Cr Cp
theorem Qa (k:IntKind) (m:Nat):(madeCells #[Value.int k 0] m)=(Co k (List.replicate m 0)).toArray:=by
 apply Array.ext
 .simp [Co,madeCells]
 .intro i h1 h2
  simp [Co,madeCells,Nat.mod_one]
theorem Wz (n:Nat) (h0:1≤n) (h1:n≤4096) (w:World) :
  Calls Tryz.prog 34 #[Φ (n:Int)] w fun e w'=>e=.returned (.tuple #[Pt (w.heap.size+1) 0,Φ 0])∧IsMem (w.heap.size+1) w.heap.size (List.replicate n 0) w'∧Below w.heap.size w w':=by
 have hmk:=Oc (P:=Tryz.prog) 78 82 .u64 8 Tryz.underlying78 PTopSame.info82 Zd n Zo
 have g0:decide ((n:Int)<1)=false:=decide_eq_false Zo
 have g1:decide ((n:Int)>4096)=false:=decide_eq_false Zo
 have g2:((n:Int)<1)=False:=eq_false Zo
 have g3:(4096<(n:Int))=False:=eq_false Zo
 go_enter Tryz.func34,Tryz.ntmps34
 go_wp2
 go_ret2
 refine ⟨rfl,⟨⟨0,?_⟩,?_,by simpa using h1⟩,?_⟩
 .have:=Cc (w.alloc (.cells (madeCells #[Value.int .u64 0] n) 82)) (.cells #[.slice (some (Ψ w.heap.size 0)) n n,Φ 0,.bool false,.slice none 0 0] 142)
  rw [World.size_alloc] at this
  simpa using this
 .refine Ba ?_ _
  have:=Cc w (.cells (madeCells #[Value.int .u64 0] n) 82)
  rw [Qa] at this ⊢
  exact this
 .exact Af (Af (Below.refl _ _) _) _
theorem Up (A:Option Addr) (cp:Nat) (bs:List Int) (w:World) (hA:ReadsInt w .u8 A bs.length bs) (hl:bs.length≤4096) (hs:∀ b ∈ bs,0≤b∧b≤255) :
  Calls Tryz.prog 37 #[.slice A bs.length cp] w fun e w'=>∃ fb bb,e=.returned (Pt fb 0)∧IsFeed fb bb bs 0 w'∧Below w.heap.size w w'∧w.heap.size≤fb∧(0<bs.length→w.heap.size≤bb):=by
 have HA:=Az.m hA
 have HL:=Az.m hl
 have HRM:Az ((([]:List Int).length+bs.length)*1≤140737488355328):=⟨by rw [List.length_nil,Nat.zero_add,Nat.mul_one];exact Nat.le_trans hl Zd⟩
 have HH:=Az.m hs
 clear hA hl hs
 go_enter Tryz.func37,Tryz.ntmps37
 have HOWN:Az ((w.alloc (.cells #[] 5)).ownsRow w.heap.size 5 1 (.slice (some (Ψ w.heap.size 0)) 0 0) ([]:List Int).length (Co .u8 [])):=⟨nL w w.heap.size 5 .u8 [] (Nat.le_refl _) (Nat.zero_le _)⟩
 have HRD:Az (ReadsInt (w.alloc (.cells #[] 5)) .u8 A bs.length bs):=⟨HA.o.below (Af (Below.refl _ _) _)⟩
 have HBL:Az (Below w.heap.size w (w.alloc (.cells #[] 5))):=⟨Af (Below.refl _ _) _⟩
 have HSZ:Az (w.heap.size≤(w.alloc (.cells #[] 5)).heap.size):=⟨by rw [World.size_alloc];exact Nat.le_succ _⟩
 go_wp2_with (first|((with_reducible refine Al (N:=5) rfl ?_);go_must (refine Px (W:=w.alloc (.cells #[] 5)) (w0:=w) w.heap.size rfl (.tmp 3) (.tmp 4) 25 5 .u8 1 rfl Tryz.underlying25 PTopSame.info5 Zd ?x1 [] bs A bs.length cp ?x2 ?x3 ?x4 ?x5 ?x6 ?x7 ?x8 ?_;(case x2=>rfl);(case x3=>rfl);(case x4=>exact HOWN.o);(case x5=>exact HRD.o);(case x6=>exact HBL.o);(case x7=>exact HSZ.o);(case x8=>exact HRM.o);intro v1 w1 h1 h2 h3 h4;obtain ⟨A1,c1,e1,h9⟩:=Lr (enc:=fun y:Int=>Value.int .u8 y) (d:=0) (show w1.ownsRow w.heap.size 5 1 v1 ([]++bs).length (eJ (fun y:Int=>Value.int .u8 y) ([]++bs)) from h1);subst e1;have K1:=Az.m h1;have K2:=Az.m h2;clear h1 h2 h3 h4 h9;simp only [Act.put,List.setIfInBounds_toArray,List.set_cons_zero,List.set_cons_succ])))
 go_ret
 have h1:=K1.o
 simp only [List.nil_append] at h1
 have hb:=Af (o:=.cells #[.slice A1 bs.length c1,Φ 0] 151) K2.o
 have hbx:=Cc w1 (.cells #[.slice A1 bs.length c1,Φ 0] 151)
 rcases h1.2 with ⟨e,h0⟩|⟨g,cap,cur,e,hg,hgb,_,_,_,ht⟩
 .refine ⟨w1.heap.size,0,rfl,⟨⟨A1,c1,hbx,fun h=>Zo⟩,fun h=>Zo,HL.o,fun i=>?_⟩,hb,K2.o.size,fun h=>Zo⟩
  rw [List.length_eq_zero_iff.1 h0]
  exact ⟨Zs,Zs⟩
 .injection e with e1 e2 e3
  refine ⟨w1.heap.size,g,rfl,⟨⟨A1,c1,hbx,fun _=>e1⟩,fun h=>⟨cur,Ba hgb _,fun i hi=>?_⟩,HL.o,fun i=>?_⟩,hb,K2.o.size,fun _=>hg⟩
  .have h5:(cur.toList.take (bs.length*1))[i]?=(Co .u8 bs)[i]?:=by rw [ht]
   rw [List.getElem?_take_of_lt Zo] at h5
   rw [← Array.getElem?_toList,h5,Co,List.getElem?_map,List.getElem?_eq_getElem hi,List.getD_eq_getElem?_getD,List.getElem?_eq_getElem hi]
   rfl
  .by_cases hi:i<bs.length
   .rw [List.getD_eq_getElem?_getD,List.getElem?_eq_getElem hi]
    exact HH.o _ (List.getElem_mem hi)
   .rw [List.getD_eq_getElem?_getD,List.getElem?_eq_none Zo]
    exact ⟨Zs,Zs⟩
end
end Go.Proofs.YtlejhikddkdanaaGreat.Mdl
namespace Go.Proofs.YtlejhikddkdanaaGreat.Wk
open RowKit YtlejhikddkdanaaGreatW.PrintWords YtlejhikddkdanaaGreatW.PrintLast YtlejhikddkdanaaGreatW.PrintMore
section
attribute [local go_sem] Cs Cq De Dd Cj Ci Cr Cp
theorem Zh (tb base n:Nat) (fn:Int) (id fv r0 r1 r2 pv sv wv rv dv:Value) (xs:List Value) (w:World) (h:w.heap[tb]?=some (.cells #[id,fv,r0,r1,r2,pv,sv,wv,rv,dv] 104 (0,0))) (hn:n<1000)
  (ho:w.ownsRow base 111 12 fv n xs) (hb:base≤w.heap.size) :
  Calls Tryz.prog 58 #[Pt tb 0,Φ fn,.slice none 0 0] w fun e w'=>e=.returned (.tuple #[])∧∃ g cap,w'.heap[tb]?=some (.cells #[id,Tv g n cap,r0,r1,r2,pv,sv,wv,rv,dv] 104 (0,0))∧w'.ownsRow base 111 12 (Tv g n cap) (n+1) (xs++[Φ fn,Φ 0,Γ 0,Γ 0,Γ 0,Γ 0,Γ 0,Γ 0,Γ 0,Γ 0,Γ 0,Γ 0])∧Over (fun k=>k=tb∨fv.ownBlock=some k) w w'∧(fv.ownBlock=some g∨w.heap.size≤g)∧(∀ b i u,fv.ownBlock=some b→xs[i]?=some u→w'.cell? (Ψ b i)=some u):=by
 have H:=Az.m h
 have HO:=Az.m ho
 clear h ho
 go_enter Tryz.func58,Tryz.ntmps58
 go_wp2_with (first|((with_reducible refine Al (N:=6) rfl ?_);refine Am ?hg (N:=6) ?hd (cs:=#[Φ 0,Φ 0,Γ 0,Γ 0,Γ 0,Γ 0,Γ 0,Γ 0,Γ 0,Γ 0,Γ 0,Γ 0]) (t:=111) ?hr ?_;(case hd=>rfl);(case hg=>rfl);(case hr=>exact Λ18);intro gb hgb w6 hbox hbl;have B6:=Az.m hbl;have GW:=Az.m (show w.heap.size≤gb by rw [hgb];exact Nat.le_refl _);have K6:=Az.m hbox;obtain ⟨z0,z1,z2,z3,z4,z5,z6,z7,z8,z9,z10,z11⟩:=iV K6.o;have y0:=Ab K6.o;have c1:w6.cell? (Ψ tb 1)=some fv:=(Aa (Ac H.o hbl) 1).trans rfl;have f1:=Ab (Ac H.o hbl) 1;have hcp:=fun W:World=>run_copy_nil (P:=Tryz.prog) W 78 78 3 82 (Ψ gb 2) 10 10 Tryz.underlying78 Zk;clear hbox hbl hgb))
 have HNE:=Az.m (show tb≠gb by have h1:=Bb H.o;have h2:=GW.o;omega)
 have HNO:=Az.m (show some gb≠fv.ownBlock from fun e=>by have h1:=Gk HO.o gb e.symm;have h2:=GW.o;omega)
 have GT:(s12 w6 gb (Φ fn) (Φ 0) (Γ 0) (Γ 0) (Γ 0) (Γ 0) (Γ 0) (Γ 0) (Γ 0) (Γ 0) (Γ 0) (Γ 0)).heap[gb]?=some (.cells #[Φ fn,Φ 0,Γ 0,Γ 0,Γ 0,Γ 0,Γ 0,Γ 0,Γ 0,Γ 0,Γ 0,Γ 0] 111 (0,0)):=(p12 K6.o)
 have KT:(s12 w6 gb (Φ fn) (Φ 0) (Γ 0) (Γ 0) (Γ 0) (Γ 0) (Γ 0) (Γ 0) (Γ 0) (Γ 0) (Γ 0) (Γ 0)).heap[tb]?=some (.cells #[id,fv,r0,r1,r2,pv,sv,wv,rv,dv] 104 (0,0)):=(f12 (Ac H.o B6.o) HNE.o)
 have OW:(s12 w6 gb (Φ fn) (Φ 0) (Γ 0) (Γ 0) (Γ 0) (Γ 0) (Γ 0) (Γ 0) (Γ 0) (Γ 0) (Γ 0) (Γ 0)).ownsRow base 111 12 fv n xs:=(o12 (Jb HO.o B6.o) HNO.o)
 have OV:Over (fun k=>k=tb) w (s12 w6 gb (Φ fn) (Φ 0) (Γ 0) (Γ 0) (Γ 0) (Γ 0) (Γ 0) (Γ 0) (Γ 0) (Γ 0) (Γ 0) (Γ 0)):=(((((((((((((Over.of_below (fun k=>k=tb) B6.o).set_ (p:=(Ψ gb 0)) (Or.inr GW.o) (Φ fn)).set_ (p:=(Ψ gb 1)) (Or.inr GW.o) (Φ 0)).set_ (p:=(Ψ gb 2)) (Or.inr GW.o) (Γ 0)).set_ (p:=(Ψ gb 3)) (Or.inr GW.o) (Γ 0)).set_ (p:=(Ψ gb 4)) (Or.inr GW.o) (Γ 0)).set_ (p:=(Ψ gb 5)) (Or.inr GW.o) (Γ 0)).set_ (p:=(Ψ gb 6)) (Or.inr GW.o) (Γ 0)).set_ (p:=(Ψ gb 7)) (Or.inr GW.o) (Γ 0)).set_ (p:=(Ψ gb 8)) (Or.inr GW.o) (Γ 0)).set_ (p:=(Ψ gb 9)) (Or.inr GW.o) (Γ 0)).set_ (p:=(Ψ gb 10)) (Or.inr GW.o) (Γ 0)).set_ (p:=(Ψ gb 11)) (Or.inr GW.o) (Γ 0))
 (try delta s12 at GT);(try delta s12 at KT);(try delta s12 at OW);(try delta s12 at OV)
 generalize ((((((((((((w6.setCell (Ψ gb 0) (Φ fn)).setCell (Ψ gb 1) (Φ 0)).setCell (Ψ gb 2) (Γ 0)).setCell (Ψ gb 3) (Γ 0)).setCell (Ψ gb 4) (Γ 0)).setCell (Ψ gb 5) (Γ 0)).setCell (Ψ gb 6) (Γ 0)).setCell (Ψ gb 7) (Γ 0)).setCell (Ψ gb 8) (Γ 0)).setCell (Ψ gb 9) (Γ 0)).setCell (Ψ gb 10) (Γ 0)).setCell (Ψ gb 11) (Γ 0))=W7 at GT KT OW OV ⊢
 obtain ⟨gc0,gc1,gc2,gc3,gc4,gc5,gc6,gc7,gc8,gc9,gc10,gc11⟩:=iV GT
 have tc1:W7.cell? (Ψ tb 1)=some fv:=(Aa KT 1).trans rfl
 have tf1:=Ab KT 1
 have tc1a:(W7.alloc (.cells #[Φ fn,Φ 0,Γ 0,Γ 0,Γ 0,Γ 0,Γ 0,Γ 0,Γ 0,Γ 0,Γ 0,Γ 0] 111)).cell? (Ψ tb 1)=some fv:=(Aa (Ba KT _) 1).trans rfl
 have GT':=Az.m GT
 have KT':=Az.m KT
 have OW':=Az.m OW
 have OV':=Az.m OV
 clear GT KT OW OV
 obtain ⟨i0,hi,hzz⟩:=Option.map_eq_some_iff.1 (show (Tryz.prog.info? 111).map (fun i=>(i.zero,i.size,i.bytes))=some (some (.agg #[Φ 0,Φ 0,Γ 0,Γ 0,Γ 0,Γ 0,Γ 0,Γ 0,Γ 0,Γ 0,Γ 0,Γ 0]),12,96) by kernel_rfl)
 simp only [Prod.mk.injEq] at hzz
 obtain ⟨hz0,hz1,hz2⟩:=hzz
 go_region_law (refine Bm _ rfl (.tmp 19) (.tmp 21) 99 rfl base 111 i0 (.agg #[Φ 0,Φ 0,Γ 0,Γ 0,Γ 0,Γ 0,Γ 0,Γ 0,Γ 0,Γ 0,Γ 0,Γ 0]) 12 96 Tryz.underlying99 hi hz0 hz1 hz2 rfl Zd fv n xs Λ153 ?hown (Ψ W7.heap.size 0) 1 1 [Φ fn,Φ 0,Γ 0,Γ 0,Γ 0,Γ 0,Γ 0,Γ 0,Γ 0,Γ 0,Γ 0,Γ 0] Λ153 rfl ?hnews Λ154 Zd Λ156 Zo ?hbase (W7.heap.size+1) ?hH ?_;(case hown=>exact Λ17);(case hnews=>exact Λ123);(case hbase=>have h1:=OV'.o.size;simp;omega);(case hH=>simp);intro g1 cap w8 hown8 hg8 hat8 hlt8 hkp8;have HP8:=Az.m hkp8;have KT8:=Az.m (Ed (Bl (Ba KT'.o _)) hg8 (Kr OW'.o KT'.o Zd));have tc8:w8.cell? (Ψ tb 1)=some fv:=(Aa KT8.o 1).trans rfl;have tf8:=Ab KT8.o 1;have OW8:=Az.m hown8;have HG8:=Az.m hg8;have HA8:=Az.m hat8;clear hown8 hg8 hat8 hkp8)
 all_goals go_end0
 all_goals
  refine ⟨rfl,g1,cap,Ae KT8.o 1 _ rfl,Ct OW8.o (Kr OW8.o KT8.o Zd) _,?_,HA8.o.imp (fun h=>h) (fun e=>by have h1:=OV'.o.size;omega),?_⟩
  .refine Over.set_ ?_ (Or.inl (Or.inl rfl)) _
   refine ((OV'.o.mono (fun _ hk=>Or.inl hk)).below (Da (Af (Below.refl _ _) _))).then_ (S2:=fun k=>fv.ownBlock=some k) ⟨HG8.o.os,HG8.o.tape,HG8.o.output,HG8.o.size,fun k hk hn=>HG8.o.block k hk (fun e=>hn e.symm)⟩ (fun k hk=>Or.inl (Or.inr hk))
  .intro b i u hb hi
   have hne:b≠tb:=fun e=>Kr OW'.o KT'.o Zd (by rw [hb,e])
   exact (Bh (a:=(Ψ b i)) (p:=(Ψ tb 1)) hne _).trans (HP8.o b i u hb hi)
theorem Qq (tb base n:Nat) (fn:Int) (id fv r0 r1 r2 pv sv wv rv dv:Value) (xs:List Value) (gl:Nat) (v0:Int) (w:World) (hgl:w.heap[gl]?=some (.cells #[Γ v0] 82 (0,0))) (h:w.heap[tb]?=some (.cells #[id,fv,r0,r1,r2,pv,sv,wv,rv,dv] 104 (0,0))) (hn:n<1000)
  (ho:w.ownsRow base 111 12 fv n xs) (hb:base≤w.heap.size) :
  Calls Tryz.prog 58 #[Pt tb 0,Φ fn,.slice (some (Ψ gl 0)) 1 1] w fun e w'=>e=.returned (.tuple #[])∧∃ g cap,w'.heap[tb]?=some (.cells #[id,Tv g n cap,r0,r1,r2,pv,sv,wv,rv,dv] 104 (0,0))∧w'.ownsRow base 111 12 (Tv g n cap) (n+1) (xs++[Φ fn,Φ 0,Γ v0,Γ 0,Γ 0,Γ 0,Γ 0,Γ 0,Γ 0,Γ 0,Γ 0,Γ 0])∧Over (fun k=>k=tb∨fv.ownBlock=some k) w w'∧(fv.ownBlock=some g∨w.heap.size≤g)∧(∀ b i u,fv.ownBlock=some b→xs[i]?=some u→w'.cell? (Ψ b i)=some u):=by
 have H:=Az.m h
 have HO:=Az.m ho
 have HG:=Az.m hgl
 clear h ho hgl
 go_enter Tryz.func58,Tryz.ntmps58
 go_wp2_with (first|((with_reducible refine Al (N:=6) rfl ?_);refine Am ?hg (N:=6) ?hd (cs:=#[Φ 0,Φ 0,Γ 0,Γ 0,Γ 0,Γ 0,Γ 0,Γ 0,Γ 0,Γ 0,Γ 0,Γ 0]) (t:=111) ?hr ?_;(case hd=>rfl);(case hg=>rfl);(case hr=>exact Λ18);intro gb hgb w6 hbox hbl;have B6:=Az.m hbl;have GW:=Az.m (show w.heap.size≤gb by rw [hgb];exact Nat.le_refl _);have K6:=Az.m hbox;obtain ⟨z0,z1,z2,z3,z4,z5,z6,z7,z8,z9,z10,z11⟩:=iV K6.o;have y0:=Ab K6.o;have c1:w6.cell? (Ψ tb 1)=some fv:=(Aa (Ac H.o hbl) 1).trans rfl;have f1:=Ab (Ac H.o hbl) 1;have GT12:=(Ae (cs':=#[Φ fn,Φ 0,Γ 0,Γ 0,Γ 0,Γ 0,Γ 0,Γ 0,Γ 0,Γ 0,Γ 0,Γ 0]) (Ae (cs':=#[Φ fn,Φ 0,Γ 0,Γ 0,Γ 0,Γ 0,Γ 0,Γ 0,Γ 0,Γ 0,Γ 0,Γ 0]) (Ae (cs':=#[Φ fn,Φ 0,Γ 0,Γ 0,Γ 0,Γ 0,Γ 0,Γ 0,Γ 0,Γ 0,Γ 0,Γ 0]) (Ae (cs':=#[Φ fn,Φ 0,Γ 0,Γ 0,Γ 0,Γ 0,Γ 0,Γ 0,Γ 0,Γ 0,Γ 0,Γ 0]) (Ae (cs':=#[Φ fn,Φ 0,Γ 0,Γ 0,Γ 0,Γ 0,Γ 0,Γ 0,Γ 0,Γ 0,Γ 0,Γ 0]) (Ae (cs':=#[Φ fn,Φ 0,Γ 0,Γ 0,Γ 0,Γ 0,Γ 0,Γ 0,Γ 0,Γ 0,Γ 0,Γ 0]) (Ae (cs':=#[Φ fn,Φ 0,Γ 0,Γ 0,Γ 0,Γ 0,Γ 0,Γ 0,Γ 0,Γ 0,Γ 0,Γ 0]) (Ae (cs':=#[Φ fn,Φ 0,Γ 0,Γ 0,Γ 0,Γ 0,Γ 0,Γ 0,Γ 0,Γ 0,Γ 0,Γ 0]) (Ae (cs':=#[Φ fn,Φ 0,Γ 0,Γ 0,Γ 0,Γ 0,Γ 0,Γ 0,Γ 0,Γ 0,Γ 0,Γ 0]) (Ae (cs':=#[Φ fn,Φ 0,Γ 0,Γ 0,Γ 0,Γ 0,Γ 0,Γ 0,Γ 0,Γ 0,Γ 0,Γ 0]) (Ae (cs':=#[Φ fn,Φ 0,Γ 0,Γ 0,Γ 0,Γ 0,Γ 0,Γ 0,Γ 0,Γ 0,Γ 0,Γ 0]) (Ae (cs':=#[Φ fn,Φ 0,Γ 0,Γ 0,Γ 0,Γ 0,Γ 0,Γ 0,Γ 0,Γ 0,Γ 0,Γ 0]) K6.o 0 (Φ fn) rfl) 1 (Φ 0) rfl) 2 (Γ 0) rfl) 3 (Γ 0) rfl) 4 (Γ 0) rfl) 5 (Γ 0) rfl) 6 (Γ 0) rfl) 7 (Γ 0) rfl) 8 (Γ 0) rfl) 9 (Γ 0) rfl) 10 (Γ 0) rfl) 11 (Γ 0) rfl);have HLN:gl≠gb:=Λ110;have GL12:=(Av (p:=(Ψ gb 11)) (Av (p:=(Ψ gb 10)) (Av (p:=(Ψ gb 9)) (Av (p:=(Ψ gb 8)) (Av (p:=(Ψ gb 7)) (Av (p:=(Ψ gb 6)) (Av (p:=(Ψ gb 5)) (Av (p:=(Ψ gb 4)) (Av (p:=(Ψ gb 3)) (Av (p:=(Ψ gb 2)) (Av (p:=(Ψ gb 1)) (Av (p:=(Ψ gb 0)) (Ac HG.o hbl) HLN (Φ fn)) HLN (Φ 0)) HLN (Γ 0)) HLN (Γ 0)) HLN (Γ 0)) HLN (Γ 0)) HLN (Γ 0)) HLN (Γ 0)) HLN (Γ 0)) HLN (Γ 0)) HLN (Γ 0)) HLN (Γ 0));have hcp:=run_copy_cells (P:=Tryz.prog) (s12 w6 gb (Φ fn) (Φ 0) (Γ 0) (Γ 0) (Γ 0) (Γ 0) (Γ 0) (Γ 0) (Γ 0) (Γ 0) (Γ 0) (Γ 0)) 78 78 3 82 gb 2 10 10 (Ψ gl 0) 1 1 [Γ v0] Tryz.underlying78 Zk rfl (fun j v hj=>by rw [Dj];exact (Aa GL12 j).trans (by simpa using hj)) (fun j hj=>by rw [Aa GT12 (2+j)];have hj2:j<1:=hj;rcases j with _|_<;>first|rfl|omega) (fun j hj=>Ab GT12 (2+j)) Λ154;clear GT12 GL12 HLN;clear hbox hbl hgb))
 have HNE:=Az.m (show tb≠gb by have h1:=Bb H.o;have h2:=GW.o;omega)
 have HNO:=Az.m (show some gb≠fv.ownBlock from fun e=>by have h1:=Gk HO.o gb e.symm;have h2:=GW.o;omega)
 have GT:((s12 w6 gb (Φ fn) (Φ 0) (Γ 0) (Γ 0) (Γ 0) (Γ 0) (Γ 0) (Γ 0) (Γ 0) (Γ 0) (Γ 0) (Γ 0)).setCells gb 2 [Γ v0]).heap[gb]?=some (.cells #[Φ fn,Φ 0,Γ v0,Γ 0,Γ 0,Γ 0,Γ 0,Γ 0,Γ 0,Γ 0,Γ 0,Γ 0] 111 (0,0)):=(Ae (cs':=#[Φ fn,Φ 0,Γ v0,Γ 0,Γ 0,Γ 0,Γ 0,Γ 0,Γ 0,Γ 0,Γ 0,Γ 0]) (p12 K6.o) 2 (Γ v0) rfl)
 have KT:((s12 w6 gb (Φ fn) (Φ 0) (Γ 0) (Γ 0) (Γ 0) (Γ 0) (Γ 0) (Γ 0) (Γ 0) (Γ 0) (Γ 0) (Γ 0)).setCells gb 2 [Γ v0]).heap[tb]?=some (.cells #[id,fv,r0,r1,r2,pv,sv,wv,rv,dv] 104 (0,0)):=(Av (p:=(Ψ gb 2)) (f12 (Ac H.o B6.o) HNE.o) HNE.o (Γ v0))
 have OW:((s12 w6 gb (Φ fn) (Φ 0) (Γ 0) (Γ 0) (Γ 0) (Γ 0) (Γ 0) (Γ 0) (Γ 0) (Γ 0) (Γ 0) (Γ 0)).setCells gb 2 [Γ v0]).ownsRow base 111 12 fv n xs:=(Ct (p:=(Ψ gb 2)) (o12 (Jb HO.o B6.o) HNO.o) HNO.o (Γ v0))
 have OV:Over (fun k=>k=tb) w ((s12 w6 gb (Φ fn) (Φ 0) (Γ 0) (Γ 0) (Γ 0) (Γ 0) (Γ 0) (Γ 0) (Γ 0) (Γ 0) (Γ 0) (Γ 0)).setCells gb 2 [Γ v0]):=((((((((((((((Over.of_below (fun k=>k=tb) B6.o).set_ (p:=(Ψ gb 0)) (Or.inr GW.o) (Φ fn)).set_ (p:=(Ψ gb 1)) (Or.inr GW.o) (Φ 0)).set_ (p:=(Ψ gb 2)) (Or.inr GW.o) (Γ 0)).set_ (p:=(Ψ gb 3)) (Or.inr GW.o) (Γ 0)).set_ (p:=(Ψ gb 4)) (Or.inr GW.o) (Γ 0)).set_ (p:=(Ψ gb 5)) (Or.inr GW.o) (Γ 0)).set_ (p:=(Ψ gb 6)) (Or.inr GW.o) (Γ 0)).set_ (p:=(Ψ gb 7)) (Or.inr GW.o) (Γ 0)).set_ (p:=(Ψ gb 8)) (Or.inr GW.o) (Γ 0)).set_ (p:=(Ψ gb 9)) (Or.inr GW.o) (Γ 0)).set_ (p:=(Ψ gb 10)) (Or.inr GW.o) (Γ 0)).set_ (p:=(Ψ gb 11)) (Or.inr GW.o) (Γ 0)).set_ (p:=(Ψ gb 2)) (Or.inr GW.o) (Γ v0))
 (try delta s12 at GT);(try delta s12 at KT);(try delta s12 at OW);(try delta s12 at OV)
 generalize (((((((((((((w6.setCell (Ψ gb 0) (Φ fn)).setCell (Ψ gb 1) (Φ 0)).setCell (Ψ gb 2) (Γ 0)).setCell (Ψ gb 3) (Γ 0)).setCell (Ψ gb 4) (Γ 0)).setCell (Ψ gb 5) (Γ 0)).setCell (Ψ gb 6) (Γ 0)).setCell (Ψ gb 7) (Γ 0)).setCell (Ψ gb 8) (Γ 0)).setCell (Ψ gb 9) (Γ 0)).setCell (Ψ gb 10) (Γ 0)).setCell (Ψ gb 11) (Γ 0)).setCells gb 2 [Γ v0])=W7 at GT KT OW OV ⊢
 obtain ⟨gc0,gc1,gc2,gc3,gc4,gc5,gc6,gc7,gc8,gc9,gc10,gc11⟩:=iV GT
 have tc1:W7.cell? (Ψ tb 1)=some fv:=(Aa KT 1).trans rfl
 have tf1:=Ab KT 1
 have tc1a:(W7.alloc (.cells #[Φ fn,Φ 0,Γ v0,Γ 0,Γ 0,Γ 0,Γ 0,Γ 0,Γ 0,Γ 0,Γ 0,Γ 0] 111)).cell? (Ψ tb 1)=some fv:=(Aa (Ba KT _) 1).trans rfl
 have GT':=Az.m GT
 have KT':=Az.m KT
 have OW':=Az.m OW
 have OV':=Az.m OV
 clear GT KT OW OV
 obtain ⟨i0,hi,hzz⟩:=Option.map_eq_some_iff.1 (show (Tryz.prog.info? 111).map (fun i=>(i.zero,i.size,i.bytes))=some (some (.agg #[Φ 0,Φ 0,Γ 0,Γ 0,Γ 0,Γ 0,Γ 0,Γ 0,Γ 0,Γ 0,Γ 0,Γ 0]),12,96) by kernel_rfl)
 simp only [Prod.mk.injEq] at hzz
 obtain ⟨hz0,hz1,hz2⟩:=hzz
 go_region_law (refine Bm _ rfl (.tmp 19) (.tmp 21) 99 rfl base 111 i0 (.agg #[Φ 0,Φ 0,Γ 0,Γ 0,Γ 0,Γ 0,Γ 0,Γ 0,Γ 0,Γ 0,Γ 0,Γ 0]) 12 96 Tryz.underlying99 hi hz0 hz1 hz2 rfl Zd fv n xs Λ153 ?hown (Ψ W7.heap.size 0) 1 1 [Φ fn,Φ 0,Γ v0,Γ 0,Γ 0,Γ 0,Γ 0,Γ 0,Γ 0,Γ 0,Γ 0,Γ 0] Λ153 rfl ?hnews Λ154 Zd Λ156 Zo ?hbase (W7.heap.size+1) ?hH ?_;(case hown=>exact Λ17);(case hnews=>exact Λ123);(case hbase=>have h1:=OV'.o.size;simp;omega);(case hH=>simp);intro g1 cap w8 hown8 hg8 hat8 hlt8 hkp8;have HP8:=Az.m hkp8;have KT8:=Az.m (Ed (Bl (Ba KT'.o _)) hg8 (Kr OW'.o KT'.o Zd));have tc8:w8.cell? (Ψ tb 1)=some fv:=(Aa KT8.o 1).trans rfl;have tf8:=Ab KT8.o 1;have OW8:=Az.m hown8;have HG8:=Az.m hg8;have HA8:=Az.m hat8;clear hown8 hg8 hat8 hkp8)
 all_goals go_end0
 all_goals
  refine ⟨rfl,g1,cap,Ae KT8.o 1 _ rfl,Ct OW8.o (Kr OW8.o KT8.o Zd) _,?_,HA8.o.imp (fun h=>h) (fun e=>by have h1:=OV'.o.size;omega),?_⟩
  .refine Over.set_ ?_ (Or.inl (Or.inl rfl)) _
   refine ((OV'.o.mono (fun _ hk=>Or.inl hk)).below (Da (Af (Below.refl _ _) _))).then_ (S2:=fun k=>fv.ownBlock=some k) ⟨HG8.o.os,HG8.o.tape,HG8.o.output,HG8.o.size,fun k hk hn=>HG8.o.block k hk (fun e=>hn e.symm)⟩ (fun k hk=>Or.inl (Or.inr hk))
  .intro b i u hb hi
   have hne:b≠tb:=fun e=>Kr OW'.o KT'.o Zd (by rw [hb,e])
   exact (Bh (a:=(Ψ b i)) (p:=(Ψ tb 1)) hne _).trans (HP8.o b i u hb hi)
theorem Zg (tb base n:Nat) (fn:Int) (id fv r0 r1 r2 pv sv wv rv dv:Value) (xs:List Value) (gl:Nat) (v0 v1:Int) (w:World) (hgl:w.heap[gl]?=some (.cells #[Γ v0,Γ v1] 82 (0,0))) (h:w.heap[tb]?=some (.cells #[id,fv,r0,r1,r2,pv,sv,wv,rv,dv] 104 (0,0))) (hn:n<1000)
  (ho:w.ownsRow base 111 12 fv n xs) (hb:base≤w.heap.size) :
  Calls Tryz.prog 58 #[Pt tb 0,Φ fn,.slice (some (Ψ gl 0)) 2 2] w fun e w'=>e=.returned (.tuple #[])∧∃ g cap,w'.heap[tb]?=some (.cells #[id,Tv g n cap,r0,r1,r2,pv,sv,wv,rv,dv] 104 (0,0))∧w'.ownsRow base 111 12 (Tv g n cap) (n+1) (xs++[Φ fn,Φ 0,Γ v0,Γ v1,Γ 0,Γ 0,Γ 0,Γ 0,Γ 0,Γ 0,Γ 0,Γ 0])∧Over (fun k=>k=tb∨fv.ownBlock=some k) w w'∧(fv.ownBlock=some g∨w.heap.size≤g)∧(∀ b i u,fv.ownBlock=some b→xs[i]?=some u→w'.cell? (Ψ b i)=some u):=by
 have H:=Az.m h
 have HO:=Az.m ho
 have HG:=Az.m hgl
 clear h ho hgl
 go_enter Tryz.func58,Tryz.ntmps58
 go_wp2_with (first|((with_reducible refine Al (N:=6) rfl ?_);refine Am ?hg (N:=6) ?hd (cs:=#[Φ 0,Φ 0,Γ 0,Γ 0,Γ 0,Γ 0,Γ 0,Γ 0,Γ 0,Γ 0,Γ 0,Γ 0]) (t:=111) ?hr ?_;(case hd=>rfl);(case hg=>rfl);(case hr=>exact Λ18);intro gb hgb w6 hbox hbl;have B6:=Az.m hbl;have GW:=Az.m (show w.heap.size≤gb by rw [hgb];exact Nat.le_refl _);have K6:=Az.m hbox;obtain ⟨z0,z1,z2,z3,z4,z5,z6,z7,z8,z9,z10,z11⟩:=iV K6.o;have y0:=Ab K6.o;have c1:w6.cell? (Ψ tb 1)=some fv:=(Aa (Ac H.o hbl) 1).trans rfl;have f1:=Ab (Ac H.o hbl) 1;have GT12:=(Ae (cs':=#[Φ fn,Φ 0,Γ 0,Γ 0,Γ 0,Γ 0,Γ 0,Γ 0,Γ 0,Γ 0,Γ 0,Γ 0]) (Ae (cs':=#[Φ fn,Φ 0,Γ 0,Γ 0,Γ 0,Γ 0,Γ 0,Γ 0,Γ 0,Γ 0,Γ 0,Γ 0]) (Ae (cs':=#[Φ fn,Φ 0,Γ 0,Γ 0,Γ 0,Γ 0,Γ 0,Γ 0,Γ 0,Γ 0,Γ 0,Γ 0]) (Ae (cs':=#[Φ fn,Φ 0,Γ 0,Γ 0,Γ 0,Γ 0,Γ 0,Γ 0,Γ 0,Γ 0,Γ 0,Γ 0]) (Ae (cs':=#[Φ fn,Φ 0,Γ 0,Γ 0,Γ 0,Γ 0,Γ 0,Γ 0,Γ 0,Γ 0,Γ 0,Γ 0]) (Ae (cs':=#[Φ fn,Φ 0,Γ 0,Γ 0,Γ 0,Γ 0,Γ 0,Γ 0,Γ 0,Γ 0,Γ 0,Γ 0]) (Ae (cs':=#[Φ fn,Φ 0,Γ 0,Γ 0,Γ 0,Γ 0,Γ 0,Γ 0,Γ 0,Γ 0,Γ 0,Γ 0]) (Ae (cs':=#[Φ fn,Φ 0,Γ 0,Γ 0,Γ 0,Γ 0,Γ 0,Γ 0,Γ 0,Γ 0,Γ 0,Γ 0]) (Ae (cs':=#[Φ fn,Φ 0,Γ 0,Γ 0,Γ 0,Γ 0,Γ 0,Γ 0,Γ 0,Γ 0,Γ 0,Γ 0]) (Ae (cs':=#[Φ fn,Φ 0,Γ 0,Γ 0,Γ 0,Γ 0,Γ 0,Γ 0,Γ 0,Γ 0,Γ 0,Γ 0]) (Ae (cs':=#[Φ fn,Φ 0,Γ 0,Γ 0,Γ 0,Γ 0,Γ 0,Γ 0,Γ 0,Γ 0,Γ 0,Γ 0]) (Ae (cs':=#[Φ fn,Φ 0,Γ 0,Γ 0,Γ 0,Γ 0,Γ 0,Γ 0,Γ 0,Γ 0,Γ 0,Γ 0]) K6.o 0 (Φ fn) rfl) 1 (Φ 0) rfl) 2 (Γ 0) rfl) 3 (Γ 0) rfl) 4 (Γ 0) rfl) 5 (Γ 0) rfl) 6 (Γ 0) rfl) 7 (Γ 0) rfl) 8 (Γ 0) rfl) 9 (Γ 0) rfl) 10 (Γ 0) rfl) 11 (Γ 0) rfl);have HLN:gl≠gb:=Λ110;have GL12:=(Av (p:=(Ψ gb 11)) (Av (p:=(Ψ gb 10)) (Av (p:=(Ψ gb 9)) (Av (p:=(Ψ gb 8)) (Av (p:=(Ψ gb 7)) (Av (p:=(Ψ gb 6)) (Av (p:=(Ψ gb 5)) (Av (p:=(Ψ gb 4)) (Av (p:=(Ψ gb 3)) (Av (p:=(Ψ gb 2)) (Av (p:=(Ψ gb 1)) (Av (p:=(Ψ gb 0)) (Ac HG.o hbl) HLN (Φ fn)) HLN (Φ 0)) HLN (Γ 0)) HLN (Γ 0)) HLN (Γ 0)) HLN (Γ 0)) HLN (Γ 0)) HLN (Γ 0)) HLN (Γ 0)) HLN (Γ 0)) HLN (Γ 0)) HLN (Γ 0));have hcp:=run_copy_cells (P:=Tryz.prog) (s12 w6 gb (Φ fn) (Φ 0) (Γ 0) (Γ 0) (Γ 0) (Γ 0) (Γ 0) (Γ 0) (Γ 0) (Γ 0) (Γ 0) (Γ 0)) 78 78 3 82 gb 2 10 10 (Ψ gl 0) 2 2 [Γ v0,Γ v1] Tryz.underlying78 Zk rfl (fun j v hj=>by rw [Dj];exact (Aa GL12 j).trans (by simpa using hj)) (fun j hj=>by rw [Aa GT12 (2+j)];have hj2:j<2:=hj;rcases j with _|_|_<;>first|rfl|omega) (fun j hj=>Ab GT12 (2+j)) Λ154;clear GT12 GL12 HLN;clear hbox hbl hgb))
 have HNE:=Az.m (show tb≠gb by have h1:=Bb H.o;have h2:=GW.o;omega)
 have HNO:=Az.m (show some gb≠fv.ownBlock from fun e=>by have h1:=Gk HO.o gb e.symm;have h2:=GW.o;omega)
 have GT:((s12 w6 gb (Φ fn) (Φ 0) (Γ 0) (Γ 0) (Γ 0) (Γ 0) (Γ 0) (Γ 0) (Γ 0) (Γ 0) (Γ 0) (Γ 0)).setCells gb 2 [Γ v0,Γ v1]).heap[gb]?=some (.cells #[Φ fn,Φ 0,Γ v0,Γ v1,Γ 0,Γ 0,Γ 0,Γ 0,Γ 0,Γ 0,Γ 0,Γ 0] 111 (0,0)):=(Ae (cs':=#[Φ fn,Φ 0,Γ v0,Γ v1,Γ 0,Γ 0,Γ 0,Γ 0,Γ 0,Γ 0,Γ 0,Γ 0]) (Ae (cs':=#[Φ fn,Φ 0,Γ v0,Γ 0,Γ 0,Γ 0,Γ 0,Γ 0,Γ 0,Γ 0,Γ 0,Γ 0]) (p12 K6.o) 2 (Γ v0) rfl) 3 (Γ v1) rfl)
 have KT:((s12 w6 gb (Φ fn) (Φ 0) (Γ 0) (Γ 0) (Γ 0) (Γ 0) (Γ 0) (Γ 0) (Γ 0) (Γ 0) (Γ 0) (Γ 0)).setCells gb 2 [Γ v0,Γ v1]).heap[tb]?=some (.cells #[id,fv,r0,r1,r2,pv,sv,wv,rv,dv] 104 (0,0)):=(Av (p:=(Ψ gb 3)) (Av (p:=(Ψ gb 2)) (f12 (Ac H.o B6.o) HNE.o) HNE.o (Γ v0)) HNE.o (Γ v1))
 have OW:((s12 w6 gb (Φ fn) (Φ 0) (Γ 0) (Γ 0) (Γ 0) (Γ 0) (Γ 0) (Γ 0) (Γ 0) (Γ 0) (Γ 0) (Γ 0)).setCells gb 2 [Γ v0,Γ v1]).ownsRow base 111 12 fv n xs:=(Ct (p:=(Ψ gb 3)) (Ct (p:=(Ψ gb 2)) (o12 (Jb HO.o B6.o) HNO.o) HNO.o (Γ v0)) HNO.o (Γ v1))
 have OV:Over (fun k=>k=tb) w ((s12 w6 gb (Φ fn) (Φ 0) (Γ 0) (Γ 0) (Γ 0) (Γ 0) (Γ 0) (Γ 0) (Γ 0) (Γ 0) (Γ 0) (Γ 0)).setCells gb 2 [Γ v0,Γ v1]):=(((((((((((((((Over.of_below (fun k=>k=tb) B6.o).set_ (p:=(Ψ gb 0)) (Or.inr GW.o) (Φ fn)).set_ (p:=(Ψ gb 1)) (Or.inr GW.o) (Φ 0)).set_ (p:=(Ψ gb 2)) (Or.inr GW.o) (Γ 0)).set_ (p:=(Ψ gb 3)) (Or.inr GW.o) (Γ 0)).set_ (p:=(Ψ gb 4)) (Or.inr GW.o) (Γ 0)).set_ (p:=(Ψ gb 5)) (Or.inr GW.o) (Γ 0)).set_ (p:=(Ψ gb 6)) (Or.inr GW.o) (Γ 0)).set_ (p:=(Ψ gb 7)) (Or.inr GW.o) (Γ 0)).set_ (p:=(Ψ gb 8)) (Or.inr GW.o) (Γ 0)).set_ (p:=(Ψ gb 9)) (Or.inr GW.o) (Γ 0)).set_ (p:=(Ψ gb 10)) (Or.inr GW.o) (Γ 0)).set_ (p:=(Ψ gb 11)) (Or.inr GW.o) (Γ 0)).set_ (p:=(Ψ gb 2)) (Or.inr GW.o) (Γ v0)).set_ (p:=(Ψ gb 3)) (Or.inr GW.o) (Γ v1))
 (try delta s12 at GT);(try delta s12 at KT);(try delta s12 at OW);(try delta s12 at OV)
 generalize (((((((((((((w6.setCell (Ψ gb 0) (Φ fn)).setCell (Ψ gb 1) (Φ 0)).setCell (Ψ gb 2) (Γ 0)).setCell (Ψ gb 3) (Γ 0)).setCell (Ψ gb 4) (Γ 0)).setCell (Ψ gb 5) (Γ 0)).setCell (Ψ gb 6) (Γ 0)).setCell (Ψ gb 7) (Γ 0)).setCell (Ψ gb 8) (Γ 0)).setCell (Ψ gb 9) (Γ 0)).setCell (Ψ gb 10) (Γ 0)).setCell (Ψ gb 11) (Γ 0)).setCells gb 2 [Γ v0,Γ v1])=W7 at GT KT OW OV ⊢
 obtain ⟨gc0,gc1,gc2,gc3,gc4,gc5,gc6,gc7,gc8,gc9,gc10,gc11⟩:=iV GT
 have tc1:W7.cell? (Ψ tb 1)=some fv:=(Aa KT 1).trans rfl
 have tf1:=Ab KT 1
 have tc1a:(W7.alloc (.cells #[Φ fn,Φ 0,Γ v0,Γ v1,Γ 0,Γ 0,Γ 0,Γ 0,Γ 0,Γ 0,Γ 0,Γ 0] 111)).cell? (Ψ tb 1)=some fv:=(Aa (Ba KT _) 1).trans rfl
 have GT':=Az.m GT
 have KT':=Az.m KT
 have OW':=Az.m OW
 have OV':=Az.m OV
 clear GT KT OW OV
 obtain ⟨i0,hi,hzz⟩:=Option.map_eq_some_iff.1 (show (Tryz.prog.info? 111).map (fun i=>(i.zero,i.size,i.bytes))=some (some (.agg #[Φ 0,Φ 0,Γ 0,Γ 0,Γ 0,Γ 0,Γ 0,Γ 0,Γ 0,Γ 0,Γ 0,Γ 0]),12,96) by kernel_rfl)
 simp only [Prod.mk.injEq] at hzz
 obtain ⟨hz0,hz1,hz2⟩:=hzz
 go_region_law (refine Bm _ rfl (.tmp 19) (.tmp 21) 99 rfl base 111 i0 (.agg #[Φ 0,Φ 0,Γ 0,Γ 0,Γ 0,Γ 0,Γ 0,Γ 0,Γ 0,Γ 0,Γ 0,Γ 0]) 12 96 Tryz.underlying99 hi hz0 hz1 hz2 rfl Zd fv n xs Λ153 ?hown (Ψ W7.heap.size 0) 1 1 [Φ fn,Φ 0,Γ v0,Γ v1,Γ 0,Γ 0,Γ 0,Γ 0,Γ 0,Γ 0,Γ 0,Γ 0] Λ153 rfl ?hnews Λ154 Zd Λ156 Zo ?hbase (W7.heap.size+1) ?hH ?_;(case hown=>exact Λ17);(case hnews=>exact Λ123);(case hbase=>have h1:=OV'.o.size;simp;omega);(case hH=>simp);intro g1 cap w8 hown8 hg8 hat8 hlt8 hkp8;have HP8:=Az.m hkp8;have KT8:=Az.m (Ed (Bl (Ba KT'.o _)) hg8 (Kr OW'.o KT'.o Zd));have tc8:w8.cell? (Ψ tb 1)=some fv:=(Aa KT8.o 1).trans rfl;have tf8:=Ab KT8.o 1;have OW8:=Az.m hown8;have HG8:=Az.m hg8;have HA8:=Az.m hat8;clear hown8 hg8 hat8 hkp8)
 all_goals go_end0
 all_goals
  refine ⟨rfl,g1,cap,Ae KT8.o 1 _ rfl,Ct OW8.o (Kr OW8.o KT8.o Zd) _,?_,HA8.o.imp (fun h=>h) (fun e=>by have h1:=OV'.o.size;omega),?_⟩
  .refine Over.set_ ?_ (Or.inl (Or.inl rfl)) _
   refine ((OV'.o.mono (fun _ hk=>Or.inl hk)).below (Da (Af (Below.refl _ _) _))).then_ (S2:=fun k=>fv.ownBlock=some k) ⟨HG8.o.os,HG8.o.tape,HG8.o.output,HG8.o.size,fun k hk hn=>HG8.o.block k hk (fun e=>hn e.symm)⟩ (fun k hk=>Or.inl (Or.inr hk))
  .intro b i u hb hi
   have hne:b≠tb:=fun e=>Kr OW'.o KT'.o Zd (by rw [hb,e])
   exact (Bh (a:=(Ψ b i)) (p:=(Ψ tb 1)) hne _).trans (HP8.o b i u hb hi)
end
end Go.Proofs.YtlejhikddkdanaaGreat.Wk
