/- TopSame, part 9: lemmas on the way. -/
import Derived.Test.YtlejhikddkdanaaGreatM8
import Derived.Test.YtlejhikddkdanaaGreatRows
set_option maxHeartbeats 8000000
set_option maxRecDepth 1000000
set_option linter.unusedVariables false
set_option linter.unusedSimpArgs false
namespace Go.Proofs.YtlejhikddkdanaaGreat.Mdl
open RowKit PTopSame Wk Fns YtlejhikddkdanaaGreatW.PrintWords YtlejhikddkdanaaGreatW.PrintLast YtlejhikddkdanaaGreatW.PrintMore
variable {c:Cf} {tid:Int} {A:Ad} {T:Td} {B:Nat→Prop} {w0 w w1 w2 w6 w7:World} {fv fv':Value} {s s':St} {l l' fs:List Fr} {f f':Fr} {fb cap ga gb qb thb:Nat}
section
attribute [local go_sem] Cs Cq De Dd Cj Ci Cr Cp
def Lay (c:Cf) (pb wb:Nat) (m:Loc→Int) (w:World):Prop:=∃ ws,IsMem pb wb ws w∧(ws.length:Int)=c.size∧∀ x,c.has x=true→rd ws (c.addr x)=m x
def Vm (pb wb k:Nat):Prop:=k=pb∨k=wb
variable {pb wb:Nat} {m m1:Loc→Int} {w w1:World}
theorem Lay.same (h:Lay c pb wb m w) (hb:Below w.heap.size w w1):Lay c pb wb m w1:=h.elim fun ws h=>⟨ws,h.1.same hb,h.2⟩
theorem Lay.over {S:Nat→Prop} (h:Lay c pb wb m w) (ho:Over S w w1) (h1:¬ S pb) (h2:¬ S wb):Lay c pb wb m w1:=h.elim fun ws h=>⟨ws,h.1.over ho h1 h2,h.2⟩
theorem Lay.lt (h:Lay c pb wb m w):pb<w.heap.size∧wb<w.heap.size:=h.elim fun ws h=>⟨h.1.head.elim fun st h=>Bb h,Bb h.1.row⟩
theorem Il (G:Good c tid) {x:Loc} {a:Int} (ha:a=c.addr x) (hx:c.has x=true) (v:Int) (h:Lay c pb wb m w) :
  Calls Tryz.prog 66 #[Pt pb 0,Φ a,Γ v] w fun e w'=>e=.returned (Φ 0)∧Lay c pb wb (upd m x v) w'∧Over (Vm pb wb) w w':=by
 obtain ⟨ws,h1,h2,h3⟩:=h
 have hr:=Dv G hx
 subst ha
 refine (Qm pb wb ws (c.addr x) v w h1 hr.1 Zo).mono ?_
 rintro e w2 ⟨rfl,h4,h5⟩
 exact ⟨rfl,⟨_,h4,by rw [List.length_set];exact h2,Wg G hx h2 h3 v⟩,h5⟩
theorem kE (W:World):Calls Tryz.prog 39 #[Ha c] W fun e W'=>e=.returned (Φ c.sE)∧Below W.heap.size W W':=(plan_Plan_Sentinels.calls c.algo c.th c.ns c.lv c.batch c.probes c.scan c.sl c.wI c.sE c.hZ c.lK c.nA c.tA c.size _ W rfl)
theorem qP (W:World):Calls Tryz.prog 35 #[Ha c] W fun e W'=>e=.returned (Φ c.size)∧Below W.heap.size W W':=(plan_Plan_Size.calls c.algo c.th c.ns c.lv c.batch c.probes c.scan c.sl c.wI c.sE c.hZ c.lK c.nA c.tA c.size _ W rfl)
theorem rC {n:Int} (h:n=1∨n=2∨n=3):core_link.f 8 n=some (n*2):=by rcases h with rfl|rfl|rfl<;>kernel_rfl
theorem kD {n:Int} (h:n=1∨n=2∨n=3) (W:World):Calls Tryz.prog 67 #[Φ n] W fun e W'=>e=.returned (Γ (n*2))∧Below W.heap.size W W':=core_link.calls 8 n _ W (rC h)
structure LayAt (c:Cf) (pb wb gx gc:Nat) (w0:World) (m:Loc→Int) (w:World):Prop where
 lay:Lay c pb wb m w
 over:Over (Vm pb wb) w0 w
 plan:w.heap[gx]?=some (.cells #[Φ c.algo,Φ c.th,Φ c.ns,Φ c.lv,Φ c.batch,Φ c.probes,Φ c.scan,Φ c.sl,Φ c.wI,Φ c.sE,Φ c.hZ,Φ c.lK,Φ c.nA,Φ c.tA,Φ c.size] 85 (0,0))
 conf:w.heap[gc]?=some (.cells #[Φ c.algo,Φ c.th,Φ c.ns,Φ c.lv,Φ c.batch,Φ c.probes,Φ c.scan] 23 (0,0))
 gx:w0.heap.size≤gx
 gc:w0.heap.size≤gc
 pb:pb<w0.heap.size
 wb:wb<w0.heap.size
namespace LayAt
variable {gx gc:Nat} {w0:World}
theorem same (h:LayAt c pb wb gx gc w0 m w) (hb:Below w.heap.size w w1):LayAt c pb wb gx gc w0 m w1:=⟨h.lay.same hb,h.over.below hb,Ac h.plan hb,Ac h.conf hb,h.gx,h.gc,h.pb,h.wb⟩
theorem drew (h:LayAt c pb wb gx gc w0 m w):LayAt c pb wb gx gc w0 m w.drew:=h.same (Da (Below.refl _ _))
theorem stored (h:LayAt c pb wb gx gc w0 m w) (hl:Lay c pb wb m1 w1) (ho:Over (Vm pb wb) w w1):LayAt c pb wb gx gc w0 m1 w1:=
 ⟨hl,h.over.then_ ho (fun _ h=>.inl h),ho.blk h.plan (by have:=h.gx;have:=h.pb;have:=h.wb;rintro (e|e)<;>omega),ho.blk h.conf (by have:=h.gc;have:=h.pb;have:=h.wb;rintro (e|e)<;>omega),h.gx,h.gc,h.pb,h.wb⟩
theorem cells (h:LayAt c pb wb gx gc w0 m w):w.cell? (Ψ gx 0)=some (Φ c.algo)∧w.cell? (Ψ gx 1)=some (Φ c.th)∧w.cell? (Ψ gx 2)=some (Φ c.ns)∧w.cell? (Ψ gx 3)=some (Φ c.lv)∧w.cell? (Ψ gx 4)=some (Φ c.batch)∧w.cell? (Ψ gx 5)=some (Φ c.probes)∧w.cell? (Ψ gx 6)=some (Φ c.scan)∧w.cell? (Ψ gx 7)=some (Φ c.sl)∧w.cell? (Ψ gx 8)=some (Φ c.wI)∧w.cell? (Ψ gx 9)=some (Φ c.sE)∧w.cell? (Ψ gx 10)=some (Φ c.hZ)∧w.cell? (Ψ gx 11)=some (Φ c.lK)∧w.cell? (Ψ gx 12)=some (Φ c.nA)∧w.cell? (Ψ gx 13)=some (Φ c.tA)∧w.cell? (Ψ gx 14)=some (Φ c.size)∧w.cell? (Ψ gc 0)=some (Φ c.algo)∧w.cell? (Ψ gc 1)=some (Φ c.th)∧w.cell? (Ψ gc 2)=some (Φ c.ns)∧w.cell? (Ψ gc 3)=some (Φ c.lv)∧w.cell? (Ψ gc 4)=some (Φ c.batch)∧w.cell? (Ψ gc 5)=some (Φ c.probes)∧w.cell? (Ψ gc 6)=some (Φ c.scan):=⟨(Aa h.plan 0).trans rfl,(Aa h.plan 1).trans rfl,(Aa h.plan 2).trans rfl,(Aa h.plan 3).trans rfl,(Aa h.plan 4).trans rfl,(Aa h.plan 5).trans rfl,(Aa h.plan 6).trans rfl,(Aa h.plan 7).trans rfl,(Aa h.plan 8).trans rfl,(Aa h.plan 9).trans rfl,(Aa h.plan 10).trans rfl,(Aa h.plan 11).trans rfl,(Aa h.plan 12).trans rfl,(Aa h.plan 13).trans rfl,(Aa h.plan 14).trans rfl,(Aa h.conf 0).trans rfl,(Aa h.conf 1).trans rfl,(Aa h.conf 2).trans rfl,(Aa h.conf 3).trans rfl,(Aa h.conf 4).trans rfl,(Aa h.conf 5).trans rfl,(Aa h.conf 6).trans rfl⟩
end LayAt
theorem iB {P:Program} {n:FuncId} {args:Array Value} {R:Ending→World→Prop} {gx gc:Nat} {w0:World} (hI:LayAt c pb wb gx gc w0 m w) (h:LayAt c pb wb gx gc w0 m w→Calls P n args w R):Calls P n args w R:=h hI
def Nw (c:Cf) (n:Int):Loc→Int
 |.gl i=>if i=0 then (c.sE+1)*2 else 0
 |.link k=>if c.sE+1≤k∧k<n then k+1 else 0
 |_=>0
theorem aW:upd (fun _=>0) (.gl 0) ((c.sE+1)*2)=Nw c (c.sE+1):=by
 funext x
 unfold upd Nw
 cases x with
 |gl i=>by_cases h:i=0<;>simp [h]
 |link k=>rw [if_neg (by intro h;cases h)];dsimp only;rw [if_neg Zo]
 |_=>exact if_neg (by intro h;cases h)
theorem eA {n:Int} (h:c.sE+1≤n):upd (Nw c n) (.link n) (n+1)=Nw c (n+1):=by
 funext x
 unfold upd Nw
 cases x with
 |link k=>
  by_cases hk:k=n
  .subst hk
   rw [if_pos rfl]
   dsimp only
   rw [if_pos Zo]
  .rw [if_neg (by intro h;injection h with h;exact hk h)]
   dsimp only
   by_cases h2:c.sE+1≤k∧k<n
   .rw [if_pos h2,if_pos Zo]
   .rw [if_neg h2,if_neg Zo]
 |_=>exact if_neg (by intro h;cases h)
def Js (c:Cf) (j:Int):Loc→Int
 |.gl i=>if i=0 then (c.sE+1)*2 else if i=2 then 1 else 0
 |.link k=>if c.sE+1≤k∧k<c.ns then k+1 else 0
 |.nd n f=>if n=1∧f=3 then c.lv else if n=2∧f=0 then 18446744073709551615 else if n=1∧5≤f∧f<5+j then 4 else 0
 |_=>0
theorem aV:upd (Nw c c.ns) (.gl 2) 1=fun x=>match x with|.nd _ _=>0|x=>Js c 0 x:=by
 funext x
 unfold upd Nw Js
 cases x with
 |gl i=>
  by_cases h:i=2
  .subst h;rfl
  .rw [if_neg (by intro e;injection e with e;exact h e)]
   dsimp only
   by_cases h0:i=0
   .rw [if_pos h0,if_pos h0]
   .rw [if_neg h0,if_neg h0,if_neg h]
 |_=>exact if_neg (by intro h;cases h)
theorem lE:upd (upd (upd (Nw c c.ns) (.gl 2) 1) (.nd 1 3) c.lv) (.nd 2 0) 18446744073709551615=Js c 0:=by
 rw [aV]
 funext x
 unfold upd Js
 cases x with
 |nd n f=>
  by_cases h1:n=2∧f=0
  .obtain ⟨rfl,rfl⟩:=h1
   rfl
  .rw [if_neg Λ121]
   by_cases h2:n=1∧f=3
   .obtain ⟨rfl,rfl⟩:=h2
    rfl
   .rw [if_neg (by intro e;injection e with e1 e2;exact h2 ⟨e1,e2⟩)]
    dsimp only
    rw [if_neg h2,if_neg h1,if_neg Zo]
 |_=>rw [if_neg (by intro h;cases h),if_neg (by intro h;cases h)]
theorem aX {j:Int} (h:0≤j):upd (Js c j) (.nd 1 (5+j)) 4=Js c (j+1):=by
 funext x
 unfold upd Js
 cases x with
 |nd n f=>
  by_cases h1:n=1∧f=5+j
  .obtain ⟨rfl,rfl⟩:=h1
   rw [if_pos rfl]
   dsimp only
   rw [if_neg Zo,if_neg Zo,if_pos Zo]
  .rw [if_neg Λ121]
   dsimp only
   by_cases h2:n=1∧f=3
   .rw [if_pos h2,if_pos h2]
   .rw [if_neg h2,if_neg h2]
    by_cases h3:n=2∧f=0
    .rw [if_pos h3,if_pos h3]
    .rw [if_neg h3,if_neg h3]
     by_cases h4:n=1∧5≤f∧f<5+j
     .rw [if_pos h4,if_pos Zo]
     .rw [if_neg h4,if_neg Zo]
 |_=>exact if_neg (by intro h;cases h)
theorem eB (ha:c.algo≠0):Js c c.lv=No c:=by
 funext x
 unfold Js No
 cases x with
 |nd n f=>dsimp only;rw [if_neg ha]
 |_=>rfl
theorem iC (ha:c.algo=0):upd (Nw c c.ns) (.gl 2) 1=No c:=by
 rw [aV]
 funext x
 unfold Js No
 cases x with
 |nd n f=>dsimp only;rw [if_pos ha]
 |_=>rfl
theorem iE {gx gc:Nat} {w0 wc w2:World} (h:Lay c pb wb m w0) (hb:Below w0.heap.size w0 wc) (hx:wc.heap[gx]?=some (.cells #[Φ c.algo,Φ c.th,Φ c.ns,Φ c.lv,Φ c.batch,Φ c.probes,Φ c.scan,Φ c.sl,Φ c.wI,Φ c.sE,Φ c.hZ,Φ c.lK,Φ c.nA,Φ c.tA,Φ c.size] 85 (0,0))) (hc:w2.heap[gc]?=some (.cells #[Φ c.algo,Φ c.th,Φ c.ns,Φ c.lv,Φ c.batch,Φ c.probes,Φ c.scan] 23 (0,0))) (gcl:w0.heap.size≤gc) (gxl:w0.heap.size≤gx) (e:w2=(((((((wc.setCell (Ψ gc 0) (Φ c.algo)).setCell (Ψ gc 1) (Φ c.th)).setCell (Ψ gc 2) (Φ c.ns)).setCell (Ψ gc 3) (Φ c.lv)).setCell (Ψ gc 4) (Φ c.batch)).setCell (Ψ gc 5) (Φ c.probes)).setCell (Ψ gc 6) (Φ c.scan))) (hz:wc.heap[gc]?=some (.cells #[Φ 0,Φ 0,Φ 0,Φ 0,Φ 0,Φ 0,Φ 0] 23 (0,0))):LayAt c pb wb gx gc w0 m w2:=by
 have ho:Over (fun k=>k=gc) wc w2:=by
  rw [e]
  exact (((((((Over.refl (fun k=>k=gc) wc).set_ (Or.inl rfl) _).set_ (Or.inl rfl) _).set_ (Or.inl rfl) _).set_ (Or.inl rfl) _).set_ (Or.inl rfl) _).set_ (Or.inl rfl) _).set_ (Or.inl rfl) _
 have hne:gx≠gc:=An hx hz Zd
 exact ⟨(h.same hb).over ho (by have:=h.lt;omega) (by have:=h.lt;omega),(Over.of_below _ hb).then_ ho (fun k hk=>.inr (by rw [hk];exact gcl)),ho.blk hx hne,hc,gxl,gcl,h.lt.1,h.lt.2⟩
theorem iD (G:Good c tid) (w:World) (h:Lay c pb wb (fun _=>0) w) :
  Calls Tryz.prog 36 #[Pt pb 0,Ha c] w fun e w'=>e=.returned (.tuple #[])∧Lay c pb wb (No c) w'∧Over (Vm pb wb) w w':=by
 have H:=Az.m h
 have hsn:c.sE=0∨c.sE=2:=by unfold Cf.sE;split<;>simp
 have hs1:=Ak (x:=c.sE+1) Zo Zo
 have HSN:=Az.m hsn
 have HN:=Az.m G.ns
 clear h hsn
 unfold Ha
 go_enter Tryz.func36,Tryz.ntmps36
 go_wp2_with (first|((with_reducible refine Al (N:=3) rfl ?_);go_must (refine Am ?hg (N:=3) ?hd (cs:=#[Φ c.algo,Φ c.th,Φ c.ns,Φ c.lv,Φ c.batch,Φ c.probes,Φ c.scan,Φ c.sl,Φ c.wI,Φ c.sE,Φ c.hZ,Φ c.lK,Φ c.nA,Φ c.tA,Φ c.size]) (t:=85) ?hr ?_;(case hd=>rfl);(case hg=>rfl);(case hr=>exact Λ18);intro gx hgx wgx hbox hbl;have HX:=Az.m hbox;have HGX:=Az.m (Nat.le_of_eq hgx.symm);have HB:=Az.m hbl;obtain ⟨p0,p1,p2,p3,p4,p5,p6,p7,p8,p9,p10,p11,p12,p13,p14⟩:=Nq hbox;clear hbox hbl hgx))|(go_at_call 65;refine (kG _).mono ?_;rintro e w1 ⟨rfl,hb⟩;have h1:=Ag HB.o hb;have hx:=Ac HX.o hb;clear HX HB p0 p1 p2 p3 p4 p5 p6 p7 p8 p9 p10 p11 p12 p13 p14;have HX:=Az.m hx;have HB:=Az.m h1;clear hb h1 hx)|((with_reducible refine Al (N:=4) rfl ?_);go_must (refine Am ?hg (N:=4) ?hd (cs:=#[Φ 0,Φ 0,Φ 0,Φ 0,Φ 0,Φ 0,Φ 0]) (t:=23) ?hr ?_;(case hd=>rfl);(case hg=>rfl);(case hr=>exact Λ18);intro gc hgc wgc hbox hbl;have HC:=Az.m hbox;have HGC:=Az.m (Nat.le_of_eq hgc.symm);have h1:=Ag HB.o hbl;have hx:=Ac HX.o hbl;have HS:=Az.m HB.o.size;clear HX HB;have HX:=Az.m hx;have HB:=Az.m h1;obtain ⟨z0,z1,z2,z3,z4,z5,z6⟩:=bc7 hbox;have zf:=Ab hbox;clear hbox hbl hgc h1 hx))|((with_reducible refine Bd (t:=23) (p:=4) rfl ?_);go_must (refine Aw (w1:=(((((((wgc.setCell (Ψ gc 0) (Φ c.algo)).setCell (Ψ gc 1) (Φ c.th)).setCell (Ψ gc 2) (Φ c.ns)).setCell (Ψ gc 3) (Φ c.lv)).setCell (Ψ gc 4) (Φ c.batch)).setCell (Ψ gc 5) (Φ c.probes)).setCell (Ψ gc 6) (Φ c.scan))) ?hg (t:=23) (p:=4) rfl ?hn ?hr ?_;(case hg=>rfl);(case hn=>rfl);(case hr=>exact Λ25);intro w2 e2;have hc:w2.heap[gc]?=some (.cells #[Φ c.algo,Φ c.th,Φ c.ns,Φ c.lv,Φ c.batch,Φ c.probes,Φ c.scan] 23 (0,0)):=(by rw [e2];exact Tp HC.o);have hm:LayAt c pb wb gx gc w (fun _=>0) w2:=iE H.o HB.o HX.o hc (Nat.le_trans HS.o HGC.o) (HGX.o) e2 HC.o;clear HX HB HC e2 zf z0 z1 z2 z3 z4 z5 z6;have H0:=Az.m hm;have FX:=hm.cells;clear hc hm))|(go_at_call 39;refine (kE (c:=c) _).mono ?_;rintro e w2 ⟨rfl,hb⟩;have hm:=H0.o.same hb;clear hb;clear H0 FX;have H0:=Az.m hm;have FX:=hm.cells;clear hm)|(go_at_call 67;refine (kD (n:=c.sE+1) (by have:=HSN.o;omega) _).mono ?_;rintro e w2 ⟨rfl,hb⟩;have hm:=H0.o.same hb;clear hb;clear H0 FX;have H0:=Az.m hm;have FX:=hm.cells;clear hm)|(go_at_call 66;refine (Il G (x:=.gl 0) rfl (by rfl) _ H0.o.lay).mono ?_;rintro e w2 ⟨rfl,hl,hb⟩;have hm:=H0.o.stored hl hb;clear hl hb;clear H0 FX;have H0:=Az.m hm;have FX:=hm.cells;clear hm))
 refine π ?_
 go_loopw [6] (fun i wr=>∃ j:Int,i=Φ j∧c.sE+1≤j∧j≤c.ns∧Az (LayAt c pb wb gx gc w (Nw c j) wr)) (fun i _=>(c.ns-intOf i).toNat)
 case atStart=>
  have h:=H0.o
  rw [aW] at h
  exact ⟨_,rfl,Int.le_refl _,by have:=HN.o;omega,⟨h⟩⟩
 case round=>
  obtain ⟨j,rfl,hj0,hj1,hw⟩:=hrel
  clear H0 FX
  have H0:=hw
  have FX:=hw.out.cells
  clear hw
  by_cases hj:j<c.ns
  .have b0:=Ca hj
   have w1:=Ak (x:=j+1) (by have:=HSN.o;omega) Λ104
   have hx:c.has (.link j)=true:=decide_eq_true ⟨by have:=HSN.o;omega,hj1⟩
   have HX:=Az.m hx
   have HJ:=Az.m (And.intro hj0 hj)
   clear hx hj0 hj1 hj
   go_wp2_with (first|(go_at_call 68;refine (kF G HX.o _).mono ?_;rintro e w2 ⟨rfl,hb⟩;have hm:=H0.o.same hb;clear hb;clear H0 FX;have H0:=Az.m hm;have FX:=hm.cells;clear hm)|(go_at_call 66;refine (Il G (x:=.link j) rfl HX.o _ H0.o.lay).mono ?_;rintro e w2 ⟨rfl,hl,hb⟩;have hm:=H0.o.stored hl hb;clear hl hb;clear H0 FX;have H0:=Az.m hm;have FX:=hm.cells;clear hm))
   have h:=H0.o
   rw [eA HJ.o.1] at h
   exact ⟨⟨_,rfl,by have:=HJ.o;omega,by have:=HJ.o;omega,⟨h⟩⟩,by have:=HJ.o;show (c.ns-(j+1)).toNat<(c.ns-j).toNat;omega⟩
  .have b0:=Bq hj
   obtain rfl:j=c.ns:=Zo
   clear hj0 hj1 hj
   by_cases ha:c.algo=0
   .have b1:=As ha
    have HA:=Az.m ha
    clear ha
    go_wp2_with (first|(go_at_call 66;refine (Il G (x:=.gl 2) rfl (by rfl) _ H0.o.lay).mono ?_;rintro e w2 ⟨rfl,hl,hb⟩;have hm:=H0.o.stored hl hb;clear hl hb;clear H0 FX;have H0:=Az.m hm;have FX:=hm.cells;clear hm))
    refine bodyPost_ret (results_none rfl _ _ _) rfl ?_
    have h:=H0.o
    rw [iC HA.o] at h
    exact ⟨rfl,h.lay,h.over⟩
   .have b1:=Aj ha
    have HA:=Az.m ha
    have hse:c.sE=2:=by unfold Cf.sE;rw [if_neg ha]
    have hwi:c.wI=5+c.lv:=by unfold Cf.wI;rw [if_neg ha]
    have hlv:=G.lv
    have HLV:=Az.m hlv
    have e3:=Ak (x:=c.lv) Zo Zo
    have x13:c.has (.nd 1 3)=true:=decide_eq_true ⟨Zd,by have:=HN.o;omega,Zd,Zo⟩
    have x20:c.has (.nd 2 0)=true:=decide_eq_true ⟨Zd,by have:=HN.o;omega,Zd,Zo⟩
    have X13:=Az.m x13
    have X20:=Az.m x20
    have HWI:=Az.m hwi
    clear ha hse hwi hlv x13 x20
    go_wp2_with (first|(go_at_call 66;refine (Il G (x:=.gl 2) rfl (by rfl) _ H0.o.lay).mono ?_;rintro e w2 ⟨rfl,hl,hb⟩;have hm:=H0.o.stored hl hb;clear hl hb;clear H0 FX;have H0:=Az.m hm;have FX:=hm.cells;clear hm))
    with_reducible refine Dw (id:=10) ?_
    go_region_held3 (fun W=>W.cell? (Ψ gx 0)=some (Φ c.algo)∧W.cell? (Ψ gx 1)=some (Φ c.th)∧W.cell? (Ψ gx 2)=some (Φ c.ns)∧W.cell? (Ψ gx 3)=some (Φ c.lv)∧W.cell? (Ψ gx 4)=some (Φ c.batch)∧W.cell? (Ψ gx 5)=some (Φ c.probes)∧W.cell? (Ψ gx 6)=some (Φ c.scan)∧W.cell? (Ψ gx 7)=some (Φ c.sl)∧W.cell? (Ψ gx 8)=some (Φ c.wI)∧W.cell? (Ψ gx 9)=some (Φ c.sE)∧W.cell? (Ψ gx 10)=some (Φ c.hZ)∧W.cell? (Ψ gx 11)=some (Φ c.lK)∧W.cell? (Ψ gx 12)=some (Φ c.nA)∧W.cell? (Ψ gx 13)=some (Φ c.tA)∧W.cell? (Ψ gx 14)=some (Φ c.size)∧W.cell? (Ψ gc 0)=some (Φ c.algo)∧W.cell? (Ψ gc 1)=some (Φ c.th)∧W.cell? (Ψ gc 2)=some (Φ c.ns)∧W.cell? (Ψ gc 3)=some (Φ c.lv)∧W.cell? (Ψ gc 4)=some (Φ c.batch)∧W.cell? (Ψ gc 5)=some (Φ c.probes)∧W.cell? (Ψ gc 6)=some (Φ c.scan)) (first|assumption|exact H0.o.cells|exact H0.o.drew.cells) (((with_reducible refine Ap ?_);go_must ((with_reducible apply iB);(case hI=>iterate 8 (try (first|with_reducible exact H0.o|with_reducible apply LayAt.drew)));intro HI;first|(go_at_call 69;refine (Wj G X13.o _).mono ?_;rintro e w2 ⟨rfl,hb⟩;have hm:=HI.same hb;clear hb;clear H0 HI FX;have H0:=Az.m hm;have FX:=hm.cells;clear hm)|(go_at_call 66;refine (Il G (x:=.nd 1 3) rfl X13.o _ HI.lay).mono ?_;rintro e w2 ⟨rfl,hl,hb⟩;have hm:=HI.stored hl hb;clear hl hb;clear H0 HI FX;have H0:=Az.m hm;have FX:=hm.cells;clear hm))))
    go_wp2_with (first|(go_at_call 69;refine (Wj G X20.o _).mono ?_;rintro e w2 ⟨rfl,hb⟩;have hm:=H0.o.same hb;clear hb;clear H0 FX;have H0:=Az.m hm;have FX:=hm.cells;clear hm)|(go_at_call 66;refine (Il G (x:=.nd 2 0) rfl X20.o _ H0.o.lay).mono ?_;rintro e w2 ⟨rfl,hl,hb⟩;have hm:=H0.o.stored hl hb;clear hl hb;clear H0 FX;have H0:=Az.m hm;have FX:=hm.cells;clear hm))
    refine π ?_
    go_loopw [50] (fun i wr=>∃ j:Int,i=Φ j∧0≤j∧j≤c.lv∧Az (LayAt c pb wb gx gc w (Js c j) wr)) (fun i _=>(c.lv-intOf i).toNat)
    case atStart=>
     have h:=H0.o
     rw [lE] at h
     exact ⟨_,rfl,Int.le_refl _,by have:=HLV.o;omega,⟨h⟩⟩
    case round=>
     obtain ⟨j,rfl,hj0,hj1,hw⟩:=hrel
     clear H0 FX
     have H0:=hw
     have FX:=hw.out.cells
     clear hw
     by_cases hj:j<c.lv
     .have b3:=Ca hj
      have w1:=Ak (x:=j+1) Zo (by have:=HLV.o;omega)
      have w2:=Ak (x:=5+j) Zo (by have:=HLV.o;omega)
      have hx:c.has (.nd 1 (5+j))=true:=decide_eq_true ⟨Zd,by have:=HN.o;have:=HSN.o;omega,Zo,by have:=HWI.o;omega⟩
      have HX:=Az.m hx
      have HJ:=Az.m (And.intro hj0 hj)
      clear hx hj0 hj1 hj
      go_wp2_with (first|(go_at_call 69;refine (Wj G HX.o _).mono ?_;rintro e w2 ⟨rfl,hb⟩;have hm:=H0.o.same hb;clear hb;clear H0 FX;have H0:=Az.m hm;have FX:=hm.cells;clear hm)|(go_at_call 67;refine (kD (n:=2) Zd _).mono ?_;rintro e w2 ⟨rfl,hb⟩;have hm:=H0.o.same hb;clear hb;clear H0 FX;have H0:=Az.m hm;have FX:=hm.cells;clear hm)|(go_at_call 66;refine (Il G (x:=.nd 1 (5+j)) rfl HX.o _ H0.o.lay).mono ?_;rintro e w2 ⟨rfl,hl,hb⟩;have hm:=H0.o.stored hl hb;clear hl hb;clear H0 FX;have H0:=Az.m hm;have FX:=hm.cells;clear hm))
      have h:=H0.o
      rw [aX HJ.o.1] at h
      exact ⟨⟨_,rfl,by have:=HJ.o;omega,by have:=HJ.o;omega,⟨h⟩⟩,by have:=HJ.o;show (c.lv-(j+1)).toNat<(c.lv-j).toNat;omega⟩
     .have b3:=Bq hj
      obtain rfl:j=c.lv:=Zo
      clear hj0 hj1 hj
      go_wp2
      go_end0
      have h:=H0.o
      rw [eB HA.o] at h
      exact ⟨rfl,h.lay,h.over⟩
theorem Gz {x y:Int} (e:x=y) (h0:0≤y) (h1:y<9223372036854775808):wrap64 x=y∧IntKind.i64.wrap x=y∧IntKind.u64.wrap x=y:=by
 subst e
 exact Ak h0 h1
def Mx (c:Cf):List S145:=[(⟨c.algo,0,2⟩:S145),⟨c.th,1,6⟩,⟨c.ns,1,64⟩,⟨c.lv,1,6⟩,⟨c.batch,1,16⟩,⟨c.probes,1,16⟩,⟨c.scan,1,64⟩]
theorem cD (k:Nat) (l:List S145) (m:Nat) (hm:l.length=m) (hk:m≤100):∀ (j:Nat),j≤m→m-j+1≤k→(∀ x ∈ l,x.f1≤x.f0∧x.f0≤x.f2)→plan_within.l0 k l m j=some true:=by
 intro j
 induction k generalizing j with
 |zero=>intro _ h;omega
 |succ k ih=>
  intro hj hk2 h
  by_cases he:j=m
  .subst he
   unfold plan_within.l0
   rw [if_neg Zo]
  .have hlt:j<l.length:=Zo
   have hr:Dn l (j:Int)=l[j]:=by
    unfold Dn
    simp [hlt]
   have hb:=h _ (List.getElem_mem hlt)
   rw [Jz k l m j Zo Zo Zo (by rw [hr];exact hb.1) (by rw [hr];exact hb.2),show wrap64 ((j:Int)+1)=((j+1:Nat):Int) from by rw [w64 Zo Zo];rfl]
   exact ih (j+1) Zo Zo h
theorem mS (G:Good c tid):plan_within.f 9 (Mx c)=some true:=by
 show plan_within.l0 9 (Mx c) (7:Nat) (0:Nat)=some true
 refine cD 9 (Mx c) 7 rfl Zd 0 Zd Zd ?_
 have h0:=G.algo
 have h1:=G.th
 have h2:=G.ns
 have h3:=G.lv
 have h4:=G.batch
 have h5:=G.probes
 have h6:=G.scan
 have hs:0≤c.sE:=by unfold Cf.sE;split<;>decide
 intro x hx
 simp only [Mx,List.mem_cons,List.not_mem_nil,or_false] at hx
 rcases hx with rfl|rfl|rfl|rfl|rfl|rfl|rfl<;>dsimp only<;>omega
theorem gH (hpl:c.pl=((2 ^ c.lv.toNat:Nat):Int)) (h:1≤c.lv∧c.lv≤6):IntKind.i64.wrap (1*2 ^ min c.lv.toNat 64)=c.pl:=by
 rw [hpl]
 have:c.lv=1∨c.lv=2∨c.lv=3∨c.lv=4∨c.lv=5∨c.lv=6:=Zo
 rcases this with e|e|e|e|e|e<;>rw [e]<;>decide
theorem Lh {w0 w w1:World} {g:Nat} (h:Below w0.heap.size w0 w) (ho:Over (fun k=>k=g) w w1) (hg:w0.heap.size≤g):Below w0.heap.size w0 w1:=
 {os:=ho.os.trans h.os,tape:=ho.tape.trans h.tape,output:=ho.output.trans h.output,size:=Nat.le_trans h.size ho.size,block:=fun i hi=>(ho.block i (Nat.lt_of_lt_of_le hi h.size) Zo).trans (h.block i hi)}
theorem Uf (G:Good c tid) (w:World) :
  Calls Tryz.prog 33 #[.agg #[Φ c.algo,Φ c.th,Φ c.ns,Φ c.lv,Φ c.batch,Φ c.probes,Φ c.scan]] w fun e w'=>e=.returned (.tuple #[Ha c,Φ 0])∧Below w.heap.size w w':=by
 have HW:=Az.m (mS G)
 by_cases ha:c.algo=0
 .have b0:=As ha
  have hb:=Dy G
  have hlv:=G.lv
  have hnd:=G.ns
  have hsl:c.sl=2:=by unfold Cf.sl;rw [if_pos ha]
  have hwi:c.wI=3:=by unfold Cf.wI;rw [if_pos ha]
  have hse:c.sE=0:=by unfold Cf.sE;rw [if_pos ha]
  have hpl:c.pl=((2 ^ c.lv.toNat:Nat):Int):=by unfold Cf.pl;rw [if_pos ha]
  have e1:=Ak (x:=2*c.lv) Zo Zo
  have e2:=Ak (x:=2*c.lv+2) Zo Zo
  have e3:=Ak (x:=5+c.lv) Zo Zo
  have h2:c.th*c.sl=c.th*2:=by rw [hsl]
  have h3:c.ns*c.wI=c.ns*3:=by rw [hwi]
  have hz:=hb.haz
  have hd:=hb.nod
  rw [h2] at hz
  rw [h3] at hd
  have k0:c.lK=8+c.th*2:=by unfold Cf.lK Cf.hZ;rw [hsl]
  have k1:c.nA=c.lK+c.ns:=rfl
  have k2:c.tA=c.nA+c.ns*3:=by unfold Cf.tA;rw [hwi]
  have k3:c.size=c.tA+c.pl:=rfl
  have hp:=hb.pl
  have e4:=Ak (x:=c.th*2) hz.1 Zo
  have e5:=Gz (x:=8+c.th*2) (y:=c.lK) k0.symm Zo Zo
  have e6:=Gz (x:=c.lK+c.ns) (y:=c.nA) rfl Zo Zo
  have e7:=Ak (x:=c.ns*3) hd.1 Zo
  have e8:=Gz (x:=c.nA+c.ns*3) (y:=c.tA) k2.symm Zo Zo
  have e9:=Gz (x:=c.tA+c.pl) (y:=c.size) rfl Zo Zo
  have b1:=Bg (a:=c.ns) (b:=0) Zo
  have b2:=Br (a:=0) (b:=c.lv) Zo
  have b3:decide (0≤c.lv)=true:=decide_eq_true Zo
  have s0:IntKind.i64.wrap (1*2 ^ min c.lv.toNat 64)=c.pl:=gH hpl hlv
  have s1:IntKind.i64.wrap (2 ^ min c.lv.toNat 64)=c.pl:=by have h:=s0;rw [Int.one_mul] at h;exact h
  have s2:IntKind.i64.wrap (1*2 ^ c.lv.toNat)=c.pl:=by have h:=s0;rw [Nat.min_eq_left Zo] at h;exact h
  have s3:IntKind.i64.wrap (2 ^ c.lv.toNat)=c.pl:=by have h:=s2;rw [Int.one_mul] at h;exact h
  have HS:=Az.m hse
  have HSL:=Az.m hsl
  have HWI:=Az.m hwi
  have HPL:=Az.m hpl
  have HLV:=Az.m hlv
  clear ha hb hlv hnd hsl hwi hse hpl h2 h3 hz hd k0 k1 k2 k3 hp
  go_enter Tryz.func33,Tryz.ntmps33
  go_wp2_with (first|((with_reducible refine Al (N:=1) rfl ?_);go_must (refine Am ?hg (N:=1) ?hd (cs:=#[Φ c.algo,Φ c.th,Φ c.ns,Φ c.lv,Φ c.batch,Φ c.probes,Φ c.scan]) (t:=23) ?hr ?_;(case hd=>rfl);(case hg=>rfl);(case hr=>exact Λ18);intro g1 hg1 wg1 hbox hbl;have H1:=Az.m hbox;have G1:=Az.m (Nat.le_of_eq hg1.symm);have HB:=Az.m hbl;obtain ⟨p0,p1,p2,p3,p4,p5,p6⟩:=bc7 H1.o;clear hbox hbl hg1))|((with_reducible refine Al (N:=2) rfl ?_);go_must (refine Am ?hg (N:=2) ?hd (cs:=#[Φ 0,Φ 0,Φ 0,Φ 0,Φ 0,Φ 0,Φ 0,Φ 0,Φ 0,Φ 0,Φ 0,Φ 0,Φ 0,Φ 0,Φ 0]) (t:=85) ?hr ?_;(case hd=>rfl);(case hg=>rfl);(case hr=>exact Λ18);intro gr hgr wgr hbox hbl;have HR:=Az.m hbox;have GR:=Az.m (Nat.le_trans HB.o.size (Nat.le_of_eq hgr.symm));have h1:=Ac H1.o hbl;have h3:=Ag HB.o hbl;have N1:=Az.m (Nat.ne_of_lt (Nat.lt_of_lt_of_eq (Bb H1.o) hgr.symm));clear H1 HB p0 p1 p2 p3 p4 p5 p6;have H1:=Az.m h1;have HB:=Az.m h3;obtain ⟨p0,p1,p2,p3,p4,p5,p6⟩:=bc7 H1.o;clear hbox hbl hgr h1 h3))|((with_reducible refine Al (N:=27) rfl ?_);go_must (refine Kd.R_lit k145 _ 145 ?hg (N:=27) ?hd (xs:=([(⟨c.algo,0,2⟩:S145),(⟨c.th,1,6⟩:S145),(⟨c.ns,1,64⟩:S145),(⟨c.lv,1,6⟩:S145),(⟨c.batch,1,16⟩:S145),(⟨c.probes,1,16⟩:S145),(⟨c.scan,1,64⟩:S145)]:List S145)) (inner:=[Φ c.algo,Φ 0,Φ 2,Φ c.th,Φ 1,Φ 6,Φ c.ns,Φ 1,Φ 64,Φ c.lv,Φ 1,Φ 6,Φ c.batch,Φ 1,Φ 16,Φ c.probes,Φ 1,Φ 16,Φ c.scan,Φ 1,Φ 64]) (ok:=fun _=>True) (okp:=fun _=>True) ?hr ?hp (fun _ hk=>hk) trivial (Below.refl _ _) (Nat.le_refl _) Zs ?_;(case hd=>rfl);(case hg=>rfl);(case hr=>exact Λ18);(case hp=>exact (Reps.c3 (show Kd.M k145 _ _ _ (⟨c.algo,0,2⟩:S145) [Φ c.algo,Φ 0,Φ 2] from (Ff _ _ _ (⟨c.algo,0,2⟩:S145))) (Reps.c3 (show Kd.M k145 _ _ _ (⟨c.th,1,6⟩:S145) [Φ c.th,Φ 1,Φ 6] from (Ff _ _ _ (⟨c.th,1,6⟩:S145))) (Reps.c3 (show Kd.M k145 _ _ _ (⟨c.ns,1,64⟩:S145) [Φ c.ns,Φ 1,Φ 64] from (Ff _ _ _ (⟨c.ns,1,64⟩:S145))) (Reps.c3 (show Kd.M k145 _ _ _ (⟨c.lv,1,6⟩:S145) [Φ c.lv,Φ 1,Φ 6] from (Ff _ _ _ (⟨c.lv,1,6⟩:S145))) (Reps.c3 (show Kd.M k145 _ _ _ (⟨c.batch,1,16⟩:S145) [Φ c.batch,Φ 1,Φ 16] from (Ff _ _ _ (⟨c.batch,1,16⟩:S145))) (Reps.c3 (show Kd.M k145 _ _ _ (⟨c.probes,1,16⟩:S145) [Φ c.probes,Φ 1,Φ 16] from (Ff _ _ _ (⟨c.probes,1,16⟩:S145))) (Reps.c3 (show Kd.M k145 _ _ _ (⟨c.scan,1,64⟩:S145) [Φ c.scan,Φ 1,Φ 64] from (Ff _ _ _ (⟨c.scan,1,64⟩:S145))) (Reps.none _ _)))))))));intro v106 w12 ho hb hg_ hnew_;clear hg_ hnew_;(try simp only [Int.reduceToNat] at ho);obtain ⟨Ao14,co14,eo14⟩:=Kd.R_slice ho;subst eo14;have HO:=Az.m ho;clear ho;have h1:=Ac H1.o hb;have h2:=Ac HR.o hb;have h3:=Ag HB.o hb;clear H1 HR HB p0 p1 p2 p3 p4 p5 p6;have H1:=Az.m h1;have HR:=Az.m h2;have HB:=Az.m h3;obtain ⟨p0,p1,p2,p3,p4,p5,p6⟩:=bc7 H1.o;clear h1 h2 h3 hb))|(go_at_call 64;refine (plan_within.calls 9 _ _ (Mx c) true _ (Kd.R_reads' HO.o).2.2 (Kd.R_reads' HO.o).2.1 HW.o).mono ?_;rintro e w13 ⟨rfl,hb⟩;clear HO;have h1:=Ac H1.o hb;have h2:=Ac HR.o hb;have h3:=Ag HB.o hb;clear H1 HR HB p0 p1 p2 p3 p4 p5 p6;have H1:=Az.m h1;have HR:=Az.m h2;have HB:=Az.m h3;obtain ⟨p0,p1,p2,p3,p4,p5,p6⟩:=bc7 H1.o;clear h1 h2 h3 hb)|((with_reducible refine Al (N:=4) rfl ?_);go_must (refine Am ?hg (N:=4) ?hd (cs:=#[Φ 0,Φ 0,Φ 0,Φ 0,Φ 0,Φ 0,Φ 0,Φ 0,Φ 0,Φ 0,Φ 0,Φ 0,Φ 0,Φ 0,Φ 0]) (t:=85) ?hr ?_;(case hd=>rfl);(case hg=>rfl);(case hr=>exact Λ18);intro gp hgp wgp hbox hbl;have HP:=Az.m hbox;have GP:=Az.m (Nat.le_trans HB.o.size (Nat.le_of_eq hgp.symm));have N2:=Az.m (Nat.ne_of_lt (Nat.lt_of_lt_of_eq (Bb H1.o) hgp.symm));have N3:=Az.m (Nat.ne_of_lt (Nat.lt_of_lt_of_eq (Bb HR.o) hgp.symm));obtain ⟨z0,z1,z2,z3,z4,z5,z6,z7,z8,z9,z10,z11,z12,z13,z14⟩:=Nq hbox;have zf:=Ab hbox;have h1:=Ac H1.o hbl;have h2:=Ac HR.o hbl;have h3:=Ag HB.o hbl;clear H1 HR HB p0 p1 p2 p3 p4 p5 p6;have H1:=Az.m h1;have HR:=Az.m h2;have HB:=Az.m h3;obtain ⟨p0,p1,p2,p3,p4,p5,p6⟩:=bc7 H1.o;clear h1 h2 h3 hbl;clear hbox hgp))|((with_reducible refine Bd (t:=85) (p:=4) rfl ?_);go_must (refine Aw (w1:=(((((((((((((((wgp.setCell (Ψ gp 0) (Φ c.algo)).setCell (Ψ gp 1) (Φ c.th)).setCell (Ψ gp 2) (Φ c.ns)).setCell (Ψ gp 3) (Φ c.lv)).setCell (Ψ gp 4) (Φ c.batch)).setCell (Ψ gp 5) (Φ c.probes)).setCell (Ψ gp 6) (Φ c.scan)).setCell (Ψ gp 7) (Φ (2*c.lv+2))).setCell (Ψ gp 8) (Φ (5+c.lv))).setCell (Ψ gp 9) (Φ 2)).setCell (Ψ gp 10) (Φ 0)).setCell (Ψ gp 11) (Φ 0)).setCell (Ψ gp 12) (Φ 0)).setCell (Ψ gp 13) (Φ 0)).setCell (Ψ gp 14) (Φ 0))) ?hg (t:=85) (p:=4) rfl ?hn ?hr ?_;(case hg=>rfl);(case hn=>rfl);(case hr=>exact Λ23);intro w2 e2;have hp:w2.heap[gp]?=some (.cells #[Φ c.algo,Φ c.th,Φ c.ns,Φ c.lv,Φ c.batch,Φ c.probes,Φ c.scan,Φ (2*c.lv+2),Φ (5+c.lv),Φ 2,Φ 0,Φ 0,Φ 0,Φ 0,Φ 0] 85 (0,0)):=(by rw [e2];exact Hs HP.o);have ho:Over (fun k=>k=gp) wgp w2:=Λ144;have h1:=ho.blk H1.o N2.o;have h2:=ho.blk HR.o N3.o;have h3:=Lh HB.o ho GP.o;clear HP H1 HR HB p0 p1 p2 p3 p4 p5 p6 e2 ho zf z0 z1 z2 z3 z4 z5 z6 z7 z8 z9 z10 z11 z12 z13 z14;have H1:=Az.m h1;have HR:=Az.m h2;have HB:=Az.m h3;have HP:=Az.m hp;obtain ⟨p0,p1,p2,p3,p4,p5,p6⟩:=bc7 H1.o;obtain ⟨q0,q1,q2,q3,q4,q5,q6,q7,q8,q9,q10,q11,q12,q13,q14⟩:=Nq hp;obtain ⟨r0,r1,r2,r3,r4,r5,r6,r7,r8,r9,r10,r11,r12,r13,r14⟩:=Nq h2;have qf:=Ab hp;have rf:=Ab h2;have n2:=N2.o;have n3:=N3.o;have m2:=N2.o.symm;have m3:=N3.o.symm;clear h1 h2 h3 hp)))
  with_reducible refine Dw (id:=6) ?_
  go_region
  go_wp2
  have hA:=Av (Av (Av HR.o N3.o (p:=(Ψ gp 7)) (Φ 2)) N3.o (p:=(Ψ gp 8)) (Φ 3)) N3.o (p:=(Ψ gp 9)) (Φ 0)
  refine bodyPost_ret (Fy rfl _ _ gr 85 _ (0,0) _ rfl (Bl (Hs (Av (Av (Av (Av (Av hA N3.o _) N3.o _) N3.o _) N3.o _) N3.o _))) Tryz.underlying85 rfl Zk) rfl ?_
  refine ⟨?_,?_⟩
  .unfold Ha
   rw [HS.o,HSL.o,HWI.o]
   rfl
  .repeat (first|with_reducible exact HB.o|with_reducible refine Aq ?_ GP.o|with_reducible refine Aq ?_ GR.o|with_reducible refine Bu ?_)
 .have b0:=Aj ha
  have hb:=Dy G
  have hlv:=G.lv
  have hnd:=G.ns
  have hsl:c.sl=2*c.lv+2:=by unfold Cf.sl;rw [if_neg ha]
  have hwi:c.wI=5+c.lv:=by unfold Cf.wI;rw [if_neg ha]
  have hse:c.sE=2:=by unfold Cf.sE;rw [if_neg ha]
  have hpl:c.pl=0:=by unfold Cf.pl;rw [if_neg ha]
  have e1:=Ak (x:=2*c.lv) Zo Zo
  have e2:=Gz (x:=2*c.lv+2) (y:=c.sl) hsl.symm Zo Zo
  have e3:=Gz (x:=5+c.lv) (y:=c.wI) hwi.symm Zo Zo
  have e4:=Ak (x:=c.th*c.sl) hb.haz.1 (by have:=hb.haz.2;omega)
  have e5:=Gz (x:=8+c.th*c.sl) (y:=c.lK) rfl (by have:=hb.haz.1;unfold Cf.lK Cf.hZ;omega) (by have:=hb.haz.2;unfold Cf.lK Cf.hZ;omega)
  have e6:=Gz (x:=c.lK+c.ns) (y:=c.nA) rfl (by have:=hb.haz.1;unfold Cf.nA Cf.lK Cf.hZ;omega) (by have:=hb.haz.2;unfold Cf.nA Cf.lK Cf.hZ;omega)
  have e7:=Ak (x:=c.ns*c.wI) hb.nod.1 (by have:=hb.nod.2;omega)
  have e8:=Gz (x:=c.nA+c.ns*c.wI) (y:=c.tA) rfl (by have:=hb.haz.1;have:=hb.nod.1;unfold Cf.tA Cf.nA Cf.lK Cf.hZ;omega) (by have:=hb.haz.2;have:=hb.nod.2;unfold Cf.tA Cf.nA Cf.lK Cf.hZ;omega)
  have e9:=Gz (x:=c.tA+0) (y:=c.size) (by unfold Cf.size;rw [hpl]) (by have:=hb.haz.1;have:=hb.nod.1;have:=hb.pl.1;unfold Cf.size Cf.tA Cf.nA Cf.lK Cf.hZ;omega) (by have:=hb.haz.2;have:=hb.nod.2;have:=hb.pl.2;unfold Cf.size Cf.tA Cf.nA Cf.lK Cf.hZ;omega)
  have e10:=e9
  rw [Int.add_zero] at e10
  have b1:=Bg (a:=c.ns) (b:=2) Zo
  have HS:=Az.m hse
  clear ha hb hlv hnd hsl hwi hse hpl
  go_enter Tryz.func33,Tryz.ntmps33
  go_wp2_with (first|((with_reducible refine Al (N:=1) rfl ?_);go_must (refine Am ?hg (N:=1) ?hd (cs:=#[Φ c.algo,Φ c.th,Φ c.ns,Φ c.lv,Φ c.batch,Φ c.probes,Φ c.scan]) (t:=23) ?hr ?_;(case hd=>rfl);(case hg=>rfl);(case hr=>exact Λ18);intro g1 hg1 wg1 hbox hbl;have H1:=Az.m hbox;have G1:=Az.m (Nat.le_of_eq hg1.symm);have HB:=Az.m hbl;obtain ⟨p0,p1,p2,p3,p4,p5,p6⟩:=bc7 H1.o;clear hbox hbl hg1))|((with_reducible refine Al (N:=2) rfl ?_);go_must (refine Am ?hg (N:=2) ?hd (cs:=#[Φ 0,Φ 0,Φ 0,Φ 0,Φ 0,Φ 0,Φ 0,Φ 0,Φ 0,Φ 0,Φ 0,Φ 0,Φ 0,Φ 0,Φ 0]) (t:=85) ?hr ?_;(case hd=>rfl);(case hg=>rfl);(case hr=>exact Λ18);intro gr hgr wgr hbox hbl;have HR:=Az.m hbox;have GR:=Az.m (Nat.le_trans HB.o.size (Nat.le_of_eq hgr.symm));have h1:=Ac H1.o hbl;have h3:=Ag HB.o hbl;have N1:=Az.m (Nat.ne_of_lt (Nat.lt_of_lt_of_eq (Bb H1.o) hgr.symm));clear H1 HB p0 p1 p2 p3 p4 p5 p6;have H1:=Az.m h1;have HB:=Az.m h3;obtain ⟨p0,p1,p2,p3,p4,p5,p6⟩:=bc7 H1.o;clear hbox hbl hgr h1 h3))|((with_reducible refine Al (N:=27) rfl ?_);go_must (refine Kd.R_lit k145 _ 145 ?hg (N:=27) ?hd (xs:=([(⟨c.algo,0,2⟩:S145),(⟨c.th,1,6⟩:S145),(⟨c.ns,1,64⟩:S145),(⟨c.lv,1,6⟩:S145),(⟨c.batch,1,16⟩:S145),(⟨c.probes,1,16⟩:S145),(⟨c.scan,1,64⟩:S145)]:List S145)) (inner:=[Φ c.algo,Φ 0,Φ 2,Φ c.th,Φ 1,Φ 6,Φ c.ns,Φ 1,Φ 64,Φ c.lv,Φ 1,Φ 6,Φ c.batch,Φ 1,Φ 16,Φ c.probes,Φ 1,Φ 16,Φ c.scan,Φ 1,Φ 64]) (ok:=fun _=>True) (okp:=fun _=>True) ?hr ?hp (fun _ hk=>hk) trivial (Below.refl _ _) (Nat.le_refl _) Zs ?_;(case hd=>rfl);(case hg=>rfl);(case hr=>exact Λ18);(case hp=>exact (Reps.c3 (show Kd.M k145 _ _ _ (⟨c.algo,0,2⟩:S145) [Φ c.algo,Φ 0,Φ 2] from (Ff _ _ _ (⟨c.algo,0,2⟩:S145))) (Reps.c3 (show Kd.M k145 _ _ _ (⟨c.th,1,6⟩:S145) [Φ c.th,Φ 1,Φ 6] from (Ff _ _ _ (⟨c.th,1,6⟩:S145))) (Reps.c3 (show Kd.M k145 _ _ _ (⟨c.ns,1,64⟩:S145) [Φ c.ns,Φ 1,Φ 64] from (Ff _ _ _ (⟨c.ns,1,64⟩:S145))) (Reps.c3 (show Kd.M k145 _ _ _ (⟨c.lv,1,6⟩:S145) [Φ c.lv,Φ 1,Φ 6] from (Ff _ _ _ (⟨c.lv,1,6⟩:S145))) (Reps.c3 (show Kd.M k145 _ _ _ (⟨c.batch,1,16⟩:S145) [Φ c.batch,Φ 1,Φ 16] from (Ff _ _ _ (⟨c.batch,1,16⟩:S145))) (Reps.c3 (show Kd.M k145 _ _ _ (⟨c.probes,1,16⟩:S145) [Φ c.probes,Φ 1,Φ 16] from (Ff _ _ _ (⟨c.probes,1,16⟩:S145))) (Reps.c3 (show Kd.M k145 _ _ _ (⟨c.scan,1,64⟩:S145) [Φ c.scan,Φ 1,Φ 64] from (Ff _ _ _ (⟨c.scan,1,64⟩:S145))) (Reps.none _ _)))))))));intro v106 w12 ho hb hg_ hnew_;clear hg_ hnew_;(try simp only [Int.reduceToNat] at ho);obtain ⟨Ao14,co14,eo14⟩:=Kd.R_slice ho;subst eo14;have HO:=Az.m ho;clear ho;have h1:=Ac H1.o hb;have h2:=Ac HR.o hb;have h3:=Ag HB.o hb;clear H1 HR HB p0 p1 p2 p3 p4 p5 p6;have H1:=Az.m h1;have HR:=Az.m h2;have HB:=Az.m h3;obtain ⟨p0,p1,p2,p3,p4,p5,p6⟩:=bc7 H1.o;clear h1 h2 h3 hb))|(go_at_call 64;refine (plan_within.calls 9 _ _ (Mx c) true _ (Kd.R_reads' HO.o).2.2 (Kd.R_reads' HO.o).2.1 HW.o).mono ?_;rintro e w13 ⟨rfl,hb⟩;clear HO;have h1:=Ac H1.o hb;have h2:=Ac HR.o hb;have h3:=Ag HB.o hb;clear H1 HR HB p0 p1 p2 p3 p4 p5 p6;have H1:=Az.m h1;have HR:=Az.m h2;have HB:=Az.m h3;obtain ⟨p0,p1,p2,p3,p4,p5,p6⟩:=bc7 H1.o;clear h1 h2 h3 hb)|((with_reducible refine Al (N:=4) rfl ?_);go_must (refine Am ?hg (N:=4) ?hd (cs:=#[Φ 0,Φ 0,Φ 0,Φ 0,Φ 0,Φ 0,Φ 0,Φ 0,Φ 0,Φ 0,Φ 0,Φ 0,Φ 0,Φ 0,Φ 0]) (t:=85) ?hr ?_;(case hd=>rfl);(case hg=>rfl);(case hr=>exact Λ18);intro gp hgp wgp hbox hbl;have HP:=Az.m hbox;have GP:=Az.m (Nat.le_trans HB.o.size (Nat.le_of_eq hgp.symm));have N2:=Az.m (Nat.ne_of_lt (Nat.lt_of_lt_of_eq (Bb H1.o) hgp.symm));have N3:=Az.m (Nat.ne_of_lt (Nat.lt_of_lt_of_eq (Bb HR.o) hgp.symm));obtain ⟨z0,z1,z2,z3,z4,z5,z6,z7,z8,z9,z10,z11,z12,z13,z14⟩:=Nq hbox;have zf:=Ab hbox;have h1:=Ac H1.o hbl;have h2:=Ac HR.o hbl;have h3:=Ag HB.o hbl;clear H1 HR HB p0 p1 p2 p3 p4 p5 p6;have H1:=Az.m h1;have HR:=Az.m h2;have HB:=Az.m h3;obtain ⟨p0,p1,p2,p3,p4,p5,p6⟩:=bc7 H1.o;clear h1 h2 h3 hbl;clear hbox hgp))|((with_reducible refine Bd (t:=85) (p:=4) rfl ?_);go_must (refine Aw (w1:=(((((((((((((((wgp.setCell (Ψ gp 0) (Φ c.algo)).setCell (Ψ gp 1) (Φ c.th)).setCell (Ψ gp 2) (Φ c.ns)).setCell (Ψ gp 3) (Φ c.lv)).setCell (Ψ gp 4) (Φ c.batch)).setCell (Ψ gp 5) (Φ c.probes)).setCell (Ψ gp 6) (Φ c.scan)).setCell (Ψ gp 7) (Φ (c.sl))).setCell (Ψ gp 8) (Φ (c.wI))).setCell (Ψ gp 9) (Φ 2)).setCell (Ψ gp 10) (Φ 0)).setCell (Ψ gp 11) (Φ 0)).setCell (Ψ gp 12) (Φ 0)).setCell (Ψ gp 13) (Φ 0)).setCell (Ψ gp 14) (Φ 0))) ?hg (t:=85) (p:=4) rfl ?hn ?hr ?_;(case hg=>rfl);(case hn=>rfl);(case hr=>exact Λ23);intro w2 e2;have hp:w2.heap[gp]?=some (.cells #[Φ c.algo,Φ c.th,Φ c.ns,Φ c.lv,Φ c.batch,Φ c.probes,Φ c.scan,Φ (c.sl),Φ (c.wI),Φ 2,Φ 0,Φ 0,Φ 0,Φ 0,Φ 0] 85 (0,0)):=(by rw [e2];exact Hs HP.o);have ho:Over (fun k=>k=gp) wgp w2:=Λ144;have h1:=ho.blk H1.o N2.o;have h2:=ho.blk HR.o N3.o;have h3:=Lh HB.o ho GP.o;clear HP H1 HR HB p0 p1 p2 p3 p4 p5 p6 e2 ho zf z0 z1 z2 z3 z4 z5 z6 z7 z8 z9 z10 z11 z12 z13 z14;have H1:=Az.m h1;have HR:=Az.m h2;have HB:=Az.m h3;have HP:=Az.m hp;obtain ⟨p0,p1,p2,p3,p4,p5,p6⟩:=bc7 H1.o;obtain ⟨q0,q1,q2,q3,q4,q5,q6,q7,q8,q9,q10,q11,q12,q13,q14⟩:=Nq hp;obtain ⟨r0,r1,r2,r3,r4,r5,r6,r7,r8,r9,r10,r11,r12,r13,r14⟩:=Nq h2;have qf:=Ab hp;have rf:=Ab h2;have n2:=N2.o;have n3:=N3.o;have m2:=N2.o.symm;have m3:=N3.o.symm;clear h1 h2 h3 hp)))
  refine bodyPost_ret (Fy rfl _ _ gr 85 _ (0,0) _ rfl (Hs (Av (Av (Av (Av (Av HR.o N3.o _) N3.o _) N3.o _) N3.o _) N3.o _)) Tryz.underlying85 rfl Zk) rfl ?_
  refine ⟨?_,?_⟩
  .unfold Ha
   rw [HS.o]
   rfl
  .repeat (first|with_reducible exact HB.o|with_reducible refine Aq ?_ GP.o|with_reducible refine Aq ?_ GR.o)
theorem bT (x:Int) (h0:0≤x) (h1:x<1000000):Go.bits .and .i64 x 1=x % 2:=
 bits_mask .i64 63 Zd (fun n a b=>by rw [IntKind.wrap_i64];omega) 1 Zd x h0 Zo
theorem dZ (m:Nat) (b:Int) (k:Nat) (hk:k<m):Dz m b (m-k)=if (b / (2 ^ k:Nat)) % 2=0 then (k:Int)+1 else Dz m b (m-(k+1)):=by
 have e:m-k=(m-(k+1))+1:=Zo
 rw [e]
 conv=>lhs;unfold Dz
 have e2:m-(m-(k+1)+1)=k:=Zo
 rw [e2]
theorem aR (fb bb us:Nat) (bytes:List Int) (m:Nat) (w:World) (h:IsFeed fb bb bytes us w) (hu:us<1000000) (h1:1≤m) (h6:m≤6) :
  Calls Tryz.prog 170 #[Pt fb 0,Φ (m:Int)] w fun e w'=>e=.returned (Φ (Dz m (bytes.getD us 0) m))∧IsFeed fb bb bytes (us+1) w'∧Over (fun k=>k=fb) w w':=by
 have H:=Az.m h
 have g0:((m:Int)<1)=False:=eq_false Zo
 have hs:=h.small us
 have HS:=Az.m hs
 clear h hs
 go_enter Tryz.func170,Tryz.ntmps170
 go_wp2_with (first|((with_reducible refine Ai (f:=199) rfl ?_);refine Bk (some 10) rfl rfl Tryz.func199 Zk rfl #[Pt fb 0] rfl Λ10 ?_;(with_reducible refine (Se fb bb us bytes _ H.o hu).mono ?_);rintro e w2 ⟨rfl,hm,ho⟩;refine ⟨_,rfl,?_⟩;have O2:=Az.m ho;have H2:=Az.m hm;clear hm ho))
 have ev:bytes.getD us 0=bytes[us]?.getD 0:=List.getD_eq_getElem?_getD
 have EV:=Az.m ev
 rw [ev] at HS
 clear ev
 go_loopw [12] (fun i wr=>∃ k:Nat,i=Φ k∧k≤m∧Az (Dz m (bytes[us]?.getD 0) (m-k)=Dz m (bytes[us]?.getD 0) m)∧Az (wr=w2)) (fun i _=>m-(intOf i).toNat)
 case atStart=>exact ⟨0,rfl,Zo,⟨rfl⟩,⟨rfl⟩⟩
 case round=>
  obtain ⟨k,rfl,hk,he,hw⟩:=hrel
  by_cases hkm:k<m
  .have b0:((k:Int)<(m:Int))=True:=eq_true Zo
   have hq:=bT ((bytes[us]?.getD 0) / (2 ^ k:Nat)) (Int.ediv_nonneg HS.o.1 (Int.natCast_nonneg _)) (by have h2:(bytes[us]?.getD 0) / (2 ^ k:Nat)≤(bytes[us]?.getD 0):=Int.ediv_le_self _ HS.o.1;have:=HS.o.2;omega)
   have hst:=Az.m ((dZ m (bytes[us]?.getD 0) k hkm).symm.trans he.out)
   have ec:((2 ^ k:Nat):Int)=2 ^ k:=Zs
   rw [ec] at hq
   have w1:=Ak (x:=(k:Int)+1) Zo Zo
   by_cases hbit:(bytes[us]?.getD 0) / 2 ^ k % 2=0
   .have fb:(bits BinOp.and IntKind.i64 ((bytes[us]?.getD 0) / 2 ^ k) 1==0)=true:=by rw [hq,hbit];rfl
    have hb2:=Az.m hbit
    clear hbit hq
    go_wp2
    go_ret
    have h5:=hst.out
    rw [ec,if_pos hb2.out] at h5
    exact ⟨by show Ending.returned (Value.int .i64 ((k:Int)+1))=_;rw [EV.o,h5],hw.out▸H2.o,hw.out▸O2.o⟩
   .have fb:(bits BinOp.and IntKind.i64 ((bytes[us]?.getD 0) / 2 ^ k) 1==0)=false:=by rw [hq,beq_eq_false_iff_ne];exact hbit
    have hb2:=Az.m hbit
    clear hbit hq
    go_wp2
    refine ⟨⟨k+1,Zs,Zo,⟨?_⟩,hw⟩,by simp [intOf];omega⟩
    have h5:=hst.out
    rw [ec,if_neg hb2.out] at h5
    exact h5
  .have b0:((k:Int)<(m:Int))=False:=eq_false Zo
   have hkm2:k=m:=Zo
   go_wp2
   go_ret
   have h5:=he.out
   rw [hkm2,Nat.sub_self] at h5
   exact ⟨by show Ending.returned (Value.int .i64 (m:Int))=_;rw [EV.o,← h5];rfl,hw.out▸H2.o,hw.out▸O2.o⟩
theorem rX (G:Good c tid) (hu:s.us<1000000) (H:Ix c tid A T B w0 fv s l w) :
  Calls Tryz.prog 170 #[Pt A.fb 0,Φ c.lv] w fun e w'=>e=.returned (Φ (drawn c s))∧Ix c tid A T B w0 fv {s with us:=s.us+1} l w':=by
 obtain ⟨g,a,hm⟩:=H.mach
 have hl:=G.lv
 have e:((c.lv.toNat:Nat):Int)=c.lv:=Zo
 have h1:=aR A.fb A.bb s.us c.bytes c.lv.toNat w hm.feed hu Zo Zo
 rw [e] at h1
 refine h1.mono ?_
 rintro e w' ⟨rfl,h1,h2⟩
 exact ⟨rfl,H.step (h2.mono (fun k hk=>Or.inr (Or.inr (Or.inr (Or.inl hk))))) (hm.feed_ h2 h1)⟩
theorem Pa (m:Nat) (b:Int):∀ k:Nat,k≤m→0≤Dz m b k∧Dz m b k≤(m:Int)+1
 |0,_=>by unfold Dz;omega
 |k+1,h=>by
  have ih:=Pa m b k Zo
  unfold Dz
  split
  .omega
  .exact ih
theorem Xj (G:Good c tid) (s:St):InU (drawn c s):=by
 have h:=Pa c.lv.toNat (take c s) c.lv.toNat (Nat.le_refl _)
 have:=G.lv
 unfold InU drawn
 omega
theorem aQ (G:Good c tid) (s:St):IntKind.u64.wrap (drawn c s)=drawn c s:=Gb _ (Xj G s).1 (Xj G s).2
end
section
attribute [local go_sem] Cs Cq De Dd Cj Ci Cr Cp Ig Fz Ez Ej
namespace X1
theorem κ {p:Prop} (h:p:=by with_reducible first|(exact Λ171)|(exact Λ168)):p:=h
end X1
open X1 in
theorem eQ (G:Good c tid) {r p:Int} (u0:InU r) (ho:s.mm (.gl 0)=r) (H:Ix c tid A T B w0 fv s l w) :
  Calls Tryz.prog 213 #[Pt A.mb 0,Γ r,Φ p] w fun e w'=>e=.returned (.bool true)∧Ix c tid A T B w0 fv (s.put (.gl 0) (next r p false)) l w':=by
 have ew:=Fz r p false
 have H0:=Az.m H
 clear H
 go_enter Tryz.func213,Tryz.ntmps213
 exact Θ0
namespace X2
theorem κ {p:Prop} (h:p:=by with_reducible first|(exact Λ171)|(exact Λ168)):p:=h
end X2
open X2 in
theorem bQ (G:Good c tid) {r p:Int} (u0:InU r) (ho:¬ s.mm (.gl 0)=r) (H:Ix c tid A T B w0 fv s l w) :
  Calls Tryz.prog 213 #[Pt A.mb 0,Γ r,Φ p] w fun e w'=>e=.returned (.bool false)∧Ix c tid A T B w0 fv s l w':=by
 have ew:=Fz r p false
 have H0:=Az.m H
 clear H
 go_enter Tryz.func213,Tryz.ntmps213
 exact Θ0
namespace X3
theorem κ {p:Prop} (h:p:=by with_reducible first|(go_at_call 212;exact mQ Λ37 HI)|(exact Λ91)|(exact Λ189)|(exact Λ50)|(exact Λ88)|(exact Λ181)|(go_at_call 214;exact vB _ HI)):p:=h
abbrev δ:List (Nat×Nat):=[(7,1),(12,2),(3,3)]
theorem ξ {p:Prop} (h:p:=by
 rcases pc with _|_|pc
 all_goals (simp only [alloc,Ao,Iw] at h)
 iterate 6 (all_goals (try (split at h<;>rename_i k<;>(first|(obtain ⟨_,_,_⟩:=ω;clear k)|have:=Ω))))
 all_goals cases h
 all_goals (try (obtain ⟨p,hp⟩:∃ p:Nat,p=pc+2:=⟨_,rfl⟩;rw [show pc+2=p from hp.symm] at H0;have d0:((p:Int)==0)=false:=Λ143;have d1:((p:Int)==1)=false:=Λ143;clear hp))
 all_goals (go_enter Tryz.func160,Tryz.ntmps160;exact Θ0)):p:=h
end X3
open X3 in
theorem bW (G:Good c tid) (hn:fs.length<900) {out:Out} (h:alloc c s f fs=some out) (H:IT c tid A T B w0 fb cap s f fs w) :
  Calls Tryz.prog 160 #[Pt A.mb 0,Pt T.tb 0,Pt fb (fs.length*12)] w (RO c tid A T B w0 out):=Ξ
namespace X4
theorem κ {p:Prop} (h:p:=by with_reducible first|(exact Λ91)|(exact Λ50)|(exact Λ88)|(go_at_call 212;exact mQ Λ37 HI)|(exact Λ166)|(exact Λ181)|(go_at_call 215;exact rY _ HI)|(exact Λ189)):p:=h
abbrev δ:List (Nat×Nat):=[(7,2),(10,3)]
theorem ξ {p:Prop} (h:p:=by
 rcases pc with _|_|pc
 all_goals (simp only [Rm,Ao,Iw] at h)
 iterate 6 (all_goals (try (split at h<;>rename_i k<;>(first|(obtain ⟨_,_,_⟩:=ω;clear k)|have:=Ω))))
 all_goals cases h
 all_goals (try (obtain ⟨p,hp⟩:∃ p:Nat,p=pc+2:=⟨_,rfl⟩;rw [show pc+2=p from hp.symm] at H0;have d0:((p:Int)==0)=false:=Λ143;have d1:((p:Int)==1)=false:=Λ143;clear hp))
 all_goals (try (have E0:=cN G (n:=r0) Za))
 all_goals (try (have E0:=jU u0 (b:=65536) Za))
 all_goals (go_enter Tryz.func161,Tryz.ntmps161;exact Θ0)):p:=h
end X4
open X4 in
theorem Ud (G:Good c tid) (hn:fs.length<900) {out:Out} (h:Rm c s f fs=some out) (H:IT c tid A T B w0 fb cap s f fs w) :
  Calls Tryz.prog 161 #[Pt A.mb 0,Pt T.tb 0,Pt fb (fs.length*12)] w (RO c tid A T B w0 out):=Ξ
namespace X23
theorem κ {p:Prop} (h:p:=by with_reducible first|(go_at_call 73;exact iX G (a:=r1) Za Za HI)|(go_at_call 151;exact sL Λ37 HI)|(exact Λ189)|(exact Λ50)|(exact Λ60)|(exact Λ166)):p:=h
abbrev δ:List (Nat×Nat):=[(8,12),(13,13)]
theorem θ:True:=trivial
theorem ξ {p:Prop} (h:p:=by
 rcases pc with _|_|pc
 case' succ.succ=>(by_cases q0:s.mm (c.lO r1)=r2<;>(first|(have:=@id ((_:Bool)=true) q0)|(have:=As q0)|(have:=Aj q0)|(have:=Ca q0)|(have:=Bq q0)|(have:=Br q0)|(have:=Bg q0)|(have:=Du q0)|(have:=Dt q0)|(have:=Ds q0)))<;>(by_cases q1:ptr (s.mm (c.lO r1))=0<;>(first|(have:=@id ((_:Bool)=true) q1)|(have:=As q1)|(have:=Aj q1)|(have:=Ca q1)|(have:=Bq q1)|(have:=Br q1)|(have:=Bg q1)|(have:=Du q1)|(have:=Dt q1)|(have:=Ds q1)))
 all_goals (simp only [Rn,Ao] at h)
 all_goals (first|(have p0:=eq_false q0)|(have p0:=eq_true q0)|skip)
 all_goals (first|(have p1:=eq_false q1)|(have p1:=eq_true q1)|skip)
 all_goals (try (simp only [p0,p1,ne_eq,gt_iff_lt,ge_iff_le,not_true_eq_false,not_false_eq_true,and_true,true_and,and_false,false_and,or_true,true_or,or_false,false_or,if_true,if_false] at h;clear p0 p1))
 all_goals (try (simp only [p0,ne_eq,gt_iff_lt,ge_iff_le,not_true_eq_false,not_false_eq_true,and_true,true_and,and_false,false_and,or_true,true_or,or_false,false_or,if_true,if_false] at h;clear p0))
 iterate 6 (all_goals (try (split at h<;>rename_i k<;>(first|(obtain ⟨_,_,_⟩:=ω;clear k)|have:=Ω))))
 all_goals (try (exfalso;omega))
 all_goals (try (have:=Az.m q0;clear q0))
 all_goals (try (have:=Az.m q1;clear q1))
 all_goals cases h
 all_goals (try (obtain ⟨p,hp⟩:∃ p:Nat,p=pc+2:=⟨_,rfl⟩;rw [show pc+2=p from hp.symm] at H0;have d0:((p:Int)==0)=false:=Λ143;have d1:((p:Int)==1)=false:=Λ143;clear hp))
 all_goals (try (have E0:=Fq G (t:=tid) (n:=r0) Za))
 all_goals (try (have E1:=jV G u1 Za))
 all_goals (go_enter Tryz.func87,Tryz.ntmps87;exact Θ0)):p:=h
end X23
open X23 in
theorem Ue (G:Good c tid) (hn:fs.length<900) {out:Out} (h:Rn c tid s f fs=some out) (H:IT c tid A T B w0 fb cap s f fs w) :
  Calls Tryz.prog 87 #[Pt A.mb 0,Pt T.tb 0,Pt fb (fs.length*12)] w (RO c tid A T B w0 out):=Ξ
namespace X24
theorem κ {p:Prop} (h:p:=by with_reducible first|(exact Λ50)|(go_at_call 153;exact Xz HI)|(exact Λ189)|(exact Λ60)|(exact Λ166)):p:=h
theorem ιl {p:Prop} (h:p:=by iterate 16 (try with_reducible first|exact H0.o|apply Ix.drew|apply Ix.alloc|exact υ|apply Ix.pcN)):p:=h
abbrev δ:List (Nat×Nat):=[(0,14),(2,14)]
theorem θ:True:=trivial
theorem ξ {p:Prop} (h:p:=by
 all_goals (simp only [mT,Ao,ok] at h)
 iterate 6 (all_goals (try (split at h<;>rename_i k<;>(first|(obtain ⟨_,_,_⟩:=ω;clear k)|have:=Ω))))
 all_goals cases h
 all_goals (try (have E2:=(Dy G).sl;have up2:pc+1<100000:=by omega))
 all_goals (try (have E3:=Ak (x:=(pc:Int)+1) Zo Zo;clear E2))
 all_goals (go_enter Tryz.func88,Tryz.ntmps88;exact Θ8)):p:=h
end X24
open X24 in
theorem cE (G:Good c tid) (hn:fs.length<900) {out:Out} (h:mT c tid s f fs=some out) (H:IT c tid A T B w0 fb cap s f fs w) :
  Calls Tryz.prog 88 #[Pt A.mb 0,Pt T.tb 0,Pt fb (fs.length*12)] w (RO c tid A T B w0 out):=Ξ
namespace X64
theorem κ {p:Prop} (h:p:=by with_reducible first|(exact Λ182)):p:=h
abbrev νa:=4
abbrev τa:=108
theorem ξ {p:Prop} (h:p:=by
 subst hk hg
 all_goals (go_enter Tryz.func70,Tryz.ntmps70;exact Θ5)):p:=h
end X64
open X64 in
theorem dT (G:Good c tid) (hn:fs.length<900) (k g:Nat) {vk vg:Int} (hk:(k:Int)=vk) (hg:(g:Int)=vg) (hk1:k<100000) (hg1:g<1000) (H:IT c tid A T B w0 fb cap s f fs w) :
  Calls Tryz.prog 70 #[.agg (rc A T fb fs.length),Φ vk,Φ vg,.slice none 0 0] w fun e w'=>e=.returned (.tuple #[])∧∃ fv',Ix c tid A T B w0 fv' s ({fn:=g,pc:=0}::{f with pc:=k}::fs) w'∧Stays (Tv fb fs.length cap) ({f with pc:=k}::fs) w':=Ξ
namespace X65
theorem κ {p:Prop} (h:p:=by with_reducible first|(exact Λ183)):p:=h
abbrev νa:=4
abbrev τa:=108
theorem ξ {p:Prop} (h:p:=by
 subst hk hg
 have HG5:=Az.m hgl;clear hgl
 all_goals (go_enter Tryz.func70,Tryz.ntmps70;exact Θ9)):p:=h
end X65
open X65 in
theorem Jq (G:Good c tid) (hn:fs.length<900) (k g:Nat) {vk vg:Int} (hk:(k:Int)=vk) (hg:(g:Int)=vg) (hk1:k<100000) (hg1:g<1000) {gl:Nat} {v0:Int} (hgl:w.heap[gl]?=some (.cells #[Γ v0] 82 (0,0))) (i0:InU v0) (H:IT c tid A T B w0 fb cap s f fs w) :
  Calls Tryz.prog 70 #[.agg (rc A T fb fs.length),Φ vk,Φ vg,.slice (some (Ψ gl 0)) 1 1] w fun e w'=>e=.returned (.tuple #[])∧∃ fv',Ix c tid A T B w0 fv' s ({fn:=g,pc:=0,r0:=v0}::{f with pc:=k}::fs) w'∧Stays (Tv fb fs.length cap) ({f with pc:=k}::fs) w':=Ξ
namespace X66
theorem κ {p:Prop} (h:p:=by with_reducible first|(exact Λ184)):p:=h
abbrev νa:=4
abbrev τa:=108
theorem ξ {p:Prop} (h:p:=by
 subst hk hg
 have HG5:=Az.m hgl;clear hgl
 all_goals (go_enter Tryz.func70,Tryz.ntmps70;exact Θ9)):p:=h
end X66
open X66 in
theorem kU (G:Good c tid) (hn:fs.length<900) (k g:Nat) {vk vg:Int} (hk:(k:Int)=vk) (hg:(g:Int)=vg) (hk1:k<100000) (hg1:g<1000) {gl:Nat} {v0 v1:Int} (hgl:w.heap[gl]?=some (.cells #[Γ v0,Γ v1] 82 (0,0))) (i0:InU v0) (i1:InU v1) (H:IT c tid A T B w0 fb cap s f fs w) :
  Calls Tryz.prog 70 #[.agg (rc A T fb fs.length),Φ vk,Φ vg,.slice (some (Ψ gl 0)) 2 2] w fun e w'=>e=.returned (.tuple #[])∧∃ fv',Ix c tid A T B w0 fv' s ({fn:=g,pc:=0,r0:=v0,r1:=v1}::{f with pc:=k}::fs) w'∧Stays (Tv fb fs.length cap) ({f with pc:=k}::fs) w':=Ξ
namespace X67
theorem κ {p:Prop} (h:p:=by with_reducible first|(exact Λ50)|(go_at_call 127;exact rZ G Za HI)):p:=h
abbrev νa:=2
abbrev τa:=108
theorem ξ {p:Prop} (h:p:=by
 have E0:=Ob G hx
 all_goals (go_enter Tryz.func71,Tryz.ntmps71;exact Θ5)):p:=h
end X67
open X67 in
theorem mat (G:Good c tid) (hn:fs.length<900) {p:Int} (hx:c.has (.tr p)=true) (H:IT c tid A T B w0 fb cap s f fs w) :
  Calls Tryz.prog 71 #[.agg (rc A T fb fs.length),Γ p] w fun e w'=>e=.returned (Φ (c.addr (.tr p)))∧Ix c tid A T B w0 (Tv fb fs.length cap) s (f::fs) w':=Ξ
namespace X68
theorem κ {p:Prop} (h:p:=by with_reducible first|(exact Λ50)|(exact Λ185)|(exact Λ89)):p:=h
abbrev νa:=3
abbrev τa:=108
theorem ξ {p:Prop} (h:p:=by
 have E0:=Fg G hx
 all_goals (go_enter Tryz.func74,Tryz.ntmps74;exact Θ5)):p:=h
end X68
open X68 in
theorem tX (G:Good c tid) (hn:fs.length<900) {v k:Int} (uv:InU v) (hx:c.has (.nd (ptr v) k)=true) (H:IT c tid A T B w0 fb cap s f fs w) :
  Calls Tryz.prog 74 #[.agg (rc A T fb fs.length),Γ v,Φ k] w fun e w'=>e=.returned (Φ (c.addr (.nd (ptr v) k)))∧Ix c tid A T B w0 (Tv fb fs.length cap) s (f::fs) w':=Ξ
namespace X69
abbrev νa:=2
abbrev τa:=108
theorem ξ {p:Prop} (h:p:=by
 all_goals (go_enter Tryz.func79,Tryz.ntmps79;exact Θ4)):p:=h
end X69
open X69 in
theorem qW (G:Good c tid) (hn:fs.length<900) (H:IT c tid A T B w0 fb cap s f fs w) :
  Calls Tryz.prog 79 #[.agg (rc A T fb fs.length),Φ 0] w fun e w'=>e=.returned (Γ f.r0)∧Ix c tid A T B w0 (Tv fb fs.length cap) s (f::fs) w':=Ξ
namespace X70
abbrev νa:=2
abbrev τa:=108
theorem ξ {p:Prop} (h:p:=by
 all_goals (go_enter Tryz.func79,Tryz.ntmps79;exact Θ4)):p:=h
end X70
open X70 in
theorem qV (G:Good c tid) (hn:fs.length<900) (H:IT c tid A T B w0 fb cap s f fs w) :
  Calls Tryz.prog 79 #[.agg (rc A T fb fs.length),Φ 1] w fun e w'=>e=.returned (Γ f.r1)∧Ix c tid A T B w0 (Tv fb fs.length cap) s (f::fs) w':=Ξ
namespace X71
abbrev νa:=2
abbrev τa:=108
theorem ξ {p:Prop} (h:p:=by
 all_goals (go_enter Tryz.func79,Tryz.ntmps79;exact Θ4)):p:=h
end X71
open X71 in
theorem kP (G:Good c tid) (hn:fs.length<900) (H:IT c tid A T B w0 fb cap s f fs w) :
  Calls Tryz.prog 79 #[.agg (rc A T fb fs.length),Φ 3] w fun e w'=>e=.returned (Γ f.r3)∧Ix c tid A T B w0 (Tv fb fs.length cap) s (f::fs) w':=Ξ
namespace X72
abbrev νa:=2
abbrev τa:=108
theorem ξ {p:Prop} (h:p:=by
 all_goals (go_enter Tryz.func79,Tryz.ntmps79;exact Θ4)):p:=h
end X72
open X72 in
theorem qU (G:Good c tid) (hn:fs.length<900) (H:IT c tid A T B w0 fb cap s f fs w) :
  Calls Tryz.prog 79 #[.agg (rc A T fb fs.length),Φ 5] w fun e w'=>e=.returned (Γ f.r5)∧Ix c tid A T B w0 (Tv fb fs.length cap) s (f::fs) w':=Ξ
namespace X73
theorem κ {p:Prop} (h:p:=by with_reducible first|(exact Λ90)|(exact Λ171)|(exact Λ168)):p:=h
abbrev δ:List (Nat×Nat):=[(1,5)]
abbrev νa:=5
abbrev τa:=108
theorem ξ {p:Prop} (h:p:=by
 have E0:=Ob G hx
 all_goals (go_enter Tryz.func80,Tryz.ntmps80;exact Θ5)):p:=h
end X73
open X73 in
theorem dP (G:Good c tid) (hn:fs.length<900) {p v q:Int} {b:Bool} (uv:InU v) (hx:c.has (.tr p)=true) (ho:Az (s.mm (.tr p)=v)) (H:IT c tid A T B w0 fb cap s f fs w) :
  Calls Tryz.prog 80 #[.agg (rc A T fb fs.length),Γ p,Γ v,Φ q,.bool b] w fun e w'=>e=.returned (.bool true)∧Ix c tid A T B w0 (Tv fb fs.length cap) (s.put (.tr p) (next v q b)) (f::fs) w':=Ξ
namespace X74
theorem κ {p:Prop} (h:p:=by with_reducible first|(exact Λ90)|(exact Λ171)|(exact Λ168)):p:=h
abbrev δ:List (Nat×Nat):=[(1,5)]
abbrev νa:=5
abbrev τa:=108
theorem ξ {p:Prop} (h:p:=by
 have E0:=Ob G hx
 all_goals (go_enter Tryz.func80,Tryz.ntmps80;exact Θ5)):p:=h
end X74
open X74 in
theorem Zx (G:Good c tid) (hn:fs.length<900) {p v q:Int} {b:Bool} (uv:InU v) (hx:c.has (.tr p)=true) (ho:Az (¬ s.mm (.tr p)=v)) (H:IT c tid A T B w0 fb cap s f fs w) :
  Calls Tryz.prog 80 #[.agg (rc A T fb fs.length),Γ p,Γ v,Φ q,.bool b] w fun e w'=>e=.returned (.bool false)∧Ix c tid A T B w0 (Tv fb fs.length cap) s (f::fs) w':=Ξ
namespace X75
theorem κ {p:Prop} (h:p:=by with_reducible first|(go_at_call 70;exact dT G Zo 90 4 Zd Zd Zd Zd HI)):p:=h
abbrev δ:List (Nat×Nat):=[(1,15)]
abbrev νa:=4
abbrev τa:=108
theorem ξ {p:Prop} (h:p:=by
 all_goals (go_enter Tryz.func81,Tryz.ntmps81;exact Θ5)):p:=h
end X75
open X75 in
theorem vW (G:Good c tid) (hn:fs.length<900) {v0 v1 v2:Int} (i0:InU v0) (i1:InU v1) (i2:InU v2) (H:IT c tid A T B w0 fb cap s f fs w) :
  Calls Tryz.prog 81 #[.agg (rc A T fb fs.length),Γ v0,Γ v1,Γ v2] w fun e w'=>e=.returned (.tuple #[])∧∃ fv',Ix c tid A T B w0 fv' s ({fn:=4,pc:=0}::{f with pc:=90,r7:=v0,r8:=v1,r9:=v2}::fs) w'∧Stays (Tv fb fs.length cap) ({f with pc:=90,r7:=v0,r8:=v1,r9:=v2}::fs) w':=Ξ
namespace X76
theorem κ {p:Prop} (h:p:=by with_reducible first|(exact Λ90)|(go_at_call 70;exact kU G Λ40 1 3 Zd Zd Zd Zd Λ157 Λ37 Λ37 HI)|(exact Λ185)|(exact Λ190)|(exact Λ186)|(exact Λ91)):p:=h
abbrev δ:List (Nat×Nat):=[(7,11),(5,38)]
abbrev νa:=1
abbrev τa:=108
theorem ξ {p:Prop} (h:p:=by
 rcases pc with _|pc
 all_goals (simp only [aI,Ao,call,ok] at h)
 iterate 6 (all_goals (try (split at h<;>rename_i k<;>(first|(obtain ⟨_,_,_⟩:=ω;clear k)|have:=Ω))))
 all_goals cases h
 all_goals (try (obtain ⟨p,hp⟩:∃ p:Nat,p=pc+1:=⟨_,rfl⟩;rw [show pc+1=p from hp.symm] at H0;have d0:((p:Int)==0)=false:=Λ143;clear hp))
 all_goals (try (have E1:=Md G (x:=.tr r0) Za))
 all_goals (go_enter Tryz.func42,Tryz.ntmps42;exact Θ5)):p:=h
end X76
open X76 in
theorem Zy (G:Good c tid) (hn:fs.length<900) {out:Out} (h:aI c s f fs=some out) (H:IT c tid A T B w0 fb cap s f fs w) :
  Calls Tryz.prog 42 #[.agg (rc A T fb fs.length)] w (RO c tid A T B w0 out):=Ξ
namespace X80
theorem κ {p:Prop} (h:p:=by with_reducible first|(go_at_call 70;first|exact dT G Λ40 1 1 Zd Zd Zd Zd HI|exact dT G Λ40 0 6 Zd Zd Zd Zd HI)|(exact Λ54)|(exact Λ188)|(exact Λ50)|(exact Λ89)|(exact Λ166)):p:=h
abbrev δ:List (Nat×Nat):=[(6,33),(14,5),(17,5)]
abbrev νa:=1
abbrev τa:=114
theorem ξ {p:Prop} (h:p:=by
 dsimp only at hp0 hp1
 rcases pc with _|_|_|_|pc
 all_goals (try (exfalso;omega))
 all_goals (clear hp0 hp1)
 case' succ.zero=>(by_cases q0:s.ret0=0<;>(first|(have:=@id ((_:Bool)=true) q0)|(have:=As q0)|(have:=Aj q0)|(have:=Ca q0)|(have:=Bq q0)|(have:=Br q0)|(have:=Bg q0)|(have:=Du q0)|(have:=Dt q0)|(have:=Ds q0)))<;>(by_cases q1:r3=0<;>(first|(have:=@id ((_:Bool)=true) q1)|(have:=As q1)|(have:=Aj q1)|(have:=Ca q1)|(have:=Bq q1)|(have:=Br q1)|(have:=Bg q1)|(have:=Du q1)|(have:=Dt q1)|(have:=Ds q1)))<;>(by_cases q2:0<s.rt.length<;>(first|(have:=@id ((_:Bool)=true) q2)|(have:=As q2)|(have:=Aj q2)|(have:=Ca q2)|(have:=Bq q2)|(have:=Br q2)|(have:=Bg q2)|(have:=Du q2)|(have:=Dt q2)|(have:=Ds q2)))
 all_goals (simp only [Hc,Ao,call,ok,fin] at h)
 all_goals (first|(have p0:=eq_false q0)|(have p0:=eq_true q0)|skip)
 all_goals (first|(have p1:=eq_false q1)|(have p1:=eq_true q1)|skip)
 all_goals (first|(have p2:=eq_false q2)|(have p2:=eq_true q2)|skip)
 all_goals (try (simp only [p0,p1,p2,ne_eq,gt_iff_lt,ge_iff_le,not_true_eq_false,not_false_eq_true,and_true,true_and,and_false,false_and,or_true,true_or,or_false,false_or,if_true,if_false] at h;clear p0 p1 p2))
 all_goals (try (simp only [p0,p1,ne_eq,gt_iff_lt,ge_iff_le,not_true_eq_false,not_false_eq_true,and_true,true_and,and_false,false_and,or_true,true_or,or_false,false_or,if_true,if_false] at h;clear p0 p1))
 all_goals (try (simp only [p0,ne_eq,gt_iff_lt,ge_iff_le,not_true_eq_false,not_false_eq_true,and_true,true_and,and_false,false_and,or_true,true_or,or_false,false_or,if_true,if_false] at h;clear p0))
 iterate 6 (all_goals (try (split at h<;>rename_i k<;>(first|(obtain ⟨_,_,_⟩:=ω;clear k)|have:=Ω))))
 all_goals (try (exfalso;omega))
 all_goals (try (have:=Az.m q0;clear q0))
 all_goals (try (have:=Az.m q1;clear q1))
 all_goals (try (have:=Az.m q2;clear q2))
 all_goals cases h
 all_goals (try (obtain ⟨p,hp⟩:∃ p:Nat,p=pc+4:=⟨_,rfl⟩;rw [show pc+4=p from hp.symm] at H0;have d0:((p:Int)==0)=false:=Λ143;have d1:((p:Int)==1)=false:=Λ143;have d2:((p:Int)==2)=false:=Λ143;have d3:((p:Int)==3)=false:=Λ143;clear hp))
 all_goals (try (have E0:=Fg G (n:=r2) (k:=0) Za))
 all_goals (try (have E0:=Fg G (n:=r2) (k:=1) Za))
 all_goals (go_enter Tryz.func75,Tryz.ntmps75;exact Θ5)):p:=h
end X80
open X80 in
theorem Zw (G:Good c tid) (hn:fs.length<900) {out:Out} (hp0:0≤f.pc) (hp1:f.pc<4) (h:Hc c s f fs=some out) (H:IT c tid A T B w0 fb cap s f fs w) :
  Calls Tryz.prog 75 #[.agg (rc A T fb fs.length)] w (RO c tid A T B w0 out):=Ξ
end
end Go.Proofs.YtlejhikddkdanaaGreat.Mdl
namespace Go.Proofs.YtlejhikddkdanaaGreat.Mdl
open RowKit Go.Shelf
section
attribute [local go_sem] Oper.semAt_some
def Fp {α:Type} (f:Nat→α) (k:Nat):List α:=(List.range k).map f
theorem Oh {α:Type} (f:Nat→α) (k:Nat):Fp f (k+1)=Fp f k++[f k]:=by simp [Fp,List.range_succ]
theorem Sg {α:Type} (f:Nat→α) (k:Nat):(Fp f k).length=k:=by simp [Fp]
theorem Yp (zs:List Int):Fp (fun j=>zs[j]?.getD 0) zs.length=zs:=by
 apply List.ext_getElem
 .simp [Fp]
 .intro i h1 h2
  simp [Fp,h2]
theorem Ub (F:Fence) (n:Nat) (h225:F.fn 225) (hro:F.round=none) (hn:1≤n) (l Bs n₀ b off len cap:Nat) (zs:List Int) (hreach:len*8≤140737488351232) (hb:b<n₀) (J Jx:List Int→World→Prop)
  (hY:∀ pre x W,J pre W→pre.length<len→YieldAt F (n-1) Tryz.prog l #[Φ x] W fun e W'=>
   (e=.returned (.bool true)∧J (pre++[x]) W'∧Below n₀ W W')∨(e=.returned (.bool false)∧Jx (pre++[x]) W'))
  (W:World) (hBs:W.cell? (Ψ Bs 0)=some (.slice (some (Ψ b off)) len cap)) (hc:∀ j,j<len→W.cell? (Ψ b (off+j))=some (Φ (zs[j]?.getD 0))) (h0:J [] W) :
  CallsIn F n Tryz.prog 225 #[.func (.yield l) #[] #[],Pt Bs 0] W fun e W'=>(∃ v,e=.returned v)∧
   ((∃ ys,ys=Fp (fun j=>zs[j]?.getD 0) len∧J ys W')∨(∃ pre,(∃ k,k≤len∧pre=Fp (fun j=>zs[j]?.getD 0) k)∧Jx pre W')):=by
 refine callsIn_of_wp Tryz.func225 rfl h225 ?_ hro
 simp only [Tryz.ntmps225,List.size_toArray,List.length_cons,List.length_nil,Nat.reduceAdd,Nat.reduceSub,Array.replicate_succ,Array.replicate_zero,List.push_toArray,List.append_toArray,List.nil_append,List.cons_append]
 gi_wp2
 gi_loopw [7] (fun i wr=>∃ k:Nat,k≤len∧i=Φ k∧J (Fp (fun j=>zs[j]?.getD 0) k) wr∧Below n₀ W wr)
  (fun i _=>len-(intOf i).toNat)
 case atStart=>exact ⟨0,Nat.zero_le _,rfl,h0,Below.refl _ _⟩
 case round=>
  obtain ⟨k,hk,rfl,hJs,hnx⟩:=hrel
  have hcx:k<len→wr.cell? (Ψ b (off+k))=some (Φ (zs[k]?.getD 0)):=fun h=>(hnx.cell (p:=(Ψ b (off+k))) hb).trans (hc k h)
  by_cases hlt:k<len
  .obtain ⟨fn,tmps,assign,body,hy,hR⟩:=hY _ (zs[k]?.getD 0) wr hJs (by rw [Sg];exact hlt)
   have hcx':=hcx hlt
   gi_wp2
   refine hR.mono ?_
   rintro e W3 (⟨rfl,hJ3,hk3⟩|⟨rfl,hJx3⟩)
   .gi_wp2
    go_roundw
    case rel=>exact ⟨k+1,Zo,Zs,by rw [Oh];exact hJ3,hnx.trans hk3⟩
    case measure=>simp [intOf];omega
   .gi_wp2
    refine bodyPost_ret (results_none rfl _ _ _) rfl ?_
    exact ⟨⟨_,rfl⟩,.inr ⟨_,⟨k+1,Zo,(Oh _ _).symm⟩,hJx3⟩⟩
  .obtain rfl:k=len:=Zo
   gi_wp2
   go_end0
   exact ⟨⟨_,rfl⟩,.inl ⟨_,rfl,hJs⟩⟩
theorem Vv (zs:List Int) {k:Nat} (hk:k≤zs.length):Fp (fun j=>zs[j]?.getD 0) k=zs.take k:=by
 apply List.ext_getElem
 .simp [Fp,hk]
 .intro i h1 h2
  have:i<zs.length:=by simp [Fp] at h1;omega
  simp [Fp,this]
def so_Ints (n₀:Nat) (W:World) (sv:Value) (zs:List Int):Prop:=
 (sv=.slice none 0 0∧zs=[])∨∃ b off cap,sv=.slice (some (Ψ b off)) zs.length cap∧b<n₀∧∀ j,j<zs.length→W.cell? (Ψ b (off+j))=some (Φ (zs[j]?.getD 0))
theorem so_Ints.below {n₀:Nat} {A B:World} (h:Below n₀ A B) {sv:Value} {zs:List Int}:so_Ints n₀ A sv zs→so_Ints n₀ B sv zs
 |.inl e=>.inl e
 |.inr ⟨b,off,cap,e,hb,hc⟩=>.inr ⟨b,off,cap,e,hb,fun j hj=>(h.cell (p:=(Ψ b (off+j))) hb).trans (hc j hj)⟩
theorem Og (F:Fence) (n:Nat) (h225:F.fn 225) (hro:F.round=none) (l Bs:Nat) (J:List Int→World→Prop) (W:World) (hBs:W.cell? (Ψ Bs 0)=some (.slice none 0 0)) (h0:J [] W) :
  CallsIn F n Tryz.prog 225 #[.func (.yield l) #[] #[],Pt Bs 0] W fun e W'=>(∃ v,e=.returned v)∧J [] W':=by
 refine callsIn_of_wp Tryz.func225 rfl h225 ?_ hro
 simp only [Tryz.ntmps225,List.size_toArray,List.length_cons,List.length_nil,Nat.reduceAdd,Nat.reduceSub,Array.replicate_succ,Array.replicate_zero,List.push_toArray,List.append_toArray,List.nil_append,List.cons_append]
 gi_wp2
 gi_loopw [7] (fun i wr=>i=Φ 0∧J [] wr) (fun _ _=>0)
 case atStart=>exact ⟨rfl,h0⟩
 case round=>
  obtain ⟨rfl,hJs⟩:=hrel
  gi_wp2
  go_end0
  exact ⟨⟨_,rfl⟩,hJs⟩
theorem Vu (F:Fence) (n:Nat) (h211:F.fn 211) (hro:F.round=none) (a:Option Addr) (len cap:Nat) (w:World) :
  CallsIn F n Tryz.prog 211 #[.slice a len cap] w fun e w'=>e=.returned (.func (.func 225) #[] #[Pt w.heap.size 0])∧w'=w.alloc (.cells #[.slice a len cap] 35):=by
 refine callsIn_of_wp Tryz.func211 rfl h211 ?_ hro
 simp only [Tryz.ntmps211,List.size_toArray,List.length_cons,List.length_nil,Nat.reduceAdd,Nat.reduceSub,Array.replicate_succ,Array.replicate_zero,List.push_toArray,List.append_toArray,List.nil_append,List.cons_append]
 gi_wp2
 go_ret
 exact ⟨rfl,rfl⟩
theorem qC (F:Fence) (n:Nat) (h225:F.fn 225) (hro:F.round=none) (hn:1≤n) (l Bs n₀:Nat) (sv:Value) (zs:List Int) (hreach:zs.length*8≤140737488351232) (J Jx:List Int→World→Prop)
  (hY:∀ pre x W,J pre W→pre.length<zs.length→YieldAt F (n-1) Tryz.prog l #[Φ x] W fun e W'=>
   (e=.returned (.bool true)∧J (pre++[x]) W'∧Below n₀ W W')∨(e=.returned (.bool false)∧Jx (pre++[x]) W'))
  (W:World) (hBs:W.cell? (Ψ Bs 0)=some sv) (hI:so_Ints n₀ W sv zs) (h0:J [] W) :
  CallsIn F n Tryz.prog 225 #[.func (.yield l) #[] #[],Pt Bs 0] W fun e W'=>(∃ v,e=.returned v)∧
   ((∃ ys,ys=zs∧J ys W')∨(∃ pre,pre <+: zs∧Jx pre W')):=by
 rcases hI with ⟨rfl,rfl⟩|⟨b,off,cap,rfl,hb,hcs⟩
 .exact (Og F n h225 hro l Bs J W hBs h0).mono fun e W' ⟨he,hj⟩=>⟨he,.inl ⟨_,rfl,hj⟩⟩
 .refine (Ub F n h225 hro hn l Bs n₀ b off zs.length cap zs hreach hb J Jx hY W hBs hcs h0).mono ?_
  rintro e W' ⟨he,⟨ys,rfl,hj⟩|⟨pre,⟨k,hk,rfl⟩,hj⟩⟩
  .exact ⟨he,.inl ⟨_,Yp zs,hj⟩⟩
  .exact ⟨he,.inr ⟨_,by rw [Vv zs hk];exact List.take_prefix _ _,hj⟩⟩
def KeepT (M:Nat) (W W':World):Prop:=W.heap.size≤W'.heap.size∧∀ k o,M≤k→W.heap[k]?=some o→(∀ cs fr,o≠.cells cs 3 fr)→W'.heap[k]?=some o
theorem KeepT.trans {M:Nat} {A B C:World} (h:KeepT M A B) (k:KeepT M B C):KeepT M A C:=⟨Nat.le_trans h.1 k.1,fun i o hi ho hn=>k.2 i o hi (h.2 i o hi ho hn) hn⟩
theorem Jr {W:World} {k:Nat} {o:Obj} (h:W.heap[k]?=some o):k<W.heap.size:=(Array.getElem?_eq_some_iff.1 h).1
theorem Et {W:World} {r k:Nat} {o o':Obj} (h:W.heap[k]?=some o) (hne:k≠r):(W.putObj r o').heap[k]?=some o:=(World.putObj_heap_other hne).trans h
theorem Pv {W:World} {r:Nat} {o o':Obj} (h:W.heap[r]?=some o):(W.putObj r o').heap[r]?=some o':=World.putObj_heap_same (Jr h)
theorem Zf {W:World} {r:Nat} {o':Obj} {p:Addr} (hne:p.block≠r):(W.putObj r o').cell? p=W.cell? p:=World.cell?_of_block (World.putObj_heap_other hne)
theorem Fw {n₀:Nat} {W:World} {r:Nat} {o o':Obj} (hr:n₀≤r) (h:W.heap[r]?=some o):Below n₀ W (W.putObj r o'):=
 (Below.refl n₀ W).grown (grownBy_putObj' W r o') (by have:=Jr h;omega) (fun k e=>by cases e;omega)
theorem jI {m:Nat} (m':Nat) {P:Program} {l:Nat} {args:Array Value} {W:World} {R:Ending→World→Prop} (h:YieldAt Fence.wide m P l args W R):YieldAt Fence.wide m' P l args W R:=by
 obtain ⟨fn,tmps,assign,body,hy,hR⟩:=h
 exact ⟨fn,tmps,assign,body,hy,hR.1,fun c cs _=>hR.2 c cs (room_wide _)⟩
theorem eN {n:Nat} {P:Program} {f:FuncId} {args:Array Value} {w:World} {R:Ending→World→Prop} (l:Nat) (h:Calls P f args w R):CallsIn (Fence.wide.inRound l) n P f args w R:=CallsIn.inRound l (callsIn_wide.2 h)
theorem nM {l B1 B2 Bs gb n₀ M:Nat} {sv:Value} {zs:List Int} {q:Int→Bool} (hreach:zs.length*8≤140737488351232) (hn:n₀≤M) {J:List Int→World→Prop}
  (hal:∀ pre W o,J pre W→J pre (W.alloc o))
  (hput:∀ pre W k o o',J pre W→M≤k→W.heap[k]?=some o→o.isCells=false→J pre (W.putObj k o'))
  (hsz:∀ pre W,J pre W→M≤W.heap.size)
  (hrd:∀ pre W,J pre W→W.cell? (Ψ B1 0)=some (.func (.func 225) #[] #[Pt Bs 0])∧W.cell? (Ψ B2 0)=some (.func (.func 156) #[] #[Pt gb 0])∧W.cell? (Ψ Bs 0)=some sv)
  (hkeep:∀ pre W x,J pre W→Calls Tryz.prog 156 #[Φ x,Pt gb 0] W fun e W'=>e=.returned (.bool (q x))∧W=W')
  (hY:∀ pre x W,J pre W→pre.length<zs.length→YieldAt Fence.wide 0 Tryz.prog l #[Φ x] W fun e W'=>e=.returned (.bool true)∧J (pre++[x]) W'∧Below n₀ W W'∧KeepT M W W')
  (W:World) (h0:J [] W) (hc:so_Ints n₀ W sv zs) :
  CallsIn Fence.wide 9 Tryz.prog 224 #[.func (.yield l) #[] #[],Pt B1 0,Pt B2 0] W fun e W'=>(∃ v,e=.returned v)∧J (zs.filter q) W':=by
 obtain ⟨W1,hW1⟩:∃ W1,W.alloc (.cells #[.func (.yield l) #[] #[]] 74)=W1:=⟨_,rfl⟩
 have h1:J [] W1:=hW1▸hal [] W _ h0
 obtain ⟨r1,r2,r3⟩:=hrd [] W1 h1
 have hM:=hsz [] W h0
 have z1:W1.heap.size=W.heap.size+1:=by rw [← hW1];simp
 have y1:W1.heap[W.heap.size]?=some (.cells #[.func (.yield l) #[] #[]] 74):=by rw [← hW1];exact World.alloc_heap_new W _
 have c1:so_Ints n₀ W1 sv zs:=by rw [← hW1];exact so_Ints.below ((Below.refl n₀ W).alloc Zo _) hc
 have H1:Hid _:=c1
 clear c1 hc
 refine callsIn_of_wp_marks Tryz.func224 rfl trivial ?_ rfl
 simp only [Tryz.ntmps224,List.size_toArray,List.length_cons,List.length_nil,Nat.reduceAdd,Nat.reduceSub,Array.replicate_succ,Array.replicate_zero,List.push_toArray,List.append_toArray,List.nil_append,List.cons_append]
 gi_wp2
 refine Yy rfl Zd (gf:=225) (lb:=#[Pt Bs 0]) rfl trivial (enters_of Tryz.func225 Zk rfl) ?_
 intro fn hfn
 generalize hrec:Uo fn _ _ _ _ _=rec
 obtain ⟨W2,hW2⟩:∃ W2,(W1.alloc (.deferred (some []))).alloc (.loop (rec .ready))=W2:=⟨_,rfl⟩
 rw [hW2]
 have h2:J [] W2:=hW2▸hal _ _ _ (hal _ _ _ h1)
 have b2:∀ n,n≤W1.heap.size→Below n W1 W2:=fun n hn=>by rw [← hW2];exact ((Below.refl _ W1).alloc hn _).alloc (by simp;omega) _
 have l2:W2.heap[W1.heap.size+1]?=some (.loop (rec .ready)):=by rw [← hW2];have:=World.alloc_heap_new (W1.alloc (.deferred (some []))) (.loop (rec .ready));rwa [World.size_alloc] at this
 have d2:W2.heap[W1.heap.size]?=some (.deferred (some [])):=by rw [← hW2];exact (Below.heap_alloc _ _ _ Zs).trans (World.alloc_heap_new W1 _)
 have y2:W2.heap[W.heap.size]?=some (.cells #[.func (.yield l) #[] #[]] 74):=((b2 W1.heap.size (Nat.le_refl _)).block _ Zo).trans y1
 refine (qC Fence.wide 8 trivial rfl Zd (W1.heap.size+1) Bs n₀ sv zs hreach
  (fun pre V=>J (pre.filter q) V∧V.heap[W.heap.size]?=some (.cells #[.func (.yield l) #[] #[]] 74)∧V.heap[W1.heap.size]?=some (.deferred (some []))∧V.heap[W1.heap.size+1]?=some (.loop (rec .ready)))
  (fun _ _=>False) ?_ W2 ((hrd [] W2 h2).2.2) (so_Ints.below (b2 n₀ Zo) H1.out) ⟨h2,y2,d2,l2⟩).mono ?_
 .rintro pre x V ⟨hJ,hy,hd,hl⟩ hlen
  have hl2:=hl
  rw [← hrec] at hl2
  refine (Yx (R:=fun e V'=>(e=.returned (.bool true)∧(J ((pre++[x]).filter q) V'∧V'.heap[W.heap.size]?=some (.cells #[.func (.yield l) #[] #[]] 74)∧V'.heap[W1.heap.size]?=some (.deferred (some []))∧V'.heap[W1.heap.size+1]?=some (.loop (rec .ready)))∧Below n₀ V V')∨(e=.returned (.bool false)∧False)) trivial hl2 rfl ?_)
  clear hl2
  have hJb:=hput _ V _ _ (.loop (rec .busy)) hJ Zo hl rfl
  have yb:(V.putObj (W1.heap.size+1) (.loop (rec .busy))).heap[W.heap.size]?=_:=Et hy Zo
  have db:(V.putObj (W1.heap.size+1) (.loop (rec .busy))).heap[W1.heap.size]?=_:=Et hd Zo
  have lb:(V.putObj (W1.heap.size+1) (.loop (rec .busy))).heap[W1.heap.size+1]?=_:=Pv hl
  have bb:Below n₀ V (V.putObj (W1.heap.size+1) (.loop (rec .busy))):=Fw Zo hl
  have HL:Hid _:=hl
  clear hl
  have HZ:Hid _:=z1
  clear z1
  gi_wp2
  refine ⟨HL.out,?_⟩
  generalize V.putObj (W1.heap.size+1) (.loop (rec .busy))=Vb at hJb yb db lb bb ⊢
  obtain ⟨k1,k2,k3⟩:=hrd _ Vb hJb
  have k4:=eN (n:=6) (W1.heap.size+1) (hkeep _ Vb x hJb)
  have k5:Vb.cell? (Ψ W.heap.size 0)=some (.func (.yield l) #[] #[]):=by simp [World.cell?,yb]
  obtain ⟨fn5,tmps5,assign5,body5,hy5,hR5⟩:=jI 6 (hY _ x Vb hJb (by have:=List.length_filter_le q pre;omega))
  have hR5:=Hid.out (p:=RoundIn (Fence.wide.inRound (W1.heap.size+1)) 6 Tryz.prog l fn5 tmps5 assign5 body5 Vb _) hR5
  have fin:∀ (xs:List Int) (Vc:World),J xs Vc→Vc.heap[W.heap.size]?=some (.cells #[.func (.yield l) #[] #[]] 74)→Vc.heap[W1.heap.size]?=some (.deferred (some []))→Vc.heap[W1.heap.size+1]?=some (.loop (rec .busy))→Below n₀ Vb Vc→
    Vc.heap[W1.heap.size+1]?=some (.loop (rec .busy))∧(J xs (Vc.putObj (W1.heap.size+1) (.loop (rec .ready)))∧(Vc.putObj (W1.heap.size+1) (.loop (rec .ready))).heap[W.heap.size]?=some (.cells #[.func (.yield l) #[] #[]] 74)∧(Vc.putObj (W1.heap.size+1) (.loop (rec .ready))).heap[W1.heap.size]?=some (.deferred (some []))∧(Vc.putObj (W1.heap.size+1) (.loop (rec .ready))).heap[W1.heap.size+1]?=some (.loop (rec .ready)))∧Below n₀ V (Vc.putObj (W1.heap.size+1) (.loop (rec .ready))):=
   fun xs Vc hJc hyc hdc hlc hbc=>⟨hlc,⟨hput _ _ _ _ _ hJc Λ107 hlc rfl,Et hyc Λ107,Et hdc Zo,Pv hlc⟩,(bb.trans hbc).trans (Fw Λ107 hlc)⟩
  have HF:Hid _:=fin
  clear fin
  cases hq:q x
  .rw [hq] at k4
   gi_wp2
   refine ⟨trivial,k4.mono ?_⟩
   rintro e W3 ⟨rfl,rfl⟩
   gi_wp2
   refine ⟨fun _ h=>(by cases h),?_⟩
   gi_wp2
   have f1:=HF.out _ Vb hJb yb db lb (Below.refl _ _)
   exact ⟨f1.1,rfl,by simpa [hq] using f1.2.1,f1.2.2⟩
  .rw [hq] at k4
   gi_wp2
   refine ⟨trivial,k4.mono ?_⟩
   rintro e W3 ⟨rfl,rfl⟩
   gi_wp2
   refine hR5.mono ?_
   rintro e W3 ⟨rfl,hJ3,hB3,hK3⟩
   have f1:Hid _:=HF.out _ W3 hJ3 (hK3.2 _ _ Zo yb Zs) (hK3.2 _ _ Λ107 db Zs) (hK3.2 _ _ Λ107 lb Zs) hB3
   clear HF hJ3 hB3 hK3
   gi_wp2
   have f1:=f1.out
   exact ⟨f1.1,rfl,by simpa [hq] using f1.2.1,f1.2.2⟩
 .rintro e V ⟨⟨v,rfl⟩,⟨ys,rfl,hJ,hy,hd,hl⟩|⟨pre,_,h⟩⟩
  .have hl2:=hl
   rw [← hrec] at hl2
   refine jZ hl2 ?_
   intro o
   have hJx:=hput _ V _ _ o hJ Zo hl rfl
   have hDx:(V.putObj (W1.heap.size+1) o).heap[W1.heap.size]?=_:=Et hd Zo
   generalize V.putObj (W1.heap.size+1) o=Vx at hJx hDx ⊢
   have hfin:=hput _ Vx _ _ (.deferred none) hJx Zo hDx rfl
   gi_wp2
   rw [z1] at hDx hfin
   refine ⟨Zs,.inl ⟨_,_,rfl,run_takeDeferred hDx,?_⟩⟩
   exact ⟨_,results_none rfl _ _ _,⟨_,rfl⟩,hfin⟩
  .exact h.elim
theorem Uq (d:Nat) (f:Fn) (c:Array Value) (W:World):(Op.equalIn (d+1) 74 (.func f #[] c) .nilFunc).run Tryz.prog W=.ok false W:=by
 simp [Op.equalIn,run_underlying Tryz.underlying74]
@[local go_sem] theorem func_nil74 (f:Fn) (c:Array Value) (W:World):(binOp .eql 74 (.func f #[] c) .nilFunc).run Tryz.prog W=.ok (.bool false) W:=by
 simp only [binOp]
 simp [Op.equal,Op.maxDepth,Uq 9999]
theorem Tl (d:Nat) (f:Fn) (c:Array Value) (W:World):(Op.equalIn (d+1) 226 (.func f #[] c) .nilFunc).run Tryz.prog W=.ok false W:=by
 simp [Op.equalIn,run_underlying Tryz.underlying226]
@[local go_sem] theorem func_nil226 (f:Fn) (c:Array Value) (W:World):(binOp .eql 226 (.func f #[] c) .nilFunc).run Tryz.prog W=.ok (.bool false) W:=by
 simp only [binOp]
 simp [Op.equal,Op.maxDepth,Tl 9999]
theorem gQ (n:Nat) (f1 f2:Fn) (c1 c2:Array Value) (w:World) :
  CallsIn Fence.wide n Tryz.prog 210 #[.func f1 #[] c1,.func f2 #[] c2] w fun e w'=>e=.returned (.func (.func 224) #[] #[Pt w.heap.size 0,Pt (w.heap.size+1) 0])∧w'=(w.alloc (.cells #[.func f1 #[] c1] 226)).alloc (.cells #[.func f2 #[] c2] 74):=by
 refine callsIn_of_wp Tryz.func210 rfl trivial ?_ rfl
 simp only [Tryz.ntmps210,List.size_toArray,List.length_cons,List.length_nil,Nat.reduceAdd,Nat.reduceSub,Array.replicate_succ,Array.replicate_zero,List.push_toArray,List.append_toArray,List.nil_append,List.cons_append]
 gi_wp2
 go_ret
 exact ⟨rfl,rfl⟩
theorem Sy:(Tryz.prog.info? 3).map (fun i=>(i.zero,i.size,i.bytes))=some (some (Φ 0),1,8):=Zk
def nZ (xs:List Int):List Value:=xs.map fun x=>Φ x
structure KJ (w:World) (sv kf:Value) (rec:LoopState→Loop) (st:LoopState) (pre:List Int) (W:World):Prop where
 row:∃ v,Boxed W w.heap.size 35 v∧W.ownsRow w.heap.size 3 1 v pre.length (nZ pre)
 b1:Boxed W (w.heap.size+1) 35 sv
 b2:Boxed W (w.heap.size+2) 226 (.func (.func 225) #[] #[Pt (w.heap.size+1) 0])
 b3:Boxed W (w.heap.size+3) 74 kf
 d:W.heap[w.heap.size+4]?=some (.deferred (some []))
 l:W.heap[w.heap.size+5]?=some (.loop (rec st))
 low:Below w.heap.size w W
 size:w.heap.size+6≤W.heap.size
theorem Ku {W:World} {k:Nat} {o o':Obj} (h:W.heap[k]?=some o):(W.alloc o').heap[k]?=some o:=(Below.heap_alloc W o' k (Jr h)).trans h
theorem KJ.al {w:World} {sv kf:Value} {rec:LoopState→Loop} {st:LoopState} {pre:List Int} {W:World} (h:KJ w sv kf rec st pre W) (o:Obj):KJ w sv kf rec st pre (W.alloc o):=by
 obtain ⟨v,hv,hr⟩:=h.row
 have:=h.size
 exact ⟨⟨v,hv.alloc o,hr.alloc o⟩,h.b1.alloc o,h.b2.alloc o,h.b3.alloc o,Ku h.d,Ku h.l,h.low.alloc h.low.size o,by simp;omega⟩
theorem Gv {W:World} {B k:Nat} {t:TypeId} {v:Value} {o:Obj} (h:Boxed W B t v) (hne:B≠k):Boxed (W.putObj k o) B t v:=Et h hne
theorem KJ.put {w:World} {sv kf:Value} {rec:LoopState→Loop} {st:LoopState} {pre:List Int} {W:World} {k:Nat} {o:Obj} (h:KJ w sv kf rec st pre W) (o':Obj) (hk:w.heap.size+6≤k) (hl:W.heap[k]?=some o) (ho:o.isCells=false):KJ w sv kf rec st pre (W.putObj k o'):=by
 obtain ⟨v,hv,hr⟩:=h.row
 have:=h.size
 exact ⟨⟨v,Gv hv Zo,ownsRow_putObj hr o' hl ho⟩,Gv h.b1 Zo,Gv h.b2 Zo,Gv h.b3 Zo,Et h.d Zo,Et h.l Zo,h.low.trans (Fw Zo hl),by simp;omega⟩
theorem KJ.turn {w:World} {sv kf:Value} {rec:LoopState→Loop} {st:LoopState} {pre:List Int} {W:World} (h:KJ w sv kf rec st pre W) (st':LoopState):KJ w sv kf rec st' pre (W.putObj (w.heap.size+5) (.loop (rec st'))):=by
 obtain ⟨v,hv,hr⟩:=h.row
 have:=h.size
 exact ⟨⟨v,Gv hv Zo,ownsRow_putObj hr _ h.l rfl⟩,Gv h.b1 Zo,Gv h.b2 Zo,Gv h.b3 Zo,Et h.d Zo,Pv h.l,h.low.trans (Fw Zo h.l),by simp;omega⟩
theorem mJ {W w1:World} {tmp o:Obj} {v v':Value} {n₀ n B k:Nat} {xs:List Value} (hrow:W.ownsRow n₀ 3 1 v n xs) (hgrow:(W.alloc tmp).grownBy w1 v.ownBlock) (hk:W.heap[k]?=some o) (hne:k≠B) (ho:∀ cs fr,o≠.cells cs 3 fr):(w1.setCell (Ψ B 0) v').heap[k]?=some o:=by
 refine (Below.heap_setCell _ _ _ _ hne).trans ((hgrow.block k (by rw [World.size_alloc];have:=Jr hk;omega) (fun e=>?_)).trans (Ku hk))
 rcases hrow.2 with ⟨rfl,_⟩|⟨g,cap,cur,rfl,_,hgb,_⟩
 .simp [Value.ownBlock] at e
 .obtain rfl:k=g:=by simpa [Value.ownBlock] using e
  rw [hk] at hgb
  injection hgb with hgb
  exact ho _ _ hgb
theorem Tc (tb gb:Nat) (q:Int→Bool) (xs:List Int) (sv:Value) (cs:Array Value) (w:World) (hn:xs.length<100000) (ht:w.heap[tb]?=some (.cells cs 104 (0,0))) (hs:cs[8]?=some sv)
  (hsv:so_Ints w.heap.size w sv xs)
  (hkeep:∀ W x,Below w.heap.size w W→Calls Tryz.prog 156 #[Φ x,Pt gb 0] W fun e W'=>e=.returned (.bool (q x))∧W=W') :
  Calls Tryz.prog 159 #[Pt tb 8,.func (.func 156) #[] #[Pt gb 0]] w fun e w'=>(∃ v,e=.returned v)∧∃ rv,w'.ownsRow w.heap.size 3 1 rv (xs.filter q).length (nZ (xs.filter q))∧w'.heap[tb]?=some (.cells (cs.setIfInBounds 8 rv) 104 (0,0))∧Wk.Over (fun k=>k=tb) w w':=by
 obtain ⟨i0,hi,hz0,hz1,hz2⟩:=info_parts Sy
 have hlt:=Jr ht
 have c8:w.cell? (Ψ tb 8)=some sv:=by simp [World.cell?,ht,hs]
 have HK:Hid _:=hkeep
 have HS:Hid _:=hsv
 clear hkeep
 obtain ⟨a0,len0,cap0,esv⟩:∃ a len cap,sv=.slice a len cap:=by
  rcases hsv with ⟨rfl,rfl⟩|⟨b,off,cap,rfl,_,_⟩
  .exact ⟨_,_,_,rfl⟩
  .exact ⟨_,_,_,rfl⟩
 clear hsv
 subst esv
 refine (callsIn_wide (n:=12)).1 ?_
 refine callsIn_of_wp_marks Tryz.func159 rfl trivial ?_ rfl
 simp only [Tryz.ntmps159,List.size_toArray,List.length_cons,List.length_nil,Nat.reduceAdd,Nat.reduceSub,Array.replicate_succ,Array.replicate_zero,List.push_toArray,List.append_toArray,List.nil_append,List.cons_append]
 gi_wp2
 refine ⟨trivial,(Vu Fence.wide _ trivial rfl _ _ _ _).mono ?_⟩
 rintro e w' ⟨rfl,rfl⟩
 gi_wp2
 refine ⟨trivial,(gQ _ _ _ _ _ _).mono ?_⟩
 rintro e w' ⟨rfl,rfl⟩
 gi_wp2
 have g0:Boxed (w.alloc (.cells #[.slice none 0 0] 35)) w.heap.size 35 (.slice none 0 0):=Boxed.new w 35 (.slice none 0 0)
 have g1:=Boxed.new (w.alloc (.cells #[.slice none 0 0] 35)) 35 (.slice a0 len0 cap0)
 have g2:=Boxed.new ((w.alloc (.cells #[.slice none 0 0] 35)).alloc (.cells #[.slice a0 len0 cap0] 35)) 226 (.func (.func 225) #[] #[Pt (w.heap.size+1) 0])
 have g3:=Boxed.new (((w.alloc (.cells #[.slice none 0 0] 35)).alloc (.cells #[.slice a0 len0 cap0] 35)).alloc (.cells #[.func (.func 225) #[] #[Pt (w.heap.size+1) 0]] 226)) 74 (.func (.func 156) #[] #[Pt gb 0])
 simp only [World.size_alloc] at g1 g2 g3
 replace g0:=((g0.alloc (.cells #[.slice a0 len0 cap0] 35)).alloc (.cells #[.func (.func 225) #[] #[Pt (w.heap.size+1) 0]] 226)).alloc (.cells #[.func (.func 156) #[] #[Pt gb 0]] 74)
 replace g1:=(g1.alloc (.cells #[.func (.func 225) #[] #[Pt (w.heap.size+1) 0]] 226)).alloc (.cells #[.func (.func 156) #[] #[Pt gb 0]] 74)
 replace g2:=g2.alloc (.cells #[.func (.func 156) #[] #[Pt gb 0]] 74)
 have B1:Below w.heap.size w ((((w.alloc (.cells #[.slice none 0 0] 35)).alloc (.cells #[.slice a0 len0 cap0] 35)).alloc (.cells #[.func (.func 225) #[] #[Pt (w.heap.size+1) 0]] 226)).alloc (.cells #[.func (.func 156) #[] #[Pt gb 0]] 74)):=
  ((((Below.refl _ w).alloc (Nat.le_refl _) _).alloc Zs _).alloc (by simp;omega) _).alloc (by simp;omega) _
 have z1:((((w.alloc (.cells #[.slice none 0 0] 35)).alloc (.cells #[.slice a0 len0 cap0] 35)).alloc (.cells #[.func (.func 225) #[] #[Pt (w.heap.size+1) 0]] 226)).alloc (.cells #[.func (.func 156) #[] #[Pt gb 0]] 74)).heap.size=w.heap.size+4:=Zs
 generalize ((((w.alloc (.cells #[.slice none 0 0] 35)).alloc (.cells #[.slice a0 len0 cap0] 35)).alloc (.cells #[.func (.func 225) #[] #[Pt (w.heap.size+1) 0]] 226)).alloc (.cells #[.func (.func 156) #[] #[Pt gb 0]] 74))=W1 at g0 g1 g2 g3 B1 z1 ⊢
 refine Yy rfl Zd (gf:=224) (lb:=#[Pt (w.heap.size+2) 0,Pt (w.heap.size+3) 0]) rfl trivial (enters_of Tryz.func224 Zk rfl) ?_
 intro fn hfn
 generalize hrec:Uo fn _ _ _ _ _=rec
 rw [z1] at hrec ⊢
 obtain ⟨W2,hW2⟩:∃ W2,(W1.alloc (.deferred (some []))).alloc (.loop (rec .ready))=W2:=⟨_,rfl⟩
 rw [hW2]
 have h2:KJ w (.slice a0 len0 cap0) (.func (.func 156) #[] #[Pt gb 0]) rec .ready [] W2:=by
  rw [← hW2]
  refine ⟨⟨_,(g0.alloc _).alloc _,World.ownsRow_nil _ _ _ _⟩,(g1.alloc _).alloc _,(g2.alloc _).alloc _,(g3.alloc _).alloc _,?_,?_,(B1.alloc Zo _).alloc (by simp;omega) _,by simp;omega⟩
  .refine (Below.heap_alloc _ _ _ (by simp;omega)).trans ?_
   have:=World.alloc_heap_new W1 (.deferred (some []))
   rwa [z1] at this
  .have:=World.alloc_heap_new (W1.alloc (.deferred (some []))) (.loop (rec .ready))
   rwa [World.size_alloc,z1] at this
 have hI2:so_Ints w.heap.size W2 (.slice a0 len0 cap0) xs:=so_Ints.below h2.low HS.out
 have key:=nM (l:=w.heap.size+5) (B1:=w.heap.size+2) (B2:=w.heap.size+3) (Bs:=w.heap.size+1) (gb:=gb) (n₀:=w.heap.size) (M:=w.heap.size+6) (sv:=.slice a0 len0 cap0) (zs:=xs) (q:=q) Zo Zo
  (J:=fun pre W=>KJ w (.slice a0 len0 cap0) (.func (.func 156) #[] #[Pt gb 0]) rec .ready pre W)
  (fun pre W o h=>h.al o) (fun pre W k o o' h hk hl ho=>h.put o' hk hl ho) (fun pre W h=>h.size) (fun pre W h=>⟨h.b2.cell,h.b3.cell,h.b1.cell⟩) (fun pre W x h=>HK.out W x h.low) ?_ W2 h2 hI2
 .refine callsIn_wide.2 ((callsIn_wide.1 key).mono ?_)
  rintro e V ⟨⟨v,rfl⟩,hJ⟩
  have hl:=hJ.l
  rw [← hrec] at hl
  refine jZ hl ?_
  intro o
  have hVl:=hJ.l
  clear hl
  obtain ⟨rv,hv,hrow⟩:=hJ.row
  have h8:V.cell? (Ψ tb 8)=some (.slice a0 len0 cap0):=(hJ.low.cell (p:=(Ψ tb 8)) hlt).trans c8
  have f8:V.frozen? (Ψ tb 8)=false:=by
   simp [World.frozen?,hJ.low.block _ hlt,ht]
  have x8:(V.putObj (w.heap.size+5) o).cell? (Ψ tb 8)=some (.slice a0 len0 cap0):=(Zf (by show tb≠_;omega)).trans h8
  have x5:Boxed (V.putObj (w.heap.size+5) o) w.heap.size 35 rv:=Gv hv Zo
  have y8:(V.putObj (w.heap.size+5) o).frozen? (Ψ tb 8)=false:=by
   simp [World.frozen?,World.putObj_heap_other (w:=V) (o:=o) (show tb≠w.heap.size+5 by omega),hJ.low.block _ hlt,ht]
  have xr:=ownsRow_putObj hrow o hVl rfl
  have xb:Below w.heap.size w (V.putObj (w.heap.size+5) o):=hJ.low.trans (Fw Zo hVl)
  have xd:(V.putObj (w.heap.size+5) o).heap[w.heap.size+4]?=some (.deferred (some [])):=Et hJ.d Zo
  generalize V.putObj (w.heap.size+5) o=Vx at x8 x5 y8 xr xb xd ⊢
  obtain ⟨ar,cr,er⟩:∃ a c,rv=.slice a (xs.filter q).length c:=by
   rcases xr.2 with ⟨e1,e2⟩|⟨g,cap,cur,e1,_⟩
   .exact ⟨none,0,by rw [e1,e2]⟩
   .exact ⟨_,_,e1⟩
  obtain ⟨nr,hnr⟩:∃ nr,(xs.filter q).length=nr:=⟨_,rfl⟩
  rw [hnr] at er
  rw [hnr] at xr
  subst er
  have XR:Hid _:=xr
  have HN:Hid _:=hnr
  clear xr hnr
  have x5c:=x5.cell
  clear g0 g1 g2 g3 B1 z1 hW2 h2 hI2 key hrec hJ hVl h8 f8 hv hrow
  have hfl:Tryz.prog.follows .mixedOrders=true:=Zk
  gi_wp2
  gi_region
  all_goals gi_wp2
  have xt:Vx.heap[tb]?=some (.cells cs 104 (0,0)):=(xb.block _ hlt).trans ht
  have hd2:(Vx.setCell (Ψ tb 8) (.slice ar nr cr)).drew.heap[w.heap.size+4]?=some (.deferred (some [])):=(Below.heap_setCell _ _ _ _ (show w.heap.size+4≠tb by omega)).trans xd
  refine ⟨Zs,.inl ⟨_,_,rfl,run_takeDeferred hd2,?_⟩⟩
  refine ⟨_,results_tmp rfl _ _ _,⟨_,rfl⟩,.slice ar nr cr,?_,?_,?_⟩
  .rw [HN.out]
   refine ownsRow_putObj (W:=(Vx.setCell (Ψ tb 8) (.slice ar nr cr)).drew) ?_ _ hd2 rfl
   refine World.ownsRow.kept (row:=some tb) XR.out ⟨rfl,rfl,rfl,by simp [World.setCell],fun k _ hk=>Below.heap_setCell _ _ _ _ (fun e=>hk (by rw [e]))⟩ (.inr ?_)
   rcases XR.out.2 with ⟨e,_⟩|⟨g,cap,cur,e,hge,_⟩
   .rw [e]
    simp [Value.ownBlock]
   .rw [e]
    simp only [Value.ownBlock,ne_eq,Option.some.injEq]
    omega
  .exact Et (W:=(Vx.setCell (Ψ tb 8) (.slice ar nr cr)).drew) (Go.Proofs.YtlejhikddkdanaaGreatW.PrintWords.blk_set xt 8 _) Zo
  .exact (((Wk.Over.of_below (fun k=>k=tb) xb).set_ (p:=(Ψ tb 8)) (.inl rfl) _).drew).then_ (S2:=fun k=>k=w.heap.size+4) ⟨rfl,rfl,rfl,Zs,fun k _ hk=>World.putObj_heap_other hk⟩ (fun k hk=>.inr Zo)
 .intro pre x V hJ hlen
  have hl:=hJ.l
  rw [← hrec] at hl
  refine (Yx (R:=fun e W'=>e=.returned (.bool true)∧KJ w (.slice a0 len0 cap0) (.func (.func 156) #[] #[Pt gb 0]) rec .ready (pre++[x]) W'∧Below w.heap.size V W'∧KeepT (w.heap.size+6) V W') trivial hl rfl ?_)
  clear hl
  have HJ:Hid _:=hJ
  have hJb:=hJ.turn .busy
  clear hJ
  gi_wp2
  refine ⟨HJ.out.l,?_⟩
  have hbk:Hid (Below w.heap.size V (V.putObj (w.heap.size+5) (.loop (rec .busy)))∧KeepT (w.heap.size+6) V (V.putObj (w.heap.size+5) (.loop (rec .busy)))):=⟨Fw Zo HJ.out.l,Zs,fun k o hk ho _=>Et ho Zo⟩
  generalize V.putObj (w.heap.size+5) (.loop (rec .busy))=Vb at hJb hbk ⊢
  obtain ⟨v,hv,hrow⟩:=hJb.row
  have hB:=hJb.low
  have hc:=hv.cell
  have hml:100000≤maxLen:=Zd
  have HB:Hid _:=hJb
  clear hJb g0 g1 g2 g3 B1 z1 hW2 h2 hI2 hrec
  gi_wp2_with (gi_at_builtin;refine wpListIn_append_own _ rfl _ _ 35 rfl w.heap.size 3 i0 (Φ 0) 1 8 Tryz.underlying35 hi hz0 hz1 hz2 rfl Zd _ _ _ rfl (hrow.alloc _) (Ψ Vb.heap.size 0) 1 1 [Φ x] rfl rfl (cell_one_new _ _ _) Λ154 Zo Zo (by have:=hB.size;simp;omega) ?_;intro v' w1 hown' hgrow _;obtain ⟨g',cap',rfl⟩:=ownsRow_succ hown';obtain ⟨hv1,hv2,hr2,hk2,hb2⟩:=hv.appended Zd hrow hB.size (Nat.le_refl _) hown' hgrow;have hc1:=hv1.cell;have hf1:=hv1.frozen)
  have H:=HB.out
  have keep:∀ k o,Vb.heap[k]?=some o→k≠w.heap.size→(∀ cs fr,o≠.cells cs 3 fr)→_:=fun k o hk hne ho=>mJ (v':=Tv g' pre.length cap') hrow hgrow hk hne ho
  have h3:KJ w (.slice a0 len0 cap0) (.func (.func 156) #[] #[Pt gb 0]) rec .busy (pre++[x]) (w1.setCell (Ψ w.heap.size 0) (Tv g' pre.length cap')):=
   ⟨⟨_,hv2,by simpa [nZ] using hr2⟩,keep _ _ H.b1 Zo Zs,keep _ _ H.b2 Zo Zs,keep _ _ H.b3 Zo Zs,keep _ _ H.d Zo Zs,keep _ _ H.l Zo Zs,H.low.trans hb2,Nat.le_trans H.size hk2.size⟩
  have h4:=hbk.out
  refine ⟨h3.l,rfl,h3.turn .ready,(h4.1.trans hb2).trans (Fw Zo h3.l),h4.2.trans ⟨Nat.le_trans hk2.size Zs,fun k o hk ho hn=>Et (keep k o ho Zo hn) Zo⟩⟩
end
end Go.Proofs.YtlejhikddkdanaaGreat.Mdl
namespace Go.Proofs.YtlejhikddkdanaaGreat.Mdl
open RowKit PTopSame Wk Fns YtlejhikddkdanaaGreatW.PrintWords YtlejhikddkdanaaGreatW.PrintLast YtlejhikddkdanaaGreatW.PrintMore
variable {c:Cf} {tid:Int} {A:Ad} {T:Td} {B:Nat→Prop} {w0 w w1 w2 w6 w7:World} {fv fv':Value} {s s':St} {l l' fs:List Fr} {f f':Fr} {fb cap ga gb qb thb:Nat}
section
attribute [local go_sem] Cs Cq De Dd Cj Ci Cr Cp
structure MakeAt (c:Cf) (g3 g8:Nat) (w0 w:World):Prop where
 conf:w.heap[g3]?=some (.cells #[Φ c.algo,Φ c.th,Φ c.ns,Φ c.lv,Φ c.batch,Φ c.probes,Φ c.scan] 23 (0,0))
 plan:w.heap[g8]?=some (.cells #[Φ c.algo,Φ c.th,Φ c.ns,Φ c.lv,Φ c.batch,Φ c.probes,Φ c.scan,Φ c.sl,Φ c.wI,Φ c.sE,Φ c.hZ,Φ c.lK,Φ c.nA,Φ c.tA,Φ c.size] 85 (0,0))
 below:Below w0.heap.size w0 w
theorem MakeAt.same {g3 g8:Nat} {w0 w w1:World} (h:MakeAt c g3 g8 w0 w) (hb:Below w.heap.size w w1):MakeAt c g3 g8 w0 w1:=⟨Ac h.conf hb,Ac h.plan hb,Ag h.below hb⟩
theorem MakeAt.cells {g3 g8:Nat} {w0 w:World} (h:MakeAt c g3 g8 w0 w):w.cell? (Ψ g3 0)=some (Φ c.algo)∧w.cell? (Ψ g3 1)=some (Φ c.th)∧w.cell? (Ψ g3 2)=some (Φ c.ns)∧w.cell? (Ψ g3 3)=some (Φ c.lv)∧w.cell? (Ψ g3 4)=some (Φ c.batch)∧w.cell? (Ψ g3 5)=some (Φ c.probes)∧w.cell? (Ψ g3 6)=some (Φ c.scan)∧w.cell? (Ψ g8 0)=some (Φ c.algo)∧w.cell? (Ψ g8 1)=some (Φ c.th)∧w.cell? (Ψ g8 2)=some (Φ c.ns)∧w.cell? (Ψ g8 3)=some (Φ c.lv)∧w.cell? (Ψ g8 4)=some (Φ c.batch)∧w.cell? (Ψ g8 5)=some (Φ c.probes)∧w.cell? (Ψ g8 6)=some (Φ c.scan)∧w.cell? (Ψ g8 7)=some (Φ c.sl)∧w.cell? (Ψ g8 8)=some (Φ c.wI)∧w.cell? (Ψ g8 9)=some (Φ c.sE)∧w.cell? (Ψ g8 10)=some (Φ c.hZ)∧w.cell? (Ψ g8 11)=some (Φ c.lK)∧w.cell? (Ψ g8 12)=some (Φ c.nA)∧w.cell? (Ψ g8 13)=some (Φ c.tA)∧w.cell? (Ψ g8 14)=some (Φ c.size):=⟨(Aa h.conf 0).trans rfl,(Aa h.conf 1).trans rfl,(Aa h.conf 2).trans rfl,(Aa h.conf 3).trans rfl,(Aa h.conf 4).trans rfl,(Aa h.conf 5).trans rfl,(Aa h.conf 6).trans rfl,(Aa h.plan 0).trans rfl,(Aa h.plan 1).trans rfl,(Aa h.plan 2).trans rfl,(Aa h.plan 3).trans rfl,(Aa h.plan 4).trans rfl,(Aa h.plan 5).trans rfl,(Aa h.plan 6).trans rfl,(Aa h.plan 7).trans rfl,(Aa h.plan 8).trans rfl,(Aa h.plan 9).trans rfl,(Aa h.plan 10).trans rfl,(Aa h.plan 11).trans rfl,(Aa h.plan 12).trans rfl,(Aa h.plan 13).trans rfl,(Aa h.plan 14).trans rfl⟩
theorem MakeAt.begin {g3 g8:Nat} {w0 wc w2:World} (hb:Below w0.heap.size w0 wc) (hx:wc.heap[g3]?=some (.cells #[Φ c.algo,Φ c.th,Φ c.ns,Φ c.lv,Φ c.batch,Φ c.probes,Φ c.scan] 23 (0,0))) (hc:w2.heap[g8]?=some (.cells #[Φ c.algo,Φ c.th,Φ c.ns,Φ c.lv,Φ c.batch,Φ c.probes,Φ c.scan,Φ c.sl,Φ c.wI,Φ c.sE,Φ c.hZ,Φ c.lK,Φ c.nA,Φ c.tA,Φ c.size] 85 (0,0))) (gcl:w0.heap.size≤g8) (e:w2=(((((((((((((((wc.setCell (Ψ g8 0) (Φ c.algo)).setCell (Ψ g8 1) (Φ c.th)).setCell (Ψ g8 2) (Φ c.ns)).setCell (Ψ g8 3) (Φ c.lv)).setCell (Ψ g8 4) (Φ c.batch)).setCell (Ψ g8 5) (Φ c.probes)).setCell (Ψ g8 6) (Φ c.scan)).setCell (Ψ g8 7) (Φ c.sl)).setCell (Ψ g8 8) (Φ c.wI)).setCell (Ψ g8 9) (Φ c.sE)).setCell (Ψ g8 10) (Φ c.hZ)).setCell (Ψ g8 11) (Φ c.lK)).setCell (Ψ g8 12) (Φ c.nA)).setCell (Ψ g8 13) (Φ c.tA)).setCell (Ψ g8 14) (Φ c.size))) (hz:wc.heap[g8]?=some (.cells #[Φ 0,Φ 0,Φ 0,Φ 0,Φ 0,Φ 0,Φ 0,Φ 0,Φ 0,Φ 0,Φ 0,Φ 0,Φ 0,Φ 0,Φ 0] 85 (0,0))):MakeAt c g3 g8 w0 w2:=by
 have ho:Over (fun k=>k=g8) wc w2:=by
  rw [e]
  exact (((((((((((((((Over.refl (fun k=>k=g8) wc).set_ (Or.inl rfl) _).set_ (Or.inl rfl) _).set_ (Or.inl rfl) _).set_ (Or.inl rfl) _).set_ (Or.inl rfl) _).set_ (Or.inl rfl) _).set_ (Or.inl rfl) _).set_ (Or.inl rfl) _).set_ (Or.inl rfl) _).set_ (Or.inl rfl) _).set_ (Or.inl rfl) _).set_ (Or.inl rfl) _).set_ (Or.inl rfl) _).set_ (Or.inl rfl) _).set_ (Or.inl rfl) _
 exact ⟨ho.blk hx (An hx hz Zd),hc,Lh hb ho gcl⟩
theorem nT (G:Good c tid) (w:World):Calls Tryz.prog 34 #[Φ c.size] w fun e w'=>∃ pb wb,e=.returned (.tuple #[Pt pb 0,Φ 0])∧Lay c pb wb (fun _=>0) w'∧Below w.heap.size w w'∧w.heap.size≤pb∧w.heap.size≤wb:=by
 have hb:=Dy G
 have h1:=hb.haz
 have h2:=hb.nod
 have h3:=hb.pl
 have h4:=hb.ns
 have hs:8≤c.size∧c.size≤4096:=by unfold Cf.size Cf.tA Cf.nA Cf.lK Cf.hZ;omega
 have e:c.size=((c.size.toNat:Nat):Int):=Zo
 rw [e]
 refine (Wz c.size.toNat Zo Zo w).mono ?_
 rintro e2 w2 ⟨rfl,hm,hbl⟩
 refine ⟨_,_,rfl,⟨_,hm,by simp;omega,fun x _=>?_⟩,hbl,Nat.le_succ _,Nat.le_refl _⟩
 unfold rd
 rw [List.getD_eq_getElem?_getD,List.getElem?_replicate]
 split<;>rfl
structure MakeMem (c:Cf) (g3 g8 pb wb:Nat) (w0:World) (m:Loc→Int) (w:World):Prop where
 make:MakeAt c g3 g8 w0 w
 lay:Lay c pb wb m w
 pb:w0.heap.size≤pb
 wb:w0.heap.size≤wb
namespace MakeMem
variable {g3 g8 pb wb:Nat} {w0 w w1:World} {m m1:Loc→Int}
theorem same (h:MakeMem c g3 g8 pb wb w0 m w) (hb:Below w.heap.size w w1):MakeMem c g3 g8 pb wb w0 m w1:=⟨h.make.same hb,h.lay.same hb,h.pb,h.wb⟩
theorem drew (h:MakeMem c g3 g8 pb wb w0 m w):MakeMem c g3 g8 pb wb w0 m w.drew:=h.same (Da (Below.refl _ _))
theorem alloc (h:MakeMem c g3 g8 pb wb w0 m w) (o:Obj):MakeMem c g3 g8 pb wb w0 m (w.alloc o):=h.same (Af (Below.refl _ _) o)
theorem cells (h:MakeMem c g3 g8 pb wb w0 m w):w.cell? (Ψ g3 0)=some (Φ c.algo)∧w.cell? (Ψ g3 1)=some (Φ c.th)∧w.cell? (Ψ g3 2)=some (Φ c.ns)∧w.cell? (Ψ g3 3)=some (Φ c.lv)∧w.cell? (Ψ g3 4)=some (Φ c.batch)∧w.cell? (Ψ g3 5)=some (Φ c.probes)∧w.cell? (Ψ g3 6)=some (Φ c.scan)∧w.cell? (Ψ g8 0)=some (Φ c.algo)∧w.cell? (Ψ g8 1)=some (Φ c.th)∧w.cell? (Ψ g8 2)=some (Φ c.ns)∧w.cell? (Ψ g8 3)=some (Φ c.lv)∧w.cell? (Ψ g8 4)=some (Φ c.batch)∧w.cell? (Ψ g8 5)=some (Φ c.probes)∧w.cell? (Ψ g8 6)=some (Φ c.scan)∧w.cell? (Ψ g8 7)=some (Φ c.sl)∧w.cell? (Ψ g8 8)=some (Φ c.wI)∧w.cell? (Ψ g8 9)=some (Φ c.sE)∧w.cell? (Ψ g8 10)=some (Φ c.hZ)∧w.cell? (Ψ g8 11)=some (Φ c.lK)∧w.cell? (Ψ g8 12)=some (Φ c.nA)∧w.cell? (Ψ g8 13)=some (Φ c.tA)∧w.cell? (Ψ g8 14)=some (Φ c.size):=h.make.cells
theorem laid (h:MakeMem c g3 g8 pb wb w0 m w) (hl:Lay c pb wb m1 w1) (ho:Over (Vm pb wb) w w1):MakeMem c g3 g8 pb wb w0 m1 w1:=by
 obtain ⟨ws,hm,_⟩:=h.lay
 obtain ⟨st,hp⟩:=hm.head
 have hn:∀ {g:Nat} {cs:Array Value} {t:TypeId},w.heap[g]?=some (.cells cs t (0,0))→t≠142→t≠82→¬ Vm pb wb g:=by
  intro g cs t hg h1 h2
  rintro (e|e)
  .exact An hg hp h1 e
  .exact An hg hm.row h2 e
 refine ⟨⟨ho.blk h.make.conf (hn h.make.conf Zd Zd),ho.blk h.make.plan (hn h.make.plan Zd Zd),?_⟩,hl,h.pb,h.wb⟩
 have hb:=h.make.below
 exact {os:=ho.os.trans hb.os,tape:=ho.tape.trans hb.tape,output:=ho.output.trans hb.output,size:=Nat.le_trans hb.size ho.size,block:=fun i hi=>(ho.block i (Nat.lt_of_lt_of_le hi hb.size) (by have:=h.pb;have:=h.wb;rintro (e|e)<;>omega)).trans (hb.block i hi)}
end MakeMem
structure MachAt (c:Cf) (g3 g8 pb wb gm fb bb:Nat) (ghv thv:Value) (w0:World) (m:Loc→Int) (w:World):Prop where
 mm:MakeMem c g3 g8 pb wb w0 m w
 head:w.heap[gm]?=some (.cells #[Φ c.algo,Φ c.th,Φ c.ns,Φ c.lv,Φ c.batch,Φ c.probes,Φ c.scan,Φ c.sl,Φ c.wI,Φ c.sE,Φ c.hZ,Φ c.lK,Φ c.nA,Φ c.tA,Φ c.size,Pt pb 0,ghv,Pt fb 0,thv,.bool false,.bool false] 96 (0,0))
 feed:IsFeed fb bb c.bytes 0 w
 gm:w0.heap.size≤gm
namespace MachAt
variable {g3 g8 pb wb gm fb bb:Nat} {ghv thv:Value} {w0 w w1:World} {m:Loc→Int}
theorem same (h:MachAt c g3 g8 pb wb gm fb bb ghv thv w0 m w) (hb:Below w.heap.size w w1):MachAt c g3 g8 pb wb gm fb bb ghv thv w0 m w1:=⟨h.mm.same hb,Ac h.head hb,h.feed.same hb,h.gm⟩
theorem drew (h:MachAt c g3 g8 pb wb gm fb bb ghv thv w0 m w):MachAt c g3 g8 pb wb gm fb bb ghv thv w0 m w.drew:=h.same (Da (Below.refl _ _))
theorem cells (h:MachAt c g3 g8 pb wb gm fb bb ghv thv w0 m w):w.cell? (Ψ g3 0)=some (Φ c.algo)∧w.cell? (Ψ g3 1)=some (Φ c.th)∧w.cell? (Ψ g3 2)=some (Φ c.ns)∧w.cell? (Ψ g3 3)=some (Φ c.lv)∧w.cell? (Ψ g3 4)=some (Φ c.batch)∧w.cell? (Ψ g3 5)=some (Φ c.probes)∧w.cell? (Ψ g3 6)=some (Φ c.scan)∧w.cell? (Ψ g8 0)=some (Φ c.algo)∧w.cell? (Ψ g8 1)=some (Φ c.th)∧w.cell? (Ψ g8 2)=some (Φ c.ns)∧w.cell? (Ψ g8 3)=some (Φ c.lv)∧w.cell? (Ψ g8 4)=some (Φ c.batch)∧w.cell? (Ψ g8 5)=some (Φ c.probes)∧w.cell? (Ψ g8 6)=some (Φ c.scan)∧w.cell? (Ψ g8 7)=some (Φ c.sl)∧w.cell? (Ψ g8 8)=some (Φ c.wI)∧w.cell? (Ψ g8 9)=some (Φ c.sE)∧w.cell? (Ψ g8 10)=some (Φ c.hZ)∧w.cell? (Ψ g8 11)=some (Φ c.lK)∧w.cell? (Ψ g8 12)=some (Φ c.nA)∧w.cell? (Ψ g8 13)=some (Φ c.tA)∧w.cell? (Ψ g8 14)=some (Φ c.size):=h.mm.cells
theorem setGh (h:MachAt c g3 g8 pb wb gm fb bb ghv thv w0 m w) (v:Value):MachAt c g3 g8 pb wb gm fb bb v thv w0 m (w.setCell (Ψ gm 16) v):=by
 have ho:Over (fun k=>k=gm) w (w.setCell (Ψ gm 16) v):=(Over.refl (fun k=>k=gm) w).set_ (Or.inl rfl) _
 obtain ⟨ws,hm,_⟩:=h.mm.lay
 obtain ⟨st,hp⟩:=hm.head
 obtain ⟨X,cp,hf,_⟩:=h.feed.head
 have n1:=An hp h.head Zd
 have n2:=An hm.row h.head Zd
 exact ⟨⟨⟨ho.blk h.mm.make.conf (An h.mm.make.conf h.head Zd),ho.blk h.mm.make.plan (An h.mm.make.plan h.head Zd),Lh h.mm.make.below ho h.gm⟩,h.mm.lay.over ho n1 n2,h.mm.pb,h.mm.wb⟩,Ae h.head 16 _ rfl,h.feed.over ho (An hf h.head Zd) (fun hp=>(h.feed.row hp).elim fun cs h6=>An h6.1 h.head Zd),h.gm⟩
end MachAt
theorem iM (G:Good c tid) (w:World):Calls Tryz.prog 38 #[Φ c.ns,Φ c.sE] w fun e w'=>∃ gb tb,e=.returned (Pt gb 0)∧IsGh gb tb ⟨Fm c.ns.toNat c.sE.toNat,0,0⟩ w'∧Below w.heap.size w w'∧w.heap.size≤gb∧w.heap.size≤tb:=by
 have hn:=G.ns
 have hs:0≤c.sE:=by unfold Cf.sE;split<;>decide
 have e1:c.ns=((c.ns.toNat:Nat):Int):=Zo
 have e2:c.sE=((c.sE.toNat:Nat):Int):=Zo
 have h:=Ti c.ns.toNat c.sE.toNat Zo Zo Zo w
 rw [← e1,← e2] at h
 refine h.mono ?_
 rintro e w2 ⟨rfl,h1,h2⟩
 exact ⟨_,_,rfl,h1,h2,Nat.le_succ _,Nat.le_refl _⟩
theorem kV {g3 g8 pb wb gm fb bb:Nat} {ghv thv:Value} {w0 w:World} {m:Loc→Int} {P:Program} {n:FuncId} {args:Array Value} {R:Ending→World→Prop} (hI:MachAt c g3 g8 pb wb gm fb bb ghv thv w0 m w) (h:MachAt c g3 g8 pb wb gm fb bb ghv thv w0 m w→Calls P n args w R):Calls P n args w R:=h hI
theorem kS {g3 g8 pb wb:Nat} {w0 w:World} {m:Loc→Int} {P:Program} {n:FuncId} {args:Array Value} {R:Ending→World→Prop} (hI:MakeMem c g3 g8 pb wb w0 m w) (h:MakeMem c g3 g8 pb wb w0 m w→Calls P n args w R):Calls P n args w R:=h hI
theorem uK (G:Good c tid) (x:Loc) (hx:c.has x=true):0≤No c x∧No c x<18446744073709551616:=by
 have hs:c.sE=0∨c.sE=2:=by unfold Cf.sE;split<;>simp
 have hn:=G.ns
 have hl:=G.lv
 cases x<;>unfold No<;>dsimp only<;>(repeat' split)<;>omega
namespace MachAt
variable {g3 g8 pb wb gm fb bb:Nat} {ghv thv:Value} {w0 w w1:World} {m:Loc→Int}
theorem gh_set (h:MachAt c g3 g8 pb wb gm fb bb ghv thv w0 m w) {gb tb i:Nat} {g:Gh} (hg:IsGh gb tb g w) (v:Value):IsGh gb tb g (w.setCell (Ψ gm i) v):=
 hg.over ((Over.refl (fun k=>k=gm) w).set_ (Or.inl rfl) _) (An hg.head h.head Zd) (An hg.row h.head Zd)
theorem setTh (h:MachAt c g3 g8 pb wb gm fb bb ghv thv w0 m w) (v:Value):MachAt c g3 g8 pb wb gm fb bb ghv v w0 m (w.setCell (Ψ gm 18) v):=by
 have ho:Over (fun k=>k=gm) w (w.setCell (Ψ gm 18) v):=(Over.refl (fun k=>k=gm) w).set_ (Or.inl rfl) _
 obtain ⟨ws,hm,_⟩:=h.mm.lay
 obtain ⟨st,hp⟩:=hm.head
 obtain ⟨X,cp,hf,_⟩:=h.feed.head
 have n1:=An hp h.head Zd
 have n2:=An hm.row h.head Zd
 exact ⟨⟨⟨ho.blk h.mm.make.conf (An h.mm.make.conf h.head Zd),ho.blk h.mm.make.plan (An h.mm.make.plan h.head Zd),Lh h.mm.make.below ho h.gm⟩,h.mm.lay.over ho n1 n2,h.mm.pb,h.mm.wb⟩,Ae h.head 18 _ rfl,h.feed.over ho (An hf h.head Zd) (fun hp=>(h.feed.row hp).elim fun cs h6=>An h6.1 h.head Zd),h.gm⟩
theorem grown (h:MachAt c g3 g8 pb wb gm fb bb ghv thv w0 m w) {n:Nat} {v:Value} {xs:List Value} (hr:w.ownsRow w0.heap.size 98 1 v n xs) (hg:w.grownBy w1 v.ownBlock):MachAt c g3 g8 pb wb gm fb bb ghv thv w0 m w1:=by
 have ho:Over (fun k=>some k=v.ownBlock) w w1:=⟨hg.os,hg.tape,hg.output,hg.size,hg.block⟩
 have key:∀ {k:Nat} {cs:Array Value} {e:TypeId},w.heap[k]?=some (.cells cs e (0,0))→e≠98→¬ some k=v.ownBlock:=by
  intro k cs e hk he hs
  obtain ⟨cs',h'⟩:=Ay hr hs.symm
  exact An hk h' he rfl
 obtain ⟨ws,hm,_⟩:=h.mm.lay
 obtain ⟨st,hp⟩:=hm.head
 obtain ⟨X,cp,hf,_⟩:=h.feed.head
 have hb:=h.mm.make.below
 have hlow:∀ i,i<w0.heap.size→¬ some i=v.ownBlock:=by
  intro i hi hs
  rcases hr.2 with ⟨rfl,_⟩|⟨g,cap,cur,rfl,hle,_⟩
  .simp [Value.ownBlock] at hs
  .have:i=g:=by simpa [Value.ownBlock] using hs
   omega
 exact ⟨⟨⟨ho.blk h.mm.make.conf (key h.mm.make.conf Zd),ho.blk h.mm.make.plan (key h.mm.make.plan Zd),{os:=ho.os.trans hb.os,tape:=ho.tape.trans hb.tape,output:=ho.output.trans hb.output,size:=Nat.le_trans hb.size ho.size,block:=fun i hi=>(ho.block i (Nat.lt_of_lt_of_le hi hb.size) (hlow i hi)).trans (hb.block i hi)}⟩,h.mm.lay.over ho (key hp Zd) (key hm.row Zd),h.mm.pb,h.mm.wb⟩,ho.blk h.head (key h.head Zd),h.feed.over ho (key hf Zd) (fun hp=>(h.feed.row hp).elim fun cs h6=>key h6.1 Zd),h.gm⟩
theorem c18 (h:MachAt c g3 g8 pb wb gm fb bb ghv thv w0 m w) {lv:Nat} (e:c.lv=(lv:Int)):w.cell? (Ψ g3 3)=some (Φ (lv:Int))∧w.cell? (Ψ gm 18)=some thv:=⟨by rw [← e];exact (Aa h.mm.make.conf 3).trans rfl,(Aa h.head 18).trans rfl⟩
theorem wb_lt (h:MachAt c g3 g8 pb wb gm fb bb ghv thv w0 m w):wb<w.heap.size:=h.mm.lay.lt.2
end MachAt
structure NewTd (c:Cf) (tid:Int) (wb N:Nat) (T:Td) (w:World):Prop where
 low:N≤T.tb∧N≤T.pr∧N≤T.sc∧N≤T.wd
 tb:w.heap[T.tb]?=some (.cells #[Φ tid,.slice none 0 0,Γ 0,Γ 0,Γ 0,.slice (some (Ψ T.pr 0)) c.lv.toNat c.lv.toNat,.slice (some (Ψ T.sc 0)) c.lv.toNat c.lv.toNat,.slice (some (Ψ T.wd 0)) c.lv.toNat c.lv.toNat,.slice none 0 0,.slice none 0 0] 104 (0,0))
 pr:w.heap[T.pr]?=some (.cells (Hv c.lv fun _=>0) 82 (0,0))
 sc:w.heap[T.sc]?=some (.cells (Hv c.lv fun _=>0) 82 (0,0))
 wd:w.heap[T.wd]?=some (.cells (Hv c.lv fun _=>0) 82 (0,0))
 ne:T.pr≠wb∧T.sc≠wb∧T.wd≠wb∧T.pr≠T.sc∧T.pr≠T.wd∧T.sc≠T.wd
theorem NewTd.over {wb N:Nat} {T:Td} {w w1:World} {S:Nat→Prop} (h:NewTd c tid wb N T w) (ho:Over S w w1) (hS:∀ k cs e,w.heap[k]?=some (.cells cs e (0,0))→e=104∨e=82→¬ S k):NewTd c tid wb N T w1:=
 ⟨h.low,ho.blk h.tb (hS _ _ _ h.tb (.inl rfl)),ho.blk h.pr (hS _ _ _ h.pr (.inr rfl)),ho.blk h.sc (hS _ _ _ h.sc (.inr rfl)),ho.blk h.wd (hS _ _ _ h.wd (.inr rfl)),h.ne⟩
theorem kW {lv:Nat} (e:c.lv=(lv:Int)):madeCells #[Value.int .u64 0] lv=Hv c.lv fun _=>0:=by
 rw [Qa,e]
 unfold Hv Co
 rw [Int.toNat_natCast,List.map_replicate]
 congr 1
 rw [List.map_const',List.length_range]
theorem kN {lv p q r t wb N:Nat} {w:World} (e:c.lv=(lv:Int)) (hb:w.heap[t]?=some (.cells #[Φ tid,.slice none 0 0,Γ 0,Γ 0,Γ 0,.slice (some (Ψ p 0)) lv lv,.slice (some (Ψ q 0)) lv lv,.slice (some (Ψ r 0)) lv lv,.slice none 0 0,.slice none 0 0] 104 (0,0)))
  (hp:w.heap[p]?=some (.cells (madeCells #[Value.int .u64 0] lv) 82 (0,0))) (hq:w.heap[q]?=some (.cells (madeCells #[Value.int .u64 0] lv) 82 (0,0))) (hr:w.heap[r]?=some (.cells (madeCells #[Value.int .u64 0] lv) 82 (0,0)))
  (hn:p≠wb∧q≠wb∧r≠wb∧p≠q∧p≠r∧q≠r) (hN:N≤t∧N≤p∧N≤q∧N≤r):NewTd c tid wb N ⟨t,p,q,r⟩ w:=by
 rw [kW e] at hp hq hr
 refine ⟨hN,?_,hp,hq,hr,hn⟩
 rw [e,Int.toNat_natCast]
 exact hb
theorem Fu {w w':World} {B e size n:Nat} {v:Value} {xs:List Value} (h:w.ownsRow B e size v n xs) (hb:Below w.heap.size w w'):w'.ownsRow B e size v n xs:=Bi h (Over.of_below (fun _=>False) hb) (fun _ _ h=>h)
theorem nW:(Tryz.prog.info? 98).map (fun i=>(i.zero,i.size,i.bytes))=some (some (.pointer none),1,8):=Zk
theorem Cn {K:Act→World→Prop} {a:Act} {W:World} {o:Obj} (h:∀ W1,W1=W.alloc o→K a W1):K a (W.alloc o):=h _ rfl
theorem Ce {W W1:World} {cs:Array Value} {t:TypeId} (e:W1=W.alloc (.cells cs t)):W1.heap[W.heap.size]?=some (.cells cs t (0,0)):=e▸Cc W _
theorem Cz {W W1:World} {o:Obj} (e:W1=W.alloc o):Below W.heap.size W W1:=e▸Af (Below.refl _ _) o
structure ThrAt (c:Cf) (g3 g8 pb wb gm fb bb gb tb:Nat) (w0:World) (n:Nat) (w:World):Prop where
 all:∃ thv xs T,MachAt c g3 g8 pb wb gm fb bb (Pt gb 0) thv w0 (No c) w∧IsGh gb tb ⟨Fm c.ns.toNat c.sE.toNat,0,0⟩ w∧w.ownsRow w0.heap.size 98 1 thv n xs∧xs.length=n∧(0<n→xs[0]?=some (Pt T.tb 0)∧NewTd c 0 wb w0.heap.size T w)
theorem jP {g3 g8 pb wb gm fb bb gb tb n g cap:Nat} {thv:Value} {xs:List Value} {T T2:Td} {w0 w w1:World} (H:MachAt c g3 g8 pb wb gm fb bb (Pt gb 0) thv w0 (No c) w) (HG:IsGh gb tb ⟨Fm c.ns.toNat c.sE.toNat,0,0⟩ w) (hr:w.ownsRow w0.heap.size 98 1 thv n xs) (hl:xs.length=n) (hT:0<n→xs[0]?=some (Pt T.tb 0)∧NewTd c 0 wb w0.heap.size T w) (hN:NewTd c n wb w0.heap.size T2 w)
  (hr1:w1.ownsRow w0.heap.size 98 1 (Tv g n cap) (n+1) (xs++[Pt T2.tb 0])) (hg:w.grownBy w1 thv.ownBlock):ThrAt c g3 g8 pb wb gm fb bb gb tb w0 (n+1) (w1.setCell (Ψ gm 18) (Tv g n cap)):=by
 have ho:Over (fun k=>some k=thv.ownBlock) w w1:=⟨hg.os,hg.tape,hg.output,hg.size,hg.block⟩
 have key:∀ {k:Nat} {cs:Array Value} {e:TypeId},w.heap[k]?=some (.cells cs e (0,0))→e≠98→¬ some k=thv.ownBlock:=by
  intro k cs e hk he hs
  obtain ⟨cs',h'⟩:=Ay hr hs.symm
  exact An hk h' he rfl
 have H1:=H.grown hr hg
 have HG1:=HG.over ho (key HG.head Zd) (key HG.row Zd)
 have ho2:Over (fun k=>k=gm) w1 (w1.setCell (Ψ gm 18) (Tv g n cap)):=(Over.refl (fun k=>k=gm) w1).set_ (Or.inl rfl) _
 have key2:∀ {k:Nat} {cs:Array Value} {e:TypeId},w1.heap[k]?=some (.cells cs e (0,0))→e≠96→¬ k=gm:=fun hk he=>An hk H1.head he
 have tds:∀ {t:Int} {T3:Td},NewTd c t wb w0.heap.size T3 w→NewTd c t wb w0.heap.size T3 (w1.setCell (Ψ gm 18) (Tv g n cap)):=fun h=>(h.over ho (fun k cs e hk he=>key hk (by rcases he with rfl|rfl<;>decide))).over ho2 (fun k cs e hk he=>key2 hk (by rcases he with rfl|rfl<;>decide))
 refine ⟨_,_,if n=0 then T2 else T,H1.setTh _,H1.gh_set HG1 _,Bi hr1 ho2 (fun k hk=>?_),by simp [hl],fun _=>?_⟩
 .obtain ⟨cs,h'⟩:=Ay hr1 hk
  exact key2 h' Zd
 .by_cases hn:n=0
  .subst hn
   obtain rfl:xs=[]:=List.eq_nil_of_length_eq_zero hl
   rw [if_pos rfl]
   exact ⟨rfl,tds hN⟩
  .rw [if_neg hn]
   obtain ⟨h1,h2⟩:=hT Zo
   exact ⟨by rw [List.getElem?_append_left Zo];exact h1,tds h2⟩
structure Fresh (c:Cf) (A:Ad) (T:Td) (thb:Nat) (w0 w:World):Prop where
 mach:IsMach c A (No c) ⟨Fm c.ns.toNat c.sE.toNat,0,0⟩ 0 false w
 td:NewTd c 0 A.wb w0.heap.size T w
 low:∀ k,A.may k→w0.heap.size≤k
 gho:A.gh≠none
 thr:∃ n cp,A.thr=.slice (some (Ψ thb 0)) (n+1) cp
 th:w.cell? (Ψ thb 0)=some (Pt T.tb 0)
 thty:∃ cs,w.heap[thb]?=some (.cells cs 98 (0,0))
 below:Below w0.heap.size w0 w
theorem ThrAt.fresh {g3 g8 pb wb gm fb bb gb tb n:Nat} {w0 w:World} (G:Good c tid) (h:ThrAt c g3 g8 pb wb gm fb bb gb tb w0 (n+1) w) (hfb:w0.heap.size≤fb) (hgb:w0.heap.size≤gb) (htb:w0.heap.size≤tb):∃ A T thb,A.mb=gm∧Fresh c A T thb w0 w:=by
 obtain ⟨thv,xs,T,H,HG,hr,hl,hT⟩:=h.all
 obtain ⟨h0,hN⟩:=hT Zo
 rcases hr.2 with ⟨_,h1⟩|⟨g,cap,cur,rfl,hle,hg,_⟩
 .cases h1
 .obtain ⟨ws,hm,e1,e2⟩:=H.mm.lay
  refine ⟨⟨gm,pb,wb,fb,bb,some (gb,tb),Tv g n cap⟩,T,g,rfl,⟨H.head,⟨ws,hm,e1,e2⟩,uK G,fun gb' tb' e=>?_,H.feed⟩,hN,?_,(fun e=>nomatch e),⟨n,cap,rfl⟩,?_,⟨_,hg⟩,H.mm.make.below⟩
  .injection e with e
   injection e with e3 e4
   subst e3 e4
   exact HG
  .rintro k (e|e|e|e|⟨gb',tb',e,e1|e1⟩)
   .rw [e];exact H.gm
   .rw [e];exact H.mm.pb
   .rw [e];exact H.mm.wb
   .rw [e];exact hfb
   .injection e with e
    injection e with e3 e4
    rw [e1,← e3];exact hgb
   .injection e with e
    injection e with e3 e4
    rw [e1,← e4];exact htb
  .have:=hr.cells (g:=g) rfl 0 _ h0
   rw [Dj] at this
   exact this
theorem Kw (G:Good c tid) (FA:Option Addr) (fcp:Nat) (w:World) (hA:ReadsInt w .u8 FA c.bytes.length c.bytes) (hl:c.bytes.length≤4096) :
  Calls Tryz.prog 14 #[.agg #[Φ c.algo,Φ c.th,Φ c.ns,Φ c.lv,Φ c.batch,Φ c.probes,Φ c.scan],.slice FA c.bytes.length fcp,.bool true] w fun e w'=>∃ A T thb,e=.returned (.tuple #[Pt A.mb 0,Φ 0])∧Fresh c A T thb w w':=by
 have HA:=Az.m hA
 have HL:=Az.m hl
 clear hA hl
 go_enter Tryz.func14,Tryz.ntmps14
 go_wp2_with (first|((with_reducible refine Al (N:=3) rfl ?_);go_must (refine Am ?hg (N:=3) ?hd (cs:=#[Φ c.algo,Φ c.th,Φ c.ns,Φ c.lv,Φ c.batch,Φ c.probes,Φ c.scan]) (t:=23) ?hr ?_;(case hd=>rfl);(case hg=>rfl);(case hr=>exact Λ18);intro g3 hg3 wg3 hbox hbl;have H3:=Az.m hbox;have HB:=Az.m hbl;obtain ⟨p0,p1,p2,p3,p4,p5,p6⟩:=bc7 hbox;clear hbox hbl hg3))|(go_at_call 33;refine (Uf G _).mono ?_;rintro e w1 ⟨rfl,hb⟩;have h1:=Ag HB.o hb;have hx:=Ac H3.o hb;clear H3 HB p0 p1 p2 p3 p4 p5 p6;have H3:=Az.m hx;have HB:=Az.m h1;clear hb h1 hx;unfold Ha)|((with_reducible refine Al (N:=8) rfl ?_);go_must (refine Am ?hg (N:=8) ?hd (cs:=#[Φ 0,Φ 0,Φ 0,Φ 0,Φ 0,Φ 0,Φ 0,Φ 0,Φ 0,Φ 0,Φ 0,Φ 0,Φ 0,Φ 0,Φ 0]) (t:=85) ?hr ?_;(case hd=>rfl);(case hg=>rfl);(case hr=>exact Λ18);intro g8 hg8 wg8 hbox hbl;have H8:=Az.m hbox;have HG8:=Az.m (Nat.le_trans HB.o.size (Nat.le_of_eq hg8.symm));have h1:=Ag HB.o hbl;have hx:=Ac H3.o hbl;clear H3 HB;have H3:=Az.m hx;have HB:=Az.m h1;obtain ⟨z0,z1,z2,z3,z4,z5,z6,z7,z8,z9,z10,z11,z12,z13,z14⟩:=Nq hbox;have zf:=Ab hbox;clear hbox hbl hg8 h1 hx))|((with_reducible refine Bd (t:=85) (p:=8) rfl ?_);go_must (refine Aw (w1:=(((((((((((((((wg8.setCell (Ψ g8 0) (Φ c.algo)).setCell (Ψ g8 1) (Φ c.th)).setCell (Ψ g8 2) (Φ c.ns)).setCell (Ψ g8 3) (Φ c.lv)).setCell (Ψ g8 4) (Φ c.batch)).setCell (Ψ g8 5) (Φ c.probes)).setCell (Ψ g8 6) (Φ c.scan)).setCell (Ψ g8 7) (Φ c.sl)).setCell (Ψ g8 8) (Φ c.wI)).setCell (Ψ g8 9) (Φ c.sE)).setCell (Ψ g8 10) (Φ c.hZ)).setCell (Ψ g8 11) (Φ c.lK)).setCell (Ψ g8 12) (Φ c.nA)).setCell (Ψ g8 13) (Φ c.tA)).setCell (Ψ g8 14) (Φ c.size))) ?hg (t:=85) (p:=8) rfl ?hn ?hr ?_;(case hg=>rfl);(case hn=>rfl);(case hr=>exact Λ23);intro w2 e2;have hc:w2.heap[g8]?=some (.cells #[Φ c.algo,Φ c.th,Φ c.ns,Φ c.lv,Φ c.batch,Φ c.probes,Φ c.scan,Φ c.sl,Φ c.wI,Φ c.sE,Φ c.hZ,Φ c.lK,Φ c.nA,Φ c.tA,Φ c.size] 85 (0,0)):=(by rw [e2];exact Hs H8.o);have hm:MakeAt c g3 g8 w w2:=MakeAt.begin HB.o H3.o hc HG8.o e2 H8.o;clear H3 H8 HB e2 zf z0 z1 z2 z3 z4 z5 z6 z7 z8 z9 z10 z11 z12 z13 z14 hc;have H0:=Az.m hm;have FX:=hm.cells;clear hm))|(go_at_call 35;refine (qP (c:=c) _).mono ?_;rintro e w2 ⟨rfl,hb⟩;have hm:=H0.o.same hb;clear hb;clear H0 FX;have H0:=Az.m hm;have FX:=hm.cells;clear hm)|(go_at_call 34;refine (nT G _).mono ?_;rintro e w2 ⟨pb,wb,rfl,hl,hb,h1,h2⟩;have hm:MakeMem c g3 g8 pb wb w (fun _=>0) w2:=⟨H0.o.same hb,hl,Nat.le_trans H0.o.below.size h1,Nat.le_trans H0.o.below.size h2⟩;clear hl hb h1 h2;clear H0 FX;have H0:=Az.m hm;have FX:=hm.cells;clear hm)|(go_at_call 36;refine (iD G _ H0.o.lay).mono ?_;rintro e w2 ⟨rfl,hl,hb⟩;have hm:=H0.o.laid hl hb;clear hl hb;clear H0 FX;have H0:=Az.m hm;have FX:=hm.cells;clear hm))
 with_reducible refine Dw (id:=8) ?_
 go_region_held3 (fun W=>W.cell? (Ψ g3 0)=some (Φ c.algo)∧W.cell? (Ψ g3 1)=some (Φ c.th)∧W.cell? (Ψ g3 2)=some (Φ c.ns)∧W.cell? (Ψ g3 3)=some (Φ c.lv)∧W.cell? (Ψ g3 4)=some (Φ c.batch)∧W.cell? (Ψ g3 5)=some (Φ c.probes)∧W.cell? (Ψ g3 6)=some (Φ c.scan)∧W.cell? (Ψ g8 0)=some (Φ c.algo)∧W.cell? (Ψ g8 1)=some (Φ c.th)∧W.cell? (Ψ g8 2)=some (Φ c.ns)∧W.cell? (Ψ g8 3)=some (Φ c.lv)∧W.cell? (Ψ g8 4)=some (Φ c.batch)∧W.cell? (Ψ g8 5)=some (Φ c.probes)∧W.cell? (Ψ g8 6)=some (Φ c.scan)∧W.cell? (Ψ g8 7)=some (Φ c.sl)∧W.cell? (Ψ g8 8)=some (Φ c.wI)∧W.cell? (Ψ g8 9)=some (Φ c.sE)∧W.cell? (Ψ g8 10)=some (Φ c.hZ)∧W.cell? (Ψ g8 11)=some (Φ c.lK)∧W.cell? (Ψ g8 12)=some (Φ c.nA)∧W.cell? (Ψ g8 13)=some (Φ c.tA)∧W.cell? (Ψ g8 14)=some (Φ c.size)) (first|assumption|exact H0.o.cells|exact H0.o.drew.cells|exact (H0.o.alloc _).cells|exact (H0.o.drew.alloc _).cells) (((with_reducible refine Ap ?_);go_must ((with_reducible apply kS);(case hI=>iterate 8 (try (first|with_reducible exact H0.o|with_reducible apply MakeMem.drew)));intro HI;go_at_call 37;refine (Up FA fcp c.bytes _ (HA.o.below HI.make.below) HL.o G.bytes).mono ?_;rintro e w2 ⟨fb,bb,rfl,hf,hb,h1,h2⟩;have hm:=HI.same hb;have HF:=Az.m hf;have HFB:=Az.m (Nat.le_trans HI.make.below.size h1);have HBB:Az (0<c.bytes.length→w.heap.size≤bb):=⟨fun h=>Nat.le_trans HI.make.below.size (h2 h)⟩;clear H0 HI FX hf hb h1 h2;have H0:=Az.m hm;have FX:=hm.cells;clear hm)))
 have hm:=H0.o.alloc (.cells #[Φ c.algo,Φ c.th,Φ c.ns,Φ c.lv,Φ c.batch,Φ c.probes,Φ c.scan,Φ c.sl,Φ c.wI,Φ c.sE,Φ c.hZ,Φ c.lK,Φ c.nA,Φ c.tA,Φ c.size,Pt pb 0,.pointer none,Pt fb 0,.slice none 0 0,.bool false,.bool false] 96)
 have hb:=Cc w2 (.cells #[Φ c.algo,Φ c.th,Φ c.ns,Φ c.lv,Φ c.batch,Φ c.probes,Φ c.scan,Φ c.sl,Φ c.wI,Φ c.sE,Φ c.hZ,Φ c.lK,Φ c.nA,Φ c.tA,Φ c.size,Pt pb 0,.pointer none,Pt fb 0,.slice none 0 0,.bool false,.bool false] 96)
 have hf:=HF.o.same (Af (Below.refl w2.heap.size w2) (.cells #[Φ c.algo,Φ c.th,Φ c.ns,Φ c.lv,Φ c.batch,Φ c.probes,Φ c.scan,Φ c.sl,Φ c.wI,Φ c.sE,Φ c.hZ,Φ c.lK,Φ c.nA,Φ c.tA,Φ c.size,Pt pb 0,.pointer none,Pt fb 0,.slice none 0 0,.bool false,.bool false] 96))
 have hg:=H0.o.make.below.size
 clear FX H0 HF
 generalize w2.alloc (.cells #[Φ c.algo,Φ c.th,Φ c.ns,Φ c.lv,Φ c.batch,Φ c.probes,Φ c.scan,Φ c.sl,Φ c.wI,Φ c.sE,Φ c.hZ,Φ c.lK,Φ c.nA,Φ c.tA,Φ c.size,Pt pb 0,.pointer none,Pt fb 0,.slice none 0 0,.bool false,.bool false] 96)=w3 at hm hb hf ⊢
 generalize w2.heap.size=gm at hb hg ⊢
 have H0:Az (MachAt c g3 g8 pb wb gm fb bb (.pointer none) (.slice none 0 0) w (No c) w3):=⟨⟨hm,hb,hf,hg⟩⟩
 have FX:=hm.cells
 clear hm hb hf hg
 go_wp2
 with_reducible refine Dw (id:=10) ?_
 have C16:w3.cell? (Ψ gm 16)=some (.pointer none):=(Aa H0.o.head 16).trans rfl
 have F16:=Ab H0.o.head 16
 go_region_held3 (fun W=>W.cell? (Ψ g3 0)=some (Φ c.algo)∧W.cell? (Ψ g3 1)=some (Φ c.th)∧W.cell? (Ψ g3 2)=some (Φ c.ns)∧W.cell? (Ψ g3 3)=some (Φ c.lv)∧W.cell? (Ψ g3 4)=some (Φ c.batch)∧W.cell? (Ψ g3 5)=some (Φ c.probes)∧W.cell? (Ψ g3 6)=some (Φ c.scan)∧W.cell? (Ψ g8 0)=some (Φ c.algo)∧W.cell? (Ψ g8 1)=some (Φ c.th)∧W.cell? (Ψ g8 2)=some (Φ c.ns)∧W.cell? (Ψ g8 3)=some (Φ c.lv)∧W.cell? (Ψ g8 4)=some (Φ c.batch)∧W.cell? (Ψ g8 5)=some (Φ c.probes)∧W.cell? (Ψ g8 6)=some (Φ c.scan)∧W.cell? (Ψ g8 7)=some (Φ c.sl)∧W.cell? (Ψ g8 8)=some (Φ c.wI)∧W.cell? (Ψ g8 9)=some (Φ c.sE)∧W.cell? (Ψ g8 10)=some (Φ c.hZ)∧W.cell? (Ψ g8 11)=some (Φ c.lK)∧W.cell? (Ψ g8 12)=some (Φ c.nA)∧W.cell? (Ψ g8 13)=some (Φ c.tA)∧W.cell? (Ψ g8 14)=some (Φ c.size)) (first|assumption|exact H0.o.cells|exact H0.o.drew.cells|exact (H0.o.setGh _).cells) (((with_reducible refine Ap ?_);go_must ((with_reducible apply kV);(case hI=>iterate 8 (try (first|with_reducible exact H0.o|with_reducible apply MachAt.drew)));intro HI;first|(go_at_call 39;refine (kE (c:=c) _).mono ?_;rintro e w4 ⟨rfl,hb⟩;have hm:=HI.same hb;clear H0 HI FX C16 F16 hb;have H0:=Az.m hm;have FX:=hm.cells;have C16:w4.cell? (Ψ gm 16)=some (.pointer none):=(Aa hm.head 16).trans rfl;have F16:=Ab hm.head 16;clear hm)|(go_at_call 38;refine (iM G _).mono ?_;rintro e w4 ⟨gb,tb,rfl,hgh,hb,hg1,hg2⟩;have hm:=HI.same hb;have HGH:=Az.m hgh;have HGB:=Az.m (Nat.le_trans HI.mm.make.below.size hg1);have HTB:=Az.m (Nat.le_trans HI.mm.make.below.size hg2);clear H0 HI FX C16 F16 hb hgh hg1 hg2;have H0:=Az.m hm;have FX:=hm.cells;have C16:w4.cell? (Ψ gm 16)=some (.pointer none):=(Aa hm.head 16).trans rfl;have F16:=Ab hm.head 16;clear hm))))
 rename_i hHx
 clear hHx
 have hm:=H0.o.setGh (Pt gb 0)
 have hgh:=H0.o.gh_set (i:=16) HGH.o (Pt gb 0)
 clear FX H0 HGH C16 F16
 generalize w4.setCell (Ψ gm 16) (Pt gb 0)=w5 at hm hgh ⊢
 have H0:=Az.m hm
 have HGH:=Az.m hgh
 have FX:=hm.cells.2.1
 clear hm hgh
 go_wp2
 refine π ?_
 have hth:=G.th
 have HTH:=Az.m hth
 clear hth
 go_loopw [50] (fun i wr=>∃ j:Nat,i=Φ j∧(j:Int)≤c.th∧Az (ThrAt c g3 g8 pb wb gm fb bb gb tb w j wr)) (fun i _=>c.th.toNat-(intOf i).toNat)
 case atStart=>exact ⟨0,rfl,by have:=HTH.o;omega,⟨_,[],⟨0,0,0,0⟩,H0.o,HGH.o,Hw _ _ _ _,rfl,fun h=>absurd h (Nat.lt_irrefl _)⟩⟩
 case round=>
  obtain ⟨j,rfl,hj,hw⟩:=hrel
  clear H0 FX HGH
  by_cases hjt:(j:Int)<c.th
  .have b0:=Ca hjt
   have w1:=Ak (x:=(j:Int)+1) Zo (by have:=HTH.o;omega)
   obtain ⟨thv,xs,T,hm,hgh,hown,hlx,hT⟩:=hw.out.all
   obtain ⟨lv,hlv⟩:∃ lv:Nat,c.lv=(lv:Int):=⟨c.lv.toNat,by have:=G.lv;omega⟩
   have LVE:=Az.m hlv
   have hmk:=Oc (P:=Tryz.prog) 78 82 .u64 8 Tryz.underlying78 PTopSame.info82 Zd lv Λ96
   have hd:=hm.drew
   have H0:=Az.m hd
   have HG:=Az.m (hgh.same (Da (Below.refl _ _)))
   have HR:=Az.m hown
   have HLX:=Az.m hlx
   have HTT:=Az.m hT
   have HJ:=Az.m (show j<6 by have:=HTH.o;omega)
   obtain ⟨i98,hi98,hz98,hs98,hb98⟩:=info_parts nW
   have HJT:=Az.m hjt
   clear hm hgh hown hlx hT hd hj hw hjt hlv
   go_wp2
   with_reducible refine Dw (id:=14) ?_
   refine Mi 21 (fun W=>W.cell? (Ψ g3 3)=some (Φ (lv:Int))∧W.cell? (Ψ gm 18)=some thv) Zk (H0.o.c18 LVE.o) (fun hZ8=>?_)
   refine π ?_
   have HD0:=Az.m (Da (Below.refl wr.heap.size wr))
   have HWB:=Az.m H0.o.wb_lt
   have HLOW:=Az.m H0.o.mm.make.below.size
   generalize wr.drew=v0 at hZ8 H0 HG HD0 HWB HLOW ⊢
   (refine Bj (i:=0) (oi:=_) rfl Zk Zk Zk Zk (fun _ _ _ h=>h) μ Za ?_);refine π ?_;(refine Bj (i:=1) (oi:=_) rfl Zk Zk Zk Zk (fun _ _ _ h=>h) μ Za ?_);refine π ?_;(refine Bj (i:=2) (oi:=_) rfl Zk Zk Zk Zk (fun _ _ _ h=>h) μ Za ?_);refine π ?_;(refine Bj (i:=3) (oi:=_) rfl Zk Zk Zk Zk (fun _ _ _ h=>h) μ Za ?_);refine π ?_;(refine Bj (i:=4) (oi:=_) rfl Zk Zk Zk Zk (fun _ _ _ h=>h) μ Za ?_);refine π ?_;(refine Bj (i:=5) (oi:=_) rfl Zk Zk Zk Zk (fun _ _ _ h=>h) μ Za ?_);refine π ?_;(refine Bj (i:=6) (oi:=_) rfl Zk Zk Zk Zk (fun _ _ _ h=>h) μ Za ?_);refine π ?_;(refine Bj (i:=7) (oi:=_) rfl Zk Zk Zk Zk (fun _ _ _ h=>h) μ Za ?_);refine π ?_;(refine Bj (i:=9) (oi:=_) rfl Zk Zk Zk Zk (fun _ _ _ h=>h) μ Za ?_);refine π ?_;(refine Bj (i:=10) (oi:=_) rfl Zk Zk Zk Zk (fun _ _ _ h=>h) μ Za ?_);refine π ?_;(refine Bj (i:=12) (oi:=_) rfl Zk Zk Zk Zk (fun _ _ _ h=>h) μ Za ?_);refine π ?_;(refine Bj (i:=13) (oi:=_) rfl Zk Zk Zk Zk (fun _ _ _ h=>h) μ Za ?_);refine π ?_;refine Cb (rs:=[8,11,14]) Zk Zs ?_;refine AllReadyL.cons (o:=_) rfl ?_ (AllReadyL.cons (o:=_) rfl ?_ (AllReadyL.cons (o:=_) rfl ?_ (AllReadyL.nil)));(focus (intro K hK;go_simp;refine Cn ?_;intro v1 e1;have B8:=Az.m (Ce e1);have D1:=Az.m (Cz e1);have L1:=Az.m (Bb (Ce e1));have hm:=H0.o.same D1.o;(have hy:=HG.o.same D1.o;clear HG;have HG:=Az.m hy;clear hy);clear H0 e1;have H0:=Az.m hm;clear hm;refine hK.out _ _ (H0.o.c18 LVE.o) (fun hZ9=>?_);clear hK K hZ8;have hZ8:=hZ9;clear hZ9;refine π ?_;refine Cb (rs:=[11,14]) Zk Zs ?_;refine AllReadyL.cons (o:=_) rfl ?_ (AllReadyL.cons (o:=_) rfl ?_ (AllReadyL.nil));(focus (intro K hK;go_simp;refine Cn ?_;intro v2 e2;have B11:=Az.m (Ce e2);have D2:=Az.m (Cz e2);have L2:=Az.m (Bb (Ce e2));(have hx:=Ac B8.o D2.o;clear B8;have B8:=Az.m hx;clear hx);have hm:=H0.o.same D2.o;(have hy:=HG.o.same D2.o;clear HG;have HG:=Az.m hy;clear hy);clear H0 e2;have H0:=Az.m hm;clear hm;refine hK.out _ _ (H0.o.c18 LVE.o) (fun hZ9=>?_);clear hK K hZ8;have hZ8:=hZ9;clear hZ9;refine π ?_;refine Cb (rs:=[14]) Zk Zs ?_;refine AllReadyL.cons (o:=_) rfl (fun K hK=>?_) AllReadyL.nil;go_simp;refine Cn ?_;intro v3 e3;have B14:=Az.m (Ce e3);have D3:=Az.m (Cz e3);have L3:=Az.m (Bb (Ce e3));(have hx:=Ac B8.o D3.o;clear B8;have B8:=Az.m hx;clear hx);(have hx:=Ac B11.o D3.o;clear B11;have B11:=Az.m hx;clear hx);have hm:=H0.o.same D3.o;(have hy:=HG.o.same D3.o;clear HG;have HG:=Az.m hy;clear hy);clear H0 e3;have H0:=Az.m hm;clear hm;refine hK.out _ _ (H0.o.c18 LVE.o) (fun hZ9=>?_);clear hK K hZ8;have hZ8:=hZ9;clear hZ9;refine π ?_;(refine Bj (i:=15) (oi:=_) rfl Zk Zk Zk Zk (fun _ _ _ h=>h) μ Za ?_);refine π ?_;skip));rotate_left 1;(focus (intro K hK;go_simp;refine Cn ?_;intro v2 e2;have B14:=Az.m (Ce e2);have D2:=Az.m (Cz e2);have L2:=Az.m (Bb (Ce e2));(have hx:=Ac B8.o D2.o;clear B8;have B8:=Az.m hx;clear hx);have hm:=H0.o.same D2.o;(have hy:=HG.o.same D2.o;clear HG;have HG:=Az.m hy;clear hy);clear H0 e2;have H0:=Az.m hm;clear hm;refine hK.out _ _ (H0.o.c18 LVE.o) (fun hZ9=>?_);clear hK K hZ8;have hZ8:=hZ9;clear hZ9;refine π ?_;refine Cb (rs:=[11]) Zk Zs ?_;refine AllReadyL.cons (o:=_) rfl (fun K hK=>?_) AllReadyL.nil;go_simp;refine Cn ?_;intro v3 e3;have B11:=Az.m (Ce e3);have D3:=Az.m (Cz e3);have L3:=Az.m (Bb (Ce e3));(have hx:=Ac B8.o D3.o;clear B8;have B8:=Az.m hx;clear hx);(have hx:=Ac B14.o D3.o;clear B14;have B14:=Az.m hx;clear hx);have hm:=H0.o.same D3.o;(have hy:=HG.o.same D3.o;clear HG;have HG:=Az.m hy;clear hy);clear H0 e3;have H0:=Az.m hm;clear hm;refine hK.out _ _ (H0.o.c18 LVE.o) (fun hZ9=>?_);clear hK K hZ8;have hZ8:=hZ9;clear hZ9;refine π ?_;(refine Bj (i:=15) (oi:=_) rfl Zk Zk Zk Zk (fun _ _ _ h=>h) μ Za ?_);refine π ?_;skip));rotate_left 1;skip));rotate_left 2;(focus (intro K hK;go_simp;refine Cn ?_;intro v1 e1;have B11:=Az.m (Ce e1);have D1:=Az.m (Cz e1);have L1:=Az.m (Bb (Ce e1));have hm:=H0.o.same D1.o;(have hy:=HG.o.same D1.o;clear HG;have HG:=Az.m hy;clear hy);clear H0 e1;have H0:=Az.m hm;clear hm;refine hK.out _ _ (H0.o.c18 LVE.o) (fun hZ9=>?_);clear hK K hZ8;have hZ8:=hZ9;clear hZ9;refine π ?_;refine Cb (rs:=[8,14]) Zk Zs ?_;refine AllReadyL.cons (o:=_) rfl ?_ (AllReadyL.cons (o:=_) rfl ?_ (AllReadyL.nil));(focus (intro K hK;go_simp;refine Cn ?_;intro v2 e2;have B8:=Az.m (Ce e2);have D2:=Az.m (Cz e2);have L2:=Az.m (Bb (Ce e2));(have hx:=Ac B11.o D2.o;clear B11;have B11:=Az.m hx;clear hx);have hm:=H0.o.same D2.o;(have hy:=HG.o.same D2.o;clear HG;have HG:=Az.m hy;clear hy);clear H0 e2;have H0:=Az.m hm;clear hm;refine hK.out _ _ (H0.o.c18 LVE.o) (fun hZ9=>?_);clear hK K hZ8;have hZ8:=hZ9;clear hZ9;refine π ?_;refine Cb (rs:=[14]) Zk Zs ?_;refine AllReadyL.cons (o:=_) rfl (fun K hK=>?_) AllReadyL.nil;go_simp;refine Cn ?_;intro v3 e3;have B14:=Az.m (Ce e3);have D3:=Az.m (Cz e3);have L3:=Az.m (Bb (Ce e3));(have hx:=Ac B11.o D3.o;clear B11;have B11:=Az.m hx;clear hx);(have hx:=Ac B8.o D3.o;clear B8;have B8:=Az.m hx;clear hx);have hm:=H0.o.same D3.o;(have hy:=HG.o.same D3.o;clear HG;have HG:=Az.m hy;clear hy);clear H0 e3;have H0:=Az.m hm;clear hm;refine hK.out _ _ (H0.o.c18 LVE.o) (fun hZ9=>?_);clear hK K hZ8;have hZ8:=hZ9;clear hZ9;refine π ?_;(refine Bj (i:=15) (oi:=_) rfl Zk Zk Zk Zk (fun _ _ _ h=>h) μ Za ?_);refine π ?_;skip));rotate_left 1;(focus (intro K hK;go_simp;refine Cn ?_;intro v2 e2;have B14:=Az.m (Ce e2);have D2:=Az.m (Cz e2);have L2:=Az.m (Bb (Ce e2));(have hx:=Ac B11.o D2.o;clear B11;have B11:=Az.m hx;clear hx);have hm:=H0.o.same D2.o;(have hy:=HG.o.same D2.o;clear HG;have HG:=Az.m hy;clear hy);clear H0 e2;have H0:=Az.m hm;clear hm;refine hK.out _ _ (H0.o.c18 LVE.o) (fun hZ9=>?_);clear hK K hZ8;have hZ8:=hZ9;clear hZ9;refine π ?_;refine Cb (rs:=[8]) Zk Zs ?_;refine AllReadyL.cons (o:=_) rfl (fun K hK=>?_) AllReadyL.nil;go_simp;refine Cn ?_;intro v3 e3;have B8:=Az.m (Ce e3);have D3:=Az.m (Cz e3);have L3:=Az.m (Bb (Ce e3));(have hx:=Ac B11.o D3.o;clear B11;have B11:=Az.m hx;clear hx);(have hx:=Ac B14.o D3.o;clear B14;have B14:=Az.m hx;clear hx);have hm:=H0.o.same D3.o;(have hy:=HG.o.same D3.o;clear HG;have HG:=Az.m hy;clear hy);clear H0 e3;have H0:=Az.m hm;clear hm;refine hK.out _ _ (H0.o.c18 LVE.o) (fun hZ9=>?_);clear hK K hZ8;have hZ8:=hZ9;clear hZ9;refine π ?_;(refine Bj (i:=15) (oi:=_) rfl Zk Zk Zk Zk (fun _ _ _ h=>h) μ Za ?_);refine π ?_;skip));rotate_left 1;skip));rotate_left 2;(focus (intro K hK;go_simp;refine Cn ?_;intro v1 e1;have B14:=Az.m (Ce e1);have D1:=Az.m (Cz e1);have L1:=Az.m (Bb (Ce e1));have hm:=H0.o.same D1.o;(have hy:=HG.o.same D1.o;clear HG;have HG:=Az.m hy;clear hy);clear H0 e1;have H0:=Az.m hm;clear hm;refine hK.out _ _ (H0.o.c18 LVE.o) (fun hZ9=>?_);clear hK K hZ8;have hZ8:=hZ9;clear hZ9;refine π ?_;refine Cb (rs:=[8,11]) Zk Zs ?_;refine AllReadyL.cons (o:=_) rfl ?_ (AllReadyL.cons (o:=_) rfl ?_ (AllReadyL.nil));(focus (intro K hK;go_simp;refine Cn ?_;intro v2 e2;have B8:=Az.m (Ce e2);have D2:=Az.m (Cz e2);have L2:=Az.m (Bb (Ce e2));(have hx:=Ac B14.o D2.o;clear B14;have B14:=Az.m hx;clear hx);have hm:=H0.o.same D2.o;(have hy:=HG.o.same D2.o;clear HG;have HG:=Az.m hy;clear hy);clear H0 e2;have H0:=Az.m hm;clear hm;refine hK.out _ _ (H0.o.c18 LVE.o) (fun hZ9=>?_);clear hK K hZ8;have hZ8:=hZ9;clear hZ9;refine π ?_;refine Cb (rs:=[11]) Zk Zs ?_;refine AllReadyL.cons (o:=_) rfl (fun K hK=>?_) AllReadyL.nil;go_simp;refine Cn ?_;intro v3 e3;have B11:=Az.m (Ce e3);have D3:=Az.m (Cz e3);have L3:=Az.m (Bb (Ce e3));(have hx:=Ac B14.o D3.o;clear B14;have B14:=Az.m hx;clear hx);(have hx:=Ac B8.o D3.o;clear B8;have B8:=Az.m hx;clear hx);have hm:=H0.o.same D3.o;(have hy:=HG.o.same D3.o;clear HG;have HG:=Az.m hy;clear hy);clear H0 e3;have H0:=Az.m hm;clear hm;refine hK.out _ _ (H0.o.c18 LVE.o) (fun hZ9=>?_);clear hK K hZ8;have hZ8:=hZ9;clear hZ9;refine π ?_;(refine Bj (i:=15) (oi:=_) rfl Zk Zk Zk Zk (fun _ _ _ h=>h) μ Za ?_);refine π ?_;skip));rotate_left 1;(focus (intro K hK;go_simp;refine Cn ?_;intro v2 e2;have B11:=Az.m (Ce e2);have D2:=Az.m (Cz e2);have L2:=Az.m (Bb (Ce e2));(have hx:=Ac B14.o D2.o;clear B14;have B14:=Az.m hx;clear hx);have hm:=H0.o.same D2.o;(have hy:=HG.o.same D2.o;clear HG;have HG:=Az.m hy;clear hy);clear H0 e2;have H0:=Az.m hm;clear hm;refine hK.out _ _ (H0.o.c18 LVE.o) (fun hZ9=>?_);clear hK K hZ8;have hZ8:=hZ9;clear hZ9;refine π ?_;refine Cb (rs:=[8]) Zk Zs ?_;refine AllReadyL.cons (o:=_) rfl (fun K hK=>?_) AllReadyL.nil;go_simp;refine Cn ?_;intro v3 e3;have B8:=Az.m (Ce e3);have D3:=Az.m (Cz e3);have L3:=Az.m (Bb (Ce e3));(have hx:=Ac B14.o D3.o;clear B14;have B14:=Az.m hx;clear hx);(have hx:=Ac B11.o D3.o;clear B11;have B11:=Az.m hx;clear hx);have hm:=H0.o.same D3.o;(have hy:=HG.o.same D3.o;clear HG;have HG:=Az.m hy;clear hy);clear H0 e3;have H0:=Az.m hm;clear hm;refine hK.out _ _ (H0.o.c18 LVE.o) (fun hZ9=>?_);clear hK K hZ8;have hZ8:=hZ9;clear hZ9;refine π ?_;(refine Bj (i:=15) (oi:=_) rfl Zk Zk Zk Zk (fun _ _ _ h=>h) μ Za ?_);refine π ?_;skip));rotate_left 1;skip));rotate_left 2;skip
   all_goals (refine Cb (rs:=[16]) Zk Zs ?_;refine AllReadyL.cons (o:=_) rfl (fun K hK=>?_) AllReadyL.nil;go_simp;refine Cn ?_;intro v4 e4;have B16:=Az.m (Ce e4);have D4:=Az.m (Cz e4);(have hx:=Ac B8.o D4.o;clear B8;have B8:=Az.m hx;clear hx);(have hx:=Ac B11.o D4.o;clear B11;have B11:=Az.m hx;clear hx);(have hx:=Ac B14.o D4.o;clear B14;have B14:=Az.m hx;clear hx);have hm:=H0.o.same D4.o;(have hy:=HG.o.same D4.o;clear HG;have HG:=Az.m hy;clear hy);clear H0 e4;have H0:=Az.m hm;clear hm;refine hK.out _ _ (H0.o.c18 LVE.o) (fun hZ9=>?_);clear hK K hZ8;have hZ8:=hZ9;clear hZ9;refine π ?_;refine Cb (rs:=[17]) Zk Zs ?_;refine AllReadyL.cons (o:=_) rfl (fun K hK=>?_) AllReadyL.nil;go_simp;refine Cn ?_;intro v5 e5;have B17:=Az.m (Ce e5);have D5:=Az.m (Cz e5);(have hx:=Ac B8.o D5.o;clear B8;have B8:=Az.m hx;clear hx);(have hx:=Ac B11.o D5.o;clear B11;have B11:=Az.m hx;clear hx);(have hx:=Ac B14.o D5.o;clear B14;have B14:=Az.m hx;clear hx);(have hx:=Ac B16.o D5.o;clear B16;have B16:=Az.m hx;clear hx);have hm:=H0.o.same D5.o;(have hy:=HG.o.same D5.o;clear HG;have HG:=Az.m hy;clear hy);clear H0 e5;have H0:=Az.m hm;clear hm;refine hK.out _ _ (H0.o.c18 LVE.o) (fun hZ9=>?_);clear hK K hZ8;have hZ8:=hZ9;clear hZ9;refine π ?_;refine Cb (rs:=[18]) Zk Zs ?_;refine AllReadyL.cons (o:=_) rfl (fun K hK=>?_) AllReadyL.nil;refine Bm _ rfl (.tmp 57) (.tmp 70) 94 rfl w.heap.size 98 i98 (.pointer none) 1 8 Tryz.underlying94 hi98 hz98 hs98 hb98 rfl Zd thv j xs Λ153 ?hown (Ψ v4.heap.size 0) 1 1 [Pt v3.heap.size 0] Λ153 rfl ?hnews Λ154 Zd (by have:=HJ.o;simp only [maxLen];omega) (by have:=HJ.o;omega) H0.o.mm.make.below.size _ rfl ?_;(case hown=>exact Fu HR.o (Ag (Ag (Ag (Ag (Ag HD0.o D1.o) D2.o) D3.o) D4.o) D5.o));(case hnews=>intro q u hq;rw [Dj];exact (Aa B17.o q).trans (by simpa using hq));intro g1 cap1 v6 hown6 hg6 hat6 hlt6 hkp6;have HK:=Az.m (H0.o.grown (Fu HR.o (Ag (Ag (Ag (Ag (Ag HD0.o D1.o) D2.o) D3.o) D4.o) D5.o)) hg6);have G6:=Az.m hg6;have O6:=Az.m hown6;have F6:=Ab HK.o.head 18;clear hown6 hg6 hat6 hlt6 hkp6;refine hK.out _ _ (HK.o.c18 LVE.o) (fun hZ9=>?_);clear hK K hZ8;have hZ8:=hZ9;clear hZ9;refine π ?_;refine Cb (rs:=[19]) Zk Zs ?_;refine AllReadyL.cons (o:=_) rfl (fun K hK=>?_) AllReadyL.nil;go_simp;refine hK.out _ _ hZ8 (fun hZ9=>?_);clear hK K hZ8;have hZ8:=hZ9;clear hZ9;refine π ?_;(refine Bj (i:=20) (oi:=_) rfl Zk Zk Zk Zk (fun _ _ _ h=>h) μ Za ?_);refine π ?_;refine Cb (rs:=[21]) Zk Zs ?_;refine AllReadyL.last rfl (fun K hK=>?_);have C18:=HK.o.c18 LVE.o;go_simp;refine hK.out _ _ ?_;refine π ?_;refine Mj Zk ?_ _)
   all_goals (have h9:=jP H0.o HG.o (Fu HR.o (Ag (Ag (Ag (Ag (Ag HD0.o D1.o) D2.o) D3.o) D4.o) D5.o)) HLX.o (fun h=>⟨(HTT.o h).1,(HTT.o h).2.over (Over.of_below (fun _=>False) (Ag (Ag (Ag (Ag (Ag HD0.o D1.o) D2.o) D3.o) D4.o) D5.o)) (fun _ _ _ _ _ h=>h)⟩) (kN LVE.o B16.o B8.o B11.o B14.o (by have:=HWB.o;have:=L1.o;have:=L2.o;exact ⟨Zo,Zo,Zo,Zo,Zo,Zo⟩) (by have:=HLOW.o;have:=L1.o;have:=L2.o;have:=L3.o;exact ⟨Zo,Zo,Zo,Zo⟩)) O6.o G6.o)
   all_goals (have H9:=Az.m h9;clear h9;go_wp2)
   all_goals exact ⟨⟨j+1,rfl,by have:=HJT.o;omega,H9⟩,by have:=HJT.o;show c.th.toNat-((j:Int)+1).toNat<c.th.toNat-((j:Int)).toNat;omega⟩
  .obtain ⟨n,hn⟩:∃ n,j=n+1:=⟨j-1,by have:=HTH.o;omega⟩
   subst hn
   have b0:=Bq (show ¬ (n:Int)+1<c.th by omega)
   obtain ⟨A,T,thb,e9,hf⟩:=hw.out.fresh G HFB.o HGB.o HTB.o
   have HF:=Az.m hf
   clear hf hw hj hjt
   go_wp2
   go_ret2
   exact ⟨A,T,thb,by rw [e9];rfl,HF.o⟩
end
end Go.Proofs.YtlejhikddkdanaaGreat.Mdl
namespace Go.Proofs.YtlejhikddkdanaaGreat.Mdl
open RowKit
variable {c:Cf} {tid:Int} {A:Ad} {T:Td} {B:Nat→Prop} {w0 w w1 w2 w6 w7:World} {fv fv':Value} {s s':St} {l l' fs:List Fr} {f f':Fr} {fb cap ga gb qb thb:Nat}
theorem Oi (G:Good c tid) {t r:Int} (u:InU r) (h:c.has (.haz t (2*r))=true):(wrap64 r=r∧IntKind.i64.wrap r=r∧IntKind.u64.wrap r=r)∧(wrap64 (2*r)=2*r∧IntKind.i64.wrap (2*r)=2*r∧IntKind.u64.wrap (2*r)=2*r):=by
 have h1:=of_decide_eq_true h
 have:=(Dy G).sl
 have:=u.1
 exact ⟨Ak Zo Zo,Ak Zo Zo⟩
theorem My (G:Good c tid) {t r:Int} (u:InU r) (h:c.has (.haz t (2*r+1))=true):(wrap64 r=r∧IntKind.i64.wrap r=r∧IntKind.u64.wrap r=r)∧(wrap64 (2*r)=2*r∧IntKind.i64.wrap (2*r)=2*r∧IntKind.u64.wrap (2*r)=2*r)∧(wrap64 (2*r+1)=2*r+1∧IntKind.i64.wrap (2*r+1)=2*r+1∧IntKind.u64.wrap (2*r+1)=2*r+1):=by
 have h1:=of_decide_eq_true h
 have:=(Dy G).sl
 have:=u.1
 exact ⟨Ak Zo Zo,Ak Zo Zo,Ak Zo Zo⟩
end Go.Proofs.YtlejhikddkdanaaGreat.Mdl
namespace Go.Proofs.YtlejhikddkdanaaGreat.Mdl
open RowKit PTopSame Wk Fns YtlejhikddkdanaaGreatW.PrintWords YtlejhikddkdanaaGreatW.PrintLast YtlejhikddkdanaaGreatW.PrintMore
variable {c:Cf} {tid:Int} {A:Ad} {T:Td} {B:Nat→Prop} {w0 w w1 w2 w6 w7:World} {fv fv':Value} {s s':St} {l l' fs:List Fr} {f f':Fr} {fb cap ga gb qb thb:Nat}
theorem Ix.drewN (h:Ix c tid A T B w0 fv s l w) (n:Nat):Ix c tid A T B w0 fv s l (w.drewN n):=h.same (At (Below.refl _ _) n)
theorem Ph (n:Int):tree_right.f n=some (decide (n≥1∧n≤1048576)):=by
 unfold tree_right.f
 by_cases h:n≥1
 .rw [if_pos h]
  congr 1
  simp [h]
 .rw [if_neg h]
  congr 1
  simp [h]
theorem fT (m:Nat) (h:1≤m) (h2:m≤1048576):Lib.bitLen m=m.log2+1∧m.log2≤20:=by
 have hb:=Lib.bitLenAux_bounds 64 m Zo Zo
 have hl:=Lib.bitLen_le m 21 Zd Zo
 have e:Lib.bitLenAux 64 m=Lib.bitLen m:=rfl
 rw [e] at hb
 have e2:Lib.bitLen m=Lib.bitLen m-1+1:=Zo
 have h3:m.log2=Lib.bitLen m-1:=(Nat.log2_eq_iff Zo).2 ⟨hb.2.1,by rw [← e2];exact hb.2.2⟩
 omega
theorem gB (k:Nat) (n:Int) (h:1≤n) (h2:n≤1048576):tree_Level.f k n=some (lev n:Int):=by
 obtain ⟨m,rfl⟩:∃ m:Nat,n=m:=⟨n.toNat,Zo⟩
 have hb:=fT m Zo Zo
 unfold tree_Level.f bits_Len.f
 rw [Ph,decide_eq_true Zo]
 simp only [Option.bind_some,if_true]
 have hw:IntKind.u64.wrap (m:Int)=(m:Int):=Gb _ Zo Zo
 rw [hw,if_pos Zo,if_pos Zo]
 simp only [Option.bind_some,Int.toNat_natCast]
 congr 1
 unfold lev
 rw [hb.1,Int.toNat_natCast]
 unfold wrap64
 omega
theorem pZ (k:Nat) (n l:Int) (h:1≤n) (h2:n≤1048576):tree_Up.f k n l=some (up n l):=by
 have hl:lev n≤20:=(fT n.toNat Zo Zo).2
 unfold tree_Up.f up
 rw [Ph,decide_eq_true Zo]
 simp only [Option.bind_some,if_true]
 by_cases h0:l<0
 .rw [if_pos h0,if_pos (.inl h0)]
 .rw [if_neg h0,gB k n h h2]
  simp only [Option.bind_some]
  by_cases h1:(lev n:Int)<l
  .rw [if_pos h1,if_pos (.inr h1)]
  .rw [if_neg h1,w64 Zo Zo,if_pos Zo,if_neg Zo]
   congr 1
   unfold shr
   rw [Nat.min_eq_left (by show _≤64;omega)]
   rw [Int.natCast_pow]
   rfl
theorem Nz (d:Int):tree_Leaves.f d=some (Cd d):=by
 unfold tree_Leaves.f Cd
 by_cases h:d<1
 .rw [if_pos h,if_pos (.inl h)]
 .rw [if_neg h]
  by_cases h2:d>20
  .rw [if_pos h2,if_pos (.inr h2)]
  .rw [if_neg h2,w64 Zo Zo,if_pos Zo,if_neg Zo]
   congr 1
   have:d=1∨d=2∨d=3∨d=4∨d=5∨d=6∨d=7∨d=8∨d=9∨d=10∨d=11∨d=12∨d=13∨d=14∨d=15∨d=16∨d=17∨d=18∨d=19∨d=20:=Zo
   rcases this with rfl|rfl|rfl|rfl|rfl|rfl|rfl|rfl|rfl|rfl|rfl|rfl|rfl|rfl|rfl|rfl|rfl|rfl|rfl|rfl<;>decide
theorem iA {d:Int} (h:1≤d) (h2:d≤20):1≤Cd d∧Cd d≤524288:=by
 have:d=1∨d=2∨d=3∨d=4∨d=5∨d=6∨d=7∨d=8∨d=9∨d=10∨d=11∨d=12∨d=13∨d=14∨d=15∨d=16∨d=17∨d=18∨d=19∨d=20:=Zo
 rcases this with rfl|rfl|rfl|rfl|rfl|rfl|rfl|rfl|rfl|rfl|rfl|rfl|rfl|rfl|rfl|rfl|rfl|rfl|rfl|rfl<;>decide
theorem jO {d i:Int} (h:1≤d) (h2:d≤20) (hi:0≤i):tree_Leaf.f d i=some (Cd d+i % Cd d):=by
 have hl:=iA h h2
 have hm:=Int.emod_nonneg i (show Cd d≠0 by omega)
 have hm2:=Int.emod_lt_of_pos i (show 0<Cd d by omega)
 unfold tree_Leaf.f
 rw [Nz]
 simp only [Option.bind_some]
 have e:mx i 0=i:=by unfold mx;rw [if_neg Zo]
 rw [if_neg Zo,e,w64 Zo Zo]
theorem gC (n d:Int):tree_Inner.f n d=some (decide (n≥1∧n≤1048576∧n<Cd d)):=by
 unfold tree_Inner.f
 rw [Ph]
 by_cases h:n≥1∧n≤1048576
 .rw [decide_eq_true h]
  simp only [Option.bind_some,if_true]
  rw [Nz]
  simp only [Option.bind_some]
  congr 1
  simp [h]
 .rw [decide_eq_false h]
  simp only [Option.bind_some]
  congr 1
  simp
  intro h1 h2
  exact absurd ⟨h1,h2⟩ h
theorem wJ (n l':Int) (h:1≤n) (h2:n≤1048576) (H:Ix c tid A T B w0 fv s l w):Calls Tryz.prog 201 #[Φ n,Φ l'] w fun e w'=>e=.returned (Φ (up n l'))∧Ix c tid A T B w0 fv s l w':=
 (tree_Up.calls 1 n l' _ w (pZ 1 n l' h h2)).mono Λ138
theorem mO (d:Int) (H:Ix c tid A T B w0 fv s l w):Calls Tryz.prog 136 #[Φ d] w fun e w'=>e=.returned (Φ (Cd d))∧Ix c tid A T B w0 fv s l w':=
 (tree_Leaves.calls d _ w (Nz d)).mono Λ138
theorem sK {d i:Int} (h:1≤d) (h2:d≤20) (hi:0≤i) (H:Ix c tid A T B w0 fv s l w):Calls Tryz.prog 133 #[Φ d,Φ i] w fun e w'=>e=.returned (Φ (Cd d+i % Cd d))∧Ix c tid A T B w0 fv s l w':=
 (tree_Leaf.calls d i _ w (jO h h2 hi)).mono Λ138
theorem oT (n d:Int) (H:Ix c tid A T B w0 fv s l w):Calls Tryz.prog 150 #[Φ n,Φ d] w fun e w'=>e=.returned (.bool (decide (n≥1∧n≤1048576∧n<Cd d)))∧Ix c tid A T B w0 fv s l w':=
 (tree_Inner.calls n d _ w (gC n d)).mono Λ138
def Qd (r d:Int):Bool:=decide (r≥1∧r≤1048576∧r<Cd d)
theorem aU {d:Int} (u:InU d):Cd (wrap64 d)=Cd d:=by
 by_cases h:d<9223372036854775808
 .rw [w64 (by have:=u.1;omega) Zo]
 .have e:wrap64 d<1:=by have:=u.2;unfold wrap64;omega
  unfold Cd
  rw [if_pos (.inl e),if_pos (.inr Zo)]
theorem eC {r d:Int} (u:InU r) (v:InU d):decide (wrap64 r≥1∧wrap64 r≤1048576∧wrap64 r<Cd (wrap64 d))=Qd r d:=by
 rw [aU v]
 unfold Qd
 by_cases h:r<9223372036854775808
 .rw [w64 (by have:=u.1;omega) Zo]
 .have e:wrap64 r<1:=by have:=u.2;unfold wrap64;omega
  rw [decide_eq_false Zo,decide_eq_false Zo]
theorem cB {r d:Int} (u:InU r) (v:InU d) (H:Ix c tid A T B w0 fv s l w):Calls Tryz.prog 150 #[Φ (wrap64 r),Φ (wrap64 d)] w fun e w'=>e=.returned (.bool (Qd r d))∧Ix c tid A T B w0 fv s l w':=by
 rw [← eC u v]
 exact oT _ _ H
theorem lP (n:Int):IntKind.i64.wrap n=wrap64 n:=by rw [IntKind.wrap_i64];unfold wrap64;rfl
theorem jH {r d:Int} (u:InU r) (v:InU d) (H:Ix c tid A T B w0 fv s l w):Calls Tryz.prog 150 #[Φ (IntKind.i64.wrap r),Φ (IntKind.i64.wrap d)] w fun e w'=>e=.returned (.bool (Qd r d))∧Ix c tid A T B w0 fv s l w':=by
 have h:=cB u v H
 simp only [lP]
 exact h
theorem Yd {n l':Int} (h:1≤n) (h2:n≤1048576):0≤up n l'∧up n l'≤1048576:=by
 unfold up
 split
 .omega
 .refine ⟨Int.ediv_nonneg Zo (Int.natCast_nonneg _),?_⟩
  exact Int.le_trans (Int.ediv_le_self _ Zo) h2
theorem jM {n l':Int} (h:1≤n) (h2:n≤1048576):wrap64 (up n l')=up n l'∧IntKind.i64.wrap (up n l')=up n l'∧IntKind.u64.wrap (up n l')=up n l':=Ak (Yd h h2).1 (by have:=(Yd (l':=l') h h2).2;omega)
theorem nH {d:Int} (h:1≤d) (h2:d≤20):path_New.f d=some (0,d-1):=by
 unfold path_New.f
 have e:mx d 1=d:=by unfold mx;split<;>omega
 rw [e,w64 Zo Zo]
theorem Zj {x:Int} (h:0≤x) (h2:x≤65535):path_clip.f x=some x:=by
 unfold path_clip.f
 have e:mn x 1073741824=x:=by unfold mn;split<;>omega
 have e2:mx 0 x=x:=by unfold mx;split<;>omega
 rw [e,e2]
theorem fG {a b:Int} (a0:0≤a) (a1:a≤65535) (b0:0≤b) (b1:b≤65535):path_Span_Mid.f a b=some ((a+b) / 2):=by
 unfold path_Span_Mid.f
 rw [Zj a0 a1,Zj b0 b1]
 simp only [Option.bind_some]
 rw [w64 (x:=a+b) Zo Zo,Int.tdiv_eq_ediv_of_nonneg Zo,w64 Zo Zo]
theorem Wi {a b:Int} (a0:0≤a) (a1:a≤65535) (b0:0≤b) (b1:b≤65535) (m:Bool):path_Span_Cut.f a b m=some (if a≥b then (a,b) else if m=true then (a,(a+b) / 2) else ((a+b) / 2+1,b)):=by
 unfold path_Span_Cut.f path_Span_Done.f
 simp only [Option.bind_some]
 by_cases h:a≥b
 .rw [if_pos (decide_eq_true h),if_pos h]
 .rw [if_neg (by rw [decide_eq_false h];decide),if_neg h,fG a0 a1 b0 b1]
  simp only [Option.bind_some]
  rw [w64 (x:=(a+b) / 2+1) Zo Zo]
  cases m<;>simp
theorem sB {d:Int} (h:1≤d) (h2:d≤20) (H:Ix c tid A T B w0 fv s l w):Calls Tryz.prog 138 #[Φ d] w fun e w'=>e=.returned (.agg #[Φ 0,Φ (d-1)])∧Ix c tid A T B w0 fv s l w':=
 (path_New.calls d _ _ w (nH h h2)).mono Λ138
theorem oQ (a b:Int) (H:Ix c tid A T B w0 fv s l w):Calls Tryz.prog 141 #[.agg #[Φ a,Φ b]] w fun e w'=>e=.returned (.bool (decide (a≥b)))∧Ix c tid A T B w0 fv s l w':=
 (path_Span_Done.calls a b _ w rfl).mono Λ138
theorem sC {a b:Int} (a0:0≤a) (a1:a≤65535) (b0:0≤b) (b1:b≤65535) (H:Ix c tid A T B w0 fv s l w):Calls Tryz.prog 143 #[.agg #[Φ a,Φ b]] w fun e w'=>e=.returned (Φ ((a+b) / 2))∧Ix c tid A T B w0 fv s l w':=
 (path_Span_Mid.calls a b _ w (fG a0 a1 b0 b1)).mono Λ138
theorem cA {a b:Int} {m:Bool} (a0:0≤a) (a1:a≤65535) (b0:0≤b) (b1:b≤65535) (hd:a≥b) (H:Ix c tid A T B w0 fv s l w):Calls Tryz.prog 144 #[.agg #[Φ a,Φ b],.bool m] w fun e w'=>e=.returned (.agg #[Φ a,Φ b])∧Ix c tid A T B w0 fv s l w':=
 (path_Span_Cut.calls a b m a b w (by rw [Wi a0 a1 b0 b1];rw [if_pos hd])).mono Λ138
theorem jF {a b:Int} (a0:0≤a) (a1:a≤65535) (b0:0≤b) (b1:b≤65535) (hd:¬ a≥b) (H:Ix c tid A T B w0 fv s l w):Calls Tryz.prog 144 #[.agg #[Φ a,Φ b],.bool true] w fun e w'=>e=.returned (.agg #[Φ a,Φ ((a+b) / 2)])∧Ix c tid A T B w0 fv s l w':=
 (path_Span_Cut.calls a b true a ((a+b) / 2) w (by rw [Wi a0 a1 b0 b1];rw [if_neg hd,if_pos rfl])).mono Λ138
theorem jG {a b:Int} (a0:0≤a) (a1:a≤65535) (b0:0≤b) (b1:b≤65535) (hd:¬ a≥b) (H:Ix c tid A T B w0 fv s l w):Calls Tryz.prog 144 #[.agg #[Φ a,Φ b],.bool false] w fun e w'=>e=.returned (.agg #[Φ ((a+b) / 2+1),Φ b])∧Ix c tid A T B w0 fv s l w':=
 (path_Span_Cut.calls a b false ((a+b) / 2+1) b w (by rw [Wi a0 a1 b0 b1];rw [if_neg hd,if_neg Zd])).mono Λ138
end Go.Proofs.YtlejhikddkdanaaGreat.Mdl
