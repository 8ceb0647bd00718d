/- TopSame, part 13: lemmas on the way. -/
import Derived.Test.YtlejhikddkdanaaGreatM11
import Derived.Test.YtlejhikddkdanaaGreatM12
set_option maxHeartbeats 8000000
set_option maxRecDepth 1000000
set_option linter.unusedVariables false
set_option linter.unusedSimpArgs false
namespace Go.Proofs.YtlejhikddkdanaaGreat.Mdl
open RowKit PTopSame Wk Fns YtlejhikddkdanaaGreatW.PrintWords YtlejhikddkdanaaGreatW.PrintLast YtlejhikddkdanaaGreatW.PrintMore
variable {c:Cf} {tid:Int} {A:Ad} {T:Td} {B:Nat→Prop} {w0 w w1 w2 w6 w7:World} {fv fv':Value} {s s':St} {l l' fs:List Fr} {f f':Fr} {fb cap ga gb qb thb:Nat}
section
attribute [local go_sem] Cs Cq De Dd Cj Ci Cr Cp Ig Fz Ez Ej Gu Ip Iq Hr Jm Pg Vh Ut
namespace X41
theorem κ {p:Prop} (h:p:=by with_reducible first|(exact Λ79)|(exact Λ91)|(exact Λ160)|(exact Λ80)|(exact Λ158)|(exact Λ162)):p:=h
abbrev δ:List (Nat×Nat):=[(5,24),(19,24),(6,25),(10,26),(15,27),(20,28)]
abbrev νa:=1
abbrev τa:=129
theorem ξ {p:Prop} (h:p:=by
 dsimp only at hp0 hp1
 rcases pc with _|_|_|_|_|_|_|_|_|pc
 all_goals (try (exfalso;omega))
 all_goals (clear hp0 hp1)
 case' succ.succ.succ.succ.succ.zero=>(by_cases q0:r2=1<;>(first|(have:=@id ((_:Bool)=true) q0)|(have:=As q0)|(have:=Aj q0)|(have:=Ca q0)|(have:=Bq q0)|(have:=Br q0)|(have:=Bg q0)|(have:=Du q0)|(have:=Dt q0)|(have:=Ds q0)))<;>(by_cases q1:r4=0<;>(first|(have:=@id ((_:Bool)=true) q1)|(have:=As q1)|(have:=Aj q1)|(have:=Ca q1)|(have:=Bq q1)|(have:=Br q1)|(have:=Bg q1)|(have:=Du q1)|(have:=Dt q1)|(have:=Ds q1)))<;>(by_cases q2:s.mm (.nd r2 2)=1<;>(first|(have:=@id ((_:Bool)=true) q2)|(have:=As q2)|(have:=Aj q2)|(have:=Ca q2)|(have:=Bq q2)|(have:=Br q2)|(have:=Bg q2)|(have:=Du q2)|(have:=Dt q2)|(have:=Ds q2)))
 case' succ.succ.succ.succ.succ.succ.zero=>(by_cases q0:(fn:Int)=33<;>(first|(have:=@id ((_:Bool)=true) q0)|(have:=As q0)|(have:=Aj q0)|(have:=Ca q0)|(have:=Bq q0)|(have:=Br q0)|(have:=Bg q0)|(have:=Du q0)|(have:=Dt q0)|(have:=Ds q0)))
 all_goals (simp only [Gq,Ao,call,ok,fin] at h)
 all_goals (first|(have p0:=eq_false q0)|(have p0:=eq_true q0)|skip)
 all_goals (first|(have p1:=eq_false q1)|(have p1:=eq_true q1)|skip)
 all_goals (first|(have p2:=eq_false q2)|(have p2:=eq_true q2)|skip)
 all_goals (try (simp only [p0,p1,p2,ne_eq,gt_iff_lt,ge_iff_le,not_true_eq_false,not_false_eq_true,and_true,true_and,and_false,false_and,or_true,true_or,or_false,false_or,if_true,if_false] at h;clear p0 p1 p2))
 all_goals (try (simp only [p0,p1,ne_eq,gt_iff_lt,ge_iff_le,not_true_eq_false,not_false_eq_true,and_true,true_and,and_false,false_and,or_true,true_or,or_false,false_or,if_true,if_false] at h;clear p0 p1))
 all_goals (try (simp only [p0,ne_eq,gt_iff_lt,ge_iff_le,not_true_eq_false,not_false_eq_true,and_true,true_and,and_false,false_and,or_true,true_or,or_false,false_or,if_true,if_false] at h;clear p0))
 iterate 6 (all_goals (try (split at h<;>rename_i k<;>(first|(obtain ⟨_,_,_⟩:=ω;clear k)|have:=Ω))))
 all_goals (try (exfalso;omega))
 all_goals (try (have:=Az.m q0;clear q0))
 all_goals (try (have:=Az.m q1;clear q1))
 all_goals (try (have:=Az.m q2;clear q2))
 all_goals cases h
 all_goals (try (obtain ⟨p,hp⟩:∃ p:Nat,p=pc+9:=⟨_,rfl⟩;rw [show pc+9=p from hp.symm] at H0;have d0:((p:Int)==0)=false:=Λ143;have d1:((p:Int)==1)=false:=Λ143;have d2:((p:Int)==2)=false:=Λ143;have d3:((p:Int)==3)=false:=Λ143;have d4:((p:Int)==4)=false:=Λ143;have d5:((p:Int)==5)=false:=Λ143;have d6:((p:Int)==6)=false:=Λ143;have d7:((p:Int)==7)=false:=Λ143;have d8:((p:Int)==8)=false:=Λ143;clear hp))
 all_goals (try (have EB:=Ak (x:=c.batch) Λ95 Λ95))
 all_goals (try (have q9:=As (show (fn:Int)=33 by omega)))
 all_goals (try (have q9:=Aj (show ¬ (fn:Int)=33 by omega)))
 all_goals (try (have EP:=Cy r5))
 all_goals (try (have EQ:=Cy r1))
 all_goals (try (have um:=InU.dec1 u3 Zo))
 all_goals (try (have E3:=InU.wrap (InU.dec1 u3 Zo)))
 all_goals (go_enter Tryz.func120,Tryz.ntmps120;exact Θ5)):p:=h
end X41
open X41 in
theorem gS (G:Good c tid) (hn:fs.length<900) {out:Out} (hp0:5≤f.pc) (hp1:f.pc<9) (h:Gq c tid s f fs=some out) (H:IT c tid A T B w0 fb cap s f fs w) :
  Calls Tryz.prog 120 #[.agg (rc A T fb fs.length)] w (RO c tid A T B w0 out):=Ξ
namespace X42
theorem κ {p:Prop} (h:p:=by with_reducible first|(exact Λ80)|(exact Λ79)|(exact Λ91)|(go_at_call 194;exact pL HI)|(exact Λ50)|(exact Λ86)):p:=h
abbrev δ:List (Nat×Nat):=[(4,29),(7,30),(9,24),(12,31)]
abbrev νa:=1
abbrev τa:=129
theorem ξ {p:Prop} (h:p:=by
 dsimp only at hp0 hp1
 rcases pc with _|_|_|_|_|_|_|_|_|_|_|pc
 all_goals (try (exfalso;omega))
 all_goals (clear hp0 hp1)
 case' succ.succ.succ.succ.succ.succ.succ.succ.succ.succ.zero=>(by_cases q0:(fn:Int)=33<;>(first|(have:=@id ((_:Bool)=true) q0)|(have:=As q0)|(have:=Aj q0)|(have:=Ca q0)|(have:=Bq q0)|(have:=Br q0)|(have:=Bg q0)|(have:=Du q0)|(have:=Dt q0)|(have:=Ds q0)))<;>(by_cases q1:r3<c.batch<;>(first|(have:=@id ((_:Bool)=true) q1)|(have:=As q1)|(have:=Aj q1)|(have:=Ca q1)|(have:=Bq q1)|(have:=Br q1)|(have:=Bg q1)|(have:=Du q1)|(have:=Dt q1)|(have:=Ds q1)))<;>(by_cases q2:r4=0<;>(first|(have:=@id ((_:Bool)=true) q2)|(have:=As q2)|(have:=Aj q2)|(have:=Ca q2)|(have:=Bq q2)|(have:=Br q2)|(have:=Bg q2)|(have:=Du q2)|(have:=Dt q2)|(have:=Ds q2)))
 all_goals (simp only [Gq,Ao,call,ok,fin] at h)
 all_goals (first|(have p0:=eq_false q0)|(have p0:=eq_true q0)|skip)
 all_goals (first|(have p1:=eq_false q1)|(have p1:=eq_true q1)|skip)
 all_goals (first|(have p2:=eq_false q2)|(have p2:=eq_true q2)|skip)
 all_goals (try (simp only [p0,p1,p2,ne_eq,gt_iff_lt,ge_iff_le,not_true_eq_false,not_false_eq_true,and_true,true_and,and_false,false_and,or_true,true_or,or_false,false_or,if_true,if_false] at h;clear p0 p1 p2))
 all_goals (try (simp only [p0,p1,ne_eq,gt_iff_lt,ge_iff_le,not_true_eq_false,not_false_eq_true,and_true,true_and,and_false,false_and,or_true,true_or,or_false,false_or,if_true,if_false] at h;clear p0 p1))
 all_goals (try (simp only [p0,ne_eq,gt_iff_lt,ge_iff_le,not_true_eq_false,not_false_eq_true,and_true,true_and,and_false,false_and,or_true,true_or,or_false,false_or,if_true,if_false] at h;clear p0))
 iterate 6 (all_goals (try (split at h<;>rename_i k<;>(first|(obtain ⟨_,_,_⟩:=ω;clear k)|have:=Ω))))
 all_goals (try (exfalso;omega))
 all_goals (try (have:=Az.m q0;clear q0))
 all_goals (try (have:=Az.m q1;clear q1))
 all_goals (try (have:=Az.m q2;clear q2))
 all_goals cases h
 all_goals (try (obtain ⟨p,hp⟩:∃ p:Nat,p=pc+11:=⟨_,rfl⟩;rw [show pc+11=p from hp.symm] at H0;have d0:((p:Int)==0)=false:=Λ143;have d1:((p:Int)==1)=false:=Λ143;have d2:((p:Int)==2)=false:=Λ143;have d3:((p:Int)==3)=false:=Λ143;have d4:((p:Int)==4)=false:=Λ143;have d5:((p:Int)==5)=false:=Λ143;have d6:((p:Int)==6)=false:=Λ143;have d7:((p:Int)==7)=false:=Λ143;have d8:((p:Int)==8)=false:=Λ143;have d9:((p:Int)==9)=false:=Λ143;have d10:((p:Int)==10)=false:=Λ143;clear hp))
 all_goals (try (have EB:=Ak (x:=c.batch) Λ95 Λ95))
 all_goals (try (have q9:=As (show (fn:Int)=33 by omega)))
 all_goals (try (have q9:=Aj (show ¬ (fn:Int)=33 by omega)))
 all_goals (try (have EP:=Cy r5))
 all_goals (try (have EQ:=Cy r1))
 all_goals (go_enter Tryz.func121,Tryz.ntmps121;exact Θ5)):p:=h
end X42
open X42 in
theorem Zn (G:Good c tid) (hn:fs.length<900) {out:Out} (hp0:9≤f.pc) (hp1:f.pc<11) (h:Gq c tid s f fs=some out) (H:IT c tid A T B w0 fb cap s f fs w) :
  Calls Tryz.prog 121 #[.agg (rc A T fb fs.length)] w (RO c tid A T B w0 out):=Ξ
namespace X43
theorem κ {p:Prop} (h:p:=by with_reducible first|(exact Λ158)|(exact Λ162)|(go_at_call 112;first|exact Wp G Λ40 13 36 Zd Zd Zd Zd Λ157 Λ32 HI|exact qT G Λ40 14 35 Zd Zd Zd Zd Λ157 Λ32 Λ32 HI)|(exact Λ159)|(exact Λ180)):p:=h
abbrev δ:List (Nat×Nat):=[(6,5),(11,32),(3,32)]
abbrev νa:=1
abbrev τa:=129
theorem ξ {p:Prop} (h:p:=by
 dsimp only at hp0
 rcases pc with _|_|_|_|_|_|_|_|_|_|_|_|_|_|pc
 all_goals (try (exfalso;omega))
 all_goals (clear hp0)
 all_goals (simp only [Gq,Ao,call,ok,fin] at h)
 iterate 6 (all_goals (try (split at h<;>rename_i k<;>(first|(obtain ⟨_,_,_⟩:=ω;clear k)|have:=Ω))))
 all_goals cases h
 all_goals (try (obtain ⟨p,hp⟩:∃ p:Nat,p=pc+14:=⟨_,rfl⟩;rw [show pc+14=p from hp.symm] at H0;have d0:((p:Int)==0)=false:=Λ143;have d1:((p:Int)==1)=false:=Λ143;have d2:((p:Int)==2)=false:=Λ143;have d3:((p:Int)==3)=false:=Λ143;have d4:((p:Int)==4)=false:=Λ143;have d5:((p:Int)==5)=false:=Λ143;have d6:((p:Int)==6)=false:=Λ143;have d7:((p:Int)==7)=false:=Λ143;have d8:((p:Int)==8)=false:=Λ143;have d9:((p:Int)==9)=false:=Λ143;have d10:((p:Int)==10)=false:=Λ143;have d11:((p:Int)==11)=false:=Λ143;have d12:((p:Int)==12)=false:=Λ143;have d13:((p:Int)==13)=false:=Λ143;clear hp))
 all_goals (try (have EB:=Ak (x:=c.batch) Λ95 Λ95))
 all_goals (try (have q9:=As (show (fn:Int)=33 by omega)))
 all_goals (try (have q9:=Aj (show ¬ (fn:Int)=33 by omega)))
 all_goals (try (have EP:=Cy r5))
 all_goals (try (have EQ:=Cy r1))
 all_goals (go_enter Tryz.func122,Tryz.ntmps122;exact Θ5)):p:=h
end X43
open X43 in
theorem Uj (G:Good c tid) (hn:fs.length<900) {out:Out} (hp0:11≤f.pc) (h:Gq c tid s f fs=some out) (H:IT c tid A T B w0 fb cap s f fs w) :
  Calls Tryz.prog 122 #[.agg (rc A T fb fs.length)] w (RO c tid A T B w0 out):=Ξ
namespace X51
theorem κ {p:Prop} (h:p:=by with_reducible first|(exact Λ91)|(exact Λ158)|(exact Λ80)|(exact Λ161)|(go_at_call 117;exact kM G Zo (by exact GU3) Λ32 Za HI)):p:=h
abbrev δ:List (Nat×Nat):=[(4,37),(5,38),(8,8),(9,39),(16,5),(21,5),(17,7)]
abbrev νa:=1
abbrev τa:=129
theorem ξ {p:Prop} (h:p:=by
 dsimp only at hp0 hp1
 rcases pc with _|_|_|_|_|pc
 all_goals (try (exfalso;omega))
 all_goals (clear hp0 hp1)
 all_goals (simp only [Gq,Ao,call,ok,fin] at h)
 iterate 6 (all_goals (try (split at h<;>rename_i k<;>(first|(obtain ⟨_,_,_⟩:=ω;clear k)|have:=Ω))))
 all_goals cases h
 all_goals (try (obtain ⟨p,hp⟩:∃ p:Nat,p=pc+5:=⟨_,rfl⟩;rw [show pc+5=p from hp.symm] at H0;have d0:((p:Int)==0)=false:=Λ143;have d1:((p:Int)==1)=false:=Λ143;have d2:((p:Int)==2)=false:=Λ143;have d3:((p:Int)==3)=false:=Λ143;have d4:((p:Int)==4)=false:=Λ143;clear hp))
 all_goals (try (have EP:=Cy r5))
 all_goals (try (have GU3:0≤r3∧r3<1000000:=⟨u3.1,Zo⟩))
 all_goals (try (have E5:=Ak (x:=r3+1) (by have:=u3.1;omega) Zo))
 all_goals (try (have u3p:InU (r3+1):=⟨by have:=u3.1;omega,Zo⟩))
 all_goals (go_enter Tryz.func119,Tryz.ntmps119;exact Θ5)):p:=h
end X51
open X51 in
theorem Zu (G:Good c tid) (hn:fs.length<900) {out:Out} (hp0:0≤f.pc) (hp1:f.pc<5) (h:Gq c tid s f fs=some out) (H:IT c tid A T B w0 fb cap s f fs w) :
  Calls Tryz.prog 119 #[.agg (rc A T fb fs.length)] w (RO c tid A T B w0 out):=Ξ
namespace X52
theorem κ {p:Prop} (h:p:=by with_reducible first|(go_at_call 119;exact Zu G Zo hp0 hp1 h HI)|(go_at_call 120;exact gS G Zo hp0 hp1 h HI)|(go_at_call 121;exact Zn G Zo hp0 hp1 h HI)|(go_at_call 122;exact Uj G Zo hp0 h HI)):p:=h
abbrev νa:=1
abbrev τa:=129
theorem ξ {p:Prop} (h:p:=by
 have hc:(0≤pc∧pc<5)∨(5≤pc∧pc<9)∨(9≤pc∧pc<11)∨11≤pc:=Zo
 rcases hc with ⟨hp0,hp1⟩|⟨hp0,hp1⟩|⟨hp0,hp1⟩|hp0
 all_goals (first|(have:=Br (show ((pc:Nat):Int)≤4 by omega))|(have:=Bg (show ¬ ((pc:Nat):Int)≤4 by omega)))
 all_goals (first|(have:=Br (show ((pc:Nat):Int)≤8 by omega))|(have:=Bg (show ¬ ((pc:Nat):Int)≤8 by omega)))
 all_goals (first|(have:=Br (show ((pc:Nat):Int)≤10 by omega))|(have:=Bg (show ¬ ((pc:Nat):Int)≤10 by omega)))
 all_goals (go_enter Tryz.func55,Tryz.ntmps55;exact Θ5)):p:=h
end X52
open X52 in
theorem Uh (G:Good c tid) (hn:fs.length<900) {out:Out} (h:Gq c tid s f fs=some out) (H:IT c tid A T B w0 fb cap s f fs w) :
  Calls Tryz.prog 55 #[.agg (rc A T fb fs.length)] w (RO c tid A T B w0 out):=Ξ
end
section
attribute [local go_sem] Cs Cq De Dd Cj Ci Cr Cp Ig Fz Ez Ej Gu Ip Iq Hr Jm Pg Vh Ut
attribute [local go_sem] kA
namespace X92
theorem κ {p:Prop} (h:p:=by with_reducible first|(go_at_call 70;first|exact Jq G Λ40 5 10 Zd Zd Zd Zd Λ157 Λ37 HI|exact Jq G Λ40 6 10 Zd Zd Zd Zd Λ157 Λ37 HI)|(go_at_call 83;first|exact aH G Zo Λ38 Za HI|exact dS G Zo Λ38 Za HI|exact aG G Zo Λ38 Za HI|exact dR G Zo Λ38 Za HI)|(exact Λ84)|(go_at_call 84;exact trivial)|(go_at_call 85;exact trivial)|(go_at_call 86;exact trivial)):p:=h
abbrev δ:List (Nat×Nat):=[(15,48),(17,48)]
theorem εx:True:=trivial
abbrev νa:=1
abbrev τa:=116
theorem ξ {p:Prop} (h:p:=by
 dsimp only at hp0 hp1
 rcases pc with _|_|_|_|_|_|_|pc
 all_goals (try (exfalso;omega))
 all_goals (clear hp0 hp1)
 case' succ.succ.succ.succ.succ.zero=>(by_cases q0:mark s.ret0=true<;>(first|(have:=@id ((_:Bool)=true) q0)|(have:=As q0)|(have:=Aj q0)|(have:=Ca q0)|(have:=Bq q0)|(have:=Br q0)|(have:=Bg q0)|(have:=Du q0)|(have:=Dt q0)|(have:=Ds q0)))
 case' succ.succ.succ.succ.succ.succ.zero=>(by_cases q0:mark s.ret0=true<;>(first|(have:=@id ((_:Bool)=true) q0)|(have:=As q0)|(have:=Aj q0)|(have:=Ca q0)|(have:=Bq q0)|(have:=Br q0)|(have:=Bg q0)|(have:=Du q0)|(have:=Dt q0)|(have:=Ds q0)))
 all_goals (simp only [Hl,Ao,call,ok] at h)
 all_goals (first|(have p0:=eq_false q0)|(have p0:=eq_true q0)|skip)
 all_goals (try (simp only [p0,ne_eq,gt_iff_lt,ge_iff_le,not_true_eq_false,not_false_eq_true,and_true,true_and,and_false,false_and,or_true,true_or,or_false,false_or,if_true,if_false] at h;clear p0))
 iterate 6 (all_goals (try (split at h<;>rename_i k<;>(first|(obtain ⟨_,_,_⟩:=ω;clear k)|have:=Ω))))
 all_goals (try (exfalso;omega))
 all_goals (try (have:=Az.m q0;clear q0))
 all_goals cases h
 all_goals (try (obtain ⟨p,hp⟩:∃ p:Nat,p=pc+7:=⟨_,rfl⟩;rw [show pc+7=p from hp.symm] at H0;have d0:((p:Int)==0)=false:=Λ143;have d1:((p:Int)==1)=false:=Λ143;have d2:((p:Int)==2)=false:=Λ143;have d3:((p:Int)==3)=false:=Λ143;have d4:((p:Int)==4)=false:=Λ143;have d5:((p:Int)==5)=false:=Λ143;have d6:((p:Int)==6)=false:=Λ143;clear hp))
 all_goals (try (have E2:=Ak (x:=2*r0) (by have:=u0.1;omega) Zo))
 all_goals (try (have E3:=Ak (x:=2*r0+1) (by have:=u0.1;omega) Zo))
 all_goals (try (have up1:InU (2*r0):=⟨by have:=u0.1;omega,Zo⟩))
 all_goals (try (have up2:InU (2*r0+1):=⟨by have:=u0.1;omega,Zo⟩))
 all_goals (go_enter Tryz.func45,Tryz.ntmps45;exact Θ5)):p:=h
end X92
open X92 in
theorem Wu (G:Good c tid) (hn:fs.length<900) {out:Out} (hp0:4≤f.pc) (hp1:f.pc<7) (h:Hl c s f fs=some out) (H:IT c tid A T B w0 fb cap s f fs w) :
  Calls Tryz.prog 45 #[.agg (rc A T fb fs.length)] w (RO c tid A T B w0 out):=Ξ
namespace X93
theorem κ {p:Prop} (h:p:=by with_reducible first|(go_at_call 70;exact trivial)|(go_at_call 83;exact trivial)|(exact Λ84)|(go_at_call 84;first|exact Wr G Zo up1 hxy1 (Yl h2) h2 HI|exact Wq G Zo up2 hxy2 (Yl h2) h2 HI)|(go_at_call 85;exact Mo G Zo h2 HI)|(go_at_call 86;exact trivial)):p:=h
abbrev δ:List (Nat×Nat):=[(15,48),(17,48)]
theorem εx:True:=trivial
abbrev νa:=1
abbrev τa:=116
end X93
open X93 in
theorem Wt (G:Good c tid) (hn:fs.length<900) {out:Out} (hp:f.pc=7) (h:Hl c s f fs=some out) (H:IT c tid A T B w0 fb cap s f fs w) :
  Calls Tryz.prog 45 #[.agg (rc A T fb fs.length)] w (RO c tid A T B w0 out):=by
 delta rc
 have F:=H.top_fits
 obtain ⟨fn,pc,r0,r1,r2,r3,r4,r5,r6,r7,r8,r9⟩:=f
 obtain ⟨-,upc,u0,u1,u2,u3,u4,u5,u6,u7,u8,u9⟩:=F
 dsimp only at upc u0 u1 u2 u3 u4 u5 u6 u7 u8 u9 hp
 subst hp
 have H0:=Az.m H
 clear H
 have hr:1≤r0∧r0<65536:=by
  have h5:(if r0<1∨r0≥65536 then none else _)=some out:=h
  split at h5
  .cases h5
  .omega
 have h3:(if r4≤r6∧r4<r2 then Kg c s ⟨fn,7,r0,r1,r2,r3,r4,r5,r6,r7,r8,r9⟩ fs r3 (2*r0) else if r6<r4∧r6<r2 then Kg c s ⟨fn,7,r0,r1,r2,r3,r4,r5,r6,r7,r8,r9⟩ fs r5 (2*r0+1) else Nv c s ⟨fn,7,r0,r1,r2,r3,r4,r5,r6,r7,r8,r9⟩ fs)=some out:=by
  have h5:(if r0<1∨r0≥65536 then none else _)=some out:=h
  rw [if_neg Zo] at h5
  exact h5
 clear h
 have E2:=Ak (x:=2*r0) Zo Zo
 have E3:=Ak (x:=2*r0+1) Zo Zo
 have up1:InU (2*r0):=⟨Zo,Zo⟩
 have up2:InU (2*r0+1):=⟨Zo,Zo⟩
 have hxy1:Loc.tr r0≠Loc.tr (2*r0):=fun e=>by injection e;omega
 have hxy2:Loc.tr r0≠Loc.tr (2*r0+1):=fun e=>by injection e;omega
 clear hr
 by_cases a1:r4≤r6<;>by_cases a2:r4<r2<;>by_cases a3:r6<r4<;>by_cases a4:r6<r2
 all_goals (try (exfalso;omega))
 all_goals (first|(rw [if_pos (show _∧_ from ⟨a1,a2⟩)] at h3;have h2:=h3;clear h3)|(rw [if_neg Zo,if_pos (show _∧_ from ⟨a3,a4⟩)] at h3;have h2:=h3;clear h3)|(rw [if_neg Zo,if_neg Zo] at h3;have h2:=h3;clear h3))
 all_goals (first|(have q1:=Br a1)|(have q1:=Bg a1))
 all_goals (first|(have q2:=Ca a2)|(have q2:=Bq a2))
 all_goals (first|(have q3:=Ca a3)|(have q3:=Bq a3))
 all_goals (first|(have q4:=Ca a4)|(have q4:=Bq a4))
 all_goals (clear a1 a2 a3 a4)
 all_goals (go_enter Tryz.func45,Tryz.ntmps45;exact Θ5)
namespace X94
theorem κ {p:Prop} (h:p:=by with_reducible first|(go_at_call 70;exact trivial)|(go_at_call 83;exact trivial)|(exact Λ84)|(go_at_call 84;exact trivial)|(go_at_call 85;exact trivial)|(go_at_call 86;exact aA G Zo hp1 h HI)):p:=h
abbrev δ:List (Nat×Nat):=[(15,21),(17,21)]
abbrev νa:=1
abbrev τa:=116
theorem ξ {p:Prop} (h:p:=by
 dsimp only at hp
 have hc:(0≤pc∧pc<4):=Zo
 rcases hc with ⟨hp0,hp1⟩
 all_goals (first|(have:=As (show ((pc:Nat):Int)=4 by omega))|(have:=Aj (show ¬ ((pc:Nat):Int)=4 by omega)))
 all_goals (first|(have:=As (show ((pc:Nat):Int)=5 by omega))|(have:=Aj (show ¬ ((pc:Nat):Int)=5 by omega)))
 all_goals (first|(have:=As (show ((pc:Nat):Int)=6 by omega))|(have:=Aj (show ¬ ((pc:Nat):Int)=6 by omega)))
 all_goals (first|(have:=As (show ((pc:Nat):Int)=7 by omega))|(have:=Aj (show ¬ ((pc:Nat):Int)=7 by omega)))
 all_goals (go_enter Tryz.func45,Tryz.ntmps45;exact Θ5)):p:=h
end X94
open X94 in
theorem Ws (G:Good c tid) (hn:fs.length<900) {out:Out} (hp:0≤f.pc∧f.pc<4) (h:Hl c s f fs=some out) (H:IT c tid A T B w0 fb cap s f fs w) :
  Calls Tryz.prog 45 #[.agg (rc A T fb fs.length)] w (RO c tid A T B w0 out):=Ξ
theorem Xa (G:Good c tid) (hn:fs.length<900) {out:Out} (h:Hl c s f fs=some out) (H:IT c tid A T B w0 fb cap s f fs w) :
  Calls Tryz.prog 45 #[.agg (rc A T fb fs.length)] w (RO c tid A T B w0 out):=by
 delta rc
 rcases (show f.pc<4∨(4≤f.pc∧f.pc<7)∨f.pc=7∨7<f.pc by omega) with h1|h1|h1|h1
 .exact Ws G hn ⟨Nat.zero_le _,h1⟩ h H
 .exact Wu G hn h1.1 h1.2 h H
 .exact Wt G hn h1 h H
 .exfalso
  obtain ⟨fn,pc,r0,r1,r2,r3,r4,r5,r6,r7,r8,r9⟩:=f
  dsimp only at h1
  obtain ⟨p,rfl⟩:∃ p,pc=p+8:=⟨pc-8,Zo⟩
  cases h
end
end Go.Proofs.YtlejhikddkdanaaGreat.Mdl
