/- TopSame, part 11: lemmas on the way. -/
import Derived.Test.YtlejhikddkdanaaGreatM10
import Derived.Test.YtlejhikddkdanaaGreatRows
set_option maxHeartbeats 8000000
set_option maxRecDepth 1000000
set_option linter.unusedVariables false
set_option linter.unusedSimpArgs false
namespace Go.Proofs.YtlejhikddkdanaaGreat.Mdl
open RowKit PTopSame Wk Fns YtlejhikddkdanaaGreatW.PrintWords YtlejhikddkdanaaGreatW.PrintLast YtlejhikddkdanaaGreatW.PrintMore
variable {c:Cf} {tid:Int} {A:Ad} {T:Td} {B:Nat→Prop} {w0 w w1 w2 w6 w7:World} {fv fv':Value} {s s':St} {l l' fs:List Fr} {f f':Fr} {fb cap ga gb qb thb:Nat}
section
attribute [local go_sem] Cs Cq De Dd Cj Ci Cr Cp Ig Fz Ez Ej Gu Ip Iq Hr Jm Pg Vh Ut
theorem Kh {p:Int}:kd (.tr p)≠3:=show (4:Int)≠3 by decide
theorem tP {p q:Prop} (h:Az (¬ p)):¬ (p∧q):=fun h5=>h.out h5.1
theorem tO {p q:Prop} (h:Az (¬ q)):¬ (p∧q):=fun h5=>h.out h5.2
namespace X84
theorem κ {p:Prop} (h:p:=by with_reducible first|(exact Λ92)|(exact Λ185)|(exact Λ187)|(exact Λ190)):p:=h
abbrev δ:List (Nat×Nat):=[(3,5)]
abbrev νa:=1
abbrev τa:=116
theorem ξ {p:Prop} (h:p:=by
 all_goals (simp only [Nv,Ao] at h)
 iterate 6 (all_goals (try (split at h<;>rename_i k<;>(first|(obtain ⟨_,_,_⟩:=ω;clear k)|have:=Ω))))
 all_goals cases h
 all_goals (try (have EP:=Cy r1))
 all_goals (go_enter Tryz.func85,Tryz.ntmps85;exact Θ5)):p:=h
end X84
open X84 in
theorem Mo (G:Good c tid) (hn:fs.length<900) {out:Out} (h:Nv c s f fs=some out) (H:IT c tid A T B w0 fb cap s f fs w) :
  Calls Tryz.prog 85 #[.agg (rc A T fb fs.length)] w (RO c tid A T B w0 out):=Ξ
namespace X85
theorem κ {p:Prop} (h:p:=by with_reducible first|(exact Λ92)|(exact Λ90)|(exact Λ185)|(exact Λ171)|(exact Λ172)):p:=h
abbrev δ:List (Nat×Nat):=[(2,5),(4,5)]
abbrev νa:=3
abbrev τa:=116
theorem ξ {p:Prop} (h:p:=by
 all_goals ((by_cases q0:s.mm (.tr r0)=r1<;>(first|(have:=@id ((_:Bool)=true) q0)|(have:=As q0)|(have:=Aj q0)|(have:=Ca q0)|(have:=Bq q0)|(have:=Br q0)|(have:=Bg q0)|(have:=Du q0)|(have:=Dt q0)|(have:=Ds q0)))<;>(by_cases q1:s.mm (.tr place)=r3<;>(first|(have:=@id ((_:Bool)=true) q1)|(have:=As q1)|(have:=Aj q1)|(have:=Ca q1)|(have:=Bq q1)|(have:=Br q1)|(have:=Bg q1)|(have:=Du q1)|(have:=Dt q1)|(have:=Ds q1))))
 all_goals (simp only [Kg,Mg] at h)
 all_goals (first|(have p0:=eq_false q0)|(have p0:=eq_true q0)|skip)
 all_goals (first|(have p1:=eq_false q1)|(have p1:=eq_true q1)|skip)
 all_goals (try (simp only [p0,p1,ne_eq,gt_iff_lt,ge_iff_le,not_true_eq_false,not_false_eq_true,and_true,true_and,and_false,false_and,or_true,true_or,or_false,false_or,if_true,if_false] at h;clear p0 p1))
 all_goals (try (simp only [p0,ne_eq,gt_iff_lt,ge_iff_le,not_true_eq_false,not_false_eq_true,and_true,true_and,and_false,false_and,or_true,true_or,or_false,false_or,if_true,if_false] at h;clear p0))
 iterate 6 (all_goals (try (split at h<;>rename_i k<;>(first|(obtain ⟨_,_,_⟩:=ω;clear k)|have:=Ω))))
 all_goals (try (exfalso;omega))
 all_goals (try (have:=Az.m q0;clear q0))
 all_goals (try (have:=Az.m q1;clear q1))
 all_goals cases h
 all_goals (try (dsimp only at hxy hrange))
 all_goals (try (have EP:=Cy r1))
 all_goals (try (have EQ:=Cy r3))
 all_goals (go_enter Tryz.func84,Tryz.ntmps84;exact Θ5)):p:=h
end X85
open X85 in
theorem Wr (G:Good c tid) (hn:fs.length<900) {out:Out} {place:Int} (up:InU place) (hxy:Loc.tr f.r0≠Loc.tr place) (hrange:c.has (.tr place)=true) (h:Kg c s f fs f.r3 place=some out) (H:IT c tid A T B w0 fb cap s f fs w) :
  Calls Tryz.prog 84 #[.agg (rc A T fb fs.length),Φ 3,Γ place] w (RO c tid A T B w0 out):=Ξ
namespace X86
theorem κ {p:Prop} (h:p:=by with_reducible first|(exact Λ92)|(exact Λ90)|(exact Λ185)|(exact Λ171)|(exact Λ172)):p:=h
abbrev δ:List (Nat×Nat):=[(2,5),(4,5)]
abbrev νa:=3
abbrev τa:=116
theorem ξ {p:Prop} (h:p:=by
 all_goals ((by_cases q0:s.mm (.tr r0)=r1<;>(first|(have:=@id ((_:Bool)=true) q0)|(have:=As q0)|(have:=Aj q0)|(have:=Ca q0)|(have:=Bq q0)|(have:=Br q0)|(have:=Bg q0)|(have:=Du q0)|(have:=Dt q0)|(have:=Ds q0)))<;>(by_cases q1:s.mm (.tr place)=r5<;>(first|(have:=@id ((_:Bool)=true) q1)|(have:=As q1)|(have:=Aj q1)|(have:=Ca q1)|(have:=Bq q1)|(have:=Br q1)|(have:=Bg q1)|(have:=Du q1)|(have:=Dt q1)|(have:=Ds q1))))
 all_goals (simp only [Kg,Mg] at h)
 all_goals (first|(have p0:=eq_false q0)|(have p0:=eq_true q0)|skip)
 all_goals (first|(have p1:=eq_false q1)|(have p1:=eq_true q1)|skip)
 all_goals (try (simp only [p0,p1,ne_eq,gt_iff_lt,ge_iff_le,not_true_eq_false,not_false_eq_true,and_true,true_and,and_false,false_and,or_true,true_or,or_false,false_or,if_true,if_false] at h;clear p0 p1))
 all_goals (try (simp only [p0,ne_eq,gt_iff_lt,ge_iff_le,not_true_eq_false,not_false_eq_true,and_true,true_and,and_false,false_and,or_true,true_or,or_false,false_or,if_true,if_false] at h;clear p0))
 iterate 6 (all_goals (try (split at h<;>rename_i k<;>(first|(obtain ⟨_,_,_⟩:=ω;clear k)|have:=Ω))))
 all_goals (try (exfalso;omega))
 all_goals (try (have:=Az.m q0;clear q0))
 all_goals (try (have:=Az.m q1;clear q1))
 all_goals cases h
 all_goals (try (dsimp only at hxy hrange))
 all_goals (try (have EP:=Cy r1))
 all_goals (try (have EQ:=Cy r5))
 all_goals (go_enter Tryz.func84,Tryz.ntmps84;exact Θ5)):p:=h
end X86
open X86 in
theorem Wq (G:Good c tid) (hn:fs.length<900) {out:Out} {place:Int} (up:InU place) (hxy:Loc.tr f.r0≠Loc.tr place) (hrange:c.has (.tr place)=true) (h:Kg c s f fs f.r5 place=some out) (H:IT c tid A T B w0 fb cap s f fs w) :
  Calls Tryz.prog 84 #[.agg (rc A T fb fs.length),Φ 5,Γ place] w (RO c tid A T B w0 out):=Ξ
namespace X87
theorem κ {p:Prop} (h:p:=by with_reducible first|(exact Λ192)|(exact Λ92)|(exact Λ169)|(exact Λ190)|(exact Λ91)|(exact Λ173)|(go_at_call 85;exact Mo G Zo (by first|assumption|exact h) HI)):p:=h
abbrev δ:List (Nat×Nat):=[(4,11),(6,15),(12,5)]
abbrev νa:=1
abbrev τa:=116
theorem ξ {p:Prop} (h:p:=by
 dsimp only at hp
 rcases pc with _|_|_|pc
 all_goals (try (exfalso;omega))
 all_goals (clear hp)
 all_goals (simp only [Hl,Ao,call,ok,fin] at h)
 iterate 6 (all_goals (try (split at h<;>rename_i k<;>(first|(obtain ⟨_,_,_⟩:=ω;clear k)|have:=Ω))))
 all_goals cases h
 all_goals (try (obtain ⟨p,hp⟩:∃ p:Nat,p=pc+3:=⟨_,rfl⟩;rw [show pc+3=p from hp.symm] at H0;have d0:((p:Int)==0)=false:=Λ143;have d1:((p:Int)==1)=false:=Λ143;have d2:((p:Int)==2)=false:=Λ143;clear hp))
 all_goals (try (have q8:Qd r0 (s.mm (.gl 2))=true:=decide_eq_true Za))
 all_goals (try (have q8:Qd r0 (s.mm (.gl 2))=false:=decide_eq_false Za))
 all_goals (try (have X2:=Cw (c:=c) 2 Zd Zd))
 all_goals (go_enter Tryz.func86,Tryz.ntmps86;exact Θ5)):p:=h
end X87
open X87 in
theorem Wy (G:Good c tid) (hn:fs.length<900) {out:Out} (hp:f.pc<3) (h:Hl c s f fs=some out) (H:IT c tid A T B w0 fb cap s f fs w) :
  Calls Tryz.prog 86 #[.agg (rc A T fb fs.length)] w (RO c tid A T B w0 out):=Ξ
theorem mU {s:St} {f:Fr} {fs:List Fr} {out:Out} (hp:3≤f.pc) (hp1:f.pc<4) (h:Hl c s f fs=some out):Nv c s f fs=some out:=by
 obtain ⟨fn,pc,r0,r1,r2,r3,r4,r5,r6,r7,r8,r9⟩:=f
 dsimp only at hp hp1
 obtain rfl:pc=3:=Zo
 exact h
namespace X88
theorem κ {p:Prop} (h:p:=by with_reducible first|(exact Λ192)|(exact Λ92)|(exact Λ169)|(exact Λ190)|(exact Λ91)|(exact Λ173)|(go_at_call 85;exact Mo G Zo (mU hp0 hp1 h) HI)):p:=h
abbrev δ:List (Nat×Nat):=[(4,11),(6,15),(12,5)]
abbrev νa:=1
abbrev τa:=116
theorem ξ {p:Prop} (h:p:=by
 dsimp only at hp
 have hc:(3≤pc∧pc<4):=Zo
 rcases hc with ⟨hp0,hp1⟩
 all_goals (first|(have:=As (show ((pc:Nat):Int)=0 by omega))|(have:=Aj (show ¬ ((pc:Nat):Int)=0 by omega)))
 all_goals (first|(have:=As (show ((pc:Nat):Int)=1 by omega))|(have:=Aj (show ¬ ((pc:Nat):Int)=1 by omega)))
 all_goals (first|(have:=As (show ((pc:Nat):Int)=2 by omega))|(have:=Aj (show ¬ ((pc:Nat):Int)=2 by omega)))
 all_goals (first|(have:=As (show ((pc:Nat):Int)=3 by omega))|(have:=Aj (show ¬ ((pc:Nat):Int)=3 by omega)))
 all_goals (go_enter Tryz.func86,Tryz.ntmps86;exact Θ5)):p:=h
end X88
open X88 in
theorem Wx (G:Good c tid) (hn:fs.length<900) {out:Out} (hp:3≤f.pc∧f.pc<4) (h:Hl c s f fs=some out) (H:IT c tid A T B w0 fb cap s f fs w) :
  Calls Tryz.prog 86 #[.agg (rc A T fb fs.length)] w (RO c tid A T B w0 out):=Ξ
theorem gI (a:Addr) (w:World):(sameAddr a a).run Tryz.prog w=.ok true w:=by
 unfold sameAddr
 simp
theorem iQ (d:Nat) (a:Addr) (W:World):(Op.equalIn (d+1) 105 (.pointer (some a)) (.pointer (some a))).run Tryz.prog W=.ok true W:=by
 simp [Op.equalIn,run_underlying Tryz.underlying105,gI]
theorem kA (a:Addr) (W:World):(binOp .eql 105 (.pointer (some a)) (.pointer (some a))).run Tryz.prog W=.ok (.bool true) W:=by
 simp only [binOp]
 simp [Op.equal,Op.maxDepth,iQ 9999]
theorem nD {W:World} (h:Stays (Tv fb fs.length cap) (f::fs) W):W.cell? (Ψ fb (fs.length*12+1))=some (Φ (f.pc:Int)):=Hm h Zd
theorem Yl {s:St} {f:Fr} {fs:List Fr} {low place:Int} {out:Out} (h:Kg c s f fs low place=some out):c.has (.tr place)=true:=by
 unfold Kg Mg at h
 split at h<;>(split at h<;>first|(split at h<;>first|assumption|cases h)|cases h)
theorem aA (G:Good c tid) (hn:fs.length<900) {out:Out} (hp:f.pc<4) (h:Hl c s f fs=some out) (H:IT c tid A T B w0 fb cap s f fs w) :
  Calls Tryz.prog 86 #[.agg (rc A T fb fs.length)] w (RO c tid A T B w0 out):=by
 delta rc
 by_cases h3:f.pc<3
 .exact Wy G hn h3 h H
 .exact Wx G hn Zo h H
namespace X95
theorem κ {p:Prop} (h:p:=by with_reducible first|(exact Λ92)|(exact Λ169)|(exact Λ191)):p:=h
abbrev δ:List (Nat×Nat):=[(2,15)]
abbrev νa:=4
abbrev τa:=116
theorem ξ {p:Prop} (h:p:=by
 have EW:=Ak (x:=4) Zd Zd
 have EV:IntKind.i64.wrap ((3:Int)+1)=4:=Zd
 all_goals (go_enter Tryz.func83,Tryz.ntmps83;exact Θ5)):p:=h
end X95
open X95 in
theorem dS (G:Good c tid) (hn:fs.length<900) {place:Int} (ip:InU place) (hmk:mark s.ret0=false) (H:IT c tid A T B w0 fb cap s f fs w) :
  Calls Tryz.prog 83 #[.agg (rc A T fb fs.length),Φ 3,Φ 6,Γ place] w fun e w'=>e=.returned (.tuple #[])∧Ix c tid A T B w0 (Tv fb fs.length cap) s ({f with r3:=s.ret0,r4:=s.ret1,pc:=6}::fs) w':=Ξ
namespace X96
theorem κ {p:Prop} (h:p:=by with_reducible first|(exact Λ92)|(exact Λ169)|(exact Λ191)):p:=h
abbrev δ:List (Nat×Nat):=[(2,15)]
abbrev νa:=4
abbrev τa:=116
theorem ξ {p:Prop} (h:p:=by
 have EW:=Ak (x:=4) Zd Zd
 have EV:IntKind.i64.wrap ((3:Int)+1)=4:=Zd
 all_goals (go_enter Tryz.func83,Tryz.ntmps83;exact Θ5)):p:=h
end X96
open X96 in
theorem aH (G:Good c tid) (hn:fs.length<900) {place:Int} (ip:InU place) (hmk:mark s.ret0=true) (H:IT c tid A T B w0 fb cap s f fs w) :
  Calls Tryz.prog 83 #[.agg (rc A T fb fs.length),Φ 3,Φ 6,Γ place] w fun e w'=>e=.returned (.tuple #[])∧∃ fv',Ix c tid A T B w0 fv' s ({fn:=14,pc:=0,r0:=place}::{f with r3:=s.ret0,r4:=s.ret1,pc:=0}::fs) w'∧Stays (Tv fb fs.length cap) ({f with r3:=s.ret0,r4:=s.ret1,pc:=0}::fs) w':=Ξ
namespace X97
theorem κ {p:Prop} (h:p:=by with_reducible first|(exact Λ92)|(exact Λ169)|(exact Λ191)):p:=h
abbrev δ:List (Nat×Nat):=[(2,15)]
abbrev νa:=4
abbrev τa:=116
theorem ξ {p:Prop} (h:p:=by
 have EW:=Ak (x:=6) Zd Zd
 have EV:IntKind.i64.wrap ((5:Int)+1)=6:=Zd
 all_goals (go_enter Tryz.func83,Tryz.ntmps83;exact Θ5)):p:=h
end X97
open X97 in
theorem dR (G:Good c tid) (hn:fs.length<900) {place:Int} (ip:InU place) (hmk:mark s.ret0=false) (H:IT c tid A T B w0 fb cap s f fs w) :
  Calls Tryz.prog 83 #[.agg (rc A T fb fs.length),Φ 5,Φ 7,Γ place] w fun e w'=>e=.returned (.tuple #[])∧Ix c tid A T B w0 (Tv fb fs.length cap) s ({f with r5:=s.ret0,r6:=s.ret1,pc:=7}::fs) w':=Ξ
namespace X98
theorem κ {p:Prop} (h:p:=by with_reducible first|(exact Λ92)|(exact Λ169)|(exact Λ191)):p:=h
abbrev δ:List (Nat×Nat):=[(2,15)]
abbrev νa:=4
abbrev τa:=116
theorem ξ {p:Prop} (h:p:=by
 have EW:=Ak (x:=6) Zd Zd
 have EV:IntKind.i64.wrap ((5:Int)+1)=6:=Zd
 all_goals (go_enter Tryz.func83,Tryz.ntmps83;exact Θ5)):p:=h
end X98
open X98 in
theorem aG (G:Good c tid) (hn:fs.length<900) {place:Int} (ip:InU place) (hmk:mark s.ret0=true) (H:IT c tid A T B w0 fb cap s f fs w) :
  Calls Tryz.prog 83 #[.agg (rc A T fb fs.length),Φ 5,Φ 7,Γ place] w fun e w'=>e=.returned (.tuple #[])∧∃ fv',Ix c tid A T B w0 fv' s ({fn:=14,pc:=0,r0:=place}::{f with r5:=s.ret0,r6:=s.ret1,pc:=0}::fs) w'∧Stays (Tv fb fs.length cap) ({f with r5:=s.ret0,r6:=s.ret1,pc:=0}::fs) w':=Ξ
namespace X89
theorem κ {p:Prop} (h:p:=by with_reducible first|(go_at_call 201;exact wJ _ _ h1 h2 HI)):p:=h
abbrev νa:=2
abbrev τa:=114
theorem ξ {p:Prop} (h:p:=by
 dsimp only at h1 h2
 have E1:=Ak (x:=r5) Zo Zo
 have E2:=jM (l':=lv) h1 h2
 all_goals (go_enter Tryz.func142,Tryz.ntmps142;exact Θ5)):p:=h
end X89
open X89 in
theorem qY (G:Good c tid) (hn:fs.length<900) {lv:Int} (h1:1≤f.r5) (h2:f.r5≤1048576) (H:IT c tid A T B w0 fb cap s f fs w) :
  Calls Tryz.prog 142 #[.agg (rc A T fb fs.length),Φ lv] w fun e w'=>e=.returned (Γ (up f.r5 lv))∧Ix c tid A T B w0 (Tv fb fs.length cap) s (f::fs) w':=Ξ
namespace X90
theorem κ {p:Prop} (h:p:=by with_reducible first|(exact Λ188)):p:=h
abbrev νa:=2
abbrev τa:=114
theorem ξ {p:Prop} (h:p:=by
 all_goals (go_enter Tryz.func145,Tryz.ntmps145;exact Θ5)):p:=h
end X90
open X90 in
theorem gW (G:Good c tid) (hn:fs.length<900) (H:IT c tid A T B w0 fb cap s f fs w) :
  Calls Tryz.prog 145 #[.agg (rc A T fb fs.length),.bool true] w fun e w'=>e=.returned (.tuple #[])∧∃ fv',Ix c tid A T B w0 fv' s ({fn:=4,pc:=0}::{f with pc:=90,r7:=0,r8:=0,r9:=0}::fs) w'∧Stays (Tv fb fs.length cap) ({f with pc:=90,r7:=0,r8:=0,r9:=0}::fs) w':=Ξ
namespace X91
theorem κ {p:Prop} (h:p:=by with_reducible first|(exact Λ188)):p:=h
abbrev νa:=2
abbrev τa:=114
theorem ξ {p:Prop} (h:p:=by
 all_goals (go_enter Tryz.func145,Tryz.ntmps145;exact Θ5)):p:=h
end X91
open X91 in
theorem kT (G:Good c tid) (hn:fs.length<900) (H:IT c tid A T B w0 fb cap s f fs w) :
  Calls Tryz.prog 145 #[.agg (rc A T fb fs.length),.bool false] w fun e w'=>e=.returned (.tuple #[])∧Ix c tid A T B w0 (Tv fb fs.length cap) s ({f with r3:=0,pc:=4}::fs) w':=Ξ
namespace X105
theorem κ {p:Prop} (h:p:=by with_reducible first|(exact Λ182)):p:=h
abbrev νa:=4
abbrev τa:=118
theorem ξ {p:Prop} (h:p:=by
 subst hk hg
 all_goals (go_enter Tryz.func167,Tryz.ntmps167;exact Θ5)):p:=h
end X105
open X105 in
theorem cU (G:Good c tid) (hn:fs.length<900) (k g:Nat) {vk vg:Int} (hk:(k:Int)=vk) (hg:(g:Int)=vg) (hk1:k<100000) (hg1:g<1000) (H:IT c tid A T B w0 fb cap s f fs w) :
  Calls Tryz.prog 167 #[.agg (rc A T fb fs.length),Φ vk,Φ vg,.slice none 0 0] w fun e w'=>e=.returned (.tuple #[])∧∃ fv',Ix c tid A T B w0 fv' s ({fn:=g,pc:=0}::{f with pc:=k}::fs) w'∧Stays (Tv fb fs.length cap) ({f with pc:=k}::fs) w':=Ξ
namespace X106
theorem κ {p:Prop} (h:p:=by with_reducible first|(exact Λ183)):p:=h
abbrev νa:=4
abbrev τa:=118
theorem ξ {p:Prop} (h:p:=by
 subst hk hg
 have HG5:=Az.m hgl;clear hgl
 all_goals (go_enter Tryz.func167,Tryz.ntmps167;exact Θ9)):p:=h
end X106
open X106 in
theorem Pm (G:Good c tid) (hn:fs.length<900) (k g:Nat) {vk vg:Int} (hk:(k:Int)=vk) (hg:(g:Int)=vg) (hk1:k<100000) (hg1:g<1000) {gl:Nat} {v0:Int} (hgl:w.heap[gl]?=some (.cells #[Γ v0] 82 (0,0))) (i0:InU v0) (H:IT c tid A T B w0 fb cap s f fs w) :
  Calls Tryz.prog 167 #[.agg (rc A T fb fs.length),Φ vk,Φ vg,.slice (some (Ψ gl 0)) 1 1] w fun e w'=>e=.returned (.tuple #[])∧∃ fv',Ix c tid A T B w0 fv' s ({fn:=g,pc:=0,r0:=v0}::{f with pc:=k}::fs) w'∧Stays (Tv fb fs.length cap) ({f with pc:=k}::fs) w':=Ξ
namespace X107
theorem κ {p:Prop} (h:p:=by with_reducible first|(exact Λ184)):p:=h
abbrev νa:=4
abbrev τa:=118
theorem ξ {p:Prop} (h:p:=by
 subst hk hg
 have HG5:=Az.m hgl;clear hgl
 all_goals (go_enter Tryz.func167,Tryz.ntmps167;exact Θ9)):p:=h
end X107
open X107 in
theorem qJ (G:Good c tid) (hn:fs.length<900) (k g:Nat) {vk vg:Int} (hk:(k:Int)=vk) (hg:(g:Int)=vg) (hk1:k<100000) (hg1:g<1000) {gl:Nat} {v0 v1:Int} (hgl:w.heap[gl]?=some (.cells #[Γ v0,Γ v1] 82 (0,0))) (i0:InU v0) (i1:InU v1) (H:IT c tid A T B w0 fb cap s f fs w) :
  Calls Tryz.prog 167 #[.agg (rc A T fb fs.length),Φ vk,Φ vg,.slice (some (Ψ gl 0)) 2 2] w fun e w'=>e=.returned (.tuple #[])∧∃ fv',Ix c tid A T B w0 fv' s ({fn:=g,pc:=0,r0:=v0,r1:=v1}::{f with pc:=k}::fs) w'∧Stays (Tv fb fs.length cap) ({f with pc:=k}::fs) w':=Ξ
namespace X108
theorem κ {p:Prop} (h:p:=by with_reducible first|(exact Λ50)|(exact Λ89)):p:=h
abbrev νa:=3
abbrev τa:=118
theorem ξ {p:Prop} (h:p:=by
 have E0:=Fg G hx
 all_goals (go_enter Tryz.func171,Tryz.ntmps171;exact Θ5)):p:=h
end X108
open X108 in
theorem sat (G:Good c tid) (hn:fs.length<900) {v k:Int} (hx:c.has (.nd v k)=true) (H:IT c tid A T B w0 fb cap s f fs w) :
  Calls Tryz.prog 171 #[.agg (rc A T fb fs.length),Γ v,Φ k] w fun e w'=>e=.returned (Φ (c.addr (.nd v k)))∧Ix c tid A T B w0 (Tv fb fs.length cap) s (f::fs) w':=Ξ
namespace X109
theorem κ {p:Prop} (h:p:=by with_reducible first|(exact Λ69)):p:=h
abbrev νa:=3
abbrev τa:=118
theorem ξ {p:Prop} (h:p:=by
 have E0:=Ak (x:=r) hr.1 (by have:=hr.2;omega)
 have E2:=Ak (x:=5+r) (by have:=hr.1;omega) (by have:=hr.2;omega)
 all_goals (go_enter Tryz.func173,Tryz.ntmps173;exact Θ5)):p:=h
end X109
open X109 in
theorem tE (G:Good c tid) (hn:fs.length<900) {v r:Int} (hr:0≤r∧r<65536) (hx:c.has (.nd v (5+r))=true) (H:IT c tid A T B w0 fb cap s f fs w) :
  Calls Tryz.prog 173 #[.agg (rc A T fb fs.length),Γ v,Γ r] w fun e w'=>e=.returned (Φ (c.addr (.nd v (5+r))))∧Ix c tid A T B w0 (Tv fb fs.length cap) s (f::fs) w':=Ξ
namespace X110
theorem κ {p:Prop} (h:p:=by with_reducible first|(go_at_call 171;exact sat G Zo hx HI)):p:=h
abbrev νa:=3
abbrev τa:=118
theorem ξ {p:Prop} (h:p:=by
 all_goals (go_enter Tryz.func173,Tryz.ntmps173;exact Θ5)):p:=h
end X110
open X110 in
theorem qD (G:Good c tid) (hn:fs.length<900) {v:Int} (hx:c.has (.nd v 5)=true) (H:IT c tid A T B w0 fb cap s f fs w) :
  Calls Tryz.prog 173 #[.agg (rc A T fb fs.length),Γ v,Γ 0] w fun e w'=>e=.returned (Φ (c.addr (.nd v 5)))∧Ix c tid A T B w0 (Tv fb fs.length cap) s (f::fs) w':=Ξ
namespace X111
theorem κ {p:Prop} (h:p:=by with_reducible first|(exact Λ171)|(exact Λ56)):p:=h
abbrev δ:List (Nat×Nat):=[(1,5)]
abbrev νa:=4
abbrev τa:=118
theorem ξ {p:Prop} (h:p:=by
 all_goals (go_enter Tryz.func174,Tryz.ntmps174;exact Θ5)):p:=h
end X111
open X111 in
theorem cK (G:Good c tid) (hn:fs.length<900) {x:Loc} {v q:Int} (uv:InU v) (hx:c.has x=true) (ho:Az (s.mm x=v)) (H:IT c tid A T B w0 fb cap s f fs w) :
  Calls Tryz.prog 174 #[.agg (rc A T fb fs.length),Φ (c.addr x),Γ v,Γ q] w fun e w'=>e=.returned (.bool true)∧Ix c tid A T B w0 (Tv fb fs.length cap) (s.put x (next v q false)) (f::fs) w':=Ξ
namespace X112
theorem κ {p:Prop} (h:p:=by with_reducible first|(exact Λ171)|(exact Λ57)):p:=h
abbrev δ:List (Nat×Nat):=[(1,5)]
abbrev νa:=4
abbrev τa:=118
theorem ξ {p:Prop} (h:p:=by
 all_goals (go_enter Tryz.func174,Tryz.ntmps174;exact Θ5)):p:=h
end X112
open X112 in
theorem Yn (G:Good c tid) (hn:fs.length<900) {x:Loc} {v q:Int} (uv:InU v) (hx:c.has x=true) (ho:Az (¬ s.mm x=v)) (H:IT c tid A T B w0 fb cap s f fs w) :
  Calls Tryz.prog 174 #[.agg (rc A T fb fs.length),Φ (c.addr x),Γ v,Γ q] w fun e w'=>e=.returned (.bool false)∧Ix c tid A T B w0 (Tv fb fs.length cap) s (f::fs) w':=Ξ
namespace X113
theorem κ {p:Prop} (h:p:=by with_reducible first|(go_at_call 167;exact cU G Zo 90 4 Zd Zd Zd Zd HI)):p:=h
abbrev δ:List (Nat×Nat):=[(1,15)]
abbrev νa:=4
abbrev τa:=118
theorem ξ {p:Prop} (h:p:=by
 all_goals (go_enter Tryz.func168,Tryz.ntmps168;exact Θ5)):p:=h
end X113
open X113 in
theorem vP (G:Good c tid) (hn:fs.length<900) {v0 v1 v2:Int} (i0:InU v0) (i1:InU v1) (i2:InU v2) (H:IT c tid A T B w0 fb cap s f fs w) :
  Calls Tryz.prog 168 #[.agg (rc A T fb fs.length),Γ v0,Γ v1,Γ v2] w fun e w'=>e=.returned (.tuple #[])∧∃ fv',Ix c tid A T B w0 fv' s ({fn:=4,pc:=0}::{f with pc:=90,r7:=v0,r8:=v1,r9:=v2}::fs) w'∧Stays (Tv fb fs.length cap) ({f with pc:=90,r7:=v0,r8:=v1,r9:=v2}::fs) w':=Ξ
namespace X114
theorem κ {p:Prop} (h:p:=by with_reducible first|(exact Λ69)|(exact Λ165)|(go_at_call 172;exact sD (cF _) (cG _) HI)):p:=h
abbrev δ:List (Nat×Nat):=[(5,5),(7,5),(9,5),(11,5),(13,5)]
abbrev νa:=1
abbrev τa:=120
theorem ξ {p:Prop} (h:p:=by
 dsimp only at hp0 hp1
 rcases pc with _|_|_|_|_|_|_|_|pc
 all_goals (try (exfalso;omega))
 all_goals (clear hp0 hp1)
 all_goals (simp only [Fs,Ey,Ao,Lu,call,ok,fin] at h)
 iterate 6 (all_goals (try (split at h<;>rename_i k<;>(first|(obtain ⟨_,_,_⟩:=ω;clear k)|have:=Ω))))
 all_goals cases h
 all_goals (try (obtain ⟨p,hp⟩:∃ p:Nat,p=pc+8:=⟨_,rfl⟩;rw [show pc+8=p from hp.symm] at H0;have d0:((p:Int)==0)=false:=Λ143;have d1:((p:Int)==1)=false:=Λ143;have d2:((p:Int)==2)=false:=Λ143;have d3:((p:Int)==3)=false:=Λ143;have d4:((p:Int)==4)=false:=Λ143;have d5:((p:Int)==5)=false:=Λ143;have d6:((p:Int)==6)=false:=Λ143;have d7:((p:Int)==7)=false:=Λ143;clear hp))
 all_goals (go_enter Tryz.func94,Tryz.ntmps94;exact Θ5)):p:=h
end X114
open X114 in
theorem cO (G:Good c tid) (hn:fs.length<900) {out:Out} (hp0:3≤f.pc) (hp1:f.pc<8) (h:Fs c s f fs=some out) (H:IT c tid A T B w0 fb cap s f fs w) :
  Calls Tryz.prog 94 #[.agg (rc A T fb fs.length)] w (RO c tid A T B w0 out):=Ξ
namespace X115
theorem κ {p:Prop} (h:p:=by with_reducible first|(go_at_call 167;exact Pm G Λ40 9 20 Zd Zd Zd Zd Λ157 Λ36 HI)|(exact Λ176)|(exact Λ91)|(go_at_call 148;exact eT Λ34 HI)|(exact Λ165)|(exact Λ177)):p:=h
abbrev δ:List (Nat×Nat):=[(2,18),(11,18),(14,18),(19,18),(6,11),(8,17),(12,7)]
theorem ρ:True:=trivial
abbrev νa:=1
abbrev τa:=120
theorem ξ {p:Prop} (h:p:=by
 dsimp only at hp0 hp1
 rcases pc with _|_|_|_|_|_|_|_|_|_|_|_|pc
 all_goals (try (exfalso;omega))
 all_goals (clear hp0 hp1)
 all_goals (simp only [Fs,Ey,Ao,Lu,call,ok,fin] at h)
 iterate 6 (all_goals (try (split at h<;>rename_i k<;>(first|(obtain ⟨_,_,_⟩:=ω;clear k)|have:=Ω))))
 all_goals cases h
 all_goals (try (obtain ⟨p,hp⟩:∃ p:Nat,p=pc+12:=⟨_,rfl⟩;rw [show pc+12=p from hp.symm] at H0;have d0:((p:Int)==0)=false:=Λ143;have d1:((p:Int)==1)=false:=Λ143;have d2:((p:Int)==2)=false:=Λ143;have d3:((p:Int)==3)=false:=Λ143;have d4:((p:Int)==4)=false:=Λ143;have d5:((p:Int)==5)=false:=Λ143;have d6:((p:Int)==6)=false:=Λ143;have d7:((p:Int)==7)=false:=Λ143;have d8:((p:Int)==8)=false:=Λ143;have d9:((p:Int)==9)=false:=Λ143;have d10:((p:Int)==10)=false:=Λ143;have d11:((p:Int)==11)=false:=Λ143;clear hp))
 all_goals (try (have R0:=Az.m (Gx (c:=c) (i:=r5) Za);have RI:=Jp G (i:=r5) Za))
 all_goals (try (have RJ:=Mp G))
 all_goals (try (have RR:=Cv G u5 (n:=r2) Za))
 all_goals (try (have RO:=Hj G u5 (n:=r2) Za))
 all_goals (try (have RR:=Cv G u5 (n:=r2) Za;have ui:=InU.inc1 RR.1 RR.2;have E5:=Ak (x:=r5+1) Zo Zo))
 all_goals (go_enter Tryz.func95,Tryz.ntmps95;exact Θ5)):p:=h
end X115
open X115 in
theorem Vz (G:Good c tid) (hn:fs.length<900) {out:Out} (hp0:8≤f.pc) (hp1:f.pc<12) (h:Fs c s f fs=some out) (H:IT c tid A T B w0 fb cap s f fs w) :
  Calls Tryz.prog 95 #[.agg (rc A T fb fs.length)] w (RO c tid A T B w0 out):=Ξ
namespace X116
theorem κ {p:Prop} (h:p:=by with_reducible first|(exact Λ176)|(exact Λ91)|(go_at_call 175;exact fV Λ34 HI)|(exact Λ178)|(exact Λ177)|(go_at_call 167;exact Pm G Λ40 12 20 Zd Zd Zd Zd Λ157 Λ36 HI)):p:=h
abbrev δ:List (Nat×Nat):=[(2,18),(11,18),(14,18),(17,18),(7,17),(18,7),(20,11)]
theorem ρ:True:=trivial
abbrev νa:=1
abbrev τa:=120
theorem ξ {p:Prop} (h:p:=by
 dsimp only at hp0 hp1
 rcases pc with _|_|_|_|_|_|_|_|_|_|_|_|_|_|_|pc
 all_goals (try (exfalso;omega))
 all_goals (clear hp0 hp1)
 all_goals (simp only [Fs,Ey,Ao,Lu,call,ok,fin] at h)
 iterate 6 (all_goals (try (split at h<;>rename_i k<;>(first|(obtain ⟨_,_,_⟩:=ω;clear k)|have:=Ω))))
 all_goals cases h
 all_goals (try (obtain ⟨p,hp⟩:∃ p:Nat,p=pc+15:=⟨_,rfl⟩;rw [show pc+15=p from hp.symm] at H0;have d0:((p:Int)==0)=false:=Λ143;have d1:((p:Int)==1)=false:=Λ143;have d2:((p:Int)==2)=false:=Λ143;have d3:((p:Int)==3)=false:=Λ143;have d4:((p:Int)==4)=false:=Λ143;have d5:((p:Int)==5)=false:=Λ143;have d6:((p:Int)==6)=false:=Λ143;have d7:((p:Int)==7)=false:=Λ143;have d8:((p:Int)==8)=false:=Λ143;have d9:((p:Int)==9)=false:=Λ143;have d10:((p:Int)==10)=false:=Λ143;have d11:((p:Int)==11)=false:=Λ143;have d12:((p:Int)==12)=false:=Λ143;have d13:((p:Int)==13)=false:=Λ143;have d14:((p:Int)==14)=false:=Λ143;clear hp))
 all_goals (try (have R0:=Az.m (Gx (c:=c) (i:=r5) Za);have RI:=Jp G (i:=r5) Za))
 all_goals (try (have RJ:=Mp G))
 all_goals (try (have RR:=Cv G u5 (n:=r2) Za))
 all_goals (try (have RO:=Hj G u5 (n:=r2) Za))
 all_goals (try (have RR:=Cv G u5 (n:=s.pred r5) Za))
 all_goals (try (have RR:=(Gx (c:=c) (i:=r5) Za);have:=G.lv;have ui:=InU.inc1 RR.1 Zo;have E5:=Ak (x:=r5+1) Zo Zo))
 all_goals (go_enter Tryz.func96,Tryz.ntmps96;exact Θ5)):p:=h
end X116
open X116 in
theorem Wa (G:Good c tid) (hn:fs.length<900) {out:Out} (hp0:12≤f.pc) (hp1:f.pc<15) (h:Fs c s f fs=some out) (H:IT c tid A T B w0 fb cap s f fs w) :
  Calls Tryz.prog 96 #[.agg (rc A T fb fs.length)] w (RO c tid A T B w0 out):=Ξ
namespace X117
theorem κ {p:Prop} (h:p:=by with_reducible first|(exact Λ69)|(exact Λ49)):p:=h
abbrev δ:List (Nat×Nat):=[(1,5)]
abbrev νa:=2
abbrev τa:=118
theorem ξ {p:Prop} (h:p:=by
 have q1:=As hv.out
 all_goals (go_enter Tryz.func177,Tryz.ntmps177;exact Θ5)):p:=h
end X117
open X117 in
theorem cS (G:Good c tid) (hn:fs.length<900) {v:Int} (hx:c.has (.nd v 2)=true) (hv:Az (s.mm (.nd v 2)=1)) (H:IT c tid A T B w0 fb cap s f fs w) :
  Calls Tryz.prog 177 #[.agg (rc A T fb fs.length),Γ v] w fun e w'=>e=.returned (.bool true)∧Ix c tid A T B w0 (Tv fb fs.length cap) (s.put (.nd v 2) (u64 (s.mm (.nd v 2)-1))) (f::fs) w':=Ξ
namespace X118
theorem κ {p:Prop} (h:p:=by with_reducible first|(exact Λ69)|(exact Λ49)):p:=h
abbrev δ:List (Nat×Nat):=[(1,5)]
abbrev νa:=2
abbrev τa:=118
theorem ξ {p:Prop} (h:p:=by
 have q1:=Aj hv.out
 all_goals (go_enter Tryz.func177,Tryz.ntmps177;exact Θ5)):p:=h
end X118
open X118 in
theorem cR (G:Good c tid) (hn:fs.length<900) {v:Int} (hx:c.has (.nd v 2)=true) (hv:Az (¬ s.mm (.nd v 2)=1)) (H:IT c tid A T B w0 fb cap s f fs w) :
  Calls Tryz.prog 177 #[.agg (rc A T fb fs.length),Γ v] w fun e w'=>e=.returned (.bool false)∧Ix c tid A T B w0 (Tv fb fs.length cap) (s.put (.nd v 2) (u64 (s.mm (.nd v 2)-1))) (f::fs) w':=Ξ
namespace X119
theorem κ {p:Prop} (h:p:=by with_reducible first|(exact Λ179)|(go_at_call 167;first|exact Pm G Λ40 17 20 Zd Zd Zd Zd Λ157 Λ36 HI|exact Pm G Λ40 16 5 Zd Zd Zd Zd Λ157 Λ36 HI)|(exact Λ175)):p:=h
abbrev δ:List (Nat×Nat):=[(5,5),(6,11),(9,11)]
abbrev νa:=1
abbrev τa:=120
theorem ξ {p:Prop} (h:p:=by
 dsimp only at hp0
 rcases pc with _|_|_|_|_|_|_|_|_|_|_|_|_|_|_|_|_|_|pc
 all_goals (try (exfalso;omega))
 all_goals (clear hp0)
 all_goals (simp only [Fs,Ey,Ao,Lu,call,ok,fin,Ml] at h)
 iterate 6 (all_goals (try (split at h<;>rename_i k<;>(first|(obtain ⟨_,_,_⟩:=ω;clear k)|have:=Ω))))
 all_goals cases h
 all_goals (try (obtain ⟨p,hp⟩:∃ p:Nat,p=pc+18:=⟨_,rfl⟩;rw [show pc+18=p from hp.symm] at H0;have d0:((p:Int)==0)=false:=Λ143;have d1:((p:Int)==1)=false:=Λ143;have d2:((p:Int)==2)=false:=Λ143;have d3:((p:Int)==3)=false:=Λ143;have d4:((p:Int)==4)=false:=Λ143;have d5:((p:Int)==5)=false:=Λ143;have d6:((p:Int)==6)=false:=Λ143;have d7:((p:Int)==7)=false:=Λ143;have d8:((p:Int)==8)=false:=Λ143;have d9:((p:Int)==9)=false:=Λ143;have d10:((p:Int)==10)=false:=Λ143;have d11:((p:Int)==11)=false:=Λ143;have d12:((p:Int)==12)=false:=Λ143;have d13:((p:Int)==13)=false:=Λ143;have d14:((p:Int)==14)=false:=Λ143;have d15:((p:Int)==15)=false:=Λ143;have d16:((p:Int)==16)=false:=Λ143;have d17:((p:Int)==17)=false:=Λ143;clear hp))
 all_goals (go_enter Tryz.func97,Tryz.ntmps97;exact Θ5)):p:=h
end X119
open X119 in
theorem Vw (G:Good c tid) (hn:fs.length<900) {out:Out} (hp0:15≤f.pc) (h:Fs c s f fs=some out) (H:IT c tid A T B w0 fb cap s f fs w) :
  Calls Tryz.prog 97 #[.agg (rc A T fb fs.length)] w (RO c tid A T B w0 out):=Ξ
namespace X120
theorem κ {p:Prop} (h:p:=by with_reducible first|(go_at_call 194;exact pL HI)|(go_at_call 218;exact vJ HI)|(exact Λ175)):p:=h
abbrev δ:List (Nat×Nat):=[(1,11)]
abbrev νa:=1
abbrev τa:=121
theorem ξ {p:Prop} (h:p:=by
 all_goals (go_enter Tryz.func179,Tryz.ntmps179;exact Θ5)):p:=h
end X120
open X120 in
theorem tD (G:Good c tid) (hn:fs.length<900) (H:IT c tid A T B w0 fb cap s f fs w) :
  Calls Tryz.prog 179 #[.agg (rc A T fb fs.length)] w fun e w'=>e=.returned (.tuple #[])∧∃ fv',Ix c tid A T B w0 fv' s ({fn:=4,pc:=0}::{f with pc:=90,r7:=2,r8:=f.r2 / 4294967296 % 4294967296,r9:=f.r3 / 2 % 4294967296}::fs) w'∧Stays (Tv fb fs.length cap) ({f with pc:=90,r7:=2,r8:=f.r2 / 4294967296 % 4294967296,r9:=f.r3 / 2 % 4294967296}::fs) w':=Ξ
namespace X121
theorem κ {p:Prop} (h:p:=by with_reducible first|(exact Λ50)|(go_at_call 153;exact Xz HI)|(exact Λ176)|(go_at_call 167;exact qJ G Λ40 1 3 Zd Zd Zd Zd Λ157 Λ36 Λ36 HI)|(exact Λ178)|(exact Λ175)|(exact Λ69)|(exact Λ91)|(go_at_call 178;exact sN Λ34 HI)|(exact Λ70)):p:=h
abbrev δ:List (Nat×Nat):=[(5,38),(7,52),(12,34),(17,22)]
abbrev νa:=1
abbrev τa:=121
theorem ξ {p:Prop} (h:p:=by
 dsimp only at hp0 hp1
 rcases pc with _|_|_|_|pc
 all_goals (try (exfalso;omega))
 all_goals (clear hp0 hp1)
 case' succ.succ.succ.zero=>(by_cases q0:(fn:Int)=23<;>(first|(have:=@id ((_:Bool)=true) q0)|(have:=As q0)|(have:=Aj q0)|(have:=Ca q0)|(have:=Bq q0)|(have:=Br q0)|(have:=Bg q0)|(have:=Du q0)|(have:=Dt q0)|(have:=Ds q0)))
 all_goals (simp only [Ey,Ao,call,ok,fin,Ux] at h)
 all_goals (first|(have p0:=eq_false q0)|(have p0:=eq_true q0)|skip)
 all_goals (try (simp only [p0,ne_eq,gt_iff_lt,ge_iff_le,not_true_eq_false,not_false_eq_true,and_true,true_and,and_false,false_and,or_true,true_or,or_false,false_or,if_true,if_false] at h;clear p0))
 iterate 6 (all_goals (try (split at h<;>rename_i k<;>(first|(obtain ⟨_,_,_⟩:=ω;clear k)|have:=Ω))))
 all_goals (try (exfalso;omega))
 all_goals (try (have:=Az.m q0;clear q0))
 all_goals cases h
 all_goals (try (obtain ⟨p,hp⟩:∃ p:Nat,p=pc+4:=⟨_,rfl⟩;rw [show pc+4=p from hp.symm] at H0;have d0:((p:Int)==0)=false:=Λ143;have d1:((p:Int)==1)=false:=Λ143;have d2:((p:Int)==2)=false:=Λ143;have d3:((p:Int)==3)=false:=Λ143;clear hp))
 all_goals (try (have q9:=As (show (fn:Int)=23 by omega)))
 all_goals (try (have q9:=Aj (show ¬ (fn:Int)=23 by omega)))
 all_goals (try (have RS:=jW G))
 all_goals (try (have E1:=Md G (x:=.nd 1 5) Za))
 all_goals (try (have EP:=Cy s.ret0))
 all_goals (go_enter Tryz.func98,Tryz.ntmps98;exact Θ5)):p:=h
end X121
open X121 in
theorem Yr (G:Good c tid) (hn:fs.length<900) {out:Out} (hp0:0≤f.pc) (hp1:f.pc<4) (h:Ey c s f fs=some out) (H:IT c tid A T B w0 fb cap s f fs w) :
  Calls Tryz.prog 98 #[.agg (rc A T fb fs.length)] w (RO c tid A T B w0 out):=Ξ
namespace X122
theorem κ {p:Prop} (h:p:=by with_reducible first|(exact Λ69)|(go_at_call 180;exact sO Λ34 HI)|(exact Λ167)|(exact Λ165)|(exact Λ91)):p:=h
abbrev δ:List (Nat×Nat):=[(5,5),(9,5),(12,9)]
abbrev νa:=1
abbrev τa:=121
theorem ξ {p:Prop} (h:p:=by
 dsimp only at hp0 hp1
 rcases pc with _|_|_|_|_|_|_|pc
 all_goals (try (exfalso;omega))
 all_goals (clear hp0 hp1)
 all_goals (simp only [Ey,Ao,call,ok,fin,Ux] at h)
 iterate 6 (all_goals (try (split at h<;>rename_i k<;>(first|(obtain ⟨_,_,_⟩:=ω;clear k)|have:=Ω))))
 all_goals cases h
 all_goals (try (obtain ⟨p,hp⟩:∃ p:Nat,p=pc+7:=⟨_,rfl⟩;rw [show pc+7=p from hp.symm] at H0;have d0:((p:Int)==0)=false:=Λ143;have d1:((p:Int)==1)=false:=Λ143;have d2:((p:Int)==2)=false:=Λ143;have d3:((p:Int)==3)=false:=Λ143;have d4:((p:Int)==4)=false:=Λ143;have d5:((p:Int)==5)=false:=Λ143;have d6:((p:Int)==6)=false:=Λ143;clear hp))
 all_goals (go_enter Tryz.func99,Tryz.ntmps99;exact Θ5)):p:=h
end X122
open X122 in
theorem Yu (G:Good c tid) (hn:fs.length<900) {out:Out} (hp0:4≤f.pc) (hp1:f.pc<7) (h:Ey c s f fs=some out) (H:IT c tid A T B w0 fb cap s f fs w) :
  Calls Tryz.prog 99 #[.agg (rc A T fb fs.length)] w (RO c tid A T B w0 out):=Ξ
namespace X123
theorem κ {p:Prop} (h:p:=by with_reducible first|(exact Λ176)|(exact Λ91)|(go_at_call 175;exact fV Λ34 HI)|(go_at_call 181;exact mN Λ34 HI)|(exact Λ167)):p:=h
abbrev δ:List (Nat×Nat):=[(8,40),(11,7),(16,7),(15,5)]
abbrev νa:=1
abbrev τa:=121
theorem ξ {p:Prop} (h:p:=by
 dsimp only at hp0 hp1
 rcases pc with _|_|_|_|_|_|_|_|_|pc
 all_goals (try (exfalso;omega))
 all_goals (clear hp0 hp1)
 all_goals (simp only [Ey,Ao,call,ok,fin,Ux] at h)
 iterate 6 (all_goals (try (split at h<;>rename_i k<;>(first|(obtain ⟨_,_,_⟩:=ω;clear k)|have:=Ω))))
 all_goals cases h
 all_goals (try (obtain ⟨p,hp⟩:∃ p:Nat,p=pc+9:=⟨_,rfl⟩;rw [show pc+9=p from hp.symm] at H0;have d0:((p:Int)==0)=false:=Λ143;have d1:((p:Int)==1)=false:=Λ143;have d2:((p:Int)==2)=false:=Λ143;have d3:((p:Int)==3)=false:=Λ143;have d4:((p:Int)==4)=false:=Λ143;have d5:((p:Int)==5)=false:=Λ143;have d6:((p:Int)==6)=false:=Λ143;have d7:((p:Int)==7)=false:=Λ143;have d8:((p:Int)==8)=false:=Λ143;clear hp))
 all_goals (try (have E4:=Ak (x:=r4-1) (by have:=u4.1;omega) (by have:=u4.2;have:=Xe G u4 (n:=r1) Za;omega)))
 all_goals (try (have XM:=nQ (n:=r1) (r:=r4) (c:=c) Za))
 all_goals (try (have X5:5+(r4-1)=4+r4:=by omega))
 all_goals (try (have RM:=Xe G u4 (n:=r1) Za))
 all_goals (try (have RR:0≤r4-1∧r4-1<65536:=by have:=Xe G u4 (n:=r1) Za;have:=u4.1;omega))
 all_goals (try (have um:=InU.dec1 u4 (by have:=u4.1;omega)))
 all_goals (go_enter Tryz.func100,Tryz.ntmps100;exact Θ5)):p:=h
end X123
open X123 in
theorem Yq (G:Good c tid) (hn:fs.length<900) {out:Out} (hp0:7≤f.pc) (hp1:f.pc<9) (h:Ey c s f fs=some out) (H:IT c tid A T B w0 fb cap s f fs w) :
  Calls Tryz.prog 100 #[.agg (rc A T fb fs.length)] w (RO c tid A T B w0 out):=Ξ
namespace X124
theorem κ {p:Prop} (h:p:=by with_reducible first|(exact Λ176)|(exact Λ91)|(exact Λ178)|(exact Λ177)|(exact Λ179)|(go_at_call 167;first|exact Pm G Λ40 12 20 Zd Zd Zd Zd Λ157 Λ36 HI|exact Pm G Λ40 13 5 Zd Zd Zd Zd Λ157 Λ36 HI)|(exact Λ70)):p:=h
abbrev δ:List (Nat×Nat):=[(5,40),(8,5),(11,5),(12,11),(15,11)]
abbrev νa:=1
abbrev τa:=121
theorem ξ {p:Prop} (h:p:=by
 dsimp only at hp0
 rcases pc with _|_|_|_|_|_|_|_|_|_|_|_|_|_|pc
 all_goals (try (exfalso;omega))
 all_goals (clear hp0)
 all_goals (simp only [Ey,Ao,call,ok,fin,Ux,Ml] at h)
 iterate 6 (all_goals (try (split at h<;>rename_i k<;>(first|(obtain ⟨_,_,_⟩:=ω;clear k)|have:=Ω))))
 all_goals cases h
 all_goals (try (obtain ⟨p,hp⟩:∃ p:Nat,p=pc+14:=⟨_,rfl⟩;rw [show pc+14=p from hp.symm] at H0;have d0:((p:Int)==0)=false:=Λ143;have d1:((p:Int)==1)=false:=Λ143;have d2:((p:Int)==2)=false:=Λ143;have d3:((p:Int)==3)=false:=Λ143;have d4:((p:Int)==4)=false:=Λ143;have d5:((p:Int)==5)=false:=Λ143;have d6:((p:Int)==6)=false:=Λ143;have d7:((p:Int)==7)=false:=Λ143;have d8:((p:Int)==8)=false:=Λ143;have d9:((p:Int)==9)=false:=Λ143;have d10:((p:Int)==10)=false:=Λ143;have d11:((p:Int)==11)=false:=Λ143;have d12:((p:Int)==12)=false:=Λ143;have d13:((p:Int)==13)=false:=Λ143;clear hp))
 all_goals (go_enter Tryz.func101,Tryz.ntmps101;exact Θ5)):p:=h
end X124
open X124 in
theorem Ys (G:Good c tid) (hn:fs.length<900) {out:Out} (hp0:9≤f.pc) (h:Ey c s f fs=some out) (H:IT c tid A T B w0 fb cap s f fs w) :
  Calls Tryz.prog 101 #[.agg (rc A T fb fs.length)] w (RO c tid A T B w0 out):=Ξ
namespace X125
theorem κ {p:Prop} (h:p:=by with_reducible first|(go_at_call 167;first|exact cU G Λ40 1 1 Zd Zd Zd Zd HI|exact cU G Λ40 0 6 Zd Zd Zd Zd HI)|(exact Λ54)|(exact Λ175)|(exact Λ49)|(exact Λ67)|(exact Λ55)|(exact Λ50)|(exact Λ86)|(exact Λ68)):p:=h
abbrev δ:List (Nat×Nat):=[(6,33),(14,9),(15,34)]
abbrev νa:=1
abbrev τa:=120
theorem ξ {p:Prop} (h:p:=by
 dsimp only at hp0 hp1
 rcases pc with _|_|_|pc
 all_goals (try (exfalso;omega))
 all_goals (clear hp0 hp1)
 case' succ.zero=>(by_cases q0:s.ret0=0<;>(first|(have:=@id ((_:Bool)=true) q0)|(have:=As q0)|(have:=Aj q0)|(have:=Ca q0)|(have:=Bq q0)|(have:=Br q0)|(have:=Bg q0)|(have:=Du q0)|(have:=Dt q0)|(have:=Ds q0)))<;>(by_cases q1:r5=0<;>(first|(have:=@id ((_:Bool)=true) q1)|(have:=As q1)|(have:=Aj q1)|(have:=Ca q1)|(have:=Bq q1)|(have:=Br q1)|(have:=Bg q1)|(have:=Du q1)|(have:=Dt q1)|(have:=Ds q1)))<;>(by_cases q2:0<s.rt.length<;>(first|(have:=@id ((_:Bool)=true) q2)|(have:=As q2)|(have:=Aj q2)|(have:=Ca q2)|(have:=Bq q2)|(have:=Br q2)|(have:=Bg q2)|(have:=Du q2)|(have:=Dt q2)|(have:=Ds q2)))
 all_goals (simp only [Kx,Ao,call,ok,fin] at h)
 all_goals (first|(have p0:=eq_false q0)|(have p0:=eq_true q0)|skip)
 all_goals (first|(have p1:=eq_false q1)|(have p1:=eq_true q1)|skip)
 all_goals (first|(have p2:=eq_false q2)|(have p2:=eq_true q2)|skip)
 all_goals (try (simp only [p0,p1,p2,ne_eq,gt_iff_lt,ge_iff_le,not_true_eq_false,not_false_eq_true,and_true,true_and,and_false,false_and,or_true,true_or,or_false,false_or,if_true,if_false] at h;clear p0 p1 p2))
 all_goals (try (simp only [p0,p1,ne_eq,gt_iff_lt,ge_iff_le,not_true_eq_false,not_false_eq_true,and_true,true_and,and_false,false_and,or_true,true_or,or_false,false_or,if_true,if_false] at h;clear p0 p1))
 all_goals (try (simp only [p0,ne_eq,gt_iff_lt,ge_iff_le,not_true_eq_false,not_false_eq_true,and_true,true_and,and_false,false_and,or_true,true_or,or_false,false_or,if_true,if_false] at h;clear p0))
 iterate 6 (all_goals (try (split at h<;>rename_i k<;>(first|(obtain ⟨_,_,_⟩:=ω;clear k)|have:=Ω))))
 all_goals (try (exfalso;omega))
 all_goals (try (have:=Az.m q0;clear q0))
 all_goals (try (have:=Az.m q1;clear q1))
 all_goals (try (have:=Az.m q2;clear q2))
 all_goals cases h
 all_goals (try (obtain ⟨p,hp⟩:∃ p:Nat,p=pc+3:=⟨_,rfl⟩;rw [show pc+3=p from hp.symm] at H0;have d0:((p:Int)==0)=false:=Λ143;have d1:((p:Int)==1)=false:=Λ143;have d2:((p:Int)==2)=false:=Λ143;clear hp))
 all_goals (try (have hu:s.us<1000000:=Zo;have hu2:(s.put (.gl 3) (u64 (s.mm (.gl 3)+1))).us<1000000:=hu))
 all_goals (try (have EL:=aQ G))
 all_goals (go_enter Tryz.func93,Tryz.ntmps93;exact Θ5)):p:=h
end X125
open X125 in
theorem Ym (G:Good c tid) (hn:fs.length<900) {out:Out} (hp0:0≤f.pc) (hp1:f.pc<3) (h:Kx c s f fs=some out) (H:IT c tid A T B w0 fb cap s f fs w) :
  Calls Tryz.prog 93 #[.agg (rc A T fb fs.length)] w (RO c tid A T B w0 out):=Ξ
theorem jT {s:St} {f:Fr} {fs:List Fr} {out:Out} (hp:f.pc<3) (h:Fs c s f fs=some out):Kx c s f fs=some out:=by
 obtain ⟨fn,pc,r0,r1,r2,r3,r4,r5,r6,r7,r8,r9⟩:=f
 dsimp only at hp
 rcases pc with _|_|_|pc
 .exact h
 .exact h
 .exact h
 .omega
namespace X126
theorem κ {p:Prop} (h:p:=by with_reducible first|(go_at_call 93;exact Ym G Zo hp0 hp1 (jT hp1 h) HI)|(go_at_call 94;exact cO G Zo hp0 hp1 h HI)|(go_at_call 95;exact Vz G Zo hp0 hp1 h HI)|(go_at_call 96;exact Wa G Zo hp0 hp1 h HI)|(go_at_call 97;exact Vw G Zo hp0 h HI)):p:=h
abbrev νa:=1
abbrev τa:=120
theorem ξ {p:Prop} (h:p:=by
 have hc:(0≤pc∧pc<3)∨(3≤pc∧pc<8)∨(8≤pc∧pc<12)∨(12≤pc∧pc<15)∨15≤pc:=Zo
 rcases hc with ⟨hp0,hp1⟩|⟨hp0,hp1⟩|⟨hp0,hp1⟩|⟨hp0,hp1⟩|hp0
 all_goals (first|(have:=Br (show ((pc:Nat):Int)≤2 by omega))|(have:=Bg (show ¬ ((pc:Nat):Int)≤2 by omega)))
 all_goals (first|(have:=Br (show ((pc:Nat):Int)≤7 by omega))|(have:=Bg (show ¬ ((pc:Nat):Int)≤7 by omega)))
 all_goals (first|(have:=Br (show ((pc:Nat):Int)≤11 by omega))|(have:=Bg (show ¬ ((pc:Nat):Int)≤11 by omega)))
 all_goals (first|(have:=Br (show ((pc:Nat):Int)≤14 by omega))|(have:=Bg (show ¬ ((pc:Nat):Int)≤14 by omega)))
 all_goals (go_enter Tryz.func48,Tryz.ntmps48;exact Θ5)):p:=h
end X126
open X126 in
theorem Uc (G:Good c tid) (hn:fs.length<900) {out:Out} (h:Fs c s f fs=some out) (H:IT c tid A T B w0 fb cap s f fs w) :
  Calls Tryz.prog 48 #[.agg (rc A T fb fs.length)] w (RO c tid A T B w0 out):=Ξ
namespace X127
theorem κ {p:Prop} (h:p:=by with_reducible first|(go_at_call 98;exact Yr G Zo hp0 hp1 h HI)|(go_at_call 99;exact Yu G Zo hp0 hp1 h HI)|(go_at_call 100;exact Yq G Zo hp0 hp1 h HI)|(go_at_call 101;exact Ys G Zo hp0 h HI)):p:=h
abbrev νa:=1
abbrev τa:=121
theorem ξ {p:Prop} (h:p:=by
 have hc:(0≤pc∧pc<4)∨(4≤pc∧pc<7)∨(7≤pc∧pc<9)∨9≤pc:=Zo
 rcases hc with ⟨hp0,hp1⟩|⟨hp0,hp1⟩|⟨hp0,hp1⟩|hp0
 all_goals (first|(have:=Br (show ((pc:Nat):Int)≤3 by omega))|(have:=Bg (show ¬ ((pc:Nat):Int)≤3 by omega)))
 all_goals (first|(have:=Br (show ((pc:Nat):Int)≤6 by omega))|(have:=Bg (show ¬ ((pc:Nat):Int)≤6 by omega)))
 all_goals (first|(have:=Br (show ((pc:Nat):Int)≤8 by omega))|(have:=Bg (show ¬ ((pc:Nat):Int)≤8 by omega)))
 all_goals (go_enter Tryz.func49,Tryz.ntmps49;exact Θ5)):p:=h
end X127
open X127 in
theorem Ua (G:Good c tid) (hn:fs.length<900) {out:Out} (h:Ey c s f fs=some out) (H:IT c tid A T B w0 fb cap s f fs w) :
  Calls Tryz.prog 49 #[.agg (rc A T fb fs.length)] w (RO c tid A T B w0 out):=Ξ
end
end Go.Proofs.YtlejhikddkdanaaGreat.Mdl
