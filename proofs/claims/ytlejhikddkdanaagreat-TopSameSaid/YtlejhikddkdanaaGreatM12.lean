/- TopSame, part 12: lemmas on the way. -/
import Derived.Test.YtlejhikddkdanaaGreatM10
set_option maxHeartbeats 8000000
set_option maxRecDepth 1000000
set_option linter.unusedVariables false
set_option linter.unusedSimpArgs false
namespace Go.Proofs.YtlejhikddkdanaaGreat.Mdl
open RowKit PTopSame Wk Fns YtlejhikddkdanaaGreatW.PrintWords YtlejhikddkdanaaGreatW.PrintLast YtlejhikddkdanaaGreatW.PrintMore
variable {c:Cf} {tid:Int} {A:Ad} {T:Td} {B:Nat→Prop} {w0 w w1 w2 w6 w7:World} {fv fv':Value} {s s':St} {l l' fs:List Fr} {f f':Fr} {fb cap ga gb qb thb:Nat}
section
attribute [local go_sem] Cs Cq De Dd Cj Ci Cr Cp Ig Fz Ez Ej Gu Ip Iq Hr Jm Pg Vh Ut
namespace X25
theorem κ {p:Prop} (h:p:=by with_reducible first|(exact Λ182)):p:=h
abbrev νa:=4
abbrev τa:=123
theorem ξ {p:Prop} (h:p:=by
 subst hk hg
 all_goals (go_enter Tryz.func112,Tryz.ntmps112;exact Θ5)):p:=h
end X25
open X25 in
theorem dN (G:Good c tid) (hn:fs.length<900) (k g:Nat) {vk vg:Int} (hk:(k:Int)=vk) (hg:(g:Int)=vg) (hk1:k<100000) (hg1:g<1000) (H:IT c tid A T B w0 fb cap s f fs w) :
  Calls Tryz.prog 112 #[.agg (rc A T fb fs.length),Φ vk,Φ vg,.slice none 0 0] w fun e w'=>e=.returned (.tuple #[])∧∃ fv',Ix c tid A T B w0 fv' s ({fn:=g,pc:=0}::{f with pc:=k}::fs) w'∧Stays (Tv fb fs.length cap) ({f with pc:=k}::fs) w':=Ξ
namespace X26
theorem κ {p:Prop} (h:p:=by with_reducible first|(exact Λ183)):p:=h
abbrev νa:=4
abbrev τa:=123
theorem ξ {p:Prop} (h:p:=by
 subst hk hg
 have HG5:=Az.m hgl;clear hgl
 all_goals (go_enter Tryz.func112,Tryz.ntmps112;exact Θ9)):p:=h
end X26
open X26 in
theorem Wp (G:Good c tid) (hn:fs.length<900) (k g:Nat) {vk vg:Int} (hk:(k:Int)=vk) (hg:(g:Int)=vg) (hk1:k<100000) (hg1:g<1000) {gl:Nat} {v0:Int} (hgl:w.heap[gl]?=some (.cells #[Γ v0] 82 (0,0))) (i0:InU v0) (H:IT c tid A T B w0 fb cap s f fs w) :
  Calls Tryz.prog 112 #[.agg (rc A T fb fs.length),Φ vk,Φ vg,.slice (some (Ψ gl 0)) 1 1] w fun e w'=>e=.returned (.tuple #[])∧∃ fv',Ix c tid A T B w0 fv' s ({fn:=g,pc:=0,r0:=v0}::{f with pc:=k}::fs) w'∧Stays (Tv fb fs.length cap) ({f with pc:=k}::fs) w':=Ξ
namespace X27
theorem κ {p:Prop} (h:p:=by with_reducible first|(exact Λ184)):p:=h
abbrev νa:=4
abbrev τa:=123
theorem ξ {p:Prop} (h:p:=by
 subst hk hg
 have HG5:=Az.m hgl;clear hgl
 all_goals (go_enter Tryz.func112,Tryz.ntmps112;exact Θ9)):p:=h
end X27
open X27 in
theorem qT (G:Good c tid) (hn:fs.length<900) (k g:Nat) {vk vg:Int} (hk:(k:Int)=vk) (hg:(g:Int)=vg) (hk1:k<100000) (hg1:g<1000) {gl:Nat} {v0 v1:Int} (hgl:w.heap[gl]?=some (.cells #[Γ v0,Γ v1] 82 (0,0))) (i0:InU v0) (i1:InU v1) (H:IT c tid A T B w0 fb cap s f fs w) :
  Calls Tryz.prog 112 #[.agg (rc A T fb fs.length),Φ vk,Φ vg,.slice (some (Ψ gl 0)) 2 2] w fun e w'=>e=.returned (.tuple #[])∧∃ fv',Ix c tid A T B w0 fv' s ({fn:=g,pc:=0,r0:=v0,r1:=v1}::{f with pc:=k}::fs) w'∧Stays (Tv fb fs.length cap) ({f with pc:=k}::fs) w':=Ξ
namespace X28
theorem κ {p:Prop} (h:p:=by with_reducible first|(exact Λ50)|(exact Λ89)):p:=h
abbrev νa:=3
abbrev τa:=123
theorem ξ {p:Prop} (h:p:=by
 have E0:=Fg G hx
 all_goals (go_enter Tryz.func190,Tryz.ntmps190;exact Θ5)):p:=h
end X28
open X28 in
theorem nat (G:Good c tid) (hn:fs.length<900) {v k:Int} (hx:c.has (.nd v k)=true) (H:IT c tid A T B w0 fb cap s f fs w) :
  Calls Tryz.prog 190 #[.agg (rc A T fb fs.length),Γ v,Φ k] w fun e w'=>e=.returned (Φ (c.addr (.nd v k)))∧Ix c tid A T B w0 (Tv fb fs.length cap) s (f::fs) w':=Ξ
namespace X29
theorem κ {p:Prop} (h:p:=by with_reducible first|(exact Λ79)):p:=h
abbrev νa:=3
abbrev τa:=123
theorem ξ {p:Prop} (h:p:=by
 have E0:=Ak (x:=r) hr.1 (by have:=hr.2;omega)
 have E2:=Ak (x:=5+r) (by have:=hr.1;omega) (by have:=hr.2;omega)
 all_goals (go_enter Tryz.func108,Tryz.ntmps108;exact Θ5)):p:=h
end X29
open X29 in
theorem tS (G:Good c tid) (hn:fs.length<900) {v r:Int} (hr:0≤r∧r<65536) (hx:c.has (.nd v (5+r))=true) (H:IT c tid A T B w0 fb cap s f fs w) :
  Calls Tryz.prog 108 #[.agg (rc A T fb fs.length),Γ v,Γ r] w fun e w'=>e=.returned (Φ (c.addr (.nd v (5+r))))∧Ix c tid A T B w0 (Tv fb fs.length cap) s (f::fs) w':=Ξ
namespace X30
theorem κ {p:Prop} (h:p:=by with_reducible first|(go_at_call 190;exact nat G Zo hx HI)):p:=h
abbrev νa:=3
abbrev τa:=123
theorem ξ {p:Prop} (h:p:=by
 all_goals (go_enter Tryz.func108,Tryz.ntmps108;exact Θ5)):p:=h
end X30
open X30 in
theorem qS (G:Good c tid) (hn:fs.length<900) {v:Int} (hx:c.has (.nd v 5)=true) (H:IT c tid A T B w0 fb cap s f fs w) :
  Calls Tryz.prog 108 #[.agg (rc A T fb fs.length),Γ v,Γ 0] w fun e w'=>e=.returned (Φ (c.addr (.nd v 5)))∧Ix c tid A T B w0 (Tv fb fs.length cap) s (f::fs) w':=Ξ
namespace X31
theorem κ {p:Prop} (h:p:=by with_reducible first|(exact Λ170)|(exact Λ56)):p:=h
abbrev δ:List (Nat×Nat):=[(1,5)]
abbrev νa:=5
abbrev τa:=123
theorem ξ {p:Prop} (h:p:=by
 all_goals (go_enter Tryz.func113,Tryz.ntmps113;exact Θ5)):p:=h
end X31
open X31 in
theorem dI (G:Good c tid) (hn:fs.length<900) {x:Loc} {v q:Int} {m:Bool} (uv:InU v) (hx:c.has x=true) (ho:Az (s.mm x=v)) (H:IT c tid A T B w0 fb cap s f fs w) :
  Calls Tryz.prog 113 #[.agg (rc A T fb fs.length),Φ (c.addr x),Γ v,Γ q,.bool m] w fun e w'=>e=.returned (.bool true)∧Ix c tid A T B w0 (Tv fb fs.length cap) (s.put x (next v q m)) (f::fs) w':=Ξ
namespace X32
theorem κ {p:Prop} (h:p:=by with_reducible first|(exact Λ170)|(exact Λ57)):p:=h
abbrev δ:List (Nat×Nat):=[(1,5)]
abbrev νa:=5
abbrev τa:=123
theorem ξ {p:Prop} (h:p:=by
 all_goals (go_enter Tryz.func113,Tryz.ntmps113;exact Θ5)):p:=h
end X32
open X32 in
theorem Zq (G:Good c tid) (hn:fs.length<900) {x:Loc} {v q:Int} {m:Bool} (uv:InU v) (hx:c.has x=true) (ho:Az (¬ s.mm x=v)) (H:IT c tid A T B w0 fb cap s f fs w) :
  Calls Tryz.prog 113 #[.agg (rc A T fb fs.length),Φ (c.addr x),Γ v,Γ q,.bool m] w fun e w'=>e=.returned (.bool false)∧Ix c tid A T B w0 (Tv fb fs.length cap) s (f::fs) w':=Ξ
namespace X33
theorem κ {p:Prop} (h:p:=by with_reducible first|(go_at_call 112;exact dN G Zo 90 4 Zd Zd Zd Zd HI)):p:=h
abbrev δ:List (Nat×Nat):=[(1,15)]
abbrev νa:=4
abbrev τa:=123
theorem ξ {p:Prop} (h:p:=by
 all_goals (go_enter Tryz.func191,Tryz.ntmps191;exact Θ5)):p:=h
end X33
open X33 in
theorem vV (G:Good c tid) (hn:fs.length<900) {v0 v1 v2:Int} (i0:InU v0) (i1:InU v1) (i2:InU v2) (H:IT c tid A T B w0 fb cap s f fs w) :
  Calls Tryz.prog 191 #[.agg (rc A T fb fs.length),Γ v0,Γ v1,Γ v2] w fun e w'=>e=.returned (.tuple #[])∧∃ fv',Ix c tid A T B w0 fv' s ({fn:=4,pc:=0}::{f with pc:=90,r7:=v0,r8:=v1,r9:=v2}::fs) w'∧Stays (Tv fb fs.length cap) ({f with pc:=90,r7:=v0,r8:=v1,r9:=v2}::fs) w':=Ξ
namespace X34
theorem κ {p:Prop} (h:p:=by with_reducible first|(exact Λ180)):p:=h
abbrev νa:=2
abbrev τa:=123
theorem ξ {p:Prop} (h:p:=by
 all_goals (go_enter Tryz.func111,Tryz.ntmps111;exact Θ5)):p:=h
end X34
open X34 in
theorem tT (G:Good c tid) (hn:fs.length<900) {v0:Int} (i0:InU v0) (H:IT c tid A T B w0 fb cap s f fs w) :
  Calls Tryz.prog 111 #[.agg (rc A T fb fs.length),Γ v0] w fun e w'=>e=.returned (.tuple #[])∧∃ fv',Ix c tid A T B w0 fv' s ({fn:=4,pc:=0}::{f with pc:=90,r7:=v0,r8:=0,r9:=0}::fs) w'∧Stays (Tv fb fs.length cap) ({f with pc:=90,r7:=v0,r8:=0,r9:=0}::fs) w':=Ξ
namespace X35
theorem κ {p:Prop} (h:p:=by with_reducible first|(exact Λ159)):p:=h
abbrev νa:=1
abbrev τa:=129
theorem ξ {p:Prop} (h:p:=by
 all_goals (go_enter Tryz.func193,Tryz.ntmps193;exact Θ5)):p:=h
end X35
open X35 in
theorem tR (G:Good c tid) (hn:fs.length<900) (H:IT c tid A T B w0 fb cap s f fs w) :
  Calls Tryz.prog 193 #[.agg (rc A T fb fs.length)] w fun e w'=>e=.returned (Γ (ptr f.r5))∧Ix c tid A T B w0 (Tv fb fs.length cap) s (f::fs) w':=Ξ
namespace X36
theorem κ {p:Prop} (h:p:=by with_reducible first|(exact Λ79)|(exact Λ164)):p:=h
abbrev δ:List (Nat×Nat):=[(5,5),(7,5),(9,5),(11,5)]
abbrev νa:=1
abbrev τa:=125
theorem ξ {p:Prop} (h:p:=by
 dsimp only at hp0 hp1
 rcases pc with _|_|_|_|_|_|_|pc
 all_goals (try (exfalso;omega))
 all_goals (clear hp0 hp1)
 all_goals (simp only [Ge,Ao,Lu,call,ok,fin] at h)
 iterate 6 (all_goals (try (split at h<;>rename_i k<;>(first|(obtain ⟨_,_,_⟩:=ω;clear k)|have:=Ω))))
 all_goals cases h
 all_goals (try (obtain ⟨p,hp⟩:∃ p:Nat,p=pc+7:=⟨_,rfl⟩;rw [show pc+7=p from hp.symm] at H0;have d0:((p:Int)==0)=false:=Λ143;have d1:((p:Int)==1)=false:=Λ143;have d2:((p:Int)==2)=false:=Λ143;have d3:((p:Int)==3)=false:=Λ143;have d4:((p:Int)==4)=false:=Λ143;have d5:((p:Int)==5)=false:=Λ143;have d6:((p:Int)==6)=false:=Λ143;clear hp))
 all_goals (go_enter Tryz.func104,Tryz.ntmps104;exact Θ5)):p:=h
end X36
open X36 in
theorem dK (G:Good c tid) (hn:fs.length<900) {out:Out} (hp0:3≤f.pc) (hp1:f.pc<7) (h:Ge c s f fs=some out) (H:IT c tid A T B w0 fb cap s f fs w) :
  Calls Tryz.prog 104 #[.agg (rc A T fb fs.length)] w (RO c tid A T B w0 out):=Ξ
namespace X37
theorem κ {p:Prop} (h:p:=by with_reducible first|(go_at_call 112;exact Wp G Λ40 8 30 Zd Zd Zd Zd Λ157 Λ32 HI)|(exact Λ158)|(exact Λ91)|(exact Λ170)|(exact Λ164)|(exact Λ162)):p:=h
abbrev δ:List (Nat×Nat):=[(5,11),(7,16),(8,17),(11,18),(16,18)]
theorem ρ:True:=trivial
abbrev νa:=1
abbrev τa:=125
theorem ξ {p:Prop} (h:p:=by
 dsimp only at hp0 hp1
 rcases pc with _|_|_|_|_|_|_|_|_|_|_|pc
 all_goals (try (exfalso;omega))
 all_goals (clear hp0 hp1)
 all_goals (simp only [Ge,Ao,Lu,call,ok,fin] at h)
 iterate 6 (all_goals (try (split at h<;>rename_i k<;>(first|(obtain ⟨_,_,_⟩:=ω;clear k)|have:=Ω))))
 all_goals cases h
 all_goals (try (obtain ⟨p,hp⟩:∃ p:Nat,p=pc+11:=⟨_,rfl⟩;rw [show pc+11=p from hp.symm] at H0;have d0:((p:Int)==0)=false:=Λ143;have d1:((p:Int)==1)=false:=Λ143;have d2:((p:Int)==2)=false:=Λ143;have d3:((p:Int)==3)=false:=Λ143;have d4:((p:Int)==4)=false:=Λ143;have d5:((p:Int)==5)=false:=Λ143;have d6:((p:Int)==6)=false:=Λ143;have d7:((p:Int)==7)=false:=Λ143;have d8:((p:Int)==8)=false:=Λ143;have d9:((p:Int)==9)=false:=Λ143;have d10:((p:Int)==10)=false:=Λ143;clear hp))
 all_goals (try (have R0:=Az.m (Gx (c:=c) (i:=r5) Za);have RI:=Jp G (i:=r5) Za))
 all_goals (try (have RJ:=Mp G))
 all_goals (try (have RR:=Cv G u5 (n:=r2) Za))
 all_goals (try (have RO:=Hj G u5 (n:=r2) Za))
 all_goals (try (have RR:=Cv G u5 (n:=s.pred r5) Za))
 all_goals (try (have RR:=(Gx (c:=c) (i:=r5) Za);have:=G.lv;have ui:=InU.inc1 RR.1 Zo;have E5:=Ak (x:=r5+1) Zo Zo))
 all_goals (go_enter Tryz.func105,Tryz.ntmps105;exact Θ5)):p:=h
end X37
open X37 in
theorem Wn (G:Good c tid) (hn:fs.length<900) {out:Out} (hp0:7≤f.pc) (hp1:f.pc<11) (h:Ge c s f fs=some out) (H:IT c tid A T B w0 fb cap s f fs w) :
  Calls Tryz.prog 105 #[.agg (rc A T fb fs.length)] w (RO c tid A T B w0 out):=Ξ
namespace X38
theorem κ {p:Prop} (h:p:=by with_reducible first|(exact Λ158)|(exact Λ91)|(exact Λ160)|(exact Λ170)|(exact Λ164)):p:=h
abbrev δ:List (Nat×Nat):=[(2,19),(8,19),(13,19),(19,19),(16,20)]
theorem ρ:True:=trivial
abbrev νa:=1
abbrev τa:=125
theorem ξ {p:Prop} (h:p:=by
 dsimp only at hp0 hp1
 rcases pc with _|_|_|_|_|_|_|_|_|_|_|_|_|_|_|pc
 all_goals (try (exfalso;omega))
 all_goals (clear hp0 hp1)
 all_goals (simp only [Ge,Ao,Lu,call,ok,fin] at h)
 iterate 6 (all_goals (try (split at h<;>rename_i k<;>(first|(obtain ⟨_,_,_⟩:=ω;clear k)|have:=Ω))))
 all_goals cases h
 all_goals (try (obtain ⟨p,hp⟩:∃ p:Nat,p=pc+15:=⟨_,rfl⟩;rw [show pc+15=p from hp.symm] at H0;have d0:((p:Int)==0)=false:=Λ143;have d1:((p:Int)==1)=false:=Λ143;have d2:((p:Int)==2)=false:=Λ143;have d3:((p:Int)==3)=false:=Λ143;have d4:((p:Int)==4)=false:=Λ143;have d5:((p:Int)==5)=false:=Λ143;have d6:((p:Int)==6)=false:=Λ143;have d7:((p:Int)==7)=false:=Λ143;have d8:((p:Int)==8)=false:=Λ143;have d9:((p:Int)==9)=false:=Λ143;have d10:((p:Int)==10)=false:=Λ143;have d11:((p:Int)==11)=false:=Λ143;have d12:((p:Int)==12)=false:=Λ143;have d13:((p:Int)==13)=false:=Λ143;have d14:((p:Int)==14)=false:=Λ143;clear hp))
 all_goals (try (have R0:=Az.m (Gx (c:=c) (i:=r5) Za);have RI:=Jp G (i:=r5) Za))
 all_goals (try (have RJ:=Mp G))
 all_goals (try (have RR:=Cv G u5 (n:=r2) Za))
 all_goals (try (have RO:=Hj G u5 (n:=r2) Za))
 all_goals (try (have RR:=Cv G u5 (n:=s.pred r5) Za))
 all_goals (try (have RR:=(Gx (c:=c) (i:=r5) Za);have:=G.lv;have ui:=InU.inc1 RR.1 Zo;have E5:=Ak (x:=r5+1) Zo Zo))
 all_goals (go_enter Tryz.func106,Tryz.ntmps106;exact Θ5)):p:=h
end X38
open X38 in
theorem Wo (G:Good c tid) (hn:fs.length<900) {out:Out} (hp0:11≤f.pc) (hp1:f.pc<15) (h:Ge c s f fs=some out) (H:IT c tid A T B w0 fb cap s f fs w) :
  Calls Tryz.prog 106 #[.agg (rc A T fb fs.length)] w (RO c tid A T B w0 out):=Ξ
namespace X39
theorem κ {p:Prop} (h:p:=by with_reducible first|(exact Λ158)|(exact Λ162)|(go_at_call 112;exact Wp G Λ40 16 30 Zd Zd Zd Zd Λ157 Λ32 HI)|(exact Λ79)|(exact Λ164)|(exact Λ161)):p:=h
abbrev δ:List (Nat×Nat):=[(6,18),(13,18),(16,18),(7,7),(9,11),(11,16)]
theorem ρ:True:=trivial
abbrev νa:=1
abbrev τa:=125
theorem ξ {p:Prop} (h:p:=by
 dsimp only at hp0
 rcases pc with _|_|_|_|_|_|_|_|_|_|_|_|_|_|_|_|_|_|pc
 all_goals (try (exfalso;omega))
 all_goals (clear hp0)
 all_goals (simp only [Ge,Ao,Lu,call,ok,fin] at h)
 iterate 6 (all_goals (try (split at h<;>rename_i k<;>(first|(obtain ⟨_,_,_⟩:=ω;clear k)|have:=Ω))))
 all_goals cases h
 all_goals (try (obtain ⟨p,hp⟩:∃ p:Nat,p=pc+18:=⟨_,rfl⟩;rw [show pc+18=p from hp.symm] at H0;have d0:((p:Int)==0)=false:=Λ143;have d1:((p:Int)==1)=false:=Λ143;have d2:((p:Int)==2)=false:=Λ143;have d3:((p:Int)==3)=false:=Λ143;have d4:((p:Int)==4)=false:=Λ143;have d5:((p:Int)==5)=false:=Λ143;have d6:((p:Int)==6)=false:=Λ143;have d7:((p:Int)==7)=false:=Λ143;have d8:((p:Int)==8)=false:=Λ143;have d9:((p:Int)==9)=false:=Λ143;have d10:((p:Int)==10)=false:=Λ143;have d11:((p:Int)==11)=false:=Λ143;have d12:((p:Int)==12)=false:=Λ143;have d13:((p:Int)==13)=false:=Λ143;have d14:((p:Int)==14)=false:=Λ143;have d15:((p:Int)==15)=false:=Λ143;have d16:((p:Int)==16)=false:=Λ143;have d17:((p:Int)==17)=false:=Λ143;clear hp))
 all_goals (try (have R0:=Az.m (Gx (c:=c) (i:=r5) Za);have RI:=Jp G (i:=r5) Za))
 all_goals (try (have RJ:=Mp G))
 all_goals (try (have RR:=Cv G u5 (n:=r2) Za))
 all_goals (try (have RO:=Hj G u5 (n:=r2) Za))
 all_goals (try (have RR:=Cv G u5 (n:=s.pred r5) Za))
 all_goals (try (have RR:=(Gx (c:=c) (i:=r5) Za);have:=G.lv;have ui:=InU.inc1 RR.1 Zo;have E5:=Ak (x:=r5+1) Zo Zo))
 all_goals (go_enter Tryz.func107,Tryz.ntmps107;exact Θ5)):p:=h
end X39
open X39 in
theorem Zv (G:Good c tid) (hn:fs.length<900) {out:Out} (hp0:15≤f.pc) (h:Ge c s f fs=some out) (H:IT c tid A T B w0 fb cap s f fs w) :
  Calls Tryz.prog 107 #[.agg (rc A T fb fs.length)] w (RO c tid A T B w0 out):=Ξ
namespace X44
theorem κ {p:Prop} (h:p:=by with_reducible first|(go_at_call 112;first|exact dN G Λ40 1 1 Zd Zd Zd Zd HI|exact dN G Λ40 0 6 Zd Zd Zd Zd HI)|(exact Λ54)|(exact Λ161)|(exact Λ49)|(exact Λ67)|(exact Λ55)|(exact Λ50)|(exact Λ86)|(exact Λ68)):p:=h
abbrev δ:List (Nat×Nat):=[(6,33),(14,9),(15,34)]
abbrev νa:=1
abbrev τa:=125
theorem ξ {p:Prop} (h:p:=by
 dsimp only at hp0 hp1
 rcases pc with _|_|_|pc
 all_goals (try (exfalso;omega))
 all_goals (clear hp0 hp1)
 case' succ.zero=>(by_cases q0:s.ret0=0<;>(first|(have:=@id ((_:Bool)=true) q0)|(have:=As q0)|(have:=Aj q0)|(have:=Ca q0)|(have:=Bq q0)|(have:=Br q0)|(have:=Bg q0)|(have:=Du q0)|(have:=Dt q0)|(have:=Ds q0)))<;>(by_cases q1:r5=0<;>(first|(have:=@id ((_:Bool)=true) q1)|(have:=As q1)|(have:=Aj q1)|(have:=Ca q1)|(have:=Bq q1)|(have:=Br q1)|(have:=Bg q1)|(have:=Du q1)|(have:=Dt q1)|(have:=Ds q1)))<;>(by_cases q2:0<s.rt.length<;>(first|(have:=@id ((_:Bool)=true) q2)|(have:=As q2)|(have:=Aj q2)|(have:=Ca q2)|(have:=Bq q2)|(have:=Br q2)|(have:=Bg q2)|(have:=Du q2)|(have:=Dt q2)|(have:=Ds q2)))
 all_goals (simp only [Kx,Ao,call,ok,fin] at h)
 all_goals (first|(have p0:=eq_false q0)|(have p0:=eq_true q0)|skip)
 all_goals (first|(have p1:=eq_false q1)|(have p1:=eq_true q1)|skip)
 all_goals (first|(have p2:=eq_false q2)|(have p2:=eq_true q2)|skip)
 all_goals (try (simp only [p0,p1,p2,ne_eq,gt_iff_lt,ge_iff_le,not_true_eq_false,not_false_eq_true,and_true,true_and,and_false,false_and,or_true,true_or,or_false,false_or,if_true,if_false] at h;clear p0 p1 p2))
 all_goals (try (simp only [p0,p1,ne_eq,gt_iff_lt,ge_iff_le,not_true_eq_false,not_false_eq_true,and_true,true_and,and_false,false_and,or_true,true_or,or_false,false_or,if_true,if_false] at h;clear p0 p1))
 all_goals (try (simp only [p0,ne_eq,gt_iff_lt,ge_iff_le,not_true_eq_false,not_false_eq_true,and_true,true_and,and_false,false_and,or_true,true_or,or_false,false_or,if_true,if_false] at h;clear p0))
 iterate 6 (all_goals (try (split at h<;>rename_i k<;>(first|(obtain ⟨_,_,_⟩:=ω;clear k)|have:=Ω))))
 all_goals (try (exfalso;omega))
 all_goals (try (have:=Az.m q0;clear q0))
 all_goals (try (have:=Az.m q1;clear q1))
 all_goals (try (have:=Az.m q2;clear q2))
 all_goals cases h
 all_goals (try (obtain ⟨p,hp⟩:∃ p:Nat,p=pc+3:=⟨_,rfl⟩;rw [show pc+3=p from hp.symm] at H0;have d0:((p:Int)==0)=false:=Λ143;have d1:((p:Int)==1)=false:=Λ143;have d2:((p:Int)==2)=false:=Λ143;clear hp))
 all_goals (try (have hu:s.us<1000000:=Zo;have hu2:(s.put (.gl 3) (u64 (s.mm (.gl 3)+1))).us<1000000:=hu))
 all_goals (try (have EL:=aQ G))
 all_goals (go_enter Tryz.func103,Tryz.ntmps103;exact Θ5)):p:=h
end X44
open X44 in
theorem Zp (G:Good c tid) (hn:fs.length<900) {out:Out} (hp0:0≤f.pc) (hp1:f.pc<3) (h:Kx c s f fs=some out) (H:IT c tid A T B w0 fb cap s f fs w) :
  Calls Tryz.prog 103 #[.agg (rc A T fb fs.length)] w (RO c tid A T B w0 out):=Ξ
theorem kL {s:St} {f:Fr} {fs:List Fr} {out:Out} (hp:f.pc<3) (h:Ge c s f fs=some out):Kx c s f fs=some out:=by
 obtain ⟨fn,pc,r0,r1,r2,r3,r4,r5,r6,r7,r8,r9⟩:=f
 dsimp only at hp
 rcases pc with _|_|_|pc
 .exact h
 .exact h
 .exact h
 .omega
namespace X45
theorem κ {p:Prop} (h:p:=by with_reducible first|(go_at_call 103;exact Zp G Zo hp0 hp1 (kL hp1 h) HI)|(go_at_call 104;exact dK G Zo hp0 hp1 h HI)|(go_at_call 105;exact Wn G Zo hp0 hp1 h HI)|(go_at_call 106;exact Wo G Zo hp0 hp1 h HI)|(go_at_call 107;exact Zv G Zo hp0 h HI)):p:=h
abbrev νa:=1
abbrev τa:=125
theorem ξ {p:Prop} (h:p:=by
 have hc:(0≤pc∧pc<3)∨(3≤pc∧pc<7)∨(7≤pc∧pc<11)∨(11≤pc∧pc<15)∨15≤pc:=Zo
 rcases hc with ⟨hp0,hp1⟩|⟨hp0,hp1⟩|⟨hp0,hp1⟩|⟨hp0,hp1⟩|hp0
 all_goals (first|(have:=Br (show ((pc:Nat):Int)≤2 by omega))|(have:=Bg (show ¬ ((pc:Nat):Int)≤2 by omega)))
 all_goals (first|(have:=Br (show ((pc:Nat):Int)≤6 by omega))|(have:=Bg (show ¬ ((pc:Nat):Int)≤6 by omega)))
 all_goals (first|(have:=Br (show ((pc:Nat):Int)≤10 by omega))|(have:=Bg (show ¬ ((pc:Nat):Int)≤10 by omega)))
 all_goals (first|(have:=Br (show ((pc:Nat):Int)≤14 by omega))|(have:=Bg (show ¬ ((pc:Nat):Int)≤14 by omega)))
 all_goals (go_enter Tryz.func51,Tryz.ntmps51;exact Θ5)):p:=h
end X45
open X45 in
theorem Ui (G:Good c tid) (hn:fs.length<900) {out:Out} (h:Ge c s f fs=some out) (H:IT c tid A T B w0 fb cap s f fs w) :
  Calls Tryz.prog 51 #[.agg (rc A T fb fs.length)] w (RO c tid A T B w0 out):=Ξ
namespace X40
theorem κ {p:Prop} (h:p:=by with_reducible first|(exact Λ49)|(exact Λ190)|(exact Λ158)|(exact Λ91)|(exact Λ159)|(go_at_call 112;exact Wp G Λ40 1 5 Zd Zd Zd Zd Λ157 Λ32 HI)):p:=h
abbrev δ:List (Nat×Nat):=[(10,21),(12,22),(4,23)]
abbrev νa:=1
abbrev τa:=127
theorem ξ {p:Prop} (h:p:=by
 rcases pc with _|_|pc
 all_goals (simp only [lF,Ao,call,ok] at h)
 iterate 6 (all_goals (try (split at h<;>rename_i k<;>(first|(obtain ⟨_,_,_⟩:=ω;clear k)|have:=Ω))))
 all_goals cases h
 all_goals (try (obtain ⟨p,hp⟩:∃ p:Nat,p=pc+2:=⟨_,rfl⟩;rw [show pc+2=p from hp.symm] at H0;have d0:((p:Int)==0)=false:=Λ143;have d1:((p:Int)==1)=false:=Λ143;clear hp))
 all_goals (go_enter Tryz.func53,Tryz.ntmps53;exact Θ5)):p:=h
end X40
open X40 in
theorem dM (G:Good c tid) (hn:fs.length<900) {out:Out} (h:lF c s f fs=some out) (H:IT c tid A T B w0 fb cap s f fs w) :
  Calls Tryz.prog 53 #[.agg (rc A T fb fs.length)] w (RO c tid A T B w0 out):=Ξ
namespace X46
abbrev δ:List (Nat×Nat):=[(1,7)]
abbrev νa:=1
abbrev τa:=128
theorem ξ {p:Prop} (h:p:=by
 dsimp only at hr
 have um:=InU.dec1 u2 hr.1
 have E1:=Ak (x:=r2-1) (by have:=hr.1;omega) (by have:=hr.2;omega)
 all_goals (go_enter Tryz.func116,Tryz.ntmps116;exact Θ4)):p:=h
end X46
open X46 in
theorem pD (G:Good c tid) (hn:fs.length<900) (hr:1≤f.r2∧f.r2<65536) (H:IT c tid A T B w0 fb cap s f fs w) :
  Calls Tryz.prog 116 #[.agg (rc A T fb fs.length)] w fun e w'=>e=.returned (.tuple #[])∧Ix c tid A T B w0 (Tv fb fs.length cap) s ({f with r2:=f.r2-1,pc:=1}::fs) w':=Ξ
namespace X47
theorem κ {p:Prop} (h:p:=by with_reducible first|(exact Λ51)|(exact Λ61)|(go_at_call 152;exact sM G hx HI)|(exact Λ164)):p:=h
abbrev δ:List (Nat×Nat):=[(2,35)]
abbrev νa:=3
abbrev τa:=123
abbrev νb:=6
abbrev τb:=85
theorem ξ {p:Prop} (h:p:=by
 have HS:=(Dy G).sl
 have EA:=oO k hk.1 Zo
 have EC:=Ak (x:=k % 2) Zo Zo
 have ED:=Ak (x:=c.sl-1) Zo Zo
 have EE:=Ak (x:=c.sl-1-k % 2) Zo Zo
 change c.has (.haz tid (c.sl-1-k % 2))=true at hx
 clear HS
 all_goals (go_enter Tryz.func117,Tryz.ntmps117;exact Θ10)):p:=h
end X47
open X47 in
theorem kM (G:Good c tid) (hn:fs.length<900) {k v:Int} (hk:0≤k∧k<1000000) (iv:InU v) (hx:c.has (.haz tid (Gl c k))=true) (H:IT c tid A T B w0 fb cap s f fs w) :
  Calls Tryz.prog 117 #[.agg (rc A T fb fs.length),Γ k,Γ v] w fun e w'=>e=.returned (.tuple #[])∧Ix c tid A T B w0 (Tv fb fs.length cap) (s.put (.haz tid (Gl c k)) v) (f::fs) w':=Ξ
namespace X48
theorem κ {p:Prop} (h:p:=by with_reducible first|(exact Λ158)|(exact Λ91)|(exact Λ160)|(exact Λ159)|(exact Λ53)|(exact Λ162)):p:=h
abbrev δ:List (Nat×Nat):=[(8,24),(10,24),(3,24),(13,36)]
abbrev νa:=1
abbrev τa:=128
theorem ξ {p:Prop} (h:p:=by
 dsimp only at hp0
 rcases pc with _|_|_|_|_|_|pc
 all_goals (try (exfalso;omega))
 all_goals (clear hp0)
 all_goals (simp only [Oq,aZ,Ao,call,ok,fin] at h)
 iterate 6 (all_goals (try (split at h<;>rename_i k<;>(first|(obtain ⟨_,_,_⟩:=ω;clear k)|have:=Ω))))
 all_goals cases h
 all_goals (try (obtain ⟨p,hp⟩:∃ p:Nat,p=pc+6:=⟨_,rfl⟩;rw [show pc+6=p from hp.symm] at H0;have d0:((p:Int)==0)=false:=Λ143;have d1:((p:Int)==1)=false:=Λ143;have d2:((p:Int)==2)=false:=Λ143;have d3:((p:Int)==3)=false:=Λ143;have d4:((p:Int)==4)=false:=Λ143;have d5:((p:Int)==5)=false:=Λ143;clear hp))
 all_goals (try (have RR:=Cv G u2 (n:=r4) Za))
 all_goals (try (have RO:=Hj G u2 (n:=r4) Za))
 all_goals (try (have RR:=Cv G u2 (n:=1) Za))
 all_goals (try (have RO:=Hj G u2 (n:=1) Za))
 all_goals (try (have E4:=Cy r3))
 all_goals (try (have hr2:1≤r2∧r2<65536:=(by have:=u2.1;omega)))
 all_goals (go_enter Tryz.func118,Tryz.ntmps118;exact Θ5)):p:=h
end X48
open X48 in
theorem Qs (G:Good c tid) (hn:fs.length<900) {out:Out} (hp0:4≤f.pc) (h:Oq c tid s f fs=some out) (H:IT c tid A T B w0 fb cap s f fs w) :
  Calls Tryz.prog 118 #[.agg (rc A T fb fs.length)] w (RO c tid A T B w0 out):=Ξ
namespace X49
theorem κ {p:Prop} (h:p:=by with_reducible first|(exact Λ91)|(exact Λ50)|(exact Λ86)|(exact Λ190)|(exact Λ158)|(exact Λ159)|(exact Λ53)|(exact Λ163)|(go_at_call 118;exact Qs G Zo hp0 h HI)):p:=h
abbrev δ:List (Nat×Nat):=[(5,8),(6,22),(11,34),(12,9),(17,5),(22,5),(18,7)]
abbrev νa:=1
abbrev τa:=128
theorem ξ {p:Prop} (h:p:=by
 dsimp only at hp
 rcases pc with _|_|_|_|pc
 all_goals (try (exfalso;omega))
 all_goals (clear hp)
 all_goals (simp only [Oq,aZ,Ao,call,ok,fin] at h)
 iterate 6 (all_goals (try (split at h<;>rename_i k<;>(first|(obtain ⟨_,_,_⟩:=ω;clear k)|have:=Ω))))
 all_goals cases h
 all_goals (try (obtain ⟨p,hp⟩:∃ p:Nat,p=pc+4:=⟨_,rfl⟩;rw [show pc+4=p from hp.symm] at H0;have d0:((p:Int)==0)=false:=Λ143;have d1:((p:Int)==1)=false:=Λ143;have d2:((p:Int)==2)=false:=Λ143;have d3:((p:Int)==3)=false:=Λ143;clear hp))
 all_goals (try (have RR:=Cv G u2 (n:=r4) Za))
 all_goals (try (have RO:=Hj G u2 (n:=r4) Za))
 all_goals (try (have RR:=Cv G u2 (n:=1) Za))
 all_goals (try (have RO:=Hj G u2 (n:=1) Za))
 all_goals (try (have E4:=Cy r3))
 all_goals (try (have hr2:1≤r2∧r2<65536:=(by have:=u2.1;omega)))
 all_goals (try (have EL:=Ak (x:=c.lv-1) Λ96 Λ96))
 all_goals (try (have ul:InU (c.lv-1):=⟨by have:=G.lv;omega,by have:=G.lv;omega⟩))
 all_goals (try (have GU5:0≤r5∧r5<1000000:=⟨u5.1,Zo⟩))
 all_goals (try (have E5:=Ak (x:=r5+1) (by have:=u5.1;omega) Zo))
 all_goals (try (have u5p:InU (r5+1):=⟨by have:=u5.1;omega,Zo⟩))
 all_goals (go_enter Tryz.func54,Tryz.ntmps54;exact Θ5)):p:=h
end X49
open X49 in
theorem Wm (G:Good c tid) (hn:fs.length<900) {out:Out} (hp:f.pc<4) (h:Oq c tid s f fs=some out) (H:IT c tid A T B w0 fb cap s f fs w) :
  Calls Tryz.prog 54 #[.agg (rc A T fb fs.length)] w (RO c tid A T B w0 out):=Ξ
namespace X50
theorem κ {p:Prop} (h:p:=by with_reducible first|(exact Λ91)|(exact Λ50)|(exact Λ86)|(exact Λ190)|(exact Λ158)|(exact Λ159)|(go_at_call 116;exact pD G Zo Zo HI)|(exact Λ163)|(go_at_call 118;exact Qs G Zo hp h HI)):p:=h
abbrev δ:List (Nat×Nat):=[(5,8),(6,22),(11,34),(12,9),(17,5),(22,5),(18,7)]
abbrev νa:=1
abbrev τa:=128
theorem ξ {p:Prop} (h:p:=by
 dsimp only at hp
 have hc:4≤pc:=Zo
 rcases hc with hp0
 all_goals (first|(have:=As (show ((pc:Nat):Int)=0 by omega))|(have:=Aj (show ¬ ((pc:Nat):Int)=0 by omega)))
 all_goals (first|(have:=As (show ((pc:Nat):Int)=1 by omega))|(have:=Aj (show ¬ ((pc:Nat):Int)=1 by omega)))
 all_goals (first|(have:=As (show ((pc:Nat):Int)=2 by omega))|(have:=Aj (show ¬ ((pc:Nat):Int)=2 by omega)))
 all_goals (first|(have:=As (show ((pc:Nat):Int)=3 by omega))|(have:=Aj (show ¬ ((pc:Nat):Int)=3 by omega)))
 all_goals (go_enter Tryz.func54,Tryz.ntmps54;exact Θ5)):p:=h
end X50
open X50 in
theorem Wl (G:Good c tid) (hn:fs.length<900) {out:Out} (hp:4≤f.pc) (h:Oq c tid s f fs=some out) (H:IT c tid A T B w0 fb cap s f fs w) :
  Calls Tryz.prog 54 #[.agg (rc A T fb fs.length)] w (RO c tid A T B w0 out):=Ξ
theorem Zt (G:Good c tid) (hn:fs.length<900) {out:Out} (h:Oq c tid s f fs=some out) (H:IT c tid A T B w0 fb cap s f fs w) :
  Calls Tryz.prog 54 #[.agg (rc A T fb fs.length)] w (RO c tid A T B w0 out):=by
 delta rc
 by_cases hp:f.pc<4
 .exact Wm G hn hp h H
 .exact Wl G hn Zo h H
end
end Go.Proofs.YtlejhikddkdanaaGreat.Mdl
