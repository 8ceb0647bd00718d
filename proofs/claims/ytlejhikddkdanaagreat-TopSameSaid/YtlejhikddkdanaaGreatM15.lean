/- TopSame, part 15: lemmas on the way. -/
import Derived.Test.YtlejhikddkdanaaGreatM13
import Derived.Test.YtlejhikddkdanaaGreatM14
set_option maxHeartbeats 8000000
set_option maxRecDepth 1000000
set_option linter.unusedVariables false
set_option linter.unusedSimpArgs false
namespace Go.Proofs.YtlejhikddkdanaaGreat.Mdl
open RowKit PTopSame Wk Fns YtlejhikddkdanaaGreatW.PrintWords YtlejhikddkdanaaGreatW.PrintLast YtlejhikddkdanaaGreatW.PrintMore
variable {c:Cf} {tid:Int} {A:Ad} {T:Td} {B:Nat→Prop} {w0 w w1 w2 w6 w7:World} {fv fv':Value} {s s':St} {l l' fs:List Fr} {f f':Fr} {fb cap ga gb qb thb:Nat}
section
attribute [local go_sem] Cs Cq De Dd Cj Ci Cr Cp Ig Fz Ez Ej Gu Ip Iq Hr Jm Pg Vh Ut
namespace X11
theorem κ {p:Prop} (h:p:=by with_reducible first|(exact Λ84)|(go_at_call 50;exact Su G Zo h2 HI)|(exact Λ190)|(go_at_call 51;exact Ui G Zo h2 HI)|(go_at_call 52;exact trivial)|(go_at_call 53;exact dM G Zo h2 HI)|(go_at_call 54;exact Zt G Zo h2 HI)|(go_at_call 55;exact Uh G Zo h2 HI)):p:=h
abbrev δ:List (Nat×Nat):=[(7,4)]
abbrev νa:=5
abbrev τa:=123
theorem ξ {p:Prop} (h:p:=by
 have hc:(fn=31∧pc=90)∨(fn=32∧pc=90)∨(fn=33∧pc=90)∨(fn=34∧pc=90)∨(fn=35∧pc=90)∨(fn=36∧pc=90)∨(fn=31∧pc≠90)∨(fn=35∧pc≠90)∨(fn=36∧pc≠90)∨(fn=32∧pc≠90)∨(fn=33∧pc≠90)∨(fn<31)∨(36<fn)∨(fn=34∧pc≠90):=Zo
 rcases hc with ⟨e0,e1⟩|⟨e0,e1⟩|⟨e0,e1⟩|⟨e0,e1⟩|⟨e0,e1⟩|⟨e0,e1⟩|⟨e0,e1⟩|⟨e0,e1⟩|⟨e0,e1⟩|⟨e0,e1⟩|⟨e0,e1⟩|e0|e0|⟨e0,e1⟩
 case' inl=>(subst e0 e1;cases h)
 case' inr.inl=>(subst e0 e1;cases h)
 case' inr.inr.inl=>(subst e0 e1;cases h)
 case' inr.inr.inr.inl=>(subst e0 e1;cases h)
 case' inr.inr.inr.inr.inl=>(subst e0 e1;cases h)
 case' inr.inr.inr.inr.inr.inl=>(subst e0 e1;cases h)
 case' inr.inr.inr.inr.inr.inr.inl=>(subst e0;have q90:=Aj (show ¬ (pc:Int)=90 by omega);have h2:Ge c s ⟨31,pc,r0,r1,r2,r3,r4,r5,r6,r7,r8,r9⟩ fs=some out:=Λ112;clear h)
 case' inr.inr.inr.inr.inr.inr.inr.inl=>(subst e0;have q90:=Aj (show ¬ (pc:Int)=90 by omega);have h2:lF c s ⟨35,pc,r0,r1,r2,r3,r4,r5,r6,r7,r8,r9⟩ fs=some out:=Λ112;clear h)
 case' inr.inr.inr.inr.inr.inr.inr.inr.inl=>(subst e0;have q90:=Aj (show ¬ (pc:Int)=90 by omega);have h2:Oq c tid s ⟨36,pc,r0,r1,r2,r3,r4,r5,r6,r7,r8,r9⟩ fs=some out:=Λ112;clear h)
 case' inr.inr.inr.inr.inr.inr.inr.inr.inr.inl=>(subst e0;have q90:=Aj (show ¬ (pc:Int)=90 by omega);have h2:Gq c tid s ⟨32,pc,r0,r1,r2,r3,r4,r5,r6,r7,r8,r9⟩ fs=some out:=Λ112;clear h)
 case' inr.inr.inr.inr.inr.inr.inr.inr.inr.inr.inl=>(subst e0;have q90:=Aj (show ¬ (pc:Int)=90 by omega);have h2:Gq c tid s ⟨33,pc,r0,r1,r2,r3,r4,r5,r6,r7,r8,r9⟩ fs=some out:=Λ112;clear h)
 case' inr.inr.inr.inr.inr.inr.inr.inr.inr.inr.inr.inl=>(have h2:Ld c tid s ⟨fn,pc,r0,r1,r2,r3,r4,r5,r6,r7,r8,r9⟩ fs=some out:=Λ113;clear h;have qa:=Ca (show (fn:Int)<31 by omega))
 case' inr.inr.inr.inr.inr.inr.inr.inr.inr.inr.inr.inr.inl=>(have h2:Ld c tid s ⟨fn,pc,r0,r1,r2,r3,r4,r5,r6,r7,r8,r9⟩ fs=some out:=Λ113;clear h;have qa:=Bq (show ¬ (fn:Int)<31 by omega);have qb:=Ca (show (36:Int)<(fn:Int) by omega))
 case' inr.inr.inr.inr.inr.inr.inr.inr.inr.inr.inr.inr.inr=>(exfalso;subst e0;have h5:=h;unfold Ef at h5;rw [if_neg (by dsimp only;omega),if_neg (by dsimp only;omega)] at h5;cases h5)
 all_goals (go_enter Tryz.func17,Tryz.ntmps17;exact Θ3)):p:=h
end X11
open X11 in
theorem Sw (G:Good c tid) (hn:fs.length<900) {out:Out} (h:Ef c tid s f fs=some out) (H:IT c tid A T B w0 fb cap s f fs w) :
  Calls Tryz.prog 17 #[Pt A.mb 0,Pt T.tb 0] w (RO c tid A T B w0 out):=Ξ
end
end Go.Proofs.YtlejhikddkdanaaGreat.Mdl
namespace Go.Proofs.YtlejhikddkdanaaGreat.Mdl
open RowKit Wk Fns YtlejhikddkdanaaGreatW.PrintWords YtlejhikddkdanaaGreatW.PrintLast YtlejhikddkdanaaGreatW.PrintMore
variable {c:Cf} {tid:Int}
variable {A:Ad} {T:Td} {B:Nat→Prop} {w0 w w1 w2 w6 w7 X W:World} {fv fv':Value} {s s':St} {l l' fs:List Fr} {f f':Fr} {fb cap ga gb:Nat}
theorem Sd (H1:Ix c tid A T B w0 fv s l w1) (H2:Ix c tid A T B w0 fv' s' l' w2) (e0:s'.ret0=s.ret0) (e1:s'.ret1=s.ret1):w2.cell? (Ψ T.tb 2)=w1.cell? (Ψ T.tb 2)∧w2.cell? (Ψ T.tb 3)=w1.cell? (Ψ T.tb 3):=by
 obtain ⟨a0,a1,a2,a3,_⟩:=H1.tds
 obtain ⟨b0,b1,b2,b3,_⟩:=H2.tds
 exact ⟨by rw [a2,b2,e0],by rw [a3,b3,e1]⟩
theorem oP {g i:Nat} {o:Obj} {v:Option Value} (h0:g<W.heap.size) (h:W.cell? (Ψ g i)=v):(W.alloc o).cell? (Ψ g i)=v:=(World.cell?_alloc_lt _ _ _ h0).trans h
theorem qQ (p:Nat) {ob:Obj} (hb:w6.heap[gb]?=some ob) (H1:Ix c tid A T (Bx B w0 gb) w6 (Tv fb fs.length cap) s (f::fs) w1) (H2:Ix c tid A T (Bx B w0 gb) w6 (Tv fb fs.length cap) s' (f'::fs) w2) (hp:p<10) (hc:f'.cells[p+2]?=f.cells[p+2]?) (e0:s'.ret0=s.ret0) (e1:s'.ret1=s.ret1) :
  (∀ i,w2.cell? (Ψ gb i)=w1.cell? (Ψ gb i))∧w2.cell? (Ψ fb (fs.length*12+2+p))=w1.cell? (Ψ fb (fs.length*12+(p+2)))∧w2.cell? (Ψ T.tb 2)=w1.cell? (Ψ T.tb 2)∧w2.cell? (Ψ T.tb 3)=w1.cell? (Ψ T.tb 3):=
 ⟨Dm hb H1 H2,by rw [Nat.add_assoc,Nat.add_comm 2 p,Ek H1 Zo,Ek H2 Zo,hc],Sd H1 H2 e0 e1⟩
theorem nK (p:Nat) {ob:Obj} (hb:w6.heap[gb]?=some ob) (H1:Ix c tid A T (Bx B w0 gb) w6 (Tv fb fs.length cap) s (f::fs) w1) (H2:Ix c tid A T (Bx B w0 gb) w6 fv' s' l' w2) (hst:Stays (Tv fb fs.length cap) (f'::fs) w2) (hp:p<10) (hc:f'.cells[p+2]?=f.cells[p+2]?) (e0:s'.ret0=s.ret0) (e1:s'.ret1=s.ret1) :
  (∀ i,w2.cell? (Ψ gb i)=w1.cell? (Ψ gb i))∧w2.cell? (Ψ fb (fs.length*12+2+p))=w1.cell? (Ψ fb (fs.length*12+(p+2)))∧w2.cell? (Ψ T.tb 2)=w1.cell? (Ψ T.tb 2)∧w2.cell? (Ψ T.tb 3)=w1.cell? (Ψ T.tb 3):=
 ⟨Dm hb H1 H2,by rw [Nat.add_assoc,Nat.add_comm 2 p,Ek H1 Zo,Hm hst Zo,hc],Sd H1 H2 e0 e1⟩
theorem Te (a b d:Nat) {o:Obj} (h0:gb<W.heap.size) (h1:fb<W.heap.size) (h2:ga<W.heap.size) (h:(∀ i,W.cell? (Ψ ga i)=X.cell? (Ψ ga i))∧(∀ i,W.cell? (Ψ gb i)=X.cell? (Ψ gb i))∧(∀ j,j<10→(j==a)=false→(j==b)=false→(j==d)=false→W.cell? (Ψ fb (fs.length*12+2+j))=X.cell? (Ψ fb (fs.length*12+(j+2))))∧W.cell? (Ψ fb (fs.length*12+2))=X.cell? (Ψ fb (fs.length*12+2))) :
  (∀ i,(W.alloc o).cell? (Ψ ga i)=X.cell? (Ψ ga i))∧(∀ i,(W.alloc o).cell? (Ψ gb i)=X.cell? (Ψ gb i))∧(∀ j,j<10→(j==a)=false→(j==b)=false→(j==d)=false→(W.alloc o).cell? (Ψ fb (fs.length*12+2+j))=X.cell? (Ψ fb (fs.length*12+(j+2))))∧(W.alloc o).cell? (Ψ fb (fs.length*12+2))=X.cell? (Ψ fb (fs.length*12+2)):=
 ⟨fun i=>oP h2 (h.1 i),Lf a b d h0 h1 h.2⟩
end Go.Proofs.YtlejhikddkdanaaGreat.Mdl
namespace Go.Proofs.YtlejhikddkdanaaGreat.Mdl
open RowKit PTopSame Wk Fns YtlejhikddkdanaaGreatW.PrintWords YtlejhikddkdanaaGreatW.PrintLast YtlejhikddkdanaaGreatW.PrintMore
variable {c:Cf} {tid:Int} {A:Ad} {T:Td} {B:Nat→Prop} {w0 w w1 w2 w6 w7:World} {fv fv':Value} {s s':St} {l l' fs:List Fr} {f f':Fr} {fb cap ga gb qb thb:Nat}
section
attribute [local go_sem] Cs Cq De Dd Cj Ci Cr Cp Ig Fz Ez Ej Gu Ip Iq Hr Jm Pg Vh Ut
theorem rW (x:Int) (h0:0≤x) (h1:x<65536):Go.bits .and .u64 x 255=x % 256:=
 bits_mask .u64 63 Zd (fun n a b=>by rw [IntKind.wrap_u64];omega) 8 Zd x h0 Zo
theorem tL (a b:Int) (h0:0≤a) (h1:a<256) (h2:0≤b) (h3:b<256):Go.bits .or .u64 (a*256) b=a*256+b:=
 bits_join .u64 63 Zd (fun n a b=>by rw [IntKind.wrap_u64];omega) 8 (a*256) b Zo Zo Zo h2 h3 Zo
theorem kI (gb:Nat) (w:World) (x y:Value):Over (fun k=>k=gb) w ((w.setCell (Ψ gb 0) x).setCell (Ψ gb 1) y):=by
 have h1:Over (fun k=>k=gb) w (w.setCell (Ψ gb 0) x):=(Over.refl (fun k=>k=gb) w).set_ (Or.inl rfl) _
 exact h1.set_ (Or.inl rfl) _
namespace X99
abbrev δ:List (Nat×Nat):=[(1,7)]
abbrev νa:=1
abbrev τa:=114
abbrev νb:=2
abbrev τb:=193
theorem ξ {p:Prop} (h:p:=by
 dsimp only at hr6
 have EA:=rW r6 u6.1 hr6
 have EB:=Ak (x:=r6 / 256) (by have:=u6.1;omega) Zo
 have EC:=Ak (x:=r6 % 256) Zo Zo
 all_goals (go_enter Tryz.func140,Tryz.ntmps140;exact Θ12)):p:=h
end X99
open X99 in
theorem tV (G:Good c tid) (hn:fs.length<900) (hr6:f.r6<65536) (H:IT c tid A T B w0 fb cap s f fs w) :
  Calls Tryz.prog 140 #[.agg (rc A T fb fs.length)] w fun e w'=>e=.returned (.agg #[Φ (Hg f.r6),Φ (Oa f.r6)])∧Ix c tid A T B w0 (Tv fb fs.length cap) s (f::fs) w':=Ξ
namespace X100
abbrev δ:List (Nat×Nat):=[(1,7)]
abbrev νa:=2
abbrev τa:=114
abbrev νb:=3
abbrev τb:=193
theorem ξ {p:Prop} (h:p:=by
 have EA:=tL a b a0 a1 b0 b1
 have EB:=Ak (x:=a) a0 Zo
 have EC:=Ak (x:=b) b0 Zo
 have ED:=Ak (x:=a*256) Zo Zo
 have EU:InU (a*256+b):=⟨Zo,Zo⟩
 all_goals (go_enter Tryz.func137,Tryz.ntmps137;exact Θ13)):p:=h
end X100
open X100 in
theorem pF (G:Good c tid) (hn:fs.length<900) {a b:Int} (a0:0≤a) (a1:a<256) (b0:0≤b) (b1:b<256) (H:IT c tid A T B w0 fb cap s f fs w) :
  Calls Tryz.prog 137 #[.agg (rc A T fb fs.length),.agg #[Φ a,Φ b]] w fun e w'=>e=.returned (.tuple #[])∧Ix c tid A T B w0 (Tv fb fs.length cap) s ({f with r6:=a*256+b}::fs) w':=Ξ
theorem Vi {p:Prop} [Decidable p] (h:¬ decide p=false):p:=by
 by_cases hp:p
 .exact hp
 .exact absurd (decide_eq_false hp) h
theorem fC {x:Int} (h0:0≤x) (h1:x<65536):(0≤Hg x∧Hg x<256)∧(0≤Oa x∧Oa x<256):=by
 unfold Hg Oa
 omega
theorem sW {n l:Int} (h:1≤n) (h2:n≤1048576):InU (up n l):=⟨(Yd h h2).1,by have:=(Yd (l':=l) h h2).2;omega⟩
namespace X101
theorem κ {p:Prop} (h:p:=by with_reducible first|(exact Λ58)|(go_at_call 141;exact oQ _ _ HI)|(go_at_call 143;exact sC hsp.1.1 Zo hsp.2.1 Zo HI)|(exact Λ59)|(go_at_call 70;exact Jq G Λ40 9 10 Zd Zd Zd Zd Λ157 (by first|assumption|exact InU.ptr _|exact InU.next _ _ _|exact sW hin.1 hin.2.1|exact InU.zero|exact HI.mem_in Za|exact InU.addr G Za|exact HI.rets.1|exact HI.rets.2.1|exact InU.dec Zd) HI)|(go_at_call 144;first|exact cA hsp.1.1 Zo hsp.2.1 Zo Λ45 HI|exact jF hsp.1.1 Zo hsp.2.1 Zo Λ45 HI|exact jG hsp.1.1 Zo hsp.2.1 Zo Λ45 HI)|(go_at_call 137;exact pF G Zo Zo Zo Zo Zo HI)):p:=h
abbrev δ:List (Nat×Nat):=[(6,44),(8,49)]
abbrev νa:=1
abbrev τa:=114
abbrev νb:=2
abbrev τb:=193
theorem ξ {p:Prop} (h:p:=by
 dsimp only at hp0 hp1
 rcases pc with _|_|_|_|_|_|_|_|_|_|pc
 all_goals (try (exfalso;omega))
 all_goals (clear hp0 hp1)
 all_goals (simp only [Hc,Ao,call,ok,fin] at h)
 iterate 6 (all_goals (try (split at h<;>rename_i k<;>(first|(obtain ⟨_,_,_⟩:=ω;clear k)|have:=Ω))))
 all_goals cases h
 all_goals (try (obtain ⟨p,hp⟩:∃ p:Nat,p=pc+10:=⟨_,rfl⟩;rw [show pc+10=p from hp.symm] at H0;have d0:((p:Int)==0)=false:=Λ143;have d1:((p:Int)==1)=false:=Λ143;have d2:((p:Int)==2)=false:=Λ143;have d3:((p:Int)==3)=false:=Λ143;have d4:((p:Int)==4)=false:=Λ143;have d5:((p:Int)==5)=false:=Λ143;have d6:((p:Int)==6)=false:=Λ143;have d7:((p:Int)==7)=false:=Λ143;have d8:((p:Int)==8)=false:=Λ143;have d9:((p:Int)==9)=false:=Λ143;clear hp))
 all_goals (try (have hin:=Vi (p:=1≤r5∧r5≤1048576∧r6<65536) Za))
 all_goals (try (have hsp:=fC u6.1 hin.2.2))
 all_goals (try (replace k:=Az.m k))
 all_goals (go_enter Tryz.func77,Tryz.ntmps77;exact Θ14)):p:=h
end X101
open X101 in
theorem aC (G:Good c tid) (hn:fs.length<900) {out:Out} (hp0:8≤f.pc) (hp1:f.pc<10) (h:Hc c s f fs=some out) (H:IT c tid A T B w0 fb cap s f fs w) :
  Calls Tryz.prog 77 #[.agg (rc A T fb fs.length)] w (RO c tid A T B w0 out):=Ξ
theorem oE {a:Int} {n:Nat} (h:¬ (a<1∨a>20∨n≥1000000)):1≤a∧a≤20∧n<1000000:=Zo
theorem kC {a n:Int} (h:¬ (a<1∨a>20∨n≥1000000)):1≤a∧a≤20∧n<1000000:=Zo
theorem fK {d:Int} (h1:1≤d) (h2:d≤20) (t:Int):1≤Cd d∧(0≤t % Cd d∧0≤Cd d+t % Cd d∧Cd d+t % Cd d<1048576*2)∧InU (Cd d+t % Cd d):=by
 have e:=Qb d h1 h2
 have hp:2 ^ (d-1).toNat≤2 ^ 19:=Nat.pow_le_pow_right Zd Zo
 have hq:0<2 ^ (d-1).toNat:=Nat.pow_pos Zd
 have a:=Int.emod_nonneg t (show Cd d≠0 by omega)
 have b:=Int.emod_lt_of_pos t (show 0<Cd d by omega)
 refine ⟨Zo,⟨a,Zo,Zo⟩,⟨Zo,Zo⟩⟩
theorem oS {d t:Int} (h:1≤d) (h2:d≤20) (H:Ix c tid A T B w0 fv s l w):Calls Tryz.prog 133 #[Φ d,Φ (t % Cd d)] w fun e w'=>e=.returned (Φ (Cd d+t % Cd d))∧Ix c tid A T B w0 fv s l w':=by
 have h5:=sK h h2 (fK h h2 t).2.1.1 H
 rwa [Int.emod_emod_of_dvd _ (Int.dvd_refl _)] at h5
theorem qZ (G:Good c tid) (hn:fs.length<900) {b:Int} (b0:0≤b) (b1:b<256) (H:IT c tid A T B w0 fb cap s f fs w) :
  Calls Tryz.prog 137 #[.agg (rc A T fb fs.length),.agg #[Φ 0,Φ b]] w fun e w'=>e=.returned (.tuple #[])∧Ix c tid A T B w0 (Tv fb fs.length cap) s ({f with r6:=b}::fs) w':=by
 delta rc
 have h5:=pF G hn (a:=0) (b:=b) Zd Zd b0 b1 H
 simpa only [Int.zero_mul,Int.zero_add] using h5
namespace X77
theorem κ {p:Prop} (h:p:=by with_reducible first|(exact Λ50)|(exact Λ86)|(exact Λ91)|(exact Λ55)|(go_at_call 136;exact mO _ HI)|(go_at_call 135;exact vF (by exact hd.2.2) (by exact EL.1) HI)|(go_at_call 133;exact oS (by exact hd.1) (by exact hd.2.1) HI)|(go_at_call 70;exact Jq G Λ40 6 10 Zd Zd Zd Zd Λ157 Λ37 HI)|(go_at_call 138;exact sB (by exact h6.1) (by exact h6.2.1) HI)|(go_at_call 137;exact qZ G Zo Zo Zo HI)|(exact Λ188)|(go_at_call 58;exact oJ (by first|exact hst|exact hst.drew|exact hst.al _|exact (hst.al _).drew|exact hst.drew.al _) NT 5 Λ157 Zd Λ28 Zd Λ37 HI)|(exact Λ168)):p:=h
abbrev δ:List (Nat×Nat):=[(22,41),(5,42),(7,43),(10,44),(12,35),(17,35),(20,35),(23,35),(13,45),(15,7)]
abbrev νa:=1
abbrev τa:=114
abbrev νb:=3
abbrev τb:=23
theorem ξ {p:Prop} (h:p:=by
 dsimp only at hp0 hp1
 rcases pc with _|_|_|_|_|_|_|_|pc
 all_goals (try (exfalso;omega))
 all_goals (clear hp0 hp1)
 all_goals (simp only [Hc,Ao,call,ok,fin] at h)
 iterate 6 (all_goals (try (split at h<;>rename_i k<;>(first|(obtain ⟨_,_,_⟩:=ω;clear k)|have:=Ω))))
 all_goals cases h
 all_goals (try (obtain ⟨p,hp⟩:∃ p:Nat,p=pc+8:=⟨_,rfl⟩;rw [show pc+8=p from hp.symm] at H0;have d0:((p:Int)==0)=false:=Λ143;have d1:((p:Int)==1)=false:=Λ143;have d2:((p:Int)==2)=false:=Λ143;have d3:((p:Int)==3)=false:=Λ143;have d4:((p:Int)==4)=false:=Λ143;have d5:((p:Int)==5)=false:=Λ143;have d6:((p:Int)==6)=false:=Λ143;have d7:((p:Int)==7)=false:=Λ143;clear hp))
 all_goals (try (have hd:=oE (a:=s.mm (.gl 2)) (n:=s.us) Za))
 all_goals (try (have EL:=fK hd.1 hd.2.1 (take c s)))
 all_goals (try (have E4:=Ak (x:=s.mm (.gl 2)) Zo Zo))
 all_goals (try (have E5:=Ak (x:=Cd (s.mm (.gl 2))+take c s % Cd (s.mm (.gl 2))) Zo Zo))
 all_goals (try (have u9d:=EL.2.2))
 all_goals (try (have h6:=kC (a:=r4) (n:=r3) Za))
 all_goals (try (have E6:=Ak (x:=r4) u4.1 Zo))
 all_goals (try (have E7:=Ak (x:=r3+1) (by have:=u3.1;omega) Zo))
 all_goals (try (have u3p:InU (r3+1):=⟨by have:=u3.1;omega,Zo⟩))
 all_goals (try (have u4m:InU (r4-1):=⟨Zo,Zo⟩))
 all_goals (try (have h7:r4<1000000:=Zo))
 all_goals (try (have E8:=Ak (x:=r4+1) (by have:=u4.1;omega) Zo))
 all_goals (try (have u4p:InU (r4+1):=⟨by have:=u4.1;omega,Zo⟩))
 all_goals (go_enter Tryz.func76,Tryz.ntmps76;exact Θ11)):p:=h
end X77
open X77 in
theorem aE (G:Good c tid) (hn:fs.length<900) {out:Out} (hp0:4≤f.pc) (hp1:f.pc<8) (h:Hc c s f fs=some out) (H:IT c tid A T B w0 fb cap s f fs w) :
  Calls Tryz.prog 76 #[.agg (rc A T fb fs.length)] w (RO c tid A T B w0 out):=Ξ
theorem nE (a b:Value) (w:World):(Instr.field 193 (.agg #[a,b]) 0).run Tryz.prog w=.ok a w:=Zk
attribute [local go_sem] nE
namespace X78
theorem κ {p:Prop} (h:p:=by with_reducible first|(exact Λ58)|(exact Λ59)|(go_at_call 79;exact kP G Zo HI)|(go_at_call 70;first|exact Jq G Λ40 11 10 Zd Zd Zd Zd Λ157 Λ37 HI|exact Jq G Λ40 14 10 Zd Zd Zd Zd Λ157 Λ37 HI)|(exact Λ50)|(exact Λ89)|(exact Λ185)|(exact Λ166)|(exact Λ169)|(exact Λ187)|(go_at_call 145;first|exact gW G Zo HI|exact kT G Zo HI)|(exact Λ90)|(exact Λ171)|(go_at_call 147;first|exact jC G Za Za Kh Kh (InU.next _ _ _) (Az.out Za) (Az.out Za) HI|exact eR G Za Za Kh Kh (InU.next _ _ _) Λ44 HI)):p:=h
abbrev δ:List (Nat×Nat):=[(2,5),(8,5),(12,5),(21,5),(11,46),(17,47),(23,47)]
abbrev νa:=1
abbrev τa:=114
theorem ξ {p:Prop} (h:p:=by
 dsimp only at hp0
 rcases pc with _|_|_|_|_|_|_|_|_|_|_|_|_|_|_|pc
 all_goals (try (exfalso;omega))
 all_goals (clear hp0)
 case' succ.succ.succ.succ.succ.succ.succ.succ.succ.succ.succ.succ.succ.succ.zero=>(by_cases q0:s.mm (.tr (up r5 (Hg r6)))=r3<;>(first|(have:=@id ((_:Bool)=true) q0)|(have:=As q0)|(have:=Aj q0)|(have:=Ca q0)|(have:=Bq q0)|(have:=Br q0)|(have:=Bg q0)|(have:=Du q0)|(have:=Dt q0)|(have:=Ds q0)))<;>(by_cases q1:s.mm (.tr (up r5 (Hg r6) / 2))=s.ret0<;>(first|(have:=@id ((_:Bool)=true) q1)|(have:=As q1)|(have:=Aj q1)|(have:=Ca q1)|(have:=Bq q1)|(have:=Br q1)|(have:=Bg q1)|(have:=Du q1)|(have:=Dt q1)|(have:=Ds q1)))
 all_goals (simp only [Hc,Ao,Mg,call,ok,fin] at h)
 all_goals (first|(have p0:=eq_false q0)|(have p0:=eq_true q0)|skip)
 all_goals (first|(have p1:=eq_false q1)|(have p1:=eq_true q1)|skip)
 all_goals (try (simp only [p0,p1,ne_eq,gt_iff_lt,ge_iff_le,not_true_eq_false,not_false_eq_true,and_true,true_and,and_false,false_and,or_true,true_or,or_false,false_or,if_true,if_false] at h;clear p0 p1))
 all_goals (try (simp only [p0,ne_eq,gt_iff_lt,ge_iff_le,not_true_eq_false,not_false_eq_true,and_true,true_and,and_false,false_and,or_true,true_or,or_false,false_or,if_true,if_false] at h;clear p0))
 iterate 6 (all_goals (try (split at h<;>rename_i k<;>(first|(obtain ⟨_,_,_⟩:=ω;clear k)|have:=Ω))))
 all_goals (try (exfalso;omega))
 all_goals (try (have:=Az.m q0;clear q0))
 all_goals (try (have:=Az.m q1;clear q1))
 all_goals cases h
 all_goals (try (obtain ⟨p,hp⟩:∃ p:Nat,p=pc+15:=⟨_,rfl⟩;rw [show pc+15=p from hp.symm] at H0;have d0:((p:Int)==0)=false:=Λ143;have d1:((p:Int)==1)=false:=Λ143;have d2:((p:Int)==2)=false:=Λ143;have d3:((p:Int)==3)=false:=Λ143;have d4:((p:Int)==4)=false:=Λ143;have d5:((p:Int)==5)=false:=Λ143;have d6:((p:Int)==6)=false:=Λ143;have d7:((p:Int)==7)=false:=Λ143;have d8:((p:Int)==8)=false:=Λ143;have d9:((p:Int)==9)=false:=Λ143;have d10:((p:Int)==10)=false:=Λ143;have d11:((p:Int)==11)=false:=Λ143;have d12:((p:Int)==12)=false:=Λ143;have d13:((p:Int)==13)=false:=Λ143;have d14:((p:Int)==14)=false:=Λ143;clear hp))
 all_goals (try (have hin:=Vi (p:=1≤r5∧r5≤1048576∧r6<65536) Za))
 all_goals (try (have hsp:=fC u6.1 hin.2.2))
 all_goals (try (have hup:=Yd (l':=Hg r6) hin.1 hin.2.1))
 all_goals (try (have uup:=sW (l:=Hg r6) hin.1 hin.2.1))
 all_goals (try (have ED:Int.tdiv (up r5 (Hg r6)) 2=up r5 (Hg r6) / 2:=(by rw [Int.tdiv_eq_ediv_of_nonneg uup.1])))
 all_goals (try (have u2p:InU (up r5 (Hg r6) / 2):=⟨by have:=uup.1;omega,by have:=uup.2;omega⟩))
 all_goals (try (have EE:=Ak (x:=up r5 (Hg r6) / 2) u2p.1 (by have:=hup.2;omega)))
 all_goals (try (have EP:=Cy s.ret0))
 all_goals (try (have EN:=Fg G (n:=r2) (k:=2) Za))
 all_goals (go_enter Tryz.func78,Tryz.ntmps78;exact Θ5)):p:=h
end X78
open X78 in
theorem dQ (G:Good c tid) (hn:fs.length<900) {out:Out} (hp0:10≤f.pc) (h:Hc c s f fs=some out) (H:IT c tid A T B w0 fb cap s f fs w) :
  Calls Tryz.prog 78 #[.agg (rc A T fb fs.length)] w (RO c tid A T B w0 out):=Ξ
end
section
attribute [local go_sem] Cs Cq De Dd Cj Ci Cr Cp Ig Fz Ez Ej
namespace X79
theorem κ {p:Prop} (h:p:=by with_reducible first|(go_at_call 75;exact Zw G Zo hp0 hp1 h HI)|(go_at_call 76;exact aE G Zo hp0 hp1 h HI)|(go_at_call 77;exact aC G Zo hp0 hp1 h HI)|(go_at_call 78;exact dQ G Zo hp0 h HI)):p:=h
abbrev νa:=1
abbrev τa:=114
theorem ξ {p:Prop} (h:p:=by
 have hc:(0≤pc∧pc<4)∨(4≤pc∧pc<8)∨(8≤pc∧pc<10)∨10≤pc:=Zo
 rcases hc with ⟨hp0,hp1⟩|⟨hp0,hp1⟩|⟨hp0,hp1⟩|hp0
 all_goals (first|(have:=Br (show ((pc:Nat):Int)≤3 by omega))|(have:=Bg (show ¬ ((pc:Nat):Int)≤3 by omega)))
 all_goals (first|(have:=Br (show ((pc:Nat):Int)≤7 by omega))|(have:=Bg (show ¬ ((pc:Nat):Int)≤7 by omega)))
 all_goals (first|(have:=Br (show ((pc:Nat):Int)≤9 by omega))|(have:=Bg (show ¬ ((pc:Nat):Int)≤9 by omega)))
 all_goals (go_enter Tryz.func43,Tryz.ntmps43;exact Θ5)):p:=h
end X79
open X79 in
theorem Um (G:Good c tid) (hn:fs.length<900) {out:Out} (h:Hc c s f fs=some out) (H:IT c tid A T B w0 fb cap s f fs w) :
  Calls Tryz.prog 43 #[.agg (rc A T fb fs.length)] w (RO c tid A T B w0 out):=Ξ
end
end Go.Proofs.YtlejhikddkdanaaGreat.Mdl
