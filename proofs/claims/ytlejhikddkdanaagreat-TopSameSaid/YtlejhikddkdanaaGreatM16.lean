/- TopSame, part 16: lemmas on the way. -/
import Derived.Test.YtlejhikddkdanaaGreatM15
set_option maxHeartbeats 8000000
set_option maxRecDepth 1000000
set_option linter.unusedVariables false
set_option linter.unusedSimpArgs false
namespace Go.Proofs.YtlejhikddkdanaaGreat.Mdl
open RowKit PTopSame Wk Fns YtlejhikddkdanaaGreatW.PrintWords YtlejhikddkdanaaGreatW.PrintLast YtlejhikddkdanaaGreatW.PrintMore
variable {c:Cf} {tid:Int} {A:Ad} {T:Td} {B:Nat→Prop} {w0 w w1 w2 w6 w7:World} {fv fv':Value} {s s':St} {l l' fs:List Fr} {f f':Fr} {fb cap ga gb qb thb:Nat}
section
attribute [local go_sem] Cs Cq De Dd Cj Ci Cr Cp Ig Fz Ez Ej Gu Ip Iq Hr Jm Pg Vh Ut
namespace X9
theorem κ {p:Prop} (h:p:=by with_reducible first|(exact Λ84)|(exact Λ190)|(go_at_call 42;exact Zy G Zo h2 HI)|(go_at_call 43;exact Um G Zo h2 HI)|(go_at_call 44;exact Uk G Zo h2 HI)|(go_at_call 45;exact Xa G Zo h2 HI)|(exact Λ85)):p:=h
abbrev δ:List (Nat×Nat):=[(5,4)]
abbrev νa:=5
abbrev τa:=108
theorem ξ {p:Prop} (h:p:=by
 have hc:(fn=11∧pc=90)∨(fn=12∧pc=90)∨(fn=13∧pc=90)∨(fn=11∧pc≠90)∨(fn=12∧pc≠90)∨(fn=13∧pc≠90)∨(fn=10∧pc=90)∨(fn=10∧pc≠90)∨(fn=14∧pc=90)∨(fn=14∧pc≠90)∨((fn<10)∧pc=90)∨((fn<10)∧pc≠90)∨((14<fn)∧pc=90)∨((14<fn)∧pc≠90):=Zo
 rcases hc with ⟨e0,e1⟩|⟨e0,e1⟩|⟨e0,e1⟩|⟨e0,e1⟩|⟨e0,e1⟩|⟨e0,e1⟩|⟨e0,e1⟩|⟨e0,e1⟩|⟨e0,e1⟩|⟨e0,e1⟩|⟨e0,e1⟩|⟨e0,e1⟩|⟨e0,e1⟩|⟨e0,e1⟩
 case' inl=>(subst e0 e1;cases h)
 case' inr.inl=>(subst e0 e1;cases h)
 case' inr.inr.inl=>(subst e0 e1;cases h)
 case' inr.inr.inr.inl=>(subst e0;have q90:=Aj (show ¬ (pc:Int)=90 by omega);have h2:Hc c s ⟨11,pc,r0,r1,r2,r3,r4,r5,r6,r7,r8,r9⟩ fs=some out:=Λ115;clear h)
 case' inr.inr.inr.inr.inl=>(subst e0;have q90:=Aj (show ¬ (pc:Int)=90 by omega);have h2:Hx c s ⟨12,pc,r0,r1,r2,r3,r4,r5,r6,r7,r8,r9⟩ fs=some out:=Λ115;clear h)
 case' inr.inr.inr.inr.inr.inl=>(subst e0;have q90:=Aj (show ¬ (pc:Int)=90 by omega);have h2:Hx c s ⟨13,pc,r0,r1,r2,r3,r4,r5,r6,r7,r8,r9⟩ fs=some out:=Λ115;clear h)
 case' inr.inr.inr.inr.inr.inr.inl=>(subst e0;have h2:aI c s ⟨10,pc,r0,r1,r2,r3,r4,r5,r6,r7,r8,r9⟩ fs=some out:=Λ115;clear h;have q90:=As (show (pc:Int)=90 by omega))
 case' inr.inr.inr.inr.inr.inr.inr.inl=>(subst e0;have h2:aI c s ⟨10,pc,r0,r1,r2,r3,r4,r5,r6,r7,r8,r9⟩ fs=some out:=Λ115;clear h;have q90:=Aj (show ¬ (pc:Int)=90 by omega))
 case' inr.inr.inr.inr.inr.inr.inr.inr.inl=>(subst e0;have h2:Hl c s ⟨14,pc,r0,r1,r2,r3,r4,r5,r6,r7,r8,r9⟩ fs=some out:=Λ115;clear h;have q90:=As (show (pc:Int)=90 by omega))
 case' inr.inr.inr.inr.inr.inr.inr.inr.inr.inl=>(subst e0;have h2:Hl c s ⟨14,pc,r0,r1,r2,r3,r4,r5,r6,r7,r8,r9⟩ fs=some out:=Λ115;clear h;have q90:=Aj (show ¬ (pc:Int)=90 by omega))
 case' inr.inr.inr.inr.inr.inr.inr.inr.inr.inr.inl=>(have h2:Ew c tid s ⟨fn,pc,r0,r1,r2,r3,r4,r5,r6,r7,r8,r9⟩ fs=some out:=Λ114;clear h;have qa:=Bg (show ¬ (11:Int)≤(fn:Int) by omega);have q10:=Aj (show ¬ (fn:Int)=10 by omega);have q11:=Aj (show ¬ (fn:Int)=11 by omega);have q12:=Aj (show ¬ (fn:Int)=12 by omega);have q13:=Aj (show ¬ (fn:Int)=13 by omega);have q14:=Aj (show ¬ (fn:Int)=14 by omega);have q90:=As (show (pc:Int)=90 by omega))
 case' inr.inr.inr.inr.inr.inr.inr.inr.inr.inr.inr.inl=>(have h2:Ew c tid s ⟨fn,pc,r0,r1,r2,r3,r4,r5,r6,r7,r8,r9⟩ fs=some out:=Λ114;clear h;have qa:=Bg (show ¬ (11:Int)≤(fn:Int) by omega);have q10:=Aj (show ¬ (fn:Int)=10 by omega);have q11:=Aj (show ¬ (fn:Int)=11 by omega);have q12:=Aj (show ¬ (fn:Int)=12 by omega);have q13:=Aj (show ¬ (fn:Int)=13 by omega);have q14:=Aj (show ¬ (fn:Int)=14 by omega);have q90:=Aj (show ¬ (pc:Int)=90 by omega))
 case' inr.inr.inr.inr.inr.inr.inr.inr.inr.inr.inr.inr.inl=>(have h2:Ew c tid s ⟨fn,pc,r0,r1,r2,r3,r4,r5,r6,r7,r8,r9⟩ fs=some out:=Λ114;clear h;have qa:=Br (show (11:Int)≤(fn:Int) by omega);have qb:=Bg (show ¬ (fn:Int)≤13 by omega);have q10:=Aj (show ¬ (fn:Int)=10 by omega);have q11:=Aj (show ¬ (fn:Int)=11 by omega);have q12:=Aj (show ¬ (fn:Int)=12 by omega);have q13:=Aj (show ¬ (fn:Int)=13 by omega);have q14:=Aj (show ¬ (fn:Int)=14 by omega);have q90:=As (show (pc:Int)=90 by omega))
 case' inr.inr.inr.inr.inr.inr.inr.inr.inr.inr.inr.inr.inr=>(have h2:Ew c tid s ⟨fn,pc,r0,r1,r2,r3,r4,r5,r6,r7,r8,r9⟩ fs=some out:=Λ114;clear h;have qa:=Br (show (11:Int)≤(fn:Int) by omega);have qb:=Bg (show ¬ (fn:Int)≤13 by omega);have q10:=Aj (show ¬ (fn:Int)=10 by omega);have q11:=Aj (show ¬ (fn:Int)=11 by omega);have q12:=Aj (show ¬ (fn:Int)=12 by omega);have q13:=Aj (show ¬ (fn:Int)=13 by omega);have q14:=Aj (show ¬ (fn:Int)=14 by omega);have q90:=Aj (show ¬ (pc:Int)=90 by omega))
 all_goals (go_enter Tryz.func15,Tryz.ntmps15;exact Θ1)):p:=h
end X9
open X9 in
theorem Ul (G:Good c tid) (hn:fs.length<900) {out:Out} (h:Gd c tid s f fs=some out) (H:IT c tid A T B w0 fb cap s f fs w) :
  Calls Tryz.prog 15 #[Pt A.mb 0,Pt T.tb 0] w (RO c tid A T B w0 out):=Ξ
end
theorem iU (G:Good c tid) (hn:l.length≤900) {out:Out} (h:bit c tid s l=some out) (H:Ix c tid A T B w0 fv s l w) :
  Calls Tryz.prog (Np c) #[Pt A.mb 0,Pt T.tb 0] w (RO c tid A T B w0 out):=by
 cases l with
 |nil=>cases h
 |cons f fs=>
  obtain ⟨fb,cap,rfl,_⟩:=H.top_slice
  have hn2:fs.length<900:=by simp only [List.length_cons] at hn;omega
  unfold bit at h
  dsimp only at h
  unfold Np
  by_cases h0:c.algo=0
  .rw [if_pos h0] at h ⊢
   exact Ul G hn2 h H
  .rw [if_neg h0] at h ⊢
   by_cases h1:c.algo=1
   .rw [if_pos h1] at h ⊢
    exact Re G hn2 h H
   .rw [if_neg h1] at h ⊢
    exact Sw G hn2 h H
theorem Ur (d:Nat) (f:Fn) (c:Array Value) (W:World):(Op.equalIn (d+1) 59 (.func f #[] c) .nilFunc).run Tryz.prog W=.ok false W:=by
 simp [Op.equalIn,run_underlying Tryz.underlying59]
@[local go_sem] theorem func_nil59 (f:Fn) (c:Array Value) (W:World):(binOp .eql 59 (.func f #[] c) .nilFunc).run Tryz.prog W=.ok (.bool false) W:=by
 simp only [binOp]
 simp [Op.equal,Op.maxDepth,Ur 9999]
theorem Ly {p:Nat→Prop} (h:∃ n,p n):∃ n,p n∧∀ m,p m→n≤m:=by
 obtain ⟨n,hn⟩:=h
 induction n using Nat.strongRecOn with
 |ind n ih=>
  by_cases hm:∃ m,m<n∧p m
  .obtain ⟨m,h1,h2⟩:=hm
   exact ih m h1 h2
  .exact ⟨n,hn,fun m h=>Nat.le_of_not_lt (fun h2=>hm ⟨m,h2,h⟩)⟩
open Classical in
noncomputable def He (P:Nat→World→Prop) (w:World):Nat:=if h:∃ n,P n w then Classical.choose (Ly h) else 0
theorem Jd {P:Nat→World→Prop} {w:World} (h:∃ n,P n w):P (He P w) w:=by
 unfold He
 rw [dif_pos h]
 exact (Classical.choose_spec (Ly h)).1
theorem Lt {P:Nat→World→Prop} {w:World} {n:Nat} (h:P n w):He P w≤n:=by
 unfold He
 rw [dif_pos ⟨n,h⟩]
 exact (Classical.choose_spec (Ly ⟨n,h⟩)).2 n h
def Vn (A:Ad) (b:Bool) (w:World):Prop:=w.cell? (Ψ A.mb 19)=some (.bool b)
theorem Ix.aT (H:Ix c 0 A T B w0 fv s l w):∃ b,Vn A b w∧w.frozen? (Ψ A.mb 19)=false:=by
 obtain ⟨g,a,hm⟩:=H.mach
 exact ⟨a,(Aa hm.head 19).trans rfl,Ab hm.head 19⟩
theorem Ix.unacted (H:Ix c 0 A T B w0 fv s l w):Ix c 0 A T B w0 fv s l (w.setCell (Ψ A.mb 19) (.bool false)):=by
 obtain ⟨g,a,hm⟩:=H.mach
 have ho:Over (fun k=>k=A.mb) w (w.setCell (Ψ A.mb 19) (.bool false)):=(Over.refl (fun k=>k=A.mb) w).set_ (Or.inl rfl) _
 exact (H.step (ho.mono (fun k hk=>.inl hk)) (hm.head_ ho (acted':=false) (Ae hm.head 19 _ rfl)))
def Hf (c:Cf) (A:Ad) (T:Td) (B:Nat→Prop) (w0:World) (s':St) (n0 n:Nat) (w:World):Prop:=
 ∃ fv s l b,RunsN c 0 n s l s' []∧Ix c 0 A T B w0 fv s l w∧Vn A b w∧(n<n0∨b=false∧n=n0)
theorem jX {n:Nat} (h:RunsN c 0 n s [] s' []):n=0∧s=s':=by
 cases h with
 |zero=>exact ⟨rfl,rfl⟩
 |step _ hb _=>cases hb
theorem Pn {n:Nat} {f:Fr} {fs:List Fr} (h:RunsN c 0 n s (f::fs) s' []):∃ m o,n=m+1∧(f::fs).length≤60∧bit c 0 s (f::fs)=some o∧RunsN c 0 m o.st o.frs s' []:=by
 cases h with
 |step hl hb hr=>exact ⟨_,_,rfl,hl,hb,hr⟩
theorem cJ (G:Good c 0) {n0:Nat} (hr:RunsN c 0 n0 s l s' []) (Q:IsQ c A T B qb thb w0) (H:Ix c 0 A T B w0 fv s l w) :
  Calls Tryz.prog 60 #[Pt A.mb 0,Φ 0,.func (.func (Np c)) #[] #[]] w fun e w'=>∃ fv1 s1 l1 n1,e=.returned (.bool (!l1.isEmpty))∧RunsN c 0 n1 s1 l1 s' []∧Ix c 0 A T B w0 fv1 s1 l1 w'∧(l1=[]∨n1<n0):=by
 obtain ⟨nt,cp,h18⟩:=Q.cm H
 have K2:=Az.m (Ns A.mb T.tb nt cp w h18 (Q.ct H))
 clear h18
 obtain ⟨b,hb,hbf⟩:=H.aT
 have H1:=Az.m H.unacted
 have HR:=Az.m hr
 clear H
 unfold Vn at hb
 have hd:=Az.m (rfl:Np c=Np c)
 have ha:=G.algo
 have HB:=fun (w:World) (fv:Value) (s:St) (l:List Fr) (hn:l.length≤900) (out:Out) (h:bit c 0 s l=some out) (H:Ix c 0 A T B w0 fv s l w)=>iU G hn h H
 obtain ⟨dn,hdn,hdc⟩:∃ dn,dn=Np c∧(dn=15∨dn=16∨dn=17):=⟨_,rfl,by unfold Np;(repeat' split)<;>simp⟩
 rw [← hdn] at HB ⊢
 have HBA:=Az.m HB
 clear HB hd ha hdn
 rcases hdc with rfl|rfl|rfl
 all_goals
  go_enter Tryz.func60,Tryz.ntmps60
  go_wp2_with (go_at_call 123;refine K2.o.mono ?_;rintro e w2 ⟨rfl,rfl⟩)
 .go_loopw [] (fun wr=>∃ n,Hf c A T B w0 s' n0 n wr) (fun wr=>He (Hf c A T B w0 s' n0) wr)
  case atStart=>exact ⟨n0,fv,s,l,false,HR.o,H1.o,Λ131,.inr ⟨rfl,rfl⟩⟩
  case round=>
   obtain ⟨fv1,s1,l1,b1,hr1,H,hb1,hn1⟩:=Jd hrel
   generalize hm:He (Hf c A T B w0 s' n0) wr=m at hr1 hn1
   have HM:=Az.m hm
   obtain ⟨a,cpf,e⟩:=Ow H
   have hf:=Rq H
   subst e
   have HI:=Az.m H
   have HR1:=Az.m hr1
   have HN1:=Az.m hn1
   clear H hr1 hn1 hm hrel hb hbf
   unfold Vn at hb1
   cases l1 with
   |nil=>
    simp only [List.length_nil] at hf
    cases b1
    all_goals
     go_wp2
     go_ret
     first|exact ⟨_,s1,[],m,rfl,HR1.o,HI.o,.inl rfl⟩|exact ⟨_,s1,[],rfl,m,HR1.o,HI.o,.inl rfl⟩|exact ⟨_,s1,[],rfl,⟨m,HR1.o⟩,HI.o,.inl rfl⟩
   |cons f fs=>
    simp only [List.length_cons] at hf
    have g0:(0<(fs.length:Int)+1)=True:=eq_true Zo
    have g1:((fs.length:Int)+1>0)=True:=eq_true Zo
    cases b1
    .obtain ⟨m2,o,e2,hl60,hbit,hr2⟩:=Pn HR1.o
     have HC:=Az.m (HBA.o wr _ s1 (f::fs) Zo o hbit HI.o)
     have HE2:=Az.m e2
     have HR2:=Az.m hr2
     clear e2 hl60 hbit hr2
     go_wp2_with (go_at_call 15;refine HC.o.mono ?_;rintro e w3 ⟨rfl,fv2,H2⟩;have HZ:=Az.m H2;clear H2)
     obtain ⟨b2,hb2,_⟩:=HZ.o.aT
     have hst:Hf c A T B w0 s' n0 m2 w3:=⟨fv2,o.st,o.frs,b2,HR2.o,HZ.o,hb2,.inl Λ105⟩
     exact ⟨⟨m2,hst⟩,by have:=Lt hst;have:=HM.o;have:=HE2.o;omega⟩
    .go_wp2
     go_ret
     exact ⟨_,s1,f::fs,m,rfl,HR1.o,HI.o,.inr (HN1.o.resolve_right (fun h=>by cases h.1))⟩
 .go_loopw [] (fun wr=>∃ n,Hf c A T B w0 s' n0 n wr) (fun wr=>He (Hf c A T B w0 s' n0) wr)
  case atStart=>exact ⟨n0,fv,s,l,false,HR.o,H1.o,Λ131,.inr ⟨rfl,rfl⟩⟩
  case round=>
   obtain ⟨fv1,s1,l1,b1,hr1,H,hb1,hn1⟩:=Jd hrel
   generalize hm:He (Hf c A T B w0 s' n0) wr=m at hr1 hn1
   have HM:=Az.m hm
   obtain ⟨a,cpf,e⟩:=Ow H
   have hf:=Rq H
   subst e
   have HI:=Az.m H
   have HR1:=Az.m hr1
   have HN1:=Az.m hn1
   clear H hr1 hn1 hm hrel hb hbf
   unfold Vn at hb1
   cases l1 with
   |nil=>
    simp only [List.length_nil] at hf
    cases b1
    all_goals
     go_wp2
     go_ret
     first|exact ⟨_,s1,[],m,rfl,HR1.o,HI.o,.inl rfl⟩|exact ⟨_,s1,[],rfl,m,HR1.o,HI.o,.inl rfl⟩|exact ⟨_,s1,[],rfl,⟨m,HR1.o⟩,HI.o,.inl rfl⟩
   |cons f fs=>
    simp only [List.length_cons] at hf
    have g0:(0<(fs.length:Int)+1)=True:=eq_true Zo
    have g1:((fs.length:Int)+1>0)=True:=eq_true Zo
    cases b1
    .obtain ⟨m2,o,e2,hl60,hbit,hr2⟩:=Pn HR1.o
     have HC:=Az.m (HBA.o wr _ s1 (f::fs) Zo o hbit HI.o)
     have HE2:=Az.m e2
     have HR2:=Az.m hr2
     clear e2 hl60 hbit hr2
     go_wp2_with (go_at_call 16;refine HC.o.mono ?_;rintro e w3 ⟨rfl,fv2,H2⟩;have HZ:=Az.m H2;clear H2)
     obtain ⟨b2,hb2,_⟩:=HZ.o.aT
     have hst:Hf c A T B w0 s' n0 m2 w3:=⟨fv2,o.st,o.frs,b2,HR2.o,HZ.o,hb2,.inl Λ105⟩
     exact ⟨⟨m2,hst⟩,by have:=Lt hst;have:=HM.o;have:=HE2.o;omega⟩
    .go_wp2
     go_ret
     exact ⟨_,s1,f::fs,m,rfl,HR1.o,HI.o,.inr (HN1.o.resolve_right (fun h=>by cases h.1))⟩
 .go_loopw [] (fun wr=>∃ n,Hf c A T B w0 s' n0 n wr) (fun wr=>He (Hf c A T B w0 s' n0) wr)
  case atStart=>exact ⟨n0,fv,s,l,false,HR.o,H1.o,Λ131,.inr ⟨rfl,rfl⟩⟩
  case round=>
   obtain ⟨fv1,s1,l1,b1,hr1,H,hb1,hn1⟩:=Jd hrel
   generalize hm:He (Hf c A T B w0 s' n0) wr=m at hr1 hn1
   have HM:=Az.m hm
   obtain ⟨a,cpf,e⟩:=Ow H
   have hf:=Rq H
   subst e
   have HI:=Az.m H
   have HR1:=Az.m hr1
   have HN1:=Az.m hn1
   clear H hr1 hn1 hm hrel hb hbf
   unfold Vn at hb1
   cases l1 with
   |nil=>
    simp only [List.length_nil] at hf
    cases b1
    all_goals
     go_wp2
     go_ret
     first|exact ⟨_,s1,[],m,rfl,HR1.o,HI.o,.inl rfl⟩|exact ⟨_,s1,[],rfl,m,HR1.o,HI.o,.inl rfl⟩|exact ⟨_,s1,[],rfl,⟨m,HR1.o⟩,HI.o,.inl rfl⟩
   |cons f fs=>
    simp only [List.length_cons] at hf
    have g0:(0<(fs.length:Int)+1)=True:=eq_true Zo
    have g1:((fs.length:Int)+1>0)=True:=eq_true Zo
    cases b1
    .obtain ⟨m2,o,e2,hl60,hbit,hr2⟩:=Pn HR1.o
     have HC:=Az.m (HBA.o wr _ s1 (f::fs) Zo o hbit HI.o)
     have HE2:=Az.m e2
     have HR2:=Az.m hr2
     clear e2 hl60 hbit hr2
     go_wp2_with (go_at_call 17;refine HC.o.mono ?_;rintro e w3 ⟨rfl,fv2,H2⟩;have HZ:=Az.m H2;clear H2)
     obtain ⟨b2,hb2,_⟩:=HZ.o.aT
     have hst:Hf c A T B w0 s' n0 m2 w3:=⟨fv2,o.st,o.frs,b2,HR2.o,HZ.o,hb2,.inl Λ105⟩
     exact ⟨⟨m2,hst⟩,by have:=Lt hst;have:=HM.o;have:=HE2.o;omega⟩
    .go_wp2
     go_ret
     exact ⟨_,s1,f::fs,m,rfl,HR1.o,HI.o,.inr (HN1.o.resolve_right (fun h=>by cases h.1))⟩
section
attribute [local go_sem] Cs Cq De Dd Cj Ci Cr Cp Ig Fz Ez Ej
theorem IsQ.inner {w6:World} {gb:Nat} (Q:IsQ c A T B qb thb w0) (H:Ix c 0 A T B w0 fv s l w) (hb:Below w.heap.size w w6):IsQ c A T (Bx B w0 gb) qb thb w6:=by
 refine ⟨Ac (H.over.blk Q.q Q.qB) hb,fun h=>h.1.elim Q.qB (fun h2=>by have:=Bb Q.q;omega),?_,fun h=>h.1.elim Q.thB (fun h2=>by have:=World.block_lt_of_cell? w0 _ Q.th;dsimp only at this;omega),Q.thr⟩
 exact (hb.cell (p:=⟨thb,0,none⟩) (World.block_lt_of_cell? w _ (H.over.cell Q.th Q.thB))).trans (H.over.cell Q.th Q.thB)
theorem lW {l:List Fr} (h:l≠[]):l.isEmpty=false:=by cases l<;>simp_all
theorem sq (Q:IsQ c A T B qb thb w0) (H:Ix c 0 A T B w0 fv s l w):w.cell? ⟨qb,0,none⟩=some (.pointer (some ⟨A.mb,0,none⟩))∧w.cell? ⟨qb,1,none⟩=some (.func (.func (Np c)) #[] #[]):=⟨(Q.cq H).1,(Q.cq H).2.1⟩
def Mv (s:St):Value:=.agg #[.int .i64 (wrap64 s.ret0),.int .u32 (s.ret1 % 4294967296),.int .u32 (s.ret2 % 4294967296)]
theorem Zc (G:Good c 0) {n0:Nat} (hl:l≠[]) (hn:l.length<900) (hr:RunsN c 0 n0 s l s' []) (Q:IsQ c A T B qb thb w0) (H:Ix c 0 A T B w0 fv s l w) :
  Calls Tryz.prog 27 #[.pointer (some ⟨qb,0,none⟩),.int .i64 0] w fun e w'=>∃ fv1 s1 l1 n1,e=.returned (.tuple #[if l1.isEmpty then Mv s1 else .agg #[.int .i64 0,.int .u32 0,.int .u32 0],.bool l1.isEmpty])∧RunsN c 0 n1 s1 l1 s' []∧Ix c 0 A T B w0 fv1 s1 l1 w'∧(l1=[]∨n1<n0):=by
 have H0:=Az.m H
 have HR:=Az.m hr
 have HQ:=Az.m Q
 have el:=lW hl
 clear H hr Q hl
 go_enter Tryz.func27,Tryz.ntmps27
 have HN:=Az.m hn
 clear hn
 go_wp2_with (first|((with_reducible refine Al (N:=4) rfl ?_);go_must (refine Am ?hg (N:=4) ?hd (cs:=#[.int .i64 0,.int .u32 0,.int .u32 0]) (t:=46) ?hr ?_;(case hd=>rfl);(case hg=>rfl);(case hr=>exact Λ18);intro ga hga wga hbox hbl;have HA:=Az.m hbox;have HBL:=Az.m hbl;have HO:=Az.m (H0.o.same hbl).over;have HGE:=Az.m (Nat.le_of_eq hga.symm);have HQ2:=Az.m (HQ.o.inner (gb:=ga) H0.o hbl);have hm:=H0.o.inner hbl (Nat.le_of_eq hga.symm);have HG0:=Az.m (Nat.le_trans H0.o.over.size HGE.o);clear H0 hbox hbl hga;have H0:=Az.m hm;clear hm)))
 with_reducible refine Dw (id:=1) ?_
 go_region_held3 (fun W=>W.cell? ⟨qb,0,none⟩=some (.pointer (some ⟨A.mb,0,none⟩))∧W.cell? ⟨qb,1,none⟩=some (.func (.func (Np c)) #[] #[])) (first|assumption|exact sq HQ2.o H0.o|exact sq HQ2.o H0.o.drew) (((with_reducible refine Ap ?_);go_must ((with_reducible apply Cx);(case hI=>exact Λ128);intro HI;first|(go_at_call 26;refine (Ma HQ2.o HN.o HI).mono ?_;rintro e w2 ⟨rfl,hm⟩;clear HI H0;have H0:=Az.m hm;clear hm)|(go_at_call 60;refine (cJ G HR.o HQ2.o HI).mono ?_;rintro e w2 ⟨fv1,s1,l1,n1,rfl,hr1,hm,hlt⟩;clear HI H0;have H0:=Az.m hm;have HR1:=Az.m hr1;have HLT:=Az.m hlt;clear hm hr1 hlt))))
 cases l1 with
 |nil=>
  have TX:=H0.o.tds
  have hb2:=H0.o.box HA.o
  obtain ⟨A0,A1,A2⟩:=bc3 hb2
  have AF:=Ab hb2
  have hlt2:=Bb hb2
  have NG:ga≠w2.heap.size:=Nat.ne_of_lt hlt2
  have K2:=Az.m (Iu HQ2.o H0.o)
  have HB2:=Az.m hb2
  clear hb2 hlt2
  go_wp2_with (first|(go_at_call 56;refine K2.o.mono ?_;rintro e w3 ⟨rfl,rfl⟩)|((with_reducible refine Al (N:=6) rfl ?_);go_must (refine Am ?hg (N:=6) ?hd (cs:=#[.int .u64 0,.int .u64 0,.int .u64 0]) (t:=100) ?hr ?_;(case hd=>rfl);(case hg=>rfl);(case hr=>exact Λ18);intro g5 hg5 wg5 hbox hbl;have HZ:=Az.m hbox;have HL:=Az.m hbl;have HG5:=Az.m (Nat.le_of_eq hg5.symm);obtain ⟨Z0,Z1,Z2⟩:=bc3 hbox;have ZF:=Ab hbox;clear TX A0 A1 A2 AF NG hbox hbl hg5))|((with_reducible refine Bd (t:=100) (p:=6) rfl ?_);go_must (refine Aw (w1:=((wg5.setCell ⟨g5,0,none⟩ (.int .u64 s1.ret0)).setCell ⟨g5,1,none⟩ (.int .u64 s1.ret1)).setCell ⟨g5,2,none⟩ (.int .u64 s1.ret2)) ?hg (t:=100) (p:=6) rfl ?hn ?hr ?_;(case hg=>rfl);(case hn=>rfl);(case hr=>first|(simp [go_sem,Z0,Z1,Z2,ZF];done)|(go_simp;done)|(go_simp;rfl));intro w6 e6;have h6:w6.heap[g5]?=some (.cells #[.int .u64 s1.ret0,.int .u64 s1.ret1,.int .u64 s1.ret2] 100 (0,0)):=Λ149;have HL6:=Az.m (Ji HL.o HG5.o e6);clear HZ Z0 Z1 Z2 ZF e6;obtain ⟨Y0,Y1,Y2⟩:=bc3 h6;have hb6:=Ac HB2.o HL6.o;obtain ⟨A0,A1,A2⟩:=bc3 hb6;have AF:=Ab hb6;have HB6:=Az.m hb6;clear h6 hb6))|((with_reducible refine Bd (t:=46) (p:=4) rfl ?_);go_must (refine Aw (w1:=((w6.setCell ⟨ga,0,none⟩ (.int .i64 (wrap64 s1.ret0))).setCell ⟨ga,1,none⟩ (.int .u32 (s1.ret1 % 4294967296))).setCell ⟨ga,2,none⟩ (.int .u32 (s1.ret2 % 4294967296))) ?hg (t:=46) (p:=4) rfl ?hn ?hr ?_;(case hg=>rfl);(case hn=>rfl);(case hr=>exact Λ19);intro w7 e7;have HB7:Az (w7.heap[ga]?=some (.cells #[.int .i64 (wrap64 s1.ret0),.int .u32 (s1.ret1 % 4294967296),.int .u32 (s1.ret2 % 4294967296)] 46 (0,0))):=⟨by rw [e7];exact Jw HB6.o⟩;have HO7:Az (Over (fun k=>k=ga) w6 w7):=⟨by rw [e7];exact (((Over.refl (fun k=>k=ga) w6).set_ (Or.inl rfl) _).set_ (Or.inl rfl) _).set_ (Or.inl rfl) _⟩;clear e7 Y0 Y1 Y2 A0 A1 A2 AF)))
  refine bodyPost_ret (Fy rfl _ _ ga 46 _ (0,0) _ rfl HB7.o Tryz.underlying46 rfl Zk) rfl ?_
  exact ⟨fv1,s1,[],n1,rfl,HR1.o,(H0.o.same HL6.o).wbox HO.o HG0.o HA.o Zd HO7.o,.inl rfl⟩
 |cons f1 fs1=>
  have hb2:=H0.o.box HA.o
  obtain ⟨A0,A1,A2⟩:=bc3 hb2
  have AF:=Ab hb2
  have HB2:=Az.m hb2
  clear hb2
  go_wp2_with (((with_reducible refine Bd (t:=46) (p:=4) rfl ?_);go_must (refine Aw (w1:=((w2.setCell ⟨ga,0,none⟩ (.int .i64 0)).setCell ⟨ga,1,none⟩ (.int .u32 0)).setCell ⟨ga,2,none⟩ (.int .u32 0)) ?hg (t:=46) (p:=4) rfl ?hn ?hr ?_;(case hg=>rfl);(case hn=>rfl);(case hr=>exact Λ19);intro w7 e7;have HB7:Az (w7.heap[ga]?=some (.cells #[.int .i64 0,.int .u32 0,.int .u32 0] 46 (0,0))):=⟨by rw [e7];exact Jw HB2.o⟩;have HO7:Az (Over (fun k=>k=ga) w2 w7):=⟨by rw [e7];exact (((Over.refl (fun k=>k=ga) w2).set_ (Or.inl rfl) _).set_ (Or.inl rfl) _).set_ (Or.inl rfl) _⟩;clear e7 A0 A1 A2 AF)))
  refine bodyPost_ret (Fy rfl _ _ ga 46 _ (0,0) _ rfl HB7.o Tryz.underlying46 rfl Zk) rfl ?_
  exact ⟨fv1,s1,f1::fs1,n1,rfl,HR1.o,H0.o.wbox HO.o HG0.o HA.o Zd HO7.o,HLT.o⟩
theorem Wh (G:Good c 0) {n0:Nat} (hl:l≠[]) (hn:l.length<900) (hr:RunsN c 0 n0 s l s' []) (Q:IsQ c A T B qb thb w0) (H:Ix c 0 A T B w0 fv s l w) :
  Calls Tryz.prog 27 #[.pointer (some ⟨qb,0,none⟩),.int .i64 0] w fun e w'=>∃ x y z b fv1 s1 l1 n1,e=.returned (.tuple #[.agg #[.int .i64 x,.int .u32 y,.int .u32 z],.bool b])∧b=l1.isEmpty∧(l1=[]→x=wrap64 s1.ret0∧y=s1.ret1 % 4294967296∧z=s1.ret2 % 4294967296)∧RunsN c 0 n1 s1 l1 s' []∧Ix c 0 A T B w0 fv1 s1 l1 w'∧(l1=[]∨n1<n0):=by
 refine (Zc G hl hn hr Q H).mono ?_
 rintro e w' ⟨fv1,s1,l1,n1,rfl,h⟩
 cases l1 with
 |nil=>exact ⟨_,_,_,_,fv1,s1,[],n1,rfl,rfl,fun _=>⟨rfl,rfl,rfl⟩,h⟩
 |cons f fs=>exact ⟨_,_,_,_,fv1,s1,f::fs,n1,rfl,rfl,(fun h=>by cases h),h⟩
def oW (c:Cf) (A:Ad) (T:Td) (B:Nat→Prop) (w0:World) (s':St) (n:Nat) (w:World):Prop:=∃ fv s l,RunsN c 0 n s l s' []∧l≠[]∧Ix c 0 A T B w0 fv s l w
theorem Yv {n:Nat} (h:RunsN c 0 n s l s' []):l.length≤60:=by
 cases h with
 |zero=>exact Nat.zero_le _
 |step hl _ _=>exact hl
theorem bV (G:Good c 0) {n0:Nat} (hl:l≠[]) (hr:RunsN c 0 n0 s l s' []) (Q:IsQ c A T B qb thb w0) (H:Ix c 0 A T B w0 fv s l w) :
  Calls Tryz.prog 19 #[.pointer (some ⟨qb,0,none⟩),.int .i64 0] w fun e w'=>e=.returned (Mv s')∧∃ fv1,Ix c 0 A T B w0 fv1 s' [] w':=by
 have H0:=Az.m H
 have HR:=Az.m hr
 have HQ:=Az.m Q
 have HL:=Az.m hl
 clear H hr Q hl
 go_enter Tryz.func19,Tryz.ntmps19
 go_wp2_with (first|((with_reducible refine Al (N:=4) rfl ?_);go_must (refine Am ?hg (N:=4) ?hd (cs:=#[.int .i64 0,.int .u32 0,.int .u32 0]) (t:=46) ?hr ?_;(case hd=>rfl);(case hg=>rfl);(case hr=>exact Λ18);intro ga hga wga hbox hbl;have HA:=Az.m hbox;have HO:=Az.m (H0.o.same hbl).over;have HQ2:=Az.m (HQ.o.inner (gb:=ga) H0.o hbl);have hm:=H0.o.inner hbl (Nat.le_of_eq hga.symm);have HG0:=Az.m (Nat.le_trans H0.o.over.size (Nat.le_of_eq hga.symm));clear H0 hbox hbl hga;have H0:=Az.m hm;clear hm)))
 refine π ?_
 go_loopw [] (fun wr=>∃ n,oW c A T (Bx B w0 ga) wga s' n wr) (fun wr=>He (oW c A T (Bx B w0 ga) wga s') wr)
 case atStart=>exact ⟨n0,fv,s,l,HR.o,HL.o,H0.o⟩
 case round=>
  obtain ⟨fv1,s1,l1,hr1,hl1,H⟩:=Jd hrel
  generalize hm:He (oW c A T (Bx B w0 ga) wga s') wr=m at hr1
  have HM:=Az.m hm
  have KB:=Az.m (Ma HQ2.o (by have:=Yv hr1;omega) H)
  have HR1:=Az.m hr1
  have HL1:=Az.m hl1
  have EL:=lW hl1
  clear hm hrel hr1 hl1 H
  go_wp2_with (first|(go_at_call 26;refine KB.o.mono ?_;rintro e w2 ⟨rfl,hb2⟩;have H2:=Az.m hb2;clear hb2)|(go_at_call 27;refine (Wh G HL1.o (by have:=Yv HR1.o;omega) HR1.o HQ2.o H2.o).mono ?_;rintro e w3 ⟨x,y,z,b,fv3,s3,l3,n3,rfl,hb3,hx3,hr3,h3,hlt3⟩;have HB3:=Az.m hb3;have HX3:=Az.m hx3;have HR3:=Az.m hr3;have H3:=Az.m h3;have HLT3:=Az.m hlt3;have hb2:=h3.box HA.o;have A0:∀ o:Obj,(w3.alloc o).cell? ⟨ga,0,none⟩=some (.int .i64 0):=fun o=>(Aa (Ba hb2 o) 0).trans rfl;have A1:∀ o:Obj,(w3.alloc o).cell? ⟨ga,1,none⟩=some (.int .u32 0):=fun o=>(Aa (Ba hb2 o) 1).trans rfl;have A2:∀ o:Obj,(w3.alloc o).cell? ⟨ga,2,none⟩=some (.int .u32 0):=fun o=>(Aa (Ba hb2 o) 2).trans rfl;have AF:∀ (o:Obj) (i:Nat),(w3.alloc o).frozen? ⟨ga,i,none⟩=false:=fun o=>Ab (Ba hb2 o);have NG:ga≠w3.heap.size:=Nat.ne_of_lt (Bb hb2);have HB2:=Az.m hb2;clear hb3 hx3 hr3 h3 hlt3 hb2)|((with_reducible refine Bd (t:=46) (p:=4) rfl ?_);go_must (refine Aw (w1:=(((w3.alloc (.cells #[.int .i64 x,.int .u32 y,.int .u32 z] 46)).setCell ⟨ga,0,none⟩ (.int .i64 x)).setCell ⟨ga,1,none⟩ (.int .u32 y)).setCell ⟨ga,2,none⟩ (.int .u32 z)) ?hg (t:=46) (p:=4) rfl ?hn ?hr ?_;(case hg=>rfl);(case hn=>rfl);(case hr=>first|(simp [go_sem,A0,A1,A2,AF,NG];done)|(go_simp;done)|(go_simp;rfl));intro w7 e7;have HB7:Az (w7.heap[ga]?=some (.cells #[.int .i64 x,.int .u32 y,.int .u32 z] 46 (0,0))):=⟨by rw [e7];exact Jw (Ba HB2.o _)⟩;have HO7:Az (Over (fun k=>k=ga) (w3.alloc (.cells #[.int .i64 x,.int .u32 y,.int .u32 z] 46)) w7):=⟨by rw [e7];exact (((Over.refl (fun k=>k=ga) (w3.alloc (.cells #[.int .i64 x,.int .u32 y,.int .u32 z] 46))).set_ (Or.inl rfl) _).set_ (Or.inl rfl) _).set_ (Or.inl rfl) _⟩;clear e7 A0 A1 A2 AF)))
  .have eb:b=true:=Za
   have e3:l3=[]:=List.isEmpty_iff.1 (HB3.o.symm.trans eb)
   have hr3:=HR3.o
   have h3:=H3.o
   have hx3:=HX3.o e3
   rw [e3] at hr3 h3
   obtain ⟨_,es⟩:=jX hr3
   subst es
   obtain ⟨rfl,rfl,rfl⟩:=hx3
   refine bodyPost_ret (results_cell_row rfl _ _ ga 46 _ (0,0) _ rfl HB7.o Tryz.underlying46 rfl Zk) rfl ?_
   exact ⟨rfl,_,(h3.alloc _).wbox HO.o HG0.o HA.o Zd HO7.o⟩
  .have eb:b=false:=Za
   have e3:l3≠[]:=fun e=>by
    have h:=HB3.o.symm.trans eb
    rw [e] at h
    cases h
   have hst:oW c A T (Bx B w0 ga) wga s' n3 (w3.alloc (.cells #[.int .i64 x,.int .u32 y,.int .u32 z] 46)):=⟨fv3,s3,l3,HR3.o,e3,H3.o.alloc _⟩
   exact ⟨⟨n3,hst⟩,by have:=Lt hst;have:=HM.o;have:=HLT3.o.resolve_left e3;omega⟩
def Gw (op key val:Int):Prop:=(op=0∧0≤key∧key<4294967296∧0≤val∧val<4294967296)∨((op=1∨op=2)∧key=0∧val=0)
theorem jY {op key val:Int} (h:Gw op key val):call_Right.f op key val=some true:=by
 unfold call_Right.f
 rcases h with ⟨rfl,_⟩|⟨rfl|rfl,rfl,rfl⟩<;>simp
theorem Qo {op key val:Int} (h:Gw op key val) (w:World):Calls Tryz.prog 57 #[.agg #[Φ op,.int .u32 key,.int .u32 val]] w fun e w'=>e=.returned (.bool true)∧Below w.heap.size w w':=call_Right.calls op key val true w (jY h)
theorem lT (G:Good c 0) {op key val:Int} (h:Gw op key val):(wrap64 (Ir c+op)=((first c op key val).fn:Int)∧IntKind.i64.wrap (Ir c+op)=((first c op key val).fn:Int))∧(first c op key val).fn<1000:=by
 rw [IntKind.wrap_i64]
 unfold Ir first wrap64
 rcases h with ⟨rfl,_⟩|⟨rfl|rfl,_⟩<;>dsimp only<;>split<;>(try split)<;>decide
theorem mF {gb:Nat} {w6:World} {op key val:Int} (Q:IsQ c A T (Bx B w0 gb) qb thb w6) (H:Ix c 0 A T (Bx B w0 gb) w6 fv s l w) (hb:w6.heap[gb]?=some (.cells #[Φ op,.int .u32 key,.int .u32 val] 29 (0,0))) :
  w.cell? (Ψ qb 2)=some (Φ (Ir c))∧w.cell? (Ψ gb 0)=some (Φ op)∧w.cell? (Ψ gb 1)=some (.int .u32 key)∧w.cell? (Ψ gb 2)=some (.int .u32 val):=
 ⟨(Q.cq H).2.2,(Aa (H.box hb) 0).trans rfl,(Aa (H.box hb) 1).trans rfl,(Aa (H.box hb) 2).trans rfl⟩
theorem uZ {gb:Nat} {w6:World} {op key val:Int} (Q:IsQ c A T (Bx B w0 gb) qb thb w6) (hb:w6.heap[gb]?=some (.cells #[Φ op,.int .u32 key,.int .u32 val] 29 (0,0))) (H:Ix c 0 A T (Bx B w0 gb) w6 fv s l w) :
  w.cell? (Ψ qb 2)=some (Φ (Ir c))∧w.cell? (Ψ gb 0)=some (Φ op)∧w.cell? (Ψ gb 1)=some (.int .u32 key)∧w.cell? (Ψ gb 2)=some (.int .u32 val):=mF Q H hb
theorem bP (G:Good c 0) {op key val:Int} (h:Gw op key val) (Q:IsQ c A T B qb thb w0) (H:Ix c 0 A T B w0 fv s [] w) :
  Calls Tryz.prog 18 #[Pt qb 0,Φ 0,.agg #[Φ op,.int .u32 key,.int .u32 val]] w fun e w'=>e=.returned (Φ 0)∧∃ fv1,Ix c 0 A T B w0 fv1 s [first c op key val] w':=by
 have H0:=Az.m H
 have HR:=Az.m h
 have HQ:=Az.m Q
 obtain ⟨EB,hfn⟩:=lT G h
 have HFN:=Az.m hfn
 have hk:0≤key∧key<4294967296∧0≤val∧val<4294967296:=by
  rcases h with ⟨_,h⟩|⟨_,rfl,rfl⟩
  .exact h
  .decide
 have UK:Az (InU key):=⟨⟨hk.1,Zo⟩⟩
 have UV:Az (InU val):=⟨⟨hk.2.2.1,Zo⟩⟩
 have EK:=Gb key hk.1 Zo
 have EV:=Gb val hk.2.2.1 Zo
 clear H h Q hk hfn
 go_enter Tryz.func18,Tryz.ntmps18
 go_wp2_with (first|((with_reducible refine Al (N:=5) rfl ?_);go_must (refine Am ?hg (N:=5) ?hd (cs:=#[Φ op,.int .u32 key,.int .u32 val]) (t:=29) ?hr ?_;(case hd=>rfl);(case hg=>rfl);(case hr=>exact Λ18);intro gb hgb wgb hbox hbl;have HB:=Az.m hbox;have HO:=Az.m (H0.o.same hbl).over;have HQ2:=Az.m (HQ.o.inner (gb:=gb) H0.o hbl);have hm:=H0.o.inner hbl (Nat.le_of_eq hgb.symm);clear H0 hbl hgb;have H0:=Az.m hm;have C9:=mF HQ2.o hm HB.o;clear hm hbox))|((with_reducible refine Ap ?_);go_must ((with_reducible apply Cx);(case hI=>exact Λ128);intro HI;first|(go_at_call 26;refine (Ma HQ2.o Zd HI).mono ?_;rintro e w2 ⟨rfl,hm⟩;clear HI H0;have H0:=Az.m hm;have C9:=mF HQ2.o hm HB.o;clear hm)|(go_at_call 56;refine (Iu HQ2.o HI).mono ?_;rintro e w2 ⟨rfl,rfl⟩;clear HI)|(go_at_call 57;refine (Qo HR.o _).mono ?_;rintro e w2 ⟨rfl,hd⟩;have hm:=HI.same hd;clear HI H0 hd;have H0:=Az.m hm;clear hm)|(go_at_call 58;have hc:=mD (fn:=(first c op key val).fn) (gl:=w2.heap.size) (v0:=key) (v1:=val) (hg:=Λ157) Zd HFN.o UK.o UV.o HI;with_reducible refine Calls.mono hc ?_;clear hc;rintro e w2 ⟨rfl,g5,cap5,hm,hst⟩;clear HI H0;have H0:=Az.m hm;clear hm hst))))
 with_reducible refine Dw (id:=9) ?_
 go_region_held3 (fun W=>W.cell? (Ψ qb 2)=some (Φ (Ir c))∧W.cell? (Ψ gb 0)=some (Φ op)∧W.cell? (Ψ gb 1)=some (.int .u32 key)∧W.cell? (Ψ gb 2)=some (.int .u32 val)) (first|assumption|with_reducible exact mF HQ2.o H0.o HB.o|(refine uZ (fv:=fv) (s:=s) (l:=[]) HQ2.o HB.o ?_;iterate 8 (try (first|with_reducible exact H0.o|with_reducible apply Ix.drew|with_reducible apply Ix.alloc)))) (((with_reducible refine Ap ?_);go_must ((with_reducible apply Cx);(case hI=>exact Λ128);intro HI;first|(go_at_call 26;refine (Ma HQ2.o Zd HI).mono ?_;rintro e w2 ⟨rfl,hm⟩;clear HI H0;have H0:=Az.m hm;have C9:=mF HQ2.o hm HB.o;clear hm)|(go_at_call 56;refine (Iu HQ2.o HI).mono ?_;rintro e w2 ⟨rfl,rfl⟩;clear HI)|(go_at_call 57;refine (Qo HR.o _).mono ?_;rintro e w2 ⟨rfl,hd⟩;have hm:=HI.same hd;clear HI H0 hd;have H0:=Az.m hm;clear hm)|(go_at_call 58;have hc:=mD (fn:=(first c op key val).fn) (gl:=w2.heap.size) (v0:=key) (v1:=val) (hg:=Λ157) Zd HFN.o UK.o UV.o HI;with_reducible refine Calls.mono hc ?_;clear hc;rintro e w2 ⟨rfl,g5,cap5,hm,hst⟩;clear HI H0;have H0:=Az.m hm;clear hm hst))))
 all_goals go_wp2
 all_goals go_ret
 all_goals exact ⟨rfl,_,Ix.outer HO.o H0.o⟩
theorem Ze (G:Good c 0) {op key val:Int} (h:Gw op key val) (hr:Runs c 0 s [first c op key val] s' []) (Q:IsQ c A T B qb thb w0) (H:Ix c 0 A T B w0 fv s [] w) :
  Calls Tryz.prog 10 #[Pt qb 0,Φ 0,.agg #[Φ op,.int .u32 key,.int .u32 val]] w fun e w'=>e=.returned (.tuple #[Mv s',Φ 0])∧∃ fv1,Ix c 0 A T B w0 fv1 s' [] w':=by
 obtain ⟨nr,hrn⟩:=hr
 have HRN:=Az.m hrn
 have H0:=Az.m H
 have HR:=Az.m h
 have HQ:=Az.m Q
 clear H h Q hrn
 go_enter Tryz.func10,Tryz.ntmps10
 go_wp2_with (first|((with_reducible refine Al (N:=5) rfl ?_);go_must (refine Am ?hg (N:=5) ?hd (cs:=#[Φ op,.int .u32 key,.int .u32 val]) (t:=29) ?hr ?_;(case hd=>rfl);(case hg=>rfl);(case hr=>exact Λ18);intro gb hgb wgb hbox hbl;have HL:=Az.m hbl;have hm:=H0.o.same hbl;clear H0;have H0:=Az.m hm;have HB5:=Az.m hbox;have HO5:=Az.m hbl;clear hm hbox hbl hgb))|((with_reducible refine Al (N:=6) rfl ?_);go_must (refine Am ?hg (N:=6) ?hd (cs:=#[Φ 0,.int .u32 0,.int .u32 0]) (t:=46) ?hr ?_;(case hd=>rfl);(case hg=>rfl);(case hr=>exact Λ18);intro ga hga wga hbox hbl;have HA:=Az.m hbox;have HO:=Az.m (H0.o.same hbl).over;have HQ2:=Az.m (HQ.o.inner (gb:=ga) H0.o hbl);have hm:=H0.o.inner hbl (Nat.le_of_eq hga.symm);have HG0:=Az.m (Nat.le_trans H0.o.over.size (Nat.le_of_eq hga.symm));have hb5:=Ac HB5.o hbl;obtain ⟨X0,X1,X2⟩:=bc3 hb5;clear H0 hbox hbl hga hb5;have H0:=Az.m hm;clear hm))|(go_at_call 18;refine (bP G HR.o HQ2.o H0.o).mono ?_;rintro e w2 ⟨rfl,fv2,hm⟩;clear H0 X0 X1 X2;have H0:=Az.m hm;clear hm)|(go_at_call 19;refine (bV G Zs HRN.o HQ2.o H0.o).mono ?_;rintro e w3 ⟨rfl,fv3,hm⟩;clear H0;have H0:=Az.m hm;have hb2:=hm.box HA.o;obtain ⟨A0,A1,A2⟩:=bc3 hb2;have AF:=Ab hb2;have HB2:=Az.m hb2;clear hm hb2;unfold Mv)|((with_reducible refine Bd (t:=46) (p:=6) rfl ?_);go_must (refine Aw (w1:=((w3.setCell (Ψ ga 0) (Φ (wrap64 s'.ret0))).setCell (Ψ ga 1) (.int .u32 (s'.ret1 % 4294967296))).setCell (Ψ ga 2) (.int .u32 (s'.ret2 % 4294967296))) ?hg (t:=46) (p:=6) rfl ?hn ?hr ?_;(case hg=>rfl);(case hn=>rfl);(case hr=>exact Λ19);intro w7 e7;have HB7:Az (w7.heap[ga]?=some (.cells #[Φ (wrap64 s'.ret0),.int .u32 (s'.ret1 % 4294967296),.int .u32 (s'.ret2 % 4294967296)] 46 (0,0))):=⟨by rw [e7];exact Jw HB2.o⟩;have HO7:Az (Over (fun k=>k=ga) w3 w7):=⟨by rw [e7];exact (((Over.refl (fun k=>k=ga) w3).set_ (Or.inl rfl) _).set_ (Or.inl rfl) _).set_ (Or.inl rfl) _⟩;clear e7 A0 A1 A2 AF)))
 refine bodyPost_ret (Fy rfl _ _ ga 46 _ (0,0) _ rfl HB7.o Tryz.underlying46 rfl Zk) rfl ?_
 exact ⟨rfl,_,H0.o.wbox HO.o HG0.o HA.o Zd HO7.o⟩
end
def Bt (w:World) (k:Nat):Prop:=∃ cs t fr,w.heap[k]?=some (.cells cs t fr)∧(t=96∨t=142∨t=82∨t=151∨t=138∨t=3∨t=104∨t=111)
theorem Mm {b n sz:Nat} {e:TypeId} {v:Value} {xs:List Value} {k:Nat} (h:w.ownsRow b e sz v n xs) (he:e=3∨e=111) (hk:v.ownBlock=some k):Bt w k:=by
 rcases h.2 with ⟨rfl,_⟩|⟨g,cap,cur,rfl,_,hgb,_⟩
 .cases hk
 .injection hk with hk
  subst hk
  exact ⟨_,_,_,hgb,by rcases he with rfl|rfl<;>simp⟩
theorem Oy {dv:Value} {k:Nat} (h:IsFound dv s w) (hk:dv.ownBlock=some k):Bt w k:=by
 rcases h with ⟨_,h⟩|⟨_,db,off,cap,cs,rfl,_,hb,_⟩
 .exact Mm h (.inl rfl) hk
 .injection hk with hk
  subst hk
  exact ⟨_,_,_,hb,Zs⟩
theorem dU {m:Loc→Int} {g:Gh} {us:Nat} {aT:Bool} (H:IsMach c A m g us aT w) {k:Nat} (hk:A.may k):Bt w k:=by
 obtain ⟨ws,hm,_,_⟩:=H.mm
 obtain ⟨st,hp⟩:=hm.head
 rcases hk with rfl|rfl|rfl|rfl|⟨gb,tb,hg,rfl|rfl⟩
 .exact ⟨_,_,_,H.head,Zs⟩
 .exact ⟨_,_,_,hp,Zs⟩
 .exact ⟨_,_,_,hm.row,Zs⟩
 .obtain ⟨X,cp,hf,_⟩:=H.feed.head
  exact ⟨_,_,_,hf,Zs⟩
 .exact ⟨_,_,_,(H.gho _ _ hg).head,Zs⟩
 .exact ⟨_,_,_,(H.gho _ _ hg).row,Zs⟩
theorem Ix.rebase (H:Ix c tid A T B w0 fv s l w):Ix c tid A T (Bt w) w fv s l w:=by
 obtain ⟨g,aT,hm⟩:=H.mach
 obtain ⟨rv,dv,ht,hr,hd,k1,k2⟩:=H.thr
 exact {mach:=H.mach,thr:=⟨rv,dv,ht,hr,hd,fun k hk=>⟨(k1 k hk).1,(k1 k hk).2.1,.inl (Mm hr (.inl rfl) hk)⟩,fun k hk=>⟨(k2 k hk).1,.inl (Oy hd hk)⟩⟩,frames:=H.frames,pred:=H.pred,succ:=H.succ,wrd:=H.wrd,prf:=H.prf,rets:=H.rets,fits:=H.fits,over:=Over.refl _ _,mayD:=fun k hk=>.inl (dU hm hk),own:=⟨.inl ⟨_,_,_,ht,Zs⟩,.inl ⟨_,_,_,H.pred,Zs⟩,.inl ⟨_,_,_,H.succ,Zs⟩,.inl ⟨_,_,_,H.wrd,Zs⟩⟩,fvD:=fun k hk=>.inl (Mm H.frames (.inr rfl) hk),apart:=H.apart}
theorem iY {g:Gh} {aT:Bool} (G:Good c tid) (hm:IsMach c A (No c) g 0 aT w)
  (ht:w.heap[T.tb]?=some (.cells #[Φ tid,.slice none 0 0,Γ 0,Γ 0,Γ 0,.slice (some (Ψ T.pr 0)) c.lv.toNat c.lv.toNat,.slice (some (Ψ T.sc 0)) c.lv.toNat c.lv.toNat,.slice (some (Ψ T.wd 0)) c.lv.toNat c.lv.toNat,.slice none 0 0,.slice none 0 0] 104 (0,0)))
  (hp:w.heap[T.pr]?=some (.cells (Hv c.lv fun _=>0) 82 (0,0))) (hs:w.heap[T.sc]?=some (.cells (Hv c.lv fun _=>0) 82 (0,0))) (hw:w.heap[T.wd]?=some (.cells (Hv c.lv fun _=>0) 82 (0,0)))
  (ha:T.pr≠A.wb∧T.sc≠A.wb∧T.wd≠A.wb∧T.pr≠T.sc∧T.pr≠T.wd∧T.sc≠T.wd):Ix c tid A T (Bt w) w (.slice none 0 0) (st0 c) [] w:=by
 have hz:InU 0:=⟨Int.le_refl _,Zd⟩
 exact {mach:=⟨g,aT,hm⟩,thr:=⟨.slice none 0 0,.slice none 0 0,ht,Hw _ _ _ _,Or.inl ⟨rfl,Hw _ _ _ _⟩,⟨fun k hk=>(nomatch hk),fun k hk=>(nomatch hk)⟩⟩,frames:=Hw _ _ _ _,pred:=hp,succ:=hs,wrd:=hw,prf:=fun _ _ _=>⟨hz,hz,hz⟩,rets:=⟨hz,hz,hz⟩,fits:=fun _ h=>(by cases h),over:=Over.refl _ _,mayD:=fun k hk=>.inl (dU hm hk),own:=⟨.inl ⟨_,_,_,ht,Zs⟩,.inl ⟨_,_,_,hp,Zs⟩,.inl ⟨_,_,_,hs,Zs⟩,.inl ⟨_,_,_,hw,Zs⟩⟩,fvD:=fun k hk=>(by cases hk),apart:=ha}
section
theorem Wc {P:Program} {w:World} {a:Addr} {m:Mode} (n:FuncId):(store a (.func (.func n) #[] #[]) m).run P w=stored P w a (.func (.func n) #[] #[]) m:=run_store P w a _ m rfl
attribute [local go_sem] Cs Cq De Dd Cj Ci Cr Cp Wc
set_option linter.unusedVariables false
set_option linter.unusedSimpArgs false
variable {c:Cf}
def Bn (n:Nat) (w:World) (k:Nat):Prop:=Bt w k∧n≤k
theorem Ik {w:World} {k:Nat} {cs:Array Value} {t:TypeId} {fr:Nat×Nat} (h:w.heap[k]?=some (.cells cs t fr)) (ht:t≠96∧t≠142∧t≠82∧t≠151∧t≠138∧t≠3∧t≠104∧t≠111):¬ Bt w k:=by
 rintro ⟨cs',t',fr',h',e⟩
 rw [h] at h'
 injection h' with h'
 injection h' with _ h2 _
 subst h2
 obtain ⟨a1,a2,a3,a4,a5,a6,a7,a8⟩:=ht
 rcases e with e|e|e|e|e|e|e|e<;>contradiction
theorem Ix.rebaseN {tid:Int} {A:Ad} {T:Td} {B:Nat→Prop} {w0 w:World} {fv:Value} {s:St} {l:List Fr} {n:Nat} (H:Ix c tid A T B w0 fv s l w) (hB:∀ k,B k→n≤k) (hn:n≤w0.heap.size):Ix c tid A T (Bn n w) w fv s l w:=by
 have low:∀ k,(B k∨w0.heap.size≤k)→n≤k:=fun k h=>h.elim (hB k) (Nat.le_trans hn)
 have H2:=H.rebase
 have own:∀ k,(B k∨w0.heap.size≤k)→(Bt w k∨w.heap.size≤k)→Bn n w k∨w.heap.size≤k:=fun k h1 h2=>h2.imp (fun h=>⟨h,low k h1⟩) id
 obtain ⟨rv,dv,ht,hr,hd,k1,k2⟩:=H.thr
 exact {mach:=H.mach,thr:=⟨rv,dv,ht,hr,hd,fun k hk=>⟨(k1 k hk).1,(k1 k hk).2.1,.inl ⟨Mm hr (.inl rfl) hk,low k (k1 k hk).2.2⟩⟩,fun k hk=>⟨(k2 k hk).1,.inl ⟨Oy hd hk,low k (k2 k hk).2⟩⟩⟩,frames:=H.frames,pred:=H.pred,succ:=H.succ,wrd:=H.wrd,prf:=H.prf,rets:=H.rets,fits:=H.fits,over:=Over.refl _ _,mayD:=fun k hk=>own k (H.mayD k hk) (H2.mayD k hk),own:=⟨own _ H.own.1 H2.own.1,own _ H.own.2.1 H2.own.2.1,own _ H.own.2.2.1 H2.own.2.2.1,own _ H.own.2.2.2 H2.own.2.2.2⟩,fvD:=fun k hk=>own k (H.fvD k hk) (H2.fvD k hk),apart:=H.apart}
structure Rest (c:Cf) (A:Ad) (T:Td) (qb thb n:Nat) (s:St) (w:World):Prop where
 low:n≤w.heap.size
 all:∃ fv,Ix c 0 A T (Bn n w) w fv s [] w
 q:IsQ c A T (Bn n w) qb thb w
 thty:∃ cs,w.heap[thb]?=some (.cells cs 98 (0,0))
theorem Rest.to {A:Ad} {T:Td} {qb thb n:Nat} {s s1:St} {w w1:World} (R:Rest c A T qb thb n s w) {fv:Value} (H:Ix c 0 A T (Bn n w) w fv s1 [] w1):Rest c A T qb thb n s1 w1:=by
 obtain ⟨cs,hth⟩:=R.thty
 have hq:=H.over.blk R.q.q R.q.qB
 have ht:=H.over.blk hth R.q.thB
 exact ⟨Nat.le_trans R.low H.over.size,⟨fv,H.rebaseN (fun k hk=>hk.2) R.low⟩,⟨hq,fun h=>Ik hq Zd h.1,H.over.cell R.q.th R.q.thB,fun h=>Ik ht Zd h.1,R.q.thr⟩,⟨cs,ht⟩⟩
theorem Rest.same {A:Ad} {T:Td} {qb thb n:Nat} {s:St} {w w1:World} (R:Rest c A T qb thb n s w) (hb:Below w.heap.size w w1):Rest c A T qb thb n s w1:=by
 obtain ⟨fv,H⟩:=R.all
 exact R.to (H.same hb)
theorem Rest.mono {A:Ad} {T:Td} {qb thb n n1:Nat} {s:St} {w:World} (R:Rest c A T qb thb n s w) (h:n1≤n):Rest c A T qb thb n1 s w:=by
 obtain ⟨cs,hth⟩:=R.thty
 obtain ⟨fv,H⟩:=R.all
 exact ⟨Nat.le_trans h R.low,⟨fv,H.rebaseN (fun k hk=>Nat.le_trans h hk.2) (Nat.le_trans h R.low)⟩,⟨R.q.q,fun h=>Ik R.q.q Zd h.1,R.q.th,fun h=>Ik hth Zd h.1,R.q.thr⟩,⟨cs,hth⟩⟩
def Alien (w:World) (k:Nat):Prop:=∀ cs t fr,w.heap[k]?=some (.cells cs t fr)→t≠96∧t≠142∧t≠82∧t≠151∧t≠138∧t≠3∧t≠104∧t≠111∧t≠5∧t≠61∧t≠98
theorem Alien.bt {w:World} {k:Nat} (h:Alien w k):¬ Bt w k:=by
 rintro ⟨cs,t,fr,hk,e⟩
 obtain ⟨a1,a2,a3,a4,a5,a6,a7,a8,_⟩:=h cs t fr hk
 rcases e with e|e|e|e|e|e|e|e<;>contradiction
theorem Ix.far {tid:Int} {A:Ad} {T:Td} {S:Nat→Prop} {w w1:World} {fv:Value} {s:St} {l:List Fr} {n:Nat} (h:Ix c tid A T (Bn n w) w fv s l w) (hn:n≤w.heap.size) (ho:Over S w w1) (hS:∀ k,S k→Alien w k):Ix c tid A T (Bn n w1) w1 fv s l w1:=by
 have low:∀ k,(Bn n w k∨w.heap.size≤k)→n≤k:=fun k h=>h.elim (fun h=>h.2) (Nat.le_trans hn)
 obtain ⟨g,aT,hm⟩:=h.mach
 obtain ⟨rv,dv,ht,hr,hd,hs1,hs2⟩:=h.thr
 have no:∀ {k:Nat},Bt w k→¬ S k:=fun hb hs=>(hS _ hs).bt hb
 have bt:∀ {k:Nat} {cs:Array Value} {t:TypeId},w.heap[k]?=some (.cells cs t (0,0))→(t=96∨t=142∨t=82∨t=151∨t=138∨t=3∨t=104∨t=111)→¬ S k:=fun hk ht=>no ⟨_,_,_,hk,ht⟩
 have hm1:IsMach c A s.mm g s.us aT w1:=by
  obtain ⟨ws,h1,h2,h3⟩:=hm.mm
  obtain ⟨st,hp⟩:=h1.head
  obtain ⟨X,cp,hf,_⟩:=hm.feed.head
  refine ⟨ho.blk hm.head (bt hm.head Zs),⟨ws,h1.over ho (bt hp Zs) (bt h1.row Zs),h2,h3⟩,hm.fits,fun gb tb e=>?_,?_⟩
  .have hg:=hm.gho gb tb e
   exact hg.over ho (bt hg.head Zs) (bt hg.row Zs)
  .exact hm.feed.over ho (bt hf Zs) (fun hp=>(hm.feed.row hp).elim fun cs h6 hs=>((hS _ hs) _ _ _ h6.1).2.2.2.2.2.2.2.2.1 rfl)
 have ht1:=ho.blk ht (bt ht Zs)
 have hr1:=Bi hr ho (fun k hk=>no (Mm hr (.inl rfl) hk))
 have hd1:=hd.over ho (fun k hk=>no (Oy hd hk))
 have hf1:=Bi h.frames ho (fun k hk=>no (Mm h.frames (.inr rfl) hk))
 have h2:=ho.blk h.pred (bt h.pred Zs)
 have h3:=ho.blk h.succ (bt h.succ Zs)
 have h4:=ho.blk h.wrd (bt h.wrd Zs)
 exact {mach:=⟨g,aT,hm1⟩,thr:=⟨rv,dv,ht1,hr1,hd1,fun k hk=>⟨(hs1 k hk).1,(hs1 k hk).2.1,.inl ⟨Mm hr1 (.inl rfl) hk,low k (hs1 k hk).2.2⟩⟩,fun k hk=>⟨(hs2 k hk).1,.inl ⟨Oy hd1 hk,low k (hs2 k hk).2⟩⟩⟩,frames:=hf1,pred:=h2,succ:=h3,wrd:=h4,prf:=h.prf,rets:=h.rets,fits:=h.fits,over:=Over.refl _ _,mayD:=fun k hk=>.inl ⟨dU hm1 hk,low k (h.mayD k hk)⟩,own:=⟨.inl ⟨⟨_,_,_,ht1,Zs⟩,low _ h.own.1⟩,.inl ⟨⟨_,_,_,h2,Zs⟩,low _ h.own.2.1⟩,.inl ⟨⟨_,_,_,h3,Zs⟩,low _ h.own.2.2.1⟩,.inl ⟨⟨_,_,_,h4,Zs⟩,low _ h.own.2.2.2⟩⟩,fvD:=fun k hk=>.inl ⟨Mm hf1 (.inr rfl) hk,low k (h.fvD k hk)⟩,apart:=h.apart}
theorem Rest.far {A:Ad} {T:Td} {qb thb n:Nat} {s:St} {w w1:World} {S:Nat→Prop} (R:Rest c A T qb thb n s w) (ho:Over S w w1) (hS:∀ k,S k→Alien w k):Rest c A T qb thb n s w1:=by
 obtain ⟨fv,H⟩:=R.all
 obtain ⟨cs,hth⟩:=R.thty
 have hn:∀ {k:Nat} {cs:Array Value} {t:TypeId},w.heap[k]?=some (.cells cs t (0,0))→t=61∨t=98→¬ S k:=by
  intro k cs t hk e hs
  obtain ⟨_,_,_,_,_,_,_,_,_,a,b⟩:=hS _ hs _ _ _ hk
  exact e.elim a b
 have hq:=ho.blk R.q.q (hn R.q.q (.inl rfl))
 have ht:=ho.blk hth (hn hth (.inr rfl))
 exact ⟨Nat.le_trans R.low ho.size,⟨fv,H.far R.low ho hS⟩,⟨hq,fun h=>Ik hq Zd h.1,ho.cell R.q.th (hn hth (.inr rfl)),fun h=>Ik ht Zd h.1,R.q.thr⟩,⟨cs,ht⟩⟩
theorem Rest.call (G:Good c 0) {A:Ad} {T:Td} {qb thb n:Nat} {s s':St} {w:World} {op key val:Int} (R:Rest c A T qb thb n s w) (h:Gw op key val) (hr:Runs c 0 s [first c op key val] s' []) :
  Calls Tryz.prog 10 #[Pt qb 0,Φ 0,.agg #[Φ op,.int .u32 key,.int .u32 val]] w fun e w'=>e=.returned (.tuple #[Mv s',Φ 0])∧Rest c A T qb thb n s' w'∧Over (Bn n w) w w':=by
 obtain ⟨fv,H⟩:=R.all
 refine (Ze G h hr R.q H).mono ?_
 rintro e w1 ⟨rfl,fv1,H1⟩
 exact ⟨rfl,R.to H1,H1.over⟩
theorem Xq (G:Good c 0) {A:Ad} {T:Td} {gq thb:Nat} {w0 w1 w2:World} (hf:Fresh c A T thb w0 w1) (hb:Below w1.heap.size w1 w2) (hq:w2.heap[gq]?=some (.cells #[Pt A.mb 0,.func (.func (Np c)) #[] #[],Φ (Ir c)] 61 (0,0))):Rest c A T gq thb w0.heap.size (st0 c) w2:=by
 have ht:=hf.td.over (Over.of_below (fun _=>False) hb) (fun _ _ _ _ _ h=>h)
 obtain ⟨cs,hth⟩:=hf.thty
 have H:=iY G (hf.mach.same hb) ht.tb ht.pr ht.sc ht.wd ht.ne
 have hz:w0.heap.size≤w2.heap.size:=Nat.le_trans hf.below.size hb.size
 have H1:Ix c 0 A T (Bn w0.heap.size w2) w2 (.slice none 0 0) (st0 c) [] w2:=
  {H with
   thr:=by
    exact ⟨.slice none 0 0,.slice none 0 0,ht.tb,Hw _ _ _ _,Or.inl ⟨rfl,Hw _ _ _ _⟩,fun k hk=>(nomatch hk),fun k hk=>(nomatch hk)⟩
   mayD:=fun k hk=>(H.mayD k hk).imp (fun h=>⟨h,hf.low k hk⟩) id
   own:=⟨H.own.1.imp (fun h=>⟨h,ht.low.1⟩) id,H.own.2.1.imp (fun h=>⟨h,ht.low.2.1⟩) id,H.own.2.2.1.imp (fun h=>⟨h,ht.low.2.2.1⟩) id,H.own.2.2.2.imp (fun h=>⟨h,ht.low.2.2.2⟩) id⟩
   over:=Over.refl _ _
   fvD:=fun k hk=>by cases hk}
 exact ⟨hz,⟨_,H1⟩,⟨hq,fun h=>Ik hq Zd h.1,(Over.of_below (fun _=>False) hb).cell hf.th (fun h=>h),fun h=>Ik (Ac hth hb) Zd h.1,hf.thr⟩,⟨_,Ac hth hb⟩⟩
theorem Sh (G:Good c 0) (FA:Option Addr) (fcp:Nat) (w:World) (hA:ReadsInt w .u8 FA c.bytes.length c.bytes) (hl:c.bytes.length≤4096) :
  Calls Tryz.prog 8 #[.agg #[Φ c.algo,Φ c.th,Φ c.ns,Φ c.lv,Φ c.batch,Φ c.probes,Φ c.scan],.slice FA c.bytes.length fcp,.bool true] w fun e w'=>∃ A T qb thb,e=.returned (.tuple #[Pt qb 0,Φ 0])∧Rest c A T qb thb w.heap.size (st0 c) w'∧Below w.heap.size w w':=by
 have HA:=Az.m hA
 have HL:=Az.m hl
 clear hA hl
 have hk:(c.algo=0∧Np c=15∧Ir c=11)∨(c.algo=1∧Np c=16∧Ir c=21)∨(c.algo=2∧Np c=17∧Ir c=31):=by
  have:=G.algo
  rcases (show c.algo=0∨c.algo=1∨c.algo=2 by omega) with h|h|h<;>simp [h,Np,Ir]
 rcases hk with ⟨ha,hd,hb⟩|⟨ha,hd,hb⟩|⟨ha,hd,hb⟩
 .have b0:=As ha
  have HD:=Az.m hd
  have HBS:=Az.m hb
  clear ha hd hb
  go_enter Tryz.func8,Tryz.ntmps8
  go_wp2_with (first|((with_reducible refine Al (N:=3) rfl ?_);go_must (refine Am ?hg (N:=3) ?hd (cs:=#[Φ c.algo,Φ c.th,Φ c.ns,Φ c.lv,Φ c.batch,Φ c.probes,Φ c.scan]) (t:=23) ?hr ?_;(case hd=>rfl);(case hg=>rfl);(case hr=>exact Λ18);intro g3 hg3 wg3 hbox hbl;have H3:=Az.m hbox;have HB:=Az.m hbl;have HLE:=Az.m hbl.size;obtain ⟨p0,p1,p2,p3,p4,p5,p6⟩:=bc7 hbox;clear hbox hbl hg3))|(go_at_call 14;refine (Kw G FA fcp _ (HA.o.below HB.o) HL.o).mono ?_;rintro e w1 ⟨A,T,thb,rfl,hf⟩;have HF:=Az.m hf;have hx:=Ac H3.o hf.below;have h1:=Ag HB.o hf.below;clear H3 HB p0 p1 p2 p3 p4 p5 p6;have H3:=Az.m hx;have HB:=Az.m h1;clear hf h1 hx)|((with_reducible refine Al (N:=23) rfl ?_);go_must (refine Am ?hg (N:=23) ?hd (cs:=#[Pt A.mb 0,.nilFunc,Φ 0]) (t:=61) ?hr ?_;(case hd=>rfl);(case hg=>rfl);(case hr=>exact Λ18);intro gq hgq wgq hbox hbl;have HQ:=Az.m hbox;have HBQ:=Az.m hbl;have HGQ:=Az.m (Nat.le_of_eq hgq.symm);have p0:wgq.cell? (Ψ g3 0)=some (Φ c.algo):=(Aa (Ac H3.o hbl) 0).trans rfl;have q1:wgq.cell? (Ψ gq 1)=some .nilFunc:=(Aa hbox 1).trans rfl;have q2:wgq.cell? (Ψ gq 2)=some (Φ 0):=(Aa hbox 2).trans rfl;have qf:=Ab hbox;clear hbox hbl hgq)))
  go_ret2
  exact ⟨A,T,gq,thb,rfl,Rest.mono (Xq G HF.o (Aq (Aq HBQ.o HGQ.o) HGQ.o) Λ139) HLE.o,Ag HB.o (Aq (Aq HBQ.o HGQ.o) HGQ.o)⟩
 .have b0:=Aj (show ¬ c.algo=0 by omega)
  have b1:=As ha
  have HD:=Az.m hd
  have HBS:=Az.m hb
  clear ha hd hb
  go_enter Tryz.func8,Tryz.ntmps8
  go_wp2_with (first|((with_reducible refine Al (N:=3) rfl ?_);go_must (refine Am ?hg (N:=3) ?hd (cs:=#[Φ c.algo,Φ c.th,Φ c.ns,Φ c.lv,Φ c.batch,Φ c.probes,Φ c.scan]) (t:=23) ?hr ?_;(case hd=>rfl);(case hg=>rfl);(case hr=>exact Λ18);intro g3 hg3 wg3 hbox hbl;have H3:=Az.m hbox;have HB:=Az.m hbl;have HLE:=Az.m hbl.size;obtain ⟨p0,p1,p2,p3,p4,p5,p6⟩:=bc7 hbox;clear hbox hbl hg3))|(go_at_call 14;refine (Kw G FA fcp _ (HA.o.below HB.o) HL.o).mono ?_;rintro e w1 ⟨A,T,thb,rfl,hf⟩;have HF:=Az.m hf;have hx:=Ac H3.o hf.below;have h1:=Ag HB.o hf.below;clear H3 HB p0 p1 p2 p3 p4 p5 p6;have H3:=Az.m hx;have HB:=Az.m h1;clear hf h1 hx)|((with_reducible refine Al (N:=23) rfl ?_);go_must (refine Am ?hg (N:=23) ?hd (cs:=#[Pt A.mb 0,.nilFunc,Φ 0]) (t:=61) ?hr ?_;(case hd=>rfl);(case hg=>rfl);(case hr=>exact Λ18);intro gq hgq wgq hbox hbl;have HQ:=Az.m hbox;have HBQ:=Az.m hbl;have HGQ:=Az.m (Nat.le_of_eq hgq.symm);have p0:wgq.cell? (Ψ g3 0)=some (Φ c.algo):=(Aa (Ac H3.o hbl) 0).trans rfl;have q1:wgq.cell? (Ψ gq 1)=some .nilFunc:=(Aa hbox 1).trans rfl;have q2:wgq.cell? (Ψ gq 2)=some (Φ 0):=(Aa hbox 2).trans rfl;have qf:=Ab hbox;clear hbox hbl hgq)))
  go_ret2
  exact ⟨A,T,gq,thb,rfl,Rest.mono (Xq G HF.o (Aq (Aq HBQ.o HGQ.o) HGQ.o) Λ139) HLE.o,Ag HB.o (Aq (Aq HBQ.o HGQ.o) HGQ.o)⟩
 .have b0:=Aj (show ¬ c.algo=0 by omega)
  have b1:=Aj (show ¬ c.algo=1 by omega)
  have HD:=Az.m hd
  have HBS:=Az.m hb
  clear ha hd hb
  go_enter Tryz.func8,Tryz.ntmps8
  go_wp2_with (first|((with_reducible refine Al (N:=3) rfl ?_);go_must (refine Am ?hg (N:=3) ?hd (cs:=#[Φ c.algo,Φ c.th,Φ c.ns,Φ c.lv,Φ c.batch,Φ c.probes,Φ c.scan]) (t:=23) ?hr ?_;(case hd=>rfl);(case hg=>rfl);(case hr=>exact Λ18);intro g3 hg3 wg3 hbox hbl;have H3:=Az.m hbox;have HB:=Az.m hbl;have HLE:=Az.m hbl.size;obtain ⟨p0,p1,p2,p3,p4,p5,p6⟩:=bc7 hbox;clear hbox hbl hg3))|(go_at_call 14;refine (Kw G FA fcp _ (HA.o.below HB.o) HL.o).mono ?_;rintro e w1 ⟨A,T,thb,rfl,hf⟩;have HF:=Az.m hf;have hx:=Ac H3.o hf.below;have h1:=Ag HB.o hf.below;clear H3 HB p0 p1 p2 p3 p4 p5 p6;have H3:=Az.m hx;have HB:=Az.m h1;clear hf h1 hx)|((with_reducible refine Al (N:=23) rfl ?_);go_must (refine Am ?hg (N:=23) ?hd (cs:=#[Pt A.mb 0,.nilFunc,Φ 0]) (t:=61) ?hr ?_;(case hd=>rfl);(case hg=>rfl);(case hr=>exact Λ18);intro gq hgq wgq hbox hbl;have HQ:=Az.m hbox;have HBQ:=Az.m hbl;have HGQ:=Az.m (Nat.le_of_eq hgq.symm);have p0:wgq.cell? (Ψ g3 0)=some (Φ c.algo):=(Aa (Ac H3.o hbl) 0).trans rfl;have q1:wgq.cell? (Ψ gq 1)=some .nilFunc:=(Aa hbox 1).trans rfl;have q2:wgq.cell? (Ψ gq 2)=some (Φ 0):=(Aa hbox 2).trans rfl;have qf:=Ab hbox;clear hbox hbl hgq)))
  go_ret2
  exact ⟨A,T,gq,thb,rfl,Rest.mono (Xq G HF.o (Aq (Aq HBQ.o HGQ.o) HGQ.o) Λ139) HLE.o,Ag HB.o (Aq (Aq HBQ.o HGQ.o) HGQ.o)⟩
end
end Go.Proofs.YtlejhikddkdanaaGreat.Mdl
namespace Go.Proofs.YtlejhikddkdanaaGreat.Mdl
open RowKit PTopSame Fns YtlejhikddkdanaaGreatW.PrintWords YtlejhikddkdanaaGreatW.PrintLast YtlejhikddkdanaaGreatW.PrintMore
def Rf:List (Int×Int)→Option (Int×Int)
 |[]=>none
 |p::l=>match Rf l with
  |none=>some p
  |some q=>if q.1<p.1 then some q else some p
theorem Py:∀ {l:List (Int×Int)},Rf l=none→l=[]
 |[],_=>rfl
 |p::l,h=>by
  unfold Rf at h
  split at h
  .cases h
  .split at h<;>cases h
theorem Lc:∀ {l:List (Int×Int)} {p:Int×Int},Rf l=some p→p ∈ l∧∀ q ∈ l,p.1≤q.1
 |[],p,h=>by cases h
 |a::l,p,h=>by
  unfold Rf at h
  split at h
  .rename_i h0
   cases h
   have:=Py h0
   subst this
   exact ⟨List.mem_cons_self,fun q hq=>by simp at hq;subst hq;exact Int.le_refl _⟩
  .rename_i q h0
   obtain ⟨h1,h2⟩:=Lc h0
   split at h<;>rename_i hc<;>cases h
   .refine ⟨List.mem_cons_of_mem _ h1,fun x hx=>?_⟩
    rcases List.mem_cons.1 hx with rfl|hx
    .omega
    .exact h2 x hx
   .refine ⟨List.mem_cons_self,fun x hx=>?_⟩
    rcases List.mem_cons.1 hx with rfl|hx
    .exact Int.le_refl _
    .have:=h2 x hx
     omega
def Ka (b:List (Int×Int)) (o:Int×Int×Int):List (Int×Int):=if o.1=0 then b++[(o.2.1,o.2.2)] else match Rf b with
 |none=>b
 |some p=>if o.1=1 then b.erase p else b
def Ht (b:List (Int×Int)) (o:Int×Int×Int):Int×Int×Int:=if o.1=0 then (0,0,0) else match Rf b with
 |none=>(3,0,0)
 |some p=>(2,p.1,p.2)
theorem fO:∀ {l:List (Int×Int)} {p q:Int×Int},(l.map Prod.fst).Nodup→p ∈ l→q ∈ l→p.1=q.1→p=q
 |[],_,_,_,h,_,_=>by cases h
 |a::l,p,q,hn,hp,hq,e=>by
  rw [List.map_cons,List.nodup_cons] at hn
  rcases List.mem_cons.1 hp with h1|h1<;>rcases List.mem_cons.1 hq with h2|h2
  .rw [h1,h2]
  .exact absurd (show a.1 ∈ l.map Prod.fst by rw [← h1,e];exact List.mem_map_of_mem h2) hn.1
  .exact absurd (show a.1 ∈ l.map Prod.fst by rw [← h2,← e];exact List.mem_map_of_mem h1) hn.1
  .exact fO hn.2 h1 h2 e
theorem iR {b bs b':List (Int×Int)} {op key val kind k v:Int} (h:mR b op key val kind k v b') (hp:b.Perm bs) (hn:(bs.map Prod.fst).Nodup):(kind,k,v)=Ht bs (op,key,val)∧b'.Perm (Ka bs (op,key,val)):=by
 unfold Ht Ka
 rcases h with ⟨rfl,rfl,rfl,rfl,h⟩|⟨h0,rfl,rfl,rfl,rfl,rfl⟩|⟨h0,rfl,hm,hl,h⟩
 .exact ⟨rfl,h.trans (((List.Perm.cons _ hp)).trans (List.perm_append_singleton _ _).symm)⟩
 .have:=hp.symm.eq_nil
  subst this
  simp [h0,Rf]
 .dsimp only
  rw [if_neg h0,if_neg h0]
  cases hmp:Rf bs with
  |none=>
   rw [Py hmp] at hp
   rw [hp.eq_nil] at hm
   cases hm
  |some p=>
   obtain ⟨h1,h2⟩:=Lc hmp
   have e:p=(k,v):=fO hn h1 (hp.mem_iff.1 hm) (Int.le_antisymm (h2 (k,v) (hp.mem_iff.1 hm)) (hl p (hp.mem_iff.2 h1)))
   subst e
   refine ⟨rfl,?_⟩
   rcases h with ⟨rfl,h⟩|⟨rfl,h⟩
   .have h3:=((hp.symm.trans h).erase (k,v)).symm
    rw [List.erase_cons_head] at h3
    simpa using h3
   .simpa using h.trans hp
theorem gE {b:List (Int×Int)} {o:Int×Int×Int} {p:Int×Int} (h:p ∈ Ka b o):p ∈ b∨(o.1=0∧p=(o.2.1,o.2.2)):=by
 unfold Ka at h
 split at h
 .rename_i h0
  rcases List.mem_append.1 h with h|h
  .exact .inl h
  .exact .inr ⟨h0,by simpa using h⟩
 .split at h
  .exact .inl h
  .split at h
   .exact .inl (List.mem_of_mem_erase h)
   .exact .inl h
theorem Yo {b:List (Int×Int)} {o:Int×Int×Int} (h:(b.map Prod.fst).Nodup) (hk:o.1=0→∀ p ∈ b,p.1≠o.2.1):((Ka b o).map Prod.fst).Nodup:=by
 unfold Ka
 split
 .rename_i h0
  rw [List.map_append,List.nodup_append]
  refine ⟨h,Zs,fun a ha c hc=>?_⟩
  obtain ⟨p,hp,rfl⟩:=List.mem_map.1 ha
  simp at hc
  rw [hc]
  exact hk h0 p hp
 .split
  .exact h
  .split
   .exact ((List.erase_sublist).map _).nodup h
   .exact h
theorem Vt (b:List (Int×Int)) (o:Int×Int×Int):(Ka b o).length≤b.length+1:=by
 unfold Ka
 split
 .simp
 .split
  .omega
  .split
   .have:=List.length_erase_le (l:=b) (a:=‹Int×Int›)
    omega
   .omega
def Bp (cs:List (Int×Int×Int)) (i:Nat):Int×Int×Int:=cs.getD i (0,0,0)
def Jj (cs:List (Int×Int×Int)):Nat→List (Int×Int)
 |0=>[]
 |i+1=>Ka (Jj cs i) (Bp cs i)
def Is (cs:List (Int×Int×Int)) (i:Nat):Int×Int×Int:=Ht (Jj cs i) (Bp cs i)
def Tw (cs:List (Int×Int×Int)):Prop:=∀ i j,j<i→i<cs.length→(Bp cs i).1=0→(Bp cs j).1=0→(Bp cs i).2.1≠(Bp cs j).2.1
theorem Ts {cs:List (Int×Int×Int)}:∀ {i:Nat} {p:Int×Int},p ∈ Jj cs i→∃ j,j<i∧(Bp cs j).1=0∧p=((Bp cs j).2.1,(Bp cs j).2.2)
 |0,p,h=>by cases h
 |i+1,p,h=>by
  rcases gE h with h|⟨h,e⟩
  .obtain ⟨j,h1,h2⟩:=Ts h
   exact ⟨j,Zo,h2⟩
  .exact ⟨i,Zo,h,e⟩
theorem Tr {cs:List (Int×Int×Int)} (hu:Tw cs):∀ {i:Nat},i≤cs.length→((Jj cs i).map Prod.fst).Nodup
 |0,_=>List.nodup_nil
 |i+1,h=>by
  refine Yo (Tr hu Zo) fun h0 p hp=>?_
  obtain ⟨j,h1,h2,rfl⟩:=Ts hp
  exact Ne.symm (hu i j h1 Zo h0 h2)
theorem Rc (cs:List (Int×Int×Int)):∀ i:Nat,(Jj cs i).length≤i
 |0=>Nat.le_refl _
 |i+1=>Nat.le_trans (Vt _ _) (Nat.succ_le_succ (Rc cs i))
def Fc (p:Int×Int):S66:=⟨p.1,p.2⟩
theorem fF {b:List (Int×Int)} {i:Nat} (h:i<b.length):Ax (b.map Fc) (i:Int)=Fc b[i]:=by
 unfold Ax
 rw [Int.toNat_natCast,List.getD_eq_getElem?_getD,List.getElem?_map,List.getElem?_eq_getElem h]
 rfl
theorem Rj {i:Nat} (h:i<1000):wrap64 ((i:Int)+1)=((i+1:Nat):Int):=by unfold wrap64;omega
theorem Sx {b:List (Int×Int)} (hb:b.length≤1000):∀ (n i k:Nat) (x:Int),i+n=b.length→n+1≤k→∃ m,jostleref13_Least.l0 k (b.map Fc) x i=some (m,true)∧m≤x∧(∀ p ∈ b.drop i,m≤p.1)∧(m=x∨∃ p ∈ b.drop i,p.1=m)
 |0,i,k+1,x,h,_=>by
  unfold jostleref13_Least.l0
  rw [if_neg Λ141]
  refine ⟨x,rfl,Int.le_refl _,fun p hp=>?_,.inl rfl⟩
  rw [List.drop_of_length_le Zo] at hp
  cases hp
 |n+1,i,k+1,x,h,hk=>by
  have hi:i<b.length:=Zo
  unfold jostleref13_Least.l0
  rw [if_pos Λ141,if_pos Zo,fF hi,Rj Zo,List.drop_eq_getElem_cons hi]
  by_cases hc:(Fc b[i]).f0<x
  .rw [if_pos hc]
   obtain ⟨m,h1,h2,h3,h4⟩:=Sx hb n (i+1) k (Fc b[i]).f0 Zo Zo
   refine ⟨m,h1,Zo,fun p hp=>?_,.inr ?_⟩
   .rcases List.mem_cons.1 hp with rfl|hp
    .exact h2
    .exact h3 p hp
   .rcases h4 with h4|⟨p,hp,h4⟩
    .exact ⟨_,List.mem_cons_self,h4.symm⟩
    .exact ⟨p,List.mem_cons_of_mem _ hp,h4⟩
  .rw [if_neg hc]
   obtain ⟨m,h1,h2,h3,h4⟩:=Sx hb n (i+1) k x Zo Zo
   refine ⟨m,h1,h2,fun p hp=>?_,h4.imp id fun ⟨p,hp,h4⟩=>⟨p,List.mem_cons_of_mem _ hp,h4⟩⟩
   rcases List.mem_cons.1 hp with rfl|hp
   .exact Int.le_trans h2 (Int.not_lt.1 hc)
   .exact h3 p hp
theorem Rp {b:List (Int×Int)} (hb:b.length≤1000):jostleref13_Least.f 1100 (b.map Fc)=some (match Rf b with|none=>(0,false)|some p=>(p.1,true)):=by
 unfold jostleref13_Least.f
 cases hm:Rf b with
 |none=>rw [Py hm];rfl
 |some p=>
  obtain ⟨h1,h2⟩:=Lc hm
  have hl:0<b.length:=List.length_pos_of_mem h1
  rw [if_neg Λ141,if_pos Λ141]
  obtain ⟨m,e,h3,h4,h5⟩:=Sx hb b.length 0 1100 (Ax (b.map Fc) 0).f0 Zo Zo
  have e':jostleref13_Least.l0 1100 (b.map Fc) (Ax (b.map Fc) 0).f0 0=some (m,true):=e
  rw [e']
  have e0:(Ax (b.map Fc) 0).f0=(b[0]).1:=congrArg S66.f0 (fF (i:=0) hl)
  have:m=p.1:=by
   rw [List.drop_zero] at h4 h5
   refine Int.le_antisymm (h4 p h1) ?_
   rcases h5 with h5|⟨q,hq,h5⟩
   .rw [h5,e0]
    exact h2 _ (List.getElem_mem hl)
   .rw [← h5]
    exact h2 q hq
  rw [this]
theorem Tn {b:List (Int×Int)} (hb:b.length≤1000) (p:Int×Int):∀ (n i k c:Nat),i+n=b.length→n+1≤k→c≤i→∃ r:Nat,jostleref13_Count.l0 k (b.map Fc) c i p.1 p.2=some (r:Int)∧c≤r∧(p ∈ b.drop i→c<r)
 |0,i,k+1,c,h,_,_=>by
  unfold jostleref13_Count.l0
  rw [if_neg Λ141]
  refine ⟨c,rfl,Nat.le_refl _,fun hp=>?_⟩
  rw [List.drop_of_length_le Zo] at hp
  cases hp
 |n+1,i,k+1,c,h,hk,hc=>by
  have hi:i<b.length:=Zo
  unfold jostleref13_Count.l0
  rw [if_pos Λ141,if_pos Zo,fF hi,Rj (show i<1000 by omega),Rj (show c<1000 by omega),List.drop_eq_getElem_cons hi]
  split
  .obtain ⟨r,h1,h2,_⟩:=Tn hb p n (i+1) k (c+1) Zo Zo Zo
   exact ⟨r,h1,Zo,fun _=>Zo⟩
  .rename_i hne
   obtain ⟨r,h1,h2,h3⟩:=Tn hb p n (i+1) k c Zo Zo Zo
   refine ⟨r,h1,h2,fun hp=>?_⟩
   rcases List.mem_cons.1 hp with e|hp
   .exfalso
    apply hne
    rw [← e]
    simp [Fc]
   .exact h3 hp
theorem Ll {b:List (Int×Int)} (hb:b.length≤1000) (p:Int×Int):∀ (n i k:Nat) (out:List (Int×Int)) (gone:Bool),i+n=b.length→n+1≤k→out.length≤i→jostleref13_Without.l0 k (b.map Fc) (out.map Fc) gone i p.1 p.2=some ((out++if gone then b.drop i else (b.drop i).erase p).map Fc)
 |0,i,k+1,out,gone,h,_,_=>by
  unfold jostleref13_Without.l0
  rw [if_neg Λ141,List.drop_of_length_le Zo]
  simp
 |n+1,i,k+1,out,gone,h,hk,ho=>by
  have hi:i<b.length:=Zo
  unfold jostleref13_Without.l0
  rw [if_pos Λ141,if_pos Zo,fF hi,Rj (show i<1000 by omega),List.drop_eq_getElem_cons hi]
  have ha:out.map Fc++[(⟨(Fc b[i]).f0,(Fc b[i]).f1⟩:S66)]=(out++[b[i]]).map Fc:=by simp [Fc]
  have hl:(out.map Fc).length<17592186044416:=by rw [List.length_map];omega
  have ho2:(out++[b[i]]).length≤i+1:=by simp;omega
  by_cases hc:((Fc b[i]).f0==p.1 && (Fc b[i]).f1==p.2)=true
  .have e:b[i]=p:=by
    simp [Fc] at hc
    exact Prod.ext hc.1 hc.2
   rw [if_pos hc]
   cases gone
   .rw [if_neg Zd,Ll hb p n (i+1) k out true Zo Zo Zo,e,List.erase_cons_head]
    rfl
   .rw [if_pos rfl,if_pos hl,ha,Ll hb p n (i+1) k (out++[b[i]]) true Zo Zo ho2]
    simp
  .have e:b[i]≠p:=by
    intro e
    apply hc
    rw [e]
    simp [Fc]
   rw [if_neg hc,if_pos hl,ha,Ll hb p n (i+1) k (out++[b[i]]) gone Zo Zo ho2]
   cases gone
   .have e5:(b[i]==p)=false:=by rw [beq_eq_false_iff_ne];exact e
    rw [List.erase_cons_tail (by rw [e5];decide)]
    simp
   .simp
theorem Rs {op key val kind a v:Int} (h:Pf op key val) (hk:(op=0∧(kind=0∨kind=1)∧a=0∧v=0)∨(op≠0∧((kind=3∧a=0∧v=0)∨kind=2))):jostleref12_Fits.f op key val kind a v=some true:=by
 unfold jostleref12_Fits.f jostleref09_Right.f jostleref09_May.f
 rcases h with ⟨rfl,_⟩|⟨rfl|rfl,rfl,rfl⟩<;>rcases hk with ⟨h0,rfl|rfl,rfl,rfl⟩|⟨h0,⟨rfl,rfl,rfl⟩|rfl⟩<;>first|(exfalso;omega)|(simp;done)|rfl
theorem wD {b:List (Int×Int)} (hb:b.length≤1000) {op key val:Int} (h:Pf op key val):jostleref13_Do.f 1100 (b.map Fc) op key val (Ht b (op,key,val)).1 (Ht b (op,key,val)).2.1 (Ht b (op,key,val)).2.2=some ((Ka b (op,key,val)).map Fc,true):=by
 unfold jostleref13_Do.f
 by_cases h0:op=0
 .subst h0
  rw [Rs h (.inl ⟨rfl,by simp [Ht],by simp [Ht],by simp [Ht]⟩),Option.bind_some,if_pos rfl,Rp hb,Option.bind_some]
  simp [Ht,Ka,Fc]
  omega
 .cases hm:Rf b with
  |none=>
   have hs:Ht b (op,key,val)=(3,0,0):=by unfold Ht;rw [if_neg h0,hm]
   have hg:Ka b (op,key,val)=b:=by unfold Ka;rw [if_neg h0,hm]
   rw [hs,hg,Rs h (.inr ⟨h0,.inl ⟨rfl,rfl,rfl⟩⟩),Option.bind_some,if_pos rfl,Rp hb,hm]
   rfl
  |some p=>
   obtain ⟨h1,h2⟩:=Lc hm
   have hs:Ht b (op,key,val)=(2,p.1,p.2):=by unfold Ht;rw [if_neg h0,hm]
   rw [hs,Rs h (.inr ⟨h0,.inr rfl⟩),Option.bind_some,if_pos rfl,Rp hb,hm,Option.bind_some]
   dsimp only
   obtain ⟨r,e,_,hr⟩:=Tn hb p b.length 0 1100 0 Zo Zo (Nat.le_refl _)
   have hr:=hr (by simpa using h1)
   have e2:jostleref13_Count.f 1100 (b.map Fc) p.1 p.2=some (r:Int):=e
   rw [if_neg Zd,if_neg Zd,if_neg Zd,e2,Option.bind_some,if_neg Zo]
   have ej:∀ z,jostleref13_Do.j0 1100 (b.map Fc) z op key val p.1 p.2=(if z=true then some (b.map Fc,false) else if op=1 then (jostleref13_Without.f 1099 (b.map Fc) p.1 p.2).bind fun t=>some (t,true) else some (b.map Fc,true)):=fun z=>rfl
   have e3:(p.1 != p.1)=false:=Zs
   rw [ej,e3,if_neg Zd]
   unfold Ka
   rw [if_neg h0,hm]
   dsimp only
   split
   .have e4:jostleref13_Without.f 1099 (b.map Fc) p.1 p.2=some ((b.erase p).map Fc):=by
     have:=Ll hb p b.length 0 1099 [] false Zo Zo (Nat.le_refl _)
     simpa [jostleref13_Without.f] using this
    rw [e4]
    rfl
   .rfl
theorem oF {b:List (Int×Int)} (hb:b.length≤1000) {key val:Int} (h:Pf 0 key val):jostleref13_Do.f 1100 (b.map Fc) 0 key val 1 0 0=some (b.map Fc,true):=by
 unfold jostleref13_Do.f
 rw [Rs h (.inl ⟨rfl,.inr rfl,rfl,rfl⟩),Option.bind_some,if_pos rfl,Rp hb]
 rfl
end Go.Proofs.YtlejhikddkdanaaGreat.Mdl
namespace Go.Proofs.YtlejhikddkdanaaGreat.Mdl
open RowKit PTopSame Wk Fns YtlejhikddkdanaaGreatW.PrintWords YtlejhikddkdanaaGreatW.PrintLast YtlejhikddkdanaaGreatW.PrintMore
variable {c:Cf} {tid:Int} {A:Ad} {T:Td} {B:Nat→Prop} {w0 w w1 w2 w6 w7:World} {fv fv':Value} {s s':St} {l l' fs:List Fr} {f f':Fr} {fb cap ga gb qb thb:Nat}
theorem nF (j t n l b p s:Int):∃ r,jostleref06_Right.f 1 j t n l b p s=some r∧(r=true→∀ bytes:List Int,(∀ x ∈ bytes,0≤x∧x≤255)→Good ⟨j,t,n,l,b,p,s,bytes⟩ 0):=by
 unfold jostleref06_Right.f
 by_cases h0:j<0
 .exact ⟨false,by rw [if_pos h0];rfl,fun h=>by cases h⟩
 by_cases h1:j>2
 .exact ⟨false,by rw [if_neg h0,if_pos h1];rfl,fun h=>by cases h⟩
 by_cases h2:t<1
 .exact ⟨false,by rw [if_neg h0,if_neg h1,if_pos h2];rfl,fun h=>by cases h⟩
 by_cases h3:t>6
 .exact ⟨false,by rw [if_neg h0,if_neg h1,if_neg h2,if_pos h3];rfl,fun h=>by cases h⟩
 by_cases h4:n<1
 .exact ⟨false,by rw [if_neg h0,if_neg h1,if_neg h2,if_neg h3,if_pos h4];rfl,fun h=>by cases h⟩
 by_cases h5:n>64
 .exact ⟨false,by rw [if_neg h0,if_neg h1,if_neg h2,if_neg h3,if_neg h4,if_pos h5];rfl,fun h=>by cases h⟩
 by_cases h6:l<1
 .exact ⟨false,by rw [if_neg h0,if_neg h1,if_neg h2,if_neg h3,if_neg h4,if_neg h5,if_pos h6];rfl,fun h=>by cases h⟩
 rw [if_neg h0,if_neg h1,if_neg h2,if_neg h3,if_neg h4,if_neg h5,if_neg h6]
 have ej:∀ z,jostleref06_Right.j0 1 z j t n l b p s=(if z=true then some false else if b<1 then some false else if b>16 then some false else if p<1 then some false else if p>16 then some false else if s<1 then some false else if s>64 then some false else (jostleref06_Sentinels.f j t n l b p s).bind fun t218=>some (decide (n>t218))):=fun z=>rfl
 rw [ej]
 by_cases h7:l>6
 .exact ⟨false,by rw [decide_eq_true h7];rfl,fun h=>by cases h⟩
 rw [decide_eq_false h7,if_neg Zd]
 by_cases h8:b<1
 .exact ⟨false,by rw [if_pos h8],fun h=>by cases h⟩
 by_cases h9:b>16
 .exact ⟨false,by rw [if_neg h8,if_pos h9],fun h=>by cases h⟩
 by_cases h10:p<1
 .exact ⟨false,by rw [if_neg h8,if_neg h9,if_pos h10],fun h=>by cases h⟩
 by_cases h11:p>16
 .exact ⟨false,by rw [if_neg h8,if_neg h9,if_neg h10,if_pos h11],fun h=>by cases h⟩
 by_cases h12:s<1
 .exact ⟨false,by rw [if_neg h8,if_neg h9,if_neg h10,if_neg h11,if_pos h12],fun h=>by cases h⟩
 by_cases h13:s>64
 .exact ⟨false,by rw [if_neg h8,if_neg h9,if_neg h10,if_neg h11,if_neg h12,if_pos h13],fun h=>by cases h⟩
 rw [if_neg h8,if_neg h9,if_neg h10,if_neg h11,if_neg h12,if_neg h13]
 unfold jostleref06_Sentinels.f
 by_cases hj:j=0
 .rw [if_pos hj,Option.bind_some]
  refine ⟨_,rfl,fun h bytes hb=>?_⟩
  have h:=of_decide_eq_true h
  exact ⟨⟨by show 0≤j;omega,by show j≤2;omega⟩,⟨by show 1≤t;omega,by show t≤6;omega⟩,⟨by show (if j=0 then 0 else 2)<n;rw [if_pos hj];omega,by show n≤64;omega⟩,⟨by show 1≤l;omega,by show l≤6;omega⟩,⟨by show 1≤b;omega,by show b≤16;omega⟩,⟨by show 1≤p;omega,by show p≤16;omega⟩,⟨by show 1≤s;omega,by show s≤64;omega⟩,hb,⟨Int.le_refl _,by show 0<t;omega⟩⟩
 .rw [if_neg hj,Option.bind_some]
  refine ⟨_,rfl,fun h bytes hb=>?_⟩
  have h:=of_decide_eq_true h
  exact ⟨⟨by show 0≤j;omega,by show j≤2;omega⟩,⟨by show 1≤t;omega,by show t≤6;omega⟩,⟨by show (if j=0 then 0 else 2)<n;rw [if_neg hj];omega,by show n≤64;omega⟩,⟨by show 1≤l;omega,by show l≤6;omega⟩,⟨by show 1≤b;omega,by show b≤16;omega⟩,⟨by show 1≤p;omega,by show p≤16;omega⟩,⟨by show 1≤s;omega,by show s≤64;omega⟩,hb,⟨Int.le_refl _,by show 0<t;omega⟩⟩
theorem kK (a t n l b p s j:Int):∃ r,(r=true→∀ bytes:List Int,(∀ x ∈ bytes,0≤x∧x≤255)→Good ⟨j,t,n,l,b,p,s,bytes⟩ 0)∧∀ w:World,
  Calls Tryz.prog 6 #[.agg #[Φ a,Φ t,Φ n,Φ l,Φ b,Φ p,Φ s],Φ j] w fun e w'=>e=.returned (.tuple #[.agg #[Φ j,Φ t,Φ n,Φ l,Φ b,Φ p,Φ s],.bool r])∧Below w.heap.size w w':=by
 obtain ⟨r,h1,h2⟩:=nF j t n l b p s
 exact ⟨r,h2,fun w=>jostletop_of.calls 1 a t n l b p s j j t n l b p s r w (by unfold jostletop_of.f;rw [h1];rfl)⟩
def jA (a:Int×Int×Int):Value:=.agg #[Φ a.1,.int .u32 a.2.1,.int .u32 a.2.2]
def Jk (cs:List (Int×Int×Int)) (i:Nat):Prop:=Gw (Bp cs i).1 (Bp cs i).2.1 (Bp cs i).2.2
theorem bS {s:St} {k a v:Int} (hk:0≤k∧k<4) (ha:0≤a∧a<4294967296) (hv:0≤v∧v<4294967296):Mv (s.told k a v)=jA (k,a,v):=by
 unfold Mv jA
 show Value.agg #[Φ (wrap64 k),.int .u32 (a % 4294967296),.int .u32 (v % 4294967296)]=_
 rw [Int.emod_eq_of_lt ha.1 ha.2,Int.emod_eq_of_lt hv.1 hv.2,show wrap64 k=k by unfold wrap64;omega]
theorem cM {cs:List (Int×Int×Int)} {i:Nat} (hr:∀ j,j<i→Jk cs j):(0≤(Is cs i).1∧(Is cs i).1<4)∧(0≤(Is cs i).2.1∧(Is cs i).2.1<4294967296)∧(0≤(Is cs i).2.2∧(Is cs i).2.2<4294967296):=by
 unfold Is Ht
 split
 .decide
 .split
  .decide
  .rename_i p hp
   obtain ⟨j,h1,h2,rfl⟩:=Ts (Lc hp).1
   have:=hr j h1
   unfold Jk Gw at this
   dsimp only
   omega
theorem Sq {c:Cf} (G:Good c 0) {s:St} {bm:List (Int×Int)} {cs:List (Int×Int×Int)} {i:Nat} (hq:Q c s bm i) (hp:bm.Perm (Jj cs i)) (hu:Tw cs) (hi:i<cs.length) (h40:cs.length≤40) (hr:∀ j,j≤i→Jk cs j) :
  ∃ s':St,Runs c 0 s [first c (Bp cs i).1 (Bp cs i).2.1 (Bp cs i).2.2] s' []∧(((Bp cs i).1=0∧Mv s'=jA (1,0,0))∨(Mv s'=jA (Is cs i)∧∃ bm',Q c s' bm' (i+1)∧bm'.Perm (Jj cs (i+1)))):=by
 obtain ⟨s',k,a,v,r,h⟩:=mC G (op:=(Bp cs i).1) (key:=(Bp cs i).2.1) (val:=(Bp cs i).2.2) hq Zo (hr i (Nat.le_refl _))
 refine ⟨_,r,?_⟩
 rcases h with ⟨h0,rfl,rfl,rfl⟩|⟨bm',hd,hq'⟩
 .exact .inl ⟨h0,bS Zd Zd Zd⟩
 .obtain ⟨e,hp'⟩:=iR hd hp (Tr hu (Nat.le_of_lt hi))
  have e:(k,a,v)=Is cs i:=e
  have hf:=cM (cs:=cs) (i:=i) (fun j hj=>hr j (Nat.le_of_lt hj))
  rw [← e] at hf ⊢
  exact .inr ⟨bS hf.1 hf.2.1 hf.2.2,bm',hq',hp'⟩
section
attribute [local go_sem] Cs Cq De Dd Cj Ci Cr Cp
theorem pJ (d:Nat) (w:World) (x0 y0 x1 y1 x2 y2:Int) :
  (Op.equalIn (d+2) 46 (.agg #[Φ x0,.int .u32 x1,.int .u32 x2]) (.agg #[Φ y0,.int .u32 y1,.int .u32 y2])).run Tryz.prog w=.ok (x0==y0 && (x1==y1 && (x2==y2))) w:=by
 refine Tm Tryz.underlying46 Zk ?_
 refine Ec (by rfl) (by go_simp;rfl) (by go_simp;rfl) (by go_simp) ?_
 refine Ec (by rfl) (by go_simp;rfl) (by go_simp;rfl) (by go_simp) ?_
 exact Mt (by rfl) (by go_simp;rfl) (by go_simp;rfl) (by go_simp)
attribute [local go_sem high] pJ
theorem Tq {N n:Nat} {w w1 w2:World} (h:Below N w w1) (k:Below n w1 w2) (hn:N≤n):Below N w w2:=
 ⟨k.os.trans h.os,k.tape.trans h.tape,k.output.trans h.output,Nat.le_trans h.size k.size,fun i hi=>(k.block i (Nat.lt_of_lt_of_le hi hn)).trans (h.block i hi)⟩
theorem Zm {n:Nat} {w w1:World} (h:Over (Bn n w) w w1) (hn:n≤w.heap.size):Below n w w1:=
 ⟨h.os,h.tape,h.output,h.size,fun i hi=>h.block i (Nat.lt_of_lt_of_le hi hn) (fun hb=>by have:=hb.2;omega)⟩
theorem Pd {w:World} {g:Nat} {cs:Array Value} {t:TypeId} (h:w.heap[g]?=some (.cells cs t (0,0))) (ht:t≠96∧t≠142∧t≠82∧t≠151∧t≠138∧t≠3∧t≠104∧t≠111∧t≠5∧t≠61∧t≠98):Alien w g:=by
 intro cs' t' fr' h'
 rw [h] at h'
 injection h' with h'
 injection h' with _ h2 _
 subst h2
 exact ht
theorem Lg {k:Nat} (hk:k<3):Good (cfL k) 0 where
 algo:=⟨by show (0:Int)≤(k:Int);omega,by show (k:Int)≤2;omega⟩
 th:=by show (1:Int)≤1∧(1:Int)≤6;decide
 ns:=⟨by show (if (k:Int)=0 then 0 else 2)<(4:Int);split<;>decide,by show (4:Int)≤64;decide⟩
 lv:=by show (1:Int)≤2∧(2:Int)≤6;decide
 batch:=by show (1:Int)≤1∧(1:Int)≤16;decide
 probes:=by show (1:Int)≤1∧(1:Int)≤16;decide
 scan:=by show (1:Int)≤1∧(1:Int)≤64;decide
 bytes:=fun b hb=>nomatch hb
 me:=by show (0:Int)≤0∧(0:Int)<1;decide
theorem gY {k:Nat} (hk:k<3) (w:World):Calls Tryz.prog 8 #[.agg #[Φ (k:Int),Φ 1,Φ 4,Φ 2,Φ 1,Φ 1,Φ 1],.slice none 0 0,.bool true] w fun e w'=>∃ A T qb thb,e=.returned (.tuple #[Pt qb 0,Φ 0])∧Rest (cfL k) A T qb thb w.heap.size (st0 (cfL k)) w'∧Below w.heap.size w w':=
 Sh (Lg hk) none 0 w ⟨rfl,Nat.zero_le _,fun h=>absurd h (Nat.lt_irrefl 0)⟩ (Nat.zero_le _)
def csL:List (Int×Int×Int):=[(0,4,9),(2,0,0)]
theorem Sc:Tw csL:=by
 intro i j hj hi h0
 have:i<2:=hi
 obtain rfl:i=1:=Zo
 cases h0
theorem Nc {i:Nat} (hi:i<2):Jk csL i:=by
 rcases (show i=0∨i=1 by omega) with rfl|rfl
 .exact .inl Zd
 .exact .inr Zd
theorem gZ {k n:Nat} (hk:k<3) {A:Ad} {T:Td} {qb thb:Nat} {w:World} (R:Rest (cfL k) A T qb thb n (st0 (cfL k)) w) :
  Calls Tryz.prog 10 #[Pt qb 0,Φ 0,.agg #[Φ 0,.int .u32 4,.int .u32 9]] w fun e w'=>e=.returned (.tuple #[.agg #[Φ 0,.int .u32 0,.int .u32 0],Φ 0])∧(∃ s bm,Rest (cfL k) A T qb thb n s w'∧Q (cfL k) s bm 1∧bm.Perm (Jj csL 1))∧Over (Bn n w) w w':=by
 obtain ⟨s',r,h⟩:=Sq (Lg hk) (cs:=csL) (i:=0) (q0 (Lg hk)) (List.Perm.refl _) Sc Zd Zd (fun j hj=>Nc Zo)
 have h0:=dY hk r
 refine (R.call (Lg hk) (Nc (i:=0) Zd) r).mono ?_
 rintro e w1 ⟨rfl,hr,ho⟩
 have ha:Mv s'=jA (0,0,0)∧∃ bm',Q (cfL k) s' bm' 1∧bm'.Perm (Jj csL 1):=by
  rcases h with ⟨_,h⟩|h
  .exfalso
   unfold Mv jA at h
   rw [h0] at h
   injection h with h
   have:=congrArg (fun a:Array Value=>a[0]?) h
   simp [wrap64] at this
  .exact h
 obtain ⟨ha,bm',hq,hp⟩:=ha
 exact ⟨by rw [ha];rfl,⟨s',bm',hr,hq,hp⟩,ho⟩
theorem dX {k n:Nat} (hk:k<3) {A:Ad} {T:Td} {qb thb:Nat} {w:World} (R:∃ s bm,Rest (cfL k) A T qb thb n s w∧Q (cfL k) s bm 1∧bm.Perm (Jj csL 1)) :
  Calls Tryz.prog 10 #[Pt qb 0,Φ 0,.agg #[Φ 2,.int .u32 0,.int .u32 0]] w fun e w'=>e=.returned (.tuple #[.agg #[Φ 2,.int .u32 4,.int .u32 9],Φ 0])∧n≤w.heap.size∧Over (Bn n w) w w':=by
 obtain ⟨s,bm,R,hq,hp⟩:=R
 obtain ⟨s',r,h⟩:=Sq (Lg hk) (cs:=csL) (i:=1) hq hp Sc Zd Zd (fun j hj=>Nc Zo)
 refine (R.call (Lg hk) (Nc (i:=1) Zd) r).mono ?_
 rintro e w1 ⟨rfl,hr,ho⟩
 rcases h with ⟨h,_⟩|⟨ha,_⟩
 .cases h
 .exact ⟨by rw [ha];rfl,R.low,ho⟩
theorem pC {w:World} {g:Nat} {a b d:Value}:Over (fun k=>k=g) w (((w.setCell (Ψ g 0) a).setCell (Ψ g 1) b).setCell (Ψ g 2) d):=(((Over.refl (fun k=>k=g) w).set_ (Or.inl rfl) _).set_ (Or.inl rfl) _).set_ (Or.inl rfl) _
theorem dA {w:World} {g:Nat} {t:TypeId} {x y z a b d:Value} (h:w.heap[g]?=some (.cells #[x,y,z] t (0,0))):(((w.setCell (Ψ g 0) a).setCell (Ψ g 1) b).setCell (Ψ g 2) d).heap[g]?=some (.cells #[a,b,d] t (0,0)):=Ae (Ae (Ae h 0 _ rfl) 1 _ rfl) 2 _ rfl
theorem fU {w0 w:World} {g:Nat} {a b d:Value} (h:Below w0.heap.size w0 w) (hg:w0.heap.size≤g):Below w0.heap.size w0 (((w.setCell (Ψ g 0) a).setCell (Ψ g 1) b).setCell (Ψ g 2) d):=Aq (Aq (Aq h hg) hg) hg
theorem Rex.same {k n:Nat} {A:Ad} {T:Td} {qb thb:Nat} {w w1:World} (R:∃ s bm,Rest (cfL k) A T qb thb n s w∧Q (cfL k) s bm 1∧bm.Perm (Jj csL 1)) (hb:Below w.heap.size w w1):∃ s bm,Rest (cfL k) A T qb thb n s w1∧Q (cfL k) s bm 1∧bm.Perm (Jj csL 1):=by
 obtain ⟨s,bm,R,h⟩:=R
 exact ⟨s,bm,R.same hb,h⟩
theorem Rex.far {k n:Nat} {A:Ad} {T:Td} {qb thb:Nat} {w w1:World} {S:Nat→Prop} (R:∃ s bm,Rest (cfL k) A T qb thb n s w∧Q (cfL k) s bm 1∧bm.Perm (Jj csL 1)) (ho:Over S w w1) (hS:∀ k,S k→Alien w k):∃ s bm,Rest (cfL k) A T qb thb n s w1∧Q (cfL k) s bm 1∧bm.Perm (Jj csL 1):=by
 obtain ⟨s,bm,R,h⟩:=R
 exact ⟨s,bm,R.far ho hS,h⟩
theorem Hn (w:World):Calls Tryz.prog 5 #[] w fun e w'=>e=.returned (.bool true)∧Below w.heap.size w w':=by
 go_enter Tryz.func5,Tryz.ntmps5
 go_wp2
 refine π ?_
 go_loopw [1] (fun i wr=>∃ k:Nat,i=Φ k∧k≤3∧Az (Below w.heap.size w wr)) (fun i _=>3-(intOf i).toNat)
 case atStart=>exact ⟨0,rfl,Zd,⟨Below.refl _ _⟩⟩
 case round=>
  obtain ⟨k,rfl,hk,HB⟩:=hrel
  by_cases hk3:k<3
  .have b0:((k:Int)<3)=True:=eq_true Zo
   have b1:(k<3)=True:=eq_true hk3
   have w1:=Ak (x:=(k:Int)+1) Zo Zo
   have HK:=Az.m hk3
   clear hk hk3
   go_wp2_with (first|(go_at_call 8;refine (gY HK.o _).mono ?_;rintro e w1 ⟨A,T,qb,thb,rfl,hr,hb⟩;have HR:=Az.m hr;have HB1:=Az.m (Ag HB.o hb);have HLO:=Az.m HB.o.size;clear HB hr hb)|(go_at_call 10;have h10:=gZ HK.o HR.o;refine h10.mono ?_;clear h10;rintro e w2 ⟨rfl,hr,ho⟩;have HB2:=Az.m (Tq HB1.o (Zm ho HR.o.low) HLO.o);have HR2:=Az.m hr;clear HR HB1 hr ho)|((with_reducible refine Al (N:=4) rfl ?_);go_must (refine Am ?hg (N:=4) ?hd (cs:=#[Φ 0,.int .u32 0,.int .u32 0]) (t:=46) ?hr ?_;(case hd=>rfl);(case hg=>rfl);(case hr=>exact Λ18);intro ga hga wga hbox hbl;have HA0:=Az.m hbox;have HGA:=Az.m (Nat.le_trans HB2.o.size (Nat.le_of_eq hga.symm));obtain ⟨z0,z1,z2⟩:=bc3 hbox;have zf:=Ab hbox;have hr:=Rex.same HR2.o hbl;have hb:=Ag HB2.o hbl;clear HR2 HB2;have HR2:=Az.m hr;have HB2:=Az.m hb;clear hr hb hbox hbl hga))|((with_reducible refine Bd (t:=46) (p:=4) rfl ?_);go_must (refine Aw (w1:=(((wga.setCell (Ψ ga 0) (Φ 0)).setCell (Ψ ga 1) (.int .u32 0)).setCell (Ψ ga 2) (.int .u32 0))) ?hg (t:=46) (p:=4) rfl ?hn ?hr ?_;(case hg=>rfl);(case hn=>rfl);(case hr=>exact Λ26);intro w4 e4;have hA:w4.heap[ga]?=some (.cells #[Φ 0,.int .u32 0,.int .u32 0] 46 (0,0)):=(by rw [e4];exact dA HA0.o);have hr:=Rex.far HR2.o (by rw [e4];exact pC:Over (fun k=>k=ga) wga w4) (fun k hk=>by rw [hk];exact Pd HA0.o Zd);have hb:Below w.heap.size w w4:=(by rw [e4];exact fU HB2.o HGA.o);clear HA0 HR2 HB2 z0 z1 z2 zf e4;have HA:=Az.m hA;have HR2:=Az.m hr;have HB2:=Az.m hb;clear hA hr hb))|(go_at_call 10;have h10:=dX HK.o HR2.o;refine h10.mono ?_;clear h10;rintro e w5 ⟨rfl,hn,ho⟩;have hA:=ho.blk HA.o (fun h=>Ik HA.o Zd h.1);have HB3:=Az.m (Tq HB2.o (Zm ho hn) HLO.o);clear HA HR2 HB2 hn ho;have HA:=Az.m hA;clear hA)|((with_reducible refine Al (N:=6) rfl ?_);go_must (refine Am ?hg (N:=6) ?hd (cs:=#[Φ 0,.int .u32 0,.int .u32 0]) (t:=46) ?hr ?_;(case hd=>rfl);(case hg=>rfl);(case hr=>exact Λ18);intro gb hgb wgb hbox hbl;have HA0:=Az.m hbox;have HGB:=Az.m (Nat.le_trans HB3.o.size (Nat.le_of_eq hgb.symm));have NE:=Az.m (Nat.ne_of_lt (Nat.lt_of_lt_of_le (Bb HA.o) (Nat.le_of_eq hgb.symm)));obtain ⟨z0,z1,z2⟩:=bc3 hbox;have zf:=Ab hbox;have hA:=Ac HA.o hbl;have hb:=Ag HB3.o hbl;clear HA HB3;have HA:=Az.m hA;have HB3:=Az.m hb;clear hA hb hbox hbl hgb))|((with_reducible refine Bd (t:=46) (p:=6) rfl ?_);go_must (refine Aw (w1:=(((wgb.setCell (Ψ gb 0) (Φ 2)).setCell (Ψ gb 1) (.int .u32 4)).setCell (Ψ gb 2) (.int .u32 9))) ?hg (t:=46) (p:=6) rfl ?hn ?hr ?_;(case hg=>rfl);(case hn=>rfl);(case hr=>exact Λ26);intro w7 e7;have hC:w7.heap[gb]?=some (.cells #[Φ 2,.int .u32 4,.int .u32 9] 46 (0,0)):=(by rw [e7];exact dA HA0.o);have hA:w7.heap[ga]?=some (.cells #[Φ 0,.int .u32 0,.int .u32 0] 46 (0,0)):=(by rw [e7];exact Av (Av (Av HA.o NE.o _) NE.o _) NE.o _);have hb:Below w.heap.size w w7:=(by rw [e7];exact fU HB3.o HGB.o);clear HA HA0 HB3 z0 z1 z2 zf e7;have HB3:=Az.m hb;have a0:w7.cell? (Ψ ga 0)=some (Φ 0):=(Aa hA 0).trans rfl;obtain ⟨b0,b1,b2⟩:=bc3 hC;clear hA hC hb)))
   exact ⟨⟨k+1,rfl,HK.o,HB3⟩,by have:=HK.o;show 3-((k:Int)+1).toNat<3-((k:Int)).toNat;omega⟩
  .have b0:((k:Int)<3)=False:=eq_false Zo
   have b1:(k<3)=False:=eq_false hk3
   clear hk hk3
   go_wp2
   go_ret
   exact ⟨rfl,HB.o⟩
end
section
attribute [local go_sem] Cs Cq De Dd Cj Ci Cr Cp
theorem Dg {w0 w w1:World} {S:Nat→Prop} (b:Below w0.heap.size w0 w) (ho:Over S w w1) (hS:∀ k,S k→w0.heap.size≤k):Below w0.heap.size w0 w1:=
 ⟨ho.os.trans b.os,ho.tape.trans b.tape,ho.output.trans b.output,Nat.le_trans b.size ho.size,fun i hi=>(ho.block i (Nat.lt_of_lt_of_le hi b.size) (fun hs=>by have:=hS _ hs;omega)).trans (b.block i hi)⟩
theorem Kj {w:World} {g:Nat} {t:TypeId} {a0 a1 a2 a3 a4 a5 a6 a7 a8 a9 x0 x1 x2 x3 x4 x5 x6 x7 x8 x9:Value} (h:w.heap[g]?=some (.cells #[a0,a1,a2,a3,a4,a5,a6,a7,a8,a9] t (0,0))):((((((((((w.setCell (Ψ g 0) x0).setCell (Ψ g 1) x1).setCell (Ψ g 2) x2).setCell (Ψ g 3) x3).setCell (Ψ g 4) x4).setCell (Ψ g 5) x5).setCell (Ψ g 6) x6).setCell (Ψ g 7) x7).setCell (Ψ g 8) x8).setCell (Ψ g 9) x9).heap[g]?=some (.cells #[x0,x1,x2,x3,x4,x5,x6,x7,x8,x9] t (0,0)):=(Ae (cs':=#[x0,x1,x2,x3,x4,x5,x6,x7,x8,x9]) (Ae (cs':=#[x0,x1,x2,x3,x4,x5,x6,x7,x8,a9]) (Ae (cs':=#[x0,x1,x2,x3,x4,x5,x6,x7,a8,a9]) (Ae (cs':=#[x0,x1,x2,x3,x4,x5,x6,a7,a8,a9]) (Ae (cs':=#[x0,x1,x2,x3,x4,x5,a6,a7,a8,a9]) (Ae (cs':=#[x0,x1,x2,x3,x4,a5,a6,a7,a8,a9]) (Ae (cs':=#[x0,x1,x2,x3,a4,a5,a6,a7,a8,a9]) (Ae (cs':=#[x0,x1,x2,a3,a4,a5,a6,a7,a8,a9]) (Ae (cs':=#[x0,x1,a2,a3,a4,a5,a6,a7,a8,a9]) (Ae (cs':=#[x0,a1,a2,a3,a4,a5,a6,a7,a8,a9]) h 0 x0 rfl) 1 x1 rfl) 2 x2 rfl) 3 x3 rfl) 4 x4 rfl) 5 x5 rfl) 6 x6 rfl) 7 x7 rfl) 8 x8 rfl) 9 x9 rfl)
theorem Jc {w:World} {g:Nat} {x0 x1 x2 x3 x4 x5 x6 x7 x8 x9:Value}:Over (fun k=>k=g) w ((((((((((w.setCell (Ψ g 0) x0).setCell (Ψ g 1) x1).setCell (Ψ g 2) x2).setCell (Ψ g 3) x3).setCell (Ψ g 4) x4).setCell (Ψ g 5) x5).setCell (Ψ g 6) x6).setCell (Ψ g 7) x7).setCell (Ψ g 8) x8).setCell (Ψ g 9) x9):=(((((((((((Over.refl (fun k=>k=g) w).set_ (Or.inl rfl) _).set_ (Or.inl rfl) _).set_ (Or.inl rfl) _).set_ (Or.inl rfl) _).set_ (Or.inl rfl) _).set_ (Or.inl rfl) _).set_ (Or.inl rfl) _).set_ (Or.inl rfl) _).set_ (Or.inl rfl) _).set_ (Or.inl rfl) _)
structure LitAt (c:Cf) (gc:Nat) (DA:Option Addr) (dcap:Nat) (ds:List Int) (g4 g5 g8 g9:Nat) (cv dv:Value) (n j:Nat) (w0 w:World):Prop where
 b4:w.heap[g4]?=some (.cells #[Φ 0,Φ 0,Φ 0,Φ 0,Φ 0,Φ 0,Φ 0,.slice (some (Ψ gc 0)) 1 1,.slice none 0 0,.slice DA ds.length dcap] 37 (0,0))
 b5:w.heap[g5]?=some (.cells #[Φ c.algo,Φ c.th,Φ c.ns,Φ c.lv,Φ c.batch,Φ c.probes,Φ c.scan] 23 (0,0))
 b8:w.heap[g8]?=some (.cells #[Φ 0,Φ 0,Φ 0,Φ 0,Φ 0,Φ 0,Φ 0,.slice none 0 0,.slice none 0 0,.slice none 0 0] 37 (0,0))
 b9:w.heap[g9]?=some (.cells #[Φ c.algo,Φ c.th,Φ c.ns,Φ c.lv,Φ c.batch,Φ c.probes,Φ c.scan,cv,.slice none 0 0,dv] 37 (0,0))
 calls:∃ xs,xs.length=n∧w.ownsRow w0.heap.size 24 1 cv n xs
 draws:w.ownsRow w0.heap.size 5 1 dv j (Co .u8 (ds.take j))
 below:Below w0.heap.size w0 w
 low:w0.heap.size≤g4∧w0.heap.size≤g5∧w0.heap.size≤g8∧w0.heap.size≤g9
 ne:g4≠g9∧g8≠g9∧g4≠g8
namespace LitAt
variable {gc:Nat} {DA:Option Addr} {dcap:Nat} {ds:List Int} {g4 g5 g8 g9:Nat} {cv dv:Value} {n j:Nat} {w0 w w1:World}
theorem same (h:LitAt c gc DA dcap ds g4 g5 g8 g9 cv dv n j w0 w) (hb:Below w.heap.size w w1):LitAt c gc DA dcap ds g4 g5 g8 g9 cv dv n j w0 w1:=by
 obtain ⟨xs,hl,hx⟩:=h.calls
 exact ⟨Ac h.b4 hb,Ac h.b5 hb,Ac h.b8 hb,Ac h.b9 hb,⟨xs,hl,Fu hx hb⟩,Fu h.draws hb,Ag h.below hb,h.low,h.ne⟩
theorem drew (h:LitAt c gc DA dcap ds g4 g5 g8 g9 cv dv n j w0 w):LitAt c gc DA dcap ds g4 g5 g8 g9 cv dv n j w0 w.drew:=h.same (Da (Below.refl _ _))
theorem cells (h:LitAt c gc DA dcap ds g4 g5 g8 g9 cv dv n j w0 w):w.cell? (Ψ g4 7)=some (.slice (some (Ψ gc 0)) 1 1)∧w.cell? (Ψ g4 8)=some (.slice none 0 0)∧w.cell? (Ψ g4 9)=some (.slice DA ds.length dcap)∧w.cell? (Ψ g5 1)=some (Φ c.th)∧w.cell? (Ψ g9 7)=some cv∧w.cell? (Ψ g9 9)=some dv∧w.frozen? (Ψ g9 7)=false∧w.frozen? (Ψ g9 9)=false:=
 ⟨(Aa h.b4 7).trans rfl,(Aa h.b4 8).trans rfl,(Aa h.b4 9).trans rfl,(Aa h.b5 1).trans rfl,(Aa h.b9 7).trans rfl,(Aa h.b9 9).trans rfl,Ab h.b9 7,Ab h.b9 9⟩
theorem off {S:Nat→Prop} (h:LitAt c gc DA dcap ds g4 g5 g8 g9 cv dv n j w0 w) (ho:Over S w w1) (hS:∀ k,S k→w0.heap.size≤k∧∀ cs t fr,w.heap[k]?=some (.cells cs t fr)→t≠37∧t≠23∧t≠24∧t≠5):LitAt c gc DA dcap ds g4 g5 g8 g9 cv dv n j w0 w1:=by
 obtain ⟨xs,hl,hx⟩:=h.calls
 have b:=h.below
 refine ⟨ho.blk h.b4 (fun hs=>((hS _ hs).2 _ _ _ h.b4).1 rfl),ho.blk h.b5 (fun hs=>((hS _ hs).2 _ _ _ h.b5).2.1 rfl),ho.blk h.b8 (fun hs=>((hS _ hs).2 _ _ _ h.b8).1 rfl),ho.blk h.b9 (fun hs=>((hS _ hs).2 _ _ _ h.b9).1 rfl),⟨xs,hl,Bi hx ho (fun k hk hs=>?_)⟩,Bi h.draws ho (fun k hk hs=>?_),⟨ho.os.trans b.os,ho.tape.trans b.tape,ho.output.trans b.output,Nat.le_trans b.size ho.size,fun i hi=>(ho.block i (Nat.lt_of_lt_of_le hi b.size) (fun hs=>by have:=(hS _ hs).1;omega)).trans (b.block i hi)⟩,h.low,h.ne⟩
 .obtain ⟨cs,hc⟩:=Ay hx hk
  exact ((hS _ hs).2 _ _ _ hc).2.2.1 rfl
 .obtain ⟨cs,hc⟩:=Ay h.draws hk
  exact ((hS _ hs).2 _ _ _ hc).2.2.2 rfl
theorem setCalls (h:LitAt c gc DA dcap ds g4 g5 g8 g9 cv dv n j w0 w) {cv2:Value} {xs:List Value} (hg:w.grownBy w1 cv.ownBlock) (hx:w1.ownsRow w0.heap.size 24 1 cv2 (n+1) xs) (hl:xs.length=n+1):LitAt c gc DA dcap ds g4 g5 g8 g9 cv2 dv (n+1) j w0 (w1.setCell (Ψ g9 7) cv2):=by
 obtain ⟨xs0,hl0,hx0⟩:=h.calls
 have ho:Over (fun k=>some k=cv.ownBlock) w w1:=⟨hg.os,hg.tape,hg.output,hg.size,hg.block⟩
 have key:∀ {k:Nat} {cs:Array Value} {e:TypeId},w.heap[k]?=some (.cells cs e (0,0))→e≠24→¬ some k=cv.ownBlock:=by
  intro k cs e hk he hs
  obtain ⟨cs',h'⟩:=Ay hx0 hs.symm
  exact An hk h' he rfl
 have b9:=ho.blk h.b9 (key h.b9 Zd)
 have ho2:Over (fun k=>k=g9) w1 (w1.setCell (Ψ g9 7) cv2):=(Over.refl (fun k=>k=g9) w1).set_ (Or.inl rfl) _
 have bl:Below w0.heap.size w0 w1:=Dg h.below ho (fun k hs=>Fk hx0 k hs.symm)
 exact ⟨ho2.blk (ho.blk h.b4 (key h.b4 Zd)) h.ne.1,ho2.blk (ho.blk h.b5 (key h.b5 Zd)) (An (ho.blk h.b5 (key h.b5 Zd)) b9 Zd),ho2.blk (ho.blk h.b8 (key h.b8 Zd)) h.ne.2.1,Ae b9 7 _ rfl,⟨xs,hl,Bi hx ho2 (fun k hk=>(Ay hx hk).elim fun cs hc=>An hc b9 Zd)⟩,Bi (Bi h.draws ho (fun k hk=>(Ay h.draws hk).elim fun cs hc=>key hc Zd)) ho2 (fun k hk=>(Ay (Bi h.draws ho (fun k hk=>(Ay h.draws hk).elim fun cs hc=>key hc Zd)) hk).elim fun cs hc=>An hc b9 Zd),Dg bl ho2 (fun k hs=>hs▸h.low.2.2.2),h.low,h.ne⟩
theorem setDraws (h:LitAt c gc DA dcap ds g4 g5 g8 g9 cv dv n j w0 w) {dv2:Value} (hg:w.grownBy w1 dv.ownBlock) (hx:w1.ownsRow w0.heap.size 5 1 dv2 (j+1) (Co .u8 (ds.take (j+1)))):LitAt c gc DA dcap ds g4 g5 g8 g9 cv dv2 n (j+1) w0 (w1.setCell (Ψ g9 9) dv2):=by
 obtain ⟨xs0,hl0,hx0⟩:=h.calls
 have ho:Over (fun k=>some k=dv.ownBlock) w w1:=⟨hg.os,hg.tape,hg.output,hg.size,hg.block⟩
 have key:∀ {k:Nat} {cs:Array Value} {e:TypeId},w.heap[k]?=some (.cells cs e (0,0))→e≠5→¬ some k=dv.ownBlock:=by
  intro k cs e hk he hs
  obtain ⟨cs',h'⟩:=Ay h.draws hs.symm
  exact An hk h' he rfl
 have b9:=ho.blk h.b9 (key h.b9 Zd)
 have ho2:Over (fun k=>k=g9) w1 (w1.setCell (Ψ g9 9) dv2):=(Over.refl (fun k=>k=g9) w1).set_ (Or.inl rfl) _
 have bl:Below w0.heap.size w0 w1:=Dg h.below ho (fun k hs=>Fk h.draws k hs.symm)
 have hx1:=Bi hx0 ho (fun k hk=>(Ay hx0 hk).elim fun cs hc=>key hc Zd)
 exact ⟨ho2.blk (ho.blk h.b4 (key h.b4 Zd)) h.ne.1,ho2.blk (ho.blk h.b5 (key h.b5 Zd)) (An (ho.blk h.b5 (key h.b5 Zd)) b9 Zd),ho2.blk (ho.blk h.b8 (key h.b8 Zd)) h.ne.2.1,Ae b9 9 _ rfl,⟨xs0,hl0,Bi hx1 ho2 (fun k hk=>(Ay hx1 hk).elim fun cs hc=>An hc b9 Zd)⟩,Bi hx ho2 (fun k hk=>(Ay hx hk).elim fun cs hc=>An hc b9 Zd),Dg bl ho2 (fun k hs=>hs▸h.low.2.2.2),h.low,h.ne⟩
end LitAt
theorem Fv {w w1:World} {row:Option Nat} (h:w.grownBy w1 row):Over (fun k=>some k=row) w w1:=⟨h.os,h.tape,h.output,h.size,h.block⟩
theorem fM:(Tryz.prog.info? 29).map (fun i=>(i.zero,i.size,i.bytes))=some (some (.agg #[Φ 0,.int .u32 0,.int .u32 0]),3,16):=Zk
theorem fN:(Tryz.prog.info? 24).map (fun i=>(i.zero,i.size,i.bytes))=some (some (.slice none 0 0),1,24):=Zk
theorem rF:(Tryz.prog.info? 5).map (fun i=>(i.zero,i.size,i.bytes))=some (some (.int .u8 0),1,1):=Zk
theorem gR {ds:List Int} {k:Nat} (h:k<ds.length):Co .u8 (ds.take k)++[.int .u8 (rd ds (k:Int))]=Co .u8 (ds.take (k+1)):=by
 have e:rd ds (k:Int)=ds[k]:=by
  unfold rd
  rw [Int.toNat_natCast,List.getD_eq_getElem?_getD,List.getElem?_eq_getElem h]
  rfl
 rw [e,List.take_succ_eq_append_getElem h]
 unfold Co
 rw [List.map_append]
 rfl
theorem Yf (ds:List Int):ds.take (ds.take 4096).length=ds.take 4096:=by
 rw [List.length_take]
 by_cases h:4096≤ds.length
 .rw [Nat.min_eq_left h]
 .rw [Nat.min_eq_right Zo,List.take_length,List.take_of_length_le Zo]
theorem Ol {w:World} {B n:Nat} {e:TypeId} {q:IntKind} {v:Value} {xs:List Int} (h:w.ownsRow B e 1 v n (Co q xs)) (hn:xs.length=n) (hl:n≤9223372036854775807):∃ A cp,v=.slice A n cp∧ReadsInt w q A n xs:=by
 rcases h.2 with ⟨rfl,h0⟩|⟨g,cap,cur,rfl,_⟩
 .subst h0
  exact ⟨none,0,rfl,hn,hl,fun h=>absurd h (Nat.lt_irrefl _)⟩
 .refine ⟨some (Ψ g 0),cap,rfl,hn,hl,fun _=>⟨_,rfl,fun j hj=>?_⟩⟩
  refine h.cells (g:=g) rfl j _ ?_
  unfold Co
  rw [List.getElem?_map,List.getElem?_eq_getElem Zo,List.getD_eq_getElem?_getD,List.getElem?_eq_getElem Zo]
  rfl
def S25 (g4 g9:Nat) (ad:Addr) (dv:Value) (m dcap k:Nat) (x:Int) (W:World):Prop:=W.cell? (Ψ g9 9)=some dv∧W.cell? (Ψ g4 9)=some (.slice (some ad) m dcap)∧W.cell? (ad.add k)=some (.int .u8 x)
theorem LitAt.s25 {gc:Nat} {ad:Addr} {dcap:Nat} {ds:List Int} {g4 g5 g8 g9:Nat} {cv dv:Value} {n j k:Nat} {x:Int} {w0 w:World} (h:LitAt c gc (some ad) dcap ds g4 g5 g8 g9 cv dv n j w0 w) (hx:w0.cell? (ad.add k)=some (.int .u8 x)):S25 g4 g9 ad dv ds.length dcap k x w:=⟨h.cells.2.2.2.2.2.1,h.cells.2.2.1,(Over.of_below (fun _=>False) h.below).cell hx (fun h=>h)⟩
theorem LitAt.s25g {gc:Nat} {ad:Addr} {dcap:Nat} {ds:List Int} {g4 g5 g8 g9:Nat} {cv dv:Value} {n j k:Nat} {x:Int} {w0 w w1:World} (h:LitAt c gc (some ad) dcap ds g4 g5 g8 g9 cv dv n j w0 w) (hx:w0.cell? (ad.add k)=some (.int .u8 x)) (hg:w.grownBy w1 dv.ownBlock):S25 g4 g9 ad dv ds.length dcap k x w1∧w1.frozen? (Ψ g9 9)=false:=by
 have ho:=Fv hg
 have key:∀ {k:Nat} {cs:Array Value} {e:TypeId},w.heap[k]?=some (.cells cs e (0,0))→e≠5→¬ some k=dv.ownBlock:=by
  intro k cs e hk he hs
  obtain ⟨cs',h'⟩:=Ay h.draws hs.symm
  exact An hk h' he rfl
 have b9:=ho.blk h.b9 (key h.b9 Zd)
 have bl:=Dg h.below ho (fun k hs=>Fk h.draws k hs.symm)
 exact ⟨⟨(Aa b9 9).trans rfl,(Aa (ho.blk h.b4 (key h.b4 Zd)) 9).trans rfl,(Over.of_below (fun _=>False) bl).cell hx (fun h=>h)⟩,Ab b9 9⟩
theorem La {w:World} {B e size n:Nat} {v:Value} {xs:List Value} (h:w.ownsRow B e size v n xs):∃ a cp,v=.slice a n cp:=by
 rcases h.2 with ⟨rfl,h0⟩|⟨g,cap,cur,rfl,_⟩
 .exact ⟨none,0,by rw [h0]⟩
 .exact ⟨_,cap,rfl⟩
theorem Xh (ht:1≤c.th∧c.th≤6) {gc n ccap dcap:Nat} {CA DA:Option Addr} {cs:List S29} {ds:List Int} (w:World) (hn:n≤40) (hgc:w.cell? (Ψ gc 0)=some (.slice CA n ccap)) (hcs:Kd.C k29 w CA n cs) (hd:ReadsInt w .u8 DA ds.length ds) :
  Calls Tryz.prog 7 #[.agg #[Φ 0,Φ 0,Φ 0,Φ 0,Φ 0,Φ 0,Φ 0,.slice (some (Ψ gc 0)) 1 1,.slice none 0 0,.slice DA ds.length dcap],.agg #[Φ c.algo,Φ c.th,Φ c.ns,Φ c.lv,Φ c.batch,Φ c.probes,Φ c.scan],Φ 40,Φ 0] w fun e w'=>∃ a8 n8 cp8 dv,e=.returned (.agg #[Φ c.algo,Φ c.th,Φ c.ns,Φ c.lv,Φ c.batch,Φ c.probes,Φ c.scan,.slice a8 n8 cp8,.slice none 0 0,dv])∧(∃ A cp,dv=.slice A (ds.take 4096).length cp∧ReadsInt w' .u8 A (ds.take 4096).length (ds.take 4096))∧Below w.heap.size w w':=by
 have HTH:=Az.m ht
 have HN:=Az.m hn
 have HGC:=Az.m hgc
 have HCS:=Az.m hcs
 have HDS:=Az.m hd
 have t0:=Bq (show ¬ c.th<1 by omega)
 have t1:=Bq (show ¬ 6<c.th by omega)
 clear ht hn hgc hcs hd
 go_enter Tryz.func7,Tryz.ntmps7
 go_wp2_with (first|((with_reducible refine Al (N:=4) rfl ?_);go_must (refine Am ?hg (N:=4) ?hd (cs:=#[Φ 0,Φ 0,Φ 0,Φ 0,Φ 0,Φ 0,Φ 0,.slice (some (Ψ gc 0)) 1 1,.slice none 0 0,.slice DA ds.length dcap]) (t:=37) ?hr ?_;(case hd=>rfl);(case hg=>rfl);(case hr=>exact Λ18);intro g4 hg4 wg4 hbox hbl;have H4:=Az.m hbox;have HB:=Az.m hbl;have L4:=Az.m (Nat.le_of_eq hg4.symm);have E4:=Az.m (Bb hbox);clear hbox hbl hg4))|((with_reducible refine Al (N:=5) rfl ?_);go_must (refine Am ?hg (N:=5) ?hd (cs:=#[Φ c.algo,Φ c.th,Φ c.ns,Φ c.lv,Φ c.batch,Φ c.probes,Φ c.scan]) (t:=23) ?hr ?_;(case hd=>rfl);(case hg=>rfl);(case hr=>exact Λ18);intro g5 hg5 wg5 hbox hbl;have H5:=Az.m hbox;have L5:=Az.m (Nat.le_trans HB.o.size (Nat.le_of_eq hg5.symm));have hx:=Ac H4.o hbl;clear H4;have H4:=Az.m hx;clear hx;have hb:=Ag HB.o hbl;have p1:wg5.cell? (Ψ g5 1)=some (Φ c.th):=(Aa hbox 1).trans rfl;clear HB;have HB:=Az.m hb;clear hb hbox hbl hg5))|((with_reducible refine Al (N:=8) rfl ?_);go_must (refine Am ?hg (N:=8) ?hd (cs:=#[Φ 0,Φ 0,Φ 0,Φ 0,Φ 0,Φ 0,Φ 0,.slice none 0 0,.slice none 0 0,.slice none 0 0]) (t:=37) ?hr ?_;(case hd=>rfl);(case hg=>rfl);(case hr=>exact Λ18);intro g8 hg8 wg8 hbox hbl;have H8:=Az.m hbox;have L8:=Az.m (Nat.le_trans HB.o.size (Nat.le_of_eq hg8.symm));have N48:=Az.m (Nat.ne_of_lt (Nat.lt_of_lt_of_le (Bb H4.o) (Nat.le_of_eq hg8.symm)));have hx:=Ac H4.o hbl;clear H4;have H4:=Az.m hx;clear hx;have hx:=Ac H5.o hbl;clear H5;have H5:=Az.m hx;clear hx;have hb:=Ag HB.o hbl;obtain ⟨p0,p1,p2,p3,p4,p5,p6⟩:=bc7 H5.o;clear HB;have HB:=Az.m hb;clear hb hbox hbl hg8))|((with_reducible refine Al (N:=9) rfl ?_);go_must (refine Am ?hg (N:=9) ?hd (cs:=#[Φ 0,Φ 0,Φ 0,Φ 0,Φ 0,Φ 0,Φ 0,.slice none 0 0,.slice none 0 0,.slice none 0 0]) (t:=37) ?hr ?_;(case hd=>rfl);(case hg=>rfl);(case hr=>exact Λ18);intro g9 hg9 wg9 hbox hbl;have L9:=Az.m (Nat.le_trans HB.o.size (Nat.le_of_eq hg9.symm));have N49:=Az.m (Nat.ne_of_lt (Nat.lt_of_lt_of_le (Bb H4.o) (Nat.le_of_eq hg9.symm)));have N89:=Az.m (Nat.ne_of_lt (Nat.lt_of_lt_of_le (Bb H8.o) (Nat.le_of_eq hg9.symm)));have hx:=Ac H4.o hbl;clear H4;have H4:=Az.m hx;clear hx;have hx:=Ac H5.o hbl;clear H5;have H5:=Az.m hx;clear hx;have hx:=Ac H8.o hbl;clear H8;have H8:=Az.m hx;clear hx;have hb:=Ag HB.o hbl;have H9:=Az.m hbox;obtain ⟨z0,z1,z2,z3,z4,z5,z6,z7,z8,z9⟩:=oL hbox;have zf:=Ab hbox;clear HB;have HB:=Az.m hb;clear hb hbox hbl hg9 p0 p1 p2 p3 p4 p5 p6))|((with_reducible refine Bd (t:=37) (p:=9) rfl ?_);go_must (refine Aw (w1:=((((((((((wg9.setCell (Ψ g9 0) (Φ c.algo)).setCell (Ψ g9 1) (Φ c.th)).setCell (Ψ g9 2) (Φ c.ns)).setCell (Ψ g9 3) (Φ c.lv)).setCell (Ψ g9 4) (Φ c.batch)).setCell (Ψ g9 5) (Φ c.probes)).setCell (Ψ g9 6) (Φ c.scan)).setCell (Ψ g9 7) (.slice none 0 0)).setCell (Ψ g9 8) (.slice none 0 0)).setCell (Ψ g9 9) (.slice none 0 0))) ?hg (t:=37) (p:=9) rfl ?hn ?hr ?_;(case hg=>rfl);(case hn=>rfl);(case hr=>exact Λ24);intro w2 e2;have hc:w2.heap[g9]?=some (.cells #[Φ c.algo,Φ c.th,Φ c.ns,Φ c.lv,Φ c.batch,Φ c.probes,Φ c.scan,.slice none 0 0,.slice none 0 0,.slice none 0 0] 37 (0,0)):=(by rw [e2];exact Kj H9.o);have ho:Over (fun k=>k=g9) wg9 w2:=(by rw [e2];exact Jc);have hm:LitAt c gc DA dcap ds g4 g5 g8 g9 (.slice none 0 0) (.slice none 0 0) 0 0 w w2:=⟨ho.blk H4.o N49.o,ho.blk H5.o (An H5.o H9.o Zd),ho.blk H8.o N89.o,hc,⟨[],rfl,Hw _ _ _ _⟩,Hw _ _ _ _,Dg HB.o ho (fun k hk=>hk▸L9.o),⟨L4.o,L5.o,L8.o,L9.o⟩,⟨N49.o,N89.o,N48.o⟩⟩;clear H4 H5 H8 H9 HB L4 L5 L8 L9 N49 N89 N48 E4 ho hc e2 zf z0 z1 z2 z3 z4 z5 z6 z7 z8 z9;have H0:=Az.m hm;have FX:=hm.cells;clear hm)))
 refine π ?_
 clear t0 t1 p1
 go_loopw [10] (fun i wr=>∃ (j:Nat) (cv:Value),i=Φ j∧(j:Int)≤c.th∧Az (LitAt c gc DA dcap ds g4 g5 g8 g9 cv (.slice none 0 0) j 0 w wr)) (fun i _=>c.th.toNat-(intOf i).toNat)
 case atStart=>exact ⟨0,_,rfl,by have:=HTH.o;omega,H0⟩
 case round=>
  obtain ⟨j,cv,rfl,hj,hw⟩:=hrel
  clear H0 FX
  have H0:=hw
  have FX:=hw.out.cells
  clear hw
  by_cases hjt:(j:Int)<c.th
  .have b0:=Ca hjt
   have w1:=Ak (x:=(j:Int)+1) Zo (by have:=HTH.o;omega)
   have HJ:=Az.m hjt
   clear hj hjt
   go_wp2
   refine π ?_
   go_loopw [11,12] (fun lv kv wr=>∃ k:Nat,kv=Φ k∧k≤n∧Az (LitAt c gc DA dcap ds g4 g5 g8 g9 cv (.slice none 0 0) j 0 w wr)∧Az (∃ ys,wr.ownsRow w.heap.size 29 3 lv k ys)) (fun _ kv _=>n-(intOf kv).toNat)
   case atStart=>exact ⟨0,rfl,Nat.zero_le _,H0,⟨[],Hw _ _ _ _⟩⟩
   case round=>
    obtain ⟨k,rfl,hk,hw,HR⟩:=hrel
    clear H0 FX
    have H0:=hw
    have FX:=hw.out.cells
    clear hw
    by_cases hgo:j=0∧k<n
    .obtain ⟨hj0,hkn⟩:=hgo
     have a1:((j:Int)<1)=True:=eq_true Zo
     have a2:(j<1)=True:=eq_true Zo
     have cg:wr.cell? (Ψ gc j)=some (.slice CA n ccap):=by rw [hj0];exact (Over.of_below (fun _=>False) H0.o.below).cell HGC.o (fun h=>h)
     clear hj0
     have b1:((k:Int)<(n:Int))=True:=eq_true Zo
     have b2:(k<n)=True:=eq_true hkn
     have b3:((k:Int)<40)=True:=eq_true Λ104
     have b4:(k<40)=True:=eq_true Λ104
     have w2_:=Ak (x:=(k:Int)+1) Zo Λ104
     obtain ⟨ad,e0,x_0,x_1,x_2⟩:=mG (Kd.C_below HCS.o H0.o.below) (k:Int) Zo Zo
     subst e0
     rw [Int.toNat_natCast] at x_0 x_1 x_2
     generalize (Kp cs (k:Int)).f0=x0 at x_0
     generalize (Kp cs (k:Int)).f1=x1 at x_1
     generalize (Kp cs (k:Int)).f2=x2 at x_2
     have HK:=Az.m hkn
     generalize u11=lv at HR ⊢
     clear hk hkn
     by_cases hq:((wrap64 (x0.tmod 3+3)).tmod 3)=0
     .have bq:=As hq
      clear hq
      go_wp2_with (first|((with_reducible refine Al (N:=13) rfl ?_);go_must (refine Am ?hg (N:=13) ?hd (cs:=#[Φ 0,.int .u32 0,.int .u32 0]) (t:=29) ?hr ?_;(case hd=>rfl);(case hg=>rfl);(case hr=>exact Λ18);intro g13 hg13 wg13 hbox hbl;have hx:=HR.o;obtain ⟨ys,hy⟩:=hx;have NR:=Az.m (fun k (hk:lv.ownBlock=some k)=>Nat.ne_of_lt (Nat.lt_of_lt_of_le (Gk hy k hk) (Nat.le_of_eq hg13.symm)));have hr:=Fu hy hbl;clear HR hy;have HR:=Az.m (Exists.intro ys hr);clear hr;have X0:=Az.m hbox;have LG:=Az.m (Nat.le_trans H0.o.below.size (Nat.le_of_eq hg13.symm));obtain ⟨z0,z1,z2⟩:=bc3 hbox;have zf:=Ab hbox;have hm:=H0.o.same hbl;clear H0 FX;have H0:=Az.m hm;have FX:=hm.cells;clear hm;skip;clear hbox hbl hg13))|((with_reducible refine Bd (t:=29) (p:=13) rfl ?_);go_must (refine Aw (w1:=(((wg13.setCell (Ψ g13 0) (Φ x0)).setCell (Ψ g13 1) (.int .u32 x1)).setCell (Ψ g13 2) (.int .u32 x2))) ?hg (t:=29) (p:=13) rfl ?hn ?hr ?_;(case hg=>rfl);(case hn=>rfl);(case hr=>exact Λ26);intro w3 e2;have hX:=dA X0.o (a:=Φ x0) (b:=.int .u32 x1) (d:=.int .u32 x2);rw [← e2] at hX;have ho:Over (fun k=>k=g13) wg13 w3:=Λ147;have hm:=H0.o.off ho (fun k hk=>by rw [hk];exact ⟨LG.o,fun cs' t' fr' h'=>by rw [X0.o] at h';injection h' with h';injection h' with _ h2 _;subst h2;decide⟩);(have hx:=HR.o;obtain ⟨ys,hy⟩:=hx;have hr:=Bi hy ho (fun k hk e=>NR.o k hk e);clear HR;have HR:=Az.m (Exists.intro ys hr);clear hy hr);clear H0 FX;have H0:=Az.m hm;have FX:=hm.cells;clear hm;clear e2 ho zf z0 z1 z2;clear X0 LG NR;have H13:=Az.m hX;have k0:w3.cell? (Ψ g13 0)=some (Φ x0):=(Aa hX 0).trans rfl;clear hX))|((with_reducible refine Al (N:=14) rfl ?_);go_must (refine Am ?hg (N:=14) ?hd (cs:=#[Φ 0,.int .u32 0,.int .u32 0]) (t:=29) ?hr ?_;(case hd=>rfl);(case hg=>rfl);(case hr=>exact Λ18);intro g14 hg14 wg14 hbox hbl;have hx:=HR.o;obtain ⟨ys,hy⟩:=hx;have NR:=Az.m (fun k (hk:lv.ownBlock=some k)=>Nat.ne_of_lt (Nat.lt_of_lt_of_le (Gk hy k hk) (Nat.le_of_eq hg14.symm)));have hr:=Fu hy hbl;clear HR hy;have HR:=Az.m (Exists.intro ys hr);clear hr;have X0:=Az.m hbox;have LG:=Az.m (Nat.le_trans H0.o.below.size (Nat.le_of_eq hg14.symm));obtain ⟨z0,z1,z2⟩:=bc3 hbox;have zf:=Ab hbox;have hm:=H0.o.same hbl;clear H0 FX;have H0:=Az.m hm;have FX:=hm.cells;clear hm;have NE:=Az.m (Nat.ne_of_lt (Nat.lt_of_lt_of_le (Bb H13.o) (Nat.le_of_eq hg14.symm)));have hq:=Ac H13.o hbl;clear H13;have H13:=Az.m hq;have k1:wg14.cell? (Ψ g13 1)=some (.int .u32 x1):=(Aa hq 1).trans rfl;have k2:wg14.cell? (Ψ g13 2)=some (.int .u32 x2):=(Aa hq 2).trans rfl;clear hq;clear hbox hbl hg14))|((with_reducible refine Bd (t:=29) (p:=14) rfl ?_);go_must (refine Aw (w1:=(((wg14.setCell (Ψ g14 0) (Φ ((wrap64 (x0.tmod 3+3)).tmod 3))).setCell (Ψ g14 1) (.int .u32 0)).setCell (Ψ g14 2) (.int .u32 0))) ?hg (t:=29) (p:=14) rfl ?hn ?hr ?_;(case hg=>rfl);(case hn=>rfl);(case hr=>exact Λ26);intro w4 e2;have hX:=dA X0.o (a:=Φ ((wrap64 (x0.tmod 3+3)).tmod 3)) (b:=.int .u32 0) (d:=.int .u32 0);rw [← e2] at hX;have ho:Over (fun k=>k=g14) wg14 w4:=Λ147;have hm:=H0.o.off ho (fun k hk=>by rw [hk];exact ⟨LG.o,fun cs' t' fr' h'=>by rw [X0.o] at h';injection h' with h';injection h' with _ h2 _;subst h2;decide⟩);(have hx:=HR.o;obtain ⟨ys,hy⟩:=hx;have hr:=Bi hy ho (fun k hk e=>NR.o k hk e);clear HR;have HR:=Az.m (Exists.intro ys hr);clear hy hr);clear H0 FX;have H0:=Az.m hm;have FX:=hm.cells;clear hm;have ho13:=ho.blk H13.o NE.o;clear e2 ho zf z0 z1 z2;have X0_:=Az.m hX;clear X0;have X0:=X0_;clear X0_;have hq:=ho13;clear H13;have H13:=Az.m hq;clear hq;have k1:w4.cell? (Ψ g13 1)=some (.int .u32 x1):=(Aa H13.o 1).trans rfl;obtain ⟨y0,y1,y2⟩:=bc3 hX;have yf:=Ab hX;clear hX))|((with_reducible refine Bd (t:=27) (p:=75) rfl ?_);go_must (refine Aw (w1:=w4.setCell (Ψ g14 1) (.int .u32 x1)) ?hg (t:=27) (p:=75) rfl ?hn ?hr ?_;(case hg=>rfl);(case hn=>rfl);(case hr=>exact Λ18);intro w5 e2;have hX:w5.heap[g14]?=some (.cells #[Φ ((wrap64 (x0.tmod 3+3)).tmod 3),.int .u32 x1,.int .u32 0] 29 (0,0)):=(by rw [e2];exact Ae X0.o 1 _ rfl);have ho:Over (fun k=>k=g14) w4 w5:=Λ145;have hm:=H0.o.off ho (fun k hk=>by rw [hk];exact ⟨LG.o,fun cs' t' fr' h'=>by rw [X0.o] at h';injection h' with h';injection h' with _ h2 _;subst h2;decide⟩);(have hx:=HR.o;obtain ⟨ys,hy⟩:=hx;have hr:=Bi hy ho (fun k hk e=>NR.o k hk e);clear HR;have HR:=Az.m (Exists.intro ys hr);clear hy hr);clear H0 FX;have H0:=Az.m hm;have FX:=hm.cells;clear hm;have ho13:=ho.blk H13.o NE.o;clear H13;have H13:=Az.m ho13;clear e2 ho ho13 y0 y1 y2 yf X0;have X0:=Az.m hX;(try clear k1);(try clear k2);have k2:w5.cell? (Ψ g13 2)=some (.int .u32 x2):=(Aa H13.o 2).trans rfl;obtain ⟨y0,y1,y2⟩:=bc3 hX;have yf:=Ab hX;clear hX))|((with_reducible refine Bd (t:=27) (p:=78) rfl ?_);go_must (refine Aw (w1:=w5.setCell (Ψ g14 2) (.int .u32 x2)) ?hg (t:=27) (p:=78) rfl ?hn ?hr ?_;(case hg=>rfl);(case hn=>rfl);(case hr=>exact Λ18);intro w6 e2;have hX:w6.heap[g14]?=some (.cells #[Φ ((wrap64 (x0.tmod 3+3)).tmod 3),.int .u32 x1,.int .u32 x2] 29 (0,0)):=(by rw [e2];exact Ae X0.o 2 _ rfl);have ho:Over (fun k=>k=g14) w5 w6:=Λ146;have hm:=H0.o.off ho (fun k hk=>by rw [hk];exact ⟨LG.o,fun cs' t' fr' h'=>by rw [X0.o] at h';injection h' with h';injection h' with _ h2 _;subst h2;decide⟩);(have hx:=HR.o;obtain ⟨ys,hy⟩:=hx;have hr:=Bi hy ho (fun k hk e=>NR.o k hk e);clear HR;have HR:=Az.m (Exists.intro ys hr);clear hy hr);clear H0 FX;have H0:=Az.m hm;have FX:=hm.cells;clear hm;have ho13:=ho.blk H13.o NE.o;clear H13;have H13:=Az.m ho13;clear e2 ho ho13 y0 y1 y2 yf X0;have X0:=Az.m hX;(try clear k1);(try clear k2);have k2:w6.cell? (Ψ g13 2)=some (.int .u32 x2):=(Aa H13.o 2).trans rfl;obtain ⟨y0,y1,y2⟩:=bc3 hX;have yf:=Ab hX;clear hX))|((with_reducible refine Al (N:=82) rfl ?_);go_must (obtain ⟨ys,hy⟩:=HR.o;refine Hk (w0:=w) w.heap.size rfl (.tmp 79) (.tmp 81) 24 29 (.agg #[Φ 0,.int .u32 0,.int .u32 0]) 3 16 rfl Tryz.underlying24 fM rfl Zd Zd lv k ys _ rfl rfl rfl ?h1 hy H0.o.below H0.o.below.size (by have:=HK.o;have:=HN.o;omega) ?_;(case h1=>exact Λ125);intro v82 w9 hown hb9 hg9 hat;have hm:=H0.o.off (Fv hg9) (fun k hk=>⟨Fk hy k hk.symm,fun cs' t' fr' h'=>by obtain ⟨cs2,h2⟩:=Ay hy hk.symm;rw [h2] at h';injection h' with h';injection h' with _ h2' _;subst h2';decide⟩);clear HR;have HR:=Az.m (Exists.intro (p:=fun ys=>w9.ownsRow w.heap.size 29 3 v82 (k+1) ys) _ hown);clear H0 FX;have H0:=Az.m hm;have FX:=hm.cells;clear hm;clear hown hb9 hg9 hat hy)))
      exact ⟨⟨k+1,rfl,HK.o,H0,HR⟩,by have:=HK.o;show n-((k:Int)+1).toNat<n-((k:Int)).toNat;omega⟩
     .have bq:=Aj hq
      clear hq
      go_wp2_with (first|((with_reducible refine Al (N:=13) rfl ?_);go_must (refine Am ?hg (N:=13) ?hd (cs:=#[Φ 0,.int .u32 0,.int .u32 0]) (t:=29) ?hr ?_;(case hd=>rfl);(case hg=>rfl);(case hr=>exact Λ18);intro g13 hg13 wg13 hbox hbl;have hx:=HR.o;obtain ⟨ys,hy⟩:=hx;have NR:=Az.m (fun k (hk:lv.ownBlock=some k)=>Nat.ne_of_lt (Nat.lt_of_lt_of_le (Gk hy k hk) (Nat.le_of_eq hg13.symm)));have hr:=Fu hy hbl;clear HR hy;have HR:=Az.m (Exists.intro ys hr);clear hr;have X0:=Az.m hbox;have LG:=Az.m (Nat.le_trans H0.o.below.size (Nat.le_of_eq hg13.symm));obtain ⟨z0,z1,z2⟩:=bc3 hbox;have zf:=Ab hbox;have hm:=H0.o.same hbl;clear H0 FX;have H0:=Az.m hm;have FX:=hm.cells;clear hm;skip;clear hbox hbl hg13))|((with_reducible refine Bd (t:=29) (p:=13) rfl ?_);go_must (refine Aw (w1:=(((wg13.setCell (Ψ g13 0) (Φ x0)).setCell (Ψ g13 1) (.int .u32 x1)).setCell (Ψ g13 2) (.int .u32 x2))) ?hg (t:=29) (p:=13) rfl ?hn ?hr ?_;(case hg=>rfl);(case hn=>rfl);(case hr=>exact Λ26);intro w3 e2;have hX:=dA X0.o (a:=Φ x0) (b:=.int .u32 x1) (d:=.int .u32 x2);rw [← e2] at hX;have ho:Over (fun k=>k=g13) wg13 w3:=Λ147;have hm:=H0.o.off ho (fun k hk=>by rw [hk];exact ⟨LG.o,fun cs' t' fr' h'=>by rw [X0.o] at h';injection h' with h';injection h' with _ h2 _;subst h2;decide⟩);(have hx:=HR.o;obtain ⟨ys,hy⟩:=hx;have hr:=Bi hy ho (fun k hk e=>NR.o k hk e);clear HR;have HR:=Az.m (Exists.intro ys hr);clear hy hr);clear H0 FX;have H0:=Az.m hm;have FX:=hm.cells;clear hm;clear e2 ho zf z0 z1 z2;clear X0 LG NR;have H13:=Az.m hX;have k0:w3.cell? (Ψ g13 0)=some (Φ x0):=(Aa hX 0).trans rfl;clear hX))|((with_reducible refine Al (N:=14) rfl ?_);go_must (refine Am ?hg (N:=14) ?hd (cs:=#[Φ 0,.int .u32 0,.int .u32 0]) (t:=29) ?hr ?_;(case hd=>rfl);(case hg=>rfl);(case hr=>exact Λ18);intro g14 hg14 wg14 hbox hbl;have hx:=HR.o;obtain ⟨ys,hy⟩:=hx;have NR:=Az.m (fun k (hk:lv.ownBlock=some k)=>Nat.ne_of_lt (Nat.lt_of_lt_of_le (Gk hy k hk) (Nat.le_of_eq hg14.symm)));have hr:=Fu hy hbl;clear HR hy;have HR:=Az.m (Exists.intro ys hr);clear hr;have X0:=Az.m hbox;have LG:=Az.m (Nat.le_trans H0.o.below.size (Nat.le_of_eq hg14.symm));obtain ⟨z0,z1,z2⟩:=bc3 hbox;have zf:=Ab hbox;have hm:=H0.o.same hbl;clear H0 FX;have H0:=Az.m hm;have FX:=hm.cells;clear hm;have NE:=Az.m (Nat.ne_of_lt (Nat.lt_of_lt_of_le (Bb H13.o) (Nat.le_of_eq hg14.symm)));have hq:=Ac H13.o hbl;clear H13;have H13:=Az.m hq;have k1:wg14.cell? (Ψ g13 1)=some (.int .u32 x1):=(Aa hq 1).trans rfl;have k2:wg14.cell? (Ψ g13 2)=some (.int .u32 x2):=(Aa hq 2).trans rfl;clear hq;clear hbox hbl hg14))|((with_reducible refine Bd (t:=29) (p:=14) rfl ?_);go_must (refine Aw (w1:=(((wg14.setCell (Ψ g14 0) (Φ ((wrap64 (x0.tmod 3+3)).tmod 3))).setCell (Ψ g14 1) (.int .u32 0)).setCell (Ψ g14 2) (.int .u32 0))) ?hg (t:=29) (p:=14) rfl ?hn ?hr ?_;(case hg=>rfl);(case hn=>rfl);(case hr=>exact Λ26);intro w4 e2;have hX:=dA X0.o (a:=Φ ((wrap64 (x0.tmod 3+3)).tmod 3)) (b:=.int .u32 0) (d:=.int .u32 0);rw [← e2] at hX;have ho:Over (fun k=>k=g14) wg14 w4:=Λ147;have hm:=H0.o.off ho (fun k hk=>by rw [hk];exact ⟨LG.o,fun cs' t' fr' h'=>by rw [X0.o] at h';injection h' with h';injection h' with _ h2 _;subst h2;decide⟩);(have hx:=HR.o;obtain ⟨ys,hy⟩:=hx;have hr:=Bi hy ho (fun k hk e=>NR.o k hk e);clear HR;have HR:=Az.m (Exists.intro ys hr);clear hy hr);clear H0 FX;have H0:=Az.m hm;have FX:=hm.cells;clear hm;have ho13:=ho.blk H13.o NE.o;clear e2 ho zf z0 z1 z2;have X0_:=Az.m hX;clear X0;have X0:=X0_;clear X0_;have hq:=ho13;clear H13;have H13:=Az.m hq;clear hq;have k1:w4.cell? (Ψ g13 1)=some (.int .u32 x1):=(Aa H13.o 1).trans rfl;obtain ⟨y0,y1,y2⟩:=bc3 hX;have yf:=Ab hX;clear hX))|((with_reducible refine Bd (t:=27) (p:=75) rfl ?_);go_must (refine Aw (w1:=w4.setCell (Ψ g14 1) (.int .u32 x1)) ?hg (t:=27) (p:=75) rfl ?hn ?hr ?_;(case hg=>rfl);(case hn=>rfl);(case hr=>exact Λ18);intro w5 e2;have hX:w5.heap[g14]?=some (.cells #[Φ ((wrap64 (x0.tmod 3+3)).tmod 3),.int .u32 x1,.int .u32 0] 29 (0,0)):=(by rw [e2];exact Ae X0.o 1 _ rfl);have ho:Over (fun k=>k=g14) w4 w5:=Λ145;have hm:=H0.o.off ho (fun k hk=>by rw [hk];exact ⟨LG.o,fun cs' t' fr' h'=>by rw [X0.o] at h';injection h' with h';injection h' with _ h2 _;subst h2;decide⟩);(have hx:=HR.o;obtain ⟨ys,hy⟩:=hx;have hr:=Bi hy ho (fun k hk e=>NR.o k hk e);clear HR;have HR:=Az.m (Exists.intro ys hr);clear hy hr);clear H0 FX;have H0:=Az.m hm;have FX:=hm.cells;clear hm;have ho13:=ho.blk H13.o NE.o;clear H13;have H13:=Az.m ho13;clear e2 ho ho13 y0 y1 y2 yf X0;have X0:=Az.m hX;(try clear k1);(try clear k2);have k2:w5.cell? (Ψ g13 2)=some (.int .u32 x2):=(Aa H13.o 2).trans rfl;obtain ⟨y0,y1,y2⟩:=bc3 hX;have yf:=Ab hX;clear hX))|((with_reducible refine Bd (t:=27) (p:=78) rfl ?_);go_must (refine Aw (w1:=w5.setCell (Ψ g14 2) (.int .u32 x2)) ?hg (t:=27) (p:=78) rfl ?hn ?hr ?_;(case hg=>rfl);(case hn=>rfl);(case hr=>exact Λ18);intro w6 e2;have hX:w6.heap[g14]?=some (.cells #[Φ ((wrap64 (x0.tmod 3+3)).tmod 3),.int .u32 x1,.int .u32 x2] 29 (0,0)):=(by rw [e2];exact Ae X0.o 2 _ rfl);have ho:Over (fun k=>k=g14) w5 w6:=Λ146;have hm:=H0.o.off ho (fun k hk=>by rw [hk];exact ⟨LG.o,fun cs' t' fr' h'=>by rw [X0.o] at h';injection h' with h';injection h' with _ h2 _;subst h2;decide⟩);(have hx:=HR.o;obtain ⟨ys,hy⟩:=hx;have hr:=Bi hy ho (fun k hk e=>NR.o k hk e);clear HR;have HR:=Az.m (Exists.intro ys hr);clear hy hr);clear H0 FX;have H0:=Az.m hm;have FX:=hm.cells;clear hm;have ho13:=ho.blk H13.o NE.o;clear H13;have H13:=Az.m ho13;clear e2 ho ho13 y0 y1 y2 yf X0;have X0:=Az.m hX;(try clear k1);(try clear k2);have k2:w6.cell? (Ψ g13 2)=some (.int .u32 x2):=(Aa H13.o 2).trans rfl;obtain ⟨y0,y1,y2⟩:=bc3 hX;have yf:=Ab hX;clear hX))|((with_reducible refine Al (N:=82) rfl ?_);go_must (obtain ⟨ys,hy⟩:=HR.o;refine Hk (w0:=w) w.heap.size rfl (.tmp 79) (.tmp 81) 24 29 (.agg #[Φ 0,.int .u32 0,.int .u32 0]) 3 16 rfl Tryz.underlying24 fM rfl Zd Zd lv k ys _ rfl rfl rfl ?h1 hy H0.o.below H0.o.below.size (by have:=HK.o;have:=HN.o;omega) ?_;(case h1=>exact Λ125);intro v82 w9 hown hb9 hg9 hat;have hm:=H0.o.off (Fv hg9) (fun k hk=>⟨Fk hy k hk.symm,fun cs' t' fr' h'=>by obtain ⟨cs2,h2⟩:=Ay hy hk.symm;rw [h2] at h';injection h' with h';injection h' with _ h2' _;subst h2';decide⟩);clear HR;have HR:=Az.m (Exists.intro (p:=fun ys=>w9.ownsRow w.heap.size 29 3 v82 (k+1) ys) _ hown);clear H0 FX;have H0:=Az.m hm;have FX:=hm.cells;clear hm;clear hown hb9 hg9 hat hy)))
      exact ⟨⟨k+1,rfl,HK.o,H0,HR⟩,by have:=HK.o;show n-((k:Int)+1).toNat<n-((k:Int)).toNat;omega⟩
    .generalize u11=lv at HR ⊢
     by_cases hj0:j=0
     .have b1:((k:Int)<(n:Int))=False:=eq_false Zo
      have b2:(k<n)=False:=eq_false Zo
      have a1:((j:Int)<1)=True:=eq_true Zo
      have a2:(j<1)=True:=eq_true Zo
      have cg:wr.cell? (Ψ gc j)=some (.slice CA n ccap):=by rw [hj0];exact (Over.of_below (fun _=>False) H0.o.below).cell HGC.o (fun h=>h)
      clear hgo hk hj0
      obtain ⟨ys,hy⟩:=HR.o
      obtain ⟨a1,cp1,e1⟩:=La hy
      subst e1
      clear hy
      go_wp2_with (first|((with_reducible refine Al (N:=87) rfl ?_);go_must (obtain ⟨xs,hxl,hx⟩:=H0.o.calls;refine Lq (w0:=w) w.heap.size rfl (.tmp 84) (.tmp 86) 34 24 (.slice none 0 0) 24 rfl Tryz.underlying34 fN rfl Zd cv xs (.slice a1 k cp1) rfl rfl rfl (by rw [hxl];exact hx) H0.o.below H0.o.below.size Λ151 ?_;intro v87 w9 hown hb9 hg9 hat;have b9:=(Fv hg9).blk H0.o.b9 (fun hs=>by obtain ⟨cs2,h2⟩:=Ay hx hs.symm;exact An H0.o.b9 h2 Zd rfl);have h2:w9.ownsRow w.heap.size 24 1 v87 (j+1) (xs++[.slice a1 k cp1]):=Λ111;clear hown hat;obtain ⟨a9,cp9,e9⟩:=La h2;subst e9;have HM:=Az.m (H0.o.setCalls hg9 h2 (by simp [hxl]));have C7:w9.cell? (Ψ g9 7)=some cv:=(Aa b9 7).trans rfl;have F7:=Ab b9 7;clear H0 FX h2 hb9 hg9 hx b9)))
      exact ⟨⟨j+1,_,rfl,by have:=HJ.o;omega,HM⟩,by have:=HJ.o;show c.th.toNat-((j:Int)+1).toNat<c.th.toNat-((j:Int)).toNat;omega⟩
     .have b1:((j:Int)<1)=False:=eq_false Zo
      have b2:(j<1)=False:=eq_false Zo
      clear hgo hk hj0
      obtain ⟨ys,hy⟩:=HR.o
      obtain ⟨a1,cp1,e1⟩:=La hy
      subst e1
      clear hy
      go_wp2_with (first|((with_reducible refine Al (N:=87) rfl ?_);go_must (obtain ⟨xs,hxl,hx⟩:=H0.o.calls;refine Lq (w0:=w) w.heap.size rfl (.tmp 84) (.tmp 86) 34 24 (.slice none 0 0) 24 rfl Tryz.underlying34 fN rfl Zd cv xs (.slice a1 k cp1) rfl rfl rfl (by rw [hxl];exact hx) H0.o.below H0.o.below.size Λ151 ?_;intro v87 w9 hown hb9 hg9 hat;have b9:=(Fv hg9).blk H0.o.b9 (fun hs=>by obtain ⟨cs2,h2⟩:=Ay hx hs.symm;exact An H0.o.b9 h2 Zd rfl);have h2:w9.ownsRow w.heap.size 24 1 v87 (j+1) (xs++[.slice a1 k cp1]):=Λ111;clear hown hat;obtain ⟨a9,cp9,e9⟩:=La h2;subst e9;have HM:=Az.m (H0.o.setCalls hg9 h2 (by simp [hxl]));have C7:w9.cell? (Ψ g9 7)=some cv:=(Aa b9 7).trans rfl;have F7:=Ab b9 7;clear H0 FX h2 hb9 hg9 hx b9)))
      exact ⟨⟨j+1,_,rfl,by have:=HJ.o;omega,HM⟩,by have:=HJ.o;show c.th.toNat-((j:Int)+1).toNat<c.th.toNat-((j:Int)).toNat;omega⟩
  .have b0:=Bq hjt
   clear hj hjt
   go_wp2
   refine π ?_
   go_loopw [15] (fun i wr=>i=Φ 0∧Az (LitAt c gc DA dcap ds g4 g5 g8 g9 cv (.slice none 0 0) j 0 w wr)) (fun _ _=>0)
   case atStart=>exact ⟨rfl,H0⟩
   case round=>
    obtain ⟨rfl,hw⟩:=hrel
    clear H0 FX
    have H0:=hw
    have FX:=hw.out.cells
    clear hw
    go_wp2
    refine π ?_
    go_loopw [16] (fun i wr=>∃ (k:Nat) (dv:Value),i=Φ k∧k≤(ds.take 4096).length∧Az (LitAt c gc DA dcap ds g4 g5 g8 g9 cv dv j k w wr)) (fun i _=>(ds.take 4096).length-(intOf i).toNat)
    case atStart=>exact ⟨0,_,rfl,Nat.zero_le _,H0⟩
    case round=>
     obtain ⟨k,dv,rfl,hk,hw⟩:=hrel
     clear H0 FX
     have H0:=hw
     have FX:=hw.out.cells
     clear hw
     by_cases hkd:k<(ds.take 4096).length
     .have hk1:k<4096∧k<ds.length:=by rw [List.length_take] at hkd;omega
      have b1:((k:Int)<(ds.length:Int))=True:=eq_true Zo
      have b2:(k<ds.length)=True:=eq_true hk1.2
      have b3:((k:Int)<4096)=True:=eq_true Zo
      have b4:(k<4096)=True:=eq_true hk1.1
      have w2_:=Ak (x:=(k:Int)+1) Zo Zo
      obtain ⟨ad,e0,xb⟩:=HDS.o.at_ (k:Int) Zo Zo
      subst e0
      rw [Int.toNat_natCast] at xb
      have XB:=Az.m xb
      have HK:=Az.m hkd
      have HK1:=Az.m hk1
      obtain ⟨i5,hi5,hz5,hs5,hb5⟩:=info_parts rF
      clear hk hkd hk1 xb
      go_wp2
      with_reducible refine Dw (id:=25) ?_
      clear FX
      refine Mi 10 (fun W=>W.cell? (Ψ g9 9)=some dv∧W.cell? (Ψ g4 9)=some (.slice (some ad) ds.length dcap)∧W.cell? (ad.add k)=some (.int .u8 (rd ds (k:Int)))) Zk (H0.o.drew.s25 XB.o) (fun hZ8=>?_)
      refine π ?_
      have hd:=H0.o.drew
      clear H0
      have H0:=Az.m hd
      clear hd
      generalize wr.drew=v0 at hZ8 H0 ⊢
      (refine Bj (i:=0) (oi:=_) rfl Zk Zk Zk Zk (fun _ _ _ h=>h) μ Za ?_);refine π ?_;(refine Bj (i:=1) (oi:=_) rfl Zk Zk Zk Zk (fun _ _ _ h=>h) μ Za ?_);refine π ?_;(refine Bj (i:=2) (oi:=_) rfl Zk Zk Zk Zk (fun _ _ _ h=>h) μ Za ?_);refine π ?_;(refine Bj (i:=3) (oi:=_) rfl Zk Zk Zk Zk (fun _ _ _ h=>h) μ Za ?_);refine π ?_;(refine Bj (i:=4) (oi:=_) rfl Zk Zk Zk Zk (fun _ _ _ h=>h) μ Za ?_);refine π ?_;(refine Bj (i:=5) (oi:=_) rfl Zk Zk Zk Zk (fun _ _ _ h=>h) μ Za ?_);refine π ?_;(refine Bj (i:=6) (oi:=_) rfl Zk Zk Zk Zk (fun _ _ _ h=>h) μ Za ?_);refine π ?_;refine Cb (rs:=[7]) Zk Zs ?_;refine AllReadyL.cons (o:=_) rfl (fun K hK=>?_) AllReadyL.nil;go_simp;refine Cn ?_;intro v1 e1;have B7:=Az.m (Ce e1);have D1:=Az.m (Cz e1);have hm:=H0.o.same D1.o;clear H0 e1;have H0:=Az.m hm;clear hm;refine hK.out _ _ (H0.o.s25 XB.o) (fun hZ9=>?_);clear hK K hZ8;have hZ8:=hZ9;clear hZ9;refine π ?_;refine Cb (rs:=[8]) Zk Zs ?_;refine AllReadyL.cons (o:=_) rfl (fun K hK=>?_) AllReadyL.nil;refine Bm _ rfl (.tmp 132) (.tmp 138) 25 rfl w.heap.size 5 i5 (.int .u8 0) 1 1 Tryz.underlying25 hi5 hz5 hs5 hb5 rfl Zd dv k (Co .u8 (ds.take k)) Λ153 H0.o.draws (Ψ v0.heap.size 0) 1 1 [.int .u8 (rd ds (k:Int))] Λ153 rfl ?hnews Λ154 Zd (by have:=HK1.o;simp only [maxLen];omega) (by have:=HK1.o;omega) H0.o.below.size _ rfl ?_;(case hnews=>intro q u hq;rw [Dj];exact (Aa B7.o q).trans (by simpa using hq));intro g1 cap1 v6 hown6 hg6 hat6 hlt6 hkp6;have G6:=Az.m hg6;have O6:=Az.m hown6;have hs6:=H0.o.s25g XB.o hg6;have F6:=hs6.2;refine hK.out _ _ hs6.1 (fun hZ9=>?_);clear hs6 hown6 hg6 hat6 hlt6 hkp6;clear hK K hZ8;have hZ8:=hZ9;clear hZ9;refine π ?_;(refine Bj (i:=9) (oi:=_) rfl Zk Zk Zk Zk (fun _ _ _ h=>h) μ Za ?_);refine π ?_;refine Cb (rs:=[10]) Zk Zs ?_;refine AllReadyL.last rfl (fun K hK=>?_);have C9:=hZ8.1;go_simp;refine hK.out _ _ ?_;refine π ?_;refine Mj Zk ?_ _
      have h9:=H0.o.setDraws G6.o (by rw [← gR HK1.o.2];exact O6.o)
      have H9:=Az.m h9
      clear h9
      go_wp2
      exact ⟨⟨k+1,_,rfl,HK.o,H9⟩,by have:=HK.o;show (ds.take 4096).length-((k:Int)+1).toNat<(ds.take 4096).length-((k:Int)).toNat;omega⟩
     .have hk2:k=(ds.take 4096).length:=Zo
      have HK2:=Az.m hk2
      have cut:((k:Int)<(ds.length:Int))=False∨(((k:Int)<(ds.length:Int))=True∧((k:Int)<4096)=False):=by
       rw [List.length_take] at hk2
       by_cases h:k<ds.length
       .exact .inr ⟨eq_true Zo,eq_false Zo⟩
       .exact .inl (eq_false Zo)
      have cut2:(k<ds.length)=False∨((k<ds.length)=True∧(k<4096)=False):=by
       rw [List.length_take] at hk2
       by_cases h:k<ds.length
       .exact .inr ⟨eq_true Zo,eq_false Zo⟩
       .exact .inl (eq_false Zo)
      obtain ⟨xs,hxl,hx⟩:=H0.o.calls
      obtain ⟨a8,cp8,e8⟩:=La hx
      obtain ⟨a9,cp9,e9⟩:=La H0.o.draws
      clear FX hx hxl
      subst e8 e9
      obtain ⟨q0,q1,q2,q3,q4,q5,q6,q7,q8,q9⟩:=oL H0.o.b9
      obtain ⟨z0,z1,z2,z3,z4,z5,z6,z7,z8,z9⟩:=oL H0.o.b8
      have zf:=Ab H0.o.b8
      have f49:=H0.o.cells.2.2.1
      clear hk hkd hk2
      rcases cut with b1|⟨b1,b2⟩
      .rcases cut2 with b3|⟨b3,b4⟩
       .go_wp2_with (first|((with_reducible refine Bd (t:=37) (p:=8) rfl ?_);go_must (refine Aw (w1:=((((((((((wr.setCell (Ψ g8 0) (Φ c.algo)).setCell (Ψ g8 1) (Φ c.th)).setCell (Ψ g8 2) (Φ c.ns)).setCell (Ψ g8 3) (Φ c.lv)).setCell (Ψ g8 4) (Φ c.batch)).setCell (Ψ g8 5) (Φ c.probes)).setCell (Ψ g8 6) (Φ c.scan)).setCell (Ψ g8 7) (.slice a8 j cp8)).setCell (Ψ g8 8) (.slice none 0 0)).setCell (Ψ g8 9) (.slice a9 k cp9))) ?hg (t:=37) (p:=8) rfl ?hn ?hr ?_;(case hg=>rfl);(case hn=>rfl);(case hr=>exact Λ24);intro w7 e7;have HX:=Az.m (show w7.heap[g8]?=some (.cells #[Φ c.algo,Φ c.th,Φ c.ns,Φ c.lv,Φ c.batch,Φ c.probes,Φ c.scan,.slice a8 j cp8,.slice none 0 0,.slice a9 k cp9] 37 (0,0)) from (by rw [e7];exact Kj H0.o.b8));have HO:=Az.m (show Over (fun k=>k=g8) wr w7 from (by rw [e7];exact Jc));clear e7)))
        refine bodyPost_ret (results_cell_row rfl _ _ g8 37 _ (0,0) _ rfl HX.o Tryz.underlying37 rfl Zk) rfl ?_
        have hr:=Ol (Bi H0.o.draws HO.o (fun k hk=>(Ay H0.o.draws hk).elim fun cs2 h2=>An h2 H0.o.b8 Zd)) Λ142 Λ99
        rw [HK2.o,Yf] at hr
        exact ⟨_,_,_,_,rfl,by rw [HK2.o];exact hr,Dg H0.o.below HO.o (fun k hk=>hk▸H0.o.low.2.2.1)⟩
       .exact absurd (of_eq_true b3) (fun h=>of_eq_false b1 Zo)
      .rcases cut2 with b3|⟨b3,b4⟩
       .exact absurd (of_eq_true b1) (fun h=>of_eq_false b3 Zo)
       .go_wp2_with (first|((with_reducible refine Bd (t:=37) (p:=8) rfl ?_);go_must (refine Aw (w1:=((((((((((wr.setCell (Ψ g8 0) (Φ c.algo)).setCell (Ψ g8 1) (Φ c.th)).setCell (Ψ g8 2) (Φ c.ns)).setCell (Ψ g8 3) (Φ c.lv)).setCell (Ψ g8 4) (Φ c.batch)).setCell (Ψ g8 5) (Φ c.probes)).setCell (Ψ g8 6) (Φ c.scan)).setCell (Ψ g8 7) (.slice a8 j cp8)).setCell (Ψ g8 8) (.slice none 0 0)).setCell (Ψ g8 9) (.slice a9 k cp9))) ?hg (t:=37) (p:=8) rfl ?hn ?hr ?_;(case hg=>rfl);(case hn=>rfl);(case hr=>exact Λ24);intro w7 e7;have HX:=Az.m (show w7.heap[g8]?=some (.cells #[Φ c.algo,Φ c.th,Φ c.ns,Φ c.lv,Φ c.batch,Φ c.probes,Φ c.scan,.slice a8 j cp8,.slice none 0 0,.slice a9 k cp9] 37 (0,0)) from (by rw [e7];exact Kj H0.o.b8));have HO:=Az.m (show Over (fun k=>k=g8) wr w7 from (by rw [e7];exact Jc));clear e7)))
        refine bodyPost_ret (results_cell_row rfl _ _ g8 37 _ (0,0) _ rfl HX.o Tryz.underlying37 rfl Zk) rfl ?_
        have hr:=Ol (Bi H0.o.draws HO.o (fun k hk=>(Ay H0.o.draws hk).elim fun cs2 h2=>An h2 H0.o.b8 Zd)) Λ142 Λ99
        rw [HK2.o,Yf] at hr
        exact ⟨_,_,_,_,rfl,by rw [HK2.o];exact hr,Dg H0.o.below HO.o (fun k hk=>hk▸H0.o.low.2.2.1)⟩
end
def Eo (l:List (Int×Int×Int)):Nat→List Value
 |0=>[]
 |m+1=>Eo l m++[Φ (Is l m).1,.int .u32 (Is l m).2.1,.int .u32 (Is l m).2.2]
theorem Mh (l:List (Int×Int×Int)):∀ m,(Eo l m).length=m*3
 |0=>rfl
 |m+1=>by
  show (Eo l m++_).length=_
  rw [List.length_append,Mh l m]
  simp
  omega
theorem Pc (l:List (Int×Int×Int)) {i:Nat}:∀ {m:Nat},i<m→(Eo l m)[i*3]?=some (Φ (Is l i).1)∧(Eo l m)[i*3+1]?=some (.int .u32 (Is l i).2.1)∧(Eo l m)[i*3+2]?=some (.int .u32 (Is l i).2.2)
 |m+1,h=>by
  have hl:=Mh l m
  show (Eo l m++_)[_]?=_∧(Eo l m++_)[_]?=_∧(Eo l m++_)[_]?=_
  by_cases hi:i<m
  .obtain ⟨h1,h2,h3⟩:=Pc l hi
   exact ⟨by rw [List.getElem?_append_left Zo];exact h1,by rw [List.getElem?_append_left Zo];exact h2,by rw [List.getElem?_append_left Zo];exact h3⟩
  .obtain rfl:i=m:=Zo
   exact ⟨by rw [List.getElem?_append_right Zo,hl,Nat.sub_self];rfl,by rw [List.getElem?_append_right Zo,hl,Nat.add_sub_cancel_left];rfl,by rw [List.getElem?_append_right Zo,hl,Nat.add_sub_cancel_left];rfl⟩
structure TopAt (ca ct cn cl cb cp csn:Int) (l:List (Int×Int×Int)) (g3 g9:Nat) (v:Nat→Value) (m:Nat→Nat) (w0 w:World):Prop where
 b3:w.heap[g3]?=some (.cells #[Φ ca,Φ ct,Φ cn,Φ cl,Φ cb,Φ cp,Φ csn] 23 (0,0))
 b9:w.heap[g9]?=some (.cells #[v 0,v 1,v 2] 31 (0,0))
 told:∀ j,j<3→w.ownsRow w0.heap.size 46 3 (v j) (m j) (Eo l (m j))
 apart:∀ i j b,i<3→j<3→i≠j→(v i).ownBlock=some b→(v j).ownBlock≠some b
 low:w0.heap.size≤g3∧w0.heap.size≤g9
 below:Below w0.heap.size w0 w
def sQ (g3 g9:Nat) (v:Nat→Value) (w0:World) (k:Nat):Prop:=w0.heap.size≤k∧k≠g3∧k≠g9∧∀ j,j<3→(v j).ownBlock≠some k
namespace TopAt
variable {ca ct cn cl cb cp csn:Int} {l:List (Int×Int×Int)} {g3 g9:Nat} {v:Nat→Value} {m:Nat→Nat} {w0 w w1:World}
theorem off {S:Nat→Prop} (h:TopAt ca ct cn cl cb cp csn l g3 g9 v m w0 w) (ho:Over S w w1) (hS:∀ k,S k→sQ g3 g9 v w0 k):TopAt ca ct cn cl cb cp csn l g3 g9 v m w0 w1:=
 ⟨ho.blk h.b3 (fun hs=>(hS _ hs).2.1 rfl),ho.blk h.b9 (fun hs=>(hS _ hs).2.2.1 rfl),fun j hj=>Bi (h.told j hj) ho (fun k hk hs=>(hS k hs).2.2.2 j hj hk),h.apart,h.low,Dg h.below ho (fun k hs=>(hS k hs).1)⟩
theorem same (h:TopAt ca ct cn cl cb cp csn l g3 g9 v m w0 w) (hb:Below w.heap.size w w1):TopAt ca ct cn cl cb cp csn l g3 g9 v m w0 w1:=h.off (Over.of_below (fun _=>False) hb) (fun _ hk=>hk.elim)
theorem drew (h:TopAt ca ct cn cl cb cp csn l g3 g9 v m w0 w):TopAt ca ct cn cl cb cp csn l g3 g9 v m w0 w.drew:=h.same (Da (Below.refl _ _))
theorem fresh (h:TopAt ca ct cn cl cb cp csn l g3 g9 v m w0 w) {g:Nat} (hg:w.heap.size≤g):sQ g3 g9 v w0 g:=
 ⟨Nat.le_trans h.below.size hg,fun e=>by have:=Bb h.b3;omega,fun e=>by have:=Bb h.b9;omega,fun j hj e=>by have:=Gk (h.told j hj) g e;omega⟩
theorem free {g:Nat} {cs:Array Value} {t:TypeId} (h:TopAt ca ct cn cl cb cp csn l g3 g9 v m w0 w) (hg:w0.heap.size≤g) (hb:w.heap[g]?=some (.cells cs t (0,0))) (ht:t≠23∧t≠31∧t≠46):sQ g3 g9 v w0 g:=
 ⟨hg,fun e=>An hb h.b3 ht.1 e,fun e=>An hb h.b9 ht.2.1 e,fun j hj e=>by
  obtain ⟨cs',hc⟩:=Ay (h.told j hj) e
  exact An hb hc ht.2.2 rfl⟩
theorem machine {n:Nat} (h:TopAt ca ct cn cl cb cp csn l g3 g9 v m w0 w) (hn:w0.heap.size≤n) (ho:Over (Bn n w) w w1):TopAt ca ct cn cl cb cp csn l g3 g9 v m w0 w1:=
 h.off ho (fun k hk=>by
  obtain ⟨⟨cs,t,fr,hb,ht⟩,hk2⟩:=hk
  refine ⟨Nat.le_trans hn hk2,?_,?_,fun j hj e=>?_⟩
  .rintro rfl
   exact Ik h.b3 Zd ⟨cs,t,fr,hb,ht⟩
  .rintro rfl
   exact Ik h.b9 Zd ⟨cs,t,fr,hb,ht⟩
  .obtain ⟨cs',hc⟩:=Ay (h.told j hj) e
   exact Ik hc Zd ⟨cs,t,fr,hb,ht⟩)
theorem more {k:Nat} {v2:Value} (h:TopAt ca ct cn cl cb cp csn l g3 g9 v m w0 w) (hk:k<3) (hg:w.grownBy w1 (v k).ownBlock) (hr:w1.ownsRow w0.heap.size 46 3 v2 (m k+1) (Eo l (m k+1))) (hat:(v k).ownBlock=v2.ownBlock∨∃ b,v2.ownBlock=some b∧w.heap.size≤b) :
  TopAt ca ct cn cl cb cp csn l g3 g9 (fun j=>if j=k then v2 else v j) (fun j=>if j=k then m k+1 else m j) w0 (w1.setCell (Ψ g9 k) v2):=by
 have ho:=Fv hg
 have key:∀ {b:Nat} {cs:Array Value} {e:TypeId},w.heap[b]?=some (.cells cs e (0,0))→e≠46→¬ some b=(v k).ownBlock:=by
  intro b cs e hb he hs
  obtain ⟨cs',h'⟩:=Ay (h.told k hk) hs.symm
  exact An hb h' he rfl
 have b9:=ho.blk h.b9 (key h.b9 Zd)
 have ho2:Over (fun k=>k=g9) w1 (w1.setCell (Ψ g9 k) v2):=(Over.refl (fun k=>k=g9) w1).set_ (Or.inl rfl) _
 have row:∀ {u:Value} {n:Nat} {xs:List Value},w1.ownsRow w0.heap.size 46 3 u n xs→(w1.setCell (Ψ g9 k) v2).ownsRow w0.heap.size 46 3 u n xs:=fun hx=>Bi hx ho2 (fun b hb=>(Ay hx hb).elim fun cs hc=>An hc b9 Zd)
 refine ⟨ho2.blk (ho.blk h.b3 (key h.b3 Zd)) (An (ho.blk h.b3 (key h.b3 Zd)) b9 Zd),?_,fun j hj=>?_,fun i j b hi hj hne e1 e2=>?_,h.low,Dg (Dg h.below ho (fun b hs=>Fk (h.told k hk) b hs.symm)) ho2 (fun b hs=>hs▸h.low.2)⟩
 .refine Ae b9 k _ ?_
  rcases (show k=0∨k=1∨k=2 by omega) with rfl|rfl|rfl<;>rfl
 .by_cases e:j=k
  .subst e
   rw [if_pos rfl,if_pos rfl]
   exact row hr
  .skip
   rw [if_neg e,if_neg e]
   exact row (Bi (h.told j hj) ho (fun b hb hs=>h.apart j k b hj hk e hb hs.symm))
 .have old:∀ j b,j<3→j≠k→(v j).ownBlock=some b→v2.ownBlock≠some b:=by
   intro j b hj hjk hb h2
   rcases hat with hat|⟨b',hb',hle⟩
   .exact h.apart j k b hj hk hjk hb (hat.trans h2)
   .rw [hb'] at h2
    injection h2 with h2
    have:=Gk (h.told j hj) b hb
    omega
  (try dsimp only at e1 e2)
  by_cases hik:i=k
  .rw [if_pos hik] at e1
   rw [if_neg (fun e=>hne (hik.trans e.symm))] at e2
   exact old j b hj (fun e=>hne (hik.trans e.symm)) e2 e1
  .rw [if_neg hik] at e1
   by_cases hjk:j=k
   .rw [if_pos hjk] at e2
    exact old i b hi hik e1 e2
   .rw [if_neg hjk] at e2
    exact h.apart i j b hi hj hne e1 e2
end TopAt
def BagAt (bv:Value) (b:List (Int×Int)) (w0 w:World):Prop:=Kd.R k66 66 w w0.heap.size (fun k=>bv.ownBlock=some k) bv (b.map Fc)
theorem rS {bv:Value} {b:List S66} {w0 w:World} {P:Nat→Prop} (h:Kd.R k66 66 w w0.heap.size P bv b):Kd.R k66 66 w w0.heap.size (fun k=>bv.ownBlock=some k) bv b:=
 Kd.R_flat (fun hm=>by obtain rfl:=iH hm;exact Je _ _ _ _) h (fun k hk _=>hk)
theorem BagAt.type {bv:Value} {b:List (Int×Int)} {w0 w:World} (h:BagAt bv b w0 w) {k:Nat} (hk:bv.ownBlock=some k):(∃ cs,w.heap[k]?=some (.cells cs 66 (0,0)))∧w0.heap.size≤k:=by
 obtain ⟨h0,inner,ho,hr⟩:=h
 exact ⟨Ay ho hk,Fk ho k hk⟩
theorem BagAt.over {bv:Value} {b:List (Int×Int)} {w0 w w1:World} {S:Nat→Prop} (h:BagAt bv b w0 w) (ho:Over S w w1) (hS:∀ k cs,S k→w.heap[k]?≠some (.cells cs 66 (0,0))):BagAt bv b w0 w1:=
 Kd.R_step h (fun k hk hlt=>ho.block k hlt (fun hs=>by
  obtain ⟨⟨cs,hc⟩,_⟩:=h.type hk
  exact hS k cs hs hc))
theorem BagAt.same {bv:Value} {b:List (Int×Int)} {w0 w w1:World} (h:BagAt bv b w0 w) (hb:Below w.heap.size w w1):BagAt bv b w0 w1:=h.over (Over.of_below (fun _=>False) hb) (fun _ _ hk=>hk.elim)
def RZ (c:Cf) (A:Ad) (T:Td) (qb thb n:Nat) (Z:St→Prop) (w:World):Prop:=∃ s,Rest c A T qb thb n s w∧Z s
theorem RZ.same {A:Ad} {T:Td} {qb thb n:Nat} {Z:St→Prop} {w w1:World} (R:RZ c A T qb thb n Z w) (hb:Below w.heap.size w w1):RZ c A T qb thb n Z w1:=R.elim fun s h=>⟨s,h.1.same hb,h.2⟩
theorem RZ.far {A:Ad} {T:Td} {qb thb n:Nat} {Z:St→Prop} {w w1:World} {S:Nat→Prop} (R:RZ c A T qb thb n Z w) (ho:Over S w w1) (hS:∀ k,S k→Alien w k):RZ c A T qb thb n Z w1:=R.elim fun s h=>⟨s,h.1.far ho hS,h.2⟩
def Zat (c:Cf) (l:List (Int×Int×Int)) (i:Nat) (s:St):Prop:=∃ bm,Q c s bm i∧bm.Perm (Jj l i)
theorem qN (G:Good c 0) {A:Ad} {T:Td} {qb thb n:Nat} {l:List (Int×Int×Int)} {i:Nat} {w:World} (R:RZ c A T qb thb n (Zat c l i) w) (hu:Tw l) (hi:i<l.length) (h40:l.length≤40) (hr:∀ j,j≤i→Jk l j) :
  Calls Tryz.prog 10 #[Pt qb 0,Φ 0,.agg #[Φ (Bp l i).1,.int .u32 (Bp l i).2.1,.int .u32 (Bp l i).2.2]] w fun e w'=>∃ (ka kk kv:Int) (Z:St→Prop),e=.returned (.tuple #[.agg #[Φ ka,.int .u32 kk,.int .u32 kv],Φ 0])∧RZ c A T qb thb n Z w'∧Over (Bn n w) w w'∧(((Bp l i).1=0∧ka=1∧kk=0∧kv=0)∨((ka,kk,kv)=Is l i∧Z=Zat c l (i+1))):=by
 obtain ⟨s,R,bm,hq,hp⟩:=R
 obtain ⟨s',r,h⟩:=Sq G hq hp hu hi h40 hr
 refine (R.call G (hr i (Nat.le_refl _)) r).mono ?_
 rintro e w1 ⟨rfl,hr1,ho⟩
 rcases h with ⟨h0,ha⟩|⟨ha,bm',hz⟩
 .exact ⟨1,0,0,fun _=>True,by rw [ha];rfl,⟨s',hr1,trivial⟩,ho,.inl ⟨h0,rfl,rfl,rfl⟩⟩
 .exact ⟨(Is l i).1,(Is l i).2.1,(Is l i).2.2,Zat c l (i+1),by rw [ha];rfl,⟨s',hr1,bm',hz⟩,ho,.inr ⟨rfl,rfl⟩⟩
theorem TopAt.cong {ca ct cn cl cb cp csn:Int} {l:List (Int×Int×Int)} {g3 g9:Nat} {v:Nat→Value} {m m':Nat→Nat} {w0 w:World} (h:TopAt ca ct cn cl cb cp csn l g3 g9 v m w0 w) (e:∀ j,j<3→m j=m' j):TopAt ca ct cn cl cb cp csn l g3 g9 v m' w0 w:=
 ⟨h.b3,h.b9,fun j hj=>by rw [← e j hj];exact h.told j hj,h.apart,h.low,h.below⟩
theorem TopAt.c9 {ca ct cn cl cb cp csn:Int} {l:List (Int×Int×Int)} {g3 g9:Nat} {v:Nat→Value} {m:Nat→Nat} {w0 w:World} (h:TopAt ca ct cn cl cb cp csn l g3 g9 v m w0 w) {k:Nat} (hk:k<3):w.cell? (Ψ g9 k)=some (v k):=by
 refine (Aa h.b9 k).trans ?_
 rcases (show k=0∨k=1∨k=2 by omega) with rfl|rfl|rfl<;>rfl
theorem TopAt.drewN {ca ct cn cl cb cp csn:Int} {l:List (Int×Int×Int)} {g3 g9:Nat} {v:Nat→Value} {m:Nat→Nat} {w0 w:World} (h:TopAt ca ct cn cl cb cp csn l g3 g9 v m w0 w) (n:Nat):TopAt ca ct cn cl cb cp csn l g3 g9 v m w0 (w.drewN n):=h.same (At (Below.refl _ _) n)
theorem TopAt.row {ca ct cn cl cb cp csn:Int} {l:List (Int×Int×Int)} {g3 g9 n:Nat} {v:Nat→Value} {w0 w:World} (h:TopAt ca ct cn cl cb cp csn l g3 g9 v (fun _=>n) w0 w) {j q:Nat} (hj:j<3) (hq:q<n):∃ g cp,v j=.slice (some (Ψ g 0)) n cp∧w.cell? (Ψ g (q*3))=some (Φ (Is l q).1)∧w.cell? (Ψ g (q*3+1))=some (.int .u32 (Is l q).2.1)∧w.cell? (Ψ g (q*3+2))=some (.int .u32 (Is l q).2.2):=by
 have hr:=h.told j hj
 obtain ⟨h0,h1,h2⟩:=Pc l hq
 rcases hr.2 with ⟨_,e⟩|⟨g,cap,cur,e,_⟩
 .omega
 .refine ⟨g,cap,e,?_,?_,?_⟩
  .have:=hr.cells (g:=g) (by rw [e];rfl) _ _ h0
   rw [Dj] at this
   exact this
  .have:=hr.cells (g:=g) (by rw [e];rfl) _ _ h1
   rw [Dj] at this
   exact this
  .have:=hr.cells (g:=g) (by rw [e];rfl) _ _ h2
   rw [Dj] at this
   exact this
def mAt (n k i:Nat):Nat→Nat:=fun j=>if j<k then n else if j=k then i else 0
theorem kY {n k i:Nat}:∀ j,(if j=k then mAt n k i k+1 else mAt n k i j)=mAt n k (i+1) j:=by
 intro j
 unfold mAt
 by_cases h:j=k
 .subst h
  simp
 .simp [h]
theorem nO {n k:Nat}:∀ j,mAt n k n j=mAt n (k+1) 0 j:=by
 intro j
 unfold mAt
 by_cases h:j<k
 .rw [if_pos h,if_pos Zo]
 .by_cases h2:j=k
  .rw [if_neg h,if_pos h2,if_pos Zo]
  .rw [if_neg h,if_neg h2,if_neg Zo]
   split<;>rfl
theorem kX {n:Nat}:∀ j,(fun _=>0:Nat→Nat) j=mAt n 0 0 j:=by
 intro j
 unfold mAt
 simp
theorem qK (op key val:Int):∃ r,jostleref09_Right.f op key val=some r∧(r=true→op=0∨((op=1∨op=2)∧key=0∧val=0)):=by
 unfold jostleref09_Right.f
 by_cases h0:op=0
 .exact ⟨true,by rw [if_pos h0],fun _=>.inl h0⟩
 by_cases h1:op=1
 .by_cases hk:key=0
  .exact ⟨_,by rw [if_neg h0,if_pos h1,if_pos hk],fun h=>.inr ⟨.inl h1,hk,by simpa using h⟩⟩
  .exact ⟨false,by rw [if_neg h0,if_pos h1,if_neg hk],fun h=>by cases h⟩
 by_cases h2:op=2
 .by_cases hk:key=0
  .exact ⟨_,by rw [if_neg h0,if_neg h1,if_pos h2,if_pos hk],fun h=>.inr ⟨.inr h2,hk,by simpa using h⟩⟩
  .exact ⟨false,by rw [if_neg h0,if_neg h1,if_pos h2,if_neg hk],fun h=>by cases h⟩
 exact ⟨false,by rw [if_neg h0,if_neg h1,if_neg h2],fun h=>by cases h⟩
theorem rT {bv:Value} {b b':List (Int×Int)} {op key val ka kk kv:Int} {w0 w:World} (hb:Below w0.heap.size w0 w) (h:BagAt bv b w0 w) (hf:jostleref13_Do.f 1100 (b.map Fc) op key val ka kk kv=some (b'.map Fc,true)) :
  Calls Tryz.prog 11 #[bv,.agg #[Φ op,.int .u32 key,.int .u32 val],.agg #[Φ ka,.int .u32 kk,.int .u32 kv]] w fun e w'=>∃ bv',e=.returned (.tuple #[bv',.bool true])∧BagAt bv' b' w0 w'∧Over (fun k=>bv.ownBlock=some k) w w':=by
 refine (jostleref13_Do.calls 1100 (fun k=>bv.ownBlock=some k) bv (b.map Fc) op key val ka kk kv (b'.map Fc) true w0 w hb h hf).mono ?_
 rintro e w1 ⟨bv',rfl,hr,hb1,hk⟩
 exact ⟨bv',rfl,rS hr,⟨hb1.os.trans hb.os.symm,hb1.tape.trans hb.tape.symm,hb1.output.trans hb.output.symm,hk.1,hk.2⟩⟩
theorem cL (b:List (Int×Int)) (o:Int×Int×Int):(Ht b o).1≠1:=by
 unfold Ht
 split
 .decide
 .split
  .decide
  .exact (by decide:(2:Int)≠1)
theorem oG {l:List (Int×Int×Int)} {i:Nat} {ka kk kv:Int} {Z:St→Prop} (h40:l.length≤40) (hi:i<l.length) (hr:Jk l i) (h:((Bp l i).1=0∧ka=1∧kk=0∧kv=0)∨((ka,kk,kv)=Is l i∧Z=Zat c l (i+1))) :
  ∃ b',jostleref13_Do.f 1100 ((Jj l i).map Fc) (Bp l i).1 (Bp l i).2.1 (Bp l i).2.2 ka kk kv=some (b'.map Fc,true)∧(ka=1∨(ka≠1∧(ka,kk,kv)=Is l i∧Z=Zat c l (i+1)∧b'=Jj l (i+1))):=by
 have hl:(Jj l i).length≤1000:=Nat.le_trans (Rc l i) Zo
 rcases h with ⟨h0,rfl,rfl,rfl⟩|⟨ha,hz⟩
 .refine ⟨Jj l i,?_,.inl rfl⟩
  have hr':Pf (Bp l i).1 (Bp l i).2.1 (Bp l i).2.2:=hr
  rw [h0] at hr' ⊢
  exact oF hl hr'
 .have hd:=wD hl (show Pf (Bp l i).1 (Bp l i).2.1 (Bp l i).2.2 from hr)
  have e:Ht (Jj l i) (Bp l i)=(ka,kk,kv):=ha.symm
  have e':Ht (Jj l i) ((Bp l i).1,(Bp l i).2.1,(Bp l i).2.2)=(ka,kk,kv):=e
  rw [e'] at hd
  refine ⟨Jj l (i+1),hd,.inr ⟨?_,ha,hz,rfl⟩⟩
  have:=cL (Jj l i) (Bp l i)
  rw [e] at this
  exact this
theorem hG (ht:1≤c.th∧c.th≤6) {gc n ccap dcap:Nat} {CA DA:Option Addr} {cs:List S29} {ds bs:List Int} (hbs:bs=ds.take 4096) (w:World) (hn:n≤40) (hgc:w.cell? (Ψ gc 0)=some (.slice CA n ccap)) (hcs:Kd.C k29 w CA n cs) (hd:ReadsInt w .u8 DA ds.length ds) :
  Calls Tryz.prog 7 #[.agg #[Φ 0,Φ 0,Φ 0,Φ 0,Φ 0,Φ 0,Φ 0,.slice (some (Ψ gc 0)) 1 1,.slice none 0 0,.slice DA ds.length dcap],.agg #[Φ c.algo,Φ c.th,Φ c.ns,Φ c.lv,Φ c.batch,Φ c.probes,Φ c.scan],Φ 40,Φ 0] w fun e w'=>∃ a8 n8 cp8 A cp,e=.returned (.agg #[Φ c.algo,Φ c.th,Φ c.ns,Φ c.lv,Φ c.batch,Φ c.probes,Φ c.scan,.slice a8 n8 cp8,.slice none 0 0,.slice A bs.length cp])∧ReadsInt w' .u8 A bs.length bs∧Below w.heap.size w w':=by
 subst hbs
 refine (Xh ht w hn hgc hcs hd).mono ?_
 rintro e w1 ⟨a8,n8,cp8,dv,rfl,⟨A,cp,rfl,hr⟩,hb⟩
 exact ⟨a8,n8,cp8,A,cp,rfl,hr,hb⟩
theorem nX:(Tryz.prog.info? 46).map (fun i=>(i.zero,i.size,i.bytes))=some (some (.agg #[Φ 0,.int .u32 0,.int .u32 0]),3,16):=Zk
def Tri (W:World) (ad:Addr) (i:Nat) (op key val:Int):Prop:=W.cell? (ad.add (i*3))=some (Φ op)∧W.cell? ⟨(ad.add (i*3)).block,(ad.add (i*3)).off+1,none⟩=some (.int .u32 key)∧W.cell? ⟨(ad.add (i*3)).block,(ad.add (i*3)).off+2,none⟩=some (.int .u32 val)
theorem Tri.below {w w1:World} {ad:Addr} {i:Nat} {op key val:Int} (h:Tri w ad i op key val) (hb:Below w.heap.size w w1):w1.cell? (ad.add (i*3))=some (Φ op)∧w1.cell? ⟨(ad.add (i*3)).block,(ad.add (i*3)).off+1,none⟩=some (.int .u32 key)∧w1.cell? ⟨(ad.add (i*3)).block,(ad.add (i*3)).off+2,none⟩=some (.int .u32 val):=by
 have ho:=Over.of_below (fun _=>False) hb
 exact ⟨ho.cell h.1 (fun h=>h),ho.cell h.2.1 (fun h=>h),ho.cell h.2.2 (fun h=>h)⟩
theorem Qk {w:World} {g:Nat} {ka kk kv:Int} (h:w.heap[g]?=some (.cells #[Φ ka,.int .u32 kk,.int .u32 kv] 46 (0,0))):w.cell? (Ψ g 0)=some (Φ ka)∧w.cell? (Ψ g 1)=some (.int .u32 kk)∧w.cell? (Ψ g 2)=some (.int .u32 kv):=⟨(Aa h 0).trans rfl,(Aa h 1).trans rfl,(Aa h 2).trans rfl⟩
end Go.Proofs.YtlejhikddkdanaaGreat.Mdl
