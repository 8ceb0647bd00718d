/- TopSame, part 4: lemmas on the way. -/
import Derived.Ground.Names2Prog
import Derived.Ground.SlgnProg
import Derived.RangeFuncBound
import Derived.RangeFuncBox
import Derived.RangeFuncLeaves
import Derived.RangeFuncNested
import Derived.Shelf.Slices.Clone
import Derived.Shelf.SlicesE.Clone
import Derived.Shelf.Small.Bits
import Derived.Shelf.Strconv.Itoa0
import Derived.Test.YtlejhikddkdanaaGreatM3
set_option maxHeartbeats 8000000
set_option maxRecDepth 1000000
set_option linter.unusedVariables false
set_option linter.unusedSimpArgs false
namespace Go.Proofs.YtlejhikddkdanaaGreat.Mdl
variable {c:Cf} {tid:Int}
def Ox (pc:Nat) (a b x:Int):Fr:={fn:=35,pc:=pc,r0:=a,r1:=b,r2:=x}
theorem Ru (ha:c.algo=2) {s:St} {pc:Nat} {a b x:Int} {fs:List Fr} (hp:pc≠90):bit c tid s (Ox pc a b x::fs)=lF c s (Ox pc a b x) fs:=by
 rw [Oo ha]
 unfold Ef
 rw [if_neg (by show ¬ (35<31∨36<35);omega),if_neg (show ¬ (Ox pc a b x).pc=90 from hp)]
 rfl
def Upto (m:Loc→Int) (n:Int):List Int→Prop
 |[]=>True
 |d::D=>ptr (m (.nd d 5))=D.headD n∧Upto m n D
theorem Upto.congr {m m':Loc→Int} {n:Int} (h:∀ x f,m' (.nd x f)=m (.nd x f)):∀ {D:List Int},Upto m n D→Upto m' n D
 |[],_=>trivial
 |d::D,hd=>⟨by rw [h];exact hd.1,Upto.congr h hd.2⟩
theorem Yc {m:Loc→Int} {n:Int} {L:List Int}:∀ {D:List Int} {p:Int},Row m (0:Nat) p (D++n::L)→Upto m n D
 |[],_,_=>trivial
 |[d],p,h=>⟨h.2.1,trivial⟩
 |d::e::D,p,h=>⟨h.2.1,Yc (D:=e::D) h.2⟩
theorem lX (G:Good c tid) (ha:c.algo=2) {n:Int} (fs:List Fr) (hfs:fs.length≤40):∀ (D:List Int) (s:St) (x:Int) (free us:List Int),Owned c s free (D++us)→Upto s.mm n D→n ∉ D→
  ∃ s' free',Runs c tid s (Ox 1 (D.headD n) n x::fs) (s'.told 0 0 0) fs∧Owned c s' free' us∧Kept s s'∧ButFree s.mm s'.mm:=by
 intro D
 induction D with
 |nil=>
  intro s x free us hO hU hn
  refine ⟨s,free,Runs.via (o:=⟨s.told 0 0 0,fs,[],false⟩) ?_ (Runs.refl _ _),hO,Kept.refl _,ButFree.refl _⟩
  rw [Ru ha Zd]
  show (if n=n then ok (s.told 0 0 0) fs else _)=_
  rw [if_pos rfl]
  rfl
 |cons d D ih=>
  intro s x free us hO hU hn
  have hd:=hO.pos (n:=d) Zs
  have hdn:d≠n:=fun e=>hn (by rw [e];exact List.mem_cons_self ..)
  have b1:bit c tid s (Ox 1 d n x::fs)=some ⟨s,Ox 2 d n (D.headD n)::fs,Cu (.nd d 5),true⟩:=by
   rw [Ru ha Zd]
   show (if d=n then _ else Ao c (.nd d 5) s (Ox 2 d n (ptr (s.mm (.nd d 5)))::fs))=_
   rw [if_neg hdn,hU.1,Ah (Cl G Zo hd Zd Zd)]
  have b2:bit c tid s (Ox 2 d n (D.headD n)::fs)=some ⟨s,{fn:=5,pc:=0,r0:=d}::Ox 1 (D.headD n) n (D.headD n)::fs,[],false⟩:=by
   rw [Ru ha Zd]
   rfl
  obtain ⟨s1,free1,r1,o1,k1,f1⟩:=Ke G (Ox 1 (D.headD n) n (D.headD n)::fs) hO (by simp;omega)
  obtain ⟨s2,free2,r2,o2,k2,f2⟩:=ih (s1.told 0 0 0) (D.headD n) free1 us (o1.told _ _ _) (Upto.congr (fun x f=>f1.2.1 x f) hU.2) (fun e=>hn (List.mem_cons_of_mem _ e))
  exact ⟨s2,free2,Runs.via b1 (Runs.via b2 (r1.trans r2)),o2,⟨k2.us.trans k1.us,k2.pred.trans k1.pred,k2.succ.trans k1.succ,k2.wrd.trans k1.wrd⟩,f1.trans f2⟩
def frL (fn pc:Nat) (e f n k no w v y:Int):Fr:={fn:=fn,pc:=pc,r0:=e,r1:=f,r2:=n,r3:=k,r4:=no,r5:=w,r6:=v,r8:=y}
theorem Dx (ha:c.algo=2) {s:St} {fn pc:Nat} {e f n k no w v y:Int} {fs:List Fr} (hf:fn=32∨fn=33) (hp:pc≠90):bit c tid s (frL fn pc e f n k no w v y::fs)=Gq c tid s (frL fn pc e f n k no w v y) fs:=by
 rw [Oo ha]
 unfold Ef
 rw [if_neg (by show ¬ (fn<31∨36<fn);omega),if_neg (show ¬ (frL fn pc e f n k no w v y).pc=90 from hp)]
 rcases hf with rfl|rfl<;>rfl
theorem Vf (G:Good c tid) (ha:c.algo=2) {fn:Nat} (hf:fn=32∨fn=33) {e f:Int} {m:Loc→Int} (he:m (.gl 1)=e):∀ (s:St) (x k y:Int),ButHaz m s.mm→ptr (m (.nd x 5))=y→y≠2→(1≤x∧x≤c.ns∧x≠2∧(x=1∨m (.nd x 2)=0))→k<1000→
   ∃ m',ButHaz m m'∧Runs c tid s [frL fn 2 e f x k 0 (m (.nd x 5)) 0 0] {s with mm:=m'} [frL fn 6 e f x (k+1) 0 (m (.nd x 5)) 0 0]:=by
  have hgl:=Cw (c:=c) 1 Zd Zd
  intro s x k y hb hy hy2 hx hk
  obtain ⟨w,hw⟩:∃ w,w=m (.nd x 5):=⟨_,rfl⟩
  rw [← hw] at hy ⊢
  have b2:bit c tid s [frL fn 2 e f x k 0 w 0 0]=some ⟨s,[frL fn 3 e f x k 0 w 0 0],[],false⟩:=by
   rw [Dx ha hf Zd]
   show (if ptr w=2 then _ else ok s [frL fn 3 e f x k 0 w 0 0])=_
   rw [hy,if_neg hy2]
   rfl
  obtain ⟨s3,hs3⟩:∃ s3,s3=s.put (.haz tid (Gl c k)) y:=⟨_,rfl⟩
  have hb3:ButHaz m s3.mm:=by rw [hs3];exact hb.trans (ButHaz.upd _ _ _ _)
  have b3:bit c tid s [frL fn 3 e f x k 0 w 0 0]=some ⟨s3,[frL fn 4 e f x (k+1) 0 w 0 0],[],true⟩:=by
   rw [Dx ha hf Zd]
   show (if k≥1000000 then none else Ao c (.haz tid (Gl c k)) (s.put (.haz tid (Gl c k)) (ptr w)) [frL fn 4 e f x (k+1) 0 w 0 0])=_
   rw [if_neg Zo,hy,Ah (Tg G ha k),← hs3]
   rfl
  have b4:bit c tid s3 [frL fn 4 e f x (k+1) 0 w 0 0]=some ⟨s3,[frL fn 5 e f x (k+1) 0 w 0 0],[],true⟩:=by
   rw [Dx ha hf Zd]
   show Ao c (.gl 1) s3 [frL fn (if s3.mm (.gl 1)≠e then 0 else 5) e f x (k+1) 0 w 0 0]=_
   rw [hb3.gl,he,if_neg Zs,Ah hgl]
   rfl
  have b5:∃ a ev,bit c tid s3 [frL fn 5 e f x (k+1) 0 w 0 0]=some ⟨s3,[frL fn 6 e f x (k+1) 0 w 0 0],ev,a⟩:=by
   by_cases h1:x=1
   .refine ⟨false,[],?_⟩
    rw [Dx ha hf Zd]
    show (if x≠1∧(0:Int)=0 then Ao c (.nd x 2) s3 [frL fn 6 e f x (k+1) (if s3.mm (.nd x 2)=1 then x else 0) w 0 0] else ok s3 [frL fn 6 e f x (k+1) 0 w 0 0])=_
    rw [if_neg (fun q=>q.1 h1)]
    rfl
   .refine ⟨true,Cu (.nd x 2),?_⟩
    have h0:s3.mm (.nd x 2)=0:=(hb3.nd x 2).trans (hx.2.2.2.resolve_left h1)
    rw [Dx ha hf Zd]
    show (if x≠1∧(0:Int)=0 then Ao c (.nd x 2) s3 [frL fn 6 e f x (k+1) (if s3.mm (.nd x 2)=1 then x else 0) w 0 0] else ok s3 [frL fn 6 e f x (k+1) 0 w 0 0])=_
    rw [if_pos ⟨h1,rfl⟩,h0,if_neg Zd,Ah (Cl G Zo ⟨hx.1,hx.2.1⟩ Zd Zd)]
  obtain ⟨a5,ev5,b5⟩:=b5
  refine ⟨s3.mm,hb3,Runs.via b2 (Runs.via b3 (Runs.via b4 (Runs.via b5 ?_)))⟩
  have e9:({s with mm:=s3.mm}:St)=s3:=by rw [hs3];rfl
  rw [e9]
  exact Runs.refl _ _
theorem uC (G:Good c tid) (ha:c.algo=2) {fn:Nat} (hf:fn=32∨fn=33) {e f:Int} {L:List Int} {m:Loc→Int} (he:m (.gl 1)=e):∀ (A:List Int) (s:St) (x k:Int),ButHaz m s.mm→Row m (0:Nat) x (A++L)→
  (∀ y ∈ (x::A).dropLast,mark (m (.nd y 5))=true)→(∀ y ∈ x::A,1≤y∧y≤c.ns∧y≠2∧(y=1∨m (.nd y 2)=0))→0≤k→k+A.length<1000→
  ∃ m',ButHaz m m'∧Runs c tid s [frL fn 2 e f x k 0 (m (.nd x 5)) 0 0] {s with mm:=m'} [frL fn 2 e f (Bc x A) (k+A.length) 0 (m (.nd (Bc x A) 5)) 0 0]:=by
 intro A
 induction A with
 |nil=>
  intro s x k hb hrow hm hx hk0 hk
  refine ⟨s.mm,hb,?_⟩
  have e:k+(([]:List Int).length:Int)=k:=Zs
  rw [e]
  exact Runs.refl _ _
 |cons y A ih=>
  intro s x k hb hrow hm hx hk0 hk
  have hx1:=hx x (List.mem_cons_self ..)
  have hy1:=hx y Zs
  obtain ⟨m1,hb1,r1⟩:=Vf G ha hf (f:=f) he s x k y hb hrow.1 hy1.2.2.1 hx1 Zo
  have hmx:=hm x (by rw [List.dropLast_cons_cons];exact List.mem_cons_self ..)
  have b6:bit c tid ({s with mm:=m1}:St) [frL fn 6 e f x (k+1) 0 (m (.nd x 5)) 0 0]=some ⟨{s with mm:=m1},[frL fn 7 e f y (k+1) 0 (m (.nd x 5)) 0 0],[],false⟩:=by
   rw [Dx ha hf Zd]
   show (if mark (m (.nd x 5))=true then ok ({s with mm:=m1}:St) [frL fn 7 e f (ptr (m (.nd x 5))) (k+1) 0 (m (.nd x 5)) 0 0] else _)=_
   rw [if_pos hmx,show ptr (m (.nd x 5))=y from hrow.1]
   rfl
  have b7:bit c tid ({s with mm:=m1}:St) [frL fn 7 e f y (k+1) 0 (m (.nd x 5)) 0 0]=some ⟨{s with mm:=m1},[frL fn 2 e f y (k+1) 0 (m (.nd y 5)) 0 0],Cu (.nd y 5),true⟩:=by
   rw [Dx ha hf Zd]
   show Ao c (.nd y 5) ({s with mm:=m1}:St) [frL fn 2 e f y (k+1) 0 (m1 (.nd y 5)) 0 0]=_
   rw [hb1.nd,Ah (Cl G Zo ⟨hy1.1,hy1.2.1⟩ Zd Zd)]
  obtain ⟨m2,hb2,r2⟩:=ih {s with mm:=m1} y (k+1) hb1 hrow.2 (fun z hz=>hm z (by rw [List.dropLast_cons_cons];exact List.mem_cons_of_mem _ hz)) (fun z hz=>hx z (List.mem_cons_of_mem _ hz)) Zo (by simp at hk;omega)
  refine ⟨m2,hb2,r1.trans (Runs.via b6 (Runs.via b7 ?_))⟩
  have e9:k+1+(A.length:Int)=k+((y::A).length:Int):=by simp;omega
  rw [e9] at r2
  exact r2
theorem nU (p:Int) (D:List Int):∀ x ∈ p::D,x=Bc p D∨x ∈ (p::D).dropLast:=by
 induction D generalizing p with
 |nil=>
  intro x hx
  exact .inl (by simpa [Bc] using hx)
 |cons d D ih=>
  intro x hx
  rw [List.dropLast_cons_cons]
  rcases List.mem_cons.1 hx with rfl|hx
  .exact .inr (List.mem_cons_self ..)
  .rcases ih d x hx with h|h
   .exact .inl h
   .exact .inr (List.mem_cons_of_mem _ h)
theorem Ln.take {m:Loc→Int} {D L:List Int} {R:Nat→List Int} {n w:Int} (h:Ln c m D (n::L) R) (hd:(1::(D++n::L)).Nodup) (hn:0≤n∧n<65536) (hlv:0<c.lv):Ln c (upd m (.nd (Bc 1 D) 5) (next w n true)) (D++[n]) L R:=by
 have hx:Bc 1 D ∉ n::L:=fun e=>by
  rcases Di 1 D with h5|h5
  .exact (List.nodup_cons.1 hd).1 (by rw [← h5];exact List.mem_append_right _ e)
  .exact (List.nodup_append.1 (List.nodup_cons.1 hd).2).2.2 _ h5 _ e rfl
 have hrow0:=h.rows 0 Zo
 rw [h.base] at hrow0
 have hptr:ptr (m (.nd (Bc 1 D) 5))=n:=(Row.tail hrow0).1
 have oth:∀ a f,a≠Bc 1 D∨f≠5→upd m (.nd (Bc 1 D) 5) (next w n true) (.nd a f)=m (.nd a f):=fun a f hh=>By _ _ (Ar hh)
 have same:upd m (.nd (Bc 1 D) 5) (next w n true) (.nd (Bc 1 D) 5)=next w n true:=Fi _ _ _
 have hg:upd m (.nd (Bc 1 D) 5) (next w n true) (.gl 3)=m (.gl 3):=By _ _ (fun e=>by cases e)
 obtain ⟨m',hm'⟩:∃ m',m'=upd m (.nd (Bc 1 D) 5) (next w n true):=⟨_,rfl⟩
 rw [← hm'] at oth same hg ⊢
 clear hm'
 have hmem:∀ x ∈ (D++[n])++L,x ∈ D++n::L:=fun x hx=>by simpa using hx
 refine ⟨fun j hj=>Row.congr (fun x _=>?_) (h.rows j hj),by rw [h.base];simp,h.nest,fun x hx2=>?_,?_,fun x hx2=>?_,(List.pairwise_cons.1 h.sorted).2.imp (fun {a b} hab=>by rw [oth _ _ (.inr Zd),oth _ _ (.inr Zd)];exact hab),fun x hx2=>?_,fun x hx2=>?_,fun x hx2=>?_,by rw [hg];exact h.tick⟩
 .by_cases e:x=Bc 1 D∧j=0
  .rw [e.1,e.2]
   show ptr (m' (.nd (Bc 1 D) (5+0)))=ptr (m (.nd (Bc 1 D) (5+0)))
   rw [show (5:Int)+0=5 from rfl,same,Em _ _ _ hn.1 hn.2,hptr]
  .rw [oth _ _ (by
    by_cases h1:x=Bc 1 D
    .exact .inr (by have:j≠0:=fun h2=>e ⟨h1,h2⟩;omega)
    .exact .inl h1)]
 .rw [Kv] at hx2
  by_cases e:x=Bc 1 D
  .rw [e,same,Eh]
  .rw [oth _ _ (.inl e)]
   exact h.dead x ((nU 1 D x hx2).resolve_left e)
 .rw [Lv,oth _ _ (.inl (fun e=>hx (by rw [← e];exact List.mem_cons_self ..)))]
  exact h.live n (List.mem_cons_self ..)
 .rw [oth _ _ (.inl (fun e=>hx (by rw [← e];exact List.mem_cons_of_mem _ hx2)))]
  exact h.live x (List.mem_cons_of_mem _ hx2)
 .rw [oth _ _ (.inr Zd)];exact h.refs x (hmem x hx2)
 .rw [oth _ _ (.inr Zd)];exact h.vals x (List.mem_cons_of_mem _ hx2)
 .rw [oth _ _ (.inr Zd),hg];exact h.ords x (List.mem_cons_of_mem _ hx2)
theorem Xd (G:Good c tid) (ha:c.algo=2) {s:St} {D L free:List Int} {R:Nat→List Int} (fn:Nat) (hf:fn=32∨fn=33) (hO:Owned c s free (1::2::(D++L))) (hK:Ln c s.mm D L R) :
  (L=[]∧∃ s':St,Runs c tid s [frL fn 0 0 0 0 0 0 0 0 0] (s'.told 3 0 0) []∧Owned c s' free (1::2::(D++L))∧Ln c s'.mm D L R∧s'.us=s.us∧s'.mm (.gl 3)=s.mm (.gl 3))∨
  ∃ (n:Int) (L2:List Int),L=n::L2∧∃ (s':St) (D' L' free':List Int) (R':Nat→List Int),Runs c tid s [frL fn 0 0 0 0 0 0 0 0 0] (s'.told 2 (kvl s.mm n).1 (kvl s.mm n).2) []∧Owned c s' free' (1::2::(D'++L'))∧Ln c s'.mm D' L' R'∧s'.us=s.us∧s'.mm (.gl 3)=s.mm (.gl 3)∧
   (∀ x ∈ L',∀ f,f=0∨f=1→s'.mm (.nd x f)=s.mm (.nd x f))∧(fn=32→L'=L2)∧(fn=33→L'=L):=by
 have hN:=G.ns
 have hlv:=G.lv
 have hse:=Jl (c:=c) Zo
 have hff:31≤fn∧fn≤33:=Zo
 have h15:c.has (.nd 1 5)=true:=Cl G Zo ⟨Zd,Zo⟩ Zd Zd
 have hgl:=Cw (c:=c) 1 Zd Zd
 have fini:∀ (s1:St) (f:Fr) (kind key val:Int),f.fn=fn→∃ m',ButHaz s1.mm m'∧Runs c tid s1 (fin s1 f [] kind key val) (({s1 with mm:=m'}:St).told kind key val) []:=fun s1 f kind key val hfn=>
  Ic (c:=c) (tid:=tid) G s1 f kind key val (.inr (.inr ⟨ha,Zo,Zo⟩))
 have hnd:(1::2::(D++L)).Nodup:=by
  have:=hO.nodup
  rw [List.nodup_append] at this
  exact this.2.1
 have hnd1:=List.nodup_cons.1 hnd
 have hnd2:=List.nodup_cons.1 hnd1.2
 have h1L:1 ∉ D++L:=fun e=>hnd1.1 (List.mem_cons_of_mem _ e)
 have hr:∀ x ∈ 1::(D++L),1≤x∧x≤c.ns∧x≠2:=fun x hx=>by
  have hp:=hO.pos (n:=x) (by
   rcases List.mem_cons.1 hx with h|h
   .rw [h];simp
   .exact List.mem_cons_of_mem _ (List.mem_cons_of_mem _ h))
  refine ⟨hp.1,hp.2,fun e=>?_⟩
  rcases List.mem_cons.1 hx with h|h
  .omega
  .exact hnd2.1 (e▸h)
 have hlen:(D++L).length≤64:=Vd 64 (D++L) hnd2.2 (fun x hx=>by
  have:=hr x (List.mem_cons_of_mem _ hx)
  omega)
 rw [List.length_append] at hlen
 have hbK:∀ {m m':Loc→Int} {D L:List Int} {R:Nat→List Int},ButHaz m m'→Ln c m D L R→Ln c m' D L R:=fun hb hk=>hk.same (by rw [hb.gl];exact Int.le_refl _) (fun x _ f=>hb.nd x f)
 obtain ⟨m,hm⟩:∃ m,m=s.mm:=⟨_,rfl⟩
 obtain ⟨e,he⟩:∃ e,e=m (.gl 1):=⟨_,rfl⟩
 obtain ⟨w1,hw1⟩:∃ w1,w1=m (.nd 1 5):=⟨_,rfl⟩
 have b0:bit c tid s [frL fn 0 0 0 0 0 0 0 0 0]=some ⟨s,[frL fn 1 e 0 1 0 0 0 0 0],[],true⟩:=by
  rw [Dx ha hf Zd,he,hm]
  exact Ah hgl
 have b1:bit c tid s [frL fn 1 e 0 1 0 0 0 0 0]=some ⟨s,[frL fn 2 e w1 1 0 0 w1 0 0],Cu (.nd 1 5),true⟩:=by
  rw [Dx ha hf Zd,hw1,hm]
  exact Ah h15
 have hrow0:=hK.rows 0 Zo
 rw [hK.base,← hm] at hrow0
 obtain ⟨m2,hb2,r2⟩:=uC G ha hf (e:=e) (f:=w1) (L:=L) (m:=m) he.symm D s 1 0 (by rw [hm];exact ButHaz.refl _) hrow0 (by rw [hm];exact hK.dead) (fun y hy=>by
  have h5:=hr y (by
   rcases List.mem_cons.1 hy with h|h
   .rw [h];exact List.mem_cons_self ..
   .exact List.mem_cons_of_mem _ (List.mem_append_left _ h))
  refine ⟨h5.1,h5.2.1,h5.2.2,?_⟩
  rcases List.mem_cons.1 hy with h|h
  .exact .inl h
  .rw [hm];exact .inr (hK.refs y (List.mem_append_left _ h))) Zd Zo
 rw [← hw1,Int.zero_add] at r2
 obtain ⟨x,hx⟩:∃ x,x=Bc 1 D:=⟨_,rfl⟩
 obtain ⟨w,hw⟩:∃ w,w=m (.nd x 5):=⟨_,rfl⟩
 rw [← hx] at r2
 rw [← hw] at r2
 have hxin:x ∈ 1::(D++L):=by
  rw [hx]
  rcases Di 1 D with h|h
  .rw [h];exact List.mem_cons_self ..
  .exact List.mem_cons_of_mem _ (List.mem_append_left _ h)
 have hxr:=hr x hxin
 have hwm:mark w=false:=by rw [hw,hx,hm];exact hK.last
 have hr0:=Runs.via b0 (Runs.via b1 r2)
 obtain ⟨s2,hs2⟩:∃ s2:St,s2={s with mm:=m2}:=⟨_,rfl⟩
 rw [← hs2] at hr0
 have g2:s2.mm=m2:=by rw [hs2]
 have hO2:Owned c s2 free (1::2::(D++L)):=hO.bH (by rw [g2,← hm];exact hb2) (by rw [hs2])
 have hK2:Ln c s2.mm D L R:=by rw [g2];exact hbK hb2 (by rw [hm];exact hK)
 have hu2:s2.us=s.us:=by rw [hs2]
 have m2n:∀ a f,s2.mm (.nd a f)=s.mm (.nd a f):=fun a f=>by rw [g2,← hm];exact hb2.nd a f
 have hptr:=(Row.tail hrow0).first
 rw [← hx] at hptr
 have hptr':ptr w=L.headD 2:=by rw [hw];exact hptr
 cases L with
 |nil=>
  refine .inl ⟨rfl,?_⟩
  obtain ⟨m3,hb3,r3⟩:=fini s2 (frL fn 2 e w1 x (D.length:Int) 0 w 0 0) 3 0 0 rfl
  refine ⟨{s2 with mm:=m3},hr0.trans (Runs.via (o:=⟨s2,fin s2 (frL fn 2 e w1 x (D.length:Int) 0 w 0 0) [] 3 0 0,[],false⟩) ?_ r3),hO2.bH hb3 rfl,hbK hb3 hK2,hu2,?_⟩
  .rw [Dx ha hf Zd]
   show (if ptr w=2 then ok s2 (fin s2 (frL fn 2 e w1 x (D.length:Int) 0 w 0 0) [] 3 0 0) else _)=_
   rw [if_pos (show ptr w=2 from hptr')]
   rfl
  .show m3 (.gl 3)=_
   rw [hb3.gl,g2,hb2.gl,hm]
 |cons n L2=>
  refine .inr ⟨n,L2,rfl,?_⟩
  have hpn:ptr w=n:=hptr'
  have hnr:=hr n (List.mem_cons_of_mem _ (List.mem_append_right _ (List.mem_cons_self ..)))
  have hv:=hK.vals n (List.mem_cons_self ..)
  have ho:=hK.ords n (List.mem_cons_self ..)
  obtain ⟨m3,hb3,r3⟩:=Vf G ha hf (e:=e) (f:=w1) (m:=m) he.symm s2 x (D.length:Int) n (by rw [g2];exact hb2) (by rw [← hw];exact hpn) hnr.2.2 ⟨hxr.1,hxr.2.1,hxr.2.2,by
   rw [hx,hm]
   rcases Di 1 D with h|h
   .exact .inl h
   .exact .inr (hK.refs _ (List.mem_append_left _ h))⟩ Zo
  rw [← hw] at r3
  obtain ⟨s3,hs3⟩:∃ s3:St,s3={s2 with mm:=m3}:=⟨_,rfl⟩
  rw [← hs3] at r3
  have g3:s3.mm=m3:=by rw [hs3]
  have hb3':ButHaz s.mm s3.mm:=by rw [g3,← hm];exact hb3
  have hO3:Owned c s3 free (1::2::(D++n::L2)):=hO.bH hb3' (by rw [hs3,hs2])
  have hK3:Ln c s3.mm D (n::L2) R:=hbK hb3' hK
  have hu3:s3.us=s.us:=by rw [hs3];exact hu2
  have m3n:∀ a f,s3.mm (.nd a f)=s.mm (.nd a f):=fun a f=>hb3'.nd a f
  have hkk:(kvl s.mm n).1=s.mm (.nd n 0) / 4294967296 % 4294967296:=by
   unfold kvl
   show s.mm (.nd n 0) / 4294967296=_
   omega
  have hvk:(kvl s.mm n).2=s.mm (.nd n 1):=rfl
  rw [hkk,hvk]
  obtain ⟨v,hvv⟩:∃ v,v=s.mm (.nd n 1):=⟨_,rfl⟩
  obtain ⟨y,hyy⟩:∃ y,y=s.mm (.nd n 0) / 4294967296 % 4294967296:=⟨_,rfl⟩
  rw [← hvv,← hyy]
  obtain ⟨k,hk⟩:∃ k:Int,k=(D.length:Int)+1:=⟨_,rfl⟩
  rw [← hk] at r3
  have hfld:=fun a h0 h1=>Cl (c:=c) G Zo ⟨hnr.1,hnr.2.1⟩ (f:=a) h0 h1
  have hr6:=hr0.trans r3
  have hne:n≠1∧n ∉ D∧n ∉ L2:=by
   refine ⟨fun q=>h1L (by rw [← q];simp),fun q=>?_,fun q=>?_⟩
   .exact (List.nodup_append.1 hnd2.2).2.2 n q n (List.mem_cons_self ..) rfl
   .exact (List.nodup_cons.1 (List.nodup_append.1 hnd2.2).2.1).1 q
  rcases hf with rfl|rfl
  .have b6:bit c tid s3 [frL 32 6 e w1 x k 0 w 0 0]=some ⟨s3,[frL 32 8 e w1 x k 0 w 0 0],[],false⟩:=by
    rw [Dx ha (.inl rfl) Zd]
    show (if mark w=true then ok s3 [frL 32 7 e w1 (ptr w) k 0 w 0 0] else ok s3 [frL 32 8 e w1 x k 0 w 0 0])=_
    rw [if_neg (by rw [hwm];decide)]
    rfl
   obtain ⟨s8,hs8⟩:∃ s8:St,s8=s3.put (.nd x 5) (next w n true):=⟨_,rfl⟩
   have h3x:s3.mm (.nd x 5)=w:=by rw [m3n,hw,hm]
   have b8:bit c tid s3 [frL 32 8 e w1 x k 0 w 0 0]=some ⟨s8,[frL 32 9 e w1 x k 0 w 0 0],Cu (.nd x 5),true⟩:=by
    rw [Dx ha (.inl rfl) Zd]
    show (if k<1 then none else if s3.mm (.nd x 5)=w then Ao c (.nd x 5) (s3.put (.nd x 5) (next w (ptr w) true)) [frL 32 9 e w1 x k 0 w 0 0] else _)=_
    rw [if_neg Zo,if_pos h3x,hpn,Ah (Cl G Zo ⟨hxr.1,hxr.2.1⟩ Zd Zd),← hs8]
   have hndx:(1::(D++n::L2)).Nodup:=List.nodup_cons.2 ⟨h1L,hnd2.2⟩
   have hK8:Ln c s8.mm (D++[n]) L2 R:=by
    rw [hs8,hx]
    exact hK3.take hndx Zo Zo
   have o8:∀ z,z≠.nd x 5→s8.mm z=s3.mm z:=fun z hz=>by rw [hs8];exact Bo _ _ hz
   have h8n:∀ a f,f≠5→s8.mm (.nd a f)=s.mm (.nd a f):=fun a f hf=>by rw [o8 _ (Ar (.inr hf)),m3n]
   have b9:bit c tid s8 [frL 32 9 e w1 x k 0 w 0 0]=some ⟨s8,[frL 32 10 e w1 x k 0 w v 0],Cu (.nd n 1),true⟩:=by
    rw [Dx ha (.inl rfl) Zd]
    show Ao c (.nd (ptr w) 1) s8 [frL 32 10 e w1 x k 0 w (s8.mm (.nd (ptr w) 1)) 0]=_
    rw [hpn,h8n _ _ Zd,← hvv,Ah (hfld 1 Zd Zd)]
   have b10:bit c tid s8 [frL 32 10 e w1 x k 0 w v 0]=some ⟨s8,[frL 32 (if k<c.batch then 14 else 11) e w1 x k n w v y],Cu (.nd n 0),true⟩:=by
    rw [Dx ha (.inl rfl) Zd]
    show Ao c (.nd (ptr w) 0) s8 [frL 32 (if (32:Nat)=33∨k<c.batch then 14 else 11) e w1 x k (if (0:Int)=0 then ptr w else 0) w v (s8.mm (.nd (ptr w) 0) / 4294967296 % 4294967296)]=_
    rw [hpn,h8n _ _ Zd,← hyy,if_pos rfl,Ah (hfld 0 Zd Zd)]
    have hor:((32:Nat)=33∨k<c.batch)=(k<c.batch):=propext ⟨fun q=>q.resolve_left Zd,.inr⟩
    simp only [hor]
   have hr10:=hr6.trans (Runs.via b6 (Runs.via b8 (Runs.via b9 (Runs.via b10 (Runs.refl _ _)))))
   have hO8:Owned c s8 free (1::2::((D++[n])++L2)):=by
    have h1:Owned c s8 free (1::2::(D++n::L2)):=hO3.same (o8 _ (fun e=>by cases e)) (fun z=>o8 _ (fun e=>by cases e)) (by rw [hs8];rfl)
    simpa using h1
   have hu8:s8.us=s.us:=by rw [hs8];exact hu3
   have hg8:s8.mm (.gl 3)=s.mm (.gl 3):=by rw [o8 _ (fun e=>by cases e),hb3'.gl]
   have fin8:∀ (s9:St) (D':List Int) (R':Nat→List Int) (free':List Int),Runs c tid s [frL 32 0 0 0 0 0 0 0 0 0] s9 [frL 32 14 e w1 x k n w v y]→Owned c s9 free' (1::2::(D'++L2))→Ln c s9.mm D' L2 R'→s9.us=s.us→s9.mm (.gl 3)=s.mm (.gl 3)→(∀ a f,f=0∨f=1→s9.mm (.nd a f)=s.mm (.nd a f))→
     ∃ (s':St) (D' L' free':List Int) (R':Nat→List Int),Runs c tid s [frL 32 0 0 0 0 0 0 0 0 0] (s'.told 2 y v) []∧Owned c s' free' (1::2::(D'++L'))∧Ln c s'.mm D' L' R'∧s'.us=s.us∧s'.mm (.gl 3)=s.mm (.gl 3)∧
      (∀ x ∈ L',∀ f,f=0∨f=1→s'.mm (.nd x f)=s.mm (.nd x f))∧(32=32→L'=L2)∧(32=33→L'=n::L2):=by
    intro s9 D' R' free' hrun o9 k9 u9 g9 f9
    obtain ⟨m10,hb10,r10⟩:=fini s9 (frL 32 14 e w1 x k n w v y) 2 y v rfl
    refine ⟨{s9 with mm:=m10},D',L2,free',R',hrun.trans (Runs.via (o:=⟨s9,fin s9 (frL 32 14 e w1 x k n w v y) [] 2 y v,[],false⟩) ?_ r10),o9.bH hb10 rfl,hbK hb10 k9,u9,?_,fun a _ f hf=>?_,fun _=>rfl,fun q=>absurd q Zd⟩
    .rw [Dx ha (.inl rfl) Zd]
     rfl
    .show m10 (.gl 3)=_
     rw [hb10.gl,g9]
    .show m10 (.nd a f)=_
     rw [hb10.nd,f9 a f hf]
   have f8:∀ a f,f=0∨f=1→s8.mm (.nd a f)=s.mm (.nd a f):=fun a f hf=>h8n a f Zo
   by_cases hbt:k<c.batch
   .rw [if_pos hbt] at hr10
    exact fin8 s8 (D++[n]) R free hr10 hO8 hK8 hu8 hg8 f8
   .rw [if_neg hbt] at hr10
    by_cases hD:D=[]
    .
     have hx1:x=1:=by rw [hx,hD];rfl
     have hww:w1=w:=by rw [hw1,hw,hx1]
     have hne8:¬ s8.mm (.nd 1 5)=w1:=by
      rw [hs8,hx1,Dl,hww]
      intro q
      have:=congrArg mark q
      rw [Eh,hwm] at this
      cases this
     have b11:bit c tid s8 [frL 32 11 e w1 x k n w v y]=some ⟨s8,[frL 32 14 e w1 x k n w v y],Cu (.nd 1 5),true⟩:=by
      rw [Dx ha (.inl rfl) Zd]
      show (if s8.mm (.nd 1 5)=w1 then _ else Ao c (.nd 1 5) s8 [frL 32 14 e w1 x k n w v y])=_
      rw [if_neg hne8,Ah h15]
     exact fin8 s8 (D++[n]) R free (hr10.trans (Runs.via b11 (Runs.refl _ _))) hO8 hK8 hu8 hg8 f8
    .
     have hxD:x ∈ D:=by
      rw [hx]
      rcases Di 1 D with h|h
      .exfalso
       cases hDe:D with
       |nil=>exact hD hDe
       |cons d D2=>
        rw [hDe] at h
        rcases Di d D2 with h2|h2
        .have:(1:Int) ∈ D:=by rw [hDe];rw [show Bc 1 (d::D2)=Bc d D2 from rfl,h2] at h;rw [h];exact List.mem_cons_self ..
         exact h1L (List.mem_append_left _ this)
        .have:(1:Int) ∈ D:=by rw [hDe];rw [show Bc 1 (d::D2)=Bc d D2 from rfl] at h;rw [← h];exact List.mem_cons_of_mem _ h2
         exact h1L (List.mem_append_left _ this)
      .exact h
     have hx1:x≠1:=fun q=>h1L (List.mem_append_left _ (q▸hxD))
     have h81:s8.mm (.nd 1 5)=w1:=by rw [o8 _ (Ar (.inl (Ne.symm hx1))),m3n,hw1,hm]
     obtain ⟨s11,hs11⟩:∃ s11:St,s11=s8.put (.nd 1 5) (next w1 n true):=⟨_,rfl⟩
     have b11:bit c tid s8 [frL 32 11 e w1 x k n w v y]=some ⟨s11,[frL 32 12 e w1 x k n w v y],Cu (.nd 1 5),true⟩:=by
      rw [Dx ha (.inl rfl) Zd]
      show (if s8.mm (.nd 1 5)=w1 then Ao c (.nd 1 5) (s8.put (.nd 1 5) (next w1 n true)) [frL 32 12 e w1 x k n w v y] else _)=_
      rw [if_pos h81,Ah h15,← hs11]
     have b12:bit c tid s11 [frL 32 12 e w1 x k n w v y]=some ⟨s11,[Eg 0 0 0 0 0 0,frL 32 13 e w1 x k n w v y],[],false⟩:=by
      rw [Dx ha (.inl rfl) Zd]
      rfl
     have o11:∀ z,z≠.nd 1 5→s11.mm z=s8.mm z:=fun z hz=>by rw [hs11];exact Bo _ _ hz
     have h111:s11.mm (.nd 1 5)=next w1 n true:=by rw [hs11];exact Dl _ _ _
     obtain ⟨X,Y,hQ⟩:=Zl (R:=R) (Lo:=D) (Hi:=n::L2) hK.sub hK.nest hnd2.2
     have hz:=hQ.zero hK.base
     have hXD:∀ j,∀ z ∈ X j,z ∈ D:=fun j z hz=>(hQ.low j).subset hz
     have hYL:∀ j,∀ z ∈ Y j,z ∈ n::L2:=fun j z hz=>(hQ.high j).subset hz
     have hdead:∀ z ∈ D,mark (s8.mm (.nd z 5))=true:=fun z hz=>by
      have:=hK8.dead z (by rw [Kv];exact List.mem_cons_of_mem _ hz)
      exact this
     have hlive:∀ z ∈ n::L2,mark (s8.mm (.nd z 5))=false:=fun z hz=>by
      rcases List.mem_cons.1 hz with rfl|hz
      .have:=hK8.last
       rw [Lv] at this
       exact this
      .exact hK8.live z hz
     have hDr:∀ z ∈ D,1≤z∧z≤c.ns∧z≠2∧z≠1:=fun z hz=>by
      have:=hr z (List.mem_cons_of_mem _ (List.mem_append_left _ hz))
      exact ⟨this.1,this.2.1,this.2.2,fun q=>h1L (List.mem_append_left _ (q▸hz))⟩
     have hLr:∀ z ∈ n::L2,1≤z∧z≤c.ns∧z≠2∧z≠1:=fun z hz=>by
      have:=hr z (List.mem_cons_of_mem _ (List.mem_append_right _ hz))
      exact ⟨this.1,this.2.1,this.2.2,fun q=>h1L (List.mem_append_right _ (q▸hz))⟩
     have hdis:∀ z ∈ D,z ∉ n::L2:=fun z h1 h2=>(List.nodup_append.1 hnd2.2).2.2 z h1 z h2 rfl
     have b36:bit c tid s11 [Eg 0 0 0 0 0 0,frL 32 13 e w1 x k n w v y]=some ⟨s11,[Eg 1 (s11.mm (.gl 1)) (c.lv-1) 0 0 0,frL 32 13 e w1 x k n w v y],[],true⟩:=by
      rw [Gc ha Zd]
      exact Ah hgl
     obtain ⟨m12,r12,d12⟩:=kR G ha (e:=s11.mm (.gl 1)) [frL 32 13 e w1 x k n w v y] (by show 1≤40;decide) (m:=s11.mm) rfl (X:=X) (Y:=Y)
      (fun j h1 hj=>by
       have h2:=hK8.rows j hj
       rw [hQ.is] at h2
       exact Row.congr (fun z _=>by rw [o11 _ (Ar (.inr Zo))]) h2)
      (fun j hj=>⟨by have:=(hQ.low j).length_le;omega,fun z hz=>by
       have h1:=hDr z (hXD j z hz)
       rw [o11 _ (Ar (.inl h1.2.2.2))]
       exact ⟨hdead z (hXD j z hz),h1.1,h1.2.1,h1.2.2.1,h1.2.2.2⟩⟩)
      (fun j hj z hz=>by
       have h1:=hLr z (hYL j z hz)
       rw [o11 _ (Ar (.inl h1.2.2.2))]
       exact ⟨h1.1,h1.2.1,h1.2.2.1,h1.2.2.2,hlive z (hYL j z hz)⟩)
      (fun j hj z h1 h2=>hdis z (hXD j z h1) (hYL j z h2)) (c.lv-1).toNat s11 0 0 0 Zo ⟨fun _ _ _=>rfl,fun j a b=>Zo⟩ (Int.le_refl _) Zo
     rw [show (((c.lv-1).toNat:Nat):Int)=c.lv-1 by omega] at r12
     obtain ⟨s12,hs12⟩:∃ s12:St,s12=(({s11 with mm:=m12}:St).told 0 0 0):=⟨_,rfl⟩
     rw [← hs12] at r12
     have g12:s12.mm=m12:=by rw [hs12];rfl
     have hpw1:ptr w1=D.headD n:=by
      have:=hrow0.first
      rw [show (5:Int)+((0:Nat):Int)=5 from rfl,← hw1] at this
      rw [this]
      cases D with
      |nil=>rfl
      |cons d D2=>rfl
     have b13:bit c tid s12 [frL 32 13 e w1 x k n w v y]=some ⟨s12,[Ox 0 (D.headD n) n 0,frL 32 14 e w1 x k n w v y],[],false⟩:=by
      rw [Dx ha (.inl rfl) Zd]
      show some (Out.mk s12 [Ox 0 (ptr w1) n 0,frL 32 14 e w1 x k n w v y] [] false)=_
      rw [hpw1]
     obtain ⟨s13,hs13⟩:∃ s13:St,s13=s12.put (.gl 1) (u64 (s12.mm (.gl 1)+1)):=⟨_,rfl⟩
     have b35:bit c tid s12 [Ox 0 (D.headD n) n 0,frL 32 14 e w1 x k n w v y]=some ⟨s13,[Ox 1 (D.headD n) n 0,frL 32 14 e w1 x k n w v y],[],true⟩:=by
      rw [Ru ha Zd,hs13]
      exact Ah hgl
     have o13:∀ a f,a≠1∨f<5→s13.mm (.nd a f)=s8.mm (.nd a f):=fun a f hh=>by
      have h1:s13.mm (.nd a f)=m12 (.nd a f):=by rw [hs13,Bo _ _ (fun e=>by cases e),g12]
      rw [h1,d12.same _ (fun _ _ e=>by cases e) (fun j a2 b2=>Ar Zo),o11 _ (Ar Zo)]
     have h13:∀ j:Nat,(j:Int)<c.lv→ptr (s13.mm (.nd 1 (5+j)))=(Y j).headD 2∧(j=0→mark (s13.mm (.nd 1 5))=true):=fun j hj=>by
      have h1:∀ f,s13.mm (.nd 1 f)=m12 (.nd 1 f):=fun f=>by rw [hs13,Bo _ _ (fun e=>by cases e),g12]
      by_cases h0:j=0
      .subst h0
       have h2:m12 (.nd 1 5)=next w1 n true:=by rw [d12.same _ (fun _ _ e=>by cases e) (fun j a2 b2=>Ar (.inr Zo)),h111]
       refine ⟨?_,fun _=>by rw [h1,h2,Eh]⟩
       rw [h1,show (5:Int)+((0:Nat):Int)=5 from rfl,h2,Em _ _ _ Zo Zo,hz.2]
       rfl
      .refine ⟨?_,fun q=>absurd q h0⟩
       rw [h1]
       exact d12.past j Zo hj
     have hg13:s13.mm (.gl 3)=s.mm (.gl 3):=by
      rw [hs13,Bo _ _ (fun e=>by injection e with e;exact absurd e Zd),g12,d12.same _ (fun _ _ e=>by cases e) (fun _ _ _ e=>by cases e),o11 _ (fun e=>by cases e),hg8]
     have hO13:Owned c s13 free (D++(1::2::([n]++L2))):=by
      have h1:Owned c s13 free (1::2::((D++[n])++L2)):=by
       refine hO8.same ?_ (fun z=>?_) ?_
       .rw [hs13,Bo _ _ (fun e=>by injection e with e;exact absurd e Zd),g12,d12.same _ (fun _ _ e=>by cases e) (fun _ _ _ e=>by cases e),o11 _ (fun e=>by cases e)]
       .rw [hs13,Bo _ _ (fun e=>by cases e),g12,d12.same _ (fun _ _ e=>by cases e) (fun _ _ _ e=>by cases e),o11 _ (fun e=>by cases e)]
       .rw [hs13,hs12,hs11];rfl
      refine h1.perm ?_
      have h2:(D++(1::2::([n]++L2))).Perm ((1::2::([n]++L2))++D):=List.perm_append_comm
      have h3:(1::2::((D++[n])++L2)).Perm ((1::2::([n]++L2))++D):=by
       rw [List.append_assoc]
       exact List.Perm.cons 1 (List.Perm.cons 2 List.perm_append_comm)
      exact h3.trans h2.symm
     have hrowD:Upto s13.mm n D:=by
      have h1:Row s8.mm (0:Nat) 1 (D++n::L2):=by
       have:=hK8.rows 0 Zo
       rw [hK8.base,List.append_assoc] at this
       exact this
      have h2:=Yc h1
      have:∀ E:List Int,(∀ z ∈ E,z ∈ D)→Upto s8.mm n E→Upto s13.mm n E:=by
       intro E
       induction E with
       |nil=>intro _ _;trivial
       |cons z E ih=>
        intro hE hU
        exact ⟨by rw [o13 _ _ (.inl (hDr z (hE z (List.mem_cons_self ..))).2.2.2)];exact hU.1,ih (fun z hz=>hE z (List.mem_cons_of_mem _ hz)) hU.2⟩
      exact this D (fun z hz=>hz) h2
     obtain ⟨s14,free14,r14,o14,k14,f14⟩:=lX G ha (n:=n) [frL 32 14 e w1 x k n w v y] (by show 1≤40;decide) D s13 0 free (1::2::([n]++L2)) hO13 hrowD hne.2.1
     have hn13:∀ a f,a≠1∨f<5→s14.mm (.nd a f)=s8.mm (.nd a f):=fun a f hh=>by rw [f14.2.1,o13 a f hh]
     have hK14:Ln c s14.mm [n] L2 Y:=by
      have hg14:s14.mm (.gl 3)=s.mm (.gl 3):=by rw [f14.1 3 Zd,hg13]
      refine ⟨fun j hj=>?_,hz.2,hQ.nestV,fun z hz2=>?_,?_,fun z hz2=>?_,?_,fun z hz2=>?_,fun z hz2=>?_,fun z hz2=>?_,by rw [hg14];exact hK.tick⟩
      .have h2:=hK8.rows j hj
       rw [hQ.is] at h2
       refine Row.move (Row.tail h2) ?_ (fun z hz2=>by rw [hn13 _ _ (.inl (hLr z (hYL j z hz2)).2.2.2)])
       rw [f14.2.1,(h13 j hj).1,(Row.tail h2).first]
      .have hz3:z=1:=by simpa using hz2
       rw [hz3,f14.2.1]
       exact (h13 0 Zo).2 rfl
      .show mark (s14.mm (.nd n 5))=false
       rw [hn13 _ _ (.inl hne.1)]
       exact hlive n (List.mem_cons_self ..)
      .rw [hn13 _ _ (.inl (hLr z (List.mem_cons_of_mem _ hz2)).2.2.2)]
       exact hlive z (List.mem_cons_of_mem _ hz2)
      .exact hK8.sorted.imp fun {a b} hab=>by rw [hn13 _ _ (.inr Zd),hn13 _ _ (.inr Zd)];exact hab
      .rw [hn13 _ _ (.inr Zd)]
       refine hK8.refs z ?_
       simp only [List.mem_append,List.mem_cons,List.not_mem_nil,or_false] at hz2 ⊢
       rcases hz2 with h5|h5
       .exact .inl (.inr h5)
       .exact .inr h5
      .rw [hn13 _ _ (.inr Zd)];exact hK8.vals z hz2
      .rw [hn13 _ _ (.inr Zd),hg14,← hg8];exact hK8.ords z hz2
     refine fin8 (s14.told 0 0 0) [n] Y free14 (hr10.trans (Runs.via b11 (Runs.via b12 (Runs.via b36 (r12.trans (Runs.via b13 (Runs.via b35 r14))))))) (o14.told _ _ _) hK14 ?_ ?_ (fun a f hf=>?_)
     .show s14.us=_
      rw [k14.us,hs13,hs12,hs11]
      exact hu8
     .show s14.mm (.gl 3)=_
      rw [f14.1 3 Zd,hg13]
     .show s14.mm (.nd a f)=_
      rw [hn13 _ _ (.inr Zo),f8 a f hf]
  .have b6:bit c tid s3 [frL 33 6 e w1 x k 0 w 0 0]=some ⟨s3,[frL 33 9 e w1 x k 0 w 0 0],[],false⟩:=by
    rw [Dx ha (.inr rfl) Zd]
    show (if mark w=true then ok s3 [frL 33 7 e w1 (ptr w) k 0 w 0 0] else ok s3 [frL 33 9 e w1 x k 0 w 0 0])=_
    rw [if_neg (by rw [hwm];decide)]
    rfl
   have b9:bit c tid s3 [frL 33 9 e w1 x k 0 w 0 0]=some ⟨s3,[frL 33 10 e w1 x k 0 w v 0],Cu (.nd n 1),true⟩:=by
    rw [Dx ha (.inr rfl) Zd]
    show Ao c (.nd (ptr w) 1) s3 [frL 33 10 e w1 x k 0 w (s3.mm (.nd (ptr w) 1)) 0]=_
    rw [hpn,m3n,← hvv,Ah (hfld 1 Zd Zd)]
   have b10:bit c tid s3 [frL 33 10 e w1 x k 0 w v 0]=some ⟨s3,[frL 33 14 e w1 x k n w v y],Cu (.nd n 0),true⟩:=by
    rw [Dx ha (.inr rfl) Zd]
    show Ao c (.nd (ptr w) 0) s3 [frL 33 (if (33:Nat)=33∨k<c.batch then 14 else 11) e w1 x k (if (0:Int)=0 then ptr w else 0) w v (s3.mm (.nd (ptr w) 0) / 4294967296 % 4294967296)]=_
    rw [hpn,m3n,← hyy,if_pos (.inl rfl),if_pos rfl,Ah (hfld 0 Zd Zd)]
   obtain ⟨m4,hb4,hr4⟩:=fini s3 (frL 33 14 e w1 x k n w v y) 2 y v rfl
   have b14:bit c tid s3 [frL 33 14 e w1 x k n w v y]=some ⟨s3,fin s3 (frL 33 14 e w1 x k n w v y) [] 2 y v,[],false⟩:=by
    rw [Dx ha (.inr rfl) Zd]
    rfl
   refine ⟨{s3 with mm:=m4},D,n::L2,free,R,hr6.trans (Runs.via b6 (Runs.via b9 (Runs.via b10 (Runs.via b14 hr4)))),hO3.bH hb4 rfl,hbK hb4 hK3,hu3,?_,fun a _ f _=>?_,fun q=>absurd q Zd,fun _=>rfl⟩
   .show m4 (.gl 3)=_
    rw [hb4.gl,hb3'.gl]
   .show m4 (.nd a f)=_
    rw [hb4.nd,m3n]
def oV (c:Cf) (s:St) (b:List (Int×Int)):Prop:=∃ (D L free:List Int) (R:Nat→List Int),Owned c s free (1::2::(D++L))∧Ln c s.mm D L R∧b.Perm (L.map (kvl s.mm))
theorem lH {m m':Loc→Int} {L:List Int} (h:∀ x ∈ L,∀ f,f=0∨f=1→m' (.nd x f)=m (.nd x f)):L.map (kvl m')=L.map (kvl m):=
 List.map_congr_left fun x hx=>by unfold kvl;rw [h x hx 0 (.inl rfl),h x hx 1 (.inr rfl)]
theorem iG {m:Loc→Int} {n:Int} {R:List Int} (h:(n::R).Pairwise fun a b=>m (.nd a 0)<m (.nd b 0)):∀ x ∈ n::R,(kvl m n).1≤(kvl m x).1:=by
 intro x hx
 unfold kvl
 show m (.nd n 0) / 4294967296≤m (.nd x 0) / 4294967296
 rcases List.mem_cons.1 hx with rfl|hx
 .omega
 .have:=(List.pairwise_cons.1 h).1 x hx
  omega
theorem nS (G:Good c tid) (ha:c.algo=2) {s:St} {b:List (Int×Int)} {op key val:Int} (h:oV c s b) (hq:Pf op key val) (hu:s.us<1000000) (ht:s.mm (.gl 3)+1<4294967296) :
  ∃ (s':St) (kind k v:Int),Runs c tid s [first c op key val] (s'.told kind k v) []∧((op=0∧kind=1∧k=0∧v=0)∨∃ b',mR b op key val kind k v b'∧oV c (s'.told kind k v) b'∧s'.us≤s.us+1∧s'.mm (.gl 3)≤s.mm (.gl 3)+1):=by
 obtain ⟨D,L,free,R,hO,hK,hb⟩:=h
 rcases hq with ⟨rfl,h1,h2,h3,h4⟩|⟨hop,rfl,rfl⟩
 .have e:first c 0 key val=frI 31 0 key val 0 0 0 0 0 0:=by unfold first;rw [if_neg Zo,if_neg Zo];rfl
  rw [e]
  rcases Xi G ha key val ⟨h1,h2⟩ ⟨h3,h4⟩ ht hu hO hK with ⟨s',r⟩|⟨s',L',free',R',r,o,m,u,g,p⟩
  .exact ⟨s',1,0,0,r,.inl ⟨rfl,rfl,rfl,rfl⟩⟩
  .exact ⟨s',0,0,0,r,.inr ⟨(key,val)::b,.inl ⟨rfl,rfl,rfl,rfl,List.Perm.refl _⟩,⟨D,L',free',R',o.told _ _ _,m,(List.Perm.cons _ hb).trans p.symm⟩,Zo,Zo⟩⟩
 .obtain ⟨fn,hfn,e⟩:∃ fn:Nat,((op=1∧fn=32)∨(op=2∧fn=33))∧first c op 0 0=frL fn 0 0 0 0 0 0 0 0 0:=by
   rcases hop with rfl|rfl
   .exact ⟨32,.inl ⟨rfl,rfl⟩,by unfold first;rw [if_neg Zo,if_neg Zo];rfl⟩
   .exact ⟨33,.inr ⟨rfl,rfl⟩,by unfold first;rw [if_neg Zo,if_neg Zo];rfl⟩
  rw [e]
  rcases Xd G ha fn Zo hO hK with ⟨h0,s',r,o,m,u,g⟩|⟨n,L2,hL,s',D',L',free',R',r,o,m,u,g,hk,hp1,hp2⟩
  .subst h0
   have hb0:b=[]:=by simpa using hb
   exact ⟨s',3,0,0,r,.inr ⟨[],.inr (.inl ⟨Zo,hb0,rfl,rfl,rfl,rfl⟩),⟨D,[],free,R,o.told _ _ _,m,List.Perm.refl _⟩,Zo,Zo⟩⟩
  .have hin:((kvl s.mm n).1,(kvl s.mm n).2) ∈ b:=hb.mem_iff.2 (by rw [hL];exact List.mem_map.2 ⟨n,List.mem_cons_self ..,rfl⟩)
   have hle:∀ p ∈ b,(kvl s.mm n).1≤p.1:=fun p hp=>by
    obtain ⟨x,hx,rfl⟩:=List.mem_map.1 (hb.mem_iff.1 hp)
    rw [hL] at hx
    have hs:=hK.sorted
    rw [hL] at hs
    exact iG hs x hx
   rcases hfn with ⟨rfl,rfl⟩|⟨rfl,rfl⟩
   .have e1:=hp1 rfl
    refine ⟨s',2,_,_,r,.inr ⟨L2.map (kvl s.mm),.inr (.inr ⟨Zd,rfl,hin,hle,.inl ⟨rfl,?_⟩⟩),⟨D',L',free',R',o.told _ _ _,m,?_⟩,Zo,Zo⟩⟩
    .rw [hL] at hb
     exact hb
    .show List.Perm _ (List.map (kvl s'.mm) _)
     rw [lH hk,e1]
   .have e1:=hp2 rfl
    refine ⟨s',2,_,_,r,.inr ⟨b,.inr (.inr ⟨Zd,rfl,hin,hle,.inr ⟨rfl,List.Perm.refl _⟩⟩),⟨D',L',free',R',o.told _ _ _,m,?_⟩,Zo,Zo⟩⟩
    show List.Perm _ (List.map (kvl s'.mm) _)
    rw [lH hk,e1]
    exact hb
def No (c:Cf):Loc→Int
 |.gl i=>if i=0 then (c.sE+1)*2 else if i=2 then 1 else 0
 |.link n=>if c.sE+1≤n∧n<c.ns then n+1 else 0
 |.nd n f=>if c.algo=0 then 0 else if n=1∧f=3 then c.lv else if n=2∧f=0 then 18446744073709551615 else if n=1∧5≤f∧f<5+c.lv then 4 else 0
 |_=>0
def st0 (c:Cf):St:={mm:=No c,us:=0,ret0:=0,ret1:=0,ret2:=0,pred:=fun _=>0,succ:=fun _=>0,wrd:=fun _=>0,rt:=[],found:=[],moved:=false}
def Kl (a:Int):Nat→List Int
 |0=>[]
 |n+1=>a::Kl (a+1) n
theorem upFrom_mem {a x:Int}:∀ {n:Nat},x ∈ Kl a n↔a≤x∧x<a+n:=by
 intro n
 induction n generalizing a with
 |zero=>
  show x ∈ ([]:List Int)↔_
  simp
  try omega
 |succ n ih=>
  show x ∈ a::Kl (a+1) n↔_
  rw [List.mem_cons,ih]
  omega
theorem Vq (a:Int):∀ n:Nat,(Kl a n).Nodup:=by
 intro n
 induction n generalizing a with
 |zero=>exact List.nodup_nil
 |succ n ih=>exact List.nodup_cons.2 ⟨fun h=>by have:=(upFrom_mem.1 h).1;omega,ih (a+1)⟩
theorem rR (hs:0≤c.sE):∀ (n:Nat) (a:Int),c.sE+1≤a→a+n=c.ns+1→1≤n→Chain (No c) a (Kl a n):=by
 intro n
 induction n with
 |zero=>intro a h1 h2 h3;omega
 |succ n ih=>
  intro a h1 h2 h3
  refine ⟨rfl,?_⟩
  show Chain (No c) (if c.sE+1≤a∧a<c.ns then a+1 else 0) (Kl (a+1) n)
  by_cases hn:n=0
  .subst hn
   rw [if_neg Zo]
   rfl
  .rw [if_pos Zo]
   exact ih (a+1) Zo Zo Zo
theorem dD (G:Good c tid) {us:List Int} (hu:us=[]∧c.sE=0∨us=[1,2]∧c.sE=2):Owned c (st0 c) (Kl (c.sE+1) (c.ns-c.sE).toNat) us:=by
 have hN:=G.ns
 refine ⟨?_,?_,?_⟩
 .have e:ptr ((st0 c).mm (.gl 0))=c.sE+1:=by
   show ptr ((c.sE+1)*2)=_
   unfold ptr
   rcases hu with h|h<;>omega
  rw [e]
  exact rR (by rcases hu with h|h<;>omega) _ _ Zo Zo Zo
 .show (Kl (c.sE+1) (c.ns-c.sE).toNat++[]++us).Nodup
  rw [List.append_nil,List.nodup_append]
  refine ⟨Vq _ _,?_,fun a ha b hb=>?_⟩
  .rcases hu with ⟨h,_⟩|⟨h,_⟩<;>rw [h]<;>decide
  .have h1:=upFrom_mem.1 ha
   rcases hu with ⟨h,h2⟩|⟨h,h2⟩
   .rw [h] at hb;cases hb
   .rw [h] at hb
    simp at hb
    rcases hb with rfl|rfl<;>omega
 .intro n hn
  have hn2:n ∈ Kl (c.sE+1) (c.ns-c.sE).toNat∨n ∈ us:=by
   have:n ∈ Kl (c.sE+1) (c.ns-c.sE).toNat++[]++us:=hn
   simpa using this
  rcases hn2 with h1|h1
  .have:=upFrom_mem.1 h1
   rcases hu with ⟨_,h2⟩|⟨_,h2⟩<;>omega
  .rcases hu with ⟨h,h2⟩|⟨h,h2⟩
   .rw [h] at h1;cases h1
   .rw [h] at h1
    simp at h1
    rcases h1 with rfl|rfl<;>omega
theorem Qu (N:Nat):Bw N (fun _=>[])=[]:=by
 unfold Bw
 simp
theorem nG (G:Good c tid) (ha:c.algo=0):Yb c (st0 c) []:=by
 have hlv:=G.lv
 have hs:c.sE=0:=by unfold Cf.sE;rw [if_pos ha]
 refine ⟨fun _=>[],_,by rw [Qu];exact dD G (.inl ⟨rfl,hs⟩),?_,by rw [Qu];exact List.Perm.refl _⟩
 have hg:(st0 c).mm (.gl 2)=1:=rfl
 have ht:∀ p,(st0 c).mm (.tr p)=0:=fun _=>rfl
 exact ⟨by rw [hg];omega,fun p a b=>by rw [ht];exact (decide_eq_false Zo).symm,fun p a b=>by rw [ht];rfl,fun _ _=>rfl,fun _ _=>rfl,fun _=>List.Pairwise.nil,fun _ _ _=>Int.le_refl _,fun _ _ _=>Int.le_refl _,fun _ _ h=>(nomatch h)⟩
theorem fQ (ha:c.algo≠0) (j:Nat) (hj:(j:Int)<c.lv):(st0 c).mm (.nd 1 (5+j))=4:=by
 show (if c.algo=0 then 0 else if (1:Int)=1∧(5:Int)+j=3 then c.lv else if (1:Int)=2∧(5:Int)+j=0 then 18446744073709551615 else if (1:Int)=1∧5≤(5:Int)+j∧(5:Int)+j<5+c.lv then 4 else 0)=4
 rw [if_neg ha,if_neg Zo,if_neg Zo,if_pos Zo]
theorem tI (G:Good c tid) (ha:c.algo=1):oU c (st0 c) []:=by
 refine ⟨[],_,dD G (.inr ⟨rfl,Jl Zo⟩),?_,List.Perm.refl _⟩
 refine ⟨fun j hj=>?_,fun j hj x hx=>?_,List.Pairwise.nil,fun _ h=>(nomatch h),fun _ h=>(nomatch h),fun _ h=>(nomatch h),fun _ h=>(nomatch h),by show 0≤(0:Int);decide⟩
 .show ptr ((st0 c).mm (.nd 1 (5+j)))=2
  rw [fQ Zo j hj]
  rfl
 .have hx1:x=1:=by simpa [fl] using hx
  rw [hx1,fQ Zo j hj]
  rfl
theorem tJ (G:Good c tid) (ha:c.algo=2):oV c (st0 c) []:=by
 have hlv:=G.lv
 refine ⟨[],[],_,fun _=>[],dD G (.inr ⟨rfl,Jl Zo⟩),?_,List.Perm.refl _⟩
 refine ⟨fun j hj=>?_,rfl,fun _=>List.Sublist.refl _,fun x hx=>?_,?_,fun _ h=>(nomatch h),List.Pairwise.nil,fun _ h=>(nomatch h),fun _ h=>(nomatch h),fun _ h=>(nomatch h),by show 0≤(0:Int);decide⟩
 .show ptr ((st0 c).mm (.nd 1 (5+j)))=2
  rw [fQ Zo j hj]
  rfl
 .simp at hx
 .show mark ((st0 c).mm (.nd 1 (5+(0:Nat))))=false
  rw [fQ Zo 0 Zo]
  rfl
def Q (c:Cf) (s:St) (b:List (Int×Int)) (k:Nat):Prop:=
 (s.us:Int)≤1000*k∧((c.algo=0∧Yb c s b)∨(c.algo=1∧oU c s b∧s.mm (.gl 3)≤k)∨(c.algo=2∧oV c s b∧s.mm (.gl 3)≤k))
theorem q0 (G:Good c tid):Q c (st0 c) [] 0:=by
 have h:=G.algo
 refine ⟨by show (0:Int)≤_;decide,?_⟩
 rcases (show c.algo=0∨c.algo=1∨c.algo=2 by omega) with h1|h1|h1
 .exact .inl ⟨h1,nG G h1⟩
 .exact .inr (.inl ⟨h1,tI G h1,by show (0:Int)≤_;decide⟩)
 .exact .inr (.inr ⟨h1,tJ G h1,by show (0:Int)≤_;decide⟩)
theorem mC (G:Good c tid) {s:St} {b:List (Int×Int)} {k:Nat} {op key val:Int} (h:Q c s b k) (hk:k<100) (hq:Pf op key val) :
  ∃ (s':St) (kind a v:Int),Runs c tid s [first c op key val] (s'.told kind a v) []∧((op=0∧kind=1∧a=0∧v=0)∨∃ b',mR b op key val kind a v b'∧Q c (s'.told kind a v) b' (k+1)):=by
 obtain ⟨hu,h⟩:=h
 rcases h with ⟨ha,h⟩|⟨ha,h,ht⟩|⟨ha,h,ht⟩
 .obtain ⟨s',kind,a,v,r,h1⟩:=gV G ha h hq Zo
  refine ⟨s',kind,a,v,r,h1.imp id ?_⟩
  rintro ⟨b',d,q,u⟩
  exact ⟨b',d,by show (s'.us:Int)≤_;omega,.inl ⟨ha,q⟩⟩
 .obtain ⟨s',kind,a,v,r,h1⟩:=nC G ha h hq Zo Zo
  refine ⟨s',kind,a,v,r,h1.imp id ?_⟩
  rintro ⟨b',d,q,u,t⟩
  exact ⟨b',d,by show (s'.us:Int)≤_;omega,.inr (.inl ⟨ha,q,by show s'.mm (.gl 3)≤_;omega⟩)⟩
 .obtain ⟨s',kind,a,v,r,h1⟩:=nS G ha h hq Zo Zo
  refine ⟨s',kind,a,v,r,h1.imp id ?_⟩
  rintro ⟨b',d,q,u,t⟩
  exact ⟨b',d,by show (s'.us:Int)≤_;omega,.inr (.inr ⟨ha,q,by show s'.mm (.gl 3)≤_;omega⟩)⟩
end Go.Proofs.YtlejhikddkdanaaGreat.Mdl
namespace Go.Proofs.YtlejhikddkdanaaGreat.Mdl
def Qz (c:Cf) (tid:Int):Nat→St→List Fr→Option St
 |0,s,l=>match l with
  |[]=>some s
  |_::_=>none
 |n+1,s,l=>match l with
  |[]=>some s
  |f::fs=>if (f::fs).length≤60 then (match bit c tid s (f::fs) with
   |some o=>Qz c tid n o.st o.frs
   |none=>none) else none
theorem Uy {c:Cf} {tid:Int}:∀ {n:Nat} {s s1 s2:St} {l:List Fr} {m:Nat},Qz c tid n s l=some s1→RunsN c tid m s l s2 []→s2=s1
 |0,s,s1,s2,[],m,h,r=>by
  cases r with
  |zero=>exact Option.some.inj h
  |step _ h2 _=>cases h2
 |0,s,s1,s2,f::fs,m,h,r=>by cases h
 |n+1,s,s1,s2,[],m,h,r=>by
  cases r with
  |zero=>exact Option.some.inj h
  |step _ h2 _=>cases h2
 |n+1,s,s1,s2,f::fs,m,h,r=>by
  cases r with
  |step hl h2 r2=>
   unfold Qz at h
   dsimp only at h
   rw [if_pos hl,h2] at h
   exact Uy h r2
def cfL (k:Nat):Cf:=⟨k,1,4,2,1,1,1,[]⟩
theorem uP:(Qz (cfL 0) 0 300 (st0 (cfL 0)) [first (cfL 0) 0 4 9]).map (fun s=>decide (s.ret0=0))=some true:=by decide +kernel
theorem uO:(Qz (cfL 1) 0 300 (st0 (cfL 1)) [first (cfL 1) 0 4 9]).map (fun s=>decide (s.ret0=0))=some true:=by decide +kernel
theorem uN:(Qz (cfL 2) 0 300 (st0 (cfL 2)) [first (cfL 2) 0 4 9]).map (fun s=>decide (s.ret0=0))=some true:=by decide +kernel
theorem dY {k:Nat} (hk:k<3) {s:St} (r:Runs (cfL k) 0 (st0 (cfL k)) [first (cfL k) 0 4 9] s []):s.ret0=0:=by
 have key:∀ {k:Nat},(Qz (cfL k) 0 300 (st0 (cfL k)) [first (cfL k) 0 4 9]).map (fun s=>decide (s.ret0=0))=some true→∀ {s:St},Runs (cfL k) 0 (st0 (cfL k)) [first (cfL k) 0 4 9] s []→s.ret0=0:=by
  intro k h s ⟨m,r⟩
  cases he:Qz (cfL k) 0 300 (st0 (cfL k)) [first (cfL k) 0 4 9] with
  |none=>rw [he] at h;cases h
  |some s1=>
   rw [he] at h
   rw [Uy he r]
   exact of_decide_eq_true (Option.some.inj h)
 rcases (show k=0∨k=1∨k=2 by omega) with rfl|rfl|rfl
 .exact key uP r
 .exact key uO r
 .exact key uN r
end Go.Proofs.YtlejhikddkdanaaGreat.Mdl
namespace Go.Proofs
open Go.Shelf
def Tryz.lays125_ren:Go.Shelf.Ren:=⟨fun|125=>228|128=>229|129=>230|n=>n,fun|46=>185|3=>3|51=>27|53=>82|4=>4|5=>5|9=>9|n=>n,fun|n=>n⟩
theorem Tryz.lays125:Go.Proofs.Lays.n125 Tryz.prog Tryz.lays125_ren:={
 mixed:=by kernel_rfl
 f125:=Tryz.func228.trans (congrArg some (by kernel_rfl))
 f128:=Tryz.func229.trans (congrArg some (by kernel_rfl))
 f129:=Tryz.func230.trans (congrArg some (by kernel_rfl))
 t3:=Tryz.underlying3
 a3:=Tryz.isAgg3
 z3:=Tryz.sizeOf3
 v3:=Tryz.zeroValue3
 t4:=Tryz.underlying4
 a4:=Tryz.isAgg4
 z4:=Tryz.sizeOf4
 v4:=Tryz.zeroValue4
 t5:=Tryz.underlying5
 a5:=Tryz.isAgg5
 z5:=Tryz.sizeOf5
 v5:=Tryz.zeroValue5
 t9:=Tryz.underlying9
 a9:=Tryz.isAgg9
 z9:=Tryz.sizeOf9
 v9:=Tryz.zeroValue9
 t46:=Tryz.underlying185
 a46:=Tryz.isAgg185
 z46:=Tryz.sizeOf185
 v46:=Tryz.zeroValue185
 t51:=Tryz.underlying27
 a51:=Tryz.isAgg27
 z51:=Tryz.sizeOf27
 v51:=Tryz.zeroValue27
 t53:=Tryz.underlying82
 a53:=Tryz.isAgg82
 z53:=Tryz.sizeOf82
 v53:=Tryz.zeroValue82}
theorem Tryz.bits_Len (x:Int) (w:World) (h0:0≤x) (h1:x≤18446744073709551615) :
  Calls Tryz.prog 228 #[.int .u64 x] w fun e w'=>e=.returned (.int .i64 (Lib.bitLen x.toNat))∧w'=w:=Any.bits_Len Tryz.lays125 x w h0 h1
def Tryz.laysNm215_ren:Go.Shelf.Ren:=⟨fun|15=>209|n=>n,fun|22=>35|3=>3|4=>4|n=>n,fun|n=>n⟩
theorem Tryz.laysNm215:Go.Proofs.Lays2.n15 Tryz.prog Tryz.laysNm215_ren:={
 mixed:=by kernel_rfl
 f15:=Tryz.func209.trans (congrArg some (by kernel_rfl))
 t3:=Tryz.underlying3
 a3:=Tryz.isAgg3
 z3:=Tryz.sizeOf3
 v3:=Tryz.zeroValue3
 t4:=Tryz.underlying4
 a4:=Tryz.isAgg4
 z4:=Tryz.sizeOf4
 v4:=Tryz.zeroValue4
 t22:=Tryz.underlying35
 a22:=Tryz.isAgg35
 z22:=Tryz.sizeOf35
 v22:=Tryz.zeroValue35
 i3:=by kernel_rfl}
open Go.RowKit Go.Lib in
theorem Tryz.slices_Clone_int (b off n c:Nat) (zs:List Int) (w:World) (hz:n≤zs.length) (hbig:n*8≤140737488355328) (hc:∀ j,j<zs.length→w.cell? ⟨b,off+j,none⟩=some (.int .i64 (zs.getD j 0))) :
  Calls Tryz.prog 209 #[.slice (some ⟨b,off,none⟩) n c] w fun e w'=>∃ v',e=.returned v'∧w'.ownsRow w.heap.size 3 1 v' n ((zs.take n).map (Value.int .i64))∧v'≠.slice none 0 0∧Below w.heap.size w w':=Any.slices_Clone_int Tryz.laysNm215 b off n c zs w hz hbig hc
open Go.RowKit Go.Lib in
theorem Tryz.slices_Clone_int_nil (n c:Nat) (w:World) :
  Calls Tryz.prog 209 #[.slice none n c] w fun e w'=>e=.returned (.slice none 0 0)∧w'=w:=Any.slices_Clone_int_nil Tryz.laysNm215 n c w
end Go.Proofs
namespace Go.Proofs.YtlejhikddkdanaaGreat.Mdl
open RowKit
variable {F:Fence} {n:Nat} {P:Program}
def Uo (fn:FuncId) (tmps:Array Value) (ps:Array Tmp) (assign body:Code) (D:Nat) (st:LoopState):Loop:={state:=st,pending:=none,fn,tmps,params:=ps,assign,body,defers:=D}
theorem Yy {g:Operand} {ps:Array Tmp} {assign body:Code} {Q:Exit→Act→World→Prop} {a:Act} {w:World}
  (hro:F.round=none) (h1:1≤n) {gf:Nat} {lb:Array Value} (hg:a.eval g=.func (.func gf) #[] lb) (hFg:F.fn gf) (eg:∀ args w,(callFunc gf args).run P w=.ok (.enter gf args) w)
  (h:∀ fn,F.fn fn→CallsIn F (n-1) P gf (#[.func (.yield (w.heap.size+1)) #[] #[]]++lb) ((w.alloc (.deferred (some []))).alloc (.loop (Uo fn a.tmps ps assign body w.heap.size .ready)))
   (rangePost F n P (w.heap.size+1) Q {a with defers:=[{target:=.collected w.heap.size,args:=#[]}]++a.defers})) :
  (Code.rangeFunc g ps assign body).wpIn F n P Q a w:=by
 refine wpIn_rangeFunc ?_
 intro fn hfn
 rw [hro]
 have h2:=h fn hfn
 obtain ⟨W1,hW1⟩:∃ W1,(w.alloc (.deferred (some []))).alloc (.loop (Uo fn a.tmps ps assign body w.heap.size .ready))=W1:=⟨_,rfl⟩
 rw [hW1] at h2
 refine ⟨w.heap.size+1,[{target:=.collected w.heap.size,args:=#[]}],W1,{target:=.fn (.func gf) lb,args:=#[.func (.yield (w.heap.size+1)) #[] #[]]},W1,gf,
  #[.func (.yield (w.heap.size + 1)) #[] #[]] ++ lb, W1, ?_, ?_, ?_, ?_, fun _ => h1, ?_⟩
 .rw [← hW1]
  exact run_enterLoop_outer _ _ _ _ _
 .simp only [resolve,hg]
  simp [go_sem]
 .intro f' hf'
  simp [Target.leads] at hf'
  subst hf'
  exact hFg
 .simp [invoke,go_sem,eg]
 .exact h2
def qL (l:Nat) (rec:LoopState→Loop) (R:Ending→World→Prop):Exit→Act→World→Prop
 |.normal,_,W3=>W3.heap[l]?=some (.loop (rec .busy))∧R (.returned (.bool true)) (W3.putObj l (.loop (rec .ready)))
 |_,_,_=>False
theorem Yx {m l D:Nat} {W:World} {R:Ending→World→Prop} {fn:FuncId} {tmps:Array Value} {ps:Array Tmp} {assign body:Code} {args:Array Value} (hF:F.fn fn)
  (hl:W.heap[l]?=some (.loop (Uo fn tmps ps assign body D .ready))) (hs:args.size=ps.size)
  (h:assign.wpIn (F.inRound l) m P (Exit.then (fun a₁ w₁=>w₁.heap[l]?=some (.loop (Uo fn tmps ps assign body D .ready))∧
    body.wpIn (F.inRound l) m P (qL l (Uo fn tmps ps assign body D) R) a₁ (w₁.putObj l (.loop (Uo fn tmps ps assign body D .busy)))) (fun _ _ _=>False))
   {tmps:=(ps.zip args).foldl (fun t (p,v)=>t.setIfInBounds p v) tmps,defers:=[]} W) :
  YieldAt F m P l args W R:=by
 refine ⟨fn,_,assign,body,run_yield hl hs,roundIn_of_wpIn hF (wpIn_mono h ?_)⟩
 intro e a₁ w₁ hq
 cases e with
 |normal=>
  obtain ⟨h1,h2⟩:=hq
  refine ⟨_,run_beginRound h1 rfl,wpIn_mono h2 ?_⟩
  intro e a3 W3 hp
  cases e with
  |normal=>
   obtain ⟨h3,h4⟩:=hp
   exact ⟨_,_,run_endRound none h3,h4⟩
  |ret=>exact hp.elim
  |exit id=>exact hp.elim
  |goto t=>exact hp.elim
  |panic ch=>exact hp.elim
  |outgrown=>exact hp.elim
 |ret=>exact hq.elim
 |exit id=>exact hq.elim
 |goto t=>exact hq.elim
 |panic ch=>exact hq.elim
 |outgrown=>exact hq.elim
theorem jZ {l D:Nat} {W:World} {Q:Exit→Act→World→Prop} {a':Act} {v:Value} {fn:FuncId} {tmps:Array Value} {ps:Array Tmp} {assign body:Code}
  (hl:W.heap[l]?=some (.loop (Uo fn tmps ps assign body D .ready))) (h:∀ o,Q .normal a' (W.putObj l o)) :
  rangePost F n P l Q a' (.returned v) W:=
 ⟨none,_,run_endLoop hl (by simp [Uo]),h _⟩
end Go.Proofs.YtlejhikddkdanaaGreat.Mdl
namespace Go.Proofs.YtlejhikddkdanaaGreat.Mdl
variable {P:Program} {ops:Array Oper} {Q:Exit→Act→World→Prop} {md:Region.Mode} {S:World→Prop} {z:Nat}
def Iy (P:Program) (md:Region.Mode) (ops:Array Oper) (Q:Exit→Act→World→Prop) (S:World→Prop) (z:Nat):Nat→Array Bool→Act→World→Prop
 |0,listed,a,w=>Region.ready md ops listed=[]∧Q .normal a w
 |fuel+1,listed,a,w=>
  (Region.ready md ops listed=[]→Q .normal a w)∧
  ∀ i ∈ Region.ready md ops listed,wpOp P ops Q i (fun a' w'=>(i≠z→S w')∧Iy P md ops Q S z fuel (listed.setIfInBounds i true) a' w') a w
theorem Ry:∀ (fuel:Nat) (listed:Array Bool) (a:Act) (w:World),Iy P md ops Q S z fuel listed a w→wpAny P md ops Q fuel listed a w
 |0,_,_,_,h=>h
 |fuel+1,_,_,_,h=>⟨h.1,fun i hi=>wpOp_mono (fun a' w' h'=>Ry fuel _ a' w' h'.2) (h.2 i hi)⟩
def Sb (md:Region.Mode) (ops:Array Oper) (z i:Nat):Bool:=match ops[z]? with
 |some o=>o.after.any fun e=>Region.binds md e && e.on==i
 |none=>true
theorem Vo {i:Nat} {oi:Oper} {v:Value} (hi:ops[i]?=some oi) (hz:Sb md ops z i=true) (hsel:∀ (j:Nat) (o:Oper) cs b,ops[j]?=some o→o.op≠.select cs b)
  (hQ:∀ c a w,Q (.panic c) (a.put oi.dst v) w→Q (.panic c) a w) :
  ∀ (fuel:Nat) (listed:Array Bool) (a:Act) (w:World),
   (∀ j oj,ops[j]?=some oj→j≠i→listed.getD j true=false→(∀ e ∈ oj.after,Region.binds md e=true→e.on≠i)→oi.apart ops oj=true)→
   i ∈ Region.ready md ops listed→YieldsIf P ops S oi v a→S w→
   Iy P md ops Q S z fuel (listed.setIfInBounds i true) (a.put oi.dst v) w→Iy P md ops Q S z (fuel+1) listed a w:=by
 intro fuel
 induction fuel with
 |zero=>
  intro listed a w _ hr hy hS H
  refine ⟨fun h=>(by rw [h] at hr;cases hr),fun j hj=>?_⟩
  by_cases hji:j=i
  .subst hji;exact hy.wpOp hi hS ⟨fun _=>hS,H⟩
  .have:=ready_mono hj hji
   rw [H.1] at this
   cases this
 |succ fuel ih=>
  intro listed a w hfree hr hy hS H
  refine ⟨fun h=>(by rw [h] at hr;cases hr),fun j hj=>?_⟩
  by_cases hji:j=i
  .subst hji;exact hy.wpOp hi hS ⟨fun _=>hS,H⟩
  .have h1:=H.2 j (ready_mono hj hji)
   obtain ⟨hjun,oj,hoj,hall⟩:=mem_ready.1 hj
   have hnot:∀ e ∈ oj.after,Region.binds md e=true→e.on≠i:=fun e he hb heq=>by
    have h1:=hall e he hb
    have h0:=(mem_ready.1 hr).1
    rw [heq] at h1
    rcases Nat.lt_or_ge i listed.size with h'|h'
    .simp [h'] at h0 h1;rw [h0] at h1;cases h1
    .simp [Array.getElem?_eq_none h'] at h1
   have hjz:j≠z:=by
    rintro rfl
    unfold Sb at hz
    rw [hoj] at hz
    simp only [Array.any_eq_true,Bool.and_eq_true,beq_iff_eq] at hz
    obtain ⟨k,hk,hb,he⟩:=hz
    exact hnot _ (Array.getElem_mem hk) hb he
   have h2:=wpOp_putIf hoj (hfree j oj hoj hji hjun hnot) (fun cs b=>hsel i oi cs b hi) (fun cs b=>hsel j oj cs b hoj) hQ hy h1
   have hfree':∀ k ok,ops[k]?=some ok→k≠i→(listed.setIfInBounds j true).getD k true=false→
     (∀ e ∈ ok.after,Region.binds md e=true→e.on≠i)→oi.apart ops ok=true:=fun k ok hk hki hun hno=>by
    refine hfree k ok hk hki ?_ hno
    by_cases hjk:j=k
    .subst hjk;exact hjun
    .rw [getD_set_ne true hjk] at hun;exact hun
   refine wpOp_mono (fun a' w' h3=>⟨h3.2.1,ih (listed.setIfInBounds j true) a' w' hfree' (ready_mono hr (Ne.symm hji)) h3.1 (h3.2.1 hjz) ?_⟩) h2
   rw [Array.setIfInBounds_comm _ _ hji]
   exact h3.2.2
theorem Bj {i:Nat} {oi:Oper} {v:Value} {fuel:Nat} {listed:Array Bool} {a:Act} {w:World} (hi:ops[i]?=some oi) (hz:Sb md ops z i=true)
  (hs:Region.noSelect ops=true) (hf:Region.free md ops listed i=true) (hr:(Region.ready md ops listed).contains i=true)
  (hQ:∀ c a w,Q (.panic c) (a.put oi.dst v) w→Q (.panic c) a w) (hy:YieldsIf P ops S oi v a) (hS:S w)
  (h:Iy P md ops Q S z fuel (listed.setIfInBounds i true) (a.put oi.dst v) w):Iy P md ops Q S z (fuel+1) listed a w:=
 Vo hi hz (Region.noSelect_spec hs) hQ fuel listed a w (Region.free_spec hi hf) (by simpa using hr) hy hS h
def AllReadyL (P:Program) (md:Region.Mode) (ops:Array Oper) (Q:Exit→Act→World→Prop) (S:World→Prop) (z fuel:Nat) (listed:Array Bool) (a:Act) (w:World) (rs:List Nat):Prop:=
 ∀ i ∈ rs,wpOp P ops Q i (fun a' w'=>(i≠z→S w')∧Iy P md ops Q S z fuel (listed.setIfInBounds i true) a' w') a w
theorem AllReadyL.nil {fuel:Nat} {listed:Array Bool} {a:Act} {w:World}:AllReadyL P md ops Q S z fuel listed a w []:=fun _ h=>by cases h
theorem AllReadyL.cons {fuel:Nat} {listed:Array Bool} {a:Act} {w:World} {i:Nat} {o:Oper} {rs:List Nat} (ho:ops[i]?=some o)
  (h:∀ K':Act→World→Prop,Shut (∀ a w,S w→(S w→Iy P md ops Q S z fuel (listed.setIfInBounds i true) a w)→K' a w)→if Region.wanted o (yielded ops a.tmps)=true then Oper.wp P o a w K' Q else K' (a.put o.dst undef) w)
  (hs:AllReadyL P md ops Q S z fuel listed a w rs):AllReadyL P md ops Q S z fuel listed a w (i::rs):=fun j hj=>by
 rcases List.mem_cons.1 hj with rfl|hj
 .exact wpOp_step ho (fun K' hK=>h K' (fun a w hS hW=>hK a w ⟨fun _=>hS,hW hS⟩))
 .exact hs j hj
theorem AllReadyL.last {fuel:Nat} {listed:Array Bool} {a:Act} {w:World} {o:Oper} (ho:ops[z]?=some o)
  (h:∀ K':Act→World→Prop,Shut (∀ a w,Iy P md ops Q S z fuel (listed.setIfInBounds z true) a w→K' a w)→if Region.wanted o (yielded ops a.tmps)=true then Oper.wp P o a w K' Q else K' (a.put o.dst undef) w):AllReadyL P md ops Q S z fuel listed a w [z]:=fun j hj=>by
 rcases List.mem_cons.1 hj with rfl|hj
 .exact wpOp_step ho (fun K' hK=>h K' (fun a w hW=>hK a w ⟨fun h=>absurd rfl h,hW⟩))
 .cases hj
theorem Cb {rs:List Nat} {fuel:Nat} {listed:Array Bool} {a:Act} {w:World} (hr:Region.ready md ops listed=rs) (hne:rs≠[])
  (h:AllReadyL P md ops Q S z fuel listed a w rs):Iy P md ops Q S z (fuel+1) listed a w:=
 ⟨fun h0=>absurd (hr▸h0) hne,hr▸h⟩
theorem Mj {listed:Array Bool} {a:Act} {w:World} (hr:Region.ready md ops listed=[]) (h:Q .normal a w) :
  ∀ fuel,Iy P md ops Q S z fuel listed a w
 |0=>⟨hr,h⟩
 |_+1=>⟨fun _=>h,by rw [hr];simp⟩
theorem Mi {id:Nat} {a:Act} {w:World} (z:Nat) (S:World→Prop) (hm:P.follows .mixedOrders=true) (hS:S w.drew)
  (h:S w.drew→Iy P .any ops Q S z ops.size (Array.replicate ops.size false) a w.drew):(Code.region id ops true).wp P Q a w:=
 wp_region_any hm (Ry _ _ _ _ (h hS))
end Go.Proofs.YtlejhikddkdanaaGreat.Mdl
