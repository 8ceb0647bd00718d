/- TopSame, part 14: lemmas on the way. -/
import Derived.Test.YtlejhikddkdanaaGreatM11
set_option maxHeartbeats 8000000
set_option maxRecDepth 1000000
set_option linter.unusedVariables false
set_option linter.unusedSimpArgs false
namespace Go.Proofs.YtlejhikddkdanaaGreat.Mdl
open RowKit Wk Fns YtlejhikddkdanaaGreatW.PrintWords YtlejhikddkdanaaGreatW.PrintLast YtlejhikddkdanaaGreatW.PrintMore
variable {c:Cf} {tid:Int}
variable {A:Ad} {T:Td} {B:Nat→Prop} {w0 w w1:World} {fv:Value} {s s':St} {l fs:List Fr} {f:Fr} {fb cap:Nat} {rv dv rv' dv':Value}
def Pj (c:Cf) (tid:Int) (T:Td) (fv:Value) (s:St) (rv dv:Value):Array Value:=#[Φ tid,fv,Γ s.ret0,Γ s.ret1,Γ s.ret2,.slice (some (Ψ T.pr 0)) c.lv.toNat c.lv.toNat,.slice (some (Ψ T.sc 0)) c.lv.toNat c.lv.toNat,.slice (some (Ψ T.wd 0)) c.lv.toNat c.lv.toNat,rv,dv]
structure IsT (c:Cf) (tid:Int) (A:Ad) (T:Td) (B:Nat→Prop) (w0:World) (fv:Value) (s:St) (l:List Fr) (rv dv:Value) (w:World):Prop where
 all:Ix c tid A T B w0 fv s l w
 tc:w.heap[T.tb]?=some (.cells (Pj c tid T fv s rv dv) 104 (0,0))
theorem Ix.toT (H:Ix c tid A T B w0 fv s l w):∃ rv dv,IsT c tid A T B w0 fv s l rv dv w:=by
 obtain ⟨rv,dv,ht,_⟩:=H.thr
 exact ⟨rv,dv,H,ht⟩
namespace IsT
theorem rows (H:IsT c tid A T B w0 fv s l rv dv w):w.ownsRow 0 3 1 rv s.rt.length (Co .i64 s.rt)∧IsFound dv s w∧(∀ k,rv.ownBlock=some k→¬ A.may k∧dv.ownBlock≠some k∧(B k∨w0.heap.size≤k))∧(∀ k,dv.ownBlock=some k→¬ A.may k∧(B k∨w0.heap.size≤k)):=by
 obtain ⟨rv',dv',ht,h⟩:=H.all.thr
 have h0:=H.tc
 rw [ht] at h0
 injection h0 with h0
 injection h0 with h0
 have hrv:rv'=rv:=by have:=congrArg (fun a:Array Value=>a[8]?) h0;simpa [Pj] using this
 have hdv:dv'=dv:=by have:=congrArg (fun a:Array Value=>a[9]?) h0;simpa [Pj] using this
 subst hrv hdv
 exact h
theorem below (H:IsT c tid A T B w0 fv s l rv dv w) (hb:Below w.heap.size w w1):IsT c tid A T B w0 fv s l rv dv w1:=⟨H.all.same hb,Ac H.tc hb⟩
theorem drew (H:IsT c tid A T B w0 fv s l rv dv w):IsT c tid A T B w0 fv s l rv dv w.drew:=H.below (Da (Below.refl _ _))
theorem alloc (H:IsT c tid A T B w0 fv s l rv dv w) (o:Obj):IsT c tid A T B w0 fv s l rv dv (w.alloc o):=H.below (Af (Below.refl _ _) _)
theorem turn (H:IsT c tid A T B w0 fv s l rv dv w) (ho:Over (fun k=>k=T.tb∨rv.ownBlock=some k∨dv.ownBlock=some k) w w1) (ht1:w1.heap[T.tb]?=some (.cells (Pj c tid T fv s' rv' dv') 104 (0,0)))
  (hr1:w1.ownsRow 0 3 1 rv' s'.rt.length (Co .i64 s'.rt)) (hd1:IsFound dv' s' w1)
  (k1:∀ k,rv'.ownBlock=some k→rv.ownBlock=some k∨w.heap.size≤k) (k2:∀ k,dv'.ownBlock=some k→dv.ownBlock=some k∨w.heap.size≤k) (k3:∀ k,rv'.ownBlock=some k→dv'.ownBlock≠some k)
  (e1:s'.mm=s.mm) (e2:s'.us=s.us) (e3:s'.pred=s.pred) (e4:s'.succ=s.succ) (e5:s'.wrd=s.wrd) (e6:s'.ret0=s.ret0) (e7:s'.ret1=s.ret1) (e8:s'.ret2=s.ret2):IsT c tid A T B w0 fv s' l rv' dv' w1:=by
 obtain ⟨g,aT,hm⟩:=H.all.mach
 obtain ⟨hr,hd,hs1,hs2⟩:=H.rows
 have ht:=H.tc
 have nt:∀ (k:Nat) (cs:Array Value) (e:TypeId),w.heap[k]?=some (.cells cs e (0,0))→e≠104→e≠3→¬ (k=T.tb∨rv.ownBlock=some k∨dv.ownBlock=some k):=fun k cs e hk he he2 hh=>by
  rcases hh with h|h|h
  .exact An hk ht he h
  .obtain ⟨cs',h4⟩:=Ay hr h
   exact An hk h4 he2 rfl
  .obtain ⟨cs',h4⟩:=hd.type h
   exact An hk h4 he2 rfl
 have may:∀ k,w.heap.size≤k→¬ A.may k:=fun k hk hmay=>by have:=hm.may_lt hmay;omega
 have new:∀ k,w.heap.size≤k→(B k∨w0.heap.size≤k):=fun k hk=>Or.inr (Nat.le_trans H.all.over.size hk)
 have hm2:IsMach c A s.mm g s.us aT w1:=hm.off ho (fun k hk=>by
  rcases hk with hk|hk|hk
  .exact ⟨_,104,hk▸ht,.inl rfl⟩
  .obtain ⟨cs',h5⟩:=Ay hr hk
   exact ⟨_,3,h5,.inr (.inr (.inr ⟨rfl,(hs1 k hk).1⟩))⟩
  .obtain ⟨cs',h5⟩:=hd.type hk
   exact ⟨_,3,h5,.inr (.inr (.inr ⟨rfl,(hs2 k hk).1⟩))⟩)
 refine ⟨⟨⟨g,aT,by rw [e1,e2];exact hm2⟩,⟨rv',dv',ht1,hr1,hd1,fun k hk=>?_,fun k hk=>?_⟩,
  Bi H.all.frames ho (fun k hk=>by obtain ⟨cs,h5⟩:=Ay H.all.frames hk;exact nt k cs 111 h5 Zd Zd),
  by rw [e3];exact ho.blk H.all.pred (nt _ _ _ H.all.pred Zd Zd),by rw [e4];exact ho.blk H.all.succ (nt _ _ _ H.all.succ Zd Zd),by rw [e5];exact ho.blk H.all.wrd (nt _ _ _ H.all.wrd Zd Zd),
  by rw [e3,e4,e5];exact H.all.prf,by rw [e6,e7,e8];exact H.all.rets,H.all.fits,
  H.all.over.then_ ho (fun k hk=>?_),H.all.mayD,H.all.own,H.all.fvD,H.all.apart⟩,ht1⟩
 .rcases k1 k hk with h|h
  .exact ⟨(hs1 k h).1,k3 k hk,(hs1 k h).2.2⟩
  .exact ⟨may k h,k3 k hk,new k h⟩
 .rcases k2 k hk with h|h
  .exact hs2 k h
  .exact ⟨may k h,new k h⟩
 .rcases hk with hk|hk|hk
  .rw [hk];exact H.all.own.1
  .exact (hs1 k hk).2.2
  .exact (hs2 k hk).2
theorem step (H:IsT c tid A T B w0 fv s l rv dv w) {m:Loc→Int} {g:Gh} {us:Nat} {aT:Bool} (ho:Over A.may w w1) (hm1:IsMach c A m g us aT w1):IsT c tid A T B w0 fv {s with mm:=m,us:=us} l rv dv w1:=by
 obtain ⟨g0,acted0,hm⟩:=H.all.mach
 exact ⟨H.all.step ho hm1,ho.blk H.tc (hm.may_not H.tc (.inl rfl))⟩
end IsT
theorem It (H:IsT c tid A T B w0 fv s l rv dv w):Calls Tryz.prog 153 #[.agg #[Φ c.algo,Φ c.th,Φ c.ns,Φ c.lv,Φ c.batch,Φ c.probes,Φ c.scan,Φ c.sl,Φ c.wI,Φ c.sE,Φ c.hZ,Φ c.lK,Φ c.nA,Φ c.tA,Φ c.size]] w fun e w'=>e=.returned (Φ c.sl)∧IsT c tid A T B w0 fv s l rv dv w':=
 (fH w).mono Λ135
theorem Ql (G:Good c tid) {t n:Int} (h:c.has (.haz t n)=true) (H:IsT c tid A T B w0 fv s l rv dv w):Calls Tryz.prog 152 #[.agg #[Φ c.algo,Φ c.th,Φ c.ns,Φ c.lv,Φ c.batch,Φ c.probes,Φ c.scan,Φ c.sl,Φ c.wI,Φ c.sE,Φ c.hZ,Φ c.lK,Φ c.nA,Φ c.tA,Φ c.size],Φ t,Φ n] w fun e w'=>e=.returned (Φ (c.addr (.haz t n)))∧IsT c tid A T B w0 fv s l rv dv w':=
 (pB G h w).mono Λ135
theorem Km (G:Good c tid) {x:Loc} (hx:c.has x=true) (H:IsT c tid A T B w0 fv s l rv dv w) :
  Calls Tryz.prog 73 #[Pt A.mb 0,Φ (c.addr x)] w fun e w'=>e=.returned (Γ (s.mm x))∧IsT c tid A T B w0 fv s l rv dv w':=by
 obtain ⟨g,a,hm⟩:=H.all.mach
 refine (pE G A _ g _ a x w hm hx).mono ?_
 rintro e w' ⟨rfl,h1,h2⟩
 exact ⟨rfl,H.step h2 h1⟩
theorem Ms (H:IsT c tid A T B w0 fv s l rv dv w):(dv=.slice none 0 0∧s.found=[])∨∃ b off cp,dv=.slice (some (Ψ b off)) s.found.length cp∧s.found.length≤cp∧∀ j,j<s.found.length→w.cell? (Ψ b (off+j))=some (Φ (s.found.getD j 0)):=by
 obtain ⟨_,hd,_⟩:=H.rows
 rcases hd with ⟨_,hd⟩|⟨_,db,off,cp,cs,rfl,h1,h2,h3⟩
 .rcases hd.2 with ⟨e,h0⟩|⟨g,cp,cur,e,_,hb,h1,_,_,ht⟩
  .exact .inl ⟨e,List.length_eq_zero_iff.1 h0⟩
  .exact .inr ⟨g,0,cp,e,h1,Nb (cap:=cp) hb (by simpa using ht)⟩
 .exact .inr ⟨db,off,cp,rfl,h1,fun j hj=>by rw [Aa h2];exact h3 j hj⟩
theorem Nn {gb:Nat} (v:Int) (hn:s.found.length<100000) (hg:w.cell? (Ψ gb 0)=some (Pt T.tb 0)) (H:IsT c tid A T B w0 fv s l rv dv w) :
  Calls Tryz.prog 156 #[Φ v,Pt gb 0] w fun e w'=>e=.returned (.bool (s.found.contains v))∧w=w':=by
 have h9:w.cell? (Ψ T.tb 9)=some dv:=(Aa H.tc 9).trans rfl
 rcases Ms H with ⟨e,h0⟩|⟨b,off,cp,e,_,hc⟩
 .rw [h0]
  exact iW gb T.tb v w hg (e▸h9)
 .exact bU gb T.tb b off cp s.found v w hg (e▸h9) hn hc
theorem Ix.boxedA1 {w6 w7:World} {ga gb:Nat} {v:Value} {t:TypeId} (H:Ix c tid A T (Bx (Bx B w0 ga) w6 gb) w7 fv s l w) (hlt:ga<w6.heap.size) (ha:w7.heap[ga]?=some (.cells #[v] t (0,0))) :
  w.cell? (Ψ ga 0)=some v∧(∀ i,w.frozen? (Ψ ga i)=false):=⟨(Aa (H.boxA hlt ha) 0).trans rfl,Ab (H.boxA hlt ha)⟩
theorem fE {x:Int} (h:InU x):IntKind.i64.wrap x=i64 x:=by
 obtain ⟨h0,h1⟩:=h
 rw [IntKind.wrap_i64]
 unfold i64
 split<;>omega
theorem Uw {x:Int} (h:InU x):wrap64 x=i64 x:=by
 obtain ⟨h0,h1⟩:=h
 unfold wrap64 i64
 split<;>omega
theorem lR (G:Good c tid) {p:Int} (h0:0≤p) (h1:p<c.sl*c.th):c.has (.haz (p / c.sl) (p % c.sl))=true:=by
 have hsl:=Es G
 exact Gf (Int.ediv_nonneg h0 Zo) (Int.ediv_lt_of_lt_mul Zo (by rw [Int.mul_comm];omega)) (Int.emod_nonneg _ Zo) (Int.emod_lt_of_pos _ Zo)
theorem gN (H:IsT c tid A T B w0 fv s l rv dv w) (hm:s.moved=false):w.ownsRow 0 3 1 dv s.found.length (Co .i64 s.found):=by
 rcases H.rows.2.1 with ⟨_,h⟩|⟨h,_⟩
 .exact h
 .rw [hm] at h;cases h
theorem fJ {P:Program} {id:Nat} {ops:Array Oper} {Q:Exit→Act→World→Prop} {a:Act} (hI:Ix c tid A T B w0 fv s l w) (h:∀ W rv dv,IsT c tid A T B w0 fv s l rv dv W→(Code.region id ops true).wp P Q a W):(Code.region id ops true).wp P Q a w:=by
 obtain ⟨rv,dv,hT⟩:=hI.toT
 exact h w rv dv hT
theorem IsT.c9 (H:IsT c tid A T B w0 fv s l rv dv w):w.cell? (Ψ T.tb 9)=some dv∧∀ i,w.frozen? (Ψ T.tb i)=false:=⟨(Aa H.tc 9).trans rfl,Ab H.tc⟩
theorem jR {w2 w6 w7:World} {ga gb:Nat} {v:Value} {ob:Obj} (hlt:ga<w6.heap.size) (ha:w7.heap[ga]?=some (.cells #[v] 98 (0,0))) (hb:w7.heap[gb]?=some ob)
  (H1:IsT c tid A T (Bx (Bx B w0 ga) w6 gb) w7 (Tv fb fs.length cap) s (f::fs) rv dv w2) (H2:IsT c tid A T (Bx (Bx B w0 ga) w6 gb) w7 (Tv fb fs.length cap) s' (f::fs) rv' dv' w) :
  w.cell? (Ψ ga 0)=some v∧(∀ i,w.cell? (Ψ gb i)=w2.cell? (Ψ gb i))∧w.cell? (Ψ fb (fs.length*12+1))=some (Φ (f.pc:Int)):=
 ⟨(H2.all.boxedA1 hlt ha).1,Dm hb H1.all H2.all,H2.all.tops.2.1⟩
theorem Hb {w2 w6 w7 w8:World} {ga gb:Nat} {v:Value} {t:TypeId} {cb:Array Value} (hlt:ga<w6.heap.size) (ha:w7.heap[ga]?=some (.cells #[v] 98 (0,0))) (hb:w7.heap[gb]?=some (.cells cb t (0,0))) (ht:t≠3)
  (H1:IsT c tid A T (Bx (Bx B w0 ga) w6 gb) w7 (Tv fb fs.length cap) s (f::fs) rv dv w2) (H2:IsT c tid A T (Bx (Bx B w0 ga) w6 gb) w7 (Tv fb fs.length cap) s' (f::fs) rv' dv' w) (hg:w.grownBy w8 dv'.ownBlock) :
  w8.cell? (Ψ ga 0)=some v∧(∀ i,w8.cell? (Ψ gb i)=w2.cell? (Ψ gb i))∧w8.cell? (Ψ fb (fs.length*12+1))=some (Φ (f.pc:Int)):=by
 obtain ⟨k1,k2,k3⟩:=jR hlt ha hb H1 H2
 have ne:∀ (k:Nat) (cs:Array Value) (e:TypeId),w.heap[k]?=some (.cells cs e (0,0))→e≠3→w8.heap[k]?=w.heap[k]?:=fun k cs e hk he=>hg.block k (Bb hk) (fun h=>by
  obtain ⟨cs',h4⟩:=H2.rows.2.1.type h.symm
  exact An hk h4 he rfl)
 obtain ⟨cs,hcs⟩:=Ay H2.all.frames (k:=fb) rfl
 exact ⟨(Fa (ne ga _ _ (H2.all.boxA hlt ha) Zd) 0).trans k1,fun i=>(Fa (ne gb _ _ (H2.all.box hb) ht) i).trans (k2 i),(Fa (ne fb _ _ hcs Zd) _).trans k3⟩
theorem mZ {W X:World} {ga gb:Nat} {v u:Value} {o:Option Value} {i:Nat} (n1:(T.tb=ga)=False) (n2:(T.tb=gb)=False) (n3:fb≠T.tb)
  (h:W.cell? (Ψ ga 0)=some v∧(∀ i,W.cell? (Ψ gb i)=X.cell? (Ψ gb i))∧W.cell? (Ψ fb i)=o) :
  (W.setCell (Ψ T.tb 9) u).cell? (Ψ ga 0)=some v∧(∀ i,(W.setCell (Ψ T.tb 9) u).cell? (Ψ gb i)=X.cell? (Ψ gb i))∧(W.setCell (Ψ T.tb 9) u).cell? (Ψ fb i)=o:=
 ⟨(World.cell?_setCell_far _ _ _ _ (fun e=>n1.mp e)).trans h.1,fun i=>(World.cell?_setCell_far _ _ _ _ (fun e=>n2.mp e)).trans (h.2.1 i),(World.cell?_setCell_far _ _ _ _ (Ne.symm n3)).trans h.2.2⟩
theorem Db {w8:World} (H:IsT c tid A T B w0 fv s l rv dv w) (hg8:w.grownBy w8 dv.ownBlock):w8.heap[T.tb]?=some (.cells (Pj c tid T fv s rv dv) 104 (0,0)):=
 Ed H.tc hg8 (fun e=>by
  obtain ⟨cs',h4⟩:=H.rows.2.1.type e.symm
  exact An H.tc h4 Zd rfl)
theorem Fx {w8:World} {x:Int} {g1 cap1:Nat} (H:IsT c tid A T B w0 fv s l rv dv w) (hown8:w8.ownsRow 0 3 1 (Tv g1 s.found.length cap1) (s.found.length+1) (Co .i64 s.found++[Φ x])) (hg8:w.grownBy w8 dv.ownBlock) (hat8:dv.ownBlock=some g1∨g1=w.heap.size) :
  IsT c tid A T B w0 fv {s with found:=s.found++[x],moved:=false} l rv (Tv g1 s.found.length cap1) (w8.setCell (Ψ T.tb 9) (Tv g1 s.found.length cap1)):=by
 have hT:=Db H hg8
 obtain ⟨hr,hd,hs1,hs2⟩:=H.rows
 have hov:Over (fun k=>k=T.tb∨rv.ownBlock=some k∨dv.ownBlock=some k) w w8:=⟨hg8.os,hg8.tape,hg8.output,hg8.size,fun k hk hs=>hg8.block k hk (fun e=>hs (.inr (.inr e.symm)))⟩
 have hne8:g1≠T.tb:=fun e=>by
  rcases hown8.2 with ⟨h,_⟩|⟨g,cp,cur,h,_,hgb,_⟩
  .cases h
  .injection h with h
   injection h with h
   injection h with h
   rw [← h,e] at hgb
   exact An hT hgb Zd rfl
 have hrow8:w8.ownsRow 0 3 1 rv s.rt.length (Co .i64 s.rt):=Bi hr (S:=fun k=>dv.ownBlock=some k) ⟨hg8.os,hg8.tape,hg8.output,hg8.size,fun k hk hs=>hg8.block k hk (fun e=>hs e.symm)⟩ (fun k hk=>(hs1 k hk).2.1)
 refine H.turn (hov.set_ (.inl (.inl rfl)) _) (Ae hT 9 _ rfl) ?_ (.inl ⟨rfl,?_⟩) (fun k hk=>.inl hk) (fun k hk=>?_) (fun k hk=>?_) rfl rfl rfl rfl rfl rfl rfl rfl
 .exact Bi hrow8 (S:=fun k=>k=T.tb) ((Over.refl (fun k=>k=T.tb) w8).set_ (Or.inl rfl) _) (fun k hk e=>by
   obtain ⟨cs',h4⟩:=Ay hrow8 hk
   exact An hT h4 Zd e.symm)
 .have e:(s.found++[x]).length=s.found.length+1:=Zs
  have e2:Co .i64 (s.found++[x])=Co .i64 s.found++[Φ x]:=by simp [Co]
  rw [e,e2]
  exact Bi hown8 (S:=fun k=>k=T.tb) ((Over.refl (fun k=>k=T.tb) w8).set_ (Or.inl rfl) _) (fun k hk e=>by
   have:g1=k:=by simpa [Value.ownBlock] using hk
   exact hne8 (this.trans e))
 .have:g1=k:=by simpa [Value.ownBlock] using hk
  rcases hat8 with h|h
  .exact .inl (this▸h)
  .exact .inr Zo
 .intro h
  have:g1=k:=by simpa [Value.ownBlock] using h
  rcases hat8 with h|h
  .exact (hs1 k hk).2.1 (this▸h)
  .have:=Gk hr k hk
   omega
theorem Vj (H:IsT c tid A T B w0 fv s l rv dv w) (hf:s.found=[]):∃ a cp,dv=.slice a 0 cp:=by
 rcases Ms H with ⟨e,_⟩|⟨b,off,cp,e,_,_⟩
 .exact ⟨none,0,e⟩
 .rw [hf] at e
  exact ⟨_,cp,e⟩
theorem Tj {n:Int} {r:List Int} (H:IsT c tid A T B w0 fv s l rv dv w) (hf:s.found=n::r) :
  ∃ b off cp cs,dv=.slice (some (Ψ b off)) (r.length+1) cp∧r.length+1≤cp∧w.heap[b]?=some (.cells cs 3 (0,0))∧∀ j,j<r.length+1→cs[off+j]?=some (Φ ((n::r).getD j 0)):=by
 rcases Ms H with ⟨_,h0⟩|⟨b,off,cp,e,h1,h2⟩
 .rw [hf] at h0;cases h0
 .rw [hf] at e h1 h2
  obtain ⟨cs,hc⟩:=H.rows.2.1.type (k:=b) (by rw [e];rfl)
  exact ⟨b,off,cp,cs,e,h1,hc,fun j hj=>by rw [← Aa hc];exact h2 j hj⟩
theorem eZ {n:Int} {r:List Int} {b off cp:Nat} {cs:Array Value} (H:IsT c tid A T B w0 fv s l rv (.slice (some (Ψ b off)) (r.length+1) cp) w) (h1:r.length+1≤cp) (h2:w.heap[b]?=some (.cells cs 3 (0,0))) (h3:∀ j,j<r.length+1→cs[off+j]?=some (Φ ((n::r).getD j 0))) :
  IsT c tid A T B w0 fv {s with found:=r,moved:=true} l rv (.slice (some (Ψ b (off+1))) r.length (cp-1)) (w.setCell (Ψ T.tb 9) (.slice (some (Ψ b (off+1))) r.length (cp-1))):=by
 obtain ⟨hr,hd,hs1,hs2⟩:=H.rows
 have hne:b≠T.tb:=An h2 H.tc Zd
 have ho1:Over (fun k=>k=T.tb) w (w.setCell (Ψ T.tb 9) (.slice (some (Ψ b (off+1))) r.length (cp-1))):=(Over.refl (fun k=>k=T.tb) w).set_ (Or.inl rfl) _
 refine H.turn (ho1.mono (fun _ h=>.inl h)) (Ae H.tc 9 _ rfl) ?_ (.inr ⟨rfl,b,off+1,cp-1,cs,rfl,by show r.length≤cp-1;omega,ho1.blk h2 hne,?_⟩) (fun k hk=>.inl hk) (fun k hk=>.inl hk) (fun k hk=>(hs1 k hk).2.1) rfl rfl rfl rfl rfl rfl rfl rfl
 .exact Bi hr ho1 (fun k hk e=>by
   obtain ⟨cs',h4⟩:=Ay hr hk
   exact An H.tc h4 Zd e.symm)
 .intro j hj
  have hj2:j<r.length:=hj
  have:=h3 (j+1) Zo
  rw [show off+1+j=off+(j+1) by omega,this]
  rfl
theorem Yj {r:List Int} {b off cp:Nat} {cs:Array Value} (H:IsT c tid A T B w0 fv s l rv (.slice (some (Ψ b off)) (r.length+1) cp) w) (h1:r.length+1≤cp) (h2:w.heap[b]?=some (.cells cs 3 (0,0))) (h3:r.length=0) :
  IsT c tid A T B w0 fv {s with found:=r,moved:=true} l rv (.slice (some (Ψ b off)) r.length 0) (w.setCell (Ψ T.tb 9) (.slice (some (Ψ b off)) r.length 0)):=by
 obtain ⟨hr,hd,hs1,hs2⟩:=H.rows
 have hne:b≠T.tb:=An h2 H.tc Zd
 have ho1:Over (fun k=>k=T.tb) w (w.setCell (Ψ T.tb 9) (.slice (some (Ψ b off)) r.length 0)):=(Over.refl (fun k=>k=T.tb) w).set_ (Or.inl rfl) _
 refine H.turn (ho1.mono (fun _ h=>.inl h)) (Ae H.tc 9 _ rfl) ?_ (.inr ⟨rfl,b,off,0,cs,rfl,by show r.length≤0;omega,ho1.blk h2 hne,?_⟩) (fun k hk=>.inl hk) (fun k hk=>.inl hk) (fun k hk=>(hs1 k hk).2.1) rfl rfl rfl rfl rfl rfl rfl rfl
 .exact Bi hr ho1 (fun k hk e=>by
   obtain ⟨cs',h4⟩:=Ay hr hk
   exact An H.tc h4 Zd e.symm)
 .intro j hj
  have hj2:j<r.length:=hj
  omega
theorem nB (H:IsT c tid A T B w0 fv s l rv dv w):IsT c tid A T B w0 fv {s with found:=[],moved:=false} l rv (.slice none 0 0) (w.setCell (Ψ T.tb 9) (.slice none 0 0)):=by
 obtain ⟨hr,hd,hs1,hs2⟩:=H.rows
 have ho1:Over (fun k=>k=T.tb) w (w.setCell (Ψ T.tb 9) (.slice none 0 0)):=(Over.refl (fun k=>k=T.tb) w).set_ (Or.inl rfl) _
 refine H.turn (ho1.mono (fun _ h=>.inl h)) (Ae H.tc 9 _ rfl) ?_ (.inl ⟨rfl,World.ownsRow_nil _ _ _ _⟩) (fun k hk=>.inl hk) (fun k hk=>?_) (fun k hk h=>?_) rfl rfl rfl rfl rfl rfl rfl rfl
 .exact Bi hr ho1 (fun k hk e=>by
   obtain ⟨cs',h4⟩:=Ay hr hk
   exact An H.tc h4 Zd e.symm)
 .simp [Value.ownBlock] at hk
 .simp [Value.ownBlock] at h
theorem Ls {P:Program} {rest:List Oper} {opsA:Array Oper} {o:Oper} {a:Act} {Q:Exit→Act→World→Prop} (hgd:o.guard=none) {N:Tmp} (_hd:o.dst=some N) (hI:Ix c tid A T B w0 fv s l w) {v:Value}
  (hrun:(execOp a.eval o).run P w=.ok (.value v) w) (h:∀ wT rv dv,IsT c tid A T B w0 fv s l rv dv wT→wpList P opsA Q rest (a.put o.dst v) wT):wpList P opsA Q (o::rest) a w:=by
 obtain ⟨rv,dv,hT⟩:=hI.toT
 exact Kd.event_run hgd hrun (h w rv dv hT)
theorem Nd {base:Nat} {v:Value} {xs:List Int} (h:w.ownsRow base 3 1 v xs.length (Co .i64 xs)) :
  ∃ a cp,v=.slice a xs.length cp∧∀ j,j<xs.length→∃ b,base≤b∧a=some (Ψ b 0)∧w.cell? (Ψ b j)=some (Φ (xs[j]?.getD 0)):=by
 rcases h.2 with ⟨e,h0⟩|⟨g,cp,cur,e,hb,hgb,_,_,_,ht⟩
 .exact ⟨none,0,by rw [e,h0],fun j hj=>Zo⟩
 .refine ⟨_,cp,e,fun j hj=>⟨g,hb,rfl,?_⟩⟩
  have h1:=Nb (cap:=cp) hgb (by simpa using ht) j hj
  rw [Nat.zero_add] at h1
  rw [h1,List.getD_eq_getElem?_getD]
theorem bA {base:Nat} {v:Value} {xs:List Int} (h:w.ownsRow base 3 1 v xs.length (Co .i64 xs)):so_Ints w.heap.size w v xs:=by
 rcases h.2 with ⟨e,h0⟩|⟨g,cp,cur,e,hb,hgb,_,_,_,ht⟩
 .exact .inl ⟨e,List.length_eq_zero_iff.1 h0⟩
 .refine .inr ⟨g,0,cp,e,Bb hgb,fun j hj=>?_⟩
  rw [Nb (cap:=cp) hgb (by simpa using ht) j hj,List.getD_eq_getElem?_getD]
theorem Yg (g:Int→Bool) {xs:List Int} {k:Nat} (hk:k<xs.length) (h:g (xs[k]?.getD 0)=true):(xs.take (k+1)).filter g=(xs.take k).filter g++[xs[k]?.getD 0]:=by
 have h':g xs[k]=true:=by simpa [List.getElem?_eq_getElem hk] using h
 rw [List.take_add_one,List.getElem?_eq_getElem hk,List.filter_append]
 show _++[xs[k]].filter g=_++[xs[k]]
 rw [List.filter_cons_of_pos h']
 rfl
theorem Uu (g:Int→Bool) {xs:List Int} {k:Nat} (hk:k<xs.length) (h:g (xs[k]?.getD 0)=false):(xs.take (k+1)).filter g=(xs.take k).filter g:=by
 have h':g xs[k]=false:=by simpa [List.getElem?_eq_getElem hk] using h
 rw [List.take_add_one,List.getElem?_eq_getElem hk,List.filter_append]
 show _++[xs[k]].filter g=_
 rw [List.filter_cons_of_neg (by rw [h'];decide)]
 exact List.append_nil _
theorem Yk {wr w6:World} {o rv2:Value} {fl kl:List Int} (H:IsT c tid A T B w0 fv s l rv dv w) (hb:Below w.heap.size w wr) (ho:wr.ownsRow w.heap.size 3 1 o fl.length (Co .i64 fl)) (hown6:w6.ownsRow wr.heap.size 3 1 rv2 kl.length (nZ kl))
  (htc6:w6.heap[T.tb]?=some (.cells ((Pj c tid T fv s rv dv).setIfInBounds 8 rv2) 104 (0,0))) (hov6:Over (fun k=>k=T.tb) wr w6) :
  IsT c tid A T B w0 fv {s with found:=fl,rt:=kl,moved:=false} l rv2 o (w6.setCell (Ψ T.tb 9) o):=by
 have ho1:Over (fun k=>k=T.tb) w6 (w6.setCell (Ψ T.tb 9) o):=(Over.refl (fun k=>k=T.tb) w6).set_ (Or.inl rfl) _
 have hT:=H.below hb
 have not6:∀ k cs,w6.heap[k]?=some (.cells cs 3 (0,0))→¬ k=T.tb:=fun k cs hk=>An hk htc6 Zd
 have ho6:w6.ownsRow w.heap.size 3 1 o fl.length (Co .i64 fl):=Bi ho hov6 (fun k hk e=>by
  obtain ⟨cs',h4⟩:=Ay ho hk
  exact An hT.tc h4 Zd e.symm)
 refine H.turn (((Over.of_below _ hb).then_ hov6 (fun k hk=>.inl (.inl hk))).then_ ho1 (fun k hk=>.inl (.inl hk))) (Ae htc6 9 o rfl) ?_ (.inl ⟨rfl,?_⟩) (fun k hk=>.inr ?_) (fun k hk=>.inr ?_) (fun k hk h=>?_) rfl rfl rfl rfl rfl rfl rfl rfl
 .have h9:w6.ownsRow 0 3 1 rv2 kl.length (Co .i64 kl):=by
   refine ⟨hown6.1,hown6.2.imp id ?_⟩
   rintro ⟨g,cp,cur,e,_,h⟩
   exact ⟨g,cp,cur,e,Nat.zero_le _,h⟩
  exact Bi h9 ho1 (fun k hk=>by obtain ⟨cs',h4⟩:=Ay h9 hk;exact not6 k cs' h4)
 .have h9:w6.ownsRow 0 3 1 o fl.length (Co .i64 fl):=by
   refine ⟨ho6.1,ho6.2.imp id ?_⟩
   rintro ⟨g,cp,cur,e,_,h⟩
   exact ⟨g,cp,cur,e,Nat.zero_le _,h⟩
  exact Bi h9 ho1 (fun k hk=>by obtain ⟨cs',h4⟩:=Ay h9 hk;exact not6 k cs' h4)
 .rcases hown6.2 with ⟨e,_⟩|⟨g,cp,cur,e,hge,_⟩
  .rw [e] at hk;simp [Value.ownBlock] at hk
  .rw [e] at hk
   have:g=k:=by simpa [Value.ownBlock] using hk
   have:=hb.size
   omega
 .rcases ho.2 with ⟨e,_⟩|⟨g,cp,cur,e,hge,_⟩
  .rw [e] at hk;simp [Value.ownBlock] at hk
  .rw [e] at hk
   have:g=k:=by simpa [Value.ownBlock] using hk
   omega
 .have h1:=Gk ho k h
  rcases hown6.2 with ⟨e,_⟩|⟨g,cp,cur,e,hge,_⟩
  .rw [e] at hk;simp [Value.ownBlock] at hk
  .rw [e] at hk
   have:g=k:=by simpa [Value.ownBlock] using hk
   omega
theorem IsT.pcS {fb cap:Nat} (H:IsT c tid A T B w0 (Tv fb fs.length cap) s (f::fs) rv dv w) (hp:f.pc+1<100000):IsT c tid A T B w0 (Tv fb fs.length cap) s ({f with pc:=f.pc+1}::fs) rv dv (w.setCell (Ψ fb (fs.length*12+1)) (Φ ((f.pc:Int)+1))):=
 ⟨H.all.pcS hp,((Over.refl (fun k=>k=fb) w).set_ (Or.inl rfl) _).blk H.tc (Ne.symm H.all.td_ne)⟩
theorem fD {k n:Nat} (h:k<n) (hn:n<1000):wrap64 ((k:Int)+1)=(k:Int)+1∧IntKind.i64.wrap ((k:Int)+1)=(k:Int)+1∧IntKind.u64.wrap ((k:Int)+1)=(k:Int)+1:=Ak (x:=(k:Int)+1) Zo Zo
theorem iL {n:Int} (h:0≤n∧n<65536):InU n:=⟨h.1,Zo⟩
theorem fZ {n:Int} (h:0≤n∧n<65536):IntKind.u64.wrap n=n:=by rw [IntKind.wrap_u64];omega
theorem jS (m:Nat):((m:Int)+1==0)=false:=by rw [beq_eq_false_iff_ne];omega
theorem bR (g:Int→Bool) {xs:List Int} {k:Nat} (h:xs.length<1000):(((xs.take k).filter g).length+1)*8≤140737488355328:=by
 have h1:=List.length_filter_le g (xs.take k)
 have h2:=List.length_take_le' k xs
 omega
theorem Nh {k n:Nat} (h:k<n):n-(intOf (Φ ((k:Int)+1))).toNat<n-(intOf (Φ (k:Int))).toNat:=by
 simp only [intOf]
 omega
theorem bO {P:Program} {rest:List Oper} {opsA:Array Oper} {o:Oper} {a:Act} {Q:Exit→Act→World→Prop} (hgd:o.guard=none) {t:TypeId} {p:Tmp} {v:Operand} (_ho:o.op=.store t (.tmp p) v) (hN:o.dst=none) (hI:Ix c tid A T B w0 fv s l w)
  (hrun:∀ dv,w.cell? (Ψ T.tb 9)=some dv→(∀ i,w.frozen? (Ψ T.tb i)=false)→(execOp a.eval o).run P w=.ok .skip (w.setCell (Ψ T.tb 9) (.slice none 0 0)))
  (h:∀ wT rv,IsT c tid A T B w0 fv {s with found:=[],moved:=false} l rv (.slice none 0 0) wT→wpList P opsA Q rest a wT):wpList P opsA Q (o::rest) a w:=by
 obtain ⟨rv,dv,hT⟩:=hI.toT
 exact Aw hgd _ho hN (hrun dv hT.c9.1 hT.c9.2) (fun w' e=>h w' rv (e▸nB hT))
end Go.Proofs.YtlejhikddkdanaaGreat.Mdl
namespace Go.Proofs.YtlejhikddkdanaaGreat.Mdl
open RowKit PTopSame Wk Fns YtlejhikddkdanaaGreatW.PrintWords YtlejhikddkdanaaGreatW.PrintLast YtlejhikddkdanaaGreatW.PrintMore
variable {c:Cf} {tid:Int} {A:Ad} {T:Td} {B:Nat→Prop} {w0 w w1 w2 w6 w7:World} {fv fv':Value} {s s':St} {l l' fs:List Fr} {f f':Fr} {fb cap ga gb qb thb:Nat}
section
attribute [local go_sem] Cs Cq De Dd Cj Ci Cr Cp Ig Fz Ez Ej Gu Ip Iq Hr Jm Pg Vh Ut
theorem tG (G:Good c tid) (hn:fs.length<900) {out:Out} (hp:(f.pc:Int)<c.sl*c.th) (hp0:f.pc≠0) (h:scan c s f fs=some out) (H:IT c tid A T B w0 fb cap s f fs w) :
  Calls Tryz.prog 90 #[Pt A.mb 0,Pt T.tb 0,Pt fb (fs.length*12)] w (RO c tid A T B w0 out):=by
 have F:=H.top_fits
 obtain ⟨fn,pc,r0,r1,r2,r3,r4,r5,r6,r7,r8,r9⟩:=f
 obtain ⟨-,upc,u0,u1,u2,u3,u4,u5,u6,u7,u8,u9⟩:=F
 dsimp only at upc u0 u1 u2 u3 u4 u5 u6 u7 u8 u9 hp
 have H0:=Az.m H
 clear H
 have hsl:=Es G
 have hth:=G.th
 have hmul:=Int.mul_le_mul hsl.2 hth.2 Zo Zo
 have hpos:0<c.sl*c.th:=Int.mul_pos Zo Zo
 have EM:=Ak (x:=c.sl*c.th) Zo Zo
 dsimp only at hp0
 have hx:=lR G (p:=(pc:Int)) Zo hp
 have h2:(if pc=0∨(s.moved=false∧s.found.length<1000) then Ao c (.haz ((pc:Int) / c.sl) ((pc:Int) % c.sl)) {s with found:=(if pc=0 then [] else s.found)++[i64 (s.mm (.haz ((pc:Int) / c.sl) ((pc:Int) % c.sl)))],moved:=false} ({fn:=fn,pc:=pc+1,r0:=r0,r1:=r1,r2:=r2,r3:=r3,r4:=r4,r5:=r5,r6:=r6,r7:=r7,r8:=r8,r9:=r9}::fs) else none)=some out:=by
  unfold scan at h
  rw [if_pos hp] at h
  exact h
 clear h
 have hmv:s.moved=false∧s.found.length<1000:=by
  split at h2
  .rename_i k
   exact k.elim (fun k=>absurd k hp0) id
  .cases h2
 rw [if_pos (.inr hmv),if_neg hp0,Ah hx] at h2
 cases h2
 have hin:=H0.o.mem_in hx
 have EWC:=fE hin
 have EWD:=Uw hin
 have ES:(c.sl=0)=False:=eq_false Zo
 have EQ:IntKind.i64.wrap ((pc:Int) / c.sl)=(pc:Int) / c.sl:=wrap_i64_ediv _ _ Zo Zo Zo
 have ER:(pc:Int).tmod c.sl=(pc:Int) % c.sl:=Int.tmod_eq_emod_of_nonneg Zo
 obtain ⟨i3,hi3,hz3,hs3,hb3⟩:=info_parts Sy
 have HMV:=Az.m hmv
 clear hmv hin
 have q0:=Aj (show ¬ (pc:Int)=0 by omega)
 have q1:=Ca hp
 have FX:=H0.o.tops;(try dsimp only at FX)
 have TX:=H0.o.tds;(try dsimp only at TX)
 go_enter Tryz.func90,Tryz.ntmps90
 go_wp2_with (first|((with_reducible refine Al (N:=4) rfl ?_);go_must (refine Am ?hg (N:=4) ?hd (cs:=#[Pt T.tb 0]) (t:=98) ?hr ?_;(case hd=>rfl);(case hg=>rfl);(case hr=>exact Λ18);intro ga hgb w6 hbox hbl;have HO:=Az.m (H0.o.same hbl).over;have HA6:=Az.m hbox;have HLT:=Az.m (Bb hbox);have hm:=H0.o.inner hbl (Nat.le_of_eq hgb.symm);clear H0;(try clear FX);(try clear TX);(try clear BX);(try clear AX);have H0:=Az.m hm;have NA:=hm.box_ne hbox Zd Zd;clear hbox hbl hgb hm))|((with_reducible refine Al (N:=6) rfl ?_);go_must (refine Am ?hg (N:=6) ?hd (cs:=#[Φ 0,Φ 0,Φ 0,Φ 0,Φ 0,Φ 0,Φ 0,Φ 0,Φ 0,Φ 0,Φ 0,Φ 0,Φ 0,Φ 0,Φ 0]) (t:=85) ?hr ?_;(case hd=>rfl);(case hg=>rfl);(case hr=>exact Λ18);intro gb hgb w5 hz hl5;have HZ:=Az.m hz;have HL:=Az.m hl5;have HG5:=Az.m (Nat.le_of_eq hgb.symm);obtain ⟨HZ0,HZ1,HZ2,HZ3,HZ4,HZ5,HZ6,HZ7,HZ8,HZ9,HZ10,HZ11,HZ12,HZ13,HZ14⟩:=Nq hz;have HZF:∀ i,w5.frozen? (Ψ gb i)=false:=Ab hz;(try clear FX);(try clear TX);(try clear BX);(try clear AX);clear hz hl5 hgb))|((with_reducible refine Bd (t:=85) (p:=6) rfl ?_);go_must (refine Aw (w1:=(((((((((((((((w5.setCell (Ψ gb 0) (Φ c.algo)).setCell (Ψ gb 1) (Φ c.th)).setCell (Ψ gb 2) (Φ c.ns)).setCell (Ψ gb 3) (Φ c.lv)).setCell (Ψ gb 4) (Φ c.batch)).setCell (Ψ gb 5) (Φ c.probes)).setCell (Ψ gb 6) (Φ c.scan)).setCell (Ψ gb 7) (Φ c.sl)).setCell (Ψ gb 8) (Φ c.wI)).setCell (Ψ gb 9) (Φ c.sE)).setCell (Ψ gb 10) (Φ c.hZ)).setCell (Ψ gb 11) (Φ c.lK)).setCell (Ψ gb 12) (Φ c.nA)).setCell (Ψ gb 13) (Φ c.tA)).setCell (Ψ gb 14) (Φ c.size))) ?hg (t:=85) (p:=6) rfl ?hn ?hr ?_;(case hg=>rfl);(case hn=>rfl);(case hr=>exact Λ22);intro w7 e6;have hbox:w7.heap[gb]?=some (.cells #[Φ c.algo,Φ c.th,Φ c.ns,Φ c.lv,Φ c.batch,Φ c.probes,Φ c.scan,Φ c.sl,Φ c.wI,Φ c.sE,Φ c.hZ,Φ c.lK,Φ c.nA,Φ c.tA,Φ c.size] 85 (0,0)):=Λ148;have hbl:=(Fh HL.o HG5.o e6);clear HZ HL e6 HZF HZ0 HZ1 HZ2 HZ3 HZ4 HZ5 HZ6 HZ7 HZ8 HZ9 HZ10 HZ11 HZ12 HZ13 HZ14 NA;have HA:=Az.m (Ac (H0.o.box HA6.o) hbl);have HB:=Az.m hbox;have HO2:=Az.m (H0.o.same hbl).over;have HGB:=Az.m (Nat.le_trans H0.o.over.size HG5.o);have hm:=H0.o.inner hbl HG5.o;clear H0 HG5;have H0:=Az.m hm;have NB:=hm.box_ne hbox Zd Zd;have NA:=hm.box_neA HLT.o HA.o Zd Zd;have NC:(ga=gb)=False:=eq_false (fun e=>by have:=HLT.o;have:=HGB.o;omega);have NC2:(gb=ga)=False:=eq_false (fun e=>by have:=HLT.o;have:=HGB.o;omega);clear HA6;(have FX:=hm.tops);(try dsimp only at FX);(have TX:=hm.tds);(try dsimp only at TX);(have BX:=hm.boxed15 HB.o);(have AX:=hm.boxedA1 HLT.o HA.o);clear hbox hbl hm))|(go_at_call 115;go_must ((with_reducible apply Cx);(case hI=>exact Λ126);intro HI;(with_reducible apply Calls.mono);(case h.h=>first|exact Λ52);rintro e w2 ⟨rfl,hm⟩;(try dsimp only at hm);(try clear FX);(try clear TX);(try clear BX);(try clear AX);clear HI H0;have H0:=Az.m hm;clear hm))|((with_reducible refine Dw (id:=2) ?_);go_must ((with_reducible apply Dh);(case hI=>exact Λ126);(intro w2 hm;(try dsimp only at hm);(try clear FX);(try clear TX);(try clear BX);(try clear AX);(try clear HX);clear H0;have H0:=Az.m hm;have HX:=Az.m hm;(have FX:=hm.tops);(try dsimp only at FX);(have TX:=hm.tds);(try dsimp only at TX);(have BX:=hm.boxed15 HB.o);(have AX:=hm.boxedA1 HLT.o HA.o);clear hm);go_region_held3 (fun W=>∀ i,W.cell? (Ψ gb i)=w2.cell? (Ψ gb i)) (first|assumption|exact fun _=>rfl|with_reducible exact Dm HB.o HX.o H0.o) (((with_reducible refine Ap ?_);go_must ((with_reducible apply Cx);(case hI=>exact Λ126);intro HI;(with_reducible apply Calls.mono);(case h.h=>first|exact Λ62|exact Λ87);rintro e w2 ⟨rfl,hm⟩;(try dsimp only at hm);(try clear FX);(try clear TX);(try clear BX);(try clear AX);clear HI H0;have H0:=Az.m hm;(have FX:=hm.tops);(try dsimp only at FX);(have TX:=hm.tds);(try dsimp only at TX);(have BX:=hm.boxed15 HB.o);(have AX:=hm.boxedA1 HLT.o HA.o);clear hm))))))
 with_reducible refine Dw (id:=6) ?_
 with_reducible apply fJ
 (case hI=>exact Λ126)
 intro w2 rv dv hT
 (try clear FX);(try clear TX);(try clear BX);(try clear AX);clear H0
 have HX:=Az.m hT
 have H0:=Az.m hT.drew
 have FX:=hT.all.tops;dsimp only at FX
 have BX:=hT.all.boxed15 HB.o
 have AX:=hT.all.boxedA1 HLT.o HA.o
 have NT:=hT.all.td_ne
 clear hT
 refine wp_region_held_drew (S:=(fun W=>W.cell? (Ψ ga 0)=some (Pt T.tb 0)∧(∀ i,W.cell? (Ψ gb i)=w2.cell? (Ψ gb i))∧W.cell? (Ψ fb (fs.length*12+1))=some (Φ (pc:Int)))) Zk ?_ (fun hZ8=>?_);(focus (exact ζ));(refine Δ 0 ?_);refine π ?_;(refine Δ 1 ?_);refine π ?_;(refine Δ 2 ?_);refine π ?_;(refine Δ 3 ?_);refine π ?_;(refine Δ 5 ?_);refine π ?_;(refine Δ 6 ?_);refine π ?_;(refine Δ 7 ?_);refine π ?_;(refine Δ 8 ?_);refine π ?_;(refine Δ 9 ?_);refine π ?_;(refine Δ 10 ?_);refine π ?_;(refine Δ 11 ?_);refine π ?_;(refine Δ 14 ?_);refine π ?_;(refine Δ 15 ?_);refine π ?_;(refine Δ 16 ?_);refine π ?_;(refine Δ 17 ?_);refine π ?_;(refine Δ 18 ?_);refine π ?_;refine wpAnyH_ready (rs:=[4,12]) Zk Zs ?_;refine AllReadyH.cons (o:=_) rfl ?_ (AllReadyH.cons (o:=_) rfl ?_ (AllReadyH.nil));(focus (intro K hK;have C9:=H0.o.c9;go_simp;refine hK.out _ _ ?_ (fun hZ9=>?_);(focus (exact ζ));clear hK K hZ8;have hZ8:=hZ9;clear hZ9;refine π ?_;refine wpAnyH_ready (rs:=[12]) Zk Zs ?_;refine AllReadyH.cons (o:=_) rfl (fun K hK=>?_) AllReadyH.nil;go_simp;((with_reducible refine Ap ?_);go_must (go_at_call 153;refine (It H0.o).mono ?_;rintro e w3 ⟨rfl,hm⟩;clear H0;have H0:=Az.m hm;clear hm));refine hK.out _ _ ?_ (fun hZ9=>?_);(focus (exact ζ));clear hK K hZ8;have hZ8:=hZ9;clear hZ9;refine π ?_;(refine Δ 13 ?_);refine π ?_;refine wpAnyH_ready (rs:=[19]) Zk Zs ?_;refine AllReadyH.cons (o:=_) rfl (fun K hK=>?_) AllReadyH.nil;go_simp;((with_reducible refine Ap ?_);go_must (go_at_call 153;refine (It H0.o).mono ?_;rintro e w3 ⟨rfl,hm⟩;clear H0;have H0:=Az.m hm;clear hm));refine hK.out _ _ ?_ (fun hZ9=>?_);(focus (exact ζ));clear hK K hZ8;have hZ8:=hZ9;clear hZ9;refine π ?_;(refine Δ 20 ?_);refine π ?_;refine wpAnyH_ready (rs:=[21]) Zk Zs ?_;refine AllReadyH.cons (o:=_) rfl (fun K hK=>?_) AllReadyH.nil;go_simp;((with_reducible refine Ap ?_);go_must (go_at_call 152;refine (Ql G hx H0.o).mono ?_;rintro e w3 ⟨rfl,hm⟩;clear H0;have H0:=Az.m hm;clear hm));refine hK.out _ _ ?_ (fun hZ9=>?_);(focus (exact ζ));clear hK K hZ8;have hZ8:=hZ9;clear hZ9;refine π ?_;refine wpAnyH_ready (rs:=[22]) Zk Zs ?_;refine AllReadyH.cons (o:=_) rfl (fun K hK=>?_) AllReadyH.nil;go_simp;((with_reducible refine Ap ?_);go_must (go_at_call 73;refine (Km G hx H0.o).mono ?_;rintro e w3 ⟨rfl,hm⟩;clear H0;have H0:=Az.m hm;clear hm));refine hK.out _ _ ?_ (fun hZ9=>?_);(focus (exact ζ));clear hK K hZ8;have hZ8:=hZ9;clear hZ9;refine π ?_;(refine Δ 23 ?_);refine π ?_;refine wpAnyH_ready (rs:=[24]) Zk Zs ?_;refine AllReadyH.cons (o:=_) rfl (fun K hK=>?_) AllReadyH.nil;obtain ⟨w4,hw4⟩:∃ w4,w4=w3:=⟨_,rfl⟩;subst hw4;have HA4:=Az.m H0.o;go_simp;(try (clear H0));have H0:=Az.m (HA4.o.alloc (.cells #[Φ (i64 (s.mm (.haz ((pc:Int) / c.sl) ((pc:Int) % c.sl))))] 3));refine hK.out _ _ ?_ (fun hZ9=>?_);(focus (exact ζ));clear hK K hZ8;have hZ8:=hZ9;clear hZ9;refine π ?_;refine wpAnyH_ready (rs:=[25]) Zk Zs ?_;refine AllReadyH.cons (o:=_) rfl (fun K hK=>?_) AllReadyH.nil;refine Bm _ rfl (.tmp 39) (.tmp 59) 35 rfl 0 3 i3 (Φ 0) 1 8 Tryz.underlying35 hi3 hz3 hs3 hb3 rfl Zd dv s.found.length (Co .i64 s.found) Λ153 ?hown (Ψ w4.heap.size 0) 1 1 [Φ (i64 (s.mm (.haz ((pc:Int) / c.sl) ((pc:Int) % c.sl))))] Λ153 rfl ?hnews Λ154 Zd Λ103 Λ102 (Nat.zero_le _) _ rfl ?_;(case hown=>exact Λ16);(case hnews=>exact Λ124);intro g1 cap1 w8 hown8 hg8 hat8 hlt8 hkp8;have K8:=Az.m (Hb HLT.o HA.o HB.o Zd HX.o H0.o hg8);have KT:=Az.m (Fx H0.o hown8 hg8 hat8);have C8:w8.cell? (Ψ T.tb 9)=some dv:=(Aa (Db H0.o hg8) 9).trans rfl;have F8:=Ab (Db H0.o hg8);clear hown8 hg8 hat8 hlt8 hkp8;refine hK.out _ _ ?_ (fun hZ9=>?_);(focus (exact ζ));clear hK K hZ8;have hZ8:=hZ9;clear hZ9;refine π ?_;(refine Δ 26 ?_);refine π ?_;(refine Δ 27 ?_);refine π ?_;refine wpAnyH_ready (rs:=[28]) Zk Zs ?_;refine AllReadyH.cons (o:=_) rfl (fun K hK=>?_) AllReadyH.nil;go_simp;refine hK.out _ _ ?_ (fun hZ9=>?_);(focus (exact ζ));clear hK K hZ8;have hZ8:=hZ9;clear hZ9;refine π ?_;clear hZ8;refine wpAnyH_done Zk ?_ _));rotate_left 1;(focus (intro K hK;go_simp;((with_reducible refine Ap ?_);go_must (go_at_call 153;refine (It H0.o).mono ?_;rintro e w3 ⟨rfl,hm⟩;clear H0;have H0:=Az.m hm;clear hm));refine hK.out _ _ ?_ (fun hZ9=>?_);(focus (exact ζ));clear hK K hZ8;have hZ8:=hZ9;clear hZ9;refine π ?_;(refine Δ 13 ?_);refine π ?_;refine wpAnyH_ready (rs:=[4,19]) Zk Zs ?_;refine AllReadyH.cons (o:=_) rfl ?_ (AllReadyH.cons (o:=_) rfl ?_ (AllReadyH.nil));(focus (intro K hK;have C9:=H0.o.c9;go_simp;refine hK.out _ _ ?_ (fun hZ9=>?_);(focus (exact ζ));clear hK K hZ8;have hZ8:=hZ9;clear hZ9;refine π ?_;refine wpAnyH_ready (rs:=[19]) Zk Zs ?_;refine AllReadyH.cons (o:=_) rfl (fun K hK=>?_) AllReadyH.nil;go_simp;((with_reducible refine Ap ?_);go_must (go_at_call 153;refine (It H0.o).mono ?_;rintro e w3 ⟨rfl,hm⟩;clear H0;have H0:=Az.m hm;clear hm));refine hK.out _ _ ?_ (fun hZ9=>?_);(focus (exact ζ));clear hK K hZ8;have hZ8:=hZ9;clear hZ9;refine π ?_;(refine Δ 20 ?_);refine π ?_;refine wpAnyH_ready (rs:=[21]) Zk Zs ?_;refine AllReadyH.cons (o:=_) rfl (fun K hK=>?_) AllReadyH.nil;go_simp;((with_reducible refine Ap ?_);go_must (go_at_call 152;refine (Ql G hx H0.o).mono ?_;rintro e w3 ⟨rfl,hm⟩;clear H0;have H0:=Az.m hm;clear hm));refine hK.out _ _ ?_ (fun hZ9=>?_);(focus (exact ζ));clear hK K hZ8;have hZ8:=hZ9;clear hZ9;refine π ?_;refine wpAnyH_ready (rs:=[22]) Zk Zs ?_;refine AllReadyH.cons (o:=_) rfl (fun K hK=>?_) AllReadyH.nil;go_simp;((with_reducible refine Ap ?_);go_must (go_at_call 73;refine (Km G hx H0.o).mono ?_;rintro e w3 ⟨rfl,hm⟩;clear H0;have H0:=Az.m hm;clear hm));refine hK.out _ _ ?_ (fun hZ9=>?_);(focus (exact ζ));clear hK K hZ8;have hZ8:=hZ9;clear hZ9;refine π ?_;(refine Δ 23 ?_);refine π ?_;refine wpAnyH_ready (rs:=[24]) Zk Zs ?_;refine AllReadyH.cons (o:=_) rfl (fun K hK=>?_) AllReadyH.nil;obtain ⟨w4,hw4⟩:∃ w4,w4=w3:=⟨_,rfl⟩;subst hw4;have HA4:=Az.m H0.o;go_simp;(try (clear H0));have H0:=Az.m (HA4.o.alloc (.cells #[Φ (i64 (s.mm (.haz ((pc:Int) / c.sl) ((pc:Int) % c.sl))))] 3));refine hK.out _ _ ?_ (fun hZ9=>?_);(focus (exact ζ));clear hK K hZ8;have hZ8:=hZ9;clear hZ9;refine π ?_;refine wpAnyH_ready (rs:=[25]) Zk Zs ?_;refine AllReadyH.cons (o:=_) rfl (fun K hK=>?_) AllReadyH.nil;refine Bm _ rfl (.tmp 39) (.tmp 59) 35 rfl 0 3 i3 (Φ 0) 1 8 Tryz.underlying35 hi3 hz3 hs3 hb3 rfl Zd dv s.found.length (Co .i64 s.found) Λ153 ?hown (Ψ w4.heap.size 0) 1 1 [Φ (i64 (s.mm (.haz ((pc:Int) / c.sl) ((pc:Int) % c.sl))))] Λ153 rfl ?hnews Λ154 Zd Λ103 Λ102 (Nat.zero_le _) _ rfl ?_;(case hown=>exact Λ16);(case hnews=>exact Λ124);intro g1 cap1 w8 hown8 hg8 hat8 hlt8 hkp8;have K8:=Az.m (Hb HLT.o HA.o HB.o Zd HX.o H0.o hg8);have KT:=Az.m (Fx H0.o hown8 hg8 hat8);have C8:w8.cell? (Ψ T.tb 9)=some dv:=(Aa (Db H0.o hg8) 9).trans rfl;have F8:=Ab (Db H0.o hg8);clear hown8 hg8 hat8 hlt8 hkp8;refine hK.out _ _ ?_ (fun hZ9=>?_);(focus (exact ζ));clear hK K hZ8;have hZ8:=hZ9;clear hZ9;refine π ?_;(refine Δ 26 ?_);refine π ?_;(refine Δ 27 ?_);refine π ?_;refine wpAnyH_ready (rs:=[28]) Zk Zs ?_;refine AllReadyH.cons (o:=_) rfl (fun K hK=>?_) AllReadyH.nil;go_simp;refine hK.out _ _ ?_ (fun hZ9=>?_);(focus (exact ζ));clear hK K hZ8;have hZ8:=hZ9;clear hZ9;refine π ?_;clear hZ8;refine wpAnyH_done Zk ?_ _));rotate_left 1;(focus (intro K hK;go_simp;((with_reducible refine Ap ?_);go_must (go_at_call 153;refine (It H0.o).mono ?_;rintro e w3 ⟨rfl,hm⟩;clear H0;have H0:=Az.m hm;clear hm));refine hK.out _ _ ?_ (fun hZ9=>?_);(focus (exact ζ));clear hK K hZ8;have hZ8:=hZ9;clear hZ9;refine π ?_;(refine Δ 20 ?_);refine π ?_;refine wpAnyH_ready (rs:=[4,21]) Zk Zs ?_;refine AllReadyH.cons (o:=_) rfl ?_ (AllReadyH.cons (o:=_) rfl ?_ (AllReadyH.nil));(focus (intro K hK;have C9:=H0.o.c9;go_simp;refine hK.out _ _ ?_ (fun hZ9=>?_);(focus (exact ζ));clear hK K hZ8;have hZ8:=hZ9;clear hZ9;refine π ?_;refine wpAnyH_ready (rs:=[21]) Zk Zs ?_;refine AllReadyH.cons (o:=_) rfl (fun K hK=>?_) AllReadyH.nil;go_simp;((with_reducible refine Ap ?_);go_must (go_at_call 152;refine (Ql G hx H0.o).mono ?_;rintro e w3 ⟨rfl,hm⟩;clear H0;have H0:=Az.m hm;clear hm));refine hK.out _ _ ?_ (fun hZ9=>?_);(focus (exact ζ));clear hK K hZ8;have hZ8:=hZ9;clear hZ9;refine π ?_;refine wpAnyH_ready (rs:=[22]) Zk Zs ?_;refine AllReadyH.cons (o:=_) rfl (fun K hK=>?_) AllReadyH.nil;go_simp;((with_reducible refine Ap ?_);go_must (go_at_call 73;refine (Km G hx H0.o).mono ?_;rintro e w3 ⟨rfl,hm⟩;clear H0;have H0:=Az.m hm;clear hm));refine hK.out _ _ ?_ (fun hZ9=>?_);(focus (exact ζ));clear hK K hZ8;have hZ8:=hZ9;clear hZ9;refine π ?_;(refine Δ 23 ?_);refine π ?_;refine wpAnyH_ready (rs:=[24]) Zk Zs ?_;refine AllReadyH.cons (o:=_) rfl (fun K hK=>?_) AllReadyH.nil;obtain ⟨w4,hw4⟩:∃ w4,w4=w3:=⟨_,rfl⟩;subst hw4;have HA4:=Az.m H0.o;go_simp;(try (clear H0));have H0:=Az.m (HA4.o.alloc (.cells #[Φ (i64 (s.mm (.haz ((pc:Int) / c.sl) ((pc:Int) % c.sl))))] 3));refine hK.out _ _ ?_ (fun hZ9=>?_);(focus (exact ζ));clear hK K hZ8;have hZ8:=hZ9;clear hZ9;refine π ?_;refine wpAnyH_ready (rs:=[25]) Zk Zs ?_;refine AllReadyH.cons (o:=_) rfl (fun K hK=>?_) AllReadyH.nil;refine Bm _ rfl (.tmp 39) (.tmp 59) 35 rfl 0 3 i3 (Φ 0) 1 8 Tryz.underlying35 hi3 hz3 hs3 hb3 rfl Zd dv s.found.length (Co .i64 s.found) Λ153 ?hown (Ψ w4.heap.size 0) 1 1 [Φ (i64 (s.mm (.haz ((pc:Int) / c.sl) ((pc:Int) % c.sl))))] Λ153 rfl ?hnews Λ154 Zd Λ103 Λ102 (Nat.zero_le _) _ rfl ?_;(case hown=>exact Λ16);(case hnews=>exact Λ124);intro g1 cap1 w8 hown8 hg8 hat8 hlt8 hkp8;have K8:=Az.m (Hb HLT.o HA.o HB.o Zd HX.o H0.o hg8);have KT:=Az.m (Fx H0.o hown8 hg8 hat8);have C8:w8.cell? (Ψ T.tb 9)=some dv:=(Aa (Db H0.o hg8) 9).trans rfl;have F8:=Ab (Db H0.o hg8);clear hown8 hg8 hat8 hlt8 hkp8;refine hK.out _ _ ?_ (fun hZ9=>?_);(focus (exact ζ));clear hK K hZ8;have hZ8:=hZ9;clear hZ9;refine π ?_;(refine Δ 26 ?_);refine π ?_;(refine Δ 27 ?_);refine π ?_;refine wpAnyH_ready (rs:=[28]) Zk Zs ?_;refine AllReadyH.cons (o:=_) rfl (fun K hK=>?_) AllReadyH.nil;go_simp;refine hK.out _ _ ?_ (fun hZ9=>?_);(focus (exact ζ));clear hK K hZ8;have hZ8:=hZ9;clear hZ9;refine π ?_;clear hZ8;refine wpAnyH_done Zk ?_ _));rotate_left 1;(focus (intro K hK;go_simp;((with_reducible refine Ap ?_);go_must (go_at_call 152;refine (Ql G hx H0.o).mono ?_;rintro e w3 ⟨rfl,hm⟩;clear H0;have H0:=Az.m hm;clear hm));refine hK.out _ _ ?_ (fun hZ9=>?_);(focus (exact ζ));clear hK K hZ8;have hZ8:=hZ9;clear hZ9;refine π ?_;refine wpAnyH_ready (rs:=[4,22]) Zk Zs ?_;refine AllReadyH.cons (o:=_) rfl ?_ (AllReadyH.cons (o:=_) rfl ?_ (AllReadyH.nil));(focus (intro K hK;have C9:=H0.o.c9;go_simp;refine hK.out _ _ ?_ (fun hZ9=>?_);(focus (exact ζ));clear hK K hZ8;have hZ8:=hZ9;clear hZ9;refine π ?_;refine wpAnyH_ready (rs:=[22]) Zk Zs ?_;refine AllReadyH.cons (o:=_) rfl (fun K hK=>?_) AllReadyH.nil;go_simp;((with_reducible refine Ap ?_);go_must (go_at_call 73;refine (Km G hx H0.o).mono ?_;rintro e w3 ⟨rfl,hm⟩;clear H0;have H0:=Az.m hm;clear hm));refine hK.out _ _ ?_ (fun hZ9=>?_);(focus (exact ζ));clear hK K hZ8;have hZ8:=hZ9;clear hZ9;refine π ?_;(refine Δ 23 ?_);refine π ?_;refine wpAnyH_ready (rs:=[24]) Zk Zs ?_;refine AllReadyH.cons (o:=_) rfl (fun K hK=>?_) AllReadyH.nil;obtain ⟨w4,hw4⟩:∃ w4,w4=w3:=⟨_,rfl⟩;subst hw4;have HA4:=Az.m H0.o;go_simp;(try (clear H0));have H0:=Az.m (HA4.o.alloc (.cells #[Φ (i64 (s.mm (.haz ((pc:Int) / c.sl) ((pc:Int) % c.sl))))] 3));refine hK.out _ _ ?_ (fun hZ9=>?_);(focus (exact ζ));clear hK K hZ8;have hZ8:=hZ9;clear hZ9;refine π ?_;refine wpAnyH_ready (rs:=[25]) Zk Zs ?_;refine AllReadyH.cons (o:=_) rfl (fun K hK=>?_) AllReadyH.nil;refine Bm _ rfl (.tmp 39) (.tmp 59) 35 rfl 0 3 i3 (Φ 0) 1 8 Tryz.underlying35 hi3 hz3 hs3 hb3 rfl Zd dv s.found.length (Co .i64 s.found) Λ153 ?hown (Ψ w4.heap.size 0) 1 1 [Φ (i64 (s.mm (.haz ((pc:Int) / c.sl) ((pc:Int) % c.sl))))] Λ153 rfl ?hnews Λ154 Zd Λ103 Λ102 (Nat.zero_le _) _ rfl ?_;(case hown=>exact Λ16);(case hnews=>exact Λ124);intro g1 cap1 w8 hown8 hg8 hat8 hlt8 hkp8;have K8:=Az.m (Hb HLT.o HA.o HB.o Zd HX.o H0.o hg8);have KT:=Az.m (Fx H0.o hown8 hg8 hat8);have C8:w8.cell? (Ψ T.tb 9)=some dv:=(Aa (Db H0.o hg8) 9).trans rfl;have F8:=Ab (Db H0.o hg8);clear hown8 hg8 hat8 hlt8 hkp8;refine hK.out _ _ ?_ (fun hZ9=>?_);(focus (exact ζ));clear hK K hZ8;have hZ8:=hZ9;clear hZ9;refine π ?_;(refine Δ 26 ?_);refine π ?_;(refine Δ 27 ?_);refine π ?_;refine wpAnyH_ready (rs:=[28]) Zk Zs ?_;refine AllReadyH.cons (o:=_) rfl (fun K hK=>?_) AllReadyH.nil;go_simp;refine hK.out _ _ ?_ (fun hZ9=>?_);(focus (exact ζ));clear hK K hZ8;have hZ8:=hZ9;clear hZ9;refine π ?_;clear hZ8;refine wpAnyH_done Zk ?_ _));rotate_left 1;(focus (intro K hK;go_simp;((with_reducible refine Ap ?_);go_must (go_at_call 73;refine (Km G hx H0.o).mono ?_;rintro e w3 ⟨rfl,hm⟩;clear H0;have H0:=Az.m hm;clear hm));refine hK.out _ _ ?_ (fun hZ9=>?_);(focus (exact ζ));clear hK K hZ8;have hZ8:=hZ9;clear hZ9;refine π ?_;(refine Δ 23 ?_);refine π ?_;refine wpAnyH_ready (rs:=[4,24]) Zk Zs ?_;refine AllReadyH.cons (o:=_) rfl ?_ (AllReadyH.cons (o:=_) rfl ?_ (AllReadyH.nil));(focus (intro K hK;have C9:=H0.o.c9;go_simp;refine hK.out _ _ ?_ (fun hZ9=>?_);(focus (exact ζ));clear hK K hZ8;have hZ8:=hZ9;clear hZ9;refine π ?_;refine wpAnyH_ready (rs:=[24]) Zk Zs ?_;refine AllReadyH.cons (o:=_) rfl (fun K hK=>?_) AllReadyH.nil;obtain ⟨w4,hw4⟩:∃ w4,w4=w3:=⟨_,rfl⟩;subst hw4;have HA4:=Az.m H0.o;go_simp;(try (clear H0));have H0:=Az.m (HA4.o.alloc (.cells #[Φ (i64 (s.mm (.haz ((pc:Int) / c.sl) ((pc:Int) % c.sl))))] 3));refine hK.out _ _ ?_ (fun hZ9=>?_);(focus (exact ζ));clear hK K hZ8;have hZ8:=hZ9;clear hZ9;refine π ?_;refine wpAnyH_ready (rs:=[25]) Zk Zs ?_;refine AllReadyH.cons (o:=_) rfl (fun K hK=>?_) AllReadyH.nil;refine Bm _ rfl (.tmp 39) (.tmp 59) 35 rfl 0 3 i3 (Φ 0) 1 8 Tryz.underlying35 hi3 hz3 hs3 hb3 rfl Zd dv s.found.length (Co .i64 s.found) Λ153 ?hown (Ψ w4.heap.size 0) 1 1 [Φ (i64 (s.mm (.haz ((pc:Int) / c.sl) ((pc:Int) % c.sl))))] Λ153 rfl ?hnews Λ154 Zd Λ103 Λ102 (Nat.zero_le _) _ rfl ?_;(case hown=>exact Λ16);(case hnews=>exact Λ124);intro g1 cap1 w8 hown8 hg8 hat8 hlt8 hkp8;have K8:=Az.m (Hb HLT.o HA.o HB.o Zd HX.o H0.o hg8);have KT:=Az.m (Fx H0.o hown8 hg8 hat8);have C8:w8.cell? (Ψ T.tb 9)=some dv:=(Aa (Db H0.o hg8) 9).trans rfl;have F8:=Ab (Db H0.o hg8);clear hown8 hg8 hat8 hlt8 hkp8;refine hK.out _ _ ?_ (fun hZ9=>?_);(focus (exact ζ));clear hK K hZ8;have hZ8:=hZ9;clear hZ9;refine π ?_;(refine Δ 26 ?_);refine π ?_;(refine Δ 27 ?_);refine π ?_;refine wpAnyH_ready (rs:=[28]) Zk Zs ?_;refine AllReadyH.cons (o:=_) rfl (fun K hK=>?_) AllReadyH.nil;go_simp;refine hK.out _ _ ?_ (fun hZ9=>?_);(focus (exact ζ));clear hK K hZ8;have hZ8:=hZ9;clear hZ9;refine π ?_;clear hZ8;refine wpAnyH_done Zk ?_ _));rotate_left 1;(focus (intro K hK;obtain ⟨w4,hw4⟩:∃ w4,w4=w3:=⟨_,rfl⟩;subst hw4;have HA4:=Az.m H0.o;go_simp;(try (clear H0));have H0:=Az.m (HA4.o.alloc (.cells #[Φ (i64 (s.mm (.haz ((pc:Int) / c.sl) ((pc:Int) % c.sl))))] 3));refine hK.out _ _ ?_ (fun hZ9=>?_);(focus (exact ζ));clear hK K hZ8;have hZ8:=hZ9;clear hZ9;refine π ?_;refine wpAnyH_ready (rs:=[4]) Zk Zs ?_;refine AllReadyH.cons (o:=_) rfl (fun K hK=>?_) AllReadyH.nil;have C9:=H0.o.c9;go_simp;refine hK.out _ _ ?_ (fun hZ9=>?_);(focus (exact ζ));clear hK K hZ8;have hZ8:=hZ9;clear hZ9;refine π ?_;refine wpAnyH_ready (rs:=[25]) Zk Zs ?_;refine AllReadyH.cons (o:=_) rfl (fun K hK=>?_) AllReadyH.nil;refine Bm _ rfl (.tmp 39) (.tmp 59) 35 rfl 0 3 i3 (Φ 0) 1 8 Tryz.underlying35 hi3 hz3 hs3 hb3 rfl Zd dv s.found.length (Co .i64 s.found) Λ153 ?hown (Ψ w4.heap.size 0) 1 1 [Φ (i64 (s.mm (.haz ((pc:Int) / c.sl) ((pc:Int) % c.sl))))] Λ153 rfl ?hnews Λ154 Zd Λ103 Λ102 (Nat.zero_le _) _ rfl ?_;(case hown=>exact Λ16);(case hnews=>exact Λ124);intro g1 cap1 w8 hown8 hg8 hat8 hlt8 hkp8;have K8:=Az.m (Hb HLT.o HA.o HB.o Zd HX.o H0.o hg8);have KT:=Az.m (Fx H0.o hown8 hg8 hat8);have C8:w8.cell? (Ψ T.tb 9)=some dv:=(Aa (Db H0.o hg8) 9).trans rfl;have F8:=Ab (Db H0.o hg8);clear hown8 hg8 hat8 hlt8 hkp8;refine hK.out _ _ ?_ (fun hZ9=>?_);(focus (exact ζ));clear hK K hZ8;have hZ8:=hZ9;clear hZ9;refine π ?_;(refine Δ 26 ?_);refine π ?_;(refine Δ 27 ?_);refine π ?_;refine wpAnyH_ready (rs:=[28]) Zk Zs ?_;refine AllReadyH.cons (o:=_) rfl (fun K hK=>?_) AllReadyH.nil;go_simp;refine hK.out _ _ ?_ (fun hZ9=>?_);(focus (exact ζ));clear hK K hZ8;have hZ8:=hZ9;clear hZ9;refine π ?_;clear hZ8;refine wpAnyH_done Zk ?_ _));rotate_left 1;skip));rotate_left 2;skip));rotate_left 3;skip));rotate_left 4;skip));rotate_left 5;skip
 all_goals (clear FX BX AX HX H0 K8 C8 F8;have H0:=Az.m KT.o.all;clear KT;have FX:=H0.o.tops;dsimp only at FX)
 all_goals go_wp2
 all_goals (first|go_end0|((try simp only [Exit.inBlock,Exit.then]);refine bodyPost_ret (results_none rfl _ _ _) rfl ?_))
 all_goals exact ⟨rfl,_,Ix.outer HO.o (Ix.outer HO2.o (Ix.to (H0.o.pcS (by show pc+1<100000;omega)) rfl rfl))⟩
namespace X103
theorem κ {p:Prop} (h:p:=by with_reducible first|(exact Λ51)|(exact Λ61)|(go_at_call 65;exact Ya HI)):p:=h
theorem ιl {p:Prop} (h:p:=by iterate 16 (try (first|with_reducible exact H0.o|with_reducible apply Ix.drew|with_reducible apply Ix.alloc))):p:=h
theorem ιl1 {p:Prop} (h:p:=by iterate 4 (try (first|exact H0.o|with_reducible apply Ix.drew))):p:=h
abbrev δ:List (Nat×Nat):=[(2,50)]
abbrev νa:=4
abbrev τa:=98
abbrev νb:=6
abbrev τb:=85
abbrev νc:=70
end X103
open X103 in
theorem qF (G:Good c tid) (hn:fs.length<900) {out:Out} (hp:c.sl*c.th<(f.pc:Int)) (hf:s.found=[]) (h:scan c s f fs=some out) (H:IT c tid A T B w0 fb cap s f fs w) :
  Calls Tryz.prog 90 #[Pt A.mb 0,Pt T.tb 0,Pt fb (fs.length*12)] w (RO c tid A T B w0 out):=by
 have F:=H.top_fits
 obtain ⟨fn,pc,r0,r1,r2,r3,r4,r5,r6,r7,r8,r9⟩:=f
 obtain ⟨-,upc,u0,u1,u2,u3,u4,u5,u6,u7,u8,u9⟩:=F
 dsimp only at upc u0 u1 u2 u3 u4 u5 u6 u7 u8 u9 hp
 have H0:=Az.m H
 clear H
 have hsl:=Es G
 have hth:=G.th
 have hmul:=Int.mul_le_mul hsl.2 hth.2 Zo Zo
 have hpos:0<c.sl*c.th:=Int.mul_pos Zo Zo
 have EM:=Ak (x:=c.sl*c.th) Zo Zo
 have h2:El s {fn:=fn,pc:=pc,r0:=r0,r1:=r1,r2:=r2,r3:=r3,r4:=r4,r5:=r5,r6:=r6,r7:=r7,r8:=r8,r9:=r9} fs=some out:=by
  unfold scan at h
  rw [if_neg Λ152,if_neg (by show ¬ (pc:Int)=_;omega)] at h
  exact h
 clear h
 unfold El at h2
 rw [hf] at h2
 cases h2
 have q0:=Aj (show ¬ (pc:Int)=0 by omega)
 have q1:=Bq (show ¬ (pc:Int)<c.sl*c.th by omega)
 have q2:=Aj (show ¬ (pc:Int)=c.sl*c.th by omega)
 have HF:=Az.m hf
 clear hf
 have FX:=H0.o.tops;(try dsimp only at FX)
 have TX:=H0.o.tds;(try dsimp only at TX)
 go_enter Tryz.func90,Tryz.ntmps90
 exact Θ15
namespace X104
theorem κ {p:Prop} (h:p:=by with_reducible first|(exact Λ51)|(exact Λ61)|(go_at_call 65;exact Ya HI)):p:=h
theorem ιl {p:Prop} (h:p:=by iterate 16 (try (first|with_reducible exact H0.o|with_reducible apply Ix.drew|with_reducible apply Ix.alloc))):p:=h
theorem ιl1 {p:Prop} (h:p:=by iterate 16 (try (first|with_reducible exact HS.o|exact (Yj H0.o HL2.o HCS.o (by have:=HL2.o;omega)).all|with_reducible apply Ix.drew|with_reducible apply Ix.alloc))):p:=h
theorem ιl2 {p:Prop} (h:p:=by iterate 4 (try (first|exact H0.o|with_reducible apply Ix.drew))):p:=h
abbrev δ:List (Nat×Nat):=[(2,50),(23,51)]
abbrev νa:=4
abbrev τa:=98
abbrev νb:=6
abbrev τb:=85
abbrev νc:=70
end X104
open X104 in
theorem qE (G:Good c tid) (hn:fs.length<900) {out:Out} {n:Int} {r:List Int} (hp:c.sl*c.th<(f.pc:Int)) (hf:s.found=n::r) (h:scan c s f fs=some out) (H:IT c tid A T B w0 fb cap s f fs w) :
  Calls Tryz.prog 90 #[Pt A.mb 0,Pt T.tb 0,Pt fb (fs.length*12)] w (RO c tid A T B w0 out):=by
 have F:=H.top_fits
 obtain ⟨fn,pc,r0,r1,r2,r3,r4,r5,r6,r7,r8,r9⟩:=f
 obtain ⟨-,upc,u0,u1,u2,u3,u4,u5,u6,u7,u8,u9⟩:=F
 dsimp only at upc u0 u1 u2 u3 u4 u5 u6 u7 u8 u9 hp
 have H0:=Az.m H
 clear H
 have hsl:=Es G
 have hth:=G.th
 have hmul:=Int.mul_le_mul hsl.2 hth.2 Zo Zo
 have hpos:0<c.sl*c.th:=Int.mul_pos Zo Zo
 have EM:=Ak (x:=c.sl*c.th) Zo Zo
 have h2:El s {fn:=fn,pc:=pc,r0:=r0,r1:=r1,r2:=r2,r3:=r3,r4:=r4,r5:=r5,r6:=r6,r7:=r7,r8:=r8,r9:=r9} fs=some out:=by
  unfold scan at h
  rw [if_neg Λ152,if_neg (by show ¬ (pc:Int)=_;omega)] at h
  exact h
 clear h
 unfold El at h2
 rw [hf] at h2
 have hn2:0≤n∧n<65536:=by
  dsimp only at h2
  split at h2
  .assumption
  .cases h2
 dsimp only at h2
 rw [if_pos hn2] at h2
 cases h2
 have un:InU n:=⟨hn2.1,Zo⟩
 have EU:IntKind.u64.wrap n=n:=by rw [IntKind.wrap_u64];omega
 have EL:((r.length:Int)+1==0)=false:=by rw [beq_eq_false_iff_ne];omega
 clear hn2
 have q0:=Aj (show ¬ (pc:Int)=0 by omega)
 have q1:=Bq (show ¬ (pc:Int)<c.sl*c.th by omega)
 have q2:=Aj (show ¬ (pc:Int)=c.sl*c.th by omega)
 have HF:=Az.m hf
 clear hf
 have FX:=H0.o.tops;(try dsimp only at FX)
 have TX:=H0.o.tds;(try dsimp only at TX)
 go_enter Tryz.func90,Tryz.ntmps90
 exact Θ16
theorem qH (G:Good c tid) (hn:fs.length<900) {out:Out} (hp:(f.pc:Int)=c.sl*c.th) (hfl:s.rt.filter (fun n=>!s.found.contains n)=[]) (h:scan c s f fs=some out) (H:IT c tid A T B w0 fb cap s f fs w) :
  Calls Tryz.prog 90 #[Pt A.mb 0,Pt T.tb 0,Pt fb (fs.length*12)] w (RO c tid A T B w0 out):=by
 have F:=H.top_fits
 obtain ⟨fn,pc,r0,r1,r2,r3,r4,r5,r6,r7,r8,r9⟩:=f
 obtain ⟨-,upc,u0,u1,u2,u3,u4,u5,u6,u7,u8,u9⟩:=F
 dsimp only at upc u0 u1 u2 u3 u4 u5 u6 u7 u8 u9 hp
 have H0:=Az.m H
 clear H
 have hsl:=Es G
 have hth:=G.th
 have hmul:=Int.mul_le_mul hsl.2 hth.2 Zo Zo
 have hpos:0<c.sl*c.th:=Int.mul_pos Zo Zo
 have EM:=Ak (x:=c.sl*c.th) Zo Zo
 have hp0:pc≠0:=Zo
 have h2:(if s.rt.length<1000∧s.found.length<1000 then El {s with found:=s.rt.filter (fun n=>!s.found.contains n),rt:=s.rt.filter (fun n=>s.found.contains n),moved:=false} {fn:=fn,pc:=pc+1,r0:=r0,r1:=r1,r2:=r2,r3:=r3,r4:=r4,r5:=r5,r6:=r6,r7:=r7,r8:=r8,r9:=r9} fs else none)=some out:=by
  unfold scan at h
  rw [if_neg Λ152,if_pos (by show (pc:Int)=_;omega)] at h
  dsimp only at h
  rw [if_neg hp0] at h
  exact h
 clear h
 have hl:s.rt.length<1000∧s.found.length<1000:=by
  split at h2
  .assumption
  .cases h2
 rw [if_pos hl,hfl] at h2
 unfold El at h2
 cases h2
 have HL:=Az.m hl
 have HFL:=Az.m hfl
 clear hl hfl
 have q0:=Aj (show ¬ (pc:Int)=0 by omega)
 have EM2:wrap64 (c.sl*c.th)=(pc:Int)∧IntKind.i64.wrap (c.sl*c.th)=(pc:Int):=by
  rw [hp]
  exact ⟨EM.1,EM.2.1⟩
 clear EM
 have EP:=Ak (x:=(pc:Int)+1) Zo Zo
 have HPB:=Az.m (show pc+1<100000 by omega)
 clear hp hp0
 have FX:=H0.o.tops;(try dsimp only at FX)
 have TX:=H0.o.tds;(try dsimp only at TX)
 go_enter Tryz.func90,Tryz.ntmps90
 go_wp2_with (first|((with_reducible refine Al (N:=4) rfl ?_);go_must (refine Am ?hg (N:=4) ?hd (cs:=#[Pt T.tb 0]) (t:=98) ?hr ?_;(case hd=>rfl);(case hg=>rfl);(case hr=>exact Λ18);intro ga hgb w6 hbox hbl;have HO:=Az.m (H0.o.same hbl).over;have HA6:=Az.m hbox;have HLT:=Az.m (Bb hbox);have hm:=H0.o.inner hbl (Nat.le_of_eq hgb.symm);clear H0;(try clear FX);(try clear TX);(try clear BX);(try clear AX);have H0:=Az.m hm;have NA:=hm.box_ne hbox Zd Zd;clear hbox hbl hgb hm))|((with_reducible refine Al (N:=6) rfl ?_);go_must (refine Am ?hg (N:=6) ?hd (cs:=#[Φ 0,Φ 0,Φ 0,Φ 0,Φ 0,Φ 0,Φ 0,Φ 0,Φ 0,Φ 0,Φ 0,Φ 0,Φ 0,Φ 0,Φ 0]) (t:=85) ?hr ?_;(case hd=>rfl);(case hg=>rfl);(case hr=>exact Λ18);intro gb hgb w5 hz hl5;have HZ:=Az.m hz;have HL:=Az.m hl5;have HG5:=Az.m (Nat.le_of_eq hgb.symm);obtain ⟨HZ0,HZ1,HZ2,HZ3,HZ4,HZ5,HZ6,HZ7,HZ8,HZ9,HZ10,HZ11,HZ12,HZ13,HZ14⟩:=Nq hz;have HZF:∀ i,w5.frozen? (Ψ gb i)=false:=Ab hz;(try clear FX);(try clear TX);(try clear BX);(try clear AX);clear hz hl5 hgb))|((with_reducible refine Bd (t:=85) (p:=6) rfl ?_);go_must (refine Aw (w1:=(((((((((((((((w5.setCell (Ψ gb 0) (Φ c.algo)).setCell (Ψ gb 1) (Φ c.th)).setCell (Ψ gb 2) (Φ c.ns)).setCell (Ψ gb 3) (Φ c.lv)).setCell (Ψ gb 4) (Φ c.batch)).setCell (Ψ gb 5) (Φ c.probes)).setCell (Ψ gb 6) (Φ c.scan)).setCell (Ψ gb 7) (Φ c.sl)).setCell (Ψ gb 8) (Φ c.wI)).setCell (Ψ gb 9) (Φ c.sE)).setCell (Ψ gb 10) (Φ c.hZ)).setCell (Ψ gb 11) (Φ c.lK)).setCell (Ψ gb 12) (Φ c.nA)).setCell (Ψ gb 13) (Φ c.tA)).setCell (Ψ gb 14) (Φ c.size))) ?hg (t:=85) (p:=6) rfl ?hn ?hr ?_;(case hg=>rfl);(case hn=>rfl);(case hr=>exact Λ22);intro w7 e6;have hbox:w7.heap[gb]?=some (.cells #[Φ c.algo,Φ c.th,Φ c.ns,Φ c.lv,Φ c.batch,Φ c.probes,Φ c.scan,Φ c.sl,Φ c.wI,Φ c.sE,Φ c.hZ,Φ c.lK,Φ c.nA,Φ c.tA,Φ c.size] 85 (0,0)):=Λ148;have hbl:=(Fh HL.o HG5.o e6);clear HZ HL e6 HZF HZ0 HZ1 HZ2 HZ3 HZ4 HZ5 HZ6 HZ7 HZ8 HZ9 HZ10 HZ11 HZ12 HZ13 HZ14 NA;have HA:=Az.m (Ac (H0.o.box HA6.o) hbl);have HB:=Az.m hbox;have HO2:=Az.m (H0.o.same hbl).over;have HGB:=Az.m (Nat.le_trans H0.o.over.size HG5.o);have hm:=H0.o.inner hbl HG5.o;clear H0 HG5;have H0:=Az.m hm;have NB:=hm.box_ne hbox Zd Zd;have NA:=hm.box_neA HLT.o HA.o Zd Zd;have NC:(ga=gb)=False:=eq_false (fun e=>by have:=HLT.o;have:=HGB.o;omega);have NC2:(gb=ga)=False:=eq_false (fun e=>by have:=HLT.o;have:=HGB.o;omega);clear HA6;(have FX:=hm.tops);(try dsimp only at FX);(have TX:=hm.tds);(try dsimp only at TX);(have BX:=hm.boxed15 HB.o);(have AX:=hm.boxedA1 HLT.o HA.o);clear hbox hbl hm))|(go_at_call 115;go_must ((with_reducible apply Cx);(case hI=>exact Λ126);intro HI;(with_reducible apply Calls.mono);(case h.h=>first|exact Λ52);rintro e w2 ⟨rfl,hm⟩;(try dsimp only at hm);(try clear FX);(try clear TX);(try clear BX);(try clear AX);clear HI H0;have H0:=Az.m hm;clear hm))|((with_reducible refine Dw (id:=2) ?_);go_must ((with_reducible apply Dh);(case hI=>exact Λ126);(intro w2 hm;(try dsimp only at hm);(try clear FX);(try clear TX);(try clear BX);(try clear AX);(try clear HX);clear H0;have H0:=Az.m hm;have HX:=Az.m hm;(have FX:=hm.tops);(try dsimp only at FX);(have TX:=hm.tds);(try dsimp only at TX);(have BX:=hm.boxed15 HB.o);(have AX:=hm.boxedA1 HLT.o HA.o);clear hm);go_region_held3 (fun W=>∀ i,W.cell? (Ψ gb i)=w2.cell? (Ψ gb i)) (first|assumption|exact fun _=>rfl|with_reducible exact Dm HB.o HX.o H0.o) (((with_reducible refine Ap ?_);go_must ((with_reducible apply Cx);(case hI=>exact Λ126);intro HI;(with_reducible apply Calls.mono);(case h.h=>first|exact Λ62|exact Λ87);rintro e w2 ⟨rfl,hm⟩;(try dsimp only at hm);(try clear FX);(try clear TX);(try clear BX);(try clear AX);clear HI H0;have H0:=Az.m hm;(have FX:=hm.tops);(try dsimp only at FX);(have TX:=hm.tds);(try dsimp only at TX);(have BX:=hm.boxed15 HB.o);(have AX:=hm.boxedA1 HLT.o HA.o);clear hm)))))|((with_reducible refine Al (N:=70) rfl ?_);go_must ((apply Ls (N:=70));(case hgd=>rfl);(case _hd=>rfl);(case hI=>exact Λ126);(case hrun=>first|(go_simp;done)|(go_simp;rfl));intro wT rv dv hT;(try clear FX);(try clear TX);(try clear BX);(try clear AX);clear H0;have H0:=Az.m hT;have FX:=hT.all.tops;(try dsimp only at FX);have AX:=hT.all.boxedA1 HLT.o HA.o;have C8:wT.cell? (Ψ T.tb 8)=some rv:=(Aa hT.tc 8).trans rfl;have C9:=hT.c9;clear hT))|(go_at_call 158;go_must (refine (aN T.tb 0 s.rt rv _ C8 H0.o.rows.1 Λ100).mono ?_;rintro e w3 ⟨v1,rfl,hown,hbl⟩;obtain ⟨a1,c1,e1,hc1⟩:=Nd hown;subst e1;have H3:=Az.m (H0.o.below hbl);have HC1:=Az.m hc1;have HB3:=Az.m hbl;(try clear FX);(try clear AX);(try clear C9);(try clear C8);have FX:=H3.o.all.tops;(try dsimp only at FX);have AX:=H3.o.all.boxedA1 HLT.o HA.o;clear H0 hown hbl hc1)))
 have CLE:s.rt.length<1000:=HL.o.1
 have HLEN:=Az.m CLE
 clear CLE
 go_loopw [9,82] (fun o i wr=>∃ k:Nat,i=Φ k∧k≤s.rt.length∧Az (wr.ownsRow w3.heap.size 3 1 o ((s.rt.take k).filter (fun n=>!s.found.contains n)).length (Co .i64 ((s.rt.take k).filter (fun n=>!s.found.contains n))))∧Az (Below w3.heap.size w3 wr)) (fun _ i _=>s.rt.length-(intOf i).toNat)
 case atStart=>exact ⟨0,rfl,Nat.zero_le _,⟨World.ownsRow_nil _ _ _ _⟩,⟨Below.refl _ _⟩⟩
 case round=>
  obtain ⟨k,rfl,hk,HO9,HBW⟩:=hrel
  have HTR:=Az.m (H3.o.below HBW.o)
  (try clear FX);(try clear AX)
  have FX:=HTR.o.all.tops;(try dsimp only at FX)
  have AX:=HTR.o.all.boxedA1 HLT.o HA.o
  by_cases hkm:k<s.rt.length
  .have b0:((k:Int)<(s.rt.length:Int))=True:=eq_true (Int.ofNat_lt.2 hkm)
   have b1:(k<s.rt.length)=True:=eq_true hkm
   have w1:=fD hkm HL.o.1
   obtain ⟨bb,hbb,rfl,hcb⟩:=HC1.o k hkm
   have ck:wr.cell? (Ψ bb k)=some (Φ (s.rt[k]?.getD 0)):=(HBW.o.cell (p:=(Ψ bb k)) (World.block_lt_of_cell? w3 _ hcb)).trans hcb
   have HAM:=Az.m (Nn (s.rt[k]?.getD 0) Λ101 AX.1 HTR.o)
   have HIT:=Az.m (Yg (fun n=>!s.found.contains n) hkm)
   have HMI:=Az.m (Uu (fun n=>!s.found.contains n) hkm)
   clear hcb hbb
   generalize hu:s.rt[k]?.getD 0=x at ck HAM HIT HMI
   clear hu
   cases hq:s.found.contains x
   .rw [hq] at HAM
    have HQ:=Az.m hq
    clear hq
    go_wp2_with (first|(go_at_call 156;refine HAM.o.mono ?_;rintro e w4 ⟨rfl,rfl⟩)|((with_reducible refine Al (N:=93) rfl ?_);go_must (refine Ii (W:=wr) (w0:=w3) w3.heap.size rfl (.tmp 90) (.tmp 92) 35 3 .i64 8 rfl Tryz.underlying35 Sy Zd u9 ((s.rt.take k).filter (fun n=>!s.found.contains n)) x rfl rfl HO9.o HBW.o HBW.o.size (bR _ HL.o.1) ?_;intro v5 w5 h51 h52 h53 h54;have K51:=Az.m h51;have K52:=Az.m h52;clear h51 h52 h53 h54)))
    refine ⟨⟨k+1,Zs,Nat.succ_le_of_lt hkm,⟨?_⟩,⟨?_⟩⟩,Nh hkm⟩
    .rw [HIT.o (by rw [HQ.o];rfl)]
     exact K51.o
    .exact K52.o
   .rw [hq] at HAM
    have HQ:=Az.m hq
    clear hq
    go_wp2_with (first|(go_at_call 156;refine HAM.o.mono ?_;rintro e w4 ⟨rfl,rfl⟩))
    refine ⟨⟨k+1,Zs,Nat.succ_le_of_lt hkm,⟨?_⟩,HBW⟩,Nh hkm⟩
    rw [HMI.o (by rw [HQ.o];rfl)]
    exact HO9.o
  .have b0:((k:Int)<(s.rt.length:Int))=False:=eq_false (fun h=>hkm (Int.ofNat_lt.1 h))
   have hk2:k=s.rt.length:=Nat.le_antisymm hk (Nat.le_of_not_lt hkm)
   have ho9:=HO9.o
   rw [hk2,List.take_length,HFL.o] at ho9
   clear HO9
   have HO9:=Az.m ho9
   have HSL:Az (∃ a n cp,u9=.slice a n cp):=⟨by obtain ⟨a,cp,e,_⟩:=Nd ho9;exact ⟨a,_,cp,e⟩⟩
   clear ho9 hkm hk2
   go_wp2_with (first|(go_at_call 159;go_must (refine (Tc T.tb ga (fun n=>s.found.contains n) s.rt rv _ _ Λ100 HTR.o.tc rfl (bA HTR.o.rows.1) (fun W5 x5 hb5=>Nn x5 Λ101 Λ15 (HTR.o.below hb5))).mono ?_;rintro e w6 ⟨⟨v99,rfl⟩,rv2,hown6,htc6,hov6⟩;have K6A:=Az.m hown6;have K6B:=Az.m htc6;have K6C:=Az.m hov6;(try clear FX);(try clear AX);(try clear C9);have C9:w6.cell? (Ψ T.tb 9)=some dv:=(Aa htc6 9).trans rfl;have F9:=Ab htc6;have AX:w6.cell? (Ψ ga 0)=some (Pt T.tb 0):=hov6.cell (HTR.o.all.boxedA1 HLT.o HA.o).1 (fun e=>NA.2.2.2.mp e);have FP:w6.cell? (Ψ fb (fs.length*12+1))=some (Φ (pc:Int)):=hov6.cell HTR.o.all.tops.2.1 HTR.o.all.td_ne;have FF:∀ i,w6.frozen? (Ψ fb i)=false:=Λ130;clear hown6 htc6 hov6))|((with_reducible refine Bd (t:=35) (p:=103) rfl ?_);go_must (refine Aw (w1:=w6.setCell (Ψ T.tb 9) u9) ?hg (t:=35) (p:=103) rfl ?hn ?hr ?_;(case hg=>rfl);(case hn=>rfl);(case hr=>exact Λ129);intro w7 e7;have H7:=Az.m (Yk H3.o HBW.o HO9.o K6A.o K6B.o K6C.o);rw [← e7] at H7;(try clear AX);(try clear C9);clear F9 FP FF;have FX:=H7.o.all.tops;(try dsimp only at FX);have AX:=H7.o.all.boxedA1 HLT.o HA.o;clear e7))|((with_reducible refine Bd (t:=3) (p:=110) rfl ?_);go_must (refine Aw (w1:=w7.setCell (Ψ fb (fs.length*12+1)) (Φ ((pc:Int)+1))) ?hg (t:=3) (p:=110) rfl ?hn ?hr ?_;(case hg=>rfl);(case hn=>rfl);(case hr=>exact Λ20);intro w8 e8;have H0:=Az.m (H7.o.pcS HPB.o);rw [← e8] at H0;(try clear FX);(try clear AX);clear e8;have hT:=H0.o;have AX:=hT.all.boxedA1 HLT.o HA.o;obtain ⟨a0,cp0,e0⟩:=Vj hT rfl;subst e0;have C9:=hT.c9;(try simp only [List.length_cons,List.length_nil] at C9);clear hT))|(go_at_call 41;refine (mK Zo H0.o.all).mono ?_;rintro e w3 ⟨rfl,hm⟩;(try clear FX);(try clear AX);(try clear C9);clear H0;have H0:=Az.m hm;clear hm))
   all_goals (first|go_end0|((try simp only [Exit.inBlock,Exit.then]);refine bodyPost_ret (results_none rfl _ _ _) rfl ?_))
   all_goals exact ⟨rfl,_,Ix.outer HO.o (Ix.outer HO2.o (Ix.to Λ127 rfl rfl))⟩
theorem qG (G:Good c tid) (hn:fs.length<900) {out:Out} {n:Int} {r:List Int} (hp:(f.pc:Int)=c.sl*c.th) (hfl:s.rt.filter (fun n=>!s.found.contains n)=n::r) (h:scan c s f fs=some out) (H:IT c tid A T B w0 fb cap s f fs w) :
  Calls Tryz.prog 90 #[Pt A.mb 0,Pt T.tb 0,Pt fb (fs.length*12)] w (RO c tid A T B w0 out):=by
 have F:=H.top_fits
 obtain ⟨fn,pc,r0,r1,r2,r3,r4,r5,r6,r7,r8,r9⟩:=f
 obtain ⟨-,upc,u0,u1,u2,u3,u4,u5,u6,u7,u8,u9⟩:=F
 dsimp only at upc u0 u1 u2 u3 u4 u5 u6 u7 u8 u9 hp
 have H0:=Az.m H
 clear H
 have hsl:=Es G
 have hth:=G.th
 have hmul:=Int.mul_le_mul hsl.2 hth.2 Zo Zo
 have hpos:0<c.sl*c.th:=Int.mul_pos Zo Zo
 have EM:=Ak (x:=c.sl*c.th) Zo Zo
 have hp0:pc≠0:=Zo
 have h2:(if s.rt.length<1000∧s.found.length<1000 then El {s with found:=s.rt.filter (fun n=>!s.found.contains n),rt:=s.rt.filter (fun n=>s.found.contains n),moved:=false} {fn:=fn,pc:=pc+1,r0:=r0,r1:=r1,r2:=r2,r3:=r3,r4:=r4,r5:=r5,r6:=r6,r7:=r7,r8:=r8,r9:=r9} fs else none)=some out:=by
  unfold scan at h
  rw [if_neg Λ152,if_pos (by show (pc:Int)=_;omega)] at h
  dsimp only at h
  rw [if_neg hp0] at h
  exact h
 clear h
 have hl:s.rt.length<1000∧s.found.length<1000:=by
  split at h2
  .assumption
  .cases h2
 rw [if_pos hl,hfl] at h2
 unfold El at h2
 have hn2:0≤n∧n<65536:=by
  dsimp only at h2
  split at h2
  .assumption
  .cases h2
 dsimp only at h2
 rw [if_pos hn2] at h2
 cases h2
 have un:InU n:=iL hn2
 have EU:=fZ hn2
 have EL:=jS r.length
 clear hn2
 have HL:=Az.m hl
 have HFL:=Az.m hfl
 clear hl hfl
 have q0:=Aj (show ¬ (pc:Int)=0 by omega)
 have EM2:wrap64 (c.sl*c.th)=(pc:Int)∧IntKind.i64.wrap (c.sl*c.th)=(pc:Int):=by
  rw [hp]
  exact ⟨EM.1,EM.2.1⟩
 clear EM
 have EP:=Ak (x:=(pc:Int)+1) Zo Zo
 have HPB:=Az.m (show pc+1<100000 by omega)
 clear hp hp0
 have FX:=H0.o.tops;(try dsimp only at FX)
 have TX:=H0.o.tds;(try dsimp only at TX)
 go_enter Tryz.func90,Tryz.ntmps90
 go_wp2_with (first|((with_reducible refine Al (N:=4) rfl ?_);go_must (refine Am ?hg (N:=4) ?hd (cs:=#[Pt T.tb 0]) (t:=98) ?hr ?_;(case hd=>rfl);(case hg=>rfl);(case hr=>exact Λ18);intro ga hgb w6 hbox hbl;have HO:=Az.m (H0.o.same hbl).over;have HA6:=Az.m hbox;have HLT:=Az.m (Bb hbox);have hm:=H0.o.inner hbl (Nat.le_of_eq hgb.symm);clear H0;(try clear FX);(try clear TX);(try clear BX);(try clear AX);have H0:=Az.m hm;have NA:=hm.box_ne hbox Zd Zd;clear hbox hbl hgb hm))|((with_reducible refine Al (N:=6) rfl ?_);go_must (refine Am ?hg (N:=6) ?hd (cs:=#[Φ 0,Φ 0,Φ 0,Φ 0,Φ 0,Φ 0,Φ 0,Φ 0,Φ 0,Φ 0,Φ 0,Φ 0,Φ 0,Φ 0,Φ 0]) (t:=85) ?hr ?_;(case hd=>rfl);(case hg=>rfl);(case hr=>exact Λ18);intro gb hgb w5 hz hl5;have HZ:=Az.m hz;have HL:=Az.m hl5;have HG5:=Az.m (Nat.le_of_eq hgb.symm);obtain ⟨HZ0,HZ1,HZ2,HZ3,HZ4,HZ5,HZ6,HZ7,HZ8,HZ9,HZ10,HZ11,HZ12,HZ13,HZ14⟩:=Nq hz;have HZF:∀ i,w5.frozen? (Ψ gb i)=false:=Ab hz;(try clear FX);(try clear TX);(try clear BX);(try clear AX);clear hz hl5 hgb))|((with_reducible refine Bd (t:=85) (p:=6) rfl ?_);go_must (refine Aw (w1:=(((((((((((((((w5.setCell (Ψ gb 0) (Φ c.algo)).setCell (Ψ gb 1) (Φ c.th)).setCell (Ψ gb 2) (Φ c.ns)).setCell (Ψ gb 3) (Φ c.lv)).setCell (Ψ gb 4) (Φ c.batch)).setCell (Ψ gb 5) (Φ c.probes)).setCell (Ψ gb 6) (Φ c.scan)).setCell (Ψ gb 7) (Φ c.sl)).setCell (Ψ gb 8) (Φ c.wI)).setCell (Ψ gb 9) (Φ c.sE)).setCell (Ψ gb 10) (Φ c.hZ)).setCell (Ψ gb 11) (Φ c.lK)).setCell (Ψ gb 12) (Φ c.nA)).setCell (Ψ gb 13) (Φ c.tA)).setCell (Ψ gb 14) (Φ c.size))) ?hg (t:=85) (p:=6) rfl ?hn ?hr ?_;(case hg=>rfl);(case hn=>rfl);(case hr=>exact Λ22);intro w7 e6;have hbox:w7.heap[gb]?=some (.cells #[Φ c.algo,Φ c.th,Φ c.ns,Φ c.lv,Φ c.batch,Φ c.probes,Φ c.scan,Φ c.sl,Φ c.wI,Φ c.sE,Φ c.hZ,Φ c.lK,Φ c.nA,Φ c.tA,Φ c.size] 85 (0,0)):=Λ148;have hbl:=(Fh HL.o HG5.o e6);clear HZ HL e6 HZF HZ0 HZ1 HZ2 HZ3 HZ4 HZ5 HZ6 HZ7 HZ8 HZ9 HZ10 HZ11 HZ12 HZ13 HZ14 NA;have HA:=Az.m (Ac (H0.o.box HA6.o) hbl);have HB:=Az.m hbox;have HO2:=Az.m (H0.o.same hbl).over;have HGB:=Az.m (Nat.le_trans H0.o.over.size HG5.o);have hm:=H0.o.inner hbl HG5.o;clear H0 HG5;have H0:=Az.m hm;have NB:=hm.box_ne hbox Zd Zd;have NA:=hm.box_neA HLT.o HA.o Zd Zd;have NC:(ga=gb)=False:=eq_false (fun e=>by have:=HLT.o;have:=HGB.o;omega);have NC2:(gb=ga)=False:=eq_false (fun e=>by have:=HLT.o;have:=HGB.o;omega);clear HA6;(have FX:=hm.tops);(try dsimp only at FX);(have TX:=hm.tds);(try dsimp only at TX);(have BX:=hm.boxed15 HB.o);(have AX:=hm.boxedA1 HLT.o HA.o);clear hbox hbl hm))|(go_at_call 115;go_must ((with_reducible apply Cx);(case hI=>exact Λ126);intro HI;(with_reducible apply Calls.mono);(case h.h=>first|exact Λ52);rintro e w2 ⟨rfl,hm⟩;(try dsimp only at hm);(try clear FX);(try clear TX);(try clear BX);(try clear AX);clear HI H0;have H0:=Az.m hm;clear hm))|((with_reducible refine Dw (id:=2) ?_);go_must ((with_reducible apply Dh);(case hI=>exact Λ126);(intro w2 hm;(try dsimp only at hm);(try clear FX);(try clear TX);(try clear BX);(try clear AX);(try clear HX);clear H0;have H0:=Az.m hm;have HX:=Az.m hm;(have FX:=hm.tops);(try dsimp only at FX);(have TX:=hm.tds);(try dsimp only at TX);(have BX:=hm.boxed15 HB.o);(have AX:=hm.boxedA1 HLT.o HA.o);clear hm);go_region_held3 (fun W=>∀ i,W.cell? (Ψ gb i)=w2.cell? (Ψ gb i)) (first|assumption|exact fun _=>rfl|with_reducible exact Dm HB.o HX.o H0.o) (((with_reducible refine Ap ?_);go_must ((with_reducible apply Cx);(case hI=>exact Λ126);intro HI;(with_reducible apply Calls.mono);(case h.h=>first|exact Λ62|exact Λ87);rintro e w2 ⟨rfl,hm⟩;(try dsimp only at hm);(try clear FX);(try clear TX);(try clear BX);(try clear AX);clear HI H0;have H0:=Az.m hm;(have FX:=hm.tops);(try dsimp only at FX);(have TX:=hm.tds);(try dsimp only at TX);(have BX:=hm.boxed15 HB.o);(have AX:=hm.boxedA1 HLT.o HA.o);clear hm)))))|((with_reducible refine Al (N:=70) rfl ?_);go_must ((apply Ls (N:=70));(case hgd=>rfl);(case _hd=>rfl);(case hI=>exact Λ126);(case hrun=>first|(go_simp;done)|(go_simp;rfl));intro wT rv dv hT;(try clear FX);(try clear TX);(try clear BX);(try clear AX);clear H0;have H0:=Az.m hT;have FX:=hT.all.tops;(try dsimp only at FX);have AX:=hT.all.boxedA1 HLT.o HA.o;have C8:wT.cell? (Ψ T.tb 8)=some rv:=(Aa hT.tc 8).trans rfl;have C9:=hT.c9;clear hT))|(go_at_call 158;go_must (refine (aN T.tb 0 s.rt rv _ C8 H0.o.rows.1 Λ100).mono ?_;rintro e w3 ⟨v1,rfl,hown,hbl⟩;obtain ⟨a1,c1,e1,hc1⟩:=Nd hown;subst e1;have H3:=Az.m (H0.o.below hbl);have HC1:=Az.m hc1;have HB3:=Az.m hbl;(try clear FX);(try clear AX);(try clear C9);(try clear C8);have FX:=H3.o.all.tops;(try dsimp only at FX);have AX:=H3.o.all.boxedA1 HLT.o HA.o;clear H0 hown hbl hc1)))
 have CLE:s.rt.length<1000:=HL.o.1
 have HLEN:=Az.m CLE
 clear CLE
 go_loopw [9,82] (fun o i wr=>∃ k:Nat,i=Φ k∧k≤s.rt.length∧Az (wr.ownsRow w3.heap.size 3 1 o ((s.rt.take k).filter (fun n=>!s.found.contains n)).length (Co .i64 ((s.rt.take k).filter (fun n=>!s.found.contains n))))∧Az (Below w3.heap.size w3 wr)) (fun _ i _=>s.rt.length-(intOf i).toNat)
 case atStart=>exact ⟨0,rfl,Nat.zero_le _,⟨World.ownsRow_nil _ _ _ _⟩,⟨Below.refl _ _⟩⟩
 case round=>
  obtain ⟨k,rfl,hk,HO9,HBW⟩:=hrel
  have HTR:=Az.m (H3.o.below HBW.o)
  (try clear FX);(try clear AX)
  have FX:=HTR.o.all.tops;(try dsimp only at FX)
  have AX:=HTR.o.all.boxedA1 HLT.o HA.o
  by_cases hkm:k<s.rt.length
  .have b0:((k:Int)<(s.rt.length:Int))=True:=eq_true (Int.ofNat_lt.2 hkm)
   have b1:(k<s.rt.length)=True:=eq_true hkm
   have w1:=fD hkm HL.o.1
   obtain ⟨bb,hbb,rfl,hcb⟩:=HC1.o k hkm
   have ck:wr.cell? (Ψ bb k)=some (Φ (s.rt[k]?.getD 0)):=(HBW.o.cell (p:=(Ψ bb k)) (World.block_lt_of_cell? w3 _ hcb)).trans hcb
   have HAM:=Az.m (Nn (s.rt[k]?.getD 0) Λ101 AX.1 HTR.o)
   have HIT:=Az.m (Yg (fun n=>!s.found.contains n) hkm)
   have HMI:=Az.m (Uu (fun n=>!s.found.contains n) hkm)
   clear hcb hbb
   generalize hu:s.rt[k]?.getD 0=x at ck HAM HIT HMI
   clear hu
   cases hq:s.found.contains x
   .rw [hq] at HAM
    have HQ:=Az.m hq
    clear hq
    go_wp2_with (first|(go_at_call 156;refine HAM.o.mono ?_;rintro e w4 ⟨rfl,rfl⟩)|((with_reducible refine Al (N:=93) rfl ?_);go_must (refine Ii (W:=wr) (w0:=w3) w3.heap.size rfl (.tmp 90) (.tmp 92) 35 3 .i64 8 rfl Tryz.underlying35 Sy Zd u9 ((s.rt.take k).filter (fun n=>!s.found.contains n)) x rfl rfl HO9.o HBW.o HBW.o.size (bR _ HL.o.1) ?_;intro v5 w5 h51 h52 h53 h54;have K51:=Az.m h51;have K52:=Az.m h52;clear h51 h52 h53 h54)))
    refine ⟨⟨k+1,Zs,Nat.succ_le_of_lt hkm,⟨?_⟩,⟨?_⟩⟩,Nh hkm⟩
    .rw [HIT.o (by rw [HQ.o];rfl)]
     exact K51.o
    .exact K52.o
   .rw [hq] at HAM
    have HQ:=Az.m hq
    clear hq
    go_wp2_with (first|(go_at_call 156;refine HAM.o.mono ?_;rintro e w4 ⟨rfl,rfl⟩))
    refine ⟨⟨k+1,Zs,Nat.succ_le_of_lt hkm,⟨?_⟩,HBW⟩,Nh hkm⟩
    rw [HMI.o (by rw [HQ.o];rfl)]
    exact HO9.o
  .have b0:((k:Int)<(s.rt.length:Int))=False:=eq_false (fun h=>hkm (Int.ofNat_lt.1 h))
   have hk2:k=s.rt.length:=Nat.le_antisymm hk (Nat.le_of_not_lt hkm)
   have ho9:=HO9.o
   rw [hk2,List.take_length,HFL.o] at ho9
   clear HO9
   have HO9:=Az.m ho9
   have HSL:Az (∃ a n cp,u9=.slice a n cp):=⟨by obtain ⟨a,cp,e,_⟩:=Nd ho9;exact ⟨a,_,cp,e⟩⟩
   clear ho9 hkm hk2
   go_wp2_with (first|(go_at_call 159;go_must (refine (Tc T.tb ga (fun n=>s.found.contains n) s.rt rv _ _ Λ100 HTR.o.tc rfl (bA HTR.o.rows.1) (fun W5 x5 hb5=>Nn x5 Λ101 Λ15 (HTR.o.below hb5))).mono ?_;rintro e w6 ⟨⟨v99,rfl⟩,rv2,hown6,htc6,hov6⟩;have K6A:=Az.m hown6;have K6B:=Az.m htc6;have K6C:=Az.m hov6;(try clear FX);(try clear AX);(try clear C9);have C9:w6.cell? (Ψ T.tb 9)=some dv:=(Aa htc6 9).trans rfl;have F9:=Ab htc6;have AX:w6.cell? (Ψ ga 0)=some (Pt T.tb 0):=hov6.cell (HTR.o.all.boxedA1 HLT.o HA.o).1 (fun e=>NA.2.2.2.mp e);have FP:w6.cell? (Ψ fb (fs.length*12+1))=some (Φ (pc:Int)):=hov6.cell HTR.o.all.tops.2.1 HTR.o.all.td_ne;have FF:∀ i,w6.frozen? (Ψ fb i)=false:=Λ130;clear hown6 htc6 hov6))|((with_reducible refine Bd (t:=35) (p:=103) rfl ?_);go_must (refine Aw (w1:=w6.setCell (Ψ T.tb 9) u9) ?hg (t:=35) (p:=103) rfl ?hn ?hr ?_;(case hg=>rfl);(case hn=>rfl);(case hr=>exact Λ129);intro w7 e7;have H7:=Az.m (Yk H3.o HBW.o HO9.o K6A.o K6B.o K6C.o);rw [← e7] at H7;(try clear AX);(try clear C9);clear F9 FP FF;have FX:=H7.o.all.tops;(try dsimp only at FX);have AX:=H7.o.all.boxedA1 HLT.o HA.o;clear e7))|((with_reducible refine Bd (t:=3) (p:=110) rfl ?_);go_must (refine Aw (w1:=w7.setCell (Ψ fb (fs.length*12+1)) (Φ ((pc:Int)+1))) ?hg (t:=3) (p:=110) rfl ?hn ?hr ?_;(case hg=>rfl);(case hn=>rfl);(case hr=>exact Λ20);intro w8 e8;have H0:=Az.m (H7.o.pcS HPB.o);rw [← e8] at H0;(try clear FX);(try clear AX);clear e8;have hT:=H0.o;have AX:=hT.all.boxedA1 HLT.o HA.o;obtain ⟨b,off,cp,cs,e0,hle,hcs,hcj⟩:=Tj hT rfl;subst e0;have HS:=Az.m (eZ hT hle hcs hcj).all;have CB:w8.cell? (Ψ b off)=some (Φ n):=(Aa hcs off).trans (hcj 0 Zo);have HLE:(r.length+1≤cp)=True:=eq_true hle;have HL2:=Az.m hle;have HCS:=Az.m hcs;clear hle hcs hcj;have C9:=hT.c9;(try simp only [List.length_cons,List.length_nil] at C9);clear hT))|((with_reducible refine Dw (id:=23) ?_);go_must (go_region))|(go_at_call 58;(with_reducible apply Cx);(case hI=>iterate 16 (try (first|with_reducible exact HS.o|exact (Yj H0.o HL2.o HCS.o (by have:=HL2.o;omega)).all|with_reducible apply Ix.drew|with_reducible apply Ix.alloc)));intro HI;refine (mE Λ157 (by simp only [List.length_cons];omega) Zd un HI).mono ?_;rintro e w3 ⟨rfl,g5,cap5,hm,hst⟩;(try clear FX);(try clear AX);(try clear C9);clear H0 HS;have H0:=Az.m hm;clear hm hst))
   all_goals (first|go_end0|((try simp only [Exit.inBlock,Exit.then]);refine bodyPost_ret (results_none rfl _ _ _) rfl ?_))
   all_goals exact ⟨rfl,_,Ix.outer HO.o (Ix.outer HO2.o (Ix.to Λ127 rfl rfl))⟩
theorem qI (G:Good c tid) (hn:fs.length<900) {out:Out} (hp:(f.pc:Int)<c.sl*c.th) (hp0:f.pc=0) (h:scan c s f fs=some out) (H:IT c tid A T B w0 fb cap s f fs w) :
  Calls Tryz.prog 90 #[Pt A.mb 0,Pt T.tb 0,Pt fb (fs.length*12)] w (RO c tid A T B w0 out):=by
 have F:=H.top_fits
 obtain ⟨fn,pc,r0,r1,r2,r3,r4,r5,r6,r7,r8,r9⟩:=f
 obtain ⟨-,upc,u0,u1,u2,u3,u4,u5,u6,u7,u8,u9⟩:=F
 dsimp only at upc u0 u1 u2 u3 u4 u5 u6 u7 u8 u9 hp
 have H0:=Az.m H
 clear H
 have hsl:=Es G
 have hth:=G.th
 have hmul:=Int.mul_le_mul hsl.2 hth.2 Zo Zo
 have hpos:0<c.sl*c.th:=Int.mul_pos Zo Zo
 have EM:=Ak (x:=c.sl*c.th) Zo Zo
 dsimp only at hp0
 have hx:=lR G (p:=(pc:Int)) Zo hp
 have h2:(if pc=0∨(s.moved=false∧s.found.length<1000) then Ao c (.haz ((pc:Int) / c.sl) ((pc:Int) % c.sl)) {s with found:=(if pc=0 then [] else s.found)++[i64 (s.mm (.haz ((pc:Int) / c.sl) ((pc:Int) % c.sl)))],moved:=false} ({fn:=fn,pc:=pc+1,r0:=r0,r1:=r1,r2:=r2,r3:=r3,r4:=r4,r5:=r5,r6:=r6,r7:=r7,r8:=r8,r9:=r9}::fs) else none)=some out:=by
  unfold scan at h
  rw [if_pos hp] at h
  exact h
 clear h
 rw [if_pos (.inl hp0),if_pos hp0,Ah hx] at h2
 cases h2
 obtain ⟨s1,hs1⟩:∃ s1,s1=({s with found:=[],moved:=false}:St):=⟨_,rfl⟩
 have hmv:s1.moved=false∧s1.found.length<1000:=by rw [hs1];exact ⟨rfl,Nat.lt_of_lt_of_le Nat.zero_lt_one (by decide:1≤1000)⟩
 have hin:InU (s1.mm (.haz ((pc:Int) / c.sl) ((pc:Int) % c.sl))):=by rw [hs1];exact H0.o.mem_in hx
 have HS1:=Az.m hs1
 clear hs1
 have EWC:=fE hin
 have EWD:=Uw hin
 have ES:(c.sl=0)=False:=eq_false Zo
 have EQ:IntKind.i64.wrap ((pc:Int) / c.sl)=(pc:Int) / c.sl:=wrap_i64_ediv _ _ Zo Zo Zo
 have ER:(pc:Int).tmod c.sl=(pc:Int) % c.sl:=Int.tmod_eq_emod_of_nonneg Zo
 obtain ⟨i3,hi3,hz3,hs3,hb3⟩:=info_parts Sy
 have HMV:=Az.m hmv
 clear hmv hin
 have q0:=As (show (pc:Int)=0 by omega)
 have q1:=Ca hp
 have FX:=H0.o.tops;(try dsimp only at FX)
 have TX:=H0.o.tds;(try dsimp only at TX)
 clear hp0
 go_enter Tryz.func90,Tryz.ntmps90
 go_wp2_with (first|((with_reducible refine Bd (t:=35) (p:=28) rfl ?_);go_must ((apply bO (t:=35) (p:=28));(case hgd=>rfl);(case _ho=>rfl);(case hN=>rfl);(case hI=>exact Λ126);(case hrun=>(intro dv0 hc0 hf0;first|(simp [go_sem,hc0,hf0];done)|(go_simp;done)|(go_simp;rfl)));intro wT rv hT;rw [← HS1.o] at hT;(try clear FX);(try clear TX);(try clear BX);(try clear AX);clear H0;have H0:=Az.m hT;have FX:=hT.all.tops;(try dsimp only at FX);have AX:=hT.all.boxedA1 HLT.o HA.o;clear hT))|((with_reducible refine Al (N:=4) rfl ?_);go_must (refine Am ?hg (N:=4) ?hd (cs:=#[Pt T.tb 0]) (t:=98) ?hr ?_;(case hd=>rfl);(case hg=>rfl);(case hr=>exact Λ18);intro ga hgb w6 hbox hbl;have HO:=Az.m (H0.o.same hbl).over;have HA6:=Az.m hbox;have HLT:=Az.m (Bb hbox);have hm:=H0.o.inner hbl (Nat.le_of_eq hgb.symm);clear H0;(try clear FX);(try clear TX);(try clear BX);(try clear AX);have H0:=Az.m hm;have NA:=hm.box_ne hbox Zd Zd;clear hbox hbl hgb hm))|((with_reducible refine Al (N:=6) rfl ?_);go_must (refine Am ?hg (N:=6) ?hd (cs:=#[Φ 0,Φ 0,Φ 0,Φ 0,Φ 0,Φ 0,Φ 0,Φ 0,Φ 0,Φ 0,Φ 0,Φ 0,Φ 0,Φ 0,Φ 0]) (t:=85) ?hr ?_;(case hd=>rfl);(case hg=>rfl);(case hr=>exact Λ18);intro gb hgb w5 hz hl5;have HZ:=Az.m hz;have HL:=Az.m hl5;have HG5:=Az.m (Nat.le_of_eq hgb.symm);obtain ⟨HZ0,HZ1,HZ2,HZ3,HZ4,HZ5,HZ6,HZ7,HZ8,HZ9,HZ10,HZ11,HZ12,HZ13,HZ14⟩:=Nq hz;have HZF:∀ i,w5.frozen? (Ψ gb i)=false:=Ab hz;(try clear FX);(try clear TX);(try clear BX);(try clear AX);clear hz hl5 hgb))|((with_reducible refine Bd (t:=85) (p:=6) rfl ?_);go_must (refine Aw (w1:=(((((((((((((((w5.setCell (Ψ gb 0) (Φ c.algo)).setCell (Ψ gb 1) (Φ c.th)).setCell (Ψ gb 2) (Φ c.ns)).setCell (Ψ gb 3) (Φ c.lv)).setCell (Ψ gb 4) (Φ c.batch)).setCell (Ψ gb 5) (Φ c.probes)).setCell (Ψ gb 6) (Φ c.scan)).setCell (Ψ gb 7) (Φ c.sl)).setCell (Ψ gb 8) (Φ c.wI)).setCell (Ψ gb 9) (Φ c.sE)).setCell (Ψ gb 10) (Φ c.hZ)).setCell (Ψ gb 11) (Φ c.lK)).setCell (Ψ gb 12) (Φ c.nA)).setCell (Ψ gb 13) (Φ c.tA)).setCell (Ψ gb 14) (Φ c.size))) ?hg (t:=85) (p:=6) rfl ?hn ?hr ?_;(case hg=>rfl);(case hn=>rfl);(case hr=>exact Λ22);intro w7 e6;have hbox:w7.heap[gb]?=some (.cells #[Φ c.algo,Φ c.th,Φ c.ns,Φ c.lv,Φ c.batch,Φ c.probes,Φ c.scan,Φ c.sl,Φ c.wI,Φ c.sE,Φ c.hZ,Φ c.lK,Φ c.nA,Φ c.tA,Φ c.size] 85 (0,0)):=Λ148;have hbl:=(Fh HL.o HG5.o e6);clear HZ HL e6 HZF HZ0 HZ1 HZ2 HZ3 HZ4 HZ5 HZ6 HZ7 HZ8 HZ9 HZ10 HZ11 HZ12 HZ13 HZ14 NA;have HA:=Az.m (Ac (H0.o.box HA6.o) hbl);have HB:=Az.m hbox;have HO2:=Az.m (H0.o.same hbl).over;have HGB:=Az.m (Nat.le_trans H0.o.over.size HG5.o);have hm:=H0.o.inner hbl HG5.o;clear H0 HG5;have H0:=Az.m hm;have NB:=hm.box_ne hbox Zd Zd;have NA:=hm.box_neA HLT.o HA.o Zd Zd;have NC:(ga=gb)=False:=eq_false (fun e=>by have:=HLT.o;have:=HGB.o;omega);have NC2:(gb=ga)=False:=eq_false (fun e=>by have:=HLT.o;have:=HGB.o;omega);clear HA6;(have FX:=hm.tops);(try dsimp only at FX);(have TX:=hm.tds);(try dsimp only at TX);(have BX:=hm.boxed15 HB.o);(have AX:=hm.boxedA1 HLT.o HA.o);clear hbox hbl hm))|(go_at_call 115;go_must ((with_reducible apply Cx);(case hI=>exact Λ126);intro HI;(with_reducible apply Calls.mono);(case h.h=>first|exact Λ52);rintro e w2 ⟨rfl,hm⟩;(try dsimp only at hm);(try clear FX);(try clear TX);(try clear BX);(try clear AX);clear HI H0;have H0:=Az.m hm;clear hm))|((with_reducible refine Dw (id:=2) ?_);go_must ((with_reducible apply Dh);(case hI=>exact Λ126);(intro w2 hm;(try dsimp only at hm);(try clear FX);(try clear TX);(try clear BX);(try clear AX);(try clear HX);clear H0;have H0:=Az.m hm;have HX:=Az.m hm;(have FX:=hm.tops);(try dsimp only at FX);(have TX:=hm.tds);(try dsimp only at TX);(have BX:=hm.boxed15 HB.o);(have AX:=hm.boxedA1 HLT.o HA.o);clear hm);go_region_held3 (fun W=>∀ i,W.cell? (Ψ gb i)=w2.cell? (Ψ gb i)) (first|assumption|exact fun _=>rfl|with_reducible exact Dm HB.o HX.o H0.o) (((with_reducible refine Ap ?_);go_must ((with_reducible apply Cx);(case hI=>exact Λ126);intro HI;(with_reducible apply Calls.mono);(case h.h=>first|exact Λ62|exact Λ87);rintro e w2 ⟨rfl,hm⟩;(try dsimp only at hm);(try clear FX);(try clear TX);(try clear BX);(try clear AX);clear HI H0;have H0:=Az.m hm;(have FX:=hm.tops);(try dsimp only at FX);(have TX:=hm.tds);(try dsimp only at TX);(have BX:=hm.boxed15 HB.o);(have AX:=hm.boxedA1 HLT.o HA.o);clear hm))))))
 with_reducible refine Dw (id:=6) ?_
 with_reducible apply fJ
 (case hI=>iterate 16 (try (first|exact H0.o.all|with_reducible apply Ix.drew|with_reducible apply Ix.alloc)))
 intro w2 rv dv hT
 (try clear FX);(try clear TX);(try clear BX);(try clear AX);clear H0
 have HX:=Az.m hT
 have H0:=Az.m hT.drew
 have FX:=hT.all.tops;dsimp only at FX
 have BX:=hT.all.boxed15 HB.o
 have AX:=hT.all.boxedA1 HLT.o HA.o
 have NT:=hT.all.td_ne
 clear hT
 refine wp_region_held_drew (S:=(fun W=>W.cell? (Ψ ga 0)=some (Pt T.tb 0)∧(∀ i,W.cell? (Ψ gb i)=w2.cell? (Ψ gb i))∧W.cell? (Ψ fb (fs.length*12+1))=some (Φ (pc:Int)))) Zk ?_ (fun hZ8=>?_);(focus (exact ζ));(refine Δ 0 ?_);refine π ?_;(refine Δ 1 ?_);refine π ?_;(refine Δ 2 ?_);refine π ?_;(refine Δ 3 ?_);refine π ?_;(refine Δ 5 ?_);refine π ?_;(refine Δ 6 ?_);refine π ?_;(refine Δ 7 ?_);refine π ?_;(refine Δ 8 ?_);refine π ?_;(refine Δ 9 ?_);refine π ?_;(refine Δ 10 ?_);refine π ?_;(refine Δ 11 ?_);refine π ?_;(refine Δ 14 ?_);refine π ?_;(refine Δ 15 ?_);refine π ?_;(refine Δ 16 ?_);refine π ?_;(refine Δ 17 ?_);refine π ?_;(refine Δ 18 ?_);refine π ?_;refine wpAnyH_ready (rs:=[4,12]) Zk Zs ?_;refine AllReadyH.cons (o:=_) rfl ?_ (AllReadyH.cons (o:=_) rfl ?_ (AllReadyH.nil));(focus (intro K hK;have C9:=H0.o.c9;go_simp;refine hK.out _ _ ?_ (fun hZ9=>?_);(focus (exact ζ));clear hK K hZ8;have hZ8:=hZ9;clear hZ9;refine π ?_;refine wpAnyH_ready (rs:=[12]) Zk Zs ?_;refine AllReadyH.cons (o:=_) rfl (fun K hK=>?_) AllReadyH.nil;go_simp;((with_reducible refine Ap ?_);go_must (go_at_call 153;refine (It H0.o).mono ?_;rintro e w3 ⟨rfl,hm⟩;clear H0;have H0:=Az.m hm;clear hm));refine hK.out _ _ ?_ (fun hZ9=>?_);(focus (exact ζ));clear hK K hZ8;have hZ8:=hZ9;clear hZ9;refine π ?_;(refine Δ 13 ?_);refine π ?_;refine wpAnyH_ready (rs:=[19]) Zk Zs ?_;refine AllReadyH.cons (o:=_) rfl (fun K hK=>?_) AllReadyH.nil;go_simp;((with_reducible refine Ap ?_);go_must (go_at_call 153;refine (It H0.o).mono ?_;rintro e w3 ⟨rfl,hm⟩;clear H0;have H0:=Az.m hm;clear hm));refine hK.out _ _ ?_ (fun hZ9=>?_);(focus (exact ζ));clear hK K hZ8;have hZ8:=hZ9;clear hZ9;refine π ?_;(refine Δ 20 ?_);refine π ?_;refine wpAnyH_ready (rs:=[21]) Zk Zs ?_;refine AllReadyH.cons (o:=_) rfl (fun K hK=>?_) AllReadyH.nil;go_simp;((with_reducible refine Ap ?_);go_must (go_at_call 152;refine (Ql G hx H0.o).mono ?_;rintro e w3 ⟨rfl,hm⟩;clear H0;have H0:=Az.m hm;clear hm));refine hK.out _ _ ?_ (fun hZ9=>?_);(focus (exact ζ));clear hK K hZ8;have hZ8:=hZ9;clear hZ9;refine π ?_;refine wpAnyH_ready (rs:=[22]) Zk Zs ?_;refine AllReadyH.cons (o:=_) rfl (fun K hK=>?_) AllReadyH.nil;go_simp;((with_reducible refine Ap ?_);go_must (go_at_call 73;refine (Km G hx H0.o).mono ?_;rintro e w3 ⟨rfl,hm⟩;clear H0;have H0:=Az.m hm;clear hm));refine hK.out _ _ ?_ (fun hZ9=>?_);(focus (exact ζ));clear hK K hZ8;have hZ8:=hZ9;clear hZ9;refine π ?_;(refine Δ 23 ?_);refine π ?_;refine wpAnyH_ready (rs:=[24]) Zk Zs ?_;refine AllReadyH.cons (o:=_) rfl (fun K hK=>?_) AllReadyH.nil;obtain ⟨w4,hw4⟩:∃ w4,w4=w3:=⟨_,rfl⟩;subst hw4;have HA4:=Az.m H0.o;go_simp;(try (clear H0));have H0:=Az.m (HA4.o.alloc (.cells #[Φ (i64 (s1.mm (.haz ((pc:Int) / c.sl) ((pc:Int) % c.sl))))] 3));refine hK.out _ _ ?_ (fun hZ9=>?_);(focus (exact ζ));clear hK K hZ8;have hZ8:=hZ9;clear hZ9;refine π ?_;refine wpAnyH_ready (rs:=[25]) Zk Zs ?_;refine AllReadyH.cons (o:=_) rfl (fun K hK=>?_) AllReadyH.nil;refine Bm _ rfl (.tmp 39) (.tmp 59) 35 rfl 0 3 i3 (Φ 0) 1 8 Tryz.underlying35 hi3 hz3 hs3 hb3 rfl Zd dv s1.found.length (Co .i64 s1.found) Λ153 ?hown (Ψ w4.heap.size 0) 1 1 [Φ (i64 (s1.mm (.haz ((pc:Int) / c.sl) ((pc:Int) % c.sl))))] Λ153 rfl ?hnews Λ154 Zd Λ103 Λ102 (Nat.zero_le _) _ rfl ?_;(case hown=>exact Λ16);(case hnews=>exact Λ124);intro g1 cap1 w8 hown8 hg8 hat8 hlt8 hkp8;have K8:=Az.m (Hb HLT.o HA.o HB.o Zd HX.o H0.o hg8);have KT:=Az.m (Fx H0.o hown8 hg8 hat8);have C8:w8.cell? (Ψ T.tb 9)=some dv:=(Aa (Db H0.o hg8) 9).trans rfl;have F8:=Ab (Db H0.o hg8);clear hown8 hg8 hat8 hlt8 hkp8;refine hK.out _ _ ?_ (fun hZ9=>?_);(focus (exact ζ));clear hK K hZ8;have hZ8:=hZ9;clear hZ9;refine π ?_;(refine Δ 26 ?_);refine π ?_;(refine Δ 27 ?_);refine π ?_;refine wpAnyH_ready (rs:=[28]) Zk Zs ?_;refine AllReadyH.cons (o:=_) rfl (fun K hK=>?_) AllReadyH.nil;go_simp;refine hK.out _ _ ?_ (fun hZ9=>?_);(focus (exact ζ));clear hK K hZ8;have hZ8:=hZ9;clear hZ9;refine π ?_;clear hZ8;refine wpAnyH_done Zk ?_ _));rotate_left 1;(focus (intro K hK;go_simp;((with_reducible refine Ap ?_);go_must (go_at_call 153;refine (It H0.o).mono ?_;rintro e w3 ⟨rfl,hm⟩;clear H0;have H0:=Az.m hm;clear hm));refine hK.out _ _ ?_ (fun hZ9=>?_);(focus (exact ζ));clear hK K hZ8;have hZ8:=hZ9;clear hZ9;refine π ?_;(refine Δ 13 ?_);refine π ?_;refine wpAnyH_ready (rs:=[4,19]) Zk Zs ?_;refine AllReadyH.cons (o:=_) rfl ?_ (AllReadyH.cons (o:=_) rfl ?_ (AllReadyH.nil));(focus (intro K hK;have C9:=H0.o.c9;go_simp;refine hK.out _ _ ?_ (fun hZ9=>?_);(focus (exact ζ));clear hK K hZ8;have hZ8:=hZ9;clear hZ9;refine π ?_;refine wpAnyH_ready (rs:=[19]) Zk Zs ?_;refine AllReadyH.cons (o:=_) rfl (fun K hK=>?_) AllReadyH.nil;go_simp;((with_reducible refine Ap ?_);go_must (go_at_call 153;refine (It H0.o).mono ?_;rintro e w3 ⟨rfl,hm⟩;clear H0;have H0:=Az.m hm;clear hm));refine hK.out _ _ ?_ (fun hZ9=>?_);(focus (exact ζ));clear hK K hZ8;have hZ8:=hZ9;clear hZ9;refine π ?_;(refine Δ 20 ?_);refine π ?_;refine wpAnyH_ready (rs:=[21]) Zk Zs ?_;refine AllReadyH.cons (o:=_) rfl (fun K hK=>?_) AllReadyH.nil;go_simp;((with_reducible refine Ap ?_);go_must (go_at_call 152;refine (Ql G hx H0.o).mono ?_;rintro e w3 ⟨rfl,hm⟩;clear H0;have H0:=Az.m hm;clear hm));refine hK.out _ _ ?_ (fun hZ9=>?_);(focus (exact ζ));clear hK K hZ8;have hZ8:=hZ9;clear hZ9;refine π ?_;refine wpAnyH_ready (rs:=[22]) Zk Zs ?_;refine AllReadyH.cons (o:=_) rfl (fun K hK=>?_) AllReadyH.nil;go_simp;((with_reducible refine Ap ?_);go_must (go_at_call 73;refine (Km G hx H0.o).mono ?_;rintro e w3 ⟨rfl,hm⟩;clear H0;have H0:=Az.m hm;clear hm));refine hK.out _ _ ?_ (fun hZ9=>?_);(focus (exact ζ));clear hK K hZ8;have hZ8:=hZ9;clear hZ9;refine π ?_;(refine Δ 23 ?_);refine π ?_;refine wpAnyH_ready (rs:=[24]) Zk Zs ?_;refine AllReadyH.cons (o:=_) rfl (fun K hK=>?_) AllReadyH.nil;obtain ⟨w4,hw4⟩:∃ w4,w4=w3:=⟨_,rfl⟩;subst hw4;have HA4:=Az.m H0.o;go_simp;(try (clear H0));have H0:=Az.m (HA4.o.alloc (.cells #[Φ (i64 (s1.mm (.haz ((pc:Int) / c.sl) ((pc:Int) % c.sl))))] 3));refine hK.out _ _ ?_ (fun hZ9=>?_);(focus (exact ζ));clear hK K hZ8;have hZ8:=hZ9;clear hZ9;refine π ?_;refine wpAnyH_ready (rs:=[25]) Zk Zs ?_;refine AllReadyH.cons (o:=_) rfl (fun K hK=>?_) AllReadyH.nil;refine Bm _ rfl (.tmp 39) (.tmp 59) 35 rfl 0 3 i3 (Φ 0) 1 8 Tryz.underlying35 hi3 hz3 hs3 hb3 rfl Zd dv s1.found.length (Co .i64 s1.found) Λ153 ?hown (Ψ w4.heap.size 0) 1 1 [Φ (i64 (s1.mm (.haz ((pc:Int) / c.sl) ((pc:Int) % c.sl))))] Λ153 rfl ?hnews Λ154 Zd Λ103 Λ102 (Nat.zero_le _) _ rfl ?_;(case hown=>exact Λ16);(case hnews=>exact Λ124);intro g1 cap1 w8 hown8 hg8 hat8 hlt8 hkp8;have K8:=Az.m (Hb HLT.o HA.o HB.o Zd HX.o H0.o hg8);have KT:=Az.m (Fx H0.o hown8 hg8 hat8);have C8:w8.cell? (Ψ T.tb 9)=some dv:=(Aa (Db H0.o hg8) 9).trans rfl;have F8:=Ab (Db H0.o hg8);clear hown8 hg8 hat8 hlt8 hkp8;refine hK.out _ _ ?_ (fun hZ9=>?_);(focus (exact ζ));clear hK K hZ8;have hZ8:=hZ9;clear hZ9;refine π ?_;(refine Δ 26 ?_);refine π ?_;(refine Δ 27 ?_);refine π ?_;refine wpAnyH_ready (rs:=[28]) Zk Zs ?_;refine AllReadyH.cons (o:=_) rfl (fun K hK=>?_) AllReadyH.nil;go_simp;refine hK.out _ _ ?_ (fun hZ9=>?_);(focus (exact ζ));clear hK K hZ8;have hZ8:=hZ9;clear hZ9;refine π ?_;clear hZ8;refine wpAnyH_done Zk ?_ _));rotate_left 1;(focus (intro K hK;go_simp;((with_reducible refine Ap ?_);go_must (go_at_call 153;refine (It H0.o).mono ?_;rintro e w3 ⟨rfl,hm⟩;clear H0;have H0:=Az.m hm;clear hm));refine hK.out _ _ ?_ (fun hZ9=>?_);(focus (exact ζ));clear hK K hZ8;have hZ8:=hZ9;clear hZ9;refine π ?_;(refine Δ 20 ?_);refine π ?_;refine wpAnyH_ready (rs:=[4,21]) Zk Zs ?_;refine AllReadyH.cons (o:=_) rfl ?_ (AllReadyH.cons (o:=_) rfl ?_ (AllReadyH.nil));(focus (intro K hK;have C9:=H0.o.c9;go_simp;refine hK.out _ _ ?_ (fun hZ9=>?_);(focus (exact ζ));clear hK K hZ8;have hZ8:=hZ9;clear hZ9;refine π ?_;refine wpAnyH_ready (rs:=[21]) Zk Zs ?_;refine AllReadyH.cons (o:=_) rfl (fun K hK=>?_) AllReadyH.nil;go_simp;((with_reducible refine Ap ?_);go_must (go_at_call 152;refine (Ql G hx H0.o).mono ?_;rintro e w3 ⟨rfl,hm⟩;clear H0;have H0:=Az.m hm;clear hm));refine hK.out _ _ ?_ (fun hZ9=>?_);(focus (exact ζ));clear hK K hZ8;have hZ8:=hZ9;clear hZ9;refine π ?_;refine wpAnyH_ready (rs:=[22]) Zk Zs ?_;refine AllReadyH.cons (o:=_) rfl (fun K hK=>?_) AllReadyH.nil;go_simp;((with_reducible refine Ap ?_);go_must (go_at_call 73;refine (Km G hx H0.o).mono ?_;rintro e w3 ⟨rfl,hm⟩;clear H0;have H0:=Az.m hm;clear hm));refine hK.out _ _ ?_ (fun hZ9=>?_);(focus (exact ζ));clear hK K hZ8;have hZ8:=hZ9;clear hZ9;refine π ?_;(refine Δ 23 ?_);refine π ?_;refine wpAnyH_ready (rs:=[24]) Zk Zs ?_;refine AllReadyH.cons (o:=_) rfl (fun K hK=>?_) AllReadyH.nil;obtain ⟨w4,hw4⟩:∃ w4,w4=w3:=⟨_,rfl⟩;subst hw4;have HA4:=Az.m H0.o;go_simp;(try (clear H0));have H0:=Az.m (HA4.o.alloc (.cells #[Φ (i64 (s1.mm (.haz ((pc:Int) / c.sl) ((pc:Int) % c.sl))))] 3));refine hK.out _ _ ?_ (fun hZ9=>?_);(focus (exact ζ));clear hK K hZ8;have hZ8:=hZ9;clear hZ9;refine π ?_;refine wpAnyH_ready (rs:=[25]) Zk Zs ?_;refine AllReadyH.cons (o:=_) rfl (fun K hK=>?_) AllReadyH.nil;refine Bm _ rfl (.tmp 39) (.tmp 59) 35 rfl 0 3 i3 (Φ 0) 1 8 Tryz.underlying35 hi3 hz3 hs3 hb3 rfl Zd dv s1.found.length (Co .i64 s1.found) Λ153 ?hown (Ψ w4.heap.size 0) 1 1 [Φ (i64 (s1.mm (.haz ((pc:Int) / c.sl) ((pc:Int) % c.sl))))] Λ153 rfl ?hnews Λ154 Zd Λ103 Λ102 (Nat.zero_le _) _ rfl ?_;(case hown=>exact Λ16);(case hnews=>exact Λ124);intro g1 cap1 w8 hown8 hg8 hat8 hlt8 hkp8;have K8:=Az.m (Hb HLT.o HA.o HB.o Zd HX.o H0.o hg8);have KT:=Az.m (Fx H0.o hown8 hg8 hat8);have C8:w8.cell? (Ψ T.tb 9)=some dv:=(Aa (Db H0.o hg8) 9).trans rfl;have F8:=Ab (Db H0.o hg8);clear hown8 hg8 hat8 hlt8 hkp8;refine hK.out _ _ ?_ (fun hZ9=>?_);(focus (exact ζ));clear hK K hZ8;have hZ8:=hZ9;clear hZ9;refine π ?_;(refine Δ 26 ?_);refine π ?_;(refine Δ 27 ?_);refine π ?_;refine wpAnyH_ready (rs:=[28]) Zk Zs ?_;refine AllReadyH.cons (o:=_) rfl (fun K hK=>?_) AllReadyH.nil;go_simp;refine hK.out _ _ ?_ (fun hZ9=>?_);(focus (exact ζ));clear hK K hZ8;have hZ8:=hZ9;clear hZ9;refine π ?_;clear hZ8;refine wpAnyH_done Zk ?_ _));rotate_left 1;(focus (intro K hK;go_simp;((with_reducible refine Ap ?_);go_must (go_at_call 152;refine (Ql G hx H0.o).mono ?_;rintro e w3 ⟨rfl,hm⟩;clear H0;have H0:=Az.m hm;clear hm));refine hK.out _ _ ?_ (fun hZ9=>?_);(focus (exact ζ));clear hK K hZ8;have hZ8:=hZ9;clear hZ9;refine π ?_;refine wpAnyH_ready (rs:=[4,22]) Zk Zs ?_;refine AllReadyH.cons (o:=_) rfl ?_ (AllReadyH.cons (o:=_) rfl ?_ (AllReadyH.nil));(focus (intro K hK;have C9:=H0.o.c9;go_simp;refine hK.out _ _ ?_ (fun hZ9=>?_);(focus (exact ζ));clear hK K hZ8;have hZ8:=hZ9;clear hZ9;refine π ?_;refine wpAnyH_ready (rs:=[22]) Zk Zs ?_;refine AllReadyH.cons (o:=_) rfl (fun K hK=>?_) AllReadyH.nil;go_simp;((with_reducible refine Ap ?_);go_must (go_at_call 73;refine (Km G hx H0.o).mono ?_;rintro e w3 ⟨rfl,hm⟩;clear H0;have H0:=Az.m hm;clear hm));refine hK.out _ _ ?_ (fun hZ9=>?_);(focus (exact ζ));clear hK K hZ8;have hZ8:=hZ9;clear hZ9;refine π ?_;(refine Δ 23 ?_);refine π ?_;refine wpAnyH_ready (rs:=[24]) Zk Zs ?_;refine AllReadyH.cons (o:=_) rfl (fun K hK=>?_) AllReadyH.nil;obtain ⟨w4,hw4⟩:∃ w4,w4=w3:=⟨_,rfl⟩;subst hw4;have HA4:=Az.m H0.o;go_simp;(try (clear H0));have H0:=Az.m (HA4.o.alloc (.cells #[Φ (i64 (s1.mm (.haz ((pc:Int) / c.sl) ((pc:Int) % c.sl))))] 3));refine hK.out _ _ ?_ (fun hZ9=>?_);(focus (exact ζ));clear hK K hZ8;have hZ8:=hZ9;clear hZ9;refine π ?_;refine wpAnyH_ready (rs:=[25]) Zk Zs ?_;refine AllReadyH.cons (o:=_) rfl (fun K hK=>?_) AllReadyH.nil;refine Bm _ rfl (.tmp 39) (.tmp 59) 35 rfl 0 3 i3 (Φ 0) 1 8 Tryz.underlying35 hi3 hz3 hs3 hb3 rfl Zd dv s1.found.length (Co .i64 s1.found) Λ153 ?hown (Ψ w4.heap.size 0) 1 1 [Φ (i64 (s1.mm (.haz ((pc:Int) / c.sl) ((pc:Int) % c.sl))))] Λ153 rfl ?hnews Λ154 Zd Λ103 Λ102 (Nat.zero_le _) _ rfl ?_;(case hown=>exact Λ16);(case hnews=>exact Λ124);intro g1 cap1 w8 hown8 hg8 hat8 hlt8 hkp8;have K8:=Az.m (Hb HLT.o HA.o HB.o Zd HX.o H0.o hg8);have KT:=Az.m (Fx H0.o hown8 hg8 hat8);have C8:w8.cell? (Ψ T.tb 9)=some dv:=(Aa (Db H0.o hg8) 9).trans rfl;have F8:=Ab (Db H0.o hg8);clear hown8 hg8 hat8 hlt8 hkp8;refine hK.out _ _ ?_ (fun hZ9=>?_);(focus (exact ζ));clear hK K hZ8;have hZ8:=hZ9;clear hZ9;refine π ?_;(refine Δ 26 ?_);refine π ?_;(refine Δ 27 ?_);refine π ?_;refine wpAnyH_ready (rs:=[28]) Zk Zs ?_;refine AllReadyH.cons (o:=_) rfl (fun K hK=>?_) AllReadyH.nil;go_simp;refine hK.out _ _ ?_ (fun hZ9=>?_);(focus (exact ζ));clear hK K hZ8;have hZ8:=hZ9;clear hZ9;refine π ?_;clear hZ8;refine wpAnyH_done Zk ?_ _));rotate_left 1;(focus (intro K hK;go_simp;((with_reducible refine Ap ?_);go_must (go_at_call 73;refine (Km G hx H0.o).mono ?_;rintro e w3 ⟨rfl,hm⟩;clear H0;have H0:=Az.m hm;clear hm));refine hK.out _ _ ?_ (fun hZ9=>?_);(focus (exact ζ));clear hK K hZ8;have hZ8:=hZ9;clear hZ9;refine π ?_;(refine Δ 23 ?_);refine π ?_;refine wpAnyH_ready (rs:=[4,24]) Zk Zs ?_;refine AllReadyH.cons (o:=_) rfl ?_ (AllReadyH.cons (o:=_) rfl ?_ (AllReadyH.nil));(focus (intro K hK;have C9:=H0.o.c9;go_simp;refine hK.out _ _ ?_ (fun hZ9=>?_);(focus (exact ζ));clear hK K hZ8;have hZ8:=hZ9;clear hZ9;refine π ?_;refine wpAnyH_ready (rs:=[24]) Zk Zs ?_;refine AllReadyH.cons (o:=_) rfl (fun K hK=>?_) AllReadyH.nil;obtain ⟨w4,hw4⟩:∃ w4,w4=w3:=⟨_,rfl⟩;subst hw4;have HA4:=Az.m H0.o;go_simp;(try (clear H0));have H0:=Az.m (HA4.o.alloc (.cells #[Φ (i64 (s1.mm (.haz ((pc:Int) / c.sl) ((pc:Int) % c.sl))))] 3));refine hK.out _ _ ?_ (fun hZ9=>?_);(focus (exact ζ));clear hK K hZ8;have hZ8:=hZ9;clear hZ9;refine π ?_;refine wpAnyH_ready (rs:=[25]) Zk Zs ?_;refine AllReadyH.cons (o:=_) rfl (fun K hK=>?_) AllReadyH.nil;refine Bm _ rfl (.tmp 39) (.tmp 59) 35 rfl 0 3 i3 (Φ 0) 1 8 Tryz.underlying35 hi3 hz3 hs3 hb3 rfl Zd dv s1.found.length (Co .i64 s1.found) Λ153 ?hown (Ψ w4.heap.size 0) 1 1 [Φ (i64 (s1.mm (.haz ((pc:Int) / c.sl) ((pc:Int) % c.sl))))] Λ153 rfl ?hnews Λ154 Zd Λ103 Λ102 (Nat.zero_le _) _ rfl ?_;(case hown=>exact Λ16);(case hnews=>exact Λ124);intro g1 cap1 w8 hown8 hg8 hat8 hlt8 hkp8;have K8:=Az.m (Hb HLT.o HA.o HB.o Zd HX.o H0.o hg8);have KT:=Az.m (Fx H0.o hown8 hg8 hat8);have C8:w8.cell? (Ψ T.tb 9)=some dv:=(Aa (Db H0.o hg8) 9).trans rfl;have F8:=Ab (Db H0.o hg8);clear hown8 hg8 hat8 hlt8 hkp8;refine hK.out _ _ ?_ (fun hZ9=>?_);(focus (exact ζ));clear hK K hZ8;have hZ8:=hZ9;clear hZ9;refine π ?_;(refine Δ 26 ?_);refine π ?_;(refine Δ 27 ?_);refine π ?_;refine wpAnyH_ready (rs:=[28]) Zk Zs ?_;refine AllReadyH.cons (o:=_) rfl (fun K hK=>?_) AllReadyH.nil;go_simp;refine hK.out _ _ ?_ (fun hZ9=>?_);(focus (exact ζ));clear hK K hZ8;have hZ8:=hZ9;clear hZ9;refine π ?_;clear hZ8;refine wpAnyH_done Zk ?_ _));rotate_left 1;(focus (intro K hK;obtain ⟨w4,hw4⟩:∃ w4,w4=w3:=⟨_,rfl⟩;subst hw4;have HA4:=Az.m H0.o;go_simp;(try (clear H0));have H0:=Az.m (HA4.o.alloc (.cells #[Φ (i64 (s1.mm (.haz ((pc:Int) / c.sl) ((pc:Int) % c.sl))))] 3));refine hK.out _ _ ?_ (fun hZ9=>?_);(focus (exact ζ));clear hK K hZ8;have hZ8:=hZ9;clear hZ9;refine π ?_;refine wpAnyH_ready (rs:=[4]) Zk Zs ?_;refine AllReadyH.cons (o:=_) rfl (fun K hK=>?_) AllReadyH.nil;have C9:=H0.o.c9;go_simp;refine hK.out _ _ ?_ (fun hZ9=>?_);(focus (exact ζ));clear hK K hZ8;have hZ8:=hZ9;clear hZ9;refine π ?_;refine wpAnyH_ready (rs:=[25]) Zk Zs ?_;refine AllReadyH.cons (o:=_) rfl (fun K hK=>?_) AllReadyH.nil;refine Bm _ rfl (.tmp 39) (.tmp 59) 35 rfl 0 3 i3 (Φ 0) 1 8 Tryz.underlying35 hi3 hz3 hs3 hb3 rfl Zd dv s1.found.length (Co .i64 s1.found) Λ153 ?hown (Ψ w4.heap.size 0) 1 1 [Φ (i64 (s1.mm (.haz ((pc:Int) / c.sl) ((pc:Int) % c.sl))))] Λ153 rfl ?hnews Λ154 Zd Λ103 Λ102 (Nat.zero_le _) _ rfl ?_;(case hown=>exact Λ16);(case hnews=>exact Λ124);intro g1 cap1 w8 hown8 hg8 hat8 hlt8 hkp8;have K8:=Az.m (Hb HLT.o HA.o HB.o Zd HX.o H0.o hg8);have KT:=Az.m (Fx H0.o hown8 hg8 hat8);have C8:w8.cell? (Ψ T.tb 9)=some dv:=(Aa (Db H0.o hg8) 9).trans rfl;have F8:=Ab (Db H0.o hg8);clear hown8 hg8 hat8 hlt8 hkp8;refine hK.out _ _ ?_ (fun hZ9=>?_);(focus (exact ζ));clear hK K hZ8;have hZ8:=hZ9;clear hZ9;refine π ?_;(refine Δ 26 ?_);refine π ?_;(refine Δ 27 ?_);refine π ?_;refine wpAnyH_ready (rs:=[28]) Zk Zs ?_;refine AllReadyH.cons (o:=_) rfl (fun K hK=>?_) AllReadyH.nil;go_simp;refine hK.out _ _ ?_ (fun hZ9=>?_);(focus (exact ζ));clear hK K hZ8;have hZ8:=hZ9;clear hZ9;refine π ?_;clear hZ8;refine wpAnyH_done Zk ?_ _));rotate_left 1;skip));rotate_left 2;skip));rotate_left 3;skip));rotate_left 4;skip));rotate_left 5;skip
 all_goals (clear FX BX AX HX H0 K8 C8 F8;have H0:=Az.m KT.o.all;clear KT;have FX:=H0.o.tops;dsimp only at FX)
 all_goals go_wp2
 all_goals (first|go_end0|((try simp only [Exit.inBlock,Exit.then]);refine bodyPost_ret (results_none rfl _ _ _) rfl ?_))
 all_goals exact ⟨rfl,_,Ix.outer HO.o (Ix.outer HO2.o (Ix.to (H0.o.pcS (by show pc+1<100000;omega)) (by rw [HS1.o];rfl) rfl))⟩
end
section
attribute [local go_sem] Cs Cq De Dd Cj Ci Cr Cp Ig Fz Ez Ej
theorem cT (G:Good c tid) (hn:fs.length<900) {out:Out} (h:scan c s f fs=some out) (H:IT c tid A T B w0 fb cap s f fs w) :
  Calls Tryz.prog 90 #[Pt A.mb 0,Pt T.tb 0,Pt fb (fs.length*12)] w (RO c tid A T B w0 out):=by
 by_cases h1:(f.pc:Int)<c.sl*c.th
 .by_cases h0:f.pc=0
  .exact qI G hn h1 h0 h H
  .exact tG G hn h1 h0 h H
 .by_cases h2:(f.pc:Int)=c.sl*c.th
  .cases hfl:s.rt.filter (fun n=>!s.found.contains n) with
   |nil=>exact qH G hn h2 hfl h H
   |cons n r=>exact qG G hn h2 hfl h H
  .cases hf:s.found with
   |nil=>exact qF G hn Zo hf h H
   |cons n r=>exact qE G hn Zo hf h H
end
section
attribute [local go_sem] Cs Cq De Dd Cj Ci Cr Cp Ig Fz Ez Ej Gu Ip Iq Hr Jm Pg Vh Ut
namespace X6
theorem κ {p:Prop} (h:p:=by with_reducible first|(exact Λ84)|(go_at_call 87;exact Ue G Zo h2 HI)|(go_at_call 88;exact cE G Zo h2 HI)|(go_at_call 89;exact Wd G Zo h2 HI)|(go_at_call 90;exact cT G Zo h2 HI)|(go_at_call 91;exact Us G Zo h2 HI)):p:=h
theorem ξ {p:Prop} (h:p:=by
 by_cases e3:fn=3
 case' pos=>(subst e3;have h2:Rn c tid s ⟨3,pc,r0,r1,r2,r3,r4,r5,r6,r7,r8,r9⟩ fs=some out:=h;clear h)
 case' neg=>skip
 by_cases e4:fn=4
 case' pos=>(subst e4;have h2:mT c tid s ⟨4,pc,r0,r1,r2,r3,r4,r5,r6,r7,r8,r9⟩ fs=some out:=h;clear h)
 case' neg=>skip
 by_cases e5:fn=5
 case' pos=>(subst e5;have h2:We c s ⟨5,pc,r0,r1,r2,r3,r4,r5,r6,r7,r8,r9⟩ fs=some out:=h;clear h)
 case' neg=>skip
 by_cases e6:fn=6
 case' pos=>(subst e6;have h2:scan c s ⟨6,pc,r0,r1,r2,r3,r4,r5,r6,r7,r8,r9⟩ fs=some out:=h;clear h)
 case' neg=>skip
 case' neg=>(have h2:Rw c s ⟨fn,pc,r0,r1,r2,r3,r4,r5,r6,r7,r8,r9⟩ fs=some out:=(by have h5:=h;unfold Ew at h5;split at h5<;>first|exact h5|(rename_i e5;(try dsimp only at e5);omega));clear h)
 all_goals (try (have q3:=Aj (show ¬ (fn:Int)=3 by omega)))
 all_goals (try (have q4:=Aj (show ¬ (fn:Int)=4 by omega)))
 all_goals (try (have q5:=Aj (show ¬ (fn:Int)=5 by omega)))
 all_goals (try (have q6:=Aj (show ¬ (fn:Int)=6 by omega)))
 all_goals (go_enter Tryz.func46,Tryz.ntmps46;exact Θ0)):p:=h
end X6
open X6 in
theorem Tf (G:Good c tid) (hn:fs.length<900) {out:Out} (h:Ew c tid s f fs=some out) (H:IT c tid A T B w0 fb cap s f fs w) :
  Calls Tryz.prog 46 #[Pt A.mb 0,Pt T.tb 0] w (RO c tid A T B w0 out):=Ξ
namespace X7
theorem κ {p:Prop} (h:p:=by with_reducible first|(exact Λ84)|(go_at_call 92;exact bF G Zo h2 HI)|(exact Λ85)):p:=h
theorem ξ {p:Prop} (h:p:=by
 by_cases e20:fn=20
 case' pos=>(subst e20;have h2:Jg c tid s ⟨20,pc,r0,r1,r2,r3,r4,r5,r6,r7,r8,r9⟩ fs=some out:=h;clear h)
 case' neg=>skip
 case' neg=>(have h2:Ew c tid s ⟨fn,pc,r0,r1,r2,r3,r4,r5,r6,r7,r8,r9⟩ fs=some out:=(by have h5:=h;unfold Qf at h5;split at h5<;>first|exact h5|(rename_i e5;(try dsimp only at e5);omega));clear h)
 all_goals (try (have q20:=Aj (show ¬ (fn:Int)=20 by omega)))
 all_goals (go_enter Tryz.func47,Tryz.ntmps47;exact Θ0)):p:=h
end X7
open X7 in
theorem Xs (G:Good c tid) (hn:fs.length<900) {out:Out} (h:Qf c tid s f fs=some out) (H:IT c tid A T B w0 fb cap s f fs w) :
  Calls Tryz.prog 47 #[Pt A.mb 0,Pt T.tb 0] w (RO c tid A T B w0 out):=Ξ
namespace X8
theorem κ {p:Prop} (h:p:=by with_reducible first|(exact Λ84)|(go_at_call 102;exact aJ G Zo h2 HI)|(exact Λ85)):p:=h
theorem ξ {p:Prop} (h:p:=by
 by_cases e30:fn=30
 case' pos=>(subst e30;have h2:Gp c tid s ⟨30,pc,r0,r1,r2,r3,r4,r5,r6,r7,r8,r9⟩ fs=some out:=h;clear h)
 case' neg=>skip
 case' neg=>(have h2:Ew c tid s ⟨fn,pc,r0,r1,r2,r3,r4,r5,r6,r7,r8,r9⟩ fs=some out:=(by have h5:=h;unfold Ld at h5;split at h5<;>first|exact h5|(rename_i e5;(try dsimp only at e5);omega));clear h)
 all_goals (try (have q30:=Aj (show ¬ (fn:Int)=30 by omega)))
 all_goals (go_enter Tryz.func50,Tryz.ntmps50;exact Θ0)):p:=h
end X8
open X8 in
theorem Su (G:Good c tid) (hn:fs.length<900) {out:Out} (h:Ld c tid s f fs=some out) (H:IT c tid A T B w0 fb cap s f fs w) :
  Calls Tryz.prog 50 #[Pt A.mb 0,Pt T.tb 0] w (RO c tid A T B w0 out):=Ξ
namespace X10
theorem κ {p:Prop} (h:p:=by with_reducible first|(exact Λ84)|(go_at_call 47;exact Xs G Zo h2 HI)|(exact Λ190)|(go_at_call 48;exact Uc G Zo h2 HI)|(go_at_call 49;exact Ua G Zo h2 HI)):p:=h
abbrev δ:List (Nat×Nat):=[(7,4)]
abbrev νa:=5
abbrev τa:=118
theorem ξ {p:Prop} (h:p:=by
 have hc:(fn=21∧pc=90)∨(fn=22∧pc=90)∨(fn=23∧pc=90)∨(fn=21∧pc≠90)∨(fn=22∧pc≠90)∨(fn=23∧pc≠90)∨(fn<21)∨(23<fn):=Zo
 rcases hc with ⟨e0,e1⟩|⟨e0,e1⟩|⟨e0,e1⟩|⟨e0,e1⟩|⟨e0,e1⟩|⟨e0,e1⟩|e0|e0
 case' inl=>(subst e0 e1;cases h)
 case' inr.inl=>(subst e0 e1;cases h)
 case' inr.inr.inl=>(subst e0 e1;cases h)
 case' inr.inr.inr.inl=>(subst e0;have q90:=Aj (show ¬ (pc:Int)=90 by omega);have h2:Fs c s ⟨21,pc,r0,r1,r2,r3,r4,r5,r6,r7,r8,r9⟩ fs=some out:=Λ116;clear h)
 case' inr.inr.inr.inr.inl=>(subst e0;have q90:=Aj (show ¬ (pc:Int)=90 by omega);have h2:Ey c s ⟨22,pc,r0,r1,r2,r3,r4,r5,r6,r7,r8,r9⟩ fs=some out:=Λ116;clear h)
 case' inr.inr.inr.inr.inr.inl=>(subst e0;have q90:=Aj (show ¬ (pc:Int)=90 by omega);have h2:Ey c s ⟨23,pc,r0,r1,r2,r3,r4,r5,r6,r7,r8,r9⟩ fs=some out:=Λ116;clear h)
 case' inr.inr.inr.inr.inr.inr.inl=>(have h2:Qf c tid s ⟨fn,pc,r0,r1,r2,r3,r4,r5,r6,r7,r8,r9⟩ fs=some out:=Λ117;clear h;have qa:=Ca (show (fn:Int)<21 by omega))
 case' inr.inr.inr.inr.inr.inr.inr=>(have h2:Qf c tid s ⟨fn,pc,r0,r1,r2,r3,r4,r5,r6,r7,r8,r9⟩ fs=some out:=Λ117;clear h;have qa:=Bq (show ¬ (fn:Int)<21 by omega);have qb:=Ca (show (23:Int)<(fn:Int) by omega))
 all_goals (go_enter Tryz.func16,Tryz.ntmps16;exact Θ2)):p:=h
end X10
open X10 in
theorem Re (G:Good c tid) (hn:fs.length<900) {out:Out} (h:Er c tid s f fs=some out) (H:IT c tid A T B w0 fb cap s f fs w) :
  Calls Tryz.prog 16 #[Pt A.mb 0,Pt T.tb 0] w (RO c tid A T B w0 out):=Ξ
end
end Go.Proofs.YtlejhikddkdanaaGreat.Mdl
