/- TopSame, part 8: lemmas on the way. -/
import Derived.Test.YtlejhikddkdanaaGreatM7
import Derived.Test.YtlejhikddkdanaaGreatRows
set_option maxHeartbeats 8000000
set_option maxRecDepth 1000000
set_option linter.unusedVariables false
set_option linter.unusedSimpArgs false
namespace Go.Proofs.YtlejhikddkdanaaGreat.Mdl
open RowKit Wk Fns YtlejhikddkdanaaGreatW.PrintWords YtlejhikddkdanaaGreatW.PrintLast YtlejhikddkdanaaGreatW.PrintMore
variable {c:Cf} {tid:Int}
section
attribute [local go_sem] Cs Cq De Dd Cj Ci Cr Cp
structure Td where
 tb:Nat
 pr:Nat
 sc:Nat
 wd:Nat
def Fr.cells (f:Fr):List Value:=[Φ f.fn,Φ f.pc,Γ f.r0,Γ f.r1,Γ f.r2,Γ f.r3,Γ f.r4,Γ f.r5,Γ f.r6,Γ f.r7,Γ f.r8,Γ f.r9]
def Ei:List Fr→List Value
 |[]=>[]
 |f::fs=>Ei fs++f.cells
theorem Fl:∀ l:List Fr,(Ei l).length=l.length*12
 |[]=>rfl
 |f::fs=>by
  show (Ei fs++f.cells).length=(fs.length+1)*12
  rw [List.length_append,Fl fs,Nat.add_mul]
  rfl
def InU (x:Int):Prop:=0≤x∧x<18446744073709551616
structure Fr.Fits (f:Fr):Prop where
 fn:f.fn<1000
 pc:f.pc<100000
 r0:InU f.r0
 r1:InU f.r1
 r2:InU f.r2
 r3:InU f.r3
 r4:InU f.r4
 r5:InU f.r5
 r6:InU f.r6
 r7:InU f.r7
 r8:InU f.r8
 r9:InU f.r9
def Hv (n:Int) (p:Int→Int):Array Value:=((List.range n.toNat).map fun (i:Nat)=>Value.int .u64 (p (i:Int))).toArray
def IsFound (dv:Value) (s:St) (w:World):Prop:=
 (s.moved=false∧w.ownsRow 0 3 1 dv s.found.length (Co .i64 s.found))∨
 (s.moved=true∧∃ db off cap cs,dv=.slice (some (Ψ db off)) s.found.length cap∧s.found.length≤cap∧w.heap[db]?=some (.cells cs 3 (0,0))∧∀ j:Nat,j<s.found.length→cs[off+j]?=some (Φ (s.found.getD j 0)))
structure Ix (c:Cf) (tid:Int) (A:Ad) (T:Td) (B:Nat→Prop) (w0:World) (fv:Value) (s:St) (l:List Fr) (w:World):Prop where
 mach:∃ g aT,IsMach c A s.mm g s.us aT w
 thr:∃ rv dv,w.heap[T.tb]?=some (.cells #[Φ tid,fv,Γ s.ret0,Γ s.ret1,Γ s.ret2,.slice (some (Ψ T.pr 0)) c.lv.toNat c.lv.toNat,.slice (some (Ψ T.sc 0)) c.lv.toNat c.lv.toNat,.slice (some (Ψ T.wd 0)) c.lv.toNat c.lv.toNat,rv,dv] 104 (0,0))∧
  w.ownsRow 0 3 1 rv s.rt.length (Co .i64 s.rt)∧IsFound dv s w∧(∀ k,rv.ownBlock=some k→¬ A.may k∧dv.ownBlock≠some k∧(B k∨w0.heap.size≤k))∧(∀ k,dv.ownBlock=some k→¬ A.may k∧(B k∨w0.heap.size≤k))
 frames:w.ownsRow 0 111 12 fv l.length (Ei l)
 pred:w.heap[T.pr]?=some (.cells (Hv c.lv s.pred) 82 (0,0))
 succ:w.heap[T.sc]?=some (.cells (Hv c.lv s.succ) 82 (0,0))
 wrd:w.heap[T.wd]?=some (.cells (Hv c.lv s.wrd) 82 (0,0))
 prf:∀ i,0≤i→i<c.lv→InU (s.pred i)∧InU (s.succ i)∧InU (s.wrd i)
 rets:InU s.ret0∧InU s.ret1∧InU s.ret2
 fits:∀ f ∈ l,f.Fits
 over:Over B w0 w
 mayD:∀ k,A.may k→B k∨w0.heap.size≤k
 own:(B T.tb∨w0.heap.size≤T.tb)∧(B T.pr∨w0.heap.size≤T.pr)∧(B T.sc∨w0.heap.size≤T.sc)∧(B T.wd∨w0.heap.size≤T.wd)
 fvD:∀ k,fv.ownBlock=some k→B k∨w0.heap.size≤k
 apart:T.pr≠A.wb∧T.sc≠A.wb∧T.wd≠A.wb∧T.pr≠T.sc∧T.pr≠T.wd∧T.sc≠T.wd
abbrev RO (c:Cf) (tid:Int) (A:Ad) (T:Td) (B:Nat→Prop) (w0:World) (out:Out) (e:Ending) (w':World):Prop:=e=.returned (.tuple #[])∧∃ fv',Ix c tid A T B w0 fv' out.st out.frs w'
abbrev IT (c:Cf) (tid:Int) (A:Ad) (T:Td) (B:Nat→Prop) (w0:World) (fb cap:Nat) (s:St) (f:Fr) (fs:List Fr) (w:World):Prop:=Ix c tid A T B w0 (.slice (some (Ψ fb 0)) (fs.length+1) cap) s (f::fs) w
abbrev rc (A:Ad) (T:Td) (fb n:Nat):Array Value:=#[.pointer (some (Ψ A.mb 0)),.pointer (some (Ψ T.tb 0)),.pointer (some (Ψ fb (n*12)))]
namespace IsMach
variable {A:Ad} {m:Loc→Int} {g:Gh} {us:Nat} {aT:Bool} {w w1:World}
theorem off (h:IsMach c A m g us aT w) {S:Nat→Prop} (ho:Over S w w1)
  (hS:∀ k,S k→∃ cs e,w.heap[k]?=some (.cells cs e (0,0))∧(e=104∨e=111∨(e=82∧k≠A.wb)∨(e=3∧¬ A.may k))):IsMach c A m g us aT w1:=by
 have key:∀ (k:Nat) (cs:Array Value) (e:TypeId),w.heap[k]?=some (.cells cs e (0,0))→e≠104→e≠111→(e=82→k=A.wb)→(e=3→A.may k)→¬ S k:=by
  intro k cs e hk h1 h2 h3 h4 hs
  obtain ⟨cs',e',hk',hh⟩:=hS k hs
  rw [hk] at hk'
  injection hk' with hk'
  injection hk' with _ he
  subst he
  rcases hh with hh|hh|hh|hh
  .exact h1 hh
  .exact h2 hh
  .exact hh.2 (h3 hh.1)
  .exact hh.2 (h4 hh.1)
 obtain ⟨ws,hm,hl,hr⟩:=h.mm
 obtain ⟨st,hst⟩:=hm.head
 obtain ⟨a,cap,hf,_⟩:=h.feed.head
 refine ⟨ho.blk h.head (key _ _ _ h.head Zd Zd (fun e=>absurd e Zd) (fun e=>absurd e Zd)),⟨ws,hm.over ho (key _ _ _ hst Zd Zd (fun e=>absurd e Zd) (fun e=>absurd e Zd)) (key _ _ _ hm.row Zd Zd (fun _=>rfl) (fun e=>absurd e Zd)),hl,hr⟩,h.fits,fun gb tb e=>?_,h.feed.over ho (key _ _ _ hf Zd Zd (fun e=>absurd e Zd) (fun e=>absurd e Zd)) (fun hp=>?_)⟩
 .have hg:=h.gho gb tb e
  exact hg.over ho (key _ _ _ hg.head Zd Zd (fun e=>absurd e Zd) (fun e=>absurd e Zd)) (key _ _ _ hg.row Zd Zd (fun e=>absurd e Zd) (fun _=>Or.inr (Or.inr (Or.inr (Or.inr ⟨gb,tb,e,Or.inr rfl⟩)))))
 .obtain ⟨cs,h5,_⟩:=h.feed.row hp
  exact key _ _ _ h5 Zd Zd (fun e=>absurd e Zd) (fun e=>absurd e Zd)
theorem may_type (h:IsMach c A m g us aT w) {k:Nat} (hk:A.may k):∃ cs e,w.heap[k]?=some (.cells cs e (0,0))∧e≠104∧e≠111∧(e=82→k=A.wb):=by
 obtain ⟨ws,hm,hl,hr⟩:=h.mm
 obtain ⟨st,hst⟩:=hm.head
 obtain ⟨a,cap,hf,_⟩:=h.feed.head
 rcases hk with rfl|rfl|rfl|rfl|⟨gb,tb,e,rfl|rfl⟩
 .exact ⟨_,_,h.head,Zd,Zd,fun e=>absurd e Zd⟩
 .exact ⟨_,_,hst,Zd,Zd,fun e=>absurd e Zd⟩
 .exact ⟨_,_,hm.row,Zd,Zd,fun _=>rfl⟩
 .exact ⟨_,_,hf,Zd,Zd,fun e=>absurd e Zd⟩
 .exact ⟨_,_,(h.gho _ _ e).head,Zd,Zd,fun e=>absurd e Zd⟩
 .exact ⟨_,_,(h.gho _ _ e).row,Zd,Zd,fun e=>absurd e Zd⟩
theorem may_not (h:IsMach c A m g us aT w) {k:Nat} {cs:Array Value} {e:TypeId} (hk:w.heap[k]?=some (.cells cs e (0,0))) (he:e=104∨e=111∨(e=82∧k≠A.wb)):¬ A.may k:=by
 intro hm
 obtain ⟨cs',e',h1,h2,h3,h4⟩:=h.may_type hm
 rw [hk] at h1
 injection h1 with h1
 injection h1 with _ h5
 subst h5
 rcases he with he|he|he
 .exact h2 he
 .exact h3 he
 .exact he.2 (h4 he.1)
theorem may_lt (h:IsMach c A m g us aT w) {k:Nat} (hk:A.may k):k<w.heap.size:=by
 obtain ⟨cs',e',h1,_⟩:=h.may_type hk
 exact Bb h1
end IsMach
theorem Bi {w w1:World} {S:Nat→Prop} {base:Nat} {e:TypeId} {size n:Nat} {v:Value} {xs:List Value} (h:w.ownsRow base e size v n xs) (ho:Over S w w1) (hn:∀ k,v.ownBlock=some k→¬ S k):w1.ownsRow base e size v n xs:=by
 refine ⟨h.1,?_⟩
 rcases h.2 with h2|⟨g,cap,cur,rfl,hb,hg,rest⟩
 .exact .inl h2
 .exact .inr ⟨g,cap,cur,rfl,hb,ho.blk hg (hn g rfl),rest⟩
theorem IsFound.over {dv:Value} {s:St} {w w1:World} {S:Nat→Prop} (h:IsFound dv s w) (ho:Over S w w1) (hn:∀ k,dv.ownBlock=some k→¬ S k):IsFound dv s w1:=by
 rcases h with ⟨h1,h2⟩|⟨h1,db,off,cap,cs,rfl,h2,h3,h4⟩
 .exact .inl ⟨h1,Bi h2 ho hn⟩
 .exact .inr ⟨h1,db,off,cap,cs,rfl,h2,ho.blk h3 (hn db rfl),h4⟩
theorem IsFound.type {dv:Value} {s:St} {w:World} (h:IsFound dv s w) {k:Nat} (hk:dv.ownBlock=some k):∃ cs,w.heap[k]?=some (.cells cs 3 (0,0)):=by
 rcases h with ⟨h1,h2⟩|⟨h1,db,off,cap,cs,rfl,h2,h3,h4⟩
 .rcases h2.2 with ⟨rfl,_⟩|⟨g,cap,cur,rfl,hb,hg,rest⟩
  .simp [Value.ownBlock] at hk
  .have:g=k:=by simpa [Value.ownBlock] using hk
   exact ⟨_,this▸hg⟩
 .have:db=k:=by simpa [Value.ownBlock] using hk
  exact ⟨_,this▸h3⟩
theorem Ay {w:World} {base:Nat} {e:TypeId} {size n:Nat} {v:Value} {xs:List Value} (h:w.ownsRow base e size v n xs) {k:Nat} (hk:v.ownBlock=some k):∃ cs,w.heap[k]?=some (.cells cs e (0,0)):=by
 rcases h.2 with ⟨rfl,_⟩|⟨g,cap,cur,rfl,hb,hg,rest⟩
 .simp [Value.ownBlock] at hk
 .have:g=k:=by simpa [Value.ownBlock] using hk
  exact ⟨_,this▸hg⟩
theorem eP {w w1:World} (h:Below w.heap.size w w1):Over (fun _=>False) w w1:=Over.of_below _ h
namespace Ix
variable {A:Ad} {T:Td} {B:Nat→Prop} {w0 w w1:World} {fv:Value} {s:St} {l fs:List Fr} {f:Fr}
theorem off (h:Ix c tid A T B w0 fv s l w) {S:Nat→Prop} (ho:Over S w w1)
  (hS:∀ k,S k→w.heap.size≤k):Ix c tid A T B w0 fv s l w1:=by
 obtain ⟨g,aT,hm⟩:=h.mach
 obtain ⟨rv,dv,ht,hr,hd,hs1,hs2⟩:=h.thr
 have no:∀ k,k<w.heap.size→¬ S k:=fun k hk hs=>by have:=hS k hs;omega
 have hm1:IsMach c A s.mm g s.us aT w1:=hm.same ⟨ho.os,ho.tape,ho.output,ho.size,fun i hi=>ho.block i hi (no i hi)⟩
 exact ⟨⟨g,aT,hm1⟩,⟨rv,dv,ho.blk ht (no _ (Bb ht)),Bi hr ho (fun k hk=>no k (Gk hr k hk)),hd.over ho (fun k hk=>by obtain ⟨cs,hc⟩:=hd.type hk;exact no k (Bb hc)),hs1,hs2⟩,
  Bi h.frames ho (fun k hk=>no k (Gk h.frames k hk)),ho.blk h.pred (no _ (Bb h.pred)),ho.blk h.succ (no _ (Bb h.succ)),ho.blk h.wrd (no _ (Bb h.wrd)),h.prf,h.rets,h.fits,
  h.over.then_ ho (fun k hk=>Or.inr (Nat.le_trans h.over.size (hS k hk))),h.mayD,h.own,h.fvD,h.apart⟩
theorem same (h:Ix c tid A T B w0 fv s l w) (hb:Below w.heap.size w w1):Ix c tid A T B w0 fv s l w1:=h.off (eP hb) (fun _ hk=>hk.elim)
theorem drawn (h:Ix c tid A T B w0 fv s l w) (hd:Drawn0 w w1):Ix c tid A T B w0 fv s l w1:=h.same hd.below
theorem drew (h:Ix c tid A T B w0 fv s l w):Ix c tid A T B w0 fv s l w.drew:=h.same (Da (Below.refl _ _))
theorem alloc (h:Ix c tid A T B w0 fv s l w) (o:Obj):Ix c tid A T B w0 fv s l (w.alloc o):=h.same (Af (Below.refl _ _) _)
theorem step (h:Ix c tid A T B w0 fv s l w) {m:Loc→Int} {g:Gh} {us:Nat} {aT:Bool} (ho:Over A.may w w1) (hm1:IsMach c A m g us aT w1):Ix c tid A T B w0 fv {s with mm:=m,us:=us} l w1:=by
 obtain ⟨g0,acted0,hm⟩:=h.mach
 obtain ⟨rv,dv,ht,hr,hd,hs1,hs2⟩:=h.thr
 exact ⟨⟨g,aT,hm1⟩,⟨rv,dv,ho.blk ht (hm.may_not ht (.inl rfl)),Bi hr ho (fun k hk=>(hs1 k hk).1),hd.over ho (fun k hk=>(hs2 k hk).1),hs1,hs2⟩,
  Bi h.frames ho (fun k hk=>by obtain ⟨cs,hc⟩:=Ay h.frames hk;exact hm.may_not hc (.inr (.inl rfl))),
  ho.blk h.pred (hm.may_not h.pred (.inr (.inr ⟨rfl,h.apart.1⟩))),ho.blk h.succ (hm.may_not h.succ (.inr (.inr ⟨rfl,h.apart.2.1⟩))),ho.blk h.wrd (hm.may_not h.wrd (.inr (.inr ⟨rfl,h.apart.2.2.1⟩))),
  h.prf,h.rets,h.fits,h.over.then_ ho h.mayD,h.mayD,h.own,h.fvD,h.apart⟩
theorem put (h:Ix c tid A T B w0 fv s (f::fs) w) {fb cap:Nat} (hv:fv=.slice (some (Ψ fb 0)) (fs.length+1) cap) {f':Fr} (j:Nat) (v:Value) (hc:f.cells.set j v=f'.cells) (hf:f'.Fits) :
  Ix c tid A T B w0 fv s (f'::fs) (w.setCell (Ψ fb (fs.length*12+j)) v):=by
 obtain ⟨g,aT,hm⟩:=h.mach
 obtain ⟨rv,dv,ht,hr,hd,hs1,hs2⟩:=h.thr
 obtain ⟨cs,hcs⟩:=Ay h.frames (k:=fb) (by rw [hv];rfl)
 have ho:Over (fun k=>k=fb) w (w.setCell (Ψ fb (fs.length*12+j)) v):=(Over.refl (fun k=>k=fb) w).set_ (Or.inl rfl) _
 have hst:=h.frames
 rw [hv] at hst
 have h1:=(hst.stored (fs.length*12+j) v).1
 have e:(Ei (f::fs)).set (fs.length*12+j) v=Ei (f'::fs):=by
  show (Ei fs++f.cells).set _ v=Ei fs++f'.cells
  rw [List.set_append_right _ _ Λ150,Fl,Nat.add_sub_cancel_left,hc]
 rw [e,← hv] at h1
 have ne3:∀ k cs',w.heap[k]?=some (.cells cs' 3 (0,0))→¬ k=fb:=fun k cs' hk=>An hk hcs Zd
 exact ⟨⟨g,aT,hm.off ho (fun k hk=>⟨cs,111,hk▸hcs,.inr (.inl rfl)⟩)⟩,
  ⟨rv,dv,ho.blk ht (An ht hcs Zd),Bi hr ho (fun k hk=>by obtain ⟨cs',h2⟩:=Ay hr hk;exact ne3 k cs' h2),hd.over ho (fun k hk=>by obtain ⟨cs',h2⟩:=hd.type hk;exact ne3 k cs' h2),hs1,hs2⟩,h1,
  ho.blk h.pred (An h.pred hcs Zd),ho.blk h.succ (An h.succ hcs Zd),ho.blk h.wrd (An h.wrd hcs Zd),h.prf,h.rets,
  fun x hx=>by
   rcases List.mem_cons.1 hx with rfl|hx
   .exact hf
   .exact h.fits x (List.mem_cons_of_mem _ hx),
  h.over.then_ ho (fun k hk=>by rw [hk];exact h.fvD fb (by rw [hv];rfl)),h.mayD,h.own,h.fvD,h.apart⟩
theorem cell (h:Ix c tid A T B w0 fv s (f::fs) w) {fb cap:Nat} (hv:fv=.slice (some (Ψ fb 0)) (fs.length+1) cap) (j:Nat) (hj:j<12) :
  w.cell? (Ψ fb (fs.length*12+j))=f.cells[j]?∧w.frozen? (Ψ fb (fs.length*12+j))=false:=by
 have hst:=h.frames
 rw [hv] at hst
 obtain ⟨cs,hcs⟩:=Ay hst (k:=fb) rfl
 refine ⟨?_,Ab hcs _⟩
 have hl:j<f.cells.length:=hj
 have h1:=hst.cells (g:=fb) rfl (fs.length*12+j) f.cells[j] (by
  show (Ei fs++f.cells)[fs.length*12+j]?=_
  rw [List.getElem?_append_right Λ150,Fl,Nat.add_sub_cancel_left,List.getElem?_eq_getElem hl])
 rw [Dj] at h1
 rw [h1,List.getElem?_eq_getElem hl]
theorem top_slice (h:Ix c tid A T B w0 fv s (f::fs) w):∃ fb cap,fv=.slice (some (Ψ fb 0)) (fs.length+1) cap∧fs.length+1≤cap:=by
 rcases h.frames.2 with ⟨_,h0⟩|⟨g,cap,cur,rfl,hb,hg,h1,_⟩
 .cases h0
 .exact ⟨g,cap,rfl,h1⟩
end Ix
end
end Go.Proofs.YtlejhikddkdanaaGreat.Mdl
namespace Go.Proofs.YtlejhikddkdanaaGreat.Mdl
open RowKit PTopSame Wk Fns YtlejhikddkdanaaGreatW.PrintWords YtlejhikddkdanaaGreatW.PrintLast YtlejhikddkdanaaGreatW.PrintMore
variable {c:Cf} {tid:Int} {A:Ad} {T:Td} {B:Nat→Prop} {w0 w w1 w2 w6 w7:World} {fv fv':Value} {s s':St} {l l' fs:List Fr} {f f':Fr} {fb cap ga gb qb thb:Nat}
theorem Gb (n:Int) (h0:0≤n) (h1:n<2 ^ 64):IntKind.u64.wrap n=n:=by
 rw [IntKind.wrap_u64]
 omega
theorem Mn (x:Int) (h0:0≤x) (h1:x<18446744073709551616) (he:x % 2=0):Go.bits .or .u64 x 1=x+1:=
 bits_join .u64 64 Zd Gb 1 x 1 h0 Zo Zo Zd Zd Zd
theorem dG (x:Int) (h0:0≤x) (h1:x<18446744073709551616) (he:x % 2=1):Go.bits .or .u64 x 1=x:=by
 have h:=Mn (x-1) Zo Zo Zo
 obtain ⟨a,ha⟩:=Int.eq_ofNat_of_zero_le (show 0≤x-1 by omega)
 have hn:=(bits_nat .u64 64 Zd Gb a 1 Zo Zd).2
 rw [ha] at h
 have e:((a |||1:Nat):Int)=x:=by
  have:Go.bits .or .u64 (a:Int) 1=((a |||1:Nat):Int):=hn
  omega
 have hx:x=((a |||1:Nat):Int):=e.symm
 rw [hx]
 have hb:a |||1<2 ^ 64:=Zo
 have h2:=(bits_nat .u64 64 Zd Gb (a |||1) 1 hb Zd).2
 have h3:Go.bits .or .u64 ((a |||1:Nat):Int) 1=(((a |||1) |||1:Nat):Int):=h2
 rw [h3,Nat.or_assoc,Nat.or_self]
theorem oN (x:Int) (h0:0≤x) (h1:x<18446744073709551616):Go.bits .and .u64 x 1=x % 2:=
 bits_mask .u64 64 Zd Gb 1 Zd x h0 Zo
theorem oK (w:Int) (h:InU w):Go.bits .or .u64 w 1=w+1-w % 2:=by
 by_cases he:w % 2=0
 .rw [Mn w h.1 h.2 he];omega
 .rw [dG w h.1 h.2 Zo];omega
theorem InU.ptr (w:Int):InU (ptr w):=by unfold InU Mdl.ptr;omega
theorem InU.pack {p v:Int} (m:Bool) (h0:0≤p) (h1:p<65536) (h2:0≤v) (h3:v<140737488355328):InU (pack p m v):=by unfold InU Mdl.pack;cases m<;>simp<;>omega
theorem InU.next (w p:Int) (m:Bool):InU (next w p m):=by
 unfold Mdl.next
 exact InU.pack m Zo Zo Zo Zo
theorem Pw {w:Int} (h:InU w):word_Word_Ptr.f w=some (ptr w):=by
 obtain ⟨h0,h1⟩:=h
 unfold word_Word_Ptr.f Mdl.ptr
 rw [Int.tmod_eq_emod_of_nonneg Zo,w64 Zo Zo]
theorem Ro {w:Int} (h:InU w):word_Word_Mark.f w=some (mark w):=by
 unfold word_Word_Mark.f Mdl.mark
 rw [oN w h.1 h.2]
theorem nJ {p v:Int} (m:Bool) (h0:0≤p) (h1:p<65536) (h2:0≤v) (h3:v<140737488355328):word_pack.f p m v=some (pack p m v):=by
 have e1:Go.bits .or .u64 (v*131072) (p*2)=v*131072+p*2:=bits_join .u64 64 Zd Gb 17 _ _ Zo Zo Zo Zo Zo Zo
 unfold word_pack.f Mdl.pack
 rw [Gb (v*131072) Zo Zo,Gb (p*2) Zo Zo,e1]
 cases m
 .rw [if_neg Zd];simp
 .rw [if_pos rfl,Mn _ Zo Zo Zo];simp
theorem fI {w:Int} (h:InU w) (p:Int) (m:Bool):word_Word_Next.f w p m=some (next w p m):=by
 obtain ⟨h0,h1⟩:=h
 have e:IntKind.u64.wrap p % 65536=p % 65536:=by rw [IntKind.wrap_u64];omega
 have e0:0≤IntKind.u64.wrap p:=by rw [IntKind.wrap_u64];omega
 unfold word_Word_Next.f word_Word_Ver.f
 show (word_pack.f (Int.tmod (IntKind.u64.wrap p) 65536) m (Int.tmod (IntKind.u64.wrap (w / 131072+1)) 140737488355328)).bind _=_
 rw [Gb (w / 131072+1) Zo Zo,Int.tmod_eq_emod_of_nonneg e0,e,Int.tmod_eq_emod_of_nonneg Zo,nJ m Zo Zo Zo Zo]
 rfl
theorem sU {w:Int} (h:InU w) (W:World):Calls Tryz.prog 72 #[Γ w] W fun e W'=>e=.returned (Φ (ptr w))∧Drawn0 W W':=word_Word_Ptr.calls w _ W (Pw h)
theorem pY {w:Int} (h:InU w) (W:World):Calls Tryz.prog 212 #[Γ w] W fun e W'=>e=.returned (Φ (ptr w))∧Drawn0 W W':=arena_ptr.calls w _ W (by unfold arena_ptr.f;rw [Pw h];rfl)
theorem Ig (w:Int):IntKind.u64.wrap (ptr w)=ptr w:=Gb _ (InU.ptr w).1 (InU.ptr w).2
theorem pV {w:Int} (h:InU w) (W:World):Calls Tryz.prog 151 #[Γ w] W fun e W'=>e=.returned (Γ (ptr w))∧Drawn0 W W':=hazard_ptr.calls w _ W (by unfold hazard_ptr.f;rw [Pw h];show some (IntKind.u64.wrap (ptr w))=_;rw [Ig])
theorem pP {w:Int} (h:InU w) (W:World):Calls Tryz.prog 176 #[Γ w] W fun e W'=>e=.returned (Γ (ptr w))∧Drawn0 W W':=sundell_ptr.calls w _ W (by unfold sundell_ptr.f;rw [Pw h];show some (IntKind.u64.wrap (ptr w))=_;rw [Ig])
theorem pU {w:Int} (h:InU w) (W:World):Calls Tryz.prog 109 #[Γ w] W fun e W'=>e=.returned (Γ (ptr w))∧Drawn0 W W':=linden_ptr.calls w _ W (by unfold linden_ptr.f;rw [Pw h];show some (IntKind.u64.wrap (ptr w))=_;rw [Ig])
theorem pS {w:Int} (h:InU w) (W:World):Calls Tryz.prog 146 #[Γ w] W fun e W'=>e=.returned (.bool (mark w))∧Drawn0 W W':=word_Word_Mark.calls w _ W (Ro h)
theorem mV {w:Int} (h:InU w) (W:World):Calls Tryz.prog 175 #[Γ w] W fun e W'=>e=.returned (.bool (mark w))∧Drawn0 W W':=sundell_mark.calls w _ W (by unfold sundell_mark.f;rw [Ro h];rfl)
theorem mW {w:Int} (h:InU w) (W:World):Calls Tryz.prog 110 #[Γ w] W fun e W'=>e=.returned (.bool (mark w))∧Drawn0 W W':=linden_mark.calls w _ W (by unfold linden_mark.f;rw [Ro h];rfl)
theorem pR {w:Int} (h:InU w) (p:Int) (m:Bool) (W:World):Calls Tryz.prog 148 #[Γ w,Φ p,.bool m] W fun e W'=>e=.returned (Γ (next w p m))∧Drawn0 W W':=word_Word_Next.calls w p m _ W (fI h p m)
theorem jJ {w:Int} (h:InU w) (W:World):Calls Tryz.prog 181 #[Γ w] W fun e W'=>e=.returned (Γ (next w (ptr w) true))∧Drawn0 W W':=word_Word_Marked.calls w _ W (by
 unfold word_Word_Marked.f
 rw [Pw h]
 show (word_Word_Next.f w (ptr w) true).bind _=_
 rw [fI h]
 rfl)
theorem pW {w:Int} (h:InU w) (W:World):Calls Tryz.prog 178 #[Γ w] W fun e W'=>e=.returned (.bool (mark w))∧Drawn0 W W':=ord_Gone.calls w _ W (Ro h)
theorem pX {w:Int} (h:InU w) (W:World):Calls Tryz.prog 180 #[Γ w] W fun e W'=>e=.returned (Γ (w+1-w % 2))∧Drawn0 W W':=ord_Bury.calls w _ W (by unfold ord_Bury.f;rw [oK w h])
theorem sV (w:Int) (W:World):Calls Tryz.prog 194 #[Γ w] W fun e W'=>e=.returned (.int .u32 (w / 4294967296 % 4294967296))∧Drawn0 W W':=ord_Key.calls w _ W rfl
theorem sT (w:Int) (W:World):Calls Tryz.prog 218 #[Γ w] W fun e W'=>e=.returned (.int .u32 (w / 2 % 4294967296))∧Drawn0 W W':=ord_Val.calls w _ W rfl
theorem pT {a b:Int} (a0:0≤a) (a1:a<4294967296) (b0:0≤b) (b1:b<4294967296) (W:World):Calls Tryz.prog 169 #[.int .u32 a,.int .u32 b] W fun e W'=>e=.returned (Γ (a*4294967296+b))∧Drawn0 W W':=ord_Make.calls a b _ W (by
 unfold ord_Make.f
 rw [Gb a Zo Zo,Gb (a*4294967296) Zo Zo,Gb b Zo Zo]
 rw [bits_join .u64 64 Zd Gb 32 _ _ Zo Zo Zo b0 Zo Zo])
theorem pQ {a:Int} (a0:0≤a) (a1:a<4294967296) (W:World):Calls Tryz.prog 172 #[.int .u32 a,.bool false] W fun e W'=>e=.returned (Γ (a*2))∧Drawn0 W W':=ord_Pack.calls a false _ W (by
 unfold ord_Pack.f
 rw [if_neg Zd,Gb a Zo Zo,Gb (a*2) Zo Zo])
def Ha (c:Cf):Value:=.agg #[Φ c.algo,Φ c.th,Φ c.ns,Φ c.lv,Φ c.batch,Φ c.probes,Φ c.scan,Φ c.sl,Φ c.wI,Φ c.sE,Φ c.hZ,Φ c.lK,Φ c.nA,Φ c.tA,Φ c.size]
theorem Jz (k:Nat) (l:List S145) (n i:Int) (h1:i<n) (h0:0≤i) (h2:i<(l.length:Int)) (h3:(Dn l i).f1≤(Dn l i).f0) (h4:(Dn l i).f0≤(Dn l i).f2):plan_within.l0 (k+1) l n i=plan_within.l0 k l n (wrap64 (i+1)):=by
 conv=>lhs;unfold plan_within.l0
 rw [if_pos h1,if_pos h0,if_pos h2,if_neg Zo,if_neg Zo]
theorem Vp {a:S145} (h0:a.f1≤a.f0) (h1:a.f0≤a.f2):plan_within.f 4 [a]=some true:=by
 show plan_within.l0 4 [a] 1 0=_
 rw [Jz 3 [a] 1 0 (show (0:Int)<1 by decide) Zd (show (0:Int)<1 by decide) h0 h1,show wrap64 (0+1)=1 from w64 Zd Zd]
 unfold plan_within.l0
 rw [if_neg Zd]
theorem Rk {a b:S145} (h0:a.f1≤a.f0) (h1:a.f0≤a.f2) (h2:b.f1≤b.f0) (h3:b.f0≤b.f2):plan_within.f 4 [a,b]=some true:=by
 show plan_within.l0 4 [a,b] 2 0=_
 rw [Jz 3 [a,b] 2 0 (show (0:Int)<2 by decide) Zd (show (0:Int)<2 by decide) h0 h1,show wrap64 (0+1)=1 from w64 Zd Zd,Jz 2 [a,b] 2 1 (show (1:Int)<2 by decide) Zd (show (1:Int)<2 by decide) h2 h3,show wrap64 (1+1)=2 from w64 Zd Zd]
 unfold plan_within.l0
 rw [if_neg Zd]
theorem fH (W:World):Calls Tryz.prog 153 #[Ha c] W fun e W'=>e=.returned (Φ c.sl)∧Below W.heap.size W W':=(plan_Plan_Slots.calls c.algo c.th c.ns c.lv c.batch c.probes c.scan c.sl c.wI c.sE c.hZ c.lK c.nA c.tA c.size _ W rfl)
theorem kG (W:World):Calls Tryz.prog 65 #[Ha c] W fun e W'=>e=.returned (.agg #[Φ c.algo,Φ c.th,Φ c.ns,Φ c.lv,Φ c.batch,Φ c.probes,Φ c.scan])∧Below W.heap.size W W':=(plan_Plan_Conf.calls c.algo c.th c.ns c.lv c.batch c.probes c.scan c.sl c.wI c.sE c.hZ c.lK c.nA c.tA c.size _ _ _ _ _ _ _ W rfl)
theorem kF (G:Good c tid) {n:Int} (h:c.has (.link n)=true) (W:World):Calls Tryz.prog 68 #[Ha c,Φ n] W fun e W'=>e=.returned (Φ (c.addr (.link n)))∧Below W.heap.size W W':=by
 refine plan_Plan_Link.calls 4 c.algo c.th c.ns c.lv c.batch c.probes c.scan c.sl c.wI c.sE c.hZ c.lK c.nA c.tA c.size n _ W ?_
 have h1:=of_decide_eq_true h
 have ho:=Ft G
 have hn:=(Dy G).ns
 unfold plan_Plan_Link.f
 rw [Vp h1.1 h1.2]
 rw [Option.bind_some,if_pos rfl,w64 (x:=c.lK+n) Zo Zo,w64 Zo Zo]
 rfl
theorem Wj (G:Good c tid) {n f:Int} (h:c.has (.nd n f)=true) (W:World):Calls Tryz.prog 69 #[Ha c,Φ n,Φ f] W fun e W'=>e=.returned (Φ (c.addr (.nd n f)))∧Below W.heap.size W W':=by
 refine plan_Plan_Node.calls 4 c.algo c.th c.ns c.lv c.batch c.probes c.scan c.sl c.wI c.sE c.hZ c.lK c.nA c.tA c.size n f _ W ?_
 have h1:=of_decide_eq_true h
 have ho:=Ft G
 have hb:=Dy G
 have hn:=hb.ns
 have hw:=hb.wI
 have ha:=Qi G h
 have e:c.addr (.nd n f)=c.nA+(n-1)*c.wI+f:=rfl
 have h3:=Ks (d:=c.wI) (show 0≤n-1 by omega) Zo
 unfold plan_Plan_Node.f
 rw [w64 (x:=c.wI-1) Zo Zo,Rk h1.1 h1.2.1 h1.2.2.1 (show f≤c.wI-1 by omega)]
 rw [Option.bind_some,if_pos rfl,w64 (x:=n-1) Zo Zo,w64 (x:=(n-1)*c.wI) Zo Zo,w64 (x:=c.nA+(n-1)*c.wI) Zo Zo,w64 Zo Zo]
 rfl
theorem qO (G:Good c tid) {p:Int} (h:c.has (.tr p)=true) (W:World):Calls Tryz.prog 127 #[Ha c,Φ p] W fun e W'=>e=.returned (Φ (c.addr (.tr p)))∧Below W.heap.size W W':=by
 refine plan_Plan_Tree.calls c.algo c.th c.ns c.lv c.batch c.probes c.scan c.sl c.wI c.sE c.hZ c.lK c.nA c.tA c.size p _ W ?_
 have h1:=of_decide_eq_true h
 have ho:=Ft G
 unfold plan_Plan_Tree.f
 rw [if_neg Zo,w64 (x:=c.size-c.tA) Zo Zo,if_neg Zo,w64 Zo Zo]
 rfl
theorem pB (G:Good c tid) {t i:Int} (h:c.has (.haz t i)=true) (W:World):Calls Tryz.prog 152 #[Ha c,Φ t,Φ i] W fun e W'=>e=.returned (Φ (c.addr (.haz t i)))∧Below W.heap.size W W':=by
 refine plan_Plan_Hazard.calls 4 c.algo c.th c.ns c.lv c.batch c.probes c.scan c.sl c.wI c.sE c.hZ c.lK c.nA c.tA c.size t i _ W ?_
 have h1:=of_decide_eq_true h
 have ho:=Ft G
 have hb:=Dy G
 have ht:=G.th
 have ha:=Tu G h
 have hs:=hb.sl
 have e:c.addr (.haz t i)=c.hZ+t*c.sl+i:=rfl
 have h3:=Ks (d:=c.sl) h1.1 Zo
 have hz:(c.sl==0)=false:=by rw [beq_eq_false_iff_ne];omega
 unfold plan_Plan_Hazard.f
 rw [if_neg (by rw [hz];simp),w64 (x:=c.th-1) Zo Zo,w64 (x:=c.sl-1) Zo Zo,Rk h1.1 (show t≤c.th-1 by omega) h1.2.2.1 (show i≤c.sl-1 by omega)]
 rw [Option.bind_some,if_pos rfl,w64 (x:=t*c.sl) Zo Zo,w64 (x:=c.hZ+t*c.sl) Zo Zo,w64 Zo Zo]
 rfl
theorem InU.zero:InU 0:=⟨Zd,Zd⟩
theorem vG (G:Good c tid) {x:Loc} (hx:c.has x=true) (H:Ix c tid A T B w0 fv s l w) :
  Calls Tryz.prog 73 #[.pointer (some (Ψ A.mb 0)),Φ (c.addr x)] w fun e w'=>e=.returned (Γ (s.mm x))∧Ix c tid A T B w0 fv s l w':=by
 obtain ⟨g,a,hm⟩:=H.mach
 refine (pE G A _ g _ a x w hm hx).mono ?_
 rintro e w' ⟨rfl,h1,h2⟩
 exact ⟨rfl,H.step h2 h1⟩
theorem Li (G:Good c tid) {x:Loc} {a:Int} (ha:c.addr x=a) (hx:c.has x=true) (H:Ix c tid A T B w0 fv s l w) :
  Calls Tryz.prog 73 #[.pointer (some (Ψ A.mb 0)),Φ a] w fun e w'=>e=.returned (Γ (s.mm x))∧Ix c tid A T B w0 fv s l w':=by
 rw [← ha]
 exact vG G hx H
theorem rU (G:Good c tid) {x:Loc} {v:Int} (hx:c.has x=true) (hv:InU v) (H:Ix c tid A T B w0 fv s l w) :
  Calls Tryz.prog 132 #[.pointer (some (Ψ A.mb 0)),Φ (c.addr x),Γ v] w fun e w'=>e=.returned (.tuple #[])∧Ix c tid A T B w0 fv (s.put x v) l w':=by
 obtain ⟨g,a,hm⟩:=H.mach
 refine (qX G A _ g _ a x v w hm hx hv).mono ?_
 rintro e w' ⟨rfl,h1,h2⟩
 exact ⟨rfl,H.step h2 h1⟩
theorem mM (G:Good c tid) {x:Loc} {o v:Int} (hx:c.has x=true) (hv:InU v) (ho:s.mm x=o) (H:Ix c tid A T B w0 fv s l w) :
  Calls Tryz.prog 139 #[.pointer (some (Ψ A.mb 0)),Φ (c.addr x),Γ o,Γ v] w fun e w'=>e=.returned (.bool true)∧Ix c tid A T B w0 fv (s.put x v) l w':=by
 obtain ⟨g,a,hm⟩:=H.mach
 refine (uA G A _ g _ a x o v w hm hx hv).mono ?_
 rintro e w' ⟨rfl,h1,h2⟩
 have e1:(s.mm x==o)=true:=by rw [beq_iff_eq];exact ho
 have e2:mA s.mm x o v=upd s.mm x v:=if_pos ho
 rw [e2] at h1
 exact ⟨by rw [e1],H.step h2 h1⟩
theorem jE (G:Good c tid) {x:Loc} {o v:Int} (hx:c.has x=true) (hv:InU v) (ho:¬ s.mm x=o) (H:Ix c tid A T B w0 fv s l w) :
  Calls Tryz.prog 139 #[.pointer (some (Ψ A.mb 0)),Φ (c.addr x),Γ o,Γ v] w fun e w'=>e=.returned (.bool false)∧Ix c tid A T B w0 fv s l w':=by
 obtain ⟨g,a,hm⟩:=H.mach
 refine (uA G A _ g _ a x o v w hm hx hv).mono ?_
 rintro e w' ⟨rfl,h1,h2⟩
 have e1:(s.mm x==o)=false:=by rw [beq_eq_false_iff_ne];exact ho
 have e2:mA s.mm x o v=s.mm:=if_neg ho
 rw [e2] at h1
 exact ⟨by rw [e1],H.step h2 h1⟩
theorem wH (G:Good c tid) {x:Loc} {d:Int} (hx:c.has x=true) (H:Ix c tid A T B w0 fv s l w) :
  Calls Tryz.prog 114 #[.pointer (some (Ψ A.mb 0)),Φ (c.addr x),Γ d] w fun e w'=>e=.returned (Γ (s.mm x))∧Ix c tid A T B w0 fv (s.put x (u64 (s.mm x+d))) l w':=by
 obtain ⟨g,a,hm⟩:=H.mach
 refine (vX G A _ g _ a x d w hm hx).mono ?_
 rintro e w' ⟨rfl,h1,h2⟩
 have e1:IntKind.u64.wrap (s.mm x+d)=u64 (s.mm x+d):=by rw [IntKind.wrap_u64];rfl
 rw [e1] at h1
 exact ⟨rfl,H.step h2 h1⟩
theorem jC (G:Good c tid) {x y:Loc} {o v q:Int} (hx:c.has x=true) (hy:c.has y=true) (hkx:kd x≠3) (hky:kd y≠3) (hv:InU v) (ho:s.mm x=o) (hq:s.mm y=q) (H:Ix c tid A T B w0 fv s l w) :
  Calls Tryz.prog 147 #[.pointer (some (Ψ A.mb 0)),Φ (c.addr x),Γ o,Γ v,Φ (c.addr y),Γ q] w fun e w'=>e=.returned (.bool true)∧Ix c tid A T B w0 fv (s.put x v) l w':=by
 obtain ⟨g,a,hm⟩:=H.mach
 refine (pG G A _ g _ a x y o v q w hm hx hy hkx hky hv).mono ?_
 rintro e w' ⟨rfl,h1,h2⟩
 have e2:bM s.mm x o v y q=upd s.mm x v:=if_pos ⟨ho,hq⟩
 rw [e2] at h1
 exact ⟨by rw [ho,hq];simp,H.step h2 h1⟩
theorem eR (G:Good c tid) {x y:Loc} {o v q:Int} (hx:c.has x=true) (hy:c.has y=true) (hkx:kd x≠3) (hky:kd y≠3) (hv:InU v) (ho:¬ (s.mm x=o∧s.mm y=q)) (H:Ix c tid A T B w0 fv s l w) :
  Calls Tryz.prog 147 #[.pointer (some (Ψ A.mb 0)),Φ (c.addr x),Γ o,Γ v,Φ (c.addr y),Γ q] w fun e w'=>e=.returned (.bool false)∧Ix c tid A T B w0 fv s l w':=by
 obtain ⟨g,a,hm⟩:=H.mach
 refine (pG G A _ g _ a x y o v q w hm hx hy hkx hky hv).mono ?_
 rintro e w' ⟨rfl,h1,h2⟩
 have e2:bM s.mm x o v y q=s.mm:=if_neg ho
 rw [e2] at h1
 have e1:(s.mm x==o && s.mm y==q)=false:=by
  rw [Bool.and_eq_false_iff,beq_eq_false_iff_ne,beq_eq_false_iff_ne]
  exact Classical.not_and_iff_not_or_not.1 ho
 exact ⟨by rw [e1],H.step h2 h1⟩
theorem jD (G:Good c tid) {x y:Loc} {o v q r:Int} (hx:c.has x=true) (hy:c.has y=true) (hkx:kd x≠3) (hky:kd y≠3) (hxy:x≠y) (hv:InU v) (hr:InU r) (ho:s.mm x=o) (hq:s.mm y=q) (H:Ix c tid A T B w0 fv s l w) :
  Calls Tryz.prog 149 #[.pointer (some (Ψ A.mb 0)),Φ (c.addr x),Γ o,Γ v,Φ (c.addr y),Γ q,Γ r] w fun e w'=>e=.returned (.bool true)∧Ix c tid A T B w0 fv ((s.put x v).put y r) l w':=by
 obtain ⟨g,a,hm⟩:=H.mach
 refine (pH G A _ g _ a x y o v q r w hm hx hy hkx hky hxy hv hr).mono ?_
 rintro e w' ⟨rfl,h1,h2⟩
 have e2:bN s.mm x o v y q r=upd (upd s.mm x v) y r:=if_pos ⟨ho,hq⟩
 rw [e2] at h1
 exact ⟨by rw [ho,hq];simp,H.step h2 h1⟩
theorem eS (G:Good c tid) {x y:Loc} {o v q r:Int} (hx:c.has x=true) (hy:c.has y=true) (hkx:kd x≠3) (hky:kd y≠3) (hxy:x≠y) (hv:InU v) (hr:InU r) (ho:¬ (s.mm x=o∧s.mm y=q)) (H:Ix c tid A T B w0 fv s l w) :
  Calls Tryz.prog 149 #[.pointer (some (Ψ A.mb 0)),Φ (c.addr x),Γ o,Γ v,Φ (c.addr y),Γ q,Γ r] w fun e w'=>e=.returned (.bool false)∧Ix c tid A T B w0 fv s l w':=by
 obtain ⟨g,a,hm⟩:=H.mach
 refine (pH G A _ g _ a x y o v q r w hm hx hy hkx hky hxy hv hr).mono ?_
 rintro e w' ⟨rfl,h1,h2⟩
 have e2:bN s.mm x o v y q r=s.mm:=if_neg ho
 rw [e2] at h1
 have e1:(s.mm x==o && s.mm y==q)=false:=by
  rw [Bool.and_eq_false_iff,beq_eq_false_iff_ne,beq_eq_false_iff_ne]
  exact Classical.not_and_iff_not_or_not.1 ho
 exact ⟨by rw [e1],H.step h2 h1⟩
theorem pK (H:Ix c tid A T B w0 fv s l w) :
  Calls Tryz.prog 115 #[.pointer (some (Ψ A.mb 0))] w fun e w'=>e=.returned (Ha c)∧Ix c tid A T B w0 fv s l w':=by
 obtain ⟨g,a,hm⟩:=H.mach
 refine (tW A _ g _ a w hm).mono ?_
 rintro e w' ⟨rfl,h1⟩
 exact ⟨rfl,H.same h1⟩
theorem vI (H:Ix c tid A T B w0 fv s l w) :
  Calls Tryz.prog 134 #[.pointer (some (Ψ A.mb 0))] w fun e w'=>e=.returned (.pointer (some (Ψ A.fb 0)))∧Ix c tid A T B w0 fv s l w':=by
 obtain ⟨g,a,hm⟩:=H.mach
 refine (tZ A _ g _ a w hm).mono ?_
 rintro e w' ⟨rfl,rfl⟩
 exact ⟨rfl,H⟩
theorem vF {n:Int} (hu:s.us<1000000) (hn:1≤n) (H:Ix c tid A T B w0 fv s l w) :
  Calls Tryz.prog 135 #[.pointer (some (Ψ A.fb 0)),Φ n] w fun e w'=>e=.returned (Φ (take c s % n))∧Ix c tid A T B w0 fv {s with us:=s.us+1} l w':=by
 obtain ⟨g,a,hm⟩:=H.mach
 refine (dL A.fb A.bb s.us c.bytes n w hm.feed hu hn).mono ?_
 rintro e w' ⟨rfl,h1,h2⟩
 exact ⟨rfl,H.step (h2.mono (fun k hk=>Or.inr (Or.inr (Or.inr (Or.inl hk))))) (hm.feed_ h2 h1)⟩
theorem vB (i:Int) (H:Ix c tid A T B w0 fv s l w) :
  Calls Tryz.prog 214 #[.pointer (some (Ψ A.mb 0)),Φ i] w fun e w'=>e=.returned (.tuple #[])∧Ix c tid A T B w0 fv s l w':=by
 obtain ⟨g,a,hm⟩:=H.mach
 refine (tU A _ g _ a i w hm).mono ?_
 rintro e w' ⟨rfl,h1,h2⟩
 exact ⟨rfl,H.step h2 h1⟩
theorem vH (i:Int) (H:Ix c tid A T B w0 fv s l w) :
  Calls Tryz.prog 154 #[.pointer (some (Ψ A.mb 0)),Φ i] w fun e w'=>e=.returned (.tuple #[])∧Ix c tid A T B w0 fv s l w':=by
 obtain ⟨g,a,hm⟩:=H.mach
 refine (tY A _ g _ a i w hm).mono ?_
 rintro e w' ⟨rfl,h1,h2⟩
 exact ⟨rfl,H.step h2 h1⟩
theorem rY (i:Int) (H:Ix c tid A T B w0 fv s l w) :
  Calls Tryz.prog 215 #[.pointer (some (Ψ A.mb 0)),Φ i] w fun e w'=>e=.returned (.tuple #[])∧Ix c tid A T B w0 fv s l w':=by
 obtain ⟨g,a,hm⟩:=H.mach
 refine (rA A _ g _ a i w hm).mono ?_
 rintro e w' ⟨rfl,h1,h2⟩
 exact ⟨rfl,H.step h2 h1⟩
theorem vA {fb cap:Nat} (hn:fs.length<1000) (H:IT c tid A T B w0 fb cap s f fs w) :
  Calls Tryz.prog 40 #[.pointer (some (Ψ T.tb 0))] w fun e w'=>e=.returned (.pointer (some (Ψ fb (fs.length*12))))∧Ix c tid A T B w0 (.slice (some (Ψ fb 0)) (fs.length+1) cap) s (f::fs) w':=by
 obtain ⟨rv,dv,ht,_⟩:=H.thr
 refine (gA T.tb fb fs.length cap w ((Aa ht 1).trans rfl) hn).mono ?_
 rintro e w' ⟨rfl,h1⟩
 exact ⟨rfl,H.drawn h1⟩
theorem dF {w:World} {base:Nat} {e:TypeId} {size n n' g cap:Nat} {xs ys:List Value} (h:w.ownsRow base e size (.slice (some (Ψ g 0)) n cap) n (xs++ys)) (hx:xs.length=n'*size) (hn:n'≤n):w.ownsRow base e size (.slice (some (Ψ g 0)) n' cap) n' xs:=by
 refine ⟨hx,?_⟩
 rcases h.2 with ⟨h',_⟩|⟨g',cap',cur,h',hb,hg,hnc,hcm,hcs,ht⟩
 .simp at h'
 .injection h' with h1 h2 h3
  subst h3
  refine .inr ⟨g',_,cur,by rw [h1],hb,hg,Zo,hcm,hcs,?_⟩
  have h5:(cur.toList.take (n*size)).take (n'*size)=xs:=by
   rw [ht,← hx,List.take_left]
  rw [List.take_take] at h5
  rw [Nat.min_eq_left (Nat.mul_le_mul_right _ hn)] at h5
  exact h5
theorem Ix.cells_ (H:Ix c tid A T B w0 fv s l w) (ho:Over (fun k=>k=T.tb) w w1) {fv':Value} {s':St} {l':List Fr} {rv dv:Value}
  (h0:w.heap[T.tb]?=some (.cells #[Φ tid,fv,Γ s.ret0,Γ s.ret1,Γ s.ret2,.slice (some (Ψ T.pr 0)) c.lv.toNat c.lv.toNat,.slice (some (Ψ T.sc 0)) c.lv.toNat c.lv.toNat,.slice (some (Ψ T.wd 0)) c.lv.toNat c.lv.toNat,rv,dv] 104 (0,0)))
  (h1:w1.heap[T.tb]?=some (.cells #[Φ tid,fv',Γ s'.ret0,Γ s'.ret1,Γ s'.ret2,.slice (some (Ψ T.pr 0)) c.lv.toNat c.lv.toNat,.slice (some (Ψ T.sc 0)) c.lv.toNat c.lv.toNat,.slice (some (Ψ T.wd 0)) c.lv.toNat c.lv.toNat,rv,dv] 104 (0,0)))
  (hf:w.ownsRow 0 111 12 fv' l'.length (Ei l')) (hfit:∀ f ∈ l',f.Fits) (hD:∀ k,fv'.ownBlock=some k→B k∨w0.heap.size≤k)
  (e1:s'.mm=s.mm) (e2:s'.us=s.us) (e3:s'.pred=s.pred) (e4:s'.succ=s.succ) (e5:s'.wrd=s.wrd) (e6:s'.rt=s.rt) (e7:s'.found=s.found) (e8:s'.moved=s.moved) (hr:InU s'.ret0∧InU s'.ret1∧InU s'.ret2):Ix c tid A T B w0 fv' s' l' w1:=by
 obtain ⟨g,aT,hm⟩:=H.mach
 obtain ⟨rv',dv',ht,hrr,hd,hs1,hs2⟩:=H.thr
 rw [ht] at h0
 injection h0 with h0
 injection h0 with h0
 have hrv:rv'=rv:=by have:=congrArg (fun a:Array Value=>a[8]?) h0;simpa using this
 have hdv:dv'=dv:=by have:=congrArg (fun a:Array Value=>a[9]?) h0;simpa using this
 subst hrv hdv
 have nt:∀ (k:Nat) (cs:Array Value) (e:TypeId),w.heap[k]?=some (.cells cs e (0,0))→e≠104→¬ k=T.tb:=fun k cs e hk he=>An hk ht he
 refine ⟨⟨g,aT,by rw [e1,e2];exact hm.off ho (fun k hk=>⟨_,104,hk▸ht,.inl rfl⟩)⟩,⟨rv',dv',h1,by rw [e6];exact Bi hrr ho (fun k hk=>by obtain ⟨cs,h2⟩:=Ay hrr hk;exact nt k cs 3 h2 Zd),?_,hs1,hs2⟩,
  Bi hf ho (fun k hk=>by obtain ⟨cs,h2⟩:=Ay hf hk;exact nt k cs 111 h2 Zd),by rw [e3];exact ho.blk H.pred (nt _ _ _ H.pred Zd),by rw [e4];exact ho.blk H.succ (nt _ _ _ H.succ Zd),by rw [e5];exact ho.blk H.wrd (nt _ _ _ H.wrd Zd),
  by rw [e3,e4,e5];exact H.prf,hr,hfit,H.over.then_ ho (fun k hk=>by rw [hk];exact H.own.1),H.mayD,H.own,hD,H.apart⟩
 have h2:=hd.over ho (fun k hk=>by obtain ⟨cs,h2⟩:=hd.type hk;exact nt k cs 3 h2 Zd)
 unfold IsFound at h2 ⊢
 rw [e7,e8]
 exact h2
theorem Ho {fb cap:Nat} (H:IT c tid A T B w0 fb cap s f fs w):w.ownsRow 0 111 12 (.slice (some (Ψ fb 0)) fs.length cap) fs.length (Ei fs):=by
 have h:=H.frames
 exact dF (show w.ownsRow 0 111 12 (.slice (some (Ψ fb 0)) (fs.length+1) cap) (fs.length+1) (Ei fs++f.cells) from h) (Fl fs) Zo
theorem Qg {fb cap:Nat} (H:IT c tid A T B w0 fb cap s f fs w):fs.length+1≤cap:=by
 obtain ⟨g,cp,h1,h2⟩:=H.top_slice
 injection h1 with _ _ h3
 rw [h3]
 exact h2
theorem mK {fb cap:Nat} (hn:fs.length<1000) (H:IT c tid A T B w0 fb cap s f fs w) :
  Calls Tryz.prog 41 #[.pointer (some (Ψ T.tb 0)),.slice none 0 0] w fun e w'=>e=.returned (.tuple #[])∧Ix c tid A T B w0 (.slice (some (Ψ fb 0)) fs.length cap) (s.told 0 0 0) fs w':=by
 obtain ⟨rv,dv,ht,_⟩:=H.thr
 refine (Sp T.tb fb fs.length cap _ _ _ _ _ _ _ rv dv w ht hn (Qg H)).mono ?_
 rintro e w' ⟨rfl,h1,h2⟩
 exact ⟨rfl,H.cells_ h2 ht h1 (Ho H) (fun x hx=>H.fits x (List.mem_cons_of_mem _ hx)) H.fvD rfl rfl rfl rfl rfl rfl rfl rfl ⟨InU.zero,InU.zero,InU.zero⟩⟩
theorem vC {fb cap gl:Nat} {v0:Int} (hn:fs.length<1000) (h0:InU v0) (hg:w.heap[gl]?=some (.cells #[Γ v0] 82 (0,0))) (H:IT c tid A T B w0 fb cap s f fs w) :
  Calls Tryz.prog 41 #[.pointer (some (Ψ T.tb 0)),.slice (some (Ψ gl 0)) 1 1] w fun e w'=>e=.returned (.tuple #[])∧Ix c tid A T B w0 (.slice (some (Ψ fb 0)) fs.length cap) (s.told v0 0 0) fs w':=by
 obtain ⟨rv,dv,ht,_⟩:=H.thr
 refine (So T.tb fb fs.length cap _ _ _ _ _ _ _ rv dv gl v0 w hg ht hn (Qg H)).mono ?_
 rintro e w' ⟨rfl,h1,h2⟩
 exact ⟨rfl,H.cells_ h2 ht h1 (Ho H) (fun x hx=>H.fits x (List.mem_cons_of_mem _ hx)) H.fvD rfl rfl rfl rfl rfl rfl rfl rfl ⟨h0,InU.zero,InU.zero⟩⟩
theorem Ix.pushed (H:Ix c tid A T B w0 fv s l w) {f:Fr} (hf:f.Fits) {g cap:Nat} {rv dv:Value}
  (h0:w.heap[T.tb]?=some (.cells #[Φ tid,fv,Γ s.ret0,Γ s.ret1,Γ s.ret2,.slice (some (Ψ T.pr 0)) c.lv.toNat c.lv.toNat,.slice (some (Ψ T.sc 0)) c.lv.toNat c.lv.toNat,.slice (some (Ψ T.wd 0)) c.lv.toNat c.lv.toNat,rv,dv] 104 (0,0)))
  (h1:w1.heap[T.tb]?=some (.cells #[Φ tid,.slice (some (Ψ g 0)) (l.length+1) cap,Γ s.ret0,Γ s.ret1,Γ s.ret2,.slice (some (Ψ T.pr 0)) c.lv.toNat c.lv.toNat,.slice (some (Ψ T.sc 0)) c.lv.toNat c.lv.toNat,.slice (some (Ψ T.wd 0)) c.lv.toNat c.lv.toNat,rv,dv] 104 (0,0)))
  (h2:w1.ownsRow 0 111 12 (.slice (some (Ψ g 0)) (l.length+1) cap) (l.length+1) (Ei l++f.cells)) (ho:Over (fun k=>k=T.tb∨fv.ownBlock=some k) w w1) (hg:fv.ownBlock=some g∨w.heap.size≤g) :
  Ix c tid A T B w0 (.slice (some (Ψ g 0)) (l.length+1) cap) s (f::l) w1:=by
 obtain ⟨gh,aT,hm⟩:=H.mach
 obtain ⟨rv',dv',ht,hrr,hd,hs1,hs2⟩:=H.thr
 rw [ht] at h0
 injection h0 with h0
 injection h0 with h0
 have hrv:rv'=rv:=by have:=congrArg (fun a:Array Value=>a[8]?) h0;simpa using this
 have hdv:dv'=dv:=by have:=congrArg (fun a:Array Value=>a[9]?) h0;simpa using this
 subst hrv hdv
 have nt:∀ (k:Nat) (cs:Array Value) (e:TypeId),w.heap[k]?=some (.cells cs e (0,0))→e≠104→e≠111→¬ (k=T.tb∨fv.ownBlock=some k):=fun k cs e hk he he2 hh=>hh.elim (An hk ht he) (fun h3=>by
  obtain ⟨cs',h4⟩:=Ay H.frames h3
  exact An hk h4 he2 rfl)
 exact ⟨⟨gh,aT,hm.off ho (fun k hk=>hk.elim (fun hk=>⟨_,104,hk▸ht,.inl rfl⟩) (fun hk=>by obtain ⟨cs',h4⟩:=Ay H.frames hk;exact ⟨_,111,h4,.inr (.inl rfl)⟩))⟩,
  ⟨rv',dv',h1,Bi hrr ho (fun k hk=>by obtain ⟨cs,h2⟩:=Ay hrr hk;exact nt k cs 3 h2 Zd Zd),hd.over ho (fun k hk=>by obtain ⟨cs,h2⟩:=hd.type hk;exact nt k cs 3 h2 Zd Zd),hs1,hs2⟩,
  h2,ho.blk H.pred (nt _ _ _ H.pred Zd Zd),ho.blk H.succ (nt _ _ _ H.succ Zd Zd),ho.blk H.wrd (nt _ _ _ H.wrd Zd Zd),H.prf,H.rets,
  fun x hx=>by
   rcases List.mem_cons.1 hx with rfl|hx
   .exact hf
   .exact H.fits x hx,
  H.over.then_ ho (fun k hk=>hk.elim (fun hk=>by rw [hk];exact H.own.1) (fun hk=>H.fvD k hk)),H.mayD,H.own,
  fun k hk=>by
   have:g=k:=by simpa [Value.ownBlock] using hk
   subst this
   exact hg.elim (fun h=>H.fvD g h) (fun h=>Or.inr (Nat.le_trans H.over.size h)),H.apart⟩
def Stays (fv:Value) (l:List Fr) (w:World):Prop:=∀ b i u,fv.ownBlock=some b→(Ei l)[i]?=some u→w.cell? (Ψ b i)=some u
theorem Rt {fn pc:Nat} {r0 r1:Int} (h1:fn<1000) (h2:pc<100000) (h3:InU r0) (h4:InU r1):({fn:=fn,pc:=pc,r0:=r0,r1:=r1}:Fr).Fits:=⟨h1,h2,h3,h4,InU.zero,InU.zero,InU.zero,InU.zero,InU.zero,InU.zero,InU.zero,InU.zero⟩
theorem rV {fn:Nat} (hn:l.length<1000) (hf:fn<1000) (H:Ix c tid A T B w0 fv s l w) :
  Calls Tryz.prog 58 #[.pointer (some (Ψ T.tb 0)),Φ (fn:Int),.slice none 0 0] w fun e w'=>e=.returned (.tuple #[])∧∃ g cap,Ix c tid A T B w0 (.slice (some (Ψ g 0)) (l.length+1) cap) s ({fn:=fn,pc:=0}::l) w'∧Stays fv l w':=by
 obtain ⟨rv,dv,ht,_⟩:=H.thr
 refine (Zh T.tb 0 l.length fn _ _ _ _ _ _ _ _ rv dv _ w ht hn H.frames (Nat.zero_le _)).mono ?_
 rintro e w' ⟨rfl,g,cap,h1,h2,h3,h4,h5⟩
 exact ⟨rfl,g,cap,H.pushed (f:={fn:=fn,pc:=0}) (Rt hf Zd InU.zero InU.zero) ht h1 h2 h3 h4,h5⟩
theorem mI {fn gl:Nat} {v0:Int} (hn:l.length<1000) (hf:fn<1000) (h0:InU v0) (hg:w.heap[gl]?=some (.cells #[Γ v0] 82 (0,0))) (H:Ix c tid A T B w0 fv s l w) :
  Calls Tryz.prog 58 #[.pointer (some (Ψ T.tb 0)),Φ (fn:Int),.slice (some (Ψ gl 0)) 1 1] w fun e w'=>e=.returned (.tuple #[])∧∃ g cap,Ix c tid A T B w0 (.slice (some (Ψ g 0)) (l.length+1) cap) s ({fn:=fn,pc:=0,r0:=v0}::l) w'∧Stays fv l w':=by
 obtain ⟨rv,dv,ht,_⟩:=H.thr
 refine (Qq T.tb 0 l.length fn _ _ _ _ _ _ _ _ rv dv _ gl v0 w hg ht hn H.frames (Nat.zero_le _)).mono ?_
 rintro e w' ⟨rfl,g,cap,h1,h2,h3,h4,h5⟩
 exact ⟨rfl,g,cap,H.pushed (f:={fn:=fn,pc:=0,r0:=v0}) (Rt hf Zd h0 InU.zero) ht h1 h2 h3 h4,h5⟩
theorem mH {fn gl:Nat} {v0 v1:Int} (hn:l.length<1000) (hf:fn<1000) (h0:InU v0) (h1:InU v1) (hg:w.heap[gl]?=some (.cells #[Γ v0,Γ v1] 82 (0,0))) (H:Ix c tid A T B w0 fv s l w) :
  Calls Tryz.prog 58 #[.pointer (some (Ψ T.tb 0)),Φ (fn:Int),.slice (some (Ψ gl 0)) 2 2] w fun e w'=>e=.returned (.tuple #[])∧∃ g cap,Ix c tid A T B w0 (.slice (some (Ψ g 0)) (l.length+1) cap) s ({fn:=fn,pc:=0,r0:=v0,r1:=v1}::l) w'∧Stays fv l w':=by
 obtain ⟨rv,dv,ht,_⟩:=H.thr
 refine (Zg T.tb 0 l.length fn _ _ _ _ _ _ _ _ rv dv _ gl v0 v1 w hg ht hn H.frames (Nat.zero_le _)).mono ?_
 rintro e w' ⟨rfl,g,cap,h5,h2,h3,h4,h6⟩
 exact ⟨rfl,g,cap,H.pushed (f:={fn:=fn,pc:=0,r0:=v0,r1:=v1}) (Rt hf Zd h0 h1) ht h5 h2 h3 h4,h6⟩
end Go.Proofs.YtlejhikddkdanaaGreat.Mdl
namespace Go.Proofs.YtlejhikddkdanaaGreat.Mdl
open RowKit Wk Fns YtlejhikddkdanaaGreatW.PrintWords YtlejhikddkdanaaGreatW.PrintLast YtlejhikddkdanaaGreatW.PrintMore
variable {c:Cf} {tid:Int}
variable {A:Ad} {T:Td} {B:Nat→Prop} {w0 w w1:World} {fv:Value} {s:St} {l fs:List Fr} {f:Fr} {fb cap:Nat}
theorem Ix.c0 (H:Ix c tid A T B w0 (.slice (some (Ψ fb 0)) (fs.length+1) cap) s (f::fs) w):w.cell? (Ψ fb (fs.length*12))=some (Φ (f.fn:Int)):=(H.cell rfl 0 Zd).1.trans rfl
theorem Ix.c1 (H:Ix c tid A T B w0 (.slice (some (Ψ fb 0)) (fs.length+1) cap) s (f::fs) w):w.cell? (Ψ fb (fs.length*12+1))=some (Φ (f.pc:Int)):=(H.cell rfl 1 Zd).1.trans rfl
theorem Ix.c2 (H:Ix c tid A T B w0 (.slice (some (Ψ fb 0)) (fs.length+1) cap) s (f::fs) w):w.cell? (Ψ fb (fs.length*12+2))=some (Γ f.r0):=(H.cell rfl 2 Zd).1.trans rfl
theorem Ix.c3 (H:Ix c tid A T B w0 (.slice (some (Ψ fb 0)) (fs.length+1) cap) s (f::fs) w):w.cell? (Ψ fb (fs.length*12+3))=some (Γ f.r1):=(H.cell rfl 3 Zd).1.trans rfl
theorem Ix.c4 (H:Ix c tid A T B w0 (.slice (some (Ψ fb 0)) (fs.length+1) cap) s (f::fs) w):w.cell? (Ψ fb (fs.length*12+4))=some (Γ f.r2):=(H.cell rfl 4 Zd).1.trans rfl
theorem Ix.c5 (H:Ix c tid A T B w0 (.slice (some (Ψ fb 0)) (fs.length+1) cap) s (f::fs) w):w.cell? (Ψ fb (fs.length*12+5))=some (Γ f.r3):=(H.cell rfl 5 Zd).1.trans rfl
theorem Ix.c6 (H:Ix c tid A T B w0 (.slice (some (Ψ fb 0)) (fs.length+1) cap) s (f::fs) w):w.cell? (Ψ fb (fs.length*12+6))=some (Γ f.r4):=(H.cell rfl 6 Zd).1.trans rfl
theorem Ix.c7 (H:Ix c tid A T B w0 (.slice (some (Ψ fb 0)) (fs.length+1) cap) s (f::fs) w):w.cell? (Ψ fb (fs.length*12+7))=some (Γ f.r5):=(H.cell rfl 7 Zd).1.trans rfl
theorem Ix.c8 (H:Ix c tid A T B w0 (.slice (some (Ψ fb 0)) (fs.length+1) cap) s (f::fs) w):w.cell? (Ψ fb (fs.length*12+8))=some (Γ f.r6):=(H.cell rfl 8 Zd).1.trans rfl
theorem Ix.c9 (H:Ix c tid A T B w0 (.slice (some (Ψ fb 0)) (fs.length+1) cap) s (f::fs) w):w.cell? (Ψ fb (fs.length*12+9))=some (Γ f.r7):=(H.cell rfl 9 Zd).1.trans rfl
theorem Ix.c10 (H:Ix c tid A T B w0 (.slice (some (Ψ fb 0)) (fs.length+1) cap) s (f::fs) w):w.cell? (Ψ fb (fs.length*12+10))=some (Γ f.r8):=(H.cell rfl 10 Zd).1.trans rfl
theorem Ix.c11 (H:Ix c tid A T B w0 (.slice (some (Ψ fb 0)) (fs.length+1) cap) s (f::fs) w):w.cell? (Ψ fb (fs.length*12+11))=some (Γ f.r9):=(H.cell rfl 11 Zd).1.trans rfl
theorem Ix.pc0 (H:IT c tid A T B w0 fb cap s f fs w):Ix c tid A T B w0 (.slice (some (Ψ fb 0)) (fs.length+1) cap) s ({f with pc:=0}::fs) (w.setCell (Ψ fb (fs.length*12+1)) (Φ 0)):=by
 have F:=H.fits _ (List.mem_cons_self ..)
 exact H.put rfl 1 _ rfl ⟨F.fn,(by show 0<100000;decide),F.r0,F.r1,F.r2,F.r3,F.r4,F.r5,F.r6,F.r7,F.r8,F.r9⟩
theorem Ix.pc1 (H:IT c tid A T B w0 fb cap s f fs w):Ix c tid A T B w0 (.slice (some (Ψ fb 0)) (fs.length+1) cap) s ({f with pc:=1}::fs) (w.setCell (Ψ fb (fs.length*12+1)) (Φ 1)):=by
 have F:=H.fits _ (List.mem_cons_self ..)
 exact H.put rfl 1 _ rfl ⟨F.fn,(by show 1<100000;decide),F.r0,F.r1,F.r2,F.r3,F.r4,F.r5,F.r6,F.r7,F.r8,F.r9⟩
theorem Ix.pc2 (H:IT c tid A T B w0 fb cap s f fs w):Ix c tid A T B w0 (.slice (some (Ψ fb 0)) (fs.length+1) cap) s ({f with pc:=2}::fs) (w.setCell (Ψ fb (fs.length*12+1)) (Φ 2)):=by
 have F:=H.fits _ (List.mem_cons_self ..)
 exact H.put rfl 1 _ rfl ⟨F.fn,(by show 2<100000;decide),F.r0,F.r1,F.r2,F.r3,F.r4,F.r5,F.r6,F.r7,F.r8,F.r9⟩
theorem Ix.pc3 (H:IT c tid A T B w0 fb cap s f fs w):Ix c tid A T B w0 (.slice (some (Ψ fb 0)) (fs.length+1) cap) s ({f with pc:=3}::fs) (w.setCell (Ψ fb (fs.length*12+1)) (Φ 3)):=by
 have F:=H.fits _ (List.mem_cons_self ..)
 exact H.put rfl 1 _ rfl ⟨F.fn,(by show 3<100000;decide),F.r0,F.r1,F.r2,F.r3,F.r4,F.r5,F.r6,F.r7,F.r8,F.r9⟩
theorem Ix.pc4 (H:IT c tid A T B w0 fb cap s f fs w):Ix c tid A T B w0 (.slice (some (Ψ fb 0)) (fs.length+1) cap) s ({f with pc:=4}::fs) (w.setCell (Ψ fb (fs.length*12+1)) (Φ 4)):=by
 have F:=H.fits _ (List.mem_cons_self ..)
 exact H.put rfl 1 _ rfl ⟨F.fn,(by show 4<100000;decide),F.r0,F.r1,F.r2,F.r3,F.r4,F.r5,F.r6,F.r7,F.r8,F.r9⟩
theorem Ix.pc5 (H:IT c tid A T B w0 fb cap s f fs w):Ix c tid A T B w0 (.slice (some (Ψ fb 0)) (fs.length+1) cap) s ({f with pc:=5}::fs) (w.setCell (Ψ fb (fs.length*12+1)) (Φ 5)):=by
 have F:=H.fits _ (List.mem_cons_self ..)
 exact H.put rfl 1 _ rfl ⟨F.fn,(by show 5<100000;decide),F.r0,F.r1,F.r2,F.r3,F.r4,F.r5,F.r6,F.r7,F.r8,F.r9⟩
theorem Ix.pc6 (H:IT c tid A T B w0 fb cap s f fs w):Ix c tid A T B w0 (.slice (some (Ψ fb 0)) (fs.length+1) cap) s ({f with pc:=6}::fs) (w.setCell (Ψ fb (fs.length*12+1)) (Φ 6)):=by
 have F:=H.fits _ (List.mem_cons_self ..)
 exact H.put rfl 1 _ rfl ⟨F.fn,(by show 6<100000;decide),F.r0,F.r1,F.r2,F.r3,F.r4,F.r5,F.r6,F.r7,F.r8,F.r9⟩
theorem Ix.pc7 (H:IT c tid A T B w0 fb cap s f fs w):Ix c tid A T B w0 (.slice (some (Ψ fb 0)) (fs.length+1) cap) s ({f with pc:=7}::fs) (w.setCell (Ψ fb (fs.length*12+1)) (Φ 7)):=by
 have F:=H.fits _ (List.mem_cons_self ..)
 exact H.put rfl 1 _ rfl ⟨F.fn,(by show 7<100000;decide),F.r0,F.r1,F.r2,F.r3,F.r4,F.r5,F.r6,F.r7,F.r8,F.r9⟩
theorem Ix.pc8 (H:IT c tid A T B w0 fb cap s f fs w):Ix c tid A T B w0 (.slice (some (Ψ fb 0)) (fs.length+1) cap) s ({f with pc:=8}::fs) (w.setCell (Ψ fb (fs.length*12+1)) (Φ 8)):=by
 have F:=H.fits _ (List.mem_cons_self ..)
 exact H.put rfl 1 _ rfl ⟨F.fn,(by show 8<100000;decide),F.r0,F.r1,F.r2,F.r3,F.r4,F.r5,F.r6,F.r7,F.r8,F.r9⟩
theorem Ix.pc9 (H:IT c tid A T B w0 fb cap s f fs w):Ix c tid A T B w0 (.slice (some (Ψ fb 0)) (fs.length+1) cap) s ({f with pc:=9}::fs) (w.setCell (Ψ fb (fs.length*12+1)) (Φ 9)):=by
 have F:=H.fits _ (List.mem_cons_self ..)
 exact H.put rfl 1 _ rfl ⟨F.fn,(by show 9<100000;decide),F.r0,F.r1,F.r2,F.r3,F.r4,F.r5,F.r6,F.r7,F.r8,F.r9⟩
theorem Ix.pc10 (H:IT c tid A T B w0 fb cap s f fs w):Ix c tid A T B w0 (.slice (some (Ψ fb 0)) (fs.length+1) cap) s ({f with pc:=10}::fs) (w.setCell (Ψ fb (fs.length*12+1)) (Φ 10)):=by
 have F:=H.fits _ (List.mem_cons_self ..)
 exact H.put rfl 1 _ rfl ⟨F.fn,(by show 10<100000;decide),F.r0,F.r1,F.r2,F.r3,F.r4,F.r5,F.r6,F.r7,F.r8,F.r9⟩
theorem Ix.pc11 (H:IT c tid A T B w0 fb cap s f fs w):Ix c tid A T B w0 (.slice (some (Ψ fb 0)) (fs.length+1) cap) s ({f with pc:=11}::fs) (w.setCell (Ψ fb (fs.length*12+1)) (Φ 11)):=by
 have F:=H.fits _ (List.mem_cons_self ..)
 exact H.put rfl 1 _ rfl ⟨F.fn,(by show 11<100000;decide),F.r0,F.r1,F.r2,F.r3,F.r4,F.r5,F.r6,F.r7,F.r8,F.r9⟩
theorem Ix.pc12 (H:IT c tid A T B w0 fb cap s f fs w):Ix c tid A T B w0 (.slice (some (Ψ fb 0)) (fs.length+1) cap) s ({f with pc:=12}::fs) (w.setCell (Ψ fb (fs.length*12+1)) (Φ 12)):=by
 have F:=H.fits _ (List.mem_cons_self ..)
 exact H.put rfl 1 _ rfl ⟨F.fn,(by show 12<100000;decide),F.r0,F.r1,F.r2,F.r3,F.r4,F.r5,F.r6,F.r7,F.r8,F.r9⟩
theorem Ix.pc13 (H:IT c tid A T B w0 fb cap s f fs w):Ix c tid A T B w0 (.slice (some (Ψ fb 0)) (fs.length+1) cap) s ({f with pc:=13}::fs) (w.setCell (Ψ fb (fs.length*12+1)) (Φ 13)):=by
 have F:=H.fits _ (List.mem_cons_self ..)
 exact H.put rfl 1 _ rfl ⟨F.fn,(by show 13<100000;decide),F.r0,F.r1,F.r2,F.r3,F.r4,F.r5,F.r6,F.r7,F.r8,F.r9⟩
theorem Ix.pc14 (H:IT c tid A T B w0 fb cap s f fs w):Ix c tid A T B w0 (.slice (some (Ψ fb 0)) (fs.length+1) cap) s ({f with pc:=14}::fs) (w.setCell (Ψ fb (fs.length*12+1)) (Φ 14)):=by
 have F:=H.fits _ (List.mem_cons_self ..)
 exact H.put rfl 1 _ rfl ⟨F.fn,(by show 14<100000;decide),F.r0,F.r1,F.r2,F.r3,F.r4,F.r5,F.r6,F.r7,F.r8,F.r9⟩
theorem Ix.pc15 (H:IT c tid A T B w0 fb cap s f fs w):Ix c tid A T B w0 (.slice (some (Ψ fb 0)) (fs.length+1) cap) s ({f with pc:=15}::fs) (w.setCell (Ψ fb (fs.length*12+1)) (Φ 15)):=by
 have F:=H.fits _ (List.mem_cons_self ..)
 exact H.put rfl 1 _ rfl ⟨F.fn,(by show 15<100000;decide),F.r0,F.r1,F.r2,F.r3,F.r4,F.r5,F.r6,F.r7,F.r8,F.r9⟩
theorem Ix.pc16 (H:IT c tid A T B w0 fb cap s f fs w):Ix c tid A T B w0 (.slice (some (Ψ fb 0)) (fs.length+1) cap) s ({f with pc:=16}::fs) (w.setCell (Ψ fb (fs.length*12+1)) (Φ 16)):=by
 have F:=H.fits _ (List.mem_cons_self ..)
 exact H.put rfl 1 _ rfl ⟨F.fn,(by show 16<100000;decide),F.r0,F.r1,F.r2,F.r3,F.r4,F.r5,F.r6,F.r7,F.r8,F.r9⟩
theorem Ix.pc17 (H:IT c tid A T B w0 fb cap s f fs w):Ix c tid A T B w0 (.slice (some (Ψ fb 0)) (fs.length+1) cap) s ({f with pc:=17}::fs) (w.setCell (Ψ fb (fs.length*12+1)) (Φ 17)):=by
 have F:=H.fits _ (List.mem_cons_self ..)
 exact H.put rfl 1 _ rfl ⟨F.fn,(by show 17<100000;decide),F.r0,F.r1,F.r2,F.r3,F.r4,F.r5,F.r6,F.r7,F.r8,F.r9⟩
theorem Ix.pc18 (H:IT c tid A T B w0 fb cap s f fs w):Ix c tid A T B w0 (.slice (some (Ψ fb 0)) (fs.length+1) cap) s ({f with pc:=18}::fs) (w.setCell (Ψ fb (fs.length*12+1)) (Φ 18)):=by
 have F:=H.fits _ (List.mem_cons_self ..)
 exact H.put rfl 1 _ rfl ⟨F.fn,(by show 18<100000;decide),F.r0,F.r1,F.r2,F.r3,F.r4,F.r5,F.r6,F.r7,F.r8,F.r9⟩
theorem Ix.pcS (H:IT c tid A T B w0 fb cap s f fs w) (hp:f.pc+1<100000):Ix c tid A T B w0 (.slice (some (Ψ fb 0)) (fs.length+1) cap) s ({f with pc:=f.pc+1}::fs) (w.setCell (Ψ fb (fs.length*12+1)) (Φ ((f.pc:Int)+1))):=by
 have F:=H.fits _ (List.mem_cons_self ..)
 exact H.put rfl 1 _ rfl ⟨F.fn,hp,F.r0,F.r1,F.r2,F.r3,F.r4,F.r5,F.r6,F.r7,F.r8,F.r9⟩
theorem Ix.w2 {v:Int} (H:IT c tid A T B w0 fb cap s f fs w) (hv:InU v):Ix c tid A T B w0 (.slice (some (Ψ fb 0)) (fs.length+1) cap) s ({f with r0:=v}::fs) (w.setCell (Ψ fb (fs.length*12+2)) (Γ v)):=by
 have F:=H.fits _ (List.mem_cons_self ..)
 exact H.put rfl 2 _ rfl ⟨F.fn,F.pc,hv,F.r1,F.r2,F.r3,F.r4,F.r5,F.r6,F.r7,F.r8,F.r9⟩
theorem Ix.w3 {v:Int} (H:IT c tid A T B w0 fb cap s f fs w) (hv:InU v):Ix c tid A T B w0 (.slice (some (Ψ fb 0)) (fs.length+1) cap) s ({f with r1:=v}::fs) (w.setCell (Ψ fb (fs.length*12+3)) (Γ v)):=by
 have F:=H.fits _ (List.mem_cons_self ..)
 exact H.put rfl 3 _ rfl ⟨F.fn,F.pc,F.r0,hv,F.r2,F.r3,F.r4,F.r5,F.r6,F.r7,F.r8,F.r9⟩
theorem Ix.w4 {v:Int} (H:IT c tid A T B w0 fb cap s f fs w) (hv:InU v):Ix c tid A T B w0 (.slice (some (Ψ fb 0)) (fs.length+1) cap) s ({f with r2:=v}::fs) (w.setCell (Ψ fb (fs.length*12+4)) (Γ v)):=by
 have F:=H.fits _ (List.mem_cons_self ..)
 exact H.put rfl 4 _ rfl ⟨F.fn,F.pc,F.r0,F.r1,hv,F.r3,F.r4,F.r5,F.r6,F.r7,F.r8,F.r9⟩
theorem Ix.w5 {v:Int} (H:IT c tid A T B w0 fb cap s f fs w) (hv:InU v):Ix c tid A T B w0 (.slice (some (Ψ fb 0)) (fs.length+1) cap) s ({f with r3:=v}::fs) (w.setCell (Ψ fb (fs.length*12+5)) (Γ v)):=by
 have F:=H.fits _ (List.mem_cons_self ..)
 exact H.put rfl 5 _ rfl ⟨F.fn,F.pc,F.r0,F.r1,F.r2,hv,F.r4,F.r5,F.r6,F.r7,F.r8,F.r9⟩
theorem Ix.w6 {v:Int} (H:IT c tid A T B w0 fb cap s f fs w) (hv:InU v):Ix c tid A T B w0 (.slice (some (Ψ fb 0)) (fs.length+1) cap) s ({f with r4:=v}::fs) (w.setCell (Ψ fb (fs.length*12+6)) (Γ v)):=by
 have F:=H.fits _ (List.mem_cons_self ..)
 exact H.put rfl 6 _ rfl ⟨F.fn,F.pc,F.r0,F.r1,F.r2,F.r3,hv,F.r5,F.r6,F.r7,F.r8,F.r9⟩
theorem Ix.w7 {v:Int} (H:IT c tid A T B w0 fb cap s f fs w) (hv:InU v):Ix c tid A T B w0 (.slice (some (Ψ fb 0)) (fs.length+1) cap) s ({f with r5:=v}::fs) (w.setCell (Ψ fb (fs.length*12+7)) (Γ v)):=by
 have F:=H.fits _ (List.mem_cons_self ..)
 exact H.put rfl 7 _ rfl ⟨F.fn,F.pc,F.r0,F.r1,F.r2,F.r3,F.r4,hv,F.r6,F.r7,F.r8,F.r9⟩
theorem Ix.w8 {v:Int} (H:IT c tid A T B w0 fb cap s f fs w) (hv:InU v):Ix c tid A T B w0 (.slice (some (Ψ fb 0)) (fs.length+1) cap) s ({f with r6:=v}::fs) (w.setCell (Ψ fb (fs.length*12+8)) (Γ v)):=by
 have F:=H.fits _ (List.mem_cons_self ..)
 exact H.put rfl 8 _ rfl ⟨F.fn,F.pc,F.r0,F.r1,F.r2,F.r3,F.r4,F.r5,hv,F.r7,F.r8,F.r9⟩
theorem Ix.w9 {v:Int} (H:IT c tid A T B w0 fb cap s f fs w) (hv:InU v):Ix c tid A T B w0 (.slice (some (Ψ fb 0)) (fs.length+1) cap) s ({f with r7:=v}::fs) (w.setCell (Ψ fb (fs.length*12+9)) (Γ v)):=by
 have F:=H.fits _ (List.mem_cons_self ..)
 exact H.put rfl 9 _ rfl ⟨F.fn,F.pc,F.r0,F.r1,F.r2,F.r3,F.r4,F.r5,F.r6,hv,F.r8,F.r9⟩
theorem Ix.w10 {v:Int} (H:IT c tid A T B w0 fb cap s f fs w) (hv:InU v):Ix c tid A T B w0 (.slice (some (Ψ fb 0)) (fs.length+1) cap) s ({f with r8:=v}::fs) (w.setCell (Ψ fb (fs.length*12+10)) (Γ v)):=by
 have F:=H.fits _ (List.mem_cons_self ..)
 exact H.put rfl 10 _ rfl ⟨F.fn,F.pc,F.r0,F.r1,F.r2,F.r3,F.r4,F.r5,F.r6,F.r7,hv,F.r9⟩
theorem Ix.w11 {v:Int} (H:IT c tid A T B w0 fb cap s f fs w) (hv:InU v):Ix c tid A T B w0 (.slice (some (Ψ fb 0)) (fs.length+1) cap) s ({f with r9:=v}::fs) (w.setCell (Ψ fb (fs.length*12+11)) (Γ v)):=by
 have F:=H.fits _ (List.mem_cons_self ..)
 exact H.put rfl 11 _ rfl ⟨F.fn,F.pc,F.r0,F.r1,F.r2,F.r3,F.r4,F.r5,F.r6,F.r7,F.r8,hv⟩
theorem Ix.top_fits (H:Ix c tid A T B w0 fv s (f::fs) w):f.Fits:=H.fits _ (List.mem_cons_self ..)
theorem Ix.to {s':St} {l':List Fr} (H:Ix c tid A T B w0 fv s l w) (hs:s=s') (hl:l=l'):Ix c tid A T B w0 fv s' l' w:=hs▸hl▸H
theorem Ix.mem_in (H:Ix c tid A T B w0 fv s l w) {x:Loc} (hx:c.has x=true):InU (s.mm x):=by
 obtain ⟨g,a,hm⟩:=H.mach
 exact hm.fits x hx
def Bx (B:Nat→Prop) (w0:World) (gb:Nat):Nat→Prop:=fun k=>(B k∨w0.heap.size≤k)∧k≠gb
theorem Ix.inner (H:Ix c tid A T B w0 fv s l w) {w6:World} {gb:Nat} (hb:Below w.heap.size w w6) (hg:w.heap.size≤gb):Ix c tid A T (Bx B w0 gb) w6 fv s l w6:=by
 have H6:=H.same hb
 obtain ⟨g,a,hm⟩:=H.mach
 obtain ⟨rv,dv,ht,hr,hd,hs1,hs2⟩:=H.thr
 obtain ⟨rv6,dv6,ht6,hr6,hd6,hs16,hs26⟩:=H6.thr
 have e:=(Ac ht hb).symm.trans ht6
 injection e with e
 injection e with e
 have hrv:rv=rv6:=by have:=congrArg (fun a:Array Value=>a[8]?) e;simpa using this
 have hdv:dv=dv6:=by have:=congrArg (fun a:Array Value=>a[9]?) e;simpa using this
 subst hrv hdv
 have lt:∀ k,k<w.heap.size→(B k∨w0.heap.size≤k)→Bx B w0 gb k∨w6.heap.size≤k:=fun k hk h=>Or.inl ⟨h,Zo⟩
 exact ⟨H6.mach,⟨rv,dv,ht6,hr6,hd6,fun k hk=>⟨(hs1 k hk).1,(hs1 k hk).2.1,lt k (Gk hr k hk) (hs1 k hk).2.2⟩,fun k hk=>⟨(hs2 k hk).1,lt k (by obtain ⟨cs,h5⟩:=hd.type hk;exact Bb h5) (hs2 k hk).2⟩⟩,
  H6.frames,H6.pred,H6.succ,H6.wrd,H.prf,H.rets,H.fits,Over.refl _ _,fun k hk=>lt k (hm.may_lt hk) (H.mayD k hk),
  ⟨lt _ (Bb ht) H.own.1,lt _ (Bb H.pred) H.own.2.1,lt _ (Bb H.succ) H.own.2.2.1,lt _ (Bb H.wrd) H.own.2.2.2⟩,fun k hk=>lt k (Gk H.frames k hk) (H.fvD k hk),H.apart⟩
theorem Ix.outer {w6:World} {gb:Nat} (ho:Over B w0 w6) (H:Ix c tid A T (Bx B w0 gb) w6 fv s l w):Ix c tid A T B w0 fv s l w:=by
 have up:∀ k,(Bx B w0 gb k∨w6.heap.size≤k)→B k∨w0.heap.size≤k:=fun k h=>h.elim (fun h=>h.1) (fun h=>Or.inr (Nat.le_trans ho.size h))
 obtain ⟨rv,dv,ht,hr,hd,hs1,hs2⟩:=H.thr
 exact ⟨H.mach,⟨rv,dv,ht,hr,hd,fun k hk=>⟨(hs1 k hk).1,(hs1 k hk).2.1,up k (hs1 k hk).2.2⟩,fun k hk=>⟨(hs2 k hk).1,up k (hs2 k hk).2⟩⟩,
  H.frames,H.pred,H.succ,H.wrd,H.prf,H.rets,H.fits,ho.then_ H.over (fun k hk=>hk.1),fun k hk=>up k (H.mayD k hk),
  ⟨up _ H.own.1,up _ H.own.2.1,up _ H.own.2.2.1,up _ H.own.2.2.2⟩,fun k hk=>up k (H.fvD k hk),H.apart⟩
theorem Ix.box {w6:World} {gb:Nat} {o:Obj} (H:Ix c tid A T (Bx B w0 gb) w6 fv s l w) (hb:w6.heap[gb]?=some o):w.heap[gb]?=some o:=H.over.blk hb (fun h=>h.2 rfl)
end Go.Proofs.YtlejhikddkdanaaGreat.Mdl
namespace Go.Proofs.YtlejhikddkdanaaGreat.Mdl
open RowKit PTopSame Wk Fns YtlejhikddkdanaaGreatW.PrintWords YtlejhikddkdanaaGreatW.PrintLast YtlejhikddkdanaaGreatW.PrintMore
variable {c:Cf} {tid:Int} {A:Ad} {T:Td} {B:Nat→Prop} {w0 w w1 w2 w6 w7:World} {fv fv':Value} {s s':St} {l l' fs:List Fr} {f f':Fr} {fb cap ga gb qb thb:Nat}
theorem Dh {P:Program} {id:Nat} {ops:Array Oper} {Q:Exit→Act→World→Prop} {a:Act} (hI:Ix c tid A T B w0 fv s l w) (h:∀ W,Ix c tid A T B w0 fv s l W→(Code.region id ops true).wp P Q a W):(Code.region id ops true).wp P Q a w:=h w hI
theorem As {a b:Int} (h:a=b):(a==b)=true∧(a != b)=false:=⟨beq_iff_eq.2 h,by simp [h]⟩
theorem Aj {a b:Int} (h:¬ a=b):(a==b)=false∧(a != b)=true:=⟨beq_eq_false_iff_ne.2 h,by simp [h]⟩
theorem Ds {p:Prop} (h:p):p=True:=eq_true h
theorem Dt {p:Prop} (h:¬ p):p=False:=eq_false h
theorem Ca {a b:Int} (h:a<b):(a<b)=True∧(b≤a)=False:=⟨eq_true h,eq_false Zo⟩
theorem Bq {a b:Int} (h:¬ a<b):(a<b)=False∧(b≤a)=True:=⟨eq_false h,eq_true Zo⟩
theorem Br {a b:Int} (h:a≤b):(a≤b)=True∧(b<a)=False:=⟨eq_true h,eq_false Zo⟩
theorem Bg {a b:Int} (h:¬ a≤b):(a≤b)=False∧(b<a)=True:=⟨eq_false h,eq_true Zo⟩
theorem Du {b:Bool} (h:¬ b=true):b=false:=by simpa using h
theorem Ix.tops (H:Ix c tid A T B w0 (Tv fb fs.length cap) s (f::fs) w):w.cell? (Ψ fb (fs.length*12))=some (Φ (f.fn:Int))∧w.cell? (Ψ fb (fs.length*12+1))=some (Φ (f.pc:Int))∧w.cell? (Ψ fb (fs.length*12+2))=some (Γ f.r0)∧w.cell? (Ψ fb (fs.length*12+3))=some (Γ f.r1)∧w.cell? (Ψ fb (fs.length*12+4))=some (Γ f.r2)∧w.cell? (Ψ fb (fs.length*12+5))=some (Γ f.r3)∧w.cell? (Ψ fb (fs.length*12+6))=some (Γ f.r4)∧w.cell? (Ψ fb (fs.length*12+7))=some (Γ f.r5)∧w.cell? (Ψ fb (fs.length*12+8))=some (Γ f.r6)∧w.cell? (Ψ fb (fs.length*12+9))=some (Γ f.r7)∧w.cell? (Ψ fb (fs.length*12+10))=some (Γ f.r8)∧w.cell? (Ψ fb (fs.length*12+11))=some (Γ f.r9)∧(∀ i,w.frozen? (Ψ fb i)=false):=
 ⟨H.c0,H.c1,H.c2,H.c3,H.c4,H.c5,H.c6,H.c7,H.c8,H.c9,H.c10,H.c11,fun i=>by
  obtain ⟨cs,hcs⟩:=Ay H.frames (k:=fb) rfl
  exact Ab hcs i⟩
theorem Ix.tds (H:Ix c tid A T B w0 fv s l w):w.cell? (Ψ T.tb 0)=some (Φ tid)∧w.cell? (Ψ T.tb 1)=some fv∧w.cell? (Ψ T.tb 2)=some (Γ s.ret0)∧w.cell? (Ψ T.tb 3)=some (Γ s.ret1)∧w.cell? (Ψ T.tb 4)=some (Γ s.ret2)∧w.cell? (Ψ T.tb 5)=some (.slice (some (Ψ T.pr 0)) c.lv.toNat c.lv.toNat)∧w.cell? (Ψ T.tb 6)=some (.slice (some (Ψ T.sc 0)) c.lv.toNat c.lv.toNat)∧w.cell? (Ψ T.tb 7)=some (.slice (some (Ψ T.wd 0)) c.lv.toNat c.lv.toNat)∧(∀ i,w.frozen? (Ψ T.tb i)=false):=by
 obtain ⟨rv,dv,ht,_⟩:=H.thr
 exact ⟨(Aa ht 0).trans rfl,(Aa ht 1).trans rfl,(Aa ht 2).trans rfl,(Aa ht 3).trans rfl,(Aa ht 4).trans rfl,(Aa ht 5).trans rfl,(Aa ht 6).trans rfl,(Aa ht 7).trans rfl,fun i=>Ab ht i⟩
theorem Gs (k:Nat) (H1:Ix c tid A T B w0 (Tv fb fs.length cap) s (f::fs) w1) (H2:Ix c tid A T B w0 (Tv fb fs.length cap) s' (f::fs) w2) :
  (∀ j,j<12→(j==k)=false→w2.cell? (Ψ fb (fs.length*12+j))=w1.cell? (Ψ fb (fs.length*12+j)))∧(∀ j,j<10→(j+2==k)=false→w2.cell? (Ψ fb (fs.length*12+2+j))=w1.cell? (Ψ fb (fs.length*12+(j+2))))∧((0==k)=false→w2.cell? (Ψ fb (fs.length*12))=w1.cell? (Ψ fb (fs.length*12))):=
 ⟨fun j hj _=>(H2.cell rfl j hj).1.trans (H1.cell rfl j hj).1.symm,fun j hj _=>by rw [Nat.add_assoc,Nat.add_comm 2 j];exact (H2.cell rfl (j+2) Zo).1.trans (H1.cell rfl (j+2) Zo).1.symm,fun _=>H2.c0.trans H1.c0.symm⟩
theorem Sz (H1:Ix c tid A T B w0 fv s l w1) (H2:Ix c tid A T B w0 fv s' l w2) (e0:s'.ret0=s.ret0) (e1:s'.ret1=s.ret1) (e2:s'.ret2=s.ret2) :
  ∀ j,j<8→w2.cell? (Ψ T.tb j)=w1.cell? (Ψ T.tb j):=by
 intro j hj
 obtain ⟨a0,a1,a2,a3,a4,a5,a6,a7,_⟩:=H1.tds
 obtain ⟨b0,b1,b2,b3,b4,b5,b6,b7,_⟩:=H2.tds
 rw [e0] at b2
 rw [e1] at b3
 rw [e2] at b4
 rcases j with _|_|_|_|_|_|_|_|j
 .exact b0.trans a0.symm
 .exact b1.trans a1.symm
 .exact b2.trans a2.symm
 .exact b3.trans a3.symm
 .exact b4.trans a4.symm
 .exact b5.trans a5.symm
 .exact b6.trans a6.symm
 .exact b7.trans a7.symm
 .omega
theorem Ga (i:Int):c.addr (.gl i)=i:=rfl
theorem Cx {P:Program} {n:FuncId} {args:Array Value} {R:Ending→World→Prop} (hI:Ix c tid A T B w0 fv s l w) (h:Ix c tid A T B w0 fv s l w→Calls P n args w R):Calls P n args w R:=h hI
theorem Ap {P:Program} {n:FuncId} {args:Array Value} {R:Ending→World→Prop} (h:Calls P n args w R):Calls P n args w R:=h
theorem Dw {P:Program} {id:Nat} {ops:Array Oper} {Q:Exit→Act→World→Prop} {a:Act} (h:(Code.region id ops true).wp P Q a w):(Code.region id ops true).wp P Q a w:=h
theorem Ix.tops_frozen (H:Ix c tid A T B w0 (Tv fb fs.length cap) s (f::fs) w):∀ i,w.frozen? (Ψ fb i)=false:=H.tops.2.2.2.2.2.2.2.2.2.2.2.2
theorem Mr (k:Nat) (H:Ix c tid A T B w0 (Tv fb fs.length cap) s (f::fs) w):(∀ j,j<12→(j==k)=false→w.drew.cell? (Ψ fb (fs.length*12+j))=w.cell? (Ψ fb (fs.length*12+j)))∧(∀ j,j<10→(j+2==k)=false→w.drew.cell? (Ψ fb (fs.length*12+2+j))=w.cell? (Ψ fb (fs.length*12+(j+2))))∧((0==k)=false→w.drew.cell? (Ψ fb (fs.length*12))=w.cell? (Ψ fb (fs.length*12)))∧(∀ i,w.drew.frozen? (Ψ fb i)=false):=⟨fun _ _ _=>rfl,fun j _ _=>by rw [Nat.add_assoc,Nat.add_comm 2 j];rfl,fun _=>rfl,H.tops_frozen⟩
theorem Jt (k:Nat) (H:Ix c tid A T B w0 (Tv fb fs.length cap) s (f::fs) w):(∀ j,j<12→(j==k)=false→w.drew.cell? (Ψ fb (fs.length*12+j))=w.cell? (Ψ fb (fs.length*12+j)))∧(∀ j,j<10→(j+2==k)=false→w.drew.cell? (Ψ fb (fs.length*12+2+j))=w.cell? (Ψ fb (fs.length*12+(j+2))))∧((0==k)=false→w.drew.cell? (Ψ fb (fs.length*12))=w.cell? (Ψ fb (fs.length*12)))∧(∀ i,w.drew.frozen? (Ψ fb i)=false)∧(∀ j,j<8→w.drew.cell? (Ψ T.tb j)=w.cell? (Ψ T.tb j)):=⟨fun _ _ _=>rfl,fun j _ _=>by rw [Nat.add_assoc,Nat.add_comm 2 j];rfl,fun _=>rfl,H.tops_frozen,fun _ _=>rfl⟩
theorem Qc (k:Nat) (H1:Ix c tid A T B w0 (Tv fb fs.length cap) s (f::fs) w1) (H2:Ix c tid A T B w0 (Tv fb fs.length cap) s' (f::fs) w2) :
  (∀ j,j<12→(j==k)=false→w2.cell? (Ψ fb (fs.length*12+j))=w1.cell? (Ψ fb (fs.length*12+j)))∧(∀ j,j<10→(j+2==k)=false→w2.cell? (Ψ fb (fs.length*12+2+j))=w1.cell? (Ψ fb (fs.length*12+(j+2))))∧((0==k)=false→w2.cell? (Ψ fb (fs.length*12))=w1.cell? (Ψ fb (fs.length*12)))∧(∀ i,w2.frozen? (Ψ fb i)=false):=
 ⟨(Gs k H1 H2).1,(Gs k H1 H2).2.1,(Gs k H1 H2).2.2,H2.tops_frozen⟩
theorem Lw (k:Nat) (H1:Ix c tid A T B w0 (Tv fb fs.length cap) s (f::fs) w1) (H2:Ix c tid A T B w0 (Tv fb fs.length cap) s' (f::fs) w2) (e0:s'.ret0=s.ret0) (e1:s'.ret1=s.ret1) (e2:s'.ret2=s.ret2) :
  (∀ j,j<12→(j==k)=false→w2.cell? (Ψ fb (fs.length*12+j))=w1.cell? (Ψ fb (fs.length*12+j)))∧(∀ j,j<10→(j+2==k)=false→w2.cell? (Ψ fb (fs.length*12+2+j))=w1.cell? (Ψ fb (fs.length*12+(j+2))))∧((0==k)=false→w2.cell? (Ψ fb (fs.length*12))=w1.cell? (Ψ fb (fs.length*12)))∧(∀ i,w2.frozen? (Ψ fb i)=false)∧(∀ j,j<8→w2.cell? (Ψ T.tb j)=w1.cell? (Ψ T.tb j)):=
 ⟨(Gs k H1 H2).1,(Gs k H1 H2).2.1,(Gs k H1 H2).2.2,H2.tops_frozen,Sz H1 H2 e0 e1 e2⟩
theorem Ix.td_ne (H:IT c tid A T B w0 fb cap s f fs w):fb≠T.tb:=by
 obtain ⟨cs,hcs⟩:=Ay H.frames (k:=fb) rfl
 obtain ⟨rv,dv,ht,_⟩:=H.thr
 exact An hcs ht Zd
theorem Im {X W:World} {k n b:Nat} (h:(∀ j,j<12→(j==k)=false→W.cell? (Ψ b (n*12+j))=X.cell? (Ψ b (n*12+j)))∧(∀ j,j<10→(j+2==k)=false→W.cell? (Ψ b (n*12+2+j))=X.cell? (Ψ b (n*12+(j+2))))∧((0==k)=false→W.cell? (Ψ b (n*12))=X.cell? (Ψ b (n*12)))∧(∀ i,W.frozen? (Ψ b i)=false)) (v:Value) :
  (∀ j,j<12→(j==k)=false→(W.setCell (Ψ b (n*12+k)) v).cell? (Ψ b (n*12+j))=X.cell? (Ψ b (n*12+j)))∧(∀ j,j<10→(j+2==k)=false→(W.setCell (Ψ b (n*12+k)) v).cell? (Ψ b (n*12+2+j))=X.cell? (Ψ b (n*12+(j+2))))∧((0==k)=false→(W.setCell (Ψ b (n*12+k)) v).cell? (Ψ b (n*12))=X.cell? (Ψ b (n*12)))∧(∀ i,(W.setCell (Ψ b (n*12+k)) v).frozen? (Ψ b i)=false):=by
 refine ⟨fun j hj hk=>?_,fun j hj hk=>?_,fun hk=>?_,fun i=>?_⟩
 .rw [World.cell?_setCell_other _ _ _ _ Λ120]
  exact h.1 j hj hk
 .rw [World.cell?_setCell_other _ _ _ _ Λ120]
  exact h.2.1 j hj hk
 .rw [World.cell?_setCell_other _ _ _ _ Λ120]
  exact h.2.2.1 hk
 .rw [World.frozen?_setCell]
  exact h.2.2.2 i
theorem Fe {X W:World} {k n b t:Nat} (hne:b≠t) (h:(∀ j,j<12→(j==k)=false→W.cell? (Ψ b (n*12+j))=X.cell? (Ψ b (n*12+j)))∧(∀ j,j<10→(j+2==k)=false→W.cell? (Ψ b (n*12+2+j))=X.cell? (Ψ b (n*12+(j+2))))∧((0==k)=false→W.cell? (Ψ b (n*12))=X.cell? (Ψ b (n*12)))∧(∀ i,W.frozen? (Ψ b i)=false)∧(∀ j,j<8→W.cell? (Ψ t j)=X.cell? (Ψ t j))) (v:Value) :
  (∀ j,j<12→(j==k)=false→(W.setCell (Ψ b (n*12+k)) v).cell? (Ψ b (n*12+j))=X.cell? (Ψ b (n*12+j)))∧(∀ j,j<10→(j+2==k)=false→(W.setCell (Ψ b (n*12+k)) v).cell? (Ψ b (n*12+2+j))=X.cell? (Ψ b (n*12+(j+2))))∧((0==k)=false→(W.setCell (Ψ b (n*12+k)) v).cell? (Ψ b (n*12))=X.cell? (Ψ b (n*12)))∧(∀ i,(W.setCell (Ψ b (n*12+k)) v).frozen? (Ψ b i)=false)∧(∀ j,j<8→(W.setCell (Ψ b (n*12+k)) v).cell? (Ψ t j)=X.cell? (Ψ t j)):=
 ⟨(Im ⟨h.1,h.2.1,h.2.2.1,h.2.2.2.1⟩ v).1,(Im ⟨h.1,h.2.1,h.2.2.1,h.2.2.2.1⟩ v).2.1,(Im ⟨h.1,h.2.1,h.2.2.1,h.2.2.2.1⟩ v).2.2.1,(Im ⟨h.1,h.2.1,h.2.2.1,h.2.2.2.1⟩ v).2.2.2,fun j hj=>by
  rw [World.cell?_setCell_far _ _ _ _ hne]
  exact h.2.2.2.2 j hj⟩
theorem Vk {w:World} {o:Obj} {g:Nat} (h:w.heap.size=g):(w.alloc o).heap[g]?=some o:=h▸Cc w o
theorem vK {x:Int} (h:InU x) (H:Ix c tid A T B w0 fv s l w):Calls Tryz.prog 72 #[Γ x] w fun e w'=>e=.returned (Φ (ptr x))∧Ix c tid A T B w0 fv s l w':=
 (sU h w).mono Λ136
theorem mQ {x:Int} (h:InU x) (H:Ix c tid A T B w0 fv s l w):Calls Tryz.prog 212 #[Γ x] w fun e w'=>e=.returned (Φ (ptr x))∧Ix c tid A T B w0 fv s l w':=
 (pY h w).mono Λ136
theorem sL {x:Int} (h:InU x) (H:Ix c tid A T B w0 fv s l w):Calls Tryz.prog 151 #[Γ x] w fun e w'=>e=.returned (Γ (ptr x))∧Ix c tid A T B w0 fv s l w':=
 (pV h w).mono Λ136
theorem sA {x:Int} (h:InU x) (H:Ix c tid A T B w0 fv s l w):Calls Tryz.prog 176 #[Γ x] w fun e w'=>e=.returned (Γ (ptr x))∧Ix c tid A T B w0 fv s l w':=
 (pP h w).mono Λ136
theorem sI {x:Int} (h:InU x) (H:Ix c tid A T B w0 fv s l w):Calls Tryz.prog 109 #[Γ x] w fun e w'=>e=.returned (Γ (ptr x))∧Ix c tid A T B w0 fv s l w':=
 (pU h w).mono Λ136
theorem sG {x:Int} (h:InU x) (H:Ix c tid A T B w0 fv s l w):Calls Tryz.prog 146 #[Γ x] w fun e w'=>e=.returned (.bool (mark x))∧Ix c tid A T B w0 fv s l w':=
 (pS h w).mono Λ136
theorem fV {x:Int} (h:InU x) (H:Ix c tid A T B w0 fv s l w):Calls Tryz.prog 175 #[Γ x] w fun e w'=>e=.returned (.bool (mark x))∧Ix c tid A T B w0 fv s l w':=
 (mV h w).mono Λ136
theorem oR {x:Int} (h:InU x) (H:Ix c tid A T B w0 fv s l w):Calls Tryz.prog 110 #[Γ x] w fun e w'=>e=.returned (.bool (mark x))∧Ix c tid A T B w0 fv s l w':=
 (mW h w).mono Λ136
theorem eT {x:Int} (h:InU x) {p:Int} {m:Bool} (H:Ix c tid A T B w0 fv s l w):Calls Tryz.prog 148 #[Γ x,Φ p,.bool m] w fun e w'=>e=.returned (Γ (next x p m))∧Ix c tid A T B w0 fv s l w':=
 (pR h p m w).mono Λ136
theorem mN {x:Int} (h:InU x) (H:Ix c tid A T B w0 fv s l w):Calls Tryz.prog 181 #[Γ x] w fun e w'=>e=.returned (Γ (next x (ptr x) true))∧Ix c tid A T B w0 fv s l w':=
 (jJ h w).mono Λ136
theorem sN {x:Int} (h:InU x) (H:Ix c tid A T B w0 fv s l w):Calls Tryz.prog 178 #[Γ x] w fun e w'=>e=.returned (.bool (mark x))∧Ix c tid A T B w0 fv s l w':=
 (pW h w).mono Λ136
theorem sO {x:Int} (h:InU x) (H:Ix c tid A T B w0 fv s l w):Calls Tryz.prog 180 #[Γ x] w fun e w'=>e=.returned (Γ (x+1-x % 2))∧Ix c tid A T B w0 fv s l w':=
 (pX h w).mono Λ136
theorem pL {x:Int} (H:Ix c tid A T B w0 fv s l w):Calls Tryz.prog 194 #[Γ x] w fun e w'=>e=.returned (.int .u32 (x / 4294967296 % 4294967296))∧Ix c tid A T B w0 fv s l w':=
 (sV x w).mono Λ136
theorem vJ {x:Int} (H:Ix c tid A T B w0 fv s l w):Calls Tryz.prog 218 #[Γ x] w fun e w'=>e=.returned (.int .u32 (x / 2 % 4294967296))∧Ix c tid A T B w0 fv s l w':=
 (sT x w).mono Λ136
theorem sH {a b:Int} (a0:0≤a) (a1:a<4294967296) (b0:0≤b) (b1:b<4294967296) (H:Ix c tid A T B w0 fv s l w):Calls Tryz.prog 169 #[.int .u32 a,.int .u32 b] w fun e w'=>e=.returned (Γ (a*4294967296+b))∧Ix c tid A T B w0 fv s l w':=
 (pT a0 a1 b0 b1 w).mono Λ136
theorem sD {a:Int} (a0:0≤a) (a1:a<4294967296) (H:Ix c tid A T B w0 fv s l w):Calls Tryz.prog 172 #[.int .u32 a,.bool false] w fun e w'=>e=.returned (Γ (a*2))∧Ix c tid A T B w0 fv s l w':=
 (pQ a0 a1 w).mono Λ136
theorem Xz (H:Ix c tid A T B w0 fv s l w):Calls Tryz.prog 153 #[Ha c] w fun e w'=>e=.returned (Φ c.sl)∧Ix c tid A T B w0 fv s l w':=
 (fH w).mono Λ137
theorem mP (H:Ix c tid A T B w0 fv s l w):Calls Tryz.prog 65 #[Ha c] w fun e w'=>e=.returned (.agg #[Φ c.algo,Φ c.th,Φ c.ns,Φ c.lv,Φ c.batch,Φ c.probes,Φ c.scan])∧Ix c tid A T B w0 fv s l w':=
 (kG w).mono Λ137
theorem sJ (G:Good c tid) {n:Int} (h:c.has (.link n)=true) (H:Ix c tid A T B w0 fv s l w):Calls Tryz.prog 68 #[Ha c,Φ n] w fun e w'=>e=.returned (Φ (c.addr (.link n)))∧Ix c tid A T B w0 fv s l w':=
 (kF G h w).mono Λ137
theorem sF (G:Good c tid) {n k:Int} (h:c.has (.nd n k)=true) (H:Ix c tid A T B w0 fv s l w):Calls Tryz.prog 69 #[Ha c,Φ n,Φ k] w fun e w'=>e=.returned (Φ (c.addr (.nd n k)))∧Ix c tid A T B w0 fv s l w':=
 (Wj G h w).mono Λ137
theorem rZ (G:Good c tid) {n:Int} (h:c.has (.tr n)=true) (H:Ix c tid A T B w0 fv s l w):Calls Tryz.prog 127 #[Ha c,Φ n] w fun e w'=>e=.returned (Φ (c.addr (.tr n)))∧Ix c tid A T B w0 fv s l w':=
 (qO G h w).mono Λ137
theorem pM (G:Good c tid) {t n:Int} (h:c.has (.haz t n)=true) (H:Ix c tid A T B w0 fv s l w):Calls Tryz.prog 152 #[Ha c,Φ t,Φ n] w fun e w'=>e=.returned (Φ (c.addr (.haz t n)))∧Ix c tid A T B w0 fv s l w':=
 (pB G h w).mono Λ137
theorem Fa {w w':World} {b:Nat} (h:w.heap[b]?=w'.heap[b]?) (i:Nat):w.cell? (Ψ b i)=w'.cell? (Ψ b i):=by
 simp only [World.cell?,h]
theorem Ix.boxed {gb:Nat} {w6:World} {a b d:Value} {t:TypeId} (H:Ix c tid A T (Bx B w0 gb) w6 fv s l w) (hb:w6.heap[gb]?=some (.cells #[a,b,d] t (0,0))) :
  w.cell? (Ψ gb 0)=some a∧w.cell? (Ψ gb 1)=some b∧w.cell? (Ψ gb 2)=some d∧(∀ i,w.frozen? (Ψ gb i)=false):=
 ⟨(Aa (H.box hb) 0).trans rfl,(Aa (H.box hb) 1).trans rfl,(Aa (H.box hb) 2).trans rfl,Ab (H.box hb)⟩
theorem Ix.box_ne {gb:Nat} {w6:World} {cs:Array Value} {t:TypeId} (H:Ix c tid A T (Bx B w0 gb) w6 (Tv fb fs.length cap) s (f::fs) w) (hb:w6.heap[gb]?=some (.cells cs t (0,0))) (h1:t≠111) (h2:t≠104):(fb=gb)=False∧(gb=fb)=False∧(T.tb=gb)=False∧(gb=T.tb)=False:=by
 obtain ⟨cs',hcs⟩:=Ay H.frames (k:=fb) rfl
 obtain ⟨rv,dv,ht,_⟩:=H.thr
 have e1:=An hcs (H.box hb) (Ne.symm h1)
 have e2:=An ht (H.box hb) (Ne.symm h2)
 exact ⟨eq_false e1,eq_false (Ne.symm e1),eq_false e2,eq_false (Ne.symm e2)⟩
theorem Au (k:Nat) {gb:Nat} {w6:World} (H:Ix c tid A T (Bx B w0 gb) w6 (Tv fb fs.length cap) s (f::fs) w):(∀ j,j<12→(j==k)=false→w.drew.cell? (Ψ fb (fs.length*12+j))=w.cell? (Ψ fb (fs.length*12+j)))∧(∀ j,j<10→(j+2==k)=false→w.drew.cell? (Ψ fb (fs.length*12+2+j))=w.cell? (Ψ fb (fs.length*12+(j+2))))∧((0==k)=false→w.drew.cell? (Ψ fb (fs.length*12))=w.cell? (Ψ fb (fs.length*12)))∧(∀ i,w.drew.frozen? (Ψ fb i)=false)∧(∀ j,j<8→w.drew.cell? (Ψ T.tb j)=w.cell? (Ψ T.tb j))∧(∀ i,w.drew.cell? (Ψ gb i)=w.cell? (Ψ gb i)):=⟨fun _ _ _=>rfl,fun j _ _=>by rw [Nat.add_assoc,Nat.add_comm 2 j];rfl,fun _=>rfl,H.tops_frozen,fun _ _=>rfl,fun _=>rfl⟩
theorem Bf (k:Nat) {gb:Nat} {w6:World} {ob:Obj} (hb:w6.heap[gb]?=some ob) (H1:Ix c tid A T (Bx B w0 gb) w6 (Tv fb fs.length cap) s (f::fs) w1) (H2:Ix c tid A T (Bx B w0 gb) w6 (Tv fb fs.length cap) s' (f::fs) w2) (e0:s'.ret0=s.ret0) (e1:s'.ret1=s.ret1) (e2:s'.ret2=s.ret2):(∀ j,j<12→(j==k)=false→w2.cell? (Ψ fb (fs.length*12+j))=w1.cell? (Ψ fb (fs.length*12+j)))∧(∀ j,j<10→(j+2==k)=false→w2.cell? (Ψ fb (fs.length*12+2+j))=w1.cell? (Ψ fb (fs.length*12+(j+2))))∧((0==k)=false→w2.cell? (Ψ fb (fs.length*12))=w1.cell? (Ψ fb (fs.length*12)))∧(∀ i,w2.frozen? (Ψ fb i)=false)∧(∀ j,j<8→w2.cell? (Ψ T.tb j)=w1.cell? (Ψ T.tb j))∧(∀ i,w2.cell? (Ψ gb i)=w1.cell? (Ψ gb i)):=
 ⟨(Gs k H1 H2).1,(Gs k H1 H2).2.1,(Gs k H1 H2).2.2,H2.tops_frozen,Sz H1 H2 e0 e1 e2,fun i=>Fa ((H2.box hb).trans (H1.box hb).symm) i⟩
theorem Be {X W:World} {k n b t g:Nat} (hne:b≠t) (hnb:b≠g) (h:(∀ j,j<12→(j==k)=false→W.cell? (Ψ b (n*12+j))=X.cell? (Ψ b (n*12+j)))∧(∀ j,j<10→(j+2==k)=false→W.cell? (Ψ b (n*12+2+j))=X.cell? (Ψ b (n*12+(j+2))))∧((0==k)=false→W.cell? (Ψ b (n*12))=X.cell? (Ψ b (n*12)))∧(∀ i,W.frozen? (Ψ b i)=false)∧(∀ j,j<8→W.cell? (Ψ t j)=X.cell? (Ψ t j))∧(∀ i,W.cell? (Ψ g i)=X.cell? (Ψ g i))) (v:Value):(∀ j,j<12→(j==k)=false→(W.setCell (Ψ b (n*12+k)) v).cell? (Ψ b (n*12+j))=X.cell? (Ψ b (n*12+j)))∧(∀ j,j<10→(j+2==k)=false→(W.setCell (Ψ b (n*12+k)) v).cell? (Ψ b (n*12+2+j))=X.cell? (Ψ b (n*12+(j+2))))∧((0==k)=false→(W.setCell (Ψ b (n*12+k)) v).cell? (Ψ b (n*12))=X.cell? (Ψ b (n*12)))∧(∀ i,(W.setCell (Ψ b (n*12+k)) v).frozen? (Ψ b i)=false)∧(∀ j,j<8→(W.setCell (Ψ b (n*12+k)) v).cell? (Ψ t j)=X.cell? (Ψ t j))∧(∀ i,(W.setCell (Ψ b (n*12+k)) v).cell? (Ψ g i)=X.cell? (Ψ g i)):=
 ⟨(Fe hne ⟨h.1,h.2.1,h.2.2.1,h.2.2.2.1,h.2.2.2.2.1⟩ v).1,(Fe hne ⟨h.1,h.2.1,h.2.2.1,h.2.2.2.1,h.2.2.2.2.1⟩ v).2.1,(Fe hne ⟨h.1,h.2.1,h.2.2.1,h.2.2.2.1,h.2.2.2.2.1⟩ v).2.2.1,(Fe hne ⟨h.1,h.2.1,h.2.2.1,h.2.2.2.1,h.2.2.2.2.1⟩ v).2.2.2.1,(Fe hne ⟨h.1,h.2.1,h.2.2.1,h.2.2.2.1,h.2.2.2.2.1⟩ v).2.2.2.2,fun i=>by
  rw [World.cell?_setCell_far _ _ _ _ hnb]
  exact h.2.2.2.2.2 i⟩
theorem Ot {gb:Nat} {w6:World} (H:Ix c tid A T (Bx B w0 gb) w6 (Tv fb fs.length cap) s (f::fs) w):(∀ i,w.drew.frozen? (Ψ fb i)=false)∧(∀ j,j<8→w.drew.cell? (Ψ T.tb j)=w.cell? (Ψ T.tb j))∧(∀ i,w.drew.cell? (Ψ gb i)=w.cell? (Ψ gb i)):=⟨H.tops_frozen,fun _ _=>rfl,fun _=>rfl⟩
theorem Tb {gb:Nat} {w6:World} {ob:Obj} (hb:w6.heap[gb]?=some ob) (H1:Ix c tid A T (Bx B w0 gb) w6 (Tv fb fs.length cap) s (f::fs) w1) (H2:Ix c tid A T (Bx B w0 gb) w6 (Tv fb fs.length cap) s' (f::fs) w2) (e0:s'.ret0=s.ret0) (e1:s'.ret1=s.ret1) (e2:s'.ret2=s.ret2):(∀ i,w2.frozen? (Ψ fb i)=false)∧(∀ j,j<8→w2.cell? (Ψ T.tb j)=w1.cell? (Ψ T.tb j))∧(∀ i,w2.cell? (Ψ gb i)=w1.cell? (Ψ gb i)):=
 ⟨H2.tops_frozen,Sz H1 H2 e0 e1 e2,fun i=>Fa ((H2.box hb).trans (H1.box hb).symm) i⟩
theorem Ta {X W:World} {b t g i:Nat} (hne:b≠t) (hnb:b≠g) (h:(∀ i,W.frozen? (Ψ b i)=false)∧(∀ j,j<8→W.cell? (Ψ t j)=X.cell? (Ψ t j))∧(∀ i,W.cell? (Ψ g i)=X.cell? (Ψ g i))) (v:Value) :
  (∀ j,(W.setCell (Ψ b i) v).frozen? (Ψ b j)=false)∧(∀ j,j<8→(W.setCell (Ψ b i) v).cell? (Ψ t j)=X.cell? (Ψ t j))∧(∀ j,(W.setCell (Ψ b i) v).cell? (Ψ g j)=X.cell? (Ψ g j)):=by
 refine ⟨fun j=>?_,fun j hj=>?_,fun j=>?_⟩
 .rw [World.frozen?_setCell];exact h.1 j
 .rw [World.cell?_setCell_far _ _ _ _ hne];exact h.2.1 j hj
 .rw [World.cell?_setCell_far _ _ _ _ hnb];exact h.2.2 j
theorem Qh (G:Good c tid) {x:Loc} {a v:Int} (ha:c.addr x=a) (hx:c.has x=true) (hv:InU v) (H:Ix c tid A T B w0 fv s l w) :
  Calls Tryz.prog 132 #[Pt A.mb 0,Φ a,Γ v] w fun e w'=>e=.returned (.tuple #[])∧Ix c tid A T B w0 fv (s.put x v) l w':=by
 rw [← ha]
 exact rU G hx hv H
theorem Pe (G:Good c tid) {x:Loc} {a o v:Int} (ha:c.addr x=a) (hx:c.has x=true) (hv:InU v) (ho:s.mm x=o) (H:Ix c tid A T B w0 fv s l w) :
  Calls Tryz.prog 139 #[Pt A.mb 0,Φ a,Γ o,Γ v] w fun e w'=>e=.returned (.bool true)∧Ix c tid A T B w0 fv (s.put x v) l w':=by
 rw [← ha]
 exact mM G hx hv ho H
theorem Mw (G:Good c tid) {x:Loc} {a o v:Int} (ha:c.addr x=a) (hx:c.has x=true) (hv:InU v) (ho:¬ s.mm x=o) (H:Ix c tid A T B w0 fv s l w) :
  Calls Tryz.prog 139 #[Pt A.mb 0,Φ a,Γ o,Γ v] w fun e w'=>e=.returned (.bool false)∧Ix c tid A T B w0 fv s l w':=by
 rw [← ha]
 exact jE G hx hv ho H
theorem Xy (G:Good c tid) {x:Loc} {a d:Int} (ha:c.addr x=a) (hx:c.has x=true) (H:Ix c tid A T B w0 fv s l w) :
  Calls Tryz.prog 114 #[Pt A.mb 0,Φ a,Γ d] w fun e w'=>e=.returned (Γ (s.mm x))∧Ix c tid A T B w0 fv (s.put x (u64 (s.mm x+d))) l w':=by
 rw [← ha]
 exact wH G hx H
theorem uY {gl:Nat} {v0:Int} (hg:w.heap[gl]?=some (.cells #[Γ v0] 82 (0,0))) (hn:fs.length<1000) (h0:InU v0) (H:Ix c tid A T B w0 (Tv fb fs.length cap) s (f::fs) w) :
  Calls Tryz.prog 41 #[Pt T.tb 0,.slice (some (Ψ gl 0)) 1 1] w fun e w'=>e=.returned (.tuple #[])∧Ix c tid A T B w0 (.slice (some (Ψ fb 0)) fs.length cap) (s.told v0 0 0) fs w':=vC hn h0 hg H
theorem mE {fn gl:Nat} {v0:Int} (hg:w.heap[gl]?=some (.cells #[Γ v0] 82 (0,0))) (hn:l.length<1000) (hf:fn<1000) (h0:InU v0) (H:Ix c tid A T B w0 fv s l w) :
  Calls Tryz.prog 58 #[Pt T.tb 0,Φ (fn:Int),.slice (some (Ψ gl 0)) 1 1] w fun e w'=>e=.returned (.tuple #[])∧∃ g cap,Ix c tid A T B w0 (Tv g l.length cap) s ({fn:=fn,pc:=0,r0:=v0}::l) w'∧Stays fv l w':=mI hn hf h0 hg H
theorem mD {fn gl:Nat} {v0 v1:Int} (hg:w.heap[gl]?=some (.cells #[Γ v0,Γ v1] 82 (0,0))) (hn:l.length<1000) (hf:fn<1000) (h0:InU v0) (h1:InU v1) (H:Ix c tid A T B w0 fv s l w) :
  Calls Tryz.prog 58 #[Pt T.tb 0,Φ (fn:Int),.slice (some (Ψ gl 0)) 2 2] w fun e w'=>e=.returned (.tuple #[])∧∃ g cap,Ix c tid A T B w0 (Tv g l.length cap) s ({fn:=fn,pc:=0,r0:=v0,r1:=v1}::l) w'∧Stays fv l w':=mH hn hf h0 h1 hg H
theorem Fz (w p:Int) (m:Bool):IntKind.u64.wrap (next w p m)=next w p m:=Gb _ (InU.next w p m).1 (InU.next w p m).2
theorem Ez (w p:Int) (m:Bool):next w (IntKind.i64.wrap p) m=next w p m:=by
 unfold next
 congr 1
 rw [IntKind.wrap_i64]
 omega
theorem Ej (w p:Int) (m:Bool):next w (wrap64 p) m=next w p m:=by
 unfold next
 congr 1
 unfold wrap64
 omega
theorem Ak {x:Int} (h0:0≤x) (h1:x<9223372036854775808):wrap64 x=x∧IntKind.i64.wrap x=x∧IntKind.u64.wrap x=x:=⟨w64 Zo Zo,by rw [IntKind.wrap_i64];omega,Gb x h0 Zo⟩
theorem cN (G:Good c tid) {n:Int} (h:c.has (.link n)=true):wrap64 n=n∧IntKind.i64.wrap n=n∧IntKind.u64.wrap n=n:=by
 have h1:=of_decide_eq_true h
 have:=(Dy G).ns
 exact Ak Zo Zo
theorem Fg (G:Good c tid) {n k:Int} (h:c.has (.nd n k)=true):wrap64 n=n∧IntKind.i64.wrap n=n∧IntKind.u64.wrap n=n:=by
 have h1:=of_decide_eq_true h
 have:=(Dy G).ns
 exact Ak Zo Zo
theorem jU {n b:Int} (u:InU n) (h:¬ b≤n) (hb:b≤9223372036854775808:=by decide):wrap64 n=n∧IntKind.i64.wrap n=n∧IntKind.u64.wrap n=n:=Ak u.1 Zo
theorem Tt (G:Good c tid) {a:Int} (h0:0≤a):c.addr (c.lO a)=a:=by
 have hb:=Dy G
 have hs:=hb.sl
 have hw:=hb.wI
 unfold Cf.lO
 split
 .rfl
 split
 .show c.hZ+(a-c.hZ) / c.sl*c.sl+(a-c.hZ) % c.sl=a
  have:=Int.mul_ediv_add_emod (a-c.hZ) c.sl
  rw [Int.mul_comm] at this
  omega
 split
 .show c.lK+(a-c.lK+1)-1=a
  omega
 split
 .show c.nA+((a-c.nA) / c.wI+1-1)*c.wI+(a-c.nA) % c.wI=a
  have:=Int.mul_ediv_add_emod (a-c.nA) c.wI
  rw [Int.mul_comm] at this
  rw [Int.add_sub_cancel]
  omega
 .show c.tA+(a-c.tA)=a
  omega
theorem jV (G:Good c tid) {a:Int} (u:InU a) (h:c.has (c.lO a)=true):wrap64 a=a∧IntKind.i64.wrap a=a∧IntKind.u64.wrap a=a:=by
 have h1:=Dv G h
 rw [Tt G u.1] at h1
 have:=Ft G
 exact Ak Zo Zo
theorem Fq (G:Good c tid) {t n:Int} (h:c.has (.haz t n)=true):wrap64 n=n∧IntKind.i64.wrap n=n∧IntKind.u64.wrap n=n:=by
 have h1:=of_decide_eq_true h
 have:=(Dy G).sl
 exact Ak Zo Zo
theorem iX (G:Good c tid) {a:Int} (u:InU a) (hx:c.has (c.lO a)=true) (H:Ix c tid A T B w0 fv s l w) :
  Calls Tryz.prog 73 #[Pt A.mb 0,Φ a] w fun e w'=>e=.returned (Γ (s.mm (c.lO a)))∧Ix c tid A T B w0 fv s l w':=Li G (Tt G u.1) hx H
theorem Ix.pcN {fn p:Nat} {r0 r1 r2 r3 r4 r5 r6 r7 r8 r9:Int} (H:Ix c tid A T B w0 (Tv fb fs.length cap) s (⟨fn,p,r0,r1,r2,r3,r4,r5,r6,r7,r8,r9⟩::fs) w) (hp:p+1<100000) :
  Ix c tid A T B w0 (Tv fb fs.length cap) s (⟨fn,p+1,r0,r1,r2,r3,r4,r5,r6,r7,r8,r9⟩::fs) (w.setCell (Ψ fb (fs.length*12+1)) (Φ ((p:Int)+1))):=H.pcS hp
theorem Ix.pcV {k:Nat} (H:IT c tid A T B w0 fb cap s f fs w) (hk:k<100000):Ix c tid A T B w0 (Tv fb fs.length cap) s ({f with pc:=k}::fs) (w.setCell (Ψ fb (fs.length*12+1)) (Φ (k:Int))):=by
 have F:=H.fits _ (List.mem_cons_self ..)
 exact H.put rfl 1 _ rfl ⟨F.fn,hk,F.r0,F.r1,F.r2,F.r3,F.r4,F.r5,F.r6,F.r7,F.r8,F.r9⟩
theorem lZ (g:Nat) {vg:Int} (hv:(g:Int)=vg) (hn:l.length<1000) (hf:g<1000) (H:Ix c tid A T B w0 fv s l w) :
  Calls Tryz.prog 58 #[Pt T.tb 0,Φ vg,.slice none 0 0] w fun e w'=>e=.returned (.tuple #[])∧∃ g' cap,Ix c tid A T B w0 (Tv g' l.length cap) s ({fn:=g,pc:=0}::l) w'∧Stays fv l w':=by
 subst hv
 exact rV hn hf H
theorem rP (g:Nat) {gl:Nat} {v0 vg:Int} (hg:w.heap[gl]?=some (.cells #[Γ v0] 82 (0,0))) (hv:(g:Int)=vg) (hn:l.length<1000) (hf:g<1000) (h0:InU v0) (H:Ix c tid A T B w0 fv s l w) :
  Calls Tryz.prog 58 #[Pt T.tb 0,Φ vg,.slice (some (Ψ gl 0)) 1 1] w fun e w'=>e=.returned (.tuple #[])∧∃ g' cap,Ix c tid A T B w0 (Tv g' l.length cap) s ({fn:=g,pc:=0,r0:=v0}::l) w'∧Stays fv l w':=by
 subst hv
 exact mI hn hf h0 hg H
theorem rO (g:Nat) {gl:Nat} {v0 v1 vg:Int} (hg:w.heap[gl]?=some (.cells #[Γ v0,Γ v1] 82 (0,0))) (hv:(g:Int)=vg) (hn:l.length<1000) (hf:g<1000) (h0:InU v0) (h1:InU v1) (H:Ix c tid A T B w0 fv s l w) :
  Calls Tryz.prog 58 #[Pt T.tb 0,Φ vg,.slice (some (Ψ gl 0)) 2 2] w fun e w'=>e=.returned (.tuple #[])∧∃ g' cap,Ix c tid A T B w0 (Tv g' l.length cap) s ({fn:=g,pc:=0,r0:=v0,r1:=v1}::l) w'∧Stays fv l w':=by
 subst hv
 exact mH hn hf h0 h1 hg H
theorem Ix.far_words (H:IT c tid A T B w0 fb cap s f fs w) {gl i:Nat} {cs:Array Value} {v:Value} (hg:w.heap[gl]?=some (.cells cs 82 (0,0))):(w.setCell (Ψ fb i) v).heap[gl]?=some (.cells cs 82 (0,0)):=by
 obtain ⟨cs',hcs⟩:=Ay H.frames (k:=fb) rfl
 exact Av hg (An hg hcs Zd) v
theorem Md (G:Good c tid) {x:Loc} (h:c.has x=true):wrap64 (c.addr x)=c.addr x∧IntKind.i64.wrap (c.addr x)=c.addr x∧IntKind.u64.wrap (c.addr x)=c.addr x:=by
 have h1:=Dv G h
 have:=Ft G
 exact Ak Zo Zo
theorem InU.addr (G:Good c tid) {x:Loc} (h:c.has x=true):InU (c.addr x):=by
 have h1:=Dv G h
 have:=Ft G
 unfold InU
 omega
theorem Ob (G:Good c tid) {n:Int} (h:c.has (.tr n)=true):wrap64 n=n∧IntKind.i64.wrap n=n∧IntKind.u64.wrap n=n:=by
 have h1:=of_decide_eq_true h
 have:=(Dy G).pl
 exact Ak Zo Zo
theorem Dm {gb:Nat} {w6:World} {ob:Obj} {fv':Value} {l':List Fr} (hb:w6.heap[gb]?=some ob) (H1:Ix c tid A T (Bx B w0 gb) w6 fv s l w1) (H2:Ix c tid A T (Bx B w0 gb) w6 fv' s' l' w2):∀ i,w2.cell? (Ψ gb i)=w1.cell? (Ψ gb i):=fun i=>Fa ((H2.box hb).trans (H1.box hb).symm) i
theorem Xl {gb:Nat} {X W:World} {o:Obj} (h0:gb<W.heap.size) (h:∀ i,W.cell? (Ψ gb i)=X.cell? (Ψ gb i)):∀ i,(W.alloc o).cell? (Ψ gb i)=X.cell? (Ψ gb i):=fun i=>(World.cell?_alloc_lt _ _ _ h0).trans (h i)
theorem Ju {gb fb i:Nat} {X W:World} {v:Value} (h0:fb≠gb) (h:∀ i,W.cell? (Ψ gb i)=X.cell? (Ψ gb i)):∀ j,(W.setCell (Ψ fb i) v).cell? (Ψ gb j)=X.cell? (Ψ gb j):=fun j=>(World.cell?_setCell_far _ _ _ _ h0).trans (h j)
theorem InU.dec {x:Int} (h:(decide (0≤x) && decide (x<18446744073709551616))=true):InU x:=by
 simp at h
 exact h
theorem InU.wrap {x:Int} (h:InU x):IntKind.u64.wrap x=x:=Gb x h.1 h.2
theorem wG (H:Ix c tid A T B w0 fv s l w):Calls Tryz.prog 131 #[Pt T.tb 8] w fun e w'=>e=.returned (Φ (s.rt.length:Int))∧Ix c tid A T B w0 fv s l w':=by
 obtain ⟨rv,dv,ht,hr,_⟩:=H.thr
 have c8:w.cell? (Ψ T.tb 8)=some rv:=(Aa ht 8).trans rfl
 have H0:=Az.m H
 clear ht H
 rcases hr.2 with ⟨rfl,h2⟩|⟨g,cap,cur,rfl,hb,hg,rest⟩
 .have e:s.rt.length=0:=h2
  rw [e]
  clear hr h2 e
  go_enter Tryz.func131,Tryz.ntmps131
  go_wp2
  go_ret
  exact ⟨rfl,H0.o⟩
 .clear hr rest hb hg
  go_enter Tryz.func131,Tryz.ntmps131
  go_wp2
  go_ret
  exact ⟨rfl,H0.o⟩
theorem Stays.drew {fv:Value} {l:List Fr} (h:Stays fv l w):Stays fv l w.drew:=h
theorem Ix.stays (H:IT c tid A T B w0 fb cap s f fs w) (ho:Over (fun k=>k=T.tb) w w1):Stays (Tv fb fs.length cap) (f::fs) w1:=by
 intro b i u hb hi
 have hb':fb=b:=by simpa [Value.ownBlock] using hb
 subst hb'
 obtain ⟨cs,hcs⟩:=Ay H.frames (k:=fb) rfl
 have h1:=H.frames.cells (g:=fb) rfl i u hi
 rw [Dj] at h1
 obtain ⟨rv,dv,ht,_⟩:=H.thr
 have h2:=ho.blk hcs (An hcs ht Zd)
 have e:w1.cell? (Ψ fb (0+i))=w.cell? (Ψ fb (0+i)):=Fa (h2.trans hcs.symm) _
 rw [Nat.zero_add] at e
 rw [e]
 exact h1
theorem Hm {W:World} (h:Stays (Tv fb fs.length cap) (f::fs) W) {j:Nat} (hj:j<12):W.cell? (Ψ fb (fs.length*12+j))=f.cells[j]?:=by
 have hl:j<f.cells.length:=hj
 rw [List.getElem?_eq_getElem hl]
 refine h fb _ _ rfl ?_
 show (Ei fs++f.cells)[fs.length*12+j]?=_
 rw [List.getElem?_append_right Λ150,Fl,Nat.add_sub_cancel_left,List.getElem?_eq_getElem hl]
theorem Ek (H:Ix c tid A T B w0 (Tv fb fs.length cap) s (f::fs) w) {j:Nat} (hj:j<12):w.cell? (Ψ fb (fs.length*12+j))=f.cells[j]?:=(H.cell rfl j hj).1
theorem Ia (a b d gb:Nat) (w:World):(∀ i,w.drew.cell? (Ψ gb i)=w.cell? (Ψ gb i))∧(∀ j,j<10→(j==a)=false→(j==b)=false→(j==d)=false→w.drew.cell? (Ψ fb (fs.length*12+2+j))=w.cell? (Ψ fb (fs.length*12+(j+2))))∧w.drew.cell? (Ψ fb (fs.length*12+2))=w.cell? (Ψ fb (fs.length*12+2)):=
 ⟨fun _=>rfl,fun j _ _ _ _=>by rw [Nat.add_assoc,Nat.add_comm 2 j];rfl,rfl⟩
theorem Lx (a b d:Nat) {gb:Nat} {w6:World} {ob:Obj} (hb:w6.heap[gb]?=some ob) (H1:Ix c tid A T (Bx B w0 gb) w6 (Tv fb fs.length cap) s (f::fs) w1) (H2:Ix c tid A T (Bx B w0 gb) w6 (Tv fb fs.length cap) s' (f::fs) w2) :
  (∀ i,w2.cell? (Ψ gb i)=w1.cell? (Ψ gb i))∧(∀ j,j<10→(j==a)=false→(j==b)=false→(j==d)=false→w2.cell? (Ψ fb (fs.length*12+2+j))=w1.cell? (Ψ fb (fs.length*12+(j+2))))∧w2.cell? (Ψ fb (fs.length*12+2))=w1.cell? (Ψ fb (fs.length*12+2)):=
 ⟨Dm hb H1 H2,fun j hj _ _ _=>by rw [Nat.add_assoc,Nat.add_comm 2 j,Ek H1 Zo,Ek H2 Zo],by rw [Ek H1 Zo,Ek H2 Zo]⟩
theorem Jf (a b d:Nat) {gb:Nat} {w6:World} {ob:Obj} {fv':Value} {l':List Fr} (hb:w6.heap[gb]?=some ob) (H1:Ix c tid A T (Bx B w0 gb) w6 (Tv fb fs.length cap) s (f::fs) w1) (H2:Ix c tid A T (Bx B w0 gb) w6 fv' s' l' w2)
  (hst:Stays (Tv fb fs.length cap) (f'::fs) w2) (h0:f'.r0=f.r0) (hc:∀ j,j<10→(j==a)=false→(j==b)=false→(j==d)=false→f'.cells[j+2]?=f.cells[j+2]?) :
  (∀ i,w2.cell? (Ψ gb i)=w1.cell? (Ψ gb i))∧(∀ j,j<10→(j==a)=false→(j==b)=false→(j==d)=false→w2.cell? (Ψ fb (fs.length*12+2+j))=w1.cell? (Ψ fb (fs.length*12+(j+2))))∧w2.cell? (Ψ fb (fs.length*12+2))=w1.cell? (Ψ fb (fs.length*12+2)):=
 ⟨Dm hb H1 H2,fun j hj h1 h2 h3=>by rw [Nat.add_assoc,Nat.add_comm 2 j,Ek H1 Zo,Hm hst Zo,hc j hj h1 h2 h3],by rw [Ek H1 Zo,Hm hst Zo];show some (Value.int .u64 f'.r0)=some (Value.int .u64 f.r0);rw [h0]⟩
theorem Lf (a b d:Nat) {gb:Nat} {X W:World} {o:Obj} (h0:gb<W.heap.size) (h1:fb<W.heap.size) (h:(∀ i,W.cell? (Ψ gb i)=X.cell? (Ψ gb i))∧(∀ j,j<10→(j==a)=false→(j==b)=false→(j==d)=false→W.cell? (Ψ fb (fs.length*12+2+j))=X.cell? (Ψ fb (fs.length*12+(j+2))))∧W.cell? (Ψ fb (fs.length*12+2))=X.cell? (Ψ fb (fs.length*12+2))) :
  (∀ i,(W.alloc o).cell? (Ψ gb i)=X.cell? (Ψ gb i))∧(∀ j,j<10→(j==a)=false→(j==b)=false→(j==d)=false→(W.alloc o).cell? (Ψ fb (fs.length*12+2+j))=X.cell? (Ψ fb (fs.length*12+(j+2))))∧(W.alloc o).cell? (Ψ fb (fs.length*12+2))=X.cell? (Ψ fb (fs.length*12+2)):=
 ⟨fun i=>(World.cell?_alloc_lt _ _ _ h0).trans (h.1 i),fun j h2 h3 h4 h5=>(World.cell?_alloc_lt _ _ _ h1).trans (h.2.1 j h2 h3 h4 h5),(World.cell?_alloc_lt _ _ _ h1).trans h.2.2⟩
theorem Ix.fb_lt (H:IT c tid A T B w0 fb cap s f fs w):fb<w.heap.size:=by
 obtain ⟨cs,hcs⟩:=Ay H.frames (k:=fb) rfl
 exact Bb hcs
theorem tC (hn:fs.length<1000) (H:IT c tid A T B w0 fb cap s f fs w) :
  Calls Tryz.prog 41 #[Pt T.tb 0,.slice none 0 0] w fun e w'=>e=.returned (.tuple #[])∧Ix c tid A T B w0 (.slice (some (Ψ fb 0)) fs.length cap) (s.told 0 0 0) fs w'∧Stays (Tv fb fs.length cap) (f::fs) w':=by
 obtain ⟨rv,dv,ht,_⟩:=H.thr
 refine (Sp T.tb fb fs.length cap _ _ _ _ _ _ _ rv dv w ht hn (Qg H)).mono ?_
 rintro e w' ⟨rfl,h5,h6⟩
 exact ⟨rfl,H.cells_ h6 ht h5 (Ho H) (fun x hx=>H.fits x (List.mem_cons_of_mem _ hx)) H.fvD rfl rfl rfl rfl rfl rfl rfl rfl ⟨InU.zero,InU.zero,InU.zero⟩,H.stays h6⟩
theorem tB {gl:Nat} {v0:Int} (hg:w.heap[gl]?=some (.cells #[Γ v0] 82 (0,0))) (hn:fs.length<1000) (i0:InU v0) (H:IT c tid A T B w0 fb cap s f fs w) :
  Calls Tryz.prog 41 #[Pt T.tb 0,.slice (some (Ψ gl 0)) 1 1] w fun e w'=>e=.returned (.tuple #[])∧Ix c tid A T B w0 (.slice (some (Ψ fb 0)) fs.length cap) (s.told v0 0 0) fs w'∧Stays (Tv fb fs.length cap) (f::fs) w':=by
 obtain ⟨rv,dv,ht,_⟩:=H.thr
 refine (So T.tb fb fs.length cap _ _ _ _ _ _ _ rv dv gl v0 w hg ht hn (Qg H)).mono ?_
 rintro e w' ⟨rfl,h5,h6⟩
 exact ⟨rfl,H.cells_ h6 ht h5 (Ho H) (fun x hx=>H.fits x (List.mem_cons_of_mem _ hx)) H.fvD rfl rfl rfl rfl rfl rfl rfl rfl ⟨i0,InU.zero,InU.zero⟩,H.stays h6⟩
theorem sZ {gl:Nat} {v0 v1:Int} (hg:w.heap[gl]?=some (.cells #[Γ v0,Γ v1] 82 (0,0))) (hn:fs.length<1000) (i0:InU v0) (i1:InU v1) (H:IT c tid A T B w0 fb cap s f fs w) :
  Calls Tryz.prog 41 #[Pt T.tb 0,.slice (some (Ψ gl 0)) 2 2] w fun e w'=>e=.returned (.tuple #[])∧Ix c tid A T B w0 (.slice (some (Ψ fb 0)) fs.length cap) (s.told v0 v1 0) fs w'∧Stays (Tv fb fs.length cap) (f::fs) w':=by
 obtain ⟨rv,dv,ht,_⟩:=H.thr
 refine (dC T.tb fb fs.length cap _ _ _ _ _ _ _ rv dv gl v0 v1 w hg ht hn (Qg H)).mono ?_
 rintro e w' ⟨rfl,h5,h6⟩
 exact ⟨rfl,H.cells_ h6 ht h5 (Ho H) (fun x hx=>H.fits x (List.mem_cons_of_mem _ hx)) H.fvD rfl rfl rfl rfl rfl rfl rfl rfl ⟨i0,i1,InU.zero⟩,H.stays h6⟩
theorem sY {gl:Nat} {v0 v1 v2:Int} (hg:w.heap[gl]?=some (.cells #[Γ v0,Γ v1,Γ v2] 82 (0,0))) (hn:fs.length<1000) (i0:InU v0) (i1:InU v1) (i2:InU v2) (H:IT c tid A T B w0 fb cap s f fs w) :
  Calls Tryz.prog 41 #[Pt T.tb 0,.slice (some (Ψ gl 0)) 3 3] w fun e w'=>e=.returned (.tuple #[])∧Ix c tid A T B w0 (.slice (some (Ψ fb 0)) fs.length cap) (s.told v0 v1 v2) fs w'∧Stays (Tv fb fs.length cap) (f::fs) w':=by
 obtain ⟨rv,dv,ht,_⟩:=H.thr
 refine (dB T.tb fb fs.length cap _ _ _ _ _ _ _ rv dv gl v0 v1 v2 w hg ht hn (Qg H)).mono ?_
 rintro e w' ⟨rfl,h5,h6⟩
 exact ⟨rfl,H.cells_ h6 ht h5 (Ho H) (fun x hx=>H.fits x (List.mem_cons_of_mem _ hx)) H.fvD rfl rfl rfl rfl rfl rfl rfl rfl ⟨i0,i1,i2⟩,H.stays h6⟩
theorem Ix.boxA (H:Ix c tid A T (Bx (Bx B w0 ga) w6 gb) w7 fv s l w) (hlt:ga<w6.heap.size) {o:Obj} (ha:w7.heap[ga]?=some o):w.heap[ga]?=some o:=
 H.over.blk ha (fun h=>h.1.elim (fun h=>h.2 rfl) (fun h=>Zo))
theorem Ix.boxedA {a b d:Value} {t:TypeId} (H:Ix c tid A T (Bx (Bx B w0 ga) w6 gb) w7 fv s l w) (hlt:ga<w6.heap.size) (ha:w7.heap[ga]?=some (.cells #[a,b,d] t (0,0))) :
  w.cell? (Ψ ga 0)=some a∧w.cell? (Ψ ga 1)=some b∧w.cell? (Ψ ga 2)=some d∧(∀ i,w.frozen? (Ψ ga i)=false):=
 ⟨(Aa (H.boxA hlt ha) 0).trans rfl,(Aa (H.boxA hlt ha) 1).trans rfl,(Aa (H.boxA hlt ha) 2).trans rfl,Ab (H.boxA hlt ha)⟩
theorem Ix.boxed2 {a b:Value} {t:TypeId} (H:Ix c tid A T (Bx B w0 gb) w6 fv s l w) (hb:w6.heap[gb]?=some (.cells #[a,b] t (0,0))) :
  w.cell? (Ψ gb 0)=some a∧w.cell? (Ψ gb 1)=some b∧(∀ i,w.frozen? (Ψ gb i)=false):=
 ⟨(Aa (H.box hb) 0).trans rfl,(Aa (H.box hb) 1).trans rfl,Ab (H.box hb)⟩
theorem Ix.boxed7 {a0 a1 a2 a3 a4 a5 a6:Value} {t:TypeId} (H:Ix c tid A T (Bx B w0 gb) w6 fv s l w) (hb:w6.heap[gb]?=some (.cells #[a0,a1,a2,a3,a4,a5,a6] t (0,0))) :
  w.cell? (Ψ gb 0)=some a0∧w.cell? (Ψ gb 1)=some a1∧w.cell? (Ψ gb 2)=some a2∧w.cell? (Ψ gb 3)=some a3∧w.cell? (Ψ gb 4)=some a4∧w.cell? (Ψ gb 5)=some a5∧w.cell? (Ψ gb 6)=some a6∧(∀ i,w.frozen? (Ψ gb i)=false):=
 ⟨(Aa (H.box hb) 0).trans rfl,(Aa (H.box hb) 1).trans rfl,(Aa (H.box hb) 2).trans rfl,(Aa (H.box hb) 3).trans rfl,(Aa (H.box hb) 4).trans rfl,(Aa (H.box hb) 5).trans rfl,(Aa (H.box hb) 6).trans rfl,Ab (H.box hb)⟩
theorem Ix.box_neA {cs:Array Value} {t:TypeId} (H:Ix c tid A T (Bx (Bx B w0 ga) w6 gb) w7 (Tv fb fs.length cap) s (f::fs) w) (hlt:ga<w6.heap.size) (ha:w7.heap[ga]?=some (.cells cs t (0,0))) (h1:t≠111) (h2:t≠104):(fb=ga)=False∧(ga=fb)=False∧(T.tb=ga)=False∧(ga=T.tb)=False:=by
 obtain ⟨cs',hcs⟩:=Ay H.frames (k:=fb) rfl
 obtain ⟨rv,dv,ht,_⟩:=H.thr
 have e1:=An hcs (H.boxA hlt ha) (Ne.symm h1)
 have e2:=An ht (H.boxA hlt ha) (Ne.symm h2)
 exact ⟨eq_false e1,eq_false (Ne.symm e1),eq_false e2,eq_false (Ne.symm e2)⟩
theorem Df {oa:Obj} (hlt:ga<w6.heap.size) (ha:w7.heap[ga]?=some oa) (H1:Ix c tid A T (Bx (Bx B w0 ga) w6 gb) w7 fv s l w1) (H2:Ix c tid A T (Bx (Bx B w0 ga) w6 gb) w7 fv' s' l' w2):∀ i,w2.cell? (Ψ ga i)=w1.cell? (Ψ ga i):=fun i=>Fa ((H2.boxA hlt ha).trans (H1.boxA hlt ha).symm) i
theorem Ix.wbox (H:Ix c tid A T (Bx B w0 gb) w6 fv s l w) (ho:Over B w0 w6) (hg:w0.heap.size≤gb) {cs:Array Value} {t:TypeId} (hb:w6.heap[gb]?=some (.cells cs t (0,0))) (ht:t≠5) (hov:Over (fun k=>k=gb) w w1):Ix c tid A T B w0 fv s l w1:=by
 have hlt:=Bb hb
 have ne:∀ k,(Bx B w0 gb k∨w6.heap.size≤k)→¬ k=gb:=fun k h e=>h.elim (fun h=>h.2 e) (fun h=>Zo)
 have hb2:=H.box hb
 have HO:=H.outer ho
 obtain ⟨g,aT,hm⟩:=H.mach
 obtain ⟨rv,dv,htc,hr,hd,hs1,hs2⟩:=H.thr
 have may:∀ k,A.may k→¬ k=gb:=fun k hk=>ne k (H.mayD k hk)
 obtain ⟨ws,hm1,hm2,hm3⟩:=hm.mm
 have hm':IsMach c A s.mm g s.us aT w1:=by
  refine ⟨hov.blk hm.head (may _ (.inl rfl)),⟨ws,hm1.over hov (may _ (.inr (.inl rfl))) (may _ (.inr (.inr (.inl rfl)))),hm2,hm3⟩,hm.fits,fun gb' tb e=>?_,hm.feed.over hov (may _ (.inr (.inr (.inr (.inl rfl))))) (fun hp=>?_)⟩
  .exact (hm.gho gb' tb e).over hov (may _ (.inr (.inr (.inr (.inr ⟨gb',tb,e,.inl rfl⟩))))) (may _ (.inr (.inr (.inr (.inr ⟨gb',tb,e,.inr rfl⟩)))))
  .obtain ⟨cs',h5,_⟩:=hm.feed.row hp
   exact An h5 hb2 (Ne.symm ht)
 have up:∀ k,(Bx B w0 gb k∨w6.heap.size≤k)→B k∨w0.heap.size≤k:=fun k h=>h.elim (fun h=>h.1) (fun h=>Or.inr (Nat.le_trans ho.size h))
 exact ⟨⟨g,aT,hm'⟩,⟨rv,dv,hov.blk htc (ne _ H.own.1),Bi hr hov (fun k hk=>ne k (hs1 k hk).2.2),hd.over hov (fun k hk=>ne k (hs2 k hk).2),fun k hk=>⟨(hs1 k hk).1,(hs1 k hk).2.1,up k (hs1 k hk).2.2⟩,fun k hk=>⟨(hs2 k hk).1,up k (hs2 k hk).2⟩⟩,
  Bi H.frames hov (fun k hk=>ne k (H.fvD k hk)),hov.blk H.pred (ne _ H.own.2.1),hov.blk H.succ (ne _ H.own.2.2.1),hov.blk H.wrd (ne _ H.own.2.2.2),H.prf,H.rets,H.fits,
  HO.over.then_ hov (fun k hk=>by rw [hk];exact .inr hg),HO.mayD,HO.own,HO.fvD,H.apart⟩
theorem Xm (a b d:Nat) {ob:Obj} (hb:w6.heap[gb]?=some ob) (H1:Ix c tid A T (Bx B w0 gb) w6 (Tv fb fs.length cap) s (f::fs) w1) (H2:Ix c tid A T (Bx B w0 gb) w6 (Tv fb fs.length cap) s' (f'::fs) w2)
  (h0:f'.r0=f.r0) (hc:∀ j,j<10→(j==a)=false→(j==b)=false→(j==d)=false→f'.cells[j+2]?=f.cells[j+2]?) :
  (∀ i,w2.cell? (Ψ gb i)=w1.cell? (Ψ gb i))∧(∀ j,j<10→(j==a)=false→(j==b)=false→(j==d)=false→w2.cell? (Ψ fb (fs.length*12+2+j))=w1.cell? (Ψ fb (fs.length*12+(j+2))))∧w2.cell? (Ψ fb (fs.length*12+2))=w1.cell? (Ψ fb (fs.length*12+2)):=
 ⟨Dm hb H1 H2,fun j hj h1 h2 h3=>by rw [Nat.add_assoc,Nat.add_comm 2 j,Ek H1 Zo,Ek H2 Zo,hc j hj h1 h2 h3],by rw [Ek H1 Zo,Ek H2 Zo];show some (Value.int .u64 f'.r0)=some (Value.int .u64 f.r0);rw [h0]⟩
theorem eO {w:World} {g:Nat} {t:TypeId} {a0 a1 x0 x1:Value} (h:w.heap[g]?=some (.cells #[a0,a1] t (0,0))):((w.setCell (Ψ g 0) x0).setCell (Ψ g 1) x1).heap[g]?=some (.cells #[x0,x1] t (0,0)):=Ae (cs':=#[x0,x1]) (Ae (cs':=#[x0,a1]) (h) 0 _ rfl) 1 _ rfl
theorem Jw {w:World} {g:Nat} {t:TypeId} {a0 a1 a2 x0 x1 x2:Value} (h:w.heap[g]?=some (.cells #[a0,a1,a2] t (0,0))):(((w.setCell (Ψ g 0) x0).setCell (Ψ g 1) x1).setCell (Ψ g 2) x2).heap[g]?=some (.cells #[x0,x1,x2] t (0,0)):=Ae (cs':=#[x0,x1,x2]) (Ae (cs':=#[x0,x1,a2]) (Ae (cs':=#[x0,a1,a2]) (h) 0 _ rfl) 1 _ rfl) 2 _ rfl
theorem Tp {w:World} {g:Nat} {t:TypeId} {a0 a1 a2 a3 a4 a5 a6 x0 x1 x2 x3 x4 x5 x6:Value} (h:w.heap[g]?=some (.cells #[a0,a1,a2,a3,a4,a5,a6] t (0,0))):(((((((w.setCell (Ψ g 0) x0).setCell (Ψ g 1) x1).setCell (Ψ g 2) x2).setCell (Ψ g 3) x3).setCell (Ψ g 4) x4).setCell (Ψ g 5) x5).setCell (Ψ g 6) x6).heap[g]?=some (.cells #[x0,x1,x2,x3,x4,x5,x6] t (0,0)):=Ae (cs':=#[x0,x1,x2,x3,x4,x5,x6]) (Ae (cs':=#[x0,x1,x2,x3,x4,x5,a6]) (Ae (cs':=#[x0,x1,x2,x3,x4,a5,a6]) (Ae (cs':=#[x0,x1,x2,x3,a4,a5,a6]) (Ae (cs':=#[x0,x1,x2,a3,a4,a5,a6]) (Ae (cs':=#[x0,x1,a2,a3,a4,a5,a6]) (Ae (cs':=#[x0,a1,a2,a3,a4,a5,a6]) (h) 0 _ rfl) 1 _ rfl) 2 _ rfl) 3 _ rfl) 4 _ rfl) 5 _ rfl) 6 _ rfl
theorem Xw {w W w1:World} {g:Nat} {x0 x1:Value} (h:Below w.heap.size w W) (hg:w.heap.size≤g) (e:w1=((W.setCell (Ψ g 0) x0).setCell (Ψ g 1) x1)):Below w.heap.size w w1:=by
 subst e
 exact Aq (Aq (h) hg) hg
theorem Ji {w W w1:World} {g:Nat} {x0 x1 x2:Value} (h:Below w.heap.size w W) (hg:w.heap.size≤g) (e:w1=(((W.setCell (Ψ g 0) x0).setCell (Ψ g 1) x1).setCell (Ψ g 2) x2)):Below w.heap.size w w1:=by
 subst e
 exact Aq (Aq (Aq (h) hg) hg) hg
theorem Xv {w W w1:World} {g:Nat} {x0 x1 x2 x3 x4 x5 x6:Value} (h:Below w.heap.size w W) (hg:w.heap.size≤g) (e:w1=(((((((W.setCell (Ψ g 0) x0).setCell (Ψ g 1) x1).setCell (Ψ g 2) x2).setCell (Ψ g 3) x3).setCell (Ψ g 4) x4).setCell (Ψ g 5) x5).setCell (Ψ g 6) x6)):Below w.heap.size w w1:=by
 subst e
 exact Aq (Aq (Aq (Aq (Aq (Aq (Aq (h) hg) hg) hg) hg) hg) hg) hg
set_option linter.unusedVariables false
section
variable {c:Cf} {tid:Int} {A:Ad} {T:Td} {B:Nat→Prop} {w0 w:World} {s:St} {fs:List Fr} {f:Fr} {fb cap:Nat}
theorem Stays.lt (h:Stays (Tv fb fs.length cap) (f::fs) w):fb<w.heap.size:=World.block_lt_of_cell? w (Ψ fb (fs.length*12+0)) ((Hm h (j:=0) Zo).trans rfl)
theorem iZ {X W:World} {o:Obj} {v:Option Value} {ga gb i:Nat} (h0:ga<W.heap.size) (h1:gb<W.heap.size) (h2:fb<W.heap.size) (h:(∀ i,W.cell? (Ψ ga i)=X.cell? (Ψ ga i))∧(∀ i,W.cell? (Ψ gb i)=X.cell? (Ψ gb i))∧W.cell? (Ψ fb i)=v):(∀ i,(W.alloc o).cell? (Ψ ga i)=X.cell? (Ψ ga i))∧(∀ i,(W.alloc o).cell? (Ψ gb i)=X.cell? (Ψ gb i))∧(W.alloc o).cell? (Ψ fb i)=v:=⟨fun i=>(World.cell?_alloc_lt _ _ _ h0).trans (h.1 i),fun i=>(World.cell?_alloc_lt _ _ _ h1).trans (h.2.1 i),(World.cell?_alloc_lt _ _ _ h2).trans h.2.2⟩
theorem Stays.al (h:Stays (Tv fb fs.length cap) (f::fs) w) (o:Obj):Stays (Tv fb fs.length cap) (f::fs) (w.alloc o):=by
 intro b i u hb hi
 have hb':fb=b:=by simpa [Value.ownBlock] using hb
 subst hb'
 exact (World.cell?_alloc_lt _ _ _ h.lt).trans (h fb i u hb hi)
theorem bJ {f g:Fr} {i:Nat} {u:Value} (hi:(Ei (f::fs))[i]?=some u):i<(Ei (f::fs)).length:=by
 by_cases h:i<(Ei (f::fs)).length
 .exact h
 .rw [List.getElem?_eq_none Zo] at hi;cases hi
theorem oJ {fv:Value} {g0:Fr} (hst:Stays (Tv fb fs.length cap) (f::fs) w) (hne:fb≠T.tb) (g:Nat) {gl:Nat} {v0 vg:Int} (hg:w.heap[gl]?=some (.cells #[Γ v0] 82 (0,0))) (hv:(g:Int)=vg) (hn:(g0::f::fs).length<1000) (hf:g<1000) (h0:InU v0) (H:Ix c tid A T B w0 fv s (g0::f::fs) w) :
  Calls Tryz.prog 58 #[Pt T.tb 0,Φ vg,.slice (some (Ψ gl 0)) 1 1] w fun e w'=>e=.returned (.tuple #[])∧∃ g' cap',Ix c tid A T B w0 (.slice (some (Ψ g' 0)) ((g0::f::fs).length+1) cap') s ({fn:=g,pc:=0,r0:=v0}::g0::f::fs) w'∧Stays (Tv fb fs.length cap) (f::fs) w':=by
 subst hv
 obtain ⟨rv,dv,ht,_⟩:=H.thr
 refine (Qq T.tb 0 (g0::f::fs).length g _ _ _ _ _ _ _ _ rv dv _ gl v0 w hg ht hn H.frames (Nat.zero_le _)).mono ?_
 rintro e w' ⟨rfl,g',cap',h1,h2,h3,h4,h5⟩
 refine ⟨rfl,g',cap',H.pushed (f:={fn:=g,pc:=0,r0:=v0}) (Rt hf Zd h0 InU.zero) ht h1 h2 h3 h4,?_⟩
 intro b i u hb hi
 have hb':fb=b:=by simpa [Value.ownBlock] using hb
 subst hb'
 by_cases ho:fv.ownBlock=some fb
 .refine h5 fb i u ho ?_
  show (Ei (f::fs)++g0.cells)[i]?=some u
  rw [List.getElem?_append_left (bJ (g:=g0) hi)]
  exact hi
 .have h6:=hst fb i u hb hi
  have h7:=h3.block fb hst.lt (fun h=>h.elim hne ho)
  rw [← h6]
  exact Fa h7 _
end
theorem Hs {w:World} {g:Nat} {t:TypeId} {a0 a1 a2 a3 a4 a5 a6 a7 a8 a9 a10 a11 a12 a13 a14 x0 x1 x2 x3 x4 x5 x6 x7 x8 x9 x10 x11 x12 x13 x14:Value} (h:w.heap[g]?=some (.cells #[a0,a1,a2,a3,a4,a5,a6,a7,a8,a9,a10,a11,a12,a13,a14] t (0,0))):(((((((((((((((w.setCell (Ψ g 0) x0).setCell (Ψ g 1) x1).setCell (Ψ g 2) x2).setCell (Ψ g 3) x3).setCell (Ψ g 4) x4).setCell (Ψ g 5) x5).setCell (Ψ g 6) x6).setCell (Ψ g 7) x7).setCell (Ψ g 8) x8).setCell (Ψ g 9) x9).setCell (Ψ g 10) x10).setCell (Ψ g 11) x11).setCell (Ψ g 12) x12).setCell (Ψ g 13) x13).setCell (Ψ g 14) x14).heap[g]?=some (.cells #[x0,x1,x2,x3,x4,x5,x6,x7,x8,x9,x10,x11,x12,x13,x14] t (0,0)):=Ae (cs':=#[x0,x1,x2,x3,x4,x5,x6,x7,x8,x9,x10,x11,x12,x13,x14]) (Ae (cs':=#[x0,x1,x2,x3,x4,x5,x6,x7,x8,x9,x10,x11,x12,x13,a14]) (Ae (cs':=#[x0,x1,x2,x3,x4,x5,x6,x7,x8,x9,x10,x11,x12,a13,a14]) (Ae (cs':=#[x0,x1,x2,x3,x4,x5,x6,x7,x8,x9,x10,x11,a12,a13,a14]) (Ae (cs':=#[x0,x1,x2,x3,x4,x5,x6,x7,x8,x9,x10,a11,a12,a13,a14]) (Ae (cs':=#[x0,x1,x2,x3,x4,x5,x6,x7,x8,x9,a10,a11,a12,a13,a14]) (Ae (cs':=#[x0,x1,x2,x3,x4,x5,x6,x7,x8,a9,a10,a11,a12,a13,a14]) (Ae (cs':=#[x0,x1,x2,x3,x4,x5,x6,x7,a8,a9,a10,a11,a12,a13,a14]) (Ae (cs':=#[x0,x1,x2,x3,x4,x5,x6,a7,a8,a9,a10,a11,a12,a13,a14]) (Ae (cs':=#[x0,x1,x2,x3,x4,x5,a6,a7,a8,a9,a10,a11,a12,a13,a14]) (Ae (cs':=#[x0,x1,x2,x3,x4,a5,a6,a7,a8,a9,a10,a11,a12,a13,a14]) (Ae (cs':=#[x0,x1,x2,x3,a4,a5,a6,a7,a8,a9,a10,a11,a12,a13,a14]) (Ae (cs':=#[x0,x1,x2,a3,a4,a5,a6,a7,a8,a9,a10,a11,a12,a13,a14]) (Ae (cs':=#[x0,x1,a2,a3,a4,a5,a6,a7,a8,a9,a10,a11,a12,a13,a14]) (Ae (cs':=#[x0,a1,a2,a3,a4,a5,a6,a7,a8,a9,a10,a11,a12,a13,a14]) (h) 0 _ rfl) 1 _ rfl) 2 _ rfl) 3 _ rfl) 4 _ rfl) 5 _ rfl) 6 _ rfl) 7 _ rfl) 8 _ rfl) 9 _ rfl) 10 _ rfl) 11 _ rfl) 12 _ rfl) 13 _ rfl) 14 _ rfl
theorem Fh {W W0 w1:World} {g:Nat} {x0 x1 x2 x3 x4 x5 x6 x7 x8 x9 x10 x11 x12 x13 x14:Value} (h:Below W0.heap.size W0 W) (hg:W0.heap.size≤g) (e:w1=(((((((((((((((W.setCell (Ψ g 0) x0).setCell (Ψ g 1) x1).setCell (Ψ g 2) x2).setCell (Ψ g 3) x3).setCell (Ψ g 4) x4).setCell (Ψ g 5) x5).setCell (Ψ g 6) x6).setCell (Ψ g 7) x7).setCell (Ψ g 8) x8).setCell (Ψ g 9) x9).setCell (Ψ g 10) x10).setCell (Ψ g 11) x11).setCell (Ψ g 12) x12).setCell (Ψ g 13) x13).setCell (Ψ g 14) x14)):Below W0.heap.size W0 w1:=by
 subst e
 exact Aq (Aq (Aq (Aq (Aq (Aq (Aq (Aq (Aq (Aq (Aq (Aq (Aq (Aq (Aq (h) hg) hg) hg) hg) hg) hg) hg) hg) hg) hg) hg) hg) hg) hg) hg
section
variable {c:Cf} {tid:Int} {A:Ad} {T:Td} {B:Nat→Prop} {w0 w w6:World} {fv:Value} {s:St} {l:List Fr} {gb:Nat}
theorem Ix.boxed15 {a0 a1 a2 a3 a4 a5 a6 a7 a8 a9 a10 a11 a12 a13 a14:Value} {t:TypeId} (H:Ix c tid A T (Bx B w0 gb) w6 fv s l w) (hb:w6.heap[gb]?=some (.cells #[a0,a1,a2,a3,a4,a5,a6,a7,a8,a9,a10,a11,a12,a13,a14] t (0,0))) :
  w.cell? (Ψ gb 0)=some a0∧w.cell? (Ψ gb 1)=some a1∧w.cell? (Ψ gb 2)=some a2∧w.cell? (Ψ gb 3)=some a3∧w.cell? (Ψ gb 4)=some a4∧w.cell? (Ψ gb 5)=some a5∧w.cell? (Ψ gb 6)=some a6∧w.cell? (Ψ gb 7)=some a7∧w.cell? (Ψ gb 8)=some a8∧w.cell? (Ψ gb 9)=some a9∧w.cell? (Ψ gb 10)=some a10∧w.cell? (Ψ gb 11)=some a11∧w.cell? (Ψ gb 12)=some a12∧w.cell? (Ψ gb 13)=some a13∧w.cell? (Ψ gb 14)=some a14∧(∀ i,w.frozen? (Ψ gb i)=false):=
 ⟨(Aa (H.box hb) 0).trans rfl,(Aa (H.box hb) 1).trans rfl,(Aa (H.box hb) 2).trans rfl,(Aa (H.box hb) 3).trans rfl,(Aa (H.box hb) 4).trans rfl,(Aa (H.box hb) 5).trans rfl,(Aa (H.box hb) 6).trans rfl,(Aa (H.box hb) 7).trans rfl,(Aa (H.box hb) 8).trans rfl,(Aa (H.box hb) 9).trans rfl,(Aa (H.box hb) 10).trans rfl,(Aa (H.box hb) 11).trans rfl,(Aa (H.box hb) 12).trans rfl,(Aa (H.box hb) 13).trans rfl,(Aa (H.box hb) 14).trans rfl,Ab (H.box hb)⟩
theorem bZ (H:Ix c tid A T B w0 fv s l w):Calls Tryz.prog 153 #[.agg #[Φ c.algo,Φ c.th,Φ c.ns,Φ c.lv,Φ c.batch,Φ c.probes,Φ c.scan,Φ c.sl,Φ c.wI,Φ c.sE,Φ c.hZ,Φ c.lK,Φ c.nA,Φ c.tA,Φ c.size]] w fun e w'=>e=.returned (Φ c.sl)∧Ix c tid A T B w0 fv s l w':=Xz H
theorem Ya (H:Ix c tid A T B w0 fv s l w):Calls Tryz.prog 65 #[.agg #[Φ c.algo,Φ c.th,Φ c.ns,Φ c.lv,Φ c.batch,Φ c.probes,Φ c.scan,Φ c.sl,Φ c.wI,Φ c.sE,Φ c.hZ,Φ c.lK,Φ c.nA,Φ c.tA,Φ c.size]] w fun e w'=>e=.returned (.agg #[Φ c.algo,Φ c.th,Φ c.ns,Φ c.lv,Φ c.batch,Φ c.probes,Φ c.scan])∧Ix c tid A T B w0 fv s l w':=mP H
theorem sM (G:Good c tid) {t n:Int} (h:c.has (.haz t n)=true) (H:Ix c tid A T B w0 fv s l w):Calls Tryz.prog 152 #[.agg #[Φ c.algo,Φ c.th,Φ c.ns,Φ c.lv,Φ c.batch,Φ c.probes,Φ c.scan,Φ c.sl,Φ c.wI,Φ c.sE,Φ c.hZ,Φ c.lK,Φ c.nA,Φ c.tA,Φ c.size],Φ t,Φ n] w fun e w'=>e=.returned (Φ (c.addr (.haz t n)))∧Ix c tid A T B w0 fv s l w':=pM G h H
theorem mL (H:Ix c tid A T B w0 fv s l w):Calls Tryz.prog 115 #[Pt A.mb 0] w fun e w'=>e=.returned (.agg #[Φ c.algo,Φ c.th,Φ c.ns,Φ c.lv,Φ c.batch,Φ c.probes,Φ c.scan,Φ c.sl,Φ c.wI,Φ c.sE,Φ c.hZ,Φ c.lK,Φ c.nA,Φ c.tA,Φ c.size])∧Ix c tid A T B w0 fv s l w':=pK H
theorem oO (x:Int) (h0:0≤x) (h1:x<65536*65536):Go.bits .and .u64 x 1=x % 2:=
 bits_mask .u64 63 Zd (fun n a b=>by rw [IntKind.wrap_u64];omega) 1 Zd x h0 Zo
end
theorem Fy {P:Program} {fn:Func} {p u:Tmp} {ty:TypeId} (h:fn.results=#[.cell p ty,.tmp u]) (tmps:Array Value) (w:World) (g:Nat) (t:TypeId) (cs:Array Value) (fr:Nat×Nat) (d:TypeDesc)
  (hp:tmps.getD p undef=Pt g 0) (hg:w.heap[g]?=some (.cells cs t fr))
  (hu:P.underlying ty=some d) (hd:(match d with|.struct _|.array _ _=>true|_=>false)=true) (hi:(P.info? ty).map (·.size)=some cs.size) :
  (results fn tmps).run P w=.ok (.tuple #[.agg cs,tmps.getD u undef]) w:=by
 rw [results_cell_tmp h,hp]
 simp [asAddr,run_loadVar_row w g t ty cs fr d hg hu hd hi]
def Np (c:Cf):Nat:=if c.algo=0 then 15 else if c.algo=1 then 16 else 17
def Ir (c:Cf):Int:=if c.algo=0 then 11 else if c.algo=1 then 21 else 31
structure IsQ (c:Cf) (A:Ad) (T:Td) (B:Nat→Prop) (qb thb:Nat) (w0:World):Prop where
 q:w0.heap[qb]?=some (.cells #[Pt A.mb 0,.func (.func (Np c)) #[] #[],Φ (Ir c)] 61 (0,0))
 qB:¬ B qb
 th:w0.cell? (Ψ thb 0)=some (Pt T.tb 0)
 thB:¬ B thb
 thr:∃ n cp,A.thr=.slice (some (Ψ thb 0)) (n+1) cp
namespace IsQ
theorem cq (Q:IsQ c A T B qb thb w0) (H:Ix c 0 A T B w0 fv s l w):w.cell? (Ψ qb 0)=some (Pt A.mb 0)∧w.cell? (Ψ qb 1)=some (.func (.func (Np c)) #[] #[])∧w.cell? (Ψ qb 2)=some (Φ (Ir c)):=by
 have h:=H.over.blk Q.q Q.qB
 exact ⟨(Aa h 0).trans rfl,(Aa h 1).trans rfl,(Aa h 2).trans rfl⟩
theorem ct (Q:IsQ c A T B qb thb w0) (H:Ix c 0 A T B w0 fv s l w):w.cell? (Ψ thb 0)=some (Pt T.tb 0):=H.over.cell Q.th Q.thB
theorem cm (Q:IsQ c A T B qb thb w0) (H:Ix c 0 A T B w0 fv s l w):∃ n cp,w.cell? (Ψ A.mb 18)=some (Tv thb n cp):=by
 obtain ⟨n,cp,e⟩:=Q.thr
 obtain ⟨g,a,hm⟩:=H.mach
 exact ⟨n,cp,((Aa hm.head 18).trans rfl).trans (by rw [e];rfl)⟩
end IsQ
theorem Ow (H:Ix c 0 A T B w0 fv s l w):∃ a cp,fv=.slice a l.length cp:=by
 rcases H.frames.2 with ⟨e,h0⟩|⟨g,cp,cur,e,_⟩
 .exact ⟨none,0,by rw [e,h0]⟩
 .exact ⟨_,cp,e⟩
theorem Rq (H:Ix c 0 A T B w0 fv s l w):w.cell? (Ψ T.tb 1)=some fv:=by
 obtain ⟨rv,dv,ht,_⟩:=H.thr
 exact (Aa ht 1).trans rfl
theorem Un (mb:Nat) (w:World) (h:w.cell? (Ψ qb 0)=some (Pt mb 0)) :
  Calls Tryz.prog 24 #[Pt qb 0] w fun e w'=>e=.returned (Pt mb 0)∧w=w':=by
 go_enter Tryz.func24,Tryz.ntmps24
 go_wp2
 go_ret
 exact ⟨rfl,rfl⟩
theorem Ns (mb tb n cp:Nat) (w:World) (h:w.cell? (Ψ mb 18)=some (Tv thb n cp)) (h2:w.cell? (Ψ thb 0)=some (Pt tb 0)) :
  Calls Tryz.prog 123 #[Pt mb 0,Φ 0] w fun e w'=>e=.returned (Pt tb 0)∧w=w':=by
 have b0:((n:Int)+1≤0)=False:=eq_false Zo
 have b1:decide ((n:Int)+1≤0)=false:=decide_eq_false Zo
 go_enter Tryz.func123,Tryz.ntmps123
 go_wp2
 go_ret
 exact ⟨rfl,rfl⟩
theorem Iu (Q:IsQ c A T B qb thb w0) (H:Ix c 0 A T B w0 fv s l w) :
  Calls Tryz.prog 56 #[Pt qb 0,Φ 0] w fun e w'=>e=.returned (Pt T.tb 0)∧w=w':=by
 obtain ⟨c0,_,_⟩:=Q.cq H
 obtain ⟨n,cp,h18⟩:=Q.cm H
 have h2:=Q.ct H
 have K1:=Az.m (Un A.mb w c0)
 have K2:=Az.m (Ns A.mb T.tb n cp w h18 h2)
 clear c0 h18 h2
 go_enter Tryz.func56,Tryz.ntmps56
 go_wp2_with (first|(go_at_call 24;refine K1.o.mono ?_;rintro e w2 ⟨rfl,rfl⟩)|(go_at_call 123;refine K2.o.mono ?_;rintro e w2 ⟨rfl,rfl⟩))
 go_ret
 exact ⟨rfl,rfl⟩
theorem Ma (Q:IsQ c A T B qb thb w0) (hn:l.length<900) (H:Ix c 0 A T B w0 fv s l w) :
  Calls Tryz.prog 26 #[Pt qb 0,Φ 0] w fun e w'=>e=.returned (.bool (!l.isEmpty))∧Ix c 0 A T B w0 fv s l w':=by
 have K1:=Az.m (Iu Q H)
 cases l with
 |nil=>
  obtain ⟨a,cp,e⟩:=Ow H
  have K2:=Az.m (jN T.tb a cp w ((Rq H).trans (by rw [e];rfl)))
  have HH:=Az.m H
  clear H e
  go_enter Tryz.func26,Tryz.ntmps26
  go_wp2_with (first|(go_at_call 56;refine K1.o.mono ?_;rintro e w2 ⟨rfl,rfl⟩)|(go_at_call 40;refine K2.o.mono ?_;rintro e w2 ⟨rfl,hd⟩;have HD:=Az.m hd;clear hd))
  go_ret
  exact ⟨rfl,HH.o.drawn HD.o⟩
 |cons f fs=>
  obtain ⟨fb,cap,e,_⟩:=H.top_slice
  subst e
  have K2:=Az.m (vA (by simp only [List.length_cons] at hn;omega) H)
  clear H
  go_enter Tryz.func26,Tryz.ntmps26
  go_wp2_with (first|(go_at_call 56;refine K1.o.mono ?_;rintro e w2 ⟨rfl,rfl⟩)|(go_at_call 40;refine K2.o.mono ?_;rintro e w2 ⟨rfl,hd⟩;have HD:=Az.m hd;clear hd))
  go_ret
  exact ⟨rfl,HD.o⟩
theorem Pp (n:Int) (p:Int→Int) (i v:Int) (h0:0≤i) (h1:i<n):(Hv n p).setIfInBounds i.toNat (Γ v)=Hv n (upd p i v):=by
 unfold Hv
 rw [List.setIfInBounds_toArray]
 congr 1
 apply List.ext_getElem?
 intro j
 rw [List.getElem?_set]
 simp only [List.length_map,List.length_range,List.getElem?_map]
 by_cases hj:i.toNat=j
 .subst hj
  have hlt:i.toNat<n.toNat:=Zo
  have e:((i.toNat:Nat):Int)=i:=Zo
  rw [if_pos rfl,if_pos hlt,List.getElem?_range hlt]
  simp only [Option.map_some]
  rw [e]
  simp [upd]
 .rw [if_neg hj]
  cases hr:(List.range n.toNat)[j]? with
  |none=>rfl
  |some k=>
   have hk:k=j:=by
    have h2:=List.getElem?_eq_some_iff.1 hr
    obtain ⟨h3,h4⟩:=h2
    rw [List.getElem_range] at h4
    exact h4.symm
   subst hk
   simp only [Option.map_some]
   have:((k:Nat):Int)≠i:=Zo
   unfold upd
   rw [if_neg this]
theorem Pq (n:Int) (p:Int→Int) (i:Int) (h0:0≤i) (h1:i<n):(Hv n p)[i.toNat]?=some (Γ (p i)):=by
 unfold Hv
 have hlt:i.toNat<n.toNat:=Zo
 have e:((i.toNat:Nat):Int)=i:=Zo
 simp [List.getElem?_range hlt,e]
theorem Ix.row_off (H:Ix c tid A T B w0 fv s l w) {k:Nat} {cs:Array Value} (hk:w.heap[k]?=some (.cells cs 82 (0,0))) (hA:k≠A.wb) (hD:B k∨w0.heap.size≤k) (ho:Over (fun j=>j=k) w w1) :
  (∃ g aT,IsMach c A s.mm g s.us aT w1)∧(∃ rv dv,w1.heap[T.tb]?=some (.cells #[Φ tid,fv,Γ s.ret0,Γ s.ret1,Γ s.ret2,.slice (some (Ψ T.pr 0)) c.lv.toNat c.lv.toNat,.slice (some (Ψ T.sc 0)) c.lv.toNat c.lv.toNat,.slice (some (Ψ T.wd 0)) c.lv.toNat c.lv.toNat,rv,dv] 104 (0,0))∧
  w1.ownsRow 0 3 1 rv s.rt.length (Co .i64 s.rt)∧IsFound dv s w1∧(∀ k,rv.ownBlock=some k→¬ A.may k∧dv.ownBlock≠some k∧(B k∨w0.heap.size≤k))∧(∀ k,dv.ownBlock=some k→¬ A.may k∧(B k∨w0.heap.size≤k)))∧
  w1.ownsRow 0 111 12 fv l.length (Ei l)∧Over B w0 w1:=by
 obtain ⟨g,aT,hm⟩:=H.mach
 obtain ⟨rv,dv,ht,hr,hd,hs1,hs2⟩:=H.thr
 have nt:∀ (j:Nat) (cs':Array Value) (e:TypeId),w.heap[j]?=some (.cells cs' e (0,0))→e≠82→¬ j=k:=fun j cs' e hj he=>An hj hk he
 exact ⟨⟨g,aT,hm.off ho (fun j hj=>⟨cs,82,hj▸hk,.inr (.inr (.inl ⟨rfl,hj▸hA⟩))⟩)⟩,
  ⟨rv,dv,ho.blk ht (nt _ _ _ ht Zd),Bi hr ho (fun j hj=>by obtain ⟨cs',h2⟩:=Ay hr hj;exact nt j cs' 3 h2 Zd),hd.over ho (fun j hj=>by obtain ⟨cs',h2⟩:=hd.type hj;exact nt j cs' 3 h2 Zd),hs1,hs2⟩,
  Bi H.frames ho (fun j hj=>by obtain ⟨cs',h2⟩:=Ay H.frames hj;exact nt j cs' 111 h2 Zd),H.over.then_ ho (fun j hj=>by rw [hj];exact hD)⟩
theorem Ix.put_pred {i v:Int} (h0:0≤i) (h1:i<c.lv) (hv:InU v) (H:Ix c tid A T B w0 fv s l w):Ix c tid A T B w0 fv {s with pred:=upd s.pred i v} l (w.setCell (Ψ T.pr i.toNat) (Γ v)):=by
 have ho:Over (fun k=>k=T.pr) w (w.setCell (Ψ T.pr i.toNat) (Γ v)):=(Over.refl (fun k=>k=T.pr) w).set_ (Or.inl rfl) _
 obtain ⟨a,b,d,e⟩:=H.row_off H.pred H.apart.1 H.own.2.1 ho
 exact ⟨a,b,d,(by rw [← Pp c.lv s.pred i v h0 h1];exact Ae (cs':=(Hv c.lv s.pred).setIfInBounds i.toNat (Γ v)) H.pred i.toNat _ rfl),ho.blk H.succ (Ne.symm H.apart.2.2.2.1),ho.blk H.wrd (Ne.symm H.apart.2.2.2.2.1),fun j j0 j1=>by
  have h:=H.prf j j0 j1
  refine ⟨?_,h.2.1,h.2.2⟩
  show InU (upd s.pred i v j)
  unfold upd
  split
  .exact hv
  .exact h.1,
  H.rets,H.fits,e,H.mayD,H.own,H.fvD,H.apart⟩
theorem Ix.get_pred {i:Int} (h0:0≤i) (h1:i<c.lv) (H:Ix c tid A T B w0 fv s l w):w.cell? (Ψ T.pr i.toNat)=some (Γ (s.pred i))∧(∀ j,w.frozen? (Ψ T.pr j)=false):=⟨(Aa H.pred i.toNat).trans (Pq c.lv s.pred i h0 h1),Ab H.pred⟩
theorem Ix.put_succ {i v:Int} (h0:0≤i) (h1:i<c.lv) (hv:InU v) (H:Ix c tid A T B w0 fv s l w):Ix c tid A T B w0 fv {s with succ:=upd s.succ i v} l (w.setCell (Ψ T.sc i.toNat) (Γ v)):=by
 have ho:Over (fun k=>k=T.sc) w (w.setCell (Ψ T.sc i.toNat) (Γ v)):=(Over.refl (fun k=>k=T.sc) w).set_ (Or.inl rfl) _
 obtain ⟨a,b,d,e⟩:=H.row_off H.succ H.apart.2.1 H.own.2.2.1 ho
 exact ⟨a,b,d,ho.blk H.pred H.apart.2.2.2.1,(by rw [← Pp c.lv s.succ i v h0 h1];exact Ae (cs':=(Hv c.lv s.succ).setIfInBounds i.toNat (Γ v)) H.succ i.toNat _ rfl),ho.blk H.wrd (Ne.symm H.apart.2.2.2.2.2),fun j j0 j1=>by
  have h:=H.prf j j0 j1
  refine ⟨h.1,?_,h.2.2⟩
  show InU (upd s.succ i v j)
  unfold upd
  split
  .exact hv
  .exact h.2.1,
  H.rets,H.fits,e,H.mayD,H.own,H.fvD,H.apart⟩
theorem Ix.get_succ {i:Int} (h0:0≤i) (h1:i<c.lv) (H:Ix c tid A T B w0 fv s l w):w.cell? (Ψ T.sc i.toNat)=some (Γ (s.succ i))∧(∀ j,w.frozen? (Ψ T.sc j)=false):=⟨(Aa H.succ i.toNat).trans (Pq c.lv s.succ i h0 h1),Ab H.succ⟩
theorem Ix.put_wrd {i v:Int} (h0:0≤i) (h1:i<c.lv) (hv:InU v) (H:Ix c tid A T B w0 fv s l w):Ix c tid A T B w0 fv {s with wrd:=upd s.wrd i v} l (w.setCell (Ψ T.wd i.toNat) (Γ v)):=by
 have ho:Over (fun k=>k=T.wd) w (w.setCell (Ψ T.wd i.toNat) (Γ v)):=(Over.refl (fun k=>k=T.wd) w).set_ (Or.inl rfl) _
 obtain ⟨a,b,d,e⟩:=H.row_off H.wrd H.apart.2.2.1 H.own.2.2.2 ho
 exact ⟨a,b,d,ho.blk H.pred H.apart.2.2.2.2.1,ho.blk H.succ H.apart.2.2.2.2.2,(by rw [← Pp c.lv s.wrd i v h0 h1];exact Ae (cs':=(Hv c.lv s.wrd).setIfInBounds i.toNat (Γ v)) H.wrd i.toNat _ rfl),fun j j0 j1=>by
  have h:=H.prf j j0 j1
  refine ⟨h.1,h.2.1,?_⟩
  show InU (upd s.wrd i v j)
  unfold upd
  split
  .exact hv
  .exact h.2.2,
  H.rets,H.fits,e,H.mayD,H.own,H.fvD,H.apart⟩
theorem Ix.get_wrd {i:Int} (h0:0≤i) (h1:i<c.lv) (H:Ix c tid A T B w0 fv s l w):w.cell? (Ψ T.wd i.toNat)=some (Γ (s.wrd i))∧(∀ j,w.frozen? (Ψ T.wd j)=false):=⟨(Aa H.wrd i.toNat).trans (Pq c.lv s.wrd i h0 h1),Ab H.wrd⟩
theorem Ix.rows_ne {gb:Nat} {w6:World} {cs:Array Value} {t:TypeId} (H:Ix c tid A T (Bx B w0 gb) w6 (Tv fb fs.length cap) s (f::fs) w) (hb:w6.heap[gb]?=some (.cells cs t (0,0))) (h1:t≠82):(T.pr=fb)=False∧(fb=T.pr)=False∧(T.pr=T.tb)=False∧(T.tb=T.pr)=False∧(T.pr=gb)=False∧(gb=T.pr)=False∧(T.sc=fb)=False∧(fb=T.sc)=False∧(T.sc=T.tb)=False∧(T.tb=T.sc)=False∧(T.sc=gb)=False∧(gb=T.sc)=False∧(T.wd=fb)=False∧(fb=T.wd)=False∧(T.wd=T.tb)=False∧(T.tb=T.wd)=False∧(T.wd=gb)=False∧(gb=T.wd)=False∧(T.pr=T.sc)=False∧(T.sc=T.pr)=False∧(T.pr=T.wd)=False∧(T.wd=T.pr)=False∧(T.sc=T.wd)=False∧(T.wd=T.sc)=False:=by
 obtain ⟨cs',hcs⟩:=Ay H.frames (k:=fb) rfl
 obtain ⟨rv,dv,ht,_⟩:=H.thr
 have hbx:=H.box hb
 exact ⟨eq_false (An H.pred hcs Zd),eq_false (Ne.symm (An H.pred hcs Zd)),eq_false (An H.pred ht Zd),eq_false (Ne.symm (An H.pred ht Zd)),eq_false (An H.pred hbx (Ne.symm h1)),eq_false (Ne.symm (An H.pred hbx (Ne.symm h1))),eq_false (An H.succ hcs Zd),eq_false (Ne.symm (An H.succ hcs Zd)),eq_false (An H.succ ht Zd),eq_false (Ne.symm (An H.succ ht Zd)),eq_false (An H.succ hbx (Ne.symm h1)),eq_false (Ne.symm (An H.succ hbx (Ne.symm h1))),eq_false (An H.wrd hcs Zd),eq_false (Ne.symm (An H.wrd hcs Zd)),eq_false (An H.wrd ht Zd),eq_false (Ne.symm (An H.wrd ht Zd)),eq_false (An H.wrd hbx (Ne.symm h1)),eq_false (Ne.symm (An H.wrd hbx (Ne.symm h1))),eq_false H.apart.2.2.2.1,eq_false (Ne.symm H.apart.2.2.2.1),eq_false H.apart.2.2.2.2.1,eq_false (Ne.symm H.apart.2.2.2.2.1),eq_false H.apart.2.2.2.2.2,eq_false (Ne.symm H.apart.2.2.2.2.2)⟩
theorem Gx {i:Int} (h:c.row i=true):0≤i∧i<c.lv:=of_decide_eq_true h
theorem Jp (G:Good c tid) {i:Int} (h:c.row i=true):((0≤i)=True∧(i<0)=False∧(i<c.lv)=True∧(c.lv≤i)=False∧(i.toNat<c.lv.toNat)=True∧max c.lv 0=c.lv∧(c.lv.toNat:Int)=c.lv∧(0<c.lv)=True∧(c.lv≤0)=False∧(0<c.lv.toNat)=True)∧(wrap64 i=i∧IntKind.i64.wrap i=i∧IntKind.u64.wrap i=i):=by
 have h1:=Gx h
 have h2:=G.lv
 refine ⟨⟨eq_true h1.1,eq_false Zo,eq_true Zo,eq_false Zo,eq_true Zo,Zo,Zo,eq_true Zo,eq_false Zo,eq_true Zo⟩,Ak h1.1 Zo⟩
theorem Gr {X W:World} {k n b t g d ix:Nat} {v:Value} (hb:(d=b)=False) (ht:(d=t)=False) (hg:(d=g)=False) (h:(∀ j,j<12→(j==k)=false→W.cell? (Ψ b (n*12+j))=X.cell? (Ψ b (n*12+j)))∧(∀ j,j<10→(j+2==k)=false→W.cell? (Ψ b (n*12+2+j))=X.cell? (Ψ b (n*12+(j+2))))∧((0==k)=false→W.cell? (Ψ b (n*12))=X.cell? (Ψ b (n*12)))∧(∀ i,W.frozen? (Ψ b i)=false)∧(∀ j,j<8→W.cell? (Ψ t j)=X.cell? (Ψ t j))∧(∀ i,W.cell? (Ψ g i)=X.cell? (Ψ g i))):(∀ j,j<12→(j==k)=false→(W.setCell (Ψ d ix) v).cell? (Ψ b (n*12+j))=X.cell? (Ψ b (n*12+j)))∧(∀ j,j<10→(j+2==k)=false→(W.setCell (Ψ d ix) v).cell? (Ψ b (n*12+2+j))=X.cell? (Ψ b (n*12+(j+2))))∧((0==k)=false→(W.setCell (Ψ d ix) v).cell? (Ψ b (n*12))=X.cell? (Ψ b (n*12)))∧(∀ i,(W.setCell (Ψ d ix) v).frozen? (Ψ b i)=false)∧(∀ j,j<8→(W.setCell (Ψ d ix) v).cell? (Ψ t j)=X.cell? (Ψ t j))∧(∀ i,(W.setCell (Ψ d ix) v).cell? (Ψ g i)=X.cell? (Ψ g i)):=by
 have nb:d≠b:=fun e=>hb.mp e
 have nt:d≠t:=fun e=>ht.mp e
 have ng:d≠g:=fun e=>hg.mp e
 refine ⟨fun j hj hk=>?_,fun j hj hk=>?_,fun hk=>?_,fun j=>?_,fun j hj=>?_,fun j=>?_⟩
 .rw [World.cell?_setCell_far _ _ _ _ nb];exact h.1 j hj hk
 .rw [World.cell?_setCell_far _ _ _ _ nb];exact h.2.1 j hj hk
 .rw [World.cell?_setCell_far _ _ _ _ nb];exact h.2.2.1 hk
 .rw [World.frozen?_setCell];exact h.2.2.2.1 j
 .rw [World.cell?_setCell_far _ _ _ _ nt];exact h.2.2.2.2.1 j hj
 .rw [World.cell?_setCell_far _ _ _ _ ng];exact h.2.2.2.2.2 j
theorem Gm (k:Nat) {gb:Nat} {w6:World} (H:Ix c tid A T (Bx B w0 gb) w6 (Tv fb fs.length cap) s (f::fs) w):(∀ j,w.drew.cell? (Ψ T.pr j)=w.cell? (Ψ T.pr j))∧(∀ j,w.drew.cell? (Ψ T.sc j)=w.cell? (Ψ T.sc j))∧(∀ j,w.drew.cell? (Ψ T.wd j)=w.cell? (Ψ T.wd j))∧(∀ j,j<12→(j==k)=false→w.drew.cell? (Ψ fb (fs.length*12+j))=w.cell? (Ψ fb (fs.length*12+j)))∧(∀ j,j<10→(j+2==k)=false→w.drew.cell? (Ψ fb (fs.length*12+2+j))=w.cell? (Ψ fb (fs.length*12+(j+2))))∧((0==k)=false→w.drew.cell? (Ψ fb (fs.length*12))=w.cell? (Ψ fb (fs.length*12)))∧(∀ i,w.drew.frozen? (Ψ fb i)=false)∧(∀ j,j<8→w.drew.cell? (Ψ T.tb j)=w.cell? (Ψ T.tb j))∧(∀ i,w.drew.cell? (Ψ gb i)=w.cell? (Ψ gb i)):=⟨fun _=>rfl,fun _=>rfl,fun _=>rfl,Au k H⟩
theorem Hz (k:Nat) {gb:Nat} {w6:World} {ob:Obj} (hb:w6.heap[gb]?=some ob) (H1:Ix c tid A T (Bx B w0 gb) w6 (Tv fb fs.length cap) s (f::fs) w1) (H2:Ix c tid A T (Bx B w0 gb) w6 (Tv fb fs.length cap) s' (f::fs) w2) (e0:s'.ret0=s.ret0) (e1:s'.ret1=s.ret1) (e2:s'.ret2=s.ret2) (e3:s'.pred=s.pred) (e4:s'.succ=s.succ) (e5:s'.wrd=s.wrd):(∀ j,w2.cell? (Ψ T.pr j)=w1.cell? (Ψ T.pr j))∧(∀ j,w2.cell? (Ψ T.sc j)=w1.cell? (Ψ T.sc j))∧(∀ j,w2.cell? (Ψ T.wd j)=w1.cell? (Ψ T.wd j))∧(∀ j,j<12→(j==k)=false→w2.cell? (Ψ fb (fs.length*12+j))=w1.cell? (Ψ fb (fs.length*12+j)))∧(∀ j,j<10→(j+2==k)=false→w2.cell? (Ψ fb (fs.length*12+2+j))=w1.cell? (Ψ fb (fs.length*12+(j+2))))∧((0==k)=false→w2.cell? (Ψ fb (fs.length*12))=w1.cell? (Ψ fb (fs.length*12)))∧(∀ i,w2.frozen? (Ψ fb i)=false)∧(∀ j,j<8→w2.cell? (Ψ T.tb j)=w1.cell? (Ψ T.tb j))∧(∀ i,w2.cell? (Ψ gb i)=w1.cell? (Ψ gb i)):=
 ⟨fun j=>Fa (H2.pred.trans (by rw [e3];exact H1.pred.symm)) j,fun j=>Fa (H2.succ.trans (by rw [e4];exact H1.succ.symm)) j,fun j=>Fa (H2.wrd.trans (by rw [e5];exact H1.wrd.symm)) j,Bf k hb H1 H2 e0 e1 e2⟩
theorem Hy {X W:World} {k n b t g p q r:Nat} (hp:(b=p)=False) (hq:(b=q)=False) (hr:(b=r)=False) (hne:b≠t) (hnb:b≠g) (h:(∀ j,W.cell? (Ψ p j)=X.cell? (Ψ p j))∧(∀ j,W.cell? (Ψ q j)=X.cell? (Ψ q j))∧(∀ j,W.cell? (Ψ r j)=X.cell? (Ψ r j))∧(∀ j,j<12→(j==k)=false→W.cell? (Ψ b (n*12+j))=X.cell? (Ψ b (n*12+j)))∧(∀ j,j<10→(j+2==k)=false→W.cell? (Ψ b (n*12+2+j))=X.cell? (Ψ b (n*12+(j+2))))∧((0==k)=false→W.cell? (Ψ b (n*12))=X.cell? (Ψ b (n*12)))∧(∀ i,W.frozen? (Ψ b i)=false)∧(∀ j,j<8→W.cell? (Ψ t j)=X.cell? (Ψ t j))∧(∀ i,W.cell? (Ψ g i)=X.cell? (Ψ g i))) (v:Value):(∀ j,(W.setCell (Ψ b (n*12+k)) v).cell? (Ψ p j)=X.cell? (Ψ p j))∧(∀ j,(W.setCell (Ψ b (n*12+k)) v).cell? (Ψ q j)=X.cell? (Ψ q j))∧(∀ j,(W.setCell (Ψ b (n*12+k)) v).cell? (Ψ r j)=X.cell? (Ψ r j))∧(∀ j,j<12→(j==k)=false→(W.setCell (Ψ b (n*12+k)) v).cell? (Ψ b (n*12+j))=X.cell? (Ψ b (n*12+j)))∧(∀ j,j<10→(j+2==k)=false→(W.setCell (Ψ b (n*12+k)) v).cell? (Ψ b (n*12+2+j))=X.cell? (Ψ b (n*12+(j+2))))∧((0==k)=false→(W.setCell (Ψ b (n*12+k)) v).cell? (Ψ b (n*12))=X.cell? (Ψ b (n*12)))∧(∀ i,(W.setCell (Ψ b (n*12+k)) v).frozen? (Ψ b i)=false)∧(∀ j,j<8→(W.setCell (Ψ b (n*12+k)) v).cell? (Ψ t j)=X.cell? (Ψ t j))∧(∀ i,(W.setCell (Ψ b (n*12+k)) v).cell? (Ψ g i)=X.cell? (Ψ g i)):=
 ⟨fun j=>(World.cell?_setCell_far _ _ _ _ (fun e=>hp.mp e)).trans (h.1 j),fun j=>(World.cell?_setCell_far _ _ _ _ (fun e=>hq.mp e)).trans (h.2.1 j),fun j=>(World.cell?_setCell_far _ _ _ _ (fun e=>hr.mp e)).trans (h.2.2.1 j),Be hne hnb h.2.2.2 v⟩
theorem Pg (x:Int):IntKind.u32.wrap x=u32 x:=by
 unfold u32
 simp [IntKind.wrap,IntKind.bits,IntKind.signed]
theorem cF (x:Int):0≤u32 x:=by unfold u32;omega
theorem cG (x:Int):u32 x<4294967296:=by unfold u32;omega
theorem InU.u32 (x:Int):InU (Mdl.u32 x*2):=by unfold InU Mdl.u32;omega
theorem InU.order (x y:Int):InU (Mdl.u32 x*4294967296+Mdl.u32 y):=by unfold InU Mdl.u32;omega
theorem Cv (G:Good c tid) {n r:Int} (u:InU r) (h:c.has (.nd n (5+r))=true):0≤r∧r<65536:=by
 have h1:=of_decide_eq_true h
 have:=(Dy G).wI
 have:=u.1
 omega
theorem Hj (G:Good c tid) {n r:Int} (u:InU r) (h:c.has (.nd n (5+r))=true):wrap64 r=r∧IntKind.i64.wrap r=r∧IntKind.u64.wrap r=r:=Ak (Cv G u h).1 (by have:=(Cv G u h).2;omega)
theorem Vh (x:Int):IntKind.u64.wrap (x / 4294967296 % 4294967296)=x / 4294967296 % 4294967296:=Gb _ Zo Zo
theorem Ut (x:Int):IntKind.u64.wrap (x / 2 % 4294967296)=x / 2 % 4294967296:=Gb _ Zo Zo
theorem InU.key (x:Int):InU (x / 4294967296 % 4294967296):=by unfold InU;omega
theorem InU.val (x:Int):InU (x / 2 % 4294967296):=by unfold InU;omega
theorem InU.bury {x:Int} (h:InU x):InU (x+1-x % 2):=by unfold InU at *;omega
theorem InU.dec1 {x:Int} (h:InU x) (h1:1≤x):InU (x-1):=by unfold InU at *;omega
theorem InU.inc1 {x:Int} (h0:0≤x) (h1:x<65536):InU (x+1):=by unfold InU at *;omega
theorem mX (x:Int):u64 (x+18446744073709551615)=u64 (x-1):=by unfold Mdl.u64;omega
theorem oD {a b:Int} (h:¬ a≠b):(a==b)=true∧(a != b)=false:=by
 have:a=b:=Classical.not_not.1 h
 exact As this
theorem Ix.get_zero (G:Good c tid) (H:Ix c tid A T B w0 fv s l w):w.cell? (Ψ T.pr 0)=some (Γ (s.pred 0))∧w.cell? (Ψ T.sc 0)=some (Γ (s.succ 0))∧w.cell? (Ψ T.wd 0)=some (Γ (s.wrd 0)):=by
 have h:=G.lv
 exact ⟨(H.get_pred (i:=0) Zo Zo).1,(H.get_succ (i:=0) Zo Zo).1,(H.get_wrd (i:=0) Zo Zo).1⟩
theorem Mp (G:Good c tid):(0<c.lv)=True∧(c.lv≤0)=False∧max c.lv 0=c.lv∧(c.lv.toNat:Int)=c.lv∧(0<c.lv.toNat)=True:=by
 have h:=G.lv
 exact ⟨eq_true Zo,eq_false Zo,Zo,Zo,eq_true Zo⟩
theorem Ix.row_in (H:Ix c tid A T B w0 fv s l w) {i:Int} (h:c.row i=true):InU (s.pred i)∧InU (s.succ i)∧InU (s.wrd i):=H.prf i (Gx h).1 (Gx h).2
theorem Ky (G:Good c tid):c.row 0=true:=decide_eq_true ⟨Zd,by have:=G.lv;omega⟩
theorem Xe (G:Good c tid) {n r:Int} (u:InU r) (h:c.has (.nd n (4+r))=true):0≤r-1+1∧r≤7:=by
 have h1:=of_decide_eq_true h
 have:=(Dy G).wI
 have:=u.1
 omega
theorem nQ {n r:Int} (h:c.has (.nd n (4+r))=true):c.has (.nd n (5+(r-1)))=true:=by
 have e:5+(r-1)=4+r:=Zo
 rw [e]
 exact h
theorem jW (G:Good c tid):(wrap64 (c.sl-2)=c.sl-2∧IntKind.i64.wrap (c.sl-2)=c.sl-2∧IntKind.u64.wrap (c.sl-2)=c.sl-2):=by
 have:=(Dy G).sl
 exact Ak Zo Zo
theorem InU.sl (G:Good c tid):InU (c.sl-2):=by
 have:=(Dy G).sl
 unfold InU
 omega
theorem Cy (x:Int):wrap64 (ptr x)=ptr x∧IntKind.i64.wrap (ptr x)=ptr x∧IntKind.u64.wrap (ptr x)=ptr x:=by
 unfold Mdl.ptr
 exact Ak Zo Zo
theorem Ix.stays_self (H:IT c tid A T B w0 fb cap s f fs w):Stays (Tv fb fs.length cap) (f::fs) w:=by
 intro b i u hb hi
 have hb':fb=b:=by simpa [Value.ownBlock] using hb
 subst hb'
 have h1:=H.frames.cells (g:=fb) rfl i u hi
 rw [Dj] at h1
 exact h1
def cC (fv:Value) (f:Fr) (fs:List Fr) (w:World):Prop:=∃ f1,Stays fv (f1::fs) w∧f1.r0=f.r0∧f1.r2=f.r2
theorem Nl {f1:Fr} (h:Stays fv (f1::fs) w) (h0:f1.r0=f.r0) (h2:f1.r2=f.r2):cC fv f fs w:=⟨f1,h,h0,h2⟩
theorem lL (gb:Nat) (w:World):(∀ i,w.drew.cell? (Ψ gb i)=w.cell? (Ψ gb i))∧w.drew.cell? (Ψ fb (fs.length*12+2+2))=w.cell? (Ψ fb (fs.length*12+4)):=⟨fun _=>rfl,rfl⟩
theorem rG {gb:Nat} {w6:World} {ob:Obj} (hb:w6.heap[gb]?=some ob) (H1:Ix c tid A T (Bx B w0 gb) w6 (Tv fb fs.length cap) s (f::fs) w1) (H2:Ix c tid A T (Bx B w0 gb) w6 (Tv fb fs.length cap) s' (f::fs) w2) :
  (∀ i,w2.cell? (Ψ gb i)=w1.cell? (Ψ gb i))∧w2.cell? (Ψ fb (fs.length*12+2+2))=w1.cell? (Ψ fb (fs.length*12+4)):=⟨Dm hb H1 H2,by rw [Nat.add_assoc,Ek H1 Zo,Ek H2 Zo]⟩
theorem nY {gb:Nat} {w6:World} {ob:Obj} {fv':Value} {l':List Fr} (hb:w6.heap[gb]?=some ob) (H1:Ix c tid A T (Bx B w0 gb) w6 (Tv fb fs.length cap) s (f::fs) w1) (H2:Ix c tid A T (Bx B w0 gb) w6 fv' s' l' w2) (hst:cC (Tv fb fs.length cap) f fs w2) :
  (∀ i,w2.cell? (Ψ gb i)=w1.cell? (Ψ gb i))∧w2.cell? (Ψ fb (fs.length*12+2+2))=w1.cell? (Ψ fb (fs.length*12+4)):=by
 obtain ⟨f1,h1,h2,h3⟩:=hst
 refine ⟨Dm hb H1 H2,?_⟩
 rw [Nat.add_assoc,Ek H1 Zo,Hm h1 Zo]
 show some (Value.int .u64 f1.r2)=some (Value.int .u64 f.r2)
 rw [h3]
section
attribute [local go_sem] Cs Cq De Dd Cj Ci Cr Cp
def Fm (n j:Nat):List Int:=List.replicate j 1++List.replicate (n-j) 0
theorem Nt {n j:Nat} (h:j≤n):(Fm n j).length=n:=by simp [Fm];omega
theorem Yi (n:Nat):Fm n 0=List.replicate n 0:=by simp [Fm]
theorem cI {n j:Nat} (h:j<n):(Fm n j).set j 1=Fm n (j+1):=by
 unfold Fm
 rw [List.set_append_right _ _ Zs,List.length_replicate,Nat.sub_self,show n-j=(n-(j+1))+1 by omega,List.replicate_succ,List.set_cons_zero,List.replicate_succ']
 simp
theorem gD {n j:Nat} (h:j<n):(Co .i64 (Fm n j)).toArray[j]?=some (Φ 0):=by
 have h1:(Fm n j)[j]?=some 0:=by
  unfold Fm
  rw [List.getElem?_append_right Zs,List.length_replicate,Nat.sub_self,List.getElem?_replicate,if_pos Zo]
 simp [Co,h1]
theorem Ti (n k:Nat) (h0:1≤n) (h1:n≤64) (hk:k≤n) (w:World) :
  Calls Tryz.prog 38 #[Φ (n:Int),Φ (k:Int)] w fun e w'=>e=.returned (Pt (w.heap.size+1) 0)∧IsGh (w.heap.size+1) w.heap.size ⟨Fm n k,0,0⟩ w'∧Below w.heap.size w w':=by
 have hmk:=Oc (P:=Tryz.prog) 35 3 .i64 8 Tryz.underlying35 PTopSame.info3 Zd n Zo
 have g0:decide ((n:Int)<1)=false:=decide_eq_false Zo
 have g1:decide ((n:Int)>64)=false:=decide_eq_false Zo
 have g2:((n:Int)<1)=False:=eq_false Zo
 have g3:(64<(n:Int))=False:=eq_false Zo
 have g4:((k:Int)<0)=False:=eq_false Zo
 have g5:((n:Int)<(k:Int))=False:=eq_false Zo
 have g6:(n<k)=False:=eq_false Zo
 go_enter Tryz.func38,Tryz.ntmps38
 go_wp2
 go_loopw [21] (fun i wr=>∃ j:Nat,i=Φ j∧j≤k∧Az (wr.heap[w.heap.size+1]?=some (.cells #[.slice (some (Ψ w.heap.size 0)) n n,Φ 0,Φ 0] 138 (0,0))∧wr.heap[w.heap.size]?=some (.cells (Co .i64 (Fm n j)).toArray 3 (0,0))∧Below w.heap.size w wr)) (fun i _=>k-(intOf i).toNat)
 case atStart=>
  refine ⟨0,rfl,Zo,⟨?_,?_,Af (Af (Below.refl _ _) _) _⟩⟩
  .have:=Cc (w.alloc (.cells (madeCells #[Value.int .i64 0] n) 3)) (.cells #[.slice (some (Ψ w.heap.size 0)) n n,Φ 0,Φ 0] 138)
   rw [World.size_alloc] at this
   simpa using this
  .refine Ba ?_ _
   have:=Cc w (.cells (madeCells #[Value.int .i64 0] n) 3)
   rw [Qa] at this ⊢
   rw [Yi]
   exact this
 case round=>
  obtain ⟨j,rfl,hj,hw⟩:=hrel
  have HH:=Az.m hw.out.1
  have HR:=Az.m hw.out.2.1
  have HB:=Az.m hw.out.2.2
  clear hw
  by_cases hjk:j<k
  .have b0:((j:Int)<(k:Int))=True:=eq_true Zo
   have b1:(j<k)=True:=eq_true hjk
   have b2:(j<n)=True:=eq_true Zo
   have b3:((j:Int)<(n:Int))=True:=eq_true Zo
   have w1:=Ak (x:=(j:Int)+1) Zo Zo
   have c0:wr.cell? (Ψ (w.heap.size+1) 0)=some (.slice (some (Ψ w.heap.size 0)) n n):=(Aa HH.o 0).trans rfl
   have c1:wr.cell? (Ψ w.heap.size j)=some (Φ 0):=(Aa HR.o j).trans (gD Zo)
   have f1:=Ab HR.o j
   have HJ:=Az.m hjk
   clear hj hjk
   go_wp2
   refine ⟨⟨j+1,rfl,HJ.o,⟨Av HH.o (by show w.heap.size+1≠w.heap.size;omega) _,Ae HR.o _ _ ?_,Aq HB.o (Nat.le_refl _)⟩⟩,?_⟩
   .rw [← cI (Nat.lt_of_lt_of_le HJ.o hk)]
    simp [Co]
   .have:=HJ.o
    show k-((j:Int)+1).toNat<k-((j:Int)).toNat
    omega
  .have b0:((j:Int)<(k:Int))=False:=eq_false Zo
   have b1:(j<k)=False:=eq_false hjk
   obtain rfl:j=k:=Zo
   clear hj hjk
   go_wp2
   go_ret
   refine ⟨rfl,⟨?_,HR.o,?_⟩,HB.o⟩
   .show _=some (Obj.cells #[.slice (some (Ψ w.heap.size 0)) (Fm n j).length (Fm n j).length,_,_] 138 (0,0))
    rw [Nt hk]
    exact HH.o
   .show (Fm n j).length≤64
    rw [Nt hk]
    exact h1
end
end Go.Proofs.YtlejhikddkdanaaGreat.Mdl
