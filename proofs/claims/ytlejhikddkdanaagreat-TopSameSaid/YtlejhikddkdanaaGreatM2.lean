/- TopSame, part 2: lemmas on the way. -/
import Derived.Test.YtlejhikddkdanaaGreatM1
set_option maxHeartbeats 8000000
set_option maxRecDepth 1000000
set_option linter.unusedVariables false
set_option linter.unusedSimpArgs false
namespace Go.Proofs.YtlejhikddkdanaaGreat.Mdl
inductive RunsN (c:Cf) (tid:Int):Nat→St→List Fr→St→List Fr→Prop
 |zero (s:St) (l:List Fr):RunsN c tid 0 s l s l
 |step {n:Nat} {s:St} {l:List Fr} {o:Out} {s':St} {l':List Fr}:l.length≤60→bit c tid s l=some o→RunsN c tid n o.st o.frs s' l'→RunsN c tid (n+1) s l s' l'
def Runs (c:Cf) (tid:Int) (s:St) (l:List Fr) (s':St) (l':List Fr):Prop:=∃ n,RunsN c tid n s l s' l'
variable {c:Cf} {tid:Int}
theorem Runs.refl (s:St) (l:List Fr):Runs c tid s l s l:=⟨0,.zero s l⟩
theorem Runs.of {s s1 s':St} {l l1 l':List Fr} {e:List Ev} {a:Bool} (h:bit c tid s l=some ⟨s1,l1,e,a⟩) (r:Runs c tid s1 l1 s' l') (hl:l.length≤60:=by first|assumption|omega|(simp only [List.length_cons,List.length_nil];omega)):Runs c tid s l s' l':=by
 obtain ⟨n,hn⟩:=r
 exact ⟨n+1,.step hl h hn⟩
theorem RunsN.trans {n m:Nat} {a b d:St} {la lb ld:List Fr} (h:RunsN c tid n a la b lb) (k:RunsN c tid m b lb d ld):RunsN c tid (n+m) a la d ld:=by
 induction h with
 |zero s=>rw [Nat.zero_add];exact k
 |step hl h _ ih=>
  rw [Nat.add_right_comm]
  exact .step hl h (ih k)
theorem Runs.trans {a b d:St} {la lb ld:List Fr} (h:Runs c tid a la b lb) (k:Runs c tid b lb d ld):Runs c tid a la d ld:=by
 obtain ⟨n,hn⟩:=h
 obtain ⟨m,hm⟩:=k
 exact ⟨n+m,hn.trans hm⟩
theorem Runs.one {s s1:St} {l l1:List Fr} {e:List Ev} {a:Bool} (h:bit c tid s l=some ⟨s1,l1,e,a⟩) (hl:l.length≤60:=by first|assumption|omega|(simp only [List.length_cons,List.length_nil];omega)):Runs c tid s l s1 l1:=Runs.of h (Runs.refl _ _) hl
theorem Ah {x:Loc} {s:St} {l:List Fr} (h:c.has x=true):Ao c x s l=some ⟨s,l,Cu x,true⟩:=by unfold Ao;rw [if_pos h]
theorem Pb {x:Loc} {s:St} {l:List Fr} {e:Ev} (h:c.has x=true):Iw c x s l e=some ⟨s,l,Cu x++[e],true⟩:=by unfold Iw;rw [if_pos h]
theorem Vl {x y:Loc} {s:St} {l:List Fr} (h:c.has x=true) (h2:c.has y=true):Mg c x y s l=some ⟨s,l,Cu x++Cu y,true⟩:=by unfold Mg;rw [if_pos h,if_pos h2]
theorem Dc {s:St} {f:Fr} {fs:List Fr} (h:f.fn≤6):bit c tid s (f::fs)=Ew c tid s f fs:=by
 have hm:Gd c tid s f fs=Ew c tid s f fs:=by
  unfold Gd
  rw [if_neg Zo]
  split<;>(first|omega|rfl)
 have hs:Er c tid s f fs=Ew c tid s f fs:=by
  unfold Er
  rw [if_pos Zo]
  unfold Qf
  split<;>(first|omega|rfl)
 have hl:Ef c tid s f fs=Ew c tid s f fs:=by
  unfold Ef
  rw [if_pos Zo]
  unfold Ld
  split<;>(first|omega|rfl)
 show (if c.algo=0 then Gd c tid s f fs else if c.algo=1 then Er c tid s f fs else Ef c tid s f fs)=_
 split
 .exact hm
 .split
  .exact hs
  .exact hl
theorem Fi {α:Type} [DecidableEq α] (m:α→Int) (a:α) (v:Int):upd m a v a=v:=if_pos rfl
theorem By {α:Type} [DecidableEq α] (m:α→Int) {a b:α} (v:Int) (h:b≠a):upd m a v b=m b:=if_neg h
theorem Dl (s:St) (x:Loc) (v:Int):(s.put x v).mm x=v:=if_pos rfl
theorem Bo (s:St) {x y:Loc} (v:Int) (h:y≠x):(s.put x v).mm y=s.mm y:=if_neg h
theorem kB (p:Int) (m:Bool) (v:Int) (h0:0≤p) (h1:p<65536):ptr (pack p m v)=p:=by
 unfold ptr pack
 cases m<;>simp<;>omega
theorem gX (p:Int) (m:Bool) (v:Int):mark (pack p m v)=m:=by
 unfold mark pack
 cases m<;>simp<;>omega
theorem Fj (w:Int):0≤ptr w∧ptr w<65536:=by unfold ptr;omega
theorem Em (w p:Int) (m:Bool) (h0:0≤p) (h1:p<65536):ptr (next w p m)=p:=by
 unfold next
 rw [kB _ _ _ Zo Zo]
 omega
theorem Eh (w p:Int) (m:Bool):mark (next w p m)=m:=gX _ _ _
def ButHaz (m m':Loc→Int):Prop:=∀ x,(∀ t i,x≠.haz t i)→m' x=m x
theorem ButHaz.refl (m:Loc→Int):ButHaz m m:=fun _ _=>rfl
theorem ButHaz.trans {a b d:Loc→Int} (h:ButHaz a b) (k:ButHaz b d):ButHaz a d:=fun x hx=>(k x hx).trans (h x hx)
theorem ButHaz.upd (m:Loc→Int) (t i v:Int):ButHaz m (upd m (.haz t i) v):=fun _ hx=>By _ _ (hx t i)
theorem ButHaz.gl {m m':Loc→Int} (h:ButHaz m m') (i:Int):m' (.gl i)=m (.gl i):=h _ (fun _ _ e=>by cases e)
theorem ButHaz.link {m m':Loc→Int} (h:ButHaz m m') (i:Int):m' (.link i)=m (.link i):=h _ (fun _ _ e=>by cases e)
theorem ButHaz.nd {m m':Loc→Int} (h:ButHaz m m') (n f:Int):m' (.nd n f)=m (.nd n f):=h _ (fun _ _ e=>by cases e)
theorem ButHaz.tr {m m':Loc→Int} (h:ButHaz m m') (p:Int):m' (.tr p)=m (.tr p):=h _ (fun _ _ e=>by cases e)
theorem Lp (s:St) (fs:List Fr) (slot a:Int) (x:Loc) (ha:c.lO a=x) (hx:c.has x=true) (hs:c.has (.haz tid slot)=true) (hn:∀ t i,x≠.haz t i) (hfs:fs.length≤50:=by first|assumption|omega|(simp only [List.length_cons,List.length_nil];omega)) :
  ∃ m',ButHaz s.mm m'∧Runs c tid s ({fn:=3,pc:=0,r0:=slot,r1:=a}::fs) ({s with mm:=m'}.told (s.mm x) 0 0) fs:=by
 by_cases h0:ptr (s.mm x)=0
 .refine ⟨s.mm,ButHaz.refl _,Runs.one (e:=Cu x) (a:=true) ?_⟩
  rw [Dc (show 3≤6 by decide)]
  show (if ptr (s.mm (c.lO a))=0 then Ao c (c.lO a) _ _ else _)=_
  rw [ha,if_pos h0,Ah hx]
 .refine ⟨upd s.mm (.haz tid slot) (ptr (s.mm x)),ButHaz.upd _ _ _ _,?_⟩
  refine Runs.of (s1:=s) (l1:={fn:=3,pc:=1,r0:=slot,r1:=a,r2:=s.mm x}::fs) (e:=Cu x) (a:=true) ?_ ?_
  .rw [Dc (show 3≤6 by decide)]
   show (if ptr (s.mm (c.lO a))=0 then Ao c (c.lO a) _ _ else Ao c (c.lO a) _ _)=_
   rw [ha,if_neg h0,Ah hx]
  refine Runs.of (s1:=s.put (.haz tid slot) (ptr (s.mm x))) (l1:={fn:=3,pc:=2,r0:=slot,r1:=a,r2:=s.mm x}::fs) (e:=Cu (.haz tid slot)) (a:=true) ?_ ?_
  .rw [Dc (show 3≤6 by decide)]
   exact Ah hs
  refine Runs.one (e:=Cu x) (a:=true) ?_
  have hv:(s.put (.haz tid slot) (ptr (s.mm x))).mm x=s.mm x:=By _ _ (hn _ _)
  rw [Dc (show 3≤6 by decide)]
  show (if (s.put (.haz tid slot) (ptr (s.mm x))).mm (c.lO a)=s.mm x∨_ then Ao c (c.lO a) ((s.put (.haz tid slot) (ptr (s.mm x))).told ((s.put (.haz tid slot) (ptr (s.mm x))).mm (c.lO a)) 0 0) fs else _)=_
  rw [ha,hv,if_pos (.inl rfl),Ah hx]
  rfl
theorem fY (hs:∀ i:Nat,(i:Int)<c.sl→c.has (.haz tid i)=true) (d:Nat):∀ (s:St) (fs:List Fr) (i:Nat),fs.length≤50→(i:Int)+d=c.sl→
  ∃ m',ButHaz s.mm m'∧Runs c tid s ({fn:=4,pc:=i}::fs) ({s with mm:=m'}.told 0 0 0) fs:=by
 induction d with
 |zero=>
  intro s fs i hfs hi
  refine ⟨s.mm,ButHaz.refl _,Runs.one (e:=[]) (a:=false) ?_⟩
  rw [Dc (show 4≤6 by decide)]
  show (if ((i:Int)≥c.sl) then _ else _)=_
  rw [if_pos Zo]
  rfl
 |succ d ih=>
  intro s fs i hfs hi
  obtain ⟨m',h1,h2⟩:=ih (s.put (.haz tid i) 0) fs (i+1) hfs Zo
  refine ⟨m',(ButHaz.upd _ _ _ _).trans h1,Runs.of (e:=Cu (.haz tid i)) (a:=true) ?_ h2⟩
  rw [Dc (show 4≤6 by decide)]
  show (if ((i:Int)≥c.sl) then _ else Ao c (.haz tid i) _ _)=_
  rw [if_neg Zo,Ah (hs i Zo)]
def Chain (m:Loc→Int):Int→List Int→Prop
 |p,[]=>p=0
 |p,n::r=>p=n∧Chain m (m (.link n)) r
structure Owned (c:Cf) (s:St) (free us:List Int):Prop where
 chain:Chain s.mm (ptr (s.mm (.gl 0))) free
 nodup:(free++s.rt++us).Nodup
 range:∀ n ∈ free++s.rt++us,1≤n∧n≤c.ns
theorem Chain.congr {m m':Loc→Int}:∀ (l:List Int) (p:Int),(∀ n ∈ l,m' (.link n)=m (.link n))→Chain m p l→Chain m' p l
 |[],_,_,h=>h
 |n::r,p,he,h=>by
  refine ⟨h.1,?_⟩
  rw [he n (List.mem_cons_self ..)]
  exact Chain.congr r _ (fun k hk=>he k (List.mem_cons_of_mem _ hk)) h.2
theorem Owned.same {s s':St} {free us:List Int} (h:Owned c s free us) (h0:s'.mm (.gl 0)=s.mm (.gl 0)) (hl:∀ n,s'.mm (.link n)=s.mm (.link n)) (hr:s'.rt=s.rt):Owned c s' free us:=
 ⟨by rw [h0];exact Chain.congr _ _ (fun n _=>hl n) h.chain,by rw [hr];exact h.nodup,by rw [hr];exact h.range⟩
theorem Owned.perm {s:St} {free us used':List Int} (h:Owned c s free us) (hp:us.Perm used'):Owned c s free used':=
 ⟨h.chain,(List.Perm.nodup_iff (List.Perm.append_left _ hp)).1 h.nodup,fun n hn=>h.range n ((List.Perm.append_left _ hp).mem_iff.2 hn)⟩
def ButFree (m m':Loc→Int):Prop:=(∀ i,i≠0→m' (.gl i)=m (.gl i))∧(∀ n f,m' (.nd n f)=m (.nd n f))∧∀ p,m' (.tr p)=m (.tr p)
theorem ButFree.refl (m:Loc→Int):ButFree m m:=⟨fun _ _=>rfl,fun _ _=>rfl,fun _=>rfl⟩
theorem ButFree.trans {a b d:Loc→Int} (h:ButFree a b) (k:ButFree b d):ButFree a d:=
 ⟨fun i hi=>(k.1 i hi).trans (h.1 i hi),fun n f=>(k.2.1 n f).trans (h.2.1 n f),fun p=>(k.2.2 p).trans (h.2.2 p)⟩
theorem ButFree.glob0 (m:Loc→Int) (v:Int):ButFree m (upd m (.gl 0) v):=
 ⟨fun i hi=>By _ _ (fun e=>hi (by injection e)),fun n f=>By _ _ (fun e=>by cases e),fun p=>By _ _ (fun e=>by cases e)⟩
theorem ButFree.link (m:Loc→Int) (n v:Int):ButFree m (upd m (.link n) v):=
 ⟨fun i _=>By _ _ (fun e=>by cases e),fun n f=>By _ _ (fun e=>by cases e),fun p=>By _ _ (fun e=>by cases e)⟩
structure Kept (s s':St):Prop where
 us:s'.us=s.us
 pred:s'.pred=s.pred
 succ:s'.succ=s.succ
 wrd:s'.wrd=s.wrd
theorem Kept.refl (s:St):Kept s s:=⟨rfl,rfl,rfl,rfl⟩
structure Good (c:Cf) (tid:Int):Prop where
 algo:0≤c.algo∧c.algo≤2
 th:1≤c.th∧c.th≤6
 ns:c.sE<c.ns∧c.ns≤64
 lv:1≤c.lv∧c.lv≤6
 batch:1≤c.batch∧c.batch≤16
 probes:1≤c.probes∧c.probes≤16
 scan:1≤c.scan∧c.scan≤64
 bytes:∀ b ∈ c.bytes,0≤b∧b≤255
 me:0≤tid∧tid<c.th
theorem Cw (i:Int) (h0:0≤i) (h1:i<8):c.has (.gl i)=true:=by unfold Cf.has;exact decide_eq_true ⟨h0,h1⟩
theorem bD {n:Int} (h0:1≤n) (h1:n≤c.ns):c.has (.link n)=true:=by unfold Cf.has;exact decide_eq_true ⟨h0,h1⟩
theorem Ra {m:Loc→Int} {p:Int} {l:List Int} (h:Chain m p l) (hr:∀ n ∈ l,1≤n∧n≤c.ns) (hn:c.ns≤64):0≤p∧p<65536:=by
 cases l with
 |nil=>rw [show p=0 from h];omega
 |cons a r=>have:=hr a (List.mem_cons_self ..);rw [h.1];omega
theorem Kk (G:Good c tid) {s:St} {n:Int} {free us:List Int} (fs:List Fr) (h:Owned c s (n::free) us) (hfs:fs.length≤50:=by first|assumption|omega|(simp only [List.length_cons,List.length_nil];omega)) :
  ∃ s',Runs c tid s ({fn:=1,pc:=0}::fs) (s'.told n 0 0) fs∧Owned c s' free (n::us)∧Kept s s'∧ButFree s.mm s'.mm∧s'.rt=s.rt:=by
 obtain ⟨hc,hd,hr⟩:=h
 have hn:=hr n Zs
 have hp:ptr (s.mm (.gl 0))=n:=hc.1
 have hN:=G.ns.2
 have hst:=Ra (c:=c) hc.2 (fun k hk=>hr k (by simp [hk])) hN
 refine ⟨s.put (.gl 0) (next (s.mm (.gl 0)) (s.mm (.link n)) false),?_,?_,⟨rfl,rfl,rfl,rfl⟩,ButFree.glob0 _ _,rfl⟩
 .refine Runs.of (s1:=s) (l1:={fn:=1,pc:=1,r0:=s.mm (.gl 0)}::fs) (e:=[]) (a:=true) ?_ ?_
  .rw [Dc (show 1≤6 by decide)]
   show (if ptr (s.mm (.gl 0))=0 then _ else Ao c (.gl 0) _ _)=_
   rw [if_neg Zo,Ah (Cw 0 Zd Zd)]
   rfl
  refine Runs.of (s1:=s) (l1:={fn:=1,pc:=2,r0:=s.mm (.gl 0),r1:=s.mm (.link n)}::fs) (e:=[]) (a:=true) ?_ ?_
  .rw [Dc (show 1≤6 by decide)]
   show Ao c (.link (ptr (s.mm (.gl 0)))) s ({fn:=1,pc:=2,r0:=s.mm (.gl 0),r1:=s.mm (.link (ptr (s.mm (.gl 0))))}::fs)=_
   rw [hp,Ah (bD hn.1 hn.2)]
   rfl
  refine Runs.one (e:=[.took n]) (a:=true) ?_
  rw [Dc (show 1≤6 by decide)]
  show (if s.mm (.gl 0)=s.mm (.gl 0) then Iw c (.gl 0) ((s.put (.gl 0) (next (s.mm (.gl 0)) (s.mm (.link n)) false)).told (ptr (s.mm (.gl 0))) 0 0) fs (.took (ptr (s.mm (.gl 0)))) else _)=_
  rw [if_pos rfl,Pb (Cw 0 Zd Zd),hp]
  rfl
 .refine ⟨?_,?_,?_⟩
  .rw [Dl,Em _ _ _ hst.1 hst.2]
   exact Chain.congr _ _ (fun k _=>Bo _ _ (fun e=>by cases e)) hc.2
  .have:(free++s.rt++n::us).Perm (n::free++s.rt++us):=by
    rw [List.cons_append,List.cons_append]
    exact List.perm_middle
   exact this.nodup_iff.2 hd
  .intro k hk
   refine hr k ?_
   simp only [List.mem_append,List.mem_cons] at hk ⊢
   rcases hk with (h|h)|h|h
   .exact .inl (.inl (.inr h))
   .exact .inl (.inr h)
   .exact .inl (.inl (.inl h))
   .exact .inr h
theorem Mc {s:St} {us:List Int} (fs:List Fr) (h:Owned c s [] us) (hfs:fs.length≤50:=by first|assumption|omega|(simp only [List.length_cons,List.length_nil];omega)):Runs c tid s ({fn:=1,pc:=0}::fs) (s.told 0 0 0) fs:=by
 refine Runs.one (e:=[]) (a:=true) ?_
 rw [Dc (show 1≤6 by decide)]
 show (if ptr (s.mm (.gl 0))=0 then Ao c (.gl 0) _ _ else _)=_
 rw [if_pos (show ptr (s.mm (.gl 0))=0 from h.chain),Ah (Cw 0 Zd Zd)]
 rfl
theorem Oj (G:Good c tid) {s:St} {n:Int} {free us:List Int} (fs:List Fr) (h:Owned c s free (n::us)) (hfs:fs.length≤50:=by first|assumption|omega|(simp only [List.length_cons,List.length_nil];omega)) :
  ∃ s',Runs c tid s ({fn:=2,pc:=0,r0:=n}::fs) (s'.told n 0 0) fs∧Owned c s' (n::free) us∧Kept s s'∧ButFree s.mm s'.mm∧s'.rt=s.rt∧s'.found=s.found:=by
 obtain ⟨hc,hd,hr⟩:=h
 have hn:=hr n Zs
 have hN:=G.ns.2
 have hst:=Ra (c:=c) hc (fun k hk=>hr k (by simp [hk])) hN
 have hnf:n ∉ free:=fun hm=>by
  rw [List.append_assoc,List.nodup_append] at hd
  exact hd.2.2 n hm n Zs rfl
 refine ⟨(s.put (.link n) (ptr (s.mm (.gl 0)))).put (.gl 0) (next (s.mm (.gl 0)) n false),?_,?_,⟨rfl,rfl,rfl,rfl⟩,(ButFree.link _ _ _).trans (ButFree.glob0 _ _),rfl,rfl⟩
 .refine Runs.of (s1:=s) (l1:={fn:=2,pc:=1,r0:=n,r1:=s.mm (.gl 0)}::fs) (e:=[]) (a:=true) ?_ ?_
  .rw [Dc (show 2≤6 by decide)]
   exact Ah (c:=c) (Cw 0 Zd Zd)
  refine Runs.of (s1:=s.put (.link n) (ptr (s.mm (.gl 0)))) (l1:={fn:=2,pc:=2,r0:=n,r1:=s.mm (.gl 0)}::fs) (e:=[]) (a:=true) ?_ ?_
  .rw [Dc (show 2≤6 by decide)]
   exact Ah (bD hn.1 hn.2)
  refine Runs.one (e:=[.freed n]) (a:=true) ?_
  rw [Dc (show 2≤6 by decide)]
  have e:(s.put (.link n) (ptr (s.mm (.gl 0)))).mm (.gl 0)=s.mm (.gl 0):=Bo _ _ (fun e=>by cases e)
  show (if 65536≤n then none else if (s.put (.link n) (ptr (s.mm (.gl 0)))).mm (.gl 0)=s.mm (.gl 0) then Iw c (.gl 0) _ _ _ else _)=_
  rw [if_neg Zo,if_pos e,Pb (Cw 0 Zd Zd)]
  rfl
 .refine ⟨?_,?_,?_⟩
  .rw [Dl,Em _ _ _ Zo Zo]
   refine ⟨rfl,?_⟩
   rw [Bo _ _ (fun e=>by cases e),Dl]
   refine Chain.congr _ _ (fun k hk=>?_) hc
   rw [Bo _ _ (fun e=>by cases e),Bo _ _ (fun e=>hnf (by injection e with e;exact e▸hk))]
  .have:(n::free++s.rt++us).Perm (free++s.rt++n::us):=by
    rw [List.cons_append,List.cons_append]
    exact List.perm_middle.symm
   exact this.nodup_iff.2 hd
  .intro k hk
   refine hr k ?_
   simp only [List.mem_append,List.mem_cons] at hk ⊢
   rcases hk with ((h|h)|h)|h
   .exact .inr (.inl h)
   .exact .inl (.inl h)
   .exact .inl (.inr h)
   .exact .inr (.inr h)
theorem Vd:∀ (n:Nat) (l:List Int),l.Nodup→(∀ x ∈ l,1≤x∧x≤(n:Int))→l.length≤n:=by
 intro n
 induction n with
 |zero=>
  intro l _ h
  cases l with
  |nil=>exact Nat.le_refl _
  |cons a r=>have:=h a (List.mem_cons_self ..);omega
 |succ n ih=>
  intro l hd h
  have h1:=ih (l.erase ((n:Int)+1)) (hd.erase _) (fun x hx=>by
   have hx2:=List.mem_of_mem_erase hx
   have hne:x≠(n:Int)+1:=fun e=>by
    subst e
    exact (List.Nodup.mem_erase_iff hd).1 hx |>.1 rfl
   have:=h x hx2
   omega)
  by_cases hm:((n:Int)+1) ∈ l
  .have:=List.length_erase_of_mem hm
   have h3:0<l.length:=List.length_pos_of_mem hm
   omega
  .rw [List.erase_of_not_mem hm] at h1
   omega
theorem Qy (G:Good c tid) {s:St} {free us:List Int} (h:Owned c s free us):s.rt.length≤64:=by
 have hN:=G.ns
 refine Vd 64 s.rt ?_ ?_
 .have:=h.nodup
  rw [List.append_assoc,List.nodup_append] at this
  have h2:=this.2.1
  rw [List.nodup_append] at h2
  exact h2.1
 .intro x hx
  have:=h.range x (by simp [hx])
  omega
theorem gK (G:Good c tid) (fs:List Fr) (p:Nat) (hp:c.sl*c.th<(p:Int)) (hp0:p≠0) (hfs:fs.length≤49):∀ (fd:List Int) (s:St) (free us:List Int),s.found=fd→Owned c s free (fd++us)→
  ∃ s' free',Runs c tid s ({fn:=6,pc:=p}::fs) (s'.told 0 0 0) fs∧Owned c s' free' us∧Kept s s'∧ButFree s.mm s'.mm∧s'.rt=s.rt:=by
 intro fd
 induction fd with
 |nil=>
  intro s free us hf h
  refine ⟨s,free,Runs.one (e:=[]) (a:=false) ?_,h,Kept.refl _,ButFree.refl _,rfl⟩
  rw [Dc (show 6≤6 by decide)]
  show (if (p:Int)<c.sl*c.th then _ else if (p:Int)=c.sl*c.th then _ else El s _ fs)=_
  rw [if_neg Zo,if_neg Zo]
  unfold El
  simp only [hf]
  rfl
 |cons n r ih=>
  intro s free us hf h
  obtain ⟨s1,h1,h2,h3,h4,h5,h6⟩:=Oj G (s:={s with found:=r,moved:=true}) (n:=n) (free:=free) (us:=r++us) ({fn:=6,pc:=p}::fs) ⟨h.chain,h.nodup,h.range⟩
  obtain ⟨s2,free',k1,k2,k3,k4,k5⟩:=ih (s1.told n 0 0) (n::free) us h6 ⟨h2.chain,h2.nodup,h2.range⟩
  refine ⟨s2,free',Runs.of (s1:={s with found:=r,moved:=true}) (l1:={fn:=2,pc:=0,r0:=n}::{fn:=6,pc:=p}::fs) (e:=[]) (a:=false) ?_ (h1.trans k1),k2,⟨k3.us.trans h3.us,k3.pred.trans h3.pred,k3.succ.trans h3.succ,k3.wrd.trans h3.wrd⟩,h4.trans k4,k5.trans h5⟩
  rw [Dc (show 6≤6 by decide)]
  show (if (p:Int)<c.sl*c.th then _ else if (p:Int)=c.sl*c.th then _ else El s _ fs)=_
  rw [if_neg Zo,if_neg Zo]
  unfold El
  simp only [hf]
  have hn:=h.range n Zs
  have hN:=G.ns
  rw [if_pos Zo]
  rfl
theorem Es (G:Good c tid):2≤c.sl∧c.sl≤14:=by
 have:=G.lv
 unfold Cf.sl
 split<;>omega
theorem Gf {t i:Int} (h0:0≤t) (h1:t<c.th) (h2:0≤i) (h3:i<c.sl):c.has (.haz t i)=true:=by
 unfold Cf.has
 exact decide_eq_true ⟨h0,h1,h2,h3⟩
theorem Uv (G:Good c tid) (fs:List Fr) (hfs:fs.length≤49) (d:Nat):∀ (s:St) (p:Nat) (free us:List Int),(p:Int)+d=c.sl*c.th→(p=0∨s.moved=false∧s.found.length≤p)→Owned c s free us→
  ∃ s' free',Runs c tid s ({fn:=6,pc:=p}::fs) (s'.told 0 0 0) fs∧Owned c s' free' us∧Kept s s'∧ButFree s.mm s'.mm∧∀ n ∈ s'.rt,n ∈ s.rt:=by
 have hsl:=Es G
 have hth:=G.th
 induction d with
 |zero=>
  intro s p free us hp hm h
  have hpos:0<c.sl*c.th:=Int.mul_pos Zo Zo
  have hp0:p≠0:=Zo
  obtain ⟨q,hq⟩:∃ q:Int→Bool,q=fun n=>!s.found.contains n:=⟨_,rfl⟩
  have hperm:(s.rt.filter q++s.rt.filter (fun n=>!q n)).Perm s.rt:=List.filter_append_perm q s.rt
  have hq2:(fun n=>s.found.contains n)=fun n=>!q n:=by rw [hq];funext n;simp
  have hO:Owned c {s with found:=s.rt.filter q,rt:=s.rt.filter (fun n=>!q n),moved:=false} free (s.rt.filter q++us):=by
   have hP:(free++s.rt.filter (fun n=>!q n)++(s.rt.filter q++us)).Perm (free++s.rt++us):=by
    rw [List.append_assoc,List.append_assoc]
    refine List.Perm.append_left _ ?_
    rw [← List.append_assoc]
    exact List.Perm.append_right _ (List.perm_append_comm.trans hperm)
   exact ⟨h.chain,hP.nodup_iff.2 h.nodup,fun n hn=>h.range n (hP.mem_iff.1 hn)⟩
  have hb:bit c tid s ({fn:=6,pc:=p}::fs)=El {s with found:=s.rt.filter q,rt:=s.rt.filter (fun n=>!q n),moved:=false} {fn:=6,pc:=p+1} fs:=by
   rw [Dc (show 6≤6 by decide)]
   show (if (p:Int)<c.sl*c.th then _ else if (p:Int)=c.sl*c.th then (if s.rt.length<1000∧s.found.length<1000 then El {s with found:=s.rt.filter (fun n=>!(if p=0 then [] else s.found).contains n),rt:=s.rt.filter (fun n=>(if p=0 then [] else s.found).contains n),moved:=false} _ fs else none) else _)=_
   have hmul:=Int.mul_le_mul hsl.2 hth.2 Zo Zo
   rw [if_neg Zo,if_pos Zo,if_pos ⟨by have:=Qy G h;omega,by have:=(hm.resolve_left hp0).2;omega⟩,if_neg hp0,hq2,← hq]
  cases hfd:s.rt.filter q with
  |nil=>
   rw [hfd] at hb hO
   refine ⟨_,free,Runs.one (e:=[]) (a:=false) hb,hO,⟨rfl,rfl,rfl,rfl⟩,ButFree.refl _,fun n hn=>(List.mem_filter.1 hn).1⟩
  |cons n r=>
   rw [hfd] at hb hO
   obtain ⟨s1,h1,h2,h3,h4,h5,h6⟩:=Oj G (s:={s with found:=r,rt:=s.rt.filter (fun n=>!q n),moved:=true}) (n:=n) (free:=free) (us:=r++us) ({fn:=6,pc:=p+1}::fs) ⟨hO.chain,hO.nodup,hO.range⟩
   obtain ⟨s2,free',k1,k2,k3,k4,k5⟩:=gK G fs (p+1) Zo Zo hfs r (s1.told n 0 0) (n::free) us h6 ⟨h2.chain,h2.nodup,h2.range⟩
   refine ⟨s2,free',Runs.of (s1:={s with found:=r,rt:=s.rt.filter (fun n=>!q n),moved:=true}) (l1:={fn:=2,pc:=0,r0:=n}::{fn:=6,pc:=p+1}::fs) (e:=[]) (a:=false) (hb.trans (if_pos (by have hn:=hO.range n Zs;have hN:=G.ns;omega))) (h1.trans k1),k2,
    ⟨k3.us.trans h3.us,k3.pred.trans h3.pred,k3.succ.trans h3.succ,k3.wrd.trans h3.wrd⟩,h4.trans k4,fun m hm=>?_⟩
   rw [k5] at hm
   have hm2:m ∈ s.rt.filter (fun n=>!q n):=by
    have:=h5▸hm
    exact this
   exact (List.mem_filter.1 hm2).1
 |succ d ih=>
  intro s p free us hp hm h
  have hdiv:(p:Int) / c.sl<c.th:=Int.ediv_lt_of_lt_mul Zo (by rw [Int.mul_comm];omega)
  have hx:=Gf (c:=c) (t:=(p:Int) / c.sl) (i:=(p:Int) % c.sl) (Int.ediv_nonneg Zo Zo) hdiv (Int.emod_nonneg _ Zo) (Int.emod_lt_of_pos _ Zo)
  obtain ⟨s',free',k1,k2,k3,k4,k5⟩:=ih {s with found:=(if p=0 then [] else s.found)++[i64 (s.mm (.haz ((p:Int) / c.sl) ((p:Int) % c.sl)))],moved:=false} (p+1) free us Zo (.inr ⟨rfl,by simp only [List.length_append,List.length_cons,List.length_nil];split<;>simp<;>omega⟩) ⟨h.chain,h.nodup,h.range⟩
  refine ⟨s',free',Runs.of (e:=[]) (a:=true) ?_ k1,k2,⟨k3.us,k3.pred,k3.succ,k3.wrd⟩,k4,k5⟩
  rw [Dc (show 6≤6 by decide)]
  have h1000:p<1000:=by
   have:=Int.mul_le_mul hsl.2 hth.2 Zo Zo
   omega
  show (if (p:Int)<c.sl*c.th then (if p=0∨(s.moved=false∧s.found.length<1000) then Ao c _ _ _ else _) else _)=_
  rw [if_pos Zo,if_pos (hm.imp (fun h=>h) (fun h=>⟨h.1,Zo⟩)),Ah hx]
  rfl
theorem Ke (G:Good c tid) {s:St} {n:Int} {free us:List Int} (fs:List Fr) (h:Owned c s free (n::us)) (hfs:fs.length≤49:=by first|assumption|omega|(simp only [List.length_cons,List.length_nil];omega)) :
  ∃ s' free',Runs c tid s ({fn:=5,pc:=0,r0:=n}::fs) (s'.told 0 0 0) fs∧Owned c s' free' us∧Kept s s'∧ButFree s.mm s'.mm:=by
 have hN:=G.ns
 have hlen:s.rt.length≤64:=Qy G h
 have hO:Owned c {s with rt:=s.rt++[n]} free us:=by
  have hP:(free++(s.rt++[n])++us).Perm (free++s.rt++n::us):=by
   rw [List.append_assoc,List.append_assoc,List.append_assoc]
   exact List.Perm.refl _
  exact ⟨h.chain,hP.nodup_iff.2 h.nodup,fun k hk=>h.range k (hP.mem_iff.1 hk)⟩
 have hb:bit c tid s ({fn:=5,pc:=0,r0:=n}::fs)=(if ((s.rt.length:Int)+1)≥c.scan then some ⟨{s with rt:=s.rt++[n]}.told 0 0 0,{fn:=6,pc:=0}::fs,[.gone n],false⟩
   else some ⟨{s with rt:=s.rt++[n]}.told 0 0 0,fs,[.gone n],false⟩):=by
  rw [Dc (show 5≤6 by decide)]
  have hn:=h.range n Zs
  show (if s.rt.length<1000∧n<65536 then _ else _)=_
  rw [if_pos Zo]
 by_cases hs:((s.rt.length:Int)+1)≥c.scan
 .rw [if_pos hs] at hb
  have hsl:=Es G
  have hpos:0≤c.sl*c.th:=Int.mul_nonneg Zo (by have:=G.th;omega)
  obtain ⟨s',free',k1,k2,k3,k4,_⟩:=Uv G fs hfs (c.sl*c.th).toNat ({s with rt:=s.rt++[n]}.told 0 0 0) 0 free us Zo (.inl rfl) ⟨hO.chain,hO.nodup,hO.range⟩
  exact ⟨s',free',Runs.of hb k1,k2,⟨k3.us,k3.pred,k3.succ,k3.wrd⟩,k4⟩
 .rw [if_neg hs] at hb
  exact ⟨{s with rt:=s.rt++[n]},free,Runs.one hb,hO,⟨rfl,rfl,rfl,rfl⟩,ButFree.refl _⟩
theorem Ic (G:Good c tid) (s:St) (f:Fr) (kind key val:Int) (hf:(c.algo=0∧11≤f.fn∧f.fn≤13)∨(c.algo=1∧21≤f.fn∧f.fn≤23)∨(c.algo=2∧31≤f.fn∧f.fn≤33)) :
  ∃ m',ButHaz s.mm m'∧Runs c tid s (fin s f [] kind key val) ({s with mm:=m'}.told kind key val) []:=by
 have hsl:=Es G
 obtain ⟨m',h1,h2⟩:=fY (c:=c) (tid:=tid) (fun i hi=>Gf G.me.1 G.me.2 Zo hi) c.sl.toNat s [{f with r7:=kind,r8:=key,r9:=val,pc:=90}] 0 Zs Zo
 refine ⟨m',h1,h2.trans (Runs.one (e:=[]) (a:=false) ?_)⟩
 rcases hf with ⟨ha,h3,h4⟩|⟨ha,h3,h4⟩|⟨ha,h3,h4⟩
 .show (if c.algo=0 then Gd c tid _ _ _ else _)=_
  rw [if_pos ha]
  unfold Gd
  rw [if_pos ⟨rfl,h3,h4⟩]
  rfl
 .show (if c.algo=0 then _ else if c.algo=1 then Er c tid _ _ _ else _)=_
  rw [if_neg Zo,if_pos ha]
  unfold Er
  rw [if_neg (by show ¬ (f.fn<21∨23<f.fn);omega),if_pos rfl]
  rfl
 .show (if c.algo=0 then _ else if c.algo=1 then _ else Ef c tid _ _ _)=_
  rw [if_neg Zo,if_neg Zo]
  unfold Ef
  rw [if_neg (by show ¬ (f.fn<31∨36<f.fn);omega),if_pos rfl]
  rfl
end Go.Proofs.YtlejhikddkdanaaGreat.Mdl
namespace Go.Proofs.YtlejhikddkdanaaGreat.Mdl
variable {c:Cf} {tid:Int}
def ListAt (m:Loc→Int):Int→List Int→Prop
 |p,[]=>p=0
 |p,n::r=>p=n∧ListAt m (m (.nd n 2)) r
def hk (m:Loc→Int):List Int→Int
 |[]=>lV
 |n::_=>m (.nd n 0)
def Bw (N:Nat) (T:Int→List Int):List Int:=(List.range N).flatMap fun (i:Nat)=>T (i:Int)
def Iz (T:Int→List Int) (q:Int) (l:List Int):Int→List Int:=fun p=>if p=q then l else T p
theorem Eu (T:Int→List Int) (q:Int) (l:List Int):Iz T q l q=l:=if_pos rfl
theorem Dk (T:Int→List Int) {q p:Int} (l:List Int) (h:p≠q):Iz T q l p=T p:=if_neg h
theorem Zr (T:Int→List Int) (q:Int) (l:List Int):∀ N:Nat,¬ (0≤q∧q<(N:Int))→Bw N (Iz T q l)=Bw N T:=by
 intro N h
 unfold Bw
 rw [List.flatMap_def,List.flatMap_def]
 congr 1
 refine List.map_congr_left fun i hi=>?_
 have:=List.mem_range.1 hi
 exact Dk _ _ Zo
theorem Iv (T:Int→List Int) (q:Int):∀ N:Nat,0≤q→q<(N:Int)→∃ rest,(Bw N T).Perm (T q++rest)∧∀ l,(Bw N (Iz T q l)).Perm (l++rest):=by
 intro N
 induction N with
 |zero=>intro h0 h1;omega
 |succ N ih=>
  intro h0 h1
  have e:∀ T':Int→List Int,Bw (N+1) T'=Bw N T'++T' (N:Int):=fun T'=>by
   unfold Bw
   rw [List.range_succ,List.flatMap_append]
   simp
  by_cases hq:q=(N:Int)
  .refine ⟨Bw N T,?_,fun l=>?_⟩
   .rw [e,hq]
    exact List.perm_append_comm
   .rw [e,Zr T q l N Zo,← hq,Eu]
    exact List.perm_append_comm
  .obtain ⟨rest,h2,h3⟩:=ih h0 Zo
   refine ⟨rest++T (N:Int),?_,fun l=>?_⟩
   .rw [e,← List.append_assoc]
    exact List.Perm.append_right _ h2
   .rw [e,← List.append_assoc,Dk _ _ (Ne.symm hq)]
    exact List.Perm.append_right _ (h3 l)
structure Mound (c:Cf) (m:Loc→Int) (T:Int→List Int) (dirty:Int):Prop where
 depth:1≤m (.gl 2)∧m (.gl 2)≤c.lv
 marks:∀ p,1≤p→p<c.pl→mark (m (.tr p))=decide (p=dirty)
 lists:∀ p,1≤p→p<c.pl→ListAt m (ptr (m (.tr p))) (T p)
 out:∀ p,¬ (1≤p∧p<c.pl)→T p=[]
 beyond:∀ p,((2 ^ (m (.gl 2)).toNat:Nat):Int)≤p→T p=[]
 sorted:∀ p,(T p).Pairwise (fun a b=>m (.nd a 0)≤m (.nd b 0))
 heap:∀ p,2≤p→p / 2≠dirty→hk m (T (p / 2))≤hk m (T p)
 heap2:∀ p,4≤p→p / 2=dirty→hk m (T (p / 4))≤hk m (T p)
 keys:∀ p,∀ n ∈ T p,0≤m (.nd n 0)∧m (.nd n 0)<4294967296
theorem ListAt.congr {m m':Loc→Int}:∀ (l:List Int) (p:Int),(∀ n ∈ l,m' (.nd n 2)=m (.nd n 2))→ListAt m p l→ListAt m' p l
 |[],_,_,h=>h
 |n::r,p,he,h=>by
  refine ⟨h.1,?_⟩
  rw [he n (List.mem_cons_self ..)]
  exact ListAt.congr r _ (fun k hk=>he k (List.mem_cons_of_mem _ hk)) h.2
theorem Eb {m m':Loc→Int} (l:List Int) (h:∀ n ∈ l,m' (.nd n 0)=m (.nd n 0)):hk m' l=hk m l:=by
 cases l with
 |nil=>rfl
 |cons n r=>exact h n (List.mem_cons_self ..)
theorem Mound.same {m m':Loc→Int} {T:Int→List Int} {d:Int} (h:Mound c m T d) (h2:m' (.gl 2)=m (.gl 2)) (ht:∀ p,m' (.tr p)=m (.tr p))
  (hn:∀ p,∀ n ∈ T p,m' (.nd n 0)=m (.nd n 0)∧m' (.nd n 2)=m (.nd n 2)):Mound c m' T d where
 depth:=by rw [h2];exact h.depth
 marks:=fun p a b=>by rw [ht];exact h.marks p a b
 lists:=fun p a b=>by rw [ht];exact ListAt.congr _ _ (fun n hm=>(hn p n hm).2) (h.lists p a b)
 out:=h.out
 beyond:=fun p a=>h.beyond p (by rw [← h2];exact a)
 sorted:=fun p=>by
  refine List.Pairwise.imp_of_mem ?_ (h.sorted p)
  intro a b ha hb hab
  rw [(hn p a ha).1,(hn p b hb).1]
  exact hab
 heap:=fun p a b=>by
  rw [Eb _ (fun n hm=>(hn _ n hm).1),Eb _ (fun n hm=>(hn _ n hm).1)]
  exact h.heap p a b
 heap2:=fun p a b=>by
  rw [Eb _ (fun n hm=>(hn _ n hm).1),Eb _ (fun n hm=>(hn _ n hm).1)]
  exact h.heap2 p a b
 keys:=fun p n hm=>by rw [(hn p n hm).1];exact h.keys p n hm
theorem Mound.bH {m m':Loc→Int} {T:Int→List Int} {d:Int} (h:Mound c m T d) (hb:ButHaz m m'):Mound c m' T d:=
 h.same (hb.gl 2) hb.tr fun _ n _=>⟨hb.nd n 0,hb.nd n 2⟩
theorem Mound.butFree {m m':Loc→Int} {T:Int→List Int} {d:Int} (h:Mound c m T d) (hb:ButFree m m'):Mound c m' T d:=
 h.same (hb.1 2 Zd) hb.2.2 fun _ n _=>⟨hb.2.1 n 0,hb.2.1 n 2⟩
theorem Owned.bH {s s':St} {free us:List Int} (h:Owned c s free us) (hb:ButHaz s.mm s'.mm) (hr:s'.rt=s.rt):Owned c s' free us:=h.same (hb.gl 0) hb.link hr
theorem uG {m:Loc→Int} {T:Int→List Int} {d:Int} (h:Mound c m T d) (p:Int):hk m (T p)≤lV:=by
 cases e:T p with
 |nil=>exact Int.le_refl _
 |cons n r=>have:=h.keys p n (by rw [e];exact List.mem_cons_self ..);show m (.nd n 0)≤1099511627776;omega
theorem bC {m:Loc→Int} {T:Int→List Int} {d:Int} (h:Mound c m T d) (p n:Int) (hn:n ∈ T p):hk m (T p)≤m (.nd n 0):=by
 have hs:=h.sorted p
 cases e:T p with
 |nil=>rw [e] at hn;cases hn
 |cons a r=>
  rw [e] at hn hs
  show m (.nd a 0)≤_
  rcases List.mem_cons.1 hn with rfl|hm
  .exact Int.le_refl _
  .exact (List.pairwise_cons.1 hs).1 n hm
theorem Sl {m:Loc→Int} {T:Int→List Int} (h:Mound c m T 0):∀ (k:Nat) (p:Int),p=(k:Int)→1≤p→hk m (T 1)≤hk m (T p):=by
 intro k
 induction k using Nat.strongRecOn with
 |ind k ih=>
  intro p hp h1
  by_cases h2:2≤p
  .exact Int.le_trans (ih (p / 2).toNat Zo (p / 2) Zo Zo) (h.heap p h2 Zo)
  .rw [show p=1 by omega];exact Int.le_refl _
theorem cV {m:Loc→Int} {T:Int→List Int} (h:Mound c m T 0) (he:T 1=[]) (p:Int):T p=[]:=by
 by_cases hp:1≤p
 .cases e:T p with
  |nil=>rfl
  |cons n r=>
   have h1:=Sl h p.toNat p Zo hp
   have h2:=h.keys p n (by rw [e];exact List.mem_cons_self ..)
   rw [he,e] at h1
   have h3:(1099511627776:Int)≤m (.nd n 0):=h1
   omega
 .exact h.out p Zo
theorem Kz (ha:c.algo=0):c.pl=((2 ^ c.lv.toNat:Nat):Int):=by unfold Cf.pl;rw [if_pos ha]
theorem Sv (G:Good c tid) (ha:c.algo=0) (p:Int) (h0:0≤p):c.lO (c.addr (.tr p))=.tr p:=by
 have h1:=G.th
 have h2:=G.ns
 have hs:c.sl=2:=by unfold Cf.sl;rw [if_pos ha]
 have hw:c.wI=3:=by unfold Cf.wI;rw [if_pos ha]
 have hse:c.sE=0:=by unfold Cf.sE;rw [if_pos ha]
 show c.lO (c.tA+p)=_
 unfold Cf.lO Cf.tA Cf.nA Cf.lK Cf.hZ
 rw [hs,hw,if_neg Zo,if_neg Zo,if_neg Zo,if_neg Zo]
 congr 1
 omega
theorem Ib {p:Int} (h0:0≤p) (h1:p<c.pl):c.has (.tr p)=true:=by unfold Cf.has;exact decide_eq_true ⟨h0,h1⟩
theorem Ov {n f:Int} (h0:1≤n) (h1:n≤c.ns) (h2:0≤f) (h3:f<c.wI):c.has (.nd n f)=true:=by unfold Cf.has;exact decide_eq_true ⟨h0,h1,h2,h3⟩
theorem Qj (ha:c.algo=0):c.wI=3:=by unfold Cf.wI;rw [if_pos ha]
theorem Qn (ha:c.algo=0):c.sl=2:=by unfold Cf.sl;rw [if_pos ha]
theorem Jn (ha:c.algo=0) {s:St} {f:Fr} {fs:List Fr}:bit c tid s (f::fs)=Gd c tid s f fs:=by
 show (if c.algo=0 then Gd c tid s f fs else _)=_
 rw [if_pos ha]
theorem Ih (G:Good c tid) (ha:c.algo=0) {s:St} {T:Int→List Int} {d p:Int} (fs:List Fr) (h:Mound c s.mm T d) (hp:1≤p) (hq:p<c.pl)
  (hr:∀ n ∈ T p,1≤n∧n≤c.ns) (hfs:fs.length≤48:=by first|assumption|omega|(simp only [List.length_cons,List.length_nil];omega)) :
  ∃ m',ButHaz s.mm m'∧Runs c tid s ({fn:=10,pc:=0,r0:=p}::fs) ({s with mm:=m'}.told (s.mm (.tr p)) (hk s.mm (T p)) 0) fs:=by
 have hsl:=Qn ha
 obtain ⟨m',h1,h2⟩:=Lp (c:=c) (tid:=tid) s ({fn:=10,pc:=1,r0:=p}::fs) 1 (c.addr (.tr p)) (.tr p) (Sv G ha p Zo) (Ib Zo hq) (Gf G.me.1 G.me.2 Zo Zo) (fun _ _ e=>by cases e)
 refine ⟨m',h1,Runs.of (s1:=s) (e:=[]) (a:=false) ?_ (h2.trans ?_)⟩
 .rw [Jn ha]
  show (if c.has (.tr p) then _ else none)=_
  rw [if_pos (Ib Zo hq)]
  rfl
 .have hl:=h.lists p hp hq
  cases e:T p with
  |nil=>
   rw [e] at hl
   have hz:ptr (s.mm (.tr p))=0:=hl
   refine Runs.one (e:=[]) (a:=false) ?_
   rw [Jn ha]
   show (if ptr (s.mm (.tr p))=0 then _ else _)=_
   rw [if_pos hz]
   rfl
  |cons n r=>
   rw [e] at hl
   have hz:ptr (s.mm (.tr p))=n:=hl.1
   have hn:=hr n (by rw [e];exact List.mem_cons_self ..)
   refine Runs.one (e:=[.touch n]) (a:=true) ?_
   rw [Jn ha]
   show (if ptr (s.mm (.tr p))=0 then _ else Ao c (.nd (ptr (s.mm (.tr p))) 0) (({s with mm:=m'}.told (s.mm (.tr p)) 0 0).told (s.mm (.tr p)) (m' (.nd (ptr (s.mm (.tr p))) 0)) 0) fs)=_
   rw [if_neg Zo,hz,Ah (Ov hn.1 hn.2 Zd (by rw [Qj ha];decide)),h1.nd]
   rfl
theorem Runs.via {s s':St} {l l':List Fr} {o:Out} (h:bit c tid s l=some o) (r:Runs c tid o.st o.frs s' l') (hl:l.length≤60:=by first|assumption|omega|(simp only [List.length_cons,List.length_nil];omega)):Runs c tid s l s' l':=by
 obtain ⟨n,hn⟩:=r
 exact ⟨n+1,.step hl h hn⟩
def N (c:Cf):Nat:=c.pl.toNat
theorem aD {T:Int→List Int} {N:Nat} {p n:Int} (h0:0≤p) (h1:p<(N:Int)) (hn:n ∈ T p):n ∈ Bw N T:=by
 unfold Bw
 rw [List.mem_flatMap]
 exact ⟨p.toNat,List.mem_range.2 Zo,by rw [show ((p.toNat:Nat):Int)=p by omega];exact hn⟩
theorem Mound.inside {m:Loc→Int} {T:Int→List Int} {d p n:Int} (h:Mound c m T d) (hn:n ∈ T p):1≤p∧p<c.pl:=
 Classical.byContradiction fun hp=>by rw [h.out p hp] at hn;cases hn
theorem Mound.mm {m:Loc→Int} {T:Int→List Int} {d p n:Int} (h:Mound c m T d) (hn:n ∈ T p):n ∈ Bw (N c) T:=
 aD (by have:=h.inside hn;omega) (by have:=h.inside hn;unfold N;omega) hn
structure Ins (c:Cf) (s:St) (T:Int→List Int) (free:List Int) (n k v:Int):Prop where
 own:Owned c s free (n::Bw (N c) T)
 md:Mound c s.mm T 0
 key:s.mm (.nd n 0)=k
 val:s.mm (.nd n 1)=v
 kr:0≤k∧k<4294967296
theorem Ins.bH {s s':St} {T:Int→List Int} {free:List Int} {n k v:Int} (h:Ins c s T free n k v) (hb:ButHaz s.mm s'.mm) (hr:s'.rt=s.rt):Ins c s' T free n k v:=
 ⟨h.own.bH hb hr,h.md.bH hb,(hb.nd n 0).trans h.key,(hb.nd n 1).trans h.val,h.kr⟩
theorem Ins.ns {s:St} {T:Int→List Int} {free:List Int} {n k v:Int} (h:Ins c s T free n k v) (p:Int):∀ x ∈ T p,1≤x∧x≤c.ns:=
 fun x hx=>h.own.range x (by simp [h.md.mm hx])
theorem Ins.nd {s:St} {T:Int→List Int} {free:List Int} {n k v:Int} (h:Ins c s T free n k v):1≤n∧n≤c.ns:=h.own.range n Zs
theorem Ins.fresh {s:St} {T:Int→List Int} {free:List Int} {n k v:Int} (h:Ins c s T free n k v) (p:Int):n ∉ T p:=by
 intro hx
 have h1:=h.md.mm hx
 have h2:=h.own.nodup
 rw [List.nodup_append] at h2
 exact (List.nodup_cons.1 h2.2.1).1 h1
theorem Qb (d:Int) (h0:1≤d) (h1:d≤20):Cd d=((2 ^ (d-1).toNat:Nat):Int):=by
 unfold Cd
 rw [if_neg Zo]
theorem Mound.deeper {s:St} {T:Int→List Int} (h:Mound c s.mm T 0) (hl:s.mm (.gl 2)<c.lv):Mound c (s.put (.gl 2) (s.mm (.gl 2)+1)).mm T 0 where
 depth:=by rw [Dl];have:=h.depth;omega
 marks:=fun p a b=>by rw [Bo _ _ (fun e=>by cases e)];exact h.marks p a b
 lists:=fun p a b=>by rw [Bo _ _ (fun e=>by cases e)];exact ListAt.congr _ _ (fun n _=>Bo _ _ (fun e=>by cases e)) (h.lists p a b)
 out:=h.out
 beyond:=fun p a=>h.beyond p (by
  rw [Dl] at a
  have h1:=h.depth
  rw [show (s.mm (.gl 2)+1).toNat=(s.mm (.gl 2)).toNat+1 by omega,Nat.pow_succ] at a
  omega)
 sorted:=fun p=>(h.sorted p).imp fun {a b} hab=>by rw [Bo _ _ (fun e=>by cases e),Bo _ _ (fun e=>by cases e)];exact hab
 heap:=fun p a b=>by
  rw [Eb _ (fun n _=>Bo _ _ (fun e=>by cases e)),Eb _ (fun n _=>Bo _ _ (fun e=>by cases e))]
  exact h.heap p a b
 heap2:=fun p a b=>by
  rw [Eb _ (fun n _=>Bo _ _ (fun e=>by cases e)),Eb _ (fun n _=>Bo _ _ (fun e=>by cases e))]
  exact h.heap2 p a b
 keys:=fun p n hm=>by rw [Bo _ _ (fun e=>by cases e)];exact h.keys p n hm
theorem iO (G:Good c tid) {s:St} {free us:List Int} (f:Fr) (n:Int) (h:Owned c s free (n::us))
  (hf:(c.algo=0∧11≤f.fn∧f.fn≤13)∨(c.algo=1∧21≤f.fn∧f.fn≤23)∨(c.algo=2∧31≤f.fn∧f.fn≤33)) :
  ∃ s':St,Runs c tid s ({fn:=5,pc:=0,r0:=n}::fin s f [] 1 0 0) (s'.told 1 0 0) []:=by
 obtain ⟨s1,_,h1,_⟩:=Ke G (fin s f [] 1 0 0) h (by show 2≤49;decide)
 obtain ⟨m',_,h2⟩:=Ic G (s1.told 0 0 0) f 1 0 0 hf
 exact ⟨_,h1.trans h2⟩
def Dr (pc:Nat) (k v n t a b x:Int):Fr:={fn:=11,pc:=pc,r0:=k,r1:=v,r2:=n,r3:=t,r4:=a,r5:=b,r6:=x}
theorem Ee (ha:c.algo=0) {s:St} {pc:Nat} {k v n t a b x:Int} {fs:List Fr} (hp:pc≠90):bit c tid s (Dr pc k v n t a b x::fs)=Hc c s (Dr pc k v n t a b x) fs:=by
 rw [Jn ha]
 unfold Gd
 rw [if_neg (by show ¬ (pc=90∧_);omega)]
 rfl
theorem Qe:c.has (.gl 2)=true:=Cw 2 Zd Zd
theorem Kq {a b:Nat} (h:a≤b):(2 ^ a:Nat)≤2 ^ b:=Nat.pow_le_pow_right Zd h
theorem draws (G:Good c tid) (ha:c.algo=0):∀ (M:Nat) (s:St) (T:Int→List Int) (free:List Int) (n k v t a b x:Int),Ins c s T free n k v→
  ((c.lv-s.mm (.gl 2))*17+(c.probes-t)).toNat≤M→0≤t→t<c.probes→s.us+M≤1000000→
  (∃ s':St,Runs c tid s [Dr 4 k v n t a b x] (s'.told 1 0 0) [])∨
  ∃ (s':St) (L m:Nat) (t':Int),Runs c tid s [Dr 4 k v n t a b x] s' [Dr 8 k v n t' ((L:Int)+1) m L]∧Ins c s' T free n k v∧2 ^ L≤m∧m<2 ^ (L+1)∧(L:Int)+1≤c.lv∧
   k≤hk s'.mm (T m)∧s'.us≤s.us+M∧(L:Int)+1=s'.mm (.gl 2)∧∀ n f,s'.mm (.nd n f)=s.mm (.nd n f):=by
 have hlv:=G.lv
 have hpr:=G.probes
 intro M
 induction M with
 |zero=>
  intro s T free n k v t a b x h hM h0 h1 hu
  have:=h.md.depth
  omega
 |succ M ih=>
  intro s T free n k v t a b x h hM h0 h1 hu
  have hd:=h.md.depth
  obtain ⟨D,hD⟩:∃ D:Nat,s.mm (.gl 2)=D:=⟨(s.mm (.gl 2)).toNat,Zo⟩
  have hle:Cd (D:Int)=((2 ^ (D-1):Nat):Int):=by rw [Qb _ Zo Zo];congr 3;omega
  have hpos:0<2 ^ (D-1):=Nat.pow_pos Zd
  obtain ⟨m,hm⟩:∃ m:Nat,Cd (D:Int)+take c s % Cd (D:Int)=m:=⟨(Cd (D:Int)+take c s % Cd (D:Int)).toNat,by
   have:=Int.emod_nonneg (take c s) (b:=Cd (D:Int)) Zo
   omega⟩
  have hm1:2 ^ (D-1)≤m:=by
   have:=Int.emod_nonneg (take c s) (b:=Cd (D:Int)) Zo
   omega
  have hm2:m<2 ^ (D-1+1):=by
   have:=Int.emod_lt_of_pos (take c s) (b:=Cd (D:Int)) Zo
   rw [Nat.pow_succ]
   omega
  have hpl:(2 ^ (D-1+1):Nat)≤2 ^ c.lv.toNat:=Kq Zo
  have hmp:(m:Int)<c.pl:=by rw [Kz ha];omega
  have b4:bit c tid s [Dr 4 k v n t a b x]=some ⟨{s with us:=s.us+1},[Dr 5 k v n t D m x],[],true⟩:=by
   rw [Ee ha Zd]
   show (if s.mm (.gl 2)<1∨s.mm (.gl 2)>20∨s.us≥1000000 then none else Ao c (.gl 2) {s with us:=s.us+1} [Dr 5 k v n t (s.mm (.gl 2)) (Cd (s.mm (.gl 2))+take c s % Cd (s.mm (.gl 2))) x])=_
   rw [hD,if_neg Zo,Ah Qe,hm]
   rfl
  have b5:bit c tid {s with us:=s.us+1} [Dr 5 k v n t D m x]=some ⟨{s with us:=s.us+1},[{fn:=10,pc:=0,r0:=m},Dr 6 k v n t D m x],[],false⟩:=by
   rw [Ee ha Zd]
   rfl
  obtain ⟨m',hb,hr⟩:=Ih (c:=c) (tid:=tid) G ha (s:={s with us:=s.us+1}) (T:=T) (p:=(m:Int)) [Dr 6 k v n t D m x] h.md Zo hmp (h.ns _)
  have r1:=Runs.via b4 (Runs.via b5 hr)
  clear b4 b5 hr
  obtain ⟨s2,hs2⟩:∃ s2,s2=(({s with us:=s.us+1,mm:=m'}:St).told (s.mm (.tr m)) (hk s.mm (T m)) 0):=⟨_,rfl⟩
  rw [← hs2] at r1
  have hs2m:s2.mm=m':=by rw [hs2];rfl
  have hI:Ins c s2 T free n k v:=h.bH (by rw [hs2];exact hb) (by rw [hs2];rfl)
  have hmem:∀ n f,s2.mm (.nd n f)=s.mm (.nd n f):=fun n f=>by rw [hs2m];exact hb.nd n f
  have hu2:s2.us=s.us+1:=by rw [hs2];rfl
  have hg2:s2.mm (.gl 2)=D:=by rw [hs2m,hb.gl];exact hD
  have hk2:s2.ret1=hk s2.mm (T m):=by
   rw [hs2m,Eb _ (fun n _=>hb.nd n 0),hs2]
   rfl
  clear hs2
  by_cases hge:s2.ret1≥k
  .refine .inr ⟨s2,D-1,m,t,r1.trans (Runs.via (o:=⟨s2,[Dr 8 k v n t D m (D-1)],[],false⟩) ?_ ?_),hI,hm1,hm2,Zo,by rw [hk2] at hge;exact hge,Zo,Zo,hmem⟩
   .rw [Ee ha Zd]
    show (if (D:Int)<1∨(D:Int)>20∨t≥1000000 then none else if s2.ret1≥k then ok s2 [Dr 8 k v n t D m (D-1)] else _)=_
    rw [if_neg Zo,if_pos hge]
    rfl
   .rw [show (((D-1:Nat):Int))=(D:Int)-1 by omega,show (D:Int)-1+1=D by omega]
    exact Runs.refl _ _
  .by_cases hp:t+1≥c.probes
   .have b6:bit c tid s2 [Dr 6 k v n t D m x]=some ⟨s2,[Dr 7 k v n (t+1) D m x],[],false⟩:=by
     rw [Ee ha Zd]
     show (if (D:Int)<1∨(D:Int)>20∨t≥1000000 then none else if s2.ret1≥k then _ else ok s2 [Dr (if t+1≥c.probes then 7 else 4) k v n (t+1) D m x])=_
     rw [if_neg Zo,if_neg hge,if_pos hp]
     rfl
    by_cases hfull:(D:Int)≥c.lv
    .obtain ⟨s',hf⟩:=iO G (Dr 7 k v n (t+1) D m x) n hI.own (.inl ⟨ha,by show 11≤11;decide,by show 11≤13;decide⟩)
     refine .inl ⟨s',r1.trans (Runs.via b6 (Runs.via (o:=⟨s2,_,[],false⟩) ?_ hf))⟩
     rw [Ee ha Zd]
     show (if (D:Int)≥1000000 then none else if (D:Int)≥c.lv then ok s2 _ else _)=_
     rw [if_neg Zo,if_pos hfull]
     rfl
    .have b7:bit c tid s2 [Dr 7 k v n (t+1) D m x]=some ⟨s2.put (.gl 2) (D+1),[Dr 4 k v n 0 D m x],[],true⟩:=by
      rw [Ee ha Zd]
      show (if (D:Int)≥1000000 then none else if (D:Int)≥c.lv then _ else if s2.mm (.gl 2)=D then Ao c (.gl 2) (s2.put (.gl 2) (D+1)) [Dr 4 k v n 0 D m x] else _)=_
      rw [if_neg Zo,if_neg hfull,if_pos hg2,Ah Qe]
      rfl
     have hI2:Ins c (s2.put (.gl 2) (D+1)) T free n k v:=by
      refine ⟨hI.own.same (Bo _ _ (fun e=>by cases e)) (fun n=>Bo _ _ (fun e=>by cases e)) rfl,?_,(Bo _ _ (fun e=>by cases e)).trans hI.key,(Bo _ _ (fun e=>by cases e)).trans hI.val,hI.kr⟩
      have:=hI.md.deeper (by rw [hg2];omega)
      rw [hg2] at this
      exact this
     rcases ih (s2.put (.gl 2) (D+1)) T free n k v 0 D m x hI2 (by rw [Dl];omega) Zo Zo (by show s2.us+M≤_;omega) with ⟨s',hr⟩|⟨s',L,m2,t',hr,h2,h3,h4,h5,h6,h7,hdp,h8⟩
     .exact .inl ⟨s',r1.trans (Runs.via b6 (Runs.via b7 hr))⟩
     .exact .inr ⟨s',L,m2,t',r1.trans (Runs.via b6 (Runs.via b7 hr)),h2,h3,h4,h5,h6,by (have:(s2.put (.gl 2) (D+1)).us=s2.us:=rfl);omega,hdp,fun n f=>(h8 n f).trans ((Bo _ _ (fun e=>by cases e)).trans (hmem n f))⟩
   .have b6:bit c tid s2 [Dr 6 k v n t D m x]=some ⟨s2,[Dr 4 k v n (t+1) D m x],[],false⟩:=by
     rw [Ee ha Zd]
     show (if (D:Int)<1∨(D:Int)>20∨t≥1000000 then none else if s2.ret1≥k then _ else ok s2 [Dr (if t+1≥c.probes then 7 else 4) k v n (t+1) D m x])=_
     rw [if_neg Zo,if_neg hge,if_neg hp]
     rfl
    rcases ih s2 T free n k v (t+1) D m x hI (by rw [hg2];omega) Zo Zo Zo with ⟨s',hr⟩|⟨s',L,m2,t',hr,h2,h3,h4,h5,h6,h7,hdp,h8⟩
    .exact .inl ⟨s',r1.trans (Runs.via b6 hr)⟩
    .exact .inr ⟨s',L,m2,t',r1.trans (Runs.via b6 hr),h2,h3,h4,h5,h6,Zo,hdp,fun n f=>(h8 n f).trans (hmem n f)⟩
def pl (m L j:Nat):Nat:=m / 2 ^ (L-j)
theorem oX {m L j:Nat} (h1:2 ^ L≤m) (h2:m<2 ^ (L+1)) (hj:j≤L):up (m:Int) (j:Int)=(pl m L j:Nat):=by
 have hl:lev (m:Int)=L:=by
  unfold lev
  rw [show ((m:Int)).toNat=m from rfl]
  have h0:m≠0:=by have:=Nat.pow_pos (n:=L) (show 0<2 by decide);omega
  exact (Nat.log2_eq_iff h0).2 ⟨h1,h2⟩
 unfold up
 rw [hl,if_neg Zo,show ((L:Int)-(j:Int)).toNat=L-j by omega]
 rfl
theorem Zi {m L j:Nat} (h1:2 ^ L≤m) (h2:m<2 ^ (L+1)) (hj:j≤L):2 ^ j≤pl m L j∧pl m L j<2 ^ (j+1):=by
 have e1:2 ^ L=2 ^ j*2 ^ (L-j):=by rw [← Nat.pow_add];congr 1;omega
 have e2:2 ^ (L+1)=2 ^ (j+1)*2 ^ (L-j):=by rw [← Nat.pow_add];congr 1;omega
 have hp:0<2 ^ (L-j):=Nat.pow_pos Zd
 unfold pl
 constructor
 .rw [Nat.le_div_iff_mul_le hp];omega
 .rw [Nat.div_lt_iff_lt_mul hp];omega
theorem pA {m L j:Nat} (hj:j+1≤L):pl m L (j+1) / 2=pl m L j:=by
 unfold pl
 rw [Nat.div_div_eq_div_mul,← Nat.pow_succ]
 congr 2
 omega
theorem nI (m L:Nat):pl m L L=m:=by unfold pl;rw [Nat.sub_self,Nat.pow_zero,Nat.div_one]
theorem rI (G:Good c tid) (ha:c.algo=0) {T:Int→List Int} {free:List Int} {n k v t:Int} {L m:Nat} (h1:2 ^ L≤m) (h2:m<2 ^ (L+1)) (h3:(L:Int)+1≤c.lv):∀ (M lo hi:Nat) (s:St),hi-lo≤M→lo≤hi→hi≤L→Ins c s T free n k v→
  k≤hk s.mm (T (pl m L hi:Nat))→(∀ j,j+1=lo→hk s.mm (T (pl m L j:Nat))<k)→
  ∃ (s':St) (j:Nat),Runs c tid s [Dr 8 k v n t ((L:Int)+1) m ((lo:Int)*256+hi)] s' [Dr 10 k v n t ((L:Int)+1) m ((j:Int)*256+j)]∧Ins c s' T free n k v∧j≤L∧
   k≤hk s'.mm (T (pl m L j:Nat))∧(∀ i,i+1=j→hk s'.mm (T (pl m L i:Nat))<k)∧s'.us=s.us∧s'.mm (.gl 2)=s.mm (.gl 2)∧∀ n f,s'.mm (.nd n f)=s.mm (.nd n f):=by
 have hlv:=G.lv
 have hp6:(2 ^ (L+1):Nat)≤2 ^ 6:=Kq Zo
 have hpos:1≤m:=by have:=Nat.pow_pos (n:=L) (show 0<2 by decide);omega
 have e64:(2 ^ 6:Nat)=64:=rfl
 intro M
 induction M with
 |zero=>
  intro lo hi s hM hlh hL h hk1 hk2
  obtain rfl:lo=hi:=Zo
  refine ⟨s,lo,Runs.via (o:=⟨s,[Dr 10 k v n t ((L:Int)+1) m ((lo:Int)*256+lo)],[],false⟩) ?_ (Runs.refl _ _),h,hL,hk1,hk2,rfl,rfl,fun _ _=>rfl⟩
  rw [Ee ha Zd]
  show (if decide (1≤(m:Int)∧(m:Int)≤1048576∧((lo:Int)*256+lo)<65536)=false then none else if ((lo:Int)*256+lo) / 256≥((lo:Int)*256+lo) % 256 then ok s _ else _)=_
  rw [if_neg (by simp;omega),if_pos Zo]
  rfl
 |succ M ih=>
  intro lo hi s hM hlh hL h hk1 hk2
  by_cases he:lo=hi
  .subst he
   exact ih lo lo s Zo Zo hL h hk1 hk2
  obtain ⟨mid,hmid⟩:∃ mid:Nat,mid=(lo+hi) / 2:=⟨_,rfl⟩
  have hmi:(((lo:Int)*256+hi) / 256+((lo:Int)*256+hi) % 256) / 2=(mid:Int):=Zo
  have hpr:=Zi h1 h2 (show mid≤L by omega)
  have hpm:(2 ^ (mid+1):Nat)≤2 ^ c.lv.toNat:=Kq Zo
  have hpo:0<2 ^ mid:=Nat.pow_pos Zd
  have b8:bit c tid s [Dr 8 k v n t ((L:Int)+1) m ((lo:Int)*256+hi)]=some ⟨s,[{fn:=10,pc:=0,r0:=(pl m L mid:Nat)},Dr 9 k v n t ((L:Int)+1) m ((lo:Int)*256+hi)],[],false⟩:=by
   rw [Ee ha Zd]
   show (if decide (1≤(m:Int)∧(m:Int)≤1048576∧((lo:Int)*256+hi)<65536)=false then none else if ((lo:Int)*256+hi) / 256≥((lo:Int)*256+hi) % 256 then ok s _ else
    call s _ [] 9 {fn:=10,pc:=0,r0:=up (m:Int) ((((lo:Int)*256+hi) / 256+((lo:Int)*256+hi) % 256) / 2)})=_
   rw [if_neg (by simp;omega),if_neg Zo,hmi,oX h1 h2 Zo]
   rfl
  obtain ⟨m',hb,hr⟩:=Ih (c:=c) (tid:=tid) G ha (s:=s) (T:=T) (p:=((pl m L mid:Nat):Int)) [Dr 9 k v n t ((L:Int)+1) m ((lo:Int)*256+hi)] h.md Zo (by rw [Kz ha];omega) (h.ns _)
  have r1:=Runs.via b8 hr
  clear b8 hr
  obtain ⟨s2,hs2⟩:∃ s2,s2=(({s with mm:=m'}:St).told (s.mm (.tr (pl m L mid:Nat))) (hk s.mm (T (pl m L mid:Nat))) 0):=⟨_,rfl⟩
  rw [← hs2] at r1
  have hs2m:s2.mm=m':=by rw [hs2];rfl
  have hI:Ins c s2 T free n k v:=h.bH (by rw [hs2];exact hb) (by rw [hs2];rfl)
  have hmem:∀ n f,s2.mm (.nd n f)=s.mm (.nd n f):=fun n f=>by rw [hs2m];exact hb.nd n f
  have hu2:s2.us=s.us:=by rw [hs2];rfl
  have hd2:s2.mm (.gl 2)=s.mm (.gl 2):=by rw [hs2m];exact hb.gl 2
  have hhk:∀ l,hk s2.mm l=hk s.mm l:=fun l=>by rw [hs2m];exact Eb _ (fun n _=>hb.nd n 0)
  have hk3:s2.ret1=hk s.mm (T (pl m L mid:Nat)):=by rw [hs2];rfl
  clear hs2
  have b9:bit c tid s2 [Dr 9 k v n t ((L:Int)+1) m ((lo:Int)*256+hi)]=some ⟨s2,[Dr 8 k v n t ((L:Int)+1) m (if s2.ret1≥k then (lo:Int)*256+mid else ((mid:Int)+1)*256+hi)],[],false⟩:=by
   rw [Ee ha Zd]
   show (if decide (1≤(m:Int)∧(m:Int)≤1048576∧((lo:Int)*256+hi)<65536)=false then none else ok s2 [Dr 8 k v n t ((L:Int)+1) m (if ((lo:Int)*256+hi) / 256≥((lo:Int)*256+hi) % 256 then ((lo:Int)*256+hi) / 256*256+((lo:Int)*256+hi) % 256 else
    if s2.ret1≥k then ((lo:Int)*256+hi) / 256*256+(((lo:Int)*256+hi) / 256+((lo:Int)*256+hi) % 256) / 2 else ((((lo:Int)*256+hi) / 256+((lo:Int)*256+hi) % 256) / 2+1)*256+((lo:Int)*256+hi) % 256)])=_
   rw [if_neg (by simp;omega),if_neg (show ¬ ((lo:Int)*256+hi) / 256≥((lo:Int)*256+hi) % 256 by omega),hmi,show ((lo:Int)*256+hi) / 256=lo by omega,show ((lo:Int)*256+hi) % 256=hi by omega]
   rfl
  by_cases hge:s2.ret1≥k
  .rw [if_pos hge] at b9
   obtain ⟨s',j,q1,q2,q3,q4,q5,q6,qd,q7⟩:=ih lo mid s2 Zo Zo Zo hI (by rw [hhk,← hk3];exact hge) (fun j hj=>by rw [hhk];exact hk2 j hj)
   exact ⟨s',j,r1.trans (Runs.via b9 q1),q2,q3,q4,q5,q6.trans hu2,qd.trans hd2,fun n f=>(q7 n f).trans (hmem n f)⟩
  .rw [if_neg hge] at b9
   have hlow:∀ j,j+1=mid+1→hk s2.mm (T (pl m L j:Nat))<k:=by
    intro j hj
    obtain rfl:j=mid:=Zo
    rw [hhk,← hk3]
    omega
   obtain ⟨s',j,q1,q2,q3,q4,q5,q6,qd,q7⟩:=ih (mid+1) hi s2 Zo Zo Zo hI (by rw [hhk];exact hk1) hlow
   exact ⟨s',j,r1.trans (Runs.via b9 q1),q2,q3,q4,q5,q6.trans hu2,qd.trans hd2,fun n f=>(q7 n f).trans (hmem n f)⟩
theorem Mound.front {m:Loc→Int} {T:Int→List Int} (h:Mound c m T 0) {n q:Int} (hn:∀ p,n ∉ T p) (hn0:0≤n) (hn1:n<65536) (hq1:1≤q) (hq2:q<((2 ^ (m (.gl 2)).toNat:Nat):Int)) (hqp:q<c.pl)
  (hk0:0≤m (.nd n 0)∧m (.nd n 0)<4294967296) (hk1:m (.nd n 0)≤hk m (T q)) (hk2:2≤q→hk m (T (q / 2))≤m (.nd n 0)) :
  Mound c (upd (upd m (.nd n 2) (ptr (m (.tr q)))) (.tr q) (next (m (.tr q)) n (mark (m (.tr q))))) (Iz T q (n::T q)) 0:=by
 obtain ⟨m',hm'⟩:∃ m',m'=upd (upd m (.nd n 2) (ptr (m (.tr q)))) (.tr q) (next (m (.tr q)) n (mark (m (.tr q)))):=⟨_,rfl⟩
 rw [← hm']
 have e0:∀ i,m' (.gl i)=m (.gl i):=fun i=>by rw [hm',By _ _ (fun e=>by cases e),By _ _ (fun e=>by cases e)]
 have e1:∀ x,m' (.nd x 0)=m (.nd x 0):=fun x=>by rw [hm',By _ _ (fun e=>by cases e),By _ _ (fun e=>by injection e with _ e;cases e)]
 have e2:∀ x,x≠n→m' (.nd x 2)=m (.nd x 2):=fun x hx=>by rw [hm',By _ _ (fun e=>by cases e),By _ _ (fun e=>hx (by injection e))]
 have e3:m' (.nd n 2)=ptr (m (.tr q)):=by rw [hm',By _ _ (fun e=>by cases e),Fi]
 have e4:m' (.tr q)=next (m (.tr q)) n (mark (m (.tr q))):=by rw [hm',Fi]
 have e5:∀ p,p≠q→m' (.tr p)=m (.tr p):=fun p hp=>by rw [hm',By _ _ (fun e=>hp (by injection e)),By _ _ (fun e=>by cases e)]
 clear hm'
 have ek:∀ l,hk m' l=hk m l:=fun l=>Eb _ (fun n _=>e1 n)
 have kq:hk m (Iz T q (n::T q) q)=m (.nd n 0):=by rw [Eu];rfl
 refine ⟨by rw [e0];exact h.depth,fun p a b=>?_,fun p a b=>?_,fun p a=>?_,fun p a=>?_,fun p=>?_,fun p a b=>?_,fun p a b=>Zo,fun p x hx=>?_⟩
 .by_cases hp:p=q
  .subst hp
   rw [e4,Eh]
   exact h.marks p a b
  .rw [e5 p hp];exact h.marks p a b
 .have hl:=h.lists p a b
  by_cases hp:p=q
  .subst hp
   rw [e4,Em _ _ _ hn0 hn1,Eu]
   refine ⟨rfl,?_⟩
   rw [e3]
   exact ListAt.congr _ _ (fun x hx=>e2 x (fun e=>hn p (e▸hx))) hl
  .rw [e5 p hp,Dk _ _ hp]
   exact ListAt.congr _ _ (fun x hx=>e2 x (fun e=>hn p (e▸hx))) hl
 .rw [Dk _ _ (fun e=>a ⟨Zo,Zo⟩)];exact h.out p a
 .rw [e0] at a
  rw [Dk _ _ (fun e=>Zo)];exact h.beyond p a
 .by_cases hp:p=q
  .subst hp
   rw [Eu,List.pairwise_cons]
   refine ⟨fun x hx=>?_,(h.sorted p).imp fun {a b} hab=>by rw [e1,e1];exact hab⟩
   rw [e1,e1]
   exact Int.le_trans hk1 (bC h p x hx)
  .rw [Dk _ _ hp]
   exact (h.sorted p).imp fun {a b} hab=>by rw [e1,e1];exact hab
 .rw [ek,ek]
  by_cases hp:p=q
  .subst hp
   rw [kq,Dk _ _ (show p / 2≠p by omega)]
   exact hk2 a
  .rw [Dk _ _ hp]
   by_cases hp2:p / 2=q
   .rw [hp2,kq]
    refine Int.le_trans hk1 ?_
    rw [← hp2]
    exact h.heap p a Zo
   .rw [Dk _ _ hp2]
    exact h.heap p a Zo
 .rw [e1]
  by_cases hp:p=q
  .subst hp
   rw [Eu] at hx
   rcases List.mem_cons.1 hx with rfl|hx
   .exact hk0
   .exact h.keys p x hx
  .rw [Dk _ _ hp] at hx
   exact h.keys p x hx
theorem ButHaz.both {m m':Loc→Int} (h:ButHaz m m') (x:Loc) (v:Int):ButHaz (Mdl.upd m x v) (Mdl.upd m' x v):=fun y hy=>by
 unfold Mdl.upd
 split
 .rfl
 .exact h y hy
theorem Io (ha:c.algo=0) {n f:Int} (h:1≤n∧n≤c.ns) (h0:0≤f) (h1:f<3):c.has (.nd n f)=true:=Ov h.1 h.2 h0 (by rw [Qj ha];exact h1)
theorem Yt (G:Good c tid) (fs:List Fr) (hfs:fs.length≤49) (s:St) (free us:List Int) (h:Owned c s free us) :
  ∃ s' free',Runs c tid s ({fn:=6,pc:=0}::fs) (s'.told 0 0 0) fs∧Owned c s' free' us∧Kept s s'∧ButFree s.mm s'.mm:=by
 have hsl:=Es G
 have hpos:0≤c.sl*c.th:=Int.mul_nonneg Zo (by have:=G.th;omega)
 obtain ⟨s',free',k1,k2,k3,k4,_⟩:=Uv G fs hfs (c.sl*c.th).toNat s 0 free us Zo (.inl rfl) h
 exact ⟨s',free',k1,k2,k3,k4⟩
theorem Owned.told {s:St} {free us:List Int} (h:Owned c s free us) (a b d:Int):Owned c (s.told a b d) free us:=⟨h.chain,h.nodup,h.range⟩
theorem Owned.pos {s:St} {free us:List Int} (h:Owned c s free us) {n:Int} (hn:n ∈ us):1≤n∧n≤c.ns:=h.range n (by simp [hn])
theorem dO (G:Good c tid) (ha:c.algo=0) {s:St} {free us:List Int} (k v:Int) (h:Owned c s free us) :
  (∃ s':St,Runs c tid s [Dr 0 k v 0 0 0 0 0] (s'.told 1 0 0) [])∨
  ∃ (s':St) (free':List Int) (n t:Int),Runs c tid s [Dr 0 k v 0 0 0 0 0] s' [Dr 2 k v n t 0 0 0]∧Owned c s' free' (n::us)∧Kept s s'∧ButFree s.mm s'.mm:=by
 have call0:∀ (s:St) (t:Int),bit c tid s [Dr 0 k v 0 t 0 0 0]=some ⟨s,[{fn:=1,pc:=0},Dr 1 k v 0 t 0 0 0],[],false⟩:=fun s t=>by
  rw [Ee ha Zd]
  rfl
 have got:∀ (s:St) (t n:Int),s.ret0=n→n≠0→bit c tid s [Dr 1 k v 0 t 0 0 0]=some ⟨s,[Dr 2 k v n t 0 0 0],[],false⟩:=fun s t n h0 h1=>by
  rw [Ee ha Zd]
  show (if s.ret0≠0 then ok s [Dr 2 k v s.ret0 t 0 0 0] else _)=_
  rw [if_pos (by rw [h0];exact h1),h0]
  rfl
 have full:∀ (s:St) (t:Int),s.ret0=0→¬ (t=0∧s.rt.length>0)→∃ s':St,Runs c tid s [Dr 1 k v 0 t 0 0 0] (s'.told 1 0 0) []:=fun s t h0 h1=>by
  obtain ⟨m',_,h2⟩:=Ic (c:=c) (tid:=tid) G s ({Dr 1 k v 0 t 0 0 0 with r2:=0}:Fr) 1 0 0 (.inl ⟨ha,by show 11≤11;decide,by show 11≤13;decide⟩)
  refine ⟨{s with mm:=m'},Runs.via (o:=⟨s,fin s ({Dr 1 k v 0 t 0 0 0 with r2:=0}:Fr) [] 1 0 0,[],false⟩) ?_ h2⟩
  rw [Ee ha Zd]
  show (if s.ret0≠0 then _ else if t=0∧s.rt.length>0 then _ else ok s (fin s {Dr 1 k v 0 t 0 0 0 with r2:=s.ret0} [] 1 0 0))=_
  rw [if_neg (by rw [h0];simp),if_neg h1,h0]
  rfl
 cases free with
 |cons n free=>
  obtain ⟨s1,r1,o1,k1,b1,_⟩:=Kk G [Dr 1 k v 0 0 0 0 0] h
  have hn:=o1.pos (n:=n) Zs
  exact .inr ⟨s1.told n 0 0,free,n,0,Runs.via (call0 s 0) (r1.trans (Runs.via (got (s1.told n 0 0) 0 n rfl Zo) (Runs.refl _ _))),o1.told _ _ _,⟨k1.us,k1.pred,k1.succ,k1.wrd⟩,b1⟩
 |nil=>
  have r1:=Mc (c:=c) (tid:=tid) (s:=s) [Dr 1 k v 0 0 0 0 0] h
  by_cases hr:s.rt.length>0
  .obtain ⟨s2,free2,r2,o2,k2,b2⟩:=Yt G [Dr 0 k v 0 1 0 0 0] (by show 1≤49;decide) (s.told 0 0 0) [] us (h.told 0 0 0)
   have bsc:∀ s0:St,s0.ret0=0→s0.rt.length>0→bit c tid s0 [Dr 1 k v 0 0 0 0 0]=some ⟨s0,[{fn:=6,pc:=0},Dr 0 k v 0 1 0 0 0],[],false⟩:=fun s0 h0 hr=>by
    rw [Ee ha Zd]
    show (if s0.ret0≠0 then _ else if (0:Int)=0∧s0.rt.length>0 then call s0 {Dr 1 k v 0 0 0 0 0 with r2:=s0.ret0,r3:=1} [] 0 {fn:=6,pc:=0} else _)=_
    rw [if_neg (by rw [h0];simp),if_pos ⟨rfl,hr⟩,h0]
    rfl
   have r3:=Runs.via (call0 s 0) (r1.trans (Runs.via (bsc (s.told 0 0 0) rfl hr) r2))
   cases free2 with
   |cons n free=>
    obtain ⟨s4,r4,o4,k4,b4,_⟩:=Kk G [Dr 1 k v 0 1 0 0 0] (o2.told 0 0 0)
    have hn:=o4.pos (n:=n) Zs
    exact .inr ⟨s4.told n 0 0,free,n,1,r3.trans (Runs.via (call0 _ 1) (r4.trans (Runs.via (got (s4.told n 0 0) 1 n rfl Zo) (Runs.refl _ _)))),o4.told _ _ _,⟨k4.us.trans k2.us,k4.pred.trans k2.pred,k4.succ.trans k2.succ,k4.wrd.trans k2.wrd⟩,b2.trans b4⟩
   |nil=>
    have r4:=Mc (c:=c) (tid:=tid) (s:=s2.told 0 0 0) [Dr 1 k v 0 1 0 0 0] (o2.told 0 0 0)
    obtain ⟨s5,r5⟩:=full ((s2.told 0 0 0).told 0 0 0) 1 rfl Zo
    exact .inl ⟨s5,r3.trans (Runs.via (call0 _ 1) (r4.trans r5))⟩
  .obtain ⟨s5,r5⟩:=full (s.told 0 0 0) 0 rfl (fun e=>hr e.2)
   exact .inl ⟨s5,Runs.via (call0 s 0) (r1.trans r5)⟩
theorem gU (G:Good c tid) (ha:c.algo=0) {s:St} {T:Int→List Int} {free:List Int} {n k v t:Int} {L m j:Nat} (h1:2 ^ L≤m) (h2:m<2 ^ (L+1)) (h3:(L:Int)+1≤c.lv) (hj:j≤L) (h:Ins c s T free n k v)
  (hd:(L:Int)<s.mm (.gl 2)) (hk1:k≤hk s.mm (T (pl m L j:Nat))) (hk2:∀ i,i+1=j→hk s.mm (T (pl m L i:Nat))<k) :
  ∃ (s':St) (q:Int),Runs c tid s [Dr 10 k v n t ((L:Int)+1) m ((j:Int)*256+j)] (s'.told 0 0 0) []∧Mound c s'.mm (Iz T q (n::T q)) 0∧Owned c s' free (n::Bw (N c) T)∧1≤q∧q<c.pl∧
   s'.us=s.us∧(∀ x f,x≠n→s'.mm (.nd x f)=s.mm (.nd x f))∧s'.mm (.nd n 0)=k∧s'.mm (.nd n 1)=v:=by
 have hlv:=G.lv
 have hpos:1≤m:=by have:=Nat.pow_pos (n:=L) (show 0<2 by decide);omega
 have hp6:(2 ^ (L+1):Nat)≤2 ^ 6:=Kq Zo
 have e64:(2 ^ 6:Nat)=64:=rfl
 have hpr:=Zi h1 h2 hj
 have hpm:(2 ^ (j+1):Nat)≤2 ^ c.lv.toNat:=Kq Zo
 have hpd:(2 ^ (j+1):Nat)≤2 ^ (s.mm (.gl 2)).toNat:=Kq Zo
 have hpo:0<2 ^ j:=Nat.pow_pos Zd
 have hn:=h.nd
 have hN:=G.ns
 obtain ⟨q,hq⟩:∃ q:Int,q=(pl m L j:Nat):=⟨_,rfl⟩
 have hq1:1≤q:=Zo
 have hqp:q<c.pl:=by rw [Kz ha];omega
 have hup:up (m:Int) (j:Int)=q:=by rw [oX h1 h2 hj,hq]
 rw [← hq] at hk1
 have hsp:((j:Int)*256+j) / 256=j:=Zo
 have hin:(decide (1≤(m:Int)∧(m:Int)≤1048576∧((j:Int)*256+j)<65536)=false)=False:=by simp;omega
 obtain ⟨F,hF⟩:∃ F:Nat→Int→Fr,F=fun pc t=>Dr pc k v n t ((L:Int)+1) m ((j:Int)*256+j):=⟨_,rfl⟩
 have hFa:∀ pc t,F pc t=Dr pc k v n t ((L:Int)+1) m ((j:Int)*256+j):=fun pc t=>by rw [hF]
 rw [← hFa]
 have b10:bit c tid s [F 10 t]=some ⟨s,[{fn:=10,pc:=0,r0:=q},F 11 t],[],false⟩:=by
  rw [hFa,hFa,Ee ha Zd]
  show (if decide (1≤(m:Int)∧(m:Int)≤1048576∧((j:Int)*256+j)<65536)=false then none else call s _ [] 11 {fn:=10,pc:=0,r0:=up (m:Int) (((j:Int)*256+j) / 256)})=_
  rw [if_neg (by rw [hin];exact id),hsp,hup]
  rfl
 obtain ⟨m1,hb1,hr1⟩:=Ih (c:=c) (tid:=tid) G ha (s:=s) (T:=T) (p:=q) [F 11 t] h.md hq1 hqp (h.ns _)
 obtain ⟨s1,hs1⟩:∃ s1,s1=(({s with mm:=m1}:St).told (s.mm (.tr q)) (hk s.mm (T q)) 0):=⟨_,rfl⟩
 rw [← hs1] at hr1
 have hm1:s1.mm=m1:=by rw [hs1];rfl
 have hI1:Ins c s1 T free n k v:=h.bH (by rw [hs1];exact hb1) (by rw [hs1];rfl)
 have hg1:s1.ret0=m1 (.tr q):=by rw [hb1.tr,hs1];rfl
 have hg2:k≤s1.ret1:=by rw [hs1];exact hk1
 have hhk1:∀ l,hk m1 l=hk s.mm l:=fun l=>Eb _ (fun n _=>hb1.nd n 0)
 have hu1:s1.us=s.us:=by rw [hs1];rfl
 clear hs1
 have b11:bit c tid s1 [F 11 t]=some ⟨s1.put (.nd n 2) (ptr (m1 (.tr q))),[F (if q=1 then 12 else 13) (m1 (.tr q))],Cu (.nd n 2),true⟩:=by
  rw [hFa,hFa,Ee ha Zd]
  show (if decide (1≤(m:Int)∧(m:Int)≤1048576∧((j:Int)*256+j)<65536)=false then none else if s1.ret1<k then _ else
   Ao c (.nd n 2) (s1.put (.nd n 2) (ptr s1.ret0)) [Dr (if up (m:Int) (((j:Int)*256+j) / 256)=1 then 12 else 13) k v n s1.ret0 ((L:Int)+1) m ((j:Int)*256+j)])=_
  rw [if_neg (by rw [hin];exact id),if_neg Zo,hsp,hup,hg1,Ah (Io ha hn Zd Zd)]
 obtain ⟨s2,hs2⟩:∃ s2,s2=s1.put (.nd n 2) (ptr (m1 (.tr q))):=⟨_,rfl⟩
 rw [← hs2] at b11
 have hm2:s2.mm=upd m1 (.nd n 2) (ptr (m1 (.tr q))):=by rw [hs2,← hm1];rfl
 have hO2:Owned c s2 free (n::Bw (N c) T):=hI1.own.same (by rw [hs2];exact Bo _ _ (fun e=>by cases e)) (fun x=>by rw [hs2];exact Bo _ _ (fun e=>by cases e)) (by rw [hs2];rfl)
 have hM2:Mound c s2.mm T 0:=by
  have hmd:=hI1.md
  rw [hm1] at hmd
  refine hmd.same ?_ (fun p=>?_) (fun p x hx=>⟨?_,?_⟩)
  .rw [hm2];exact By _ _ (fun e=>by cases e)
  .rw [hm2];exact By _ _ (fun e=>by cases e)
  .rw [hm2];exact By _ _ (fun e=>by injection e with _ e;cases e)
  .rw [hm2];exact By _ _ (fun e=>h.fresh p (by injection e with e;exact e▸hx))
 have hu2:s2.us=s.us:=by rw [hs2];exact hu1
 clear hs2
 have htr2:s2.mm (.tr q)=m1 (.tr q):=by rw [hm2];exact By _ _ (fun e=>by cases e)
 have r2:=Runs.via b10 (hr1.trans (Runs.via b11 (Runs.refl _ _)))
 have hfront:Mound c (upd (upd m1 (.nd n 2) (ptr (m1 (.tr q)))) (.tr q) (next (m1 (.tr q)) n (mark (m1 (.tr q))))) (Iz T q (n::T q)) 0:=by
  have hmd:=hI1.md
  rw [hm1] at hmd
  have hkn:m1 (.nd n 0)=k:=by rw [← hm1];exact hI1.key
  refine hmd.front h.fresh Zo Zo hq1 ?_ hqp (by rw [hkn];exact h.kr) (by rw [hkn,hhk1];exact hk1) (fun h22=>?_)
  .rw [hb1.gl];omega
  .rw [hkn,hhk1]
   obtain ⟨i,rfl⟩:∃ i,j=i+1:=by
    cases j with
    |zero=>exfalso;omega
    |succ i=>exact ⟨i,rfl⟩
   have:=hk2 i rfl
   rw [hq,show ((pl m L (i+1):Nat):Int) / 2=((pl m L (i+1) / 2:Nat):Int) by omega,pA hj]
   omega
 have fini:∀ (s3:St) (pc:Nat),ButHaz (upd (upd m1 (.nd n 2) (ptr (m1 (.tr q)))) (.tr q) (next (m1 (.tr q)) n (mark (m1 (.tr q))))) s3.mm→s3.rt=s2.rt→s3.us=s.us→
   ∃ s':St,Runs c tid s3 (fin s3 (F pc (m1 (.tr q))) [] 0 0 0) (s'.told 0 0 0) []∧Mound c s'.mm (Iz T q (n::T q)) 0∧Owned c s' free (n::Bw (N c) T)∧s'.us=s.us∧(∀ x f,x≠n→s'.mm (.nd x f)=s.mm (.nd x f))∧s'.mm (.nd n 0)=k∧s'.mm (.nd n 1)=v:=by
  intro s3 pc hb3 hre hus
  obtain ⟨m4,hb4,hr4⟩:=Ic (c:=c) (tid:=tid) G s3 (F pc (m1 (.tr q))) 0 0 0 (.inl ⟨ha,by rw [hFa];show 11≤11;decide,by rw [hFa];show 11≤13;decide⟩)
  have hb:=hb3.trans hb4
  refine ⟨{s3 with mm:=m4},hr4,hfront.bH hb,hO2.same ?_ (fun x=>?_) hre,hus,fun x f hx=>?_,?_,?_⟩
  .show m4 (.gl 0)=_
   rw [hb.gl,hm2,By _ _ (fun e=>by cases e)]
  .show m4 (.link x)=_
   rw [hb.link,hm2,By _ _ (fun e=>by cases e)]
  .show m4 (.nd x f)=_
   rw [hb.nd,By _ _ (fun e=>by cases e),By _ _ (fun e=>hx (by injection e)),hb1.nd]
  .show m4 (.nd n 0)=_
   rw [hb.nd,By _ _ (fun e=>by cases e),By _ _ (fun e=>by injection e with _ e;cases e),← hm1]
   exact hI1.key
  .show m4 (.nd n 1)=_
   rw [hb.nd,By _ _ (fun e=>by cases e),By _ _ (fun e=>by injection e with _ e;cases e),← hm1]
   exact hI1.val
 by_cases hroot:q=1
 .rw [if_pos hroot] at r2
  obtain ⟨s',e1,e2,e3,e4,e5,e6,e7⟩:=fini (s2.put (.tr q) (next (m1 (.tr q)) n (mark (m1 (.tr q))))) 12 (by show ButHaz _ (upd s2.mm _ _);rw [hm2];exact ButHaz.refl _) rfl hu2
  refine ⟨s',q,r2.trans (Runs.via (o:=⟨s2.put (.tr q) (next (m1 (.tr q)) n (mark (m1 (.tr q)))),fin s2 (F 12 (m1 (.tr q))) [] 0 0 0,[],true⟩) ?_ e1),e2,e3,hq1,hqp,e4,e5,e6,e7⟩
  rw [hFa,Ee ha Zd]
  show (if decide (1≤(m:Int)∧(m:Int)≤1048576∧((j:Int)*256+j)<65536)=false then none else if s2.mm (.tr 1)=m1 (.tr q) then Ao c (.tr 1) (s2.put (.tr 1) (next (m1 (.tr q)) n (mark (m1 (.tr q))))) _ else _)=_
  rw [if_neg (by rw [hin];exact id),← hroot,if_pos htr2,Ah (Ib Zo hqp)]
  rfl
 .rw [if_neg hroot] at r2
  have hq2:2≤q:=Zo
  obtain ⟨i,rfl⟩:∃ i,j=i+1:=by
   cases j with
   |zero=>exfalso;omega
   |succ i=>exact ⟨i,rfl⟩
  have hqi:q / 2=(pl m L i:Nat):=by
   have:=pA (m:=m) hj
   omega
  have hb13:bit c tid s2 [F 13 (m1 (.tr q))]=some ⟨s2,[{fn:=10,pc:=0,r0:=q / 2},F 14 (m1 (.tr q))],[],false⟩:=by
   rw [hFa,hFa,Ee ha Zd]
   show (if decide (1≤(m:Int)∧(m:Int)≤1048576∧(((i+1:Nat):Int)*256+((i+1:Nat):Int))<65536)=false then none else call s2 _ [] 14 {fn:=10,pc:=0,r0:=up (m:Int) ((((i+1:Nat):Int)*256+((i+1:Nat):Int)) / 256) / 2})=_
   rw [if_neg (by rw [hin];exact id),hsp,hup]
   rfl
  obtain ⟨m3,hb3,hr3⟩:=Ih (c:=c) (tid:=tid) G ha (s:=s2) (T:=T) (p:=q / 2) [F 14 (m1 (.tr q))] hM2 Zo Zo (h.ns _)
  obtain ⟨s3,hs3⟩:∃ s3,s3=(({s2 with mm:=m3}:St).told (s2.mm (.tr (q / 2))) (hk s2.mm (T (q / 2))) 0):=⟨_,rfl⟩
  rw [← hs3] at hr3
  have hm3:s3.mm=m3:=by rw [hs3];rfl
  have hret:s3.rt=s2.rt:=by rw [hs3];rfl
  have hus3:s3.us=s.us:=by rw [hs3];exact hu2
  have hh3:s3.ret0=m3 (.tr (q / 2)):=by rw [hb3.tr,hs3];rfl
  have hh4:s3.ret1=hk s2.mm (T (q / 2)):=by rw [hs3];rfl
  clear hs3
  have hle:s3.ret1<k:=by
   have h5:=hk2 i rfl
   rw [← hqi] at h5
   rw [hh4,show hk s2.mm (T (q / 2))=hk s.mm (T (q / 2)) from ?_]
   .exact h5
   .rw [hm2]
    refine Eb _ (fun x _=>?_)
    rw [By _ _ (fun e=>by injection e with _ e;cases e)]
    exact hb1.nd x 0
  obtain ⟨s',e1,e2,e3,e4,e5,e6,e7⟩:=fini (s3.put (.tr q) (next (m1 (.tr q)) n (mark (m1 (.tr q))))) 14 (by show ButHaz _ (upd s3.mm _ _);rw [hm3];rw [hm2] at hb3;exact hb3.both _ _) hret hus3
  refine ⟨s',q,r2.trans (Runs.via hb13 (hr3.trans (Runs.via (o:=⟨s3.put (.tr q) (next (m1 (.tr q)) n (mark (m1 (.tr q)))),fin s3 (F 14 (m1 (.tr q))) [] 0 0 0,[],true⟩) ?_ e1))),e2,e3,hq1,hqp,e4,e5,e6,e7⟩
  rw [hFa,Ee ha Zd]
  show (if decide (1≤(m:Int)∧(m:Int)≤1048576∧(((i+1:Nat):Int)*256+((i+1:Nat):Int))<65536)=false then none else if s3.ret1>k then _ else
   if s3.mm (.tr (up (m:Int) ((((i+1:Nat):Int)*256+((i+1:Nat):Int)) / 256)))=m1 (.tr q)∧s3.mm (.tr (up (m:Int) ((((i+1:Nat):Int)*256+((i+1:Nat):Int)) / 256) / 2))=s3.ret0 then
   Mg c (.tr (up (m:Int) ((((i+1:Nat):Int)*256+((i+1:Nat):Int)) / 256))) (.tr (up (m:Int) ((((i+1:Nat):Int)*256+((i+1:Nat):Int)) / 256) / 2)) (s3.put (.tr (up (m:Int) ((((i+1:Nat):Int)*256+((i+1:Nat):Int)) / 256))) (next (m1 (.tr q)) n (mark (m1 (.tr q))))) _ else _)=_
  rw [if_neg (by rw [hin];exact id),if_neg Zo,hsp,hup,if_pos ⟨by rw [hm3,hb3.tr];exact htr2,by rw [hm3,hh3]⟩,Vl (Ib Zo hqp) (Ib Zo Zo)]
  rfl
def kv (m:Loc→Int) (n:Int):Int×Int:=(m (.nd n 0),m (.nd n 1))
theorem Ww (G:Good c tid) (ha:c.algo=0) {s:St} {T:Int→List Int} {free:List Int} (k v:Int) (kr:0≤k∧k<4294967296) (hu:s.us+1000≤1000000) (h:Owned c s free (Bw (N c) T)) (hM:Mound c s.mm T 0) :
  (∃ s':St,Runs c tid s [Dr 0 k v 0 0 0 0 0] (s'.told 1 0 0) [])∨
  ∃ (s':St) (T':Int→List Int) (free':List Int),Runs c tid s [Dr 0 k v 0 0 0 0 0] (s'.told 0 0 0) []∧Owned c s' free' (Bw (N c) T')∧Mound c s'.mm T' 0∧s'.us≤s.us+1000∧
   ((Bw (N c) T').map (kv s'.mm)).Perm ((k,v)::(Bw (N c) T).map (kv s.mm)):=by
 rcases dO G ha k v h with h0|⟨s1,free1,n,t,r1,o1,k1,b1⟩
 .exact .inl h0
 have hn:=o1.pos (n:=n) Zs
 have hnew:n ∉ Bw (N c) T:=by
  have:=o1.nodup
  rw [List.nodup_append] at this
  exact (List.nodup_cons.1 this.2.1).1
 have hM1:Mound c s1.mm T 0:=hM.butFree b1
 have b2:bit c tid s1 [Dr 2 k v n t 0 0 0]=some ⟨s1.put (.nd n 0) k,[Dr 3 k v n t 0 0 0],Cu (.nd n 0),true⟩:=by
  rw [Ee ha Zd]
  exact Ah (Io ha hn Zd Zd)
 have b3:bit c tid (s1.put (.nd n 0) k) [Dr 3 k v n t 0 0 0]=some ⟨(s1.put (.nd n 0) k).put (.nd n 1) v,[Dr 4 k v n 0 0 0 0],Cu (.nd n 1),true⟩:=by
  rw [Ee ha Zd]
  exact Ah (Io ha hn Zd Zd)
 obtain ⟨s3,hs3⟩:∃ s3,s3=(s1.put (.nd n 0) k).put (.nd n 1) v:=⟨_,rfl⟩
 rw [← hs3] at b3
 have hme:∀ x,(∀ f,x≠.nd n f)→s3.mm x=s1.mm x:=fun x hx=>by rw [hs3,Bo _ _ (hx 1),Bo _ _ (hx 0)]
 have hI3:Ins c s3 T free1 n k v:=by
  refine ⟨o1.same (hme _ (fun f e=>by cases e)) (fun x=>hme _ (fun f e=>by cases e)) (by rw [hs3];rfl),?_,by rw [hs3,Bo _ _ (fun e=>by injection e with _ e;cases e),Dl],by rw [hs3,Dl],kr⟩
  refine hM1.same (hme _ (fun f e=>by cases e)) (fun p=>hme _ (fun f e=>by cases e)) (fun p x hx=>?_)
  have hx2:x≠n:=fun e=>hnew (e▸hM1.mm hx)
  exact ⟨hme _ (fun f e=>hx2 (by injection e)),hme _ (fun f e=>hx2 (by injection e))⟩
 have hu3:s3.us=s.us:=by rw [hs3];exact k1.us
 have hpr:=G.probes
 have hlv:=G.lv
 have hd3:=hI3.md.depth
 rcases draws G ha 999 s3 T free1 n k v 0 0 0 0 hI3 Zo Zo Zo Zo with ⟨s4,r4⟩|⟨s4,L,m,t4,r4,i4,c1,c2,c3,c4,c5,cd,c6⟩
 .exact .inl ⟨s4,r1.trans (Runs.via b2 (Runs.via b3 r4))⟩
 obtain ⟨s5,j,r5,i5,d1,d2,d3,d4,dd,d5⟩:=rI G ha (t:=t4) c1 c2 c3 L 0 L s4 Zo Zo (Nat.le_refl _) i4 (by rw [nI];exact c4) (fun j hj=>Zo)
 obtain ⟨s6,q,r6,m6,o6,e1,e2,e3,e4,e5,e6⟩:=gU G ha (t:=t4) c1 c2 c3 d1 i5 (by rw [dd];omega) d2 d3
 have h0L:((0:Nat):Int)*256+(L:Int)=L:=Zo
 rw [h0L] at r5
 obtain ⟨rest,p1,p2⟩:=Iv T q (N c) Zo (by unfold N;omega)
 have pn:(Bw (N c) (Iz T q (n::T q))).Perm (n::Bw (N c) T):=(p2 (n::T q)).trans (List.Perm.cons n p1.symm)
 refine .inr ⟨s6,_,free1,r1.trans (Runs.via b2 (Runs.via b3 (r4.trans (r5.trans r6)))),o6.perm pn.symm,m6,Zo,(pn.map _).trans ?_⟩
 rw [List.map_cons]
 have hkv:kv s6.mm n=(k,v):=by unfold kv;rw [e5,e6]
 rw [hkv]
 refine List.Perm.cons _ (List.Perm.of_eq (List.map_congr_left fun x hx=>?_))
 have hx2:x≠n:=fun e=>hnew (e▸hx)
 have hk:∀ f,s6.mm (.nd x f)=s.mm (.nd x f):=fun f=>by
  rw [e4 x f hx2,d5,c6,hme _ (fun f e=>hx2 (by injection e)),b1.2.1]
 unfold kv
 rw [hk,hk]
def ButTree (m m':Loc→Int):Prop:=∀ x,(∀ t i,x≠.haz t i)→(∀ p,x≠.tr p)→m' x=m x
theorem ButTree.trans {a b d:Loc→Int} (h:ButTree a b) (k:ButTree b d):ButTree a d:=fun x hx hy=>(k x hx hy).trans (h x hx hy)
theorem ButHaz.butTree {m m':Loc→Int} (h:ButHaz m m'):ButTree m m':=fun x hx _=>h x hx
theorem ButTree.upd (m:Loc→Int) (p v:Int):ButTree m (upd m (.tr p) v):=fun _ _ hy=>By _ _ (hy p)
theorem ButTree.gl {m m':Loc→Int} (h:ButTree m m') (i:Int):m' (.gl i)=m (.gl i):=h _ (fun _ _ e=>by cases e) (fun _ e=>by cases e)
theorem ButTree.link {m m':Loc→Int} (h:ButTree m m') (i:Int):m' (.link i)=m (.link i):=h _ (fun _ _ e=>by cases e) (fun _ e=>by cases e)
theorem ButTree.nd {m m':Loc→Int} (h:ButTree m m') (n f:Int):m' (.nd n f)=m (.nd n f):=h _ (fun _ _ e=>by cases e) (fun _ e=>by cases e)
theorem ListAt.ptr {m:Loc→Int} {p:Int} {l:List Int} (h:ListAt m p l) (hr:∀ n ∈ l,1≤n∧n≤c.ns) (hn:c.ns≤64):0≤p∧p<65536:=by
 cases l with
 |nil=>rw [show p=0 from h];omega
 |cons a r=>have:=hr a (List.mem_cons_self ..);rw [h.1];omega
theorem Mound.wash {m:Loc→Int} {T:Int→List Int} {p:Int} (h:Mound c m T p) (hp1:1≤p) (hl:∀ q,q / 2=p→2≤q→hk m (T p)≤hk m (T q)) :
  Mound c (upd m (.tr p) (next (m (.tr p)) (ptr (m (.tr p))) false)) T 0:=by
 obtain ⟨m',hm'⟩:∃ m',m'=upd m (.tr p) (next (m (.tr p)) (ptr (m (.tr p))) false):=⟨_,rfl⟩
 rw [← hm']
 have e0:∀ x,(∀ q,x≠.tr q)→m' x=m x:=fun x hx=>by rw [hm',By _ _ (hx p)]
 have e1:∀ q,q≠p→m' (.tr q)=m (.tr q):=fun q hq=>by rw [hm',By _ _ (fun e=>hq (by injection e))]
 have e2:m' (.tr p)=next (m (.tr p)) (ptr (m (.tr p))) false:=by rw [hm',Fi]
 clear hm'
 have ek:∀ l,hk m' l=hk m l:=fun l=>Eb _ (fun n _=>e0 _ (fun q e=>by cases e))
 have pr:=Fj (m (.tr p))
 refine ⟨by rw [e0 _ (fun q e=>by cases e)];exact h.depth,fun q a b=>?_,fun q a b=>?_,h.out,fun q a=>h.beyond q (by rw [e0 _ (fun q e=>by cases e)] at a;exact a),fun q=>(h.sorted q).imp fun {a b} hab=>by rw [e0 _ (fun q e=>by cases e),e0 _ (fun q e=>by cases e)];exact hab,fun q a b=>?_,fun q a b=>Zo,fun q x hx=>by rw [e0 _ (fun q e=>by cases e)];exact h.keys q x hx⟩
 .have hm:=h.marks q a b
  by_cases hq:q=p
  .rw [hq,e2,Eh]
   exact (decide_eq_false Zo).symm
  .rw [e1 q hq,hm]
   rw [decide_eq_false hq,decide_eq_false Zo]
 .have hl:=h.lists q a b
  by_cases hq:q=p
  .rw [hq] at hl ⊢
   rw [e2,Em _ _ _ pr.1 pr.2]
   exact ListAt.congr _ _ (fun n _=>e0 _ (fun q e=>by cases e)) hl
  .rw [e1 q hq]
   exact ListAt.congr _ _ (fun n _=>e0 _ (fun q e=>by cases e)) hl
 .rw [ek,ek]
  by_cases hq:q / 2=p
  .rw [hq];exact hl q hq a
  .exact h.heap q a hq
def Jo (T:Int→List Int) (p q:Int):Int→List Int:=Iz (Iz T p (T q)) q (T p)
theorem Vr (T:Int→List Int) (p q:Int) (N:Nat) (h0:0≤p) (h1:p<(N:Int)) (h2:0≤q) (h3:q<(N:Int)) (hpq:p≠q):(Bw N (Jo T p q)).Perm (Bw N T):=by
 obtain ⟨rest,p1,p2⟩:=Iv T p N h0 h1
 obtain ⟨rest2,q1,q2⟩:=Iv (Iz T p (T q)) q N h2 h3
 rw [Dk _ _ (Ne.symm hpq)] at q1
 have hr:rest.Perm rest2:=(List.perm_append_left_iff (T q)).1 ((p2 (T q)).symm.trans q1)
 exact (q2 (T p)).trans ((List.Perm.append_left _ hr.symm).trans p1.symm)
theorem Mound.swap {m:Loc→Int} {T:Int→List Int} {p q o:Int} (h:Mound c m T p) (hp1:1≤p) (hq:q / 2=p) (ho:o / 2=p) (hqo:q≠o) (hqd:q<((2 ^ (m (.gl 2)).toNat:Nat):Int)) (hqp:q<c.pl)
  (h1:hk m (T q)<hk m (T p)) (h2:hk m (T q)≤hk m (T o)) :
  Mound c (upd (upd m (.tr p) (next (m (.tr p)) (ptr (m (.tr q))) false)) (.tr q) (next (m (.tr q)) (ptr (m (.tr p))) true)) (Jo T p q) q:=by
 have hpq:p≠q:=Zo
 obtain ⟨m',hm'⟩:∃ m',m'=upd (upd m (.tr p) (next (m (.tr p)) (ptr (m (.tr q))) false)) (.tr q) (next (m (.tr q)) (ptr (m (.tr p))) true):=⟨_,rfl⟩
 rw [← hm']
 have e0:∀ x,(∀ q,x≠.tr q)→m' x=m x:=fun x hx=>by rw [hm',By _ _ (hx q),By _ _ (hx p)]
 have e1:∀ r,r≠p→r≠q→m' (.tr r)=m (.tr r):=fun r h1 h2=>by rw [hm',By _ _ (fun e=>h2 (by injection e)),By _ _ (fun e=>h1 (by injection e))]
 have e2:m' (.tr p)=next (m (.tr p)) (ptr (m (.tr q))) false:=by rw [hm',By _ _ (fun e=>hpq (by injection e)),Fi]
 have e3:m' (.tr q)=next (m (.tr q)) (ptr (m (.tr p))) true:=by rw [hm',Fi]
 clear hm'
 have ek:∀ l,hk m' l=hk m l:=fun l=>Eb _ (fun n _=>e0 _ (fun q e=>by cases e))
 have t1:Jo T p q p=T q:=by unfold Jo;rw [Dk _ _ hpq,Eu]
 have t2:Jo T p q q=T p:=by unfold Jo;rw [Eu]
 have t3:∀ r,r≠p→r≠q→Jo T p q r=T r:=fun r h1 h2=>by unfold Jo;rw [Dk _ _ h2,Dk _ _ h1]
 have pr:=Fj (m (.tr p))
 have qr:=Fj (m (.tr q))
 have oq:o=2*p∧q=2*p+1∨o=2*p+1∧q=2*p:=Zo
 refine ⟨by rw [e0 _ (fun q e=>by cases e)];exact h.depth,fun r a b=>?_,fun r a b=>?_,fun r a=>?_,fun r a=>?_,fun r=>?_,fun r a b=>?_,fun r a b=>?_,fun r x hx=>?_⟩
 .have hm:=h.marks r a b
  by_cases hr:r=p
  .rw [hr,e2,Eh]
   exact (decide_eq_false Zo).symm
  .by_cases hr2:r=q
   .rw [hr2,e3,Eh]
    exact (decide_eq_true rfl).symm
   .rw [e1 r hr hr2,hm,decide_eq_false hr,decide_eq_false hr2]
 .have hl:∀ r,1≤r→r<c.pl→ListAt m' (ptr (m (.tr r))) (T r):=fun r a b=>ListAt.congr _ _ (fun n _=>e0 _ (fun q e=>by cases e)) (h.lists r a b)
  by_cases hr:r=p
  .rw [hr,e2,Em _ _ _ qr.1 qr.2,t1]
   exact hl q Zo hqp
  .by_cases hr2:r=q
   .rw [hr2,e3,Em _ _ _ pr.1 pr.2,t2]
    exact hl p hp1 Zo
   .rw [e1 r hr hr2,t3 r hr hr2]
    exact hl r a b
 .rw [t3 r (fun e=>a ⟨Zo,Zo⟩) (fun e=>a ⟨Zo,Zo⟩)]
  exact h.out r a
 .rw [e0 _ (fun q e=>by cases e)] at a
  rw [t3 r Zo Zo]
  exact h.beyond r a
 .have hs:∀ r,(T r).Pairwise (fun a b=>m' (.nd a 0)≤m' (.nd b 0)):=fun r=>(h.sorted r).imp fun {a b} hab=>by rw [e0 _ (fun q e=>by cases e),e0 _ (fun q e=>by cases e)];exact hab
  by_cases hr:r=p
  .rw [hr,t1];exact hs q
  .by_cases hr2:r=q
   .rw [hr2,t2];exact hs p
   .rw [t3 r hr hr2];exact hs r
 .rw [ek,ek]
  by_cases hrq:r=q
  .rw [hrq,hq,t1,t2];omega
  .by_cases hro:r=o
   .rw [hro,ho,t1,t3 o Zo (Ne.symm hqo)];exact h2
   .by_cases hrp:r=p
    .rw [hrp,t1,t3 (p / 2) Zo Zo]
     have:=h.heap2 q Zo hq
     rw [show q / 4=p / 2 by omega] at this
     exact this
    .rw [t3 r hrp hrq,t3 (r / 2) Zo Zo]
     exact h.heap r a Zo
 .rw [ek,ek]
  rw [show r / 4=p by omega,t1,t3 r Zo Zo]
  have:=h.heap r Zo Zo
  rw [b] at this
  exact this
 .rw [e0 _ (fun q e=>by cases e)]
  by_cases hr:r=p
  .rw [hr,t1] at hx;exact h.keys _ x hx
  .by_cases hr2:r=q
   .rw [hr2,t2] at hx;exact h.keys _ x hx
   .rw [t3 r hr hr2] at hx;exact h.keys _ x hx
def Gn (pc:Nat) (p w k a b d e:Int):Fr:={fn:=14,pc:=pc,r0:=p,r1:=w,r2:=k,r3:=a,r4:=b,r5:=d,r6:=e}
theorem Mu (ha:c.algo=0) {s:St} {pc:Nat} {p w k a b d e:Int} {fs:List Fr}:bit c tid s (Gn pc p w k a b d e::fs)=Hl c s (Gn pc p w k a b d e) fs:=by
 rw [Jn ha]
 unfold Gd
 rw [if_neg (by show ¬ (_∧11≤14∧14≤13);omega)]
 rfl
theorem eM (G:Good c tid) (ha:c.algo=0):∀ (M:Nat) (s:St) (T:Int→List Int) (p w0 k0 a0 b0 d0 e0:Int) (fs:List Fr),(c.pl-p).toNat≤M→1≤p→p<c.pl→Mound c s.mm T p→(∀ q,∀ n ∈ T q,1≤n∧n≤c.ns)→fs.length≤40→
  ∃ (m':Loc→Int) (T':Int→List Int),ButTree s.mm m'∧Runs c tid s (Gn 0 p w0 k0 a0 b0 d0 e0::fs) ({s with mm:=m'}.told 0 0 0) fs∧Mound c m' T' 0∧(Bw (N c) T').Perm (Bw (N c) T):=by
 have hlv:=G.lv
 intro M
 induction M with
 |zero=>intro s T p w0 k0 a0 b0 d0 e0 fs hM hp1 hp2 h hr hfs;omega
 |succ M ih=>
  intro s T p w0 k0 a0 b0 d0 e0 fs hM hp1 hp2 h hr hfs
  have hd:=h.depth
  obtain ⟨D,hD⟩:∃ D:Nat,s.mm (.gl 2)=D:=⟨(s.mm (.gl 2)).toNat,Zo⟩
  have hle:Cd (D:Int)=((2 ^ (D-1):Nat):Int):=by rw [Qb _ Zo Zo];congr 3;omega
  have hD2:2 ^ D=2*2 ^ (D-1):=by
   obtain ⟨e,rfl⟩:∃ e,D=e+1:=⟨D-1,Zo⟩
   rw [Nat.pow_succ,Nat.add_sub_cancel];omega
  have hDp:(2 ^ D:Nat)≤2 ^ c.lv.toNat:=Kq Zo
  have hp64:(2 ^ c.lv.toNat:Nat)≤2 ^ 6:=Kq Zo
  have e64:(2 ^ 6:Nat)=64:=rfl
  have hpl:=Kz ha
  have hDt:(s.mm (.gl 2)).toNat=D:=Zo
  have c0:bit c tid s (Gn 0 p w0 k0 a0 b0 d0 e0::fs)=some ⟨s,{fn:=10,pc:=0,r0:=p}::Gn 1 p w0 k0 a0 b0 d0 e0::fs,[],false⟩:=by
   rw [Mu ha]
   rfl
  obtain ⟨m1,hb1,hr1⟩:=Ih (c:=c) (tid:=tid) G ha (s:=s) (T:=T) (p:=p) (Gn 1 p w0 k0 a0 b0 d0 e0::fs) h hp1 hp2 (hr _)
  obtain ⟨s1,hs1⟩:∃ s1,s1=(({s with mm:=m1}:St).told (s.mm (.tr p)) (hk s.mm (T p)) 0):=⟨_,rfl⟩
  rw [← hs1] at hr1
  have g0:s1.ret0=s.mm (.tr p):=by rw [hs1];rfl
  have g1:s1.ret1=hk s.mm (T p):=by rw [hs1];rfl
  have g2:s1.mm=m1:=by rw [hs1];rfl
  have hmk:mark (s.mm (.tr p))=true:=by rw [h.marks p hp1 hp2];exact decide_eq_true rfl
  have c1:bit c tid s1 (Gn 1 p w0 k0 a0 b0 d0 e0::fs)=some ⟨s1,Gn 2 p (s.mm (.tr p)) (hk s.mm (T p)) a0 b0 d0 e0::fs,[],false⟩:=by
   rw [Mu ha]
   show (if mark s1.ret0 then ok s1 (Gn 2 p s1.ret0 s1.ret1 a0 b0 d0 e0::fs) else _)=_
   rw [g0,g1,if_pos hmk]
   rfl
  have c2:bit c tid s1 (Gn 2 p (s.mm (.tr p)) (hk s.mm (T p)) a0 b0 d0 e0::fs)=some ⟨s1,Gn (if p≥1∧p≤1048576∧p<Cd (D:Int) then 4 else 3) p (s.mm (.tr p)) (hk s.mm (T p)) a0 b0 d0 e0::fs,[],true⟩:=by
   rw [Mu ha]
   show Ao c (.gl 2) s1 (Gn (if p≥1∧p≤1048576∧p<Cd (s1.mm (.gl 2)) then 4 else 3) p (s.mm (.tr p)) (hk s.mm (T p)) a0 b0 d0 e0::fs)=_
   rw [g2,hb1.gl,hD,Ah Qe]
   rfl
  have r2:=Runs.via c0 (hr1.trans (Runs.via c1 (Runs.via c2 (Runs.refl _ _))))
  have washed:∀ (s3:St) (pc:Nat) (a b d e:Int),ButHaz s.mm s3.mm→(∀ x y z,s3.told x y z=({s with mm:=s3.mm}:St).told x y z)→(∀ q,q / 2=p→2≤q→hk s.mm (T p)≤hk s.mm (T q))→
    ∃ (m':Loc→Int),ButTree s.mm m'∧Nv c s3 (Gn pc p (s.mm (.tr p)) (hk s.mm (T p)) a b d e) fs=some ⟨({s with mm:=m'}:St).told 0 0 0,fs,[],true⟩∧Mound c m' T 0:=by
   intro s3 pc a b d e hb3 hst hlow
   refine ⟨upd s3.mm (.tr p) (next (s.mm (.tr p)) (ptr (s.mm (.tr p))) false),hb3.butTree.trans (ButTree.upd _ _ _),?_,?_⟩
   .unfold Nv
    show (if s3.mm (.tr p)=s.mm (.tr p) then Ao c (.tr p) ((s3.put (.tr p) (next (s.mm (.tr p)) (ptr (s.mm (.tr p))) false)).told 0 0 0) fs else _)=_
    rw [if_pos (hb3.tr p),Ah (Ib Zo hp2)]
    have h5:=congrArg (fun z:St=>({z with mm:=upd s3.mm (.tr p) (next (s.mm (.tr p)) (ptr (s.mm (.tr p))) false)}:St)) (hst 0 0 0)
    exact congrArg (fun z:St=>some (Out.mk z fs [] true)) h5
   .have hw:=(h.wash hp1 hlow).bH (hb3.both (.tr p) (next (s.mm (.tr p)) (ptr (s.mm (.tr p))) false))
    exact hw
  by_cases hin:p<Cd (D:Int)
  .rw [if_pos Zo] at r2
   rw [hle] at hin
   have c4:bit c tid s1 (Gn 4 p (s.mm (.tr p)) (hk s.mm (T p)) a0 b0 d0 e0::fs)=some ⟨s1,{fn:=10,pc:=0,r0:=2*p}::Gn 5 p (s.mm (.tr p)) (hk s.mm (T p)) a0 b0 d0 e0::fs,[],false⟩:=by
    rw [Mu ha]
    show (if p≥65536 then none else call s1 _ fs 5 {fn:=10,pc:=0,r0:=2*p})=_
    rw [if_neg Zo]
    rfl
   have hM1:Mound c s1.mm T p:=by rw [g2];exact h.bH hb1
   obtain ⟨m5,hb5,hr5⟩:=Ih (c:=c) (tid:=tid) G ha (s:=s1) (T:=T) (p:=2*p) (Gn 5 p (s.mm (.tr p)) (hk s.mm (T p)) a0 b0 d0 e0::fs) hM1 Zo Zo (hr _)
   obtain ⟨s5,hs5⟩:∃ s5,s5=(({s1 with mm:=m5}:St).told (s1.mm (.tr (2*p))) (hk s1.mm (T (2*p))) 0):=⟨_,rfl⟩
   rw [← hs5] at hr5
   have hb15:ButHaz s.mm m5:=by rw [g2] at hb5;exact hb1.trans hb5
   have hhk1:∀ l,hk s1.mm l=hk s.mm l:=fun l=>by rw [g2];exact Eb _ (fun n _=>hb1.nd n 0)
   have kk0:s5.ret0=s.mm (.tr (2*p)):=by rw [hs5];show s1.mm _=_;rw [g2,hb1.tr]
   have kk1:s5.ret1=hk s.mm (T (2*p)):=by rw [hs5];exact hhk1 _
   have kk2:s5.mm=m5:=by rw [hs5];rfl
   have hml:mark (s.mm (.tr (2*p)))=false:=by rw [h.marks _ Zo Zo];exact decide_eq_false Zo
   have hmr:mark (s.mm (.tr (2*p+1)))=false:=by rw [h.marks _ Zo Zo];exact decide_eq_false Zo
   have c5:bit c tid s5 (Gn 5 p (s.mm (.tr p)) (hk s.mm (T p)) a0 b0 d0 e0::fs)=some ⟨s5,{fn:=10,pc:=0,r0:=2*p+1}::Gn 6 p (s.mm (.tr p)) (hk s.mm (T p)) (s.mm (.tr (2*p))) (hk s.mm (T (2*p))) d0 e0::fs,[],false⟩:=by
    rw [Mu ha]
    show (if p≥65536 then none else if mark s5.ret0 then _ else call s5 (Gn 5 p (s.mm (.tr p)) (hk s.mm (T p)) s5.ret0 s5.ret1 d0 e0) fs 6 {fn:=10,pc:=0,r0:=2*p+1})=_
    rw [if_neg Zo,kk0,kk1,if_neg (by rw [hml];decide)]
    rfl
   have hM5:Mound c s5.mm T p:=by rw [kk2];exact h.bH hb15
   obtain ⟨m6,hb6,hr6⟩:=Ih (c:=c) (tid:=tid) G ha (s:=s5) (T:=T) (p:=2*p+1) (Gn 6 p (s.mm (.tr p)) (hk s.mm (T p)) (s.mm (.tr (2*p))) (hk s.mm (T (2*p))) d0 e0::fs) hM5 Zo Zo (hr _)
   obtain ⟨s6,hs6⟩:∃ s6,s6=(({s5 with mm:=m6}:St).told (s5.mm (.tr (2*p+1))) (hk s5.mm (T (2*p+1))) 0):=⟨_,rfl⟩
   rw [← hs6] at hr6
   have hb16:ButHaz s.mm m6:=by rw [kk2] at hb6;exact hb15.trans hb6
   have hhk5:∀ l,hk s5.mm l=hk s.mm l:=fun l=>by rw [kk2];exact Eb _ (fun n _=>hb15.nd n 0)
   have l0:s6.ret0=s.mm (.tr (2*p+1)):=by rw [hs6];show s5.mm _=_;rw [kk2,hb15.tr]
   have l1:s6.ret1=hk s.mm (T (2*p+1)):=by rw [hs6];exact hhk5 _
   have l2:s6.mm=m6:=by rw [hs6];rfl
   have l3:∀ x y z,s6.told x y z=({s with mm:=s6.mm}:St).told x y z:=fun x y z=>by rw [hs6,hs5,hs1];rfl
   have c6:bit c tid s6 (Gn 6 p (s.mm (.tr p)) (hk s.mm (T p)) (s.mm (.tr (2*p))) (hk s.mm (T (2*p))) d0 e0::fs)=some ⟨s6,Gn 7 p (s.mm (.tr p)) (hk s.mm (T p)) (s.mm (.tr (2*p))) (hk s.mm (T (2*p))) (s.mm (.tr (2*p+1))) (hk s.mm (T (2*p+1)))::fs,[],false⟩:=by
    rw [Mu ha]
    show (if p≥65536 then none else if mark s6.ret0 then _ else ok s6 (Gn 7 p (s.mm (.tr p)) (hk s.mm (T p)) (s.mm (.tr (2*p))) (hk s.mm (T (2*p))) s6.ret0 s6.ret1::fs))=_
    rw [if_neg Zo,l0,l1,if_neg (by rw [hmr];decide)]
    rfl
   have r6:=r2.trans (Runs.via c4 (hr5.trans (Runs.via c5 (hr6.trans (Runs.via c6 (Runs.refl _ _))))))
   have c7:bit c tid s6 (Gn 7 p (s.mm (.tr p)) (hk s.mm (T p)) (s.mm (.tr (2*p))) (hk s.mm (T (2*p))) (s.mm (.tr (2*p+1))) (hk s.mm (T (2*p+1)))::fs) =
     (if hk s.mm (T (2*p))≤hk s.mm (T (2*p+1))∧hk s.mm (T (2*p))<hk s.mm (T p) then Kg c s6 (Gn 7 p (s.mm (.tr p)) (hk s.mm (T p)) (s.mm (.tr (2*p))) (hk s.mm (T (2*p))) (s.mm (.tr (2*p+1))) (hk s.mm (T (2*p+1)))) fs (s.mm (.tr (2*p))) (2*p)
      else if hk s.mm (T (2*p+1))<hk s.mm (T (2*p))∧hk s.mm (T (2*p+1))<hk s.mm (T p) then Kg c s6 (Gn 7 p (s.mm (.tr p)) (hk s.mm (T p)) (s.mm (.tr (2*p))) (hk s.mm (T (2*p))) (s.mm (.tr (2*p+1))) (hk s.mm (T (2*p+1)))) fs (s.mm (.tr (2*p+1))) (2*p+1)
      else Nv c s6 (Gn 7 p (s.mm (.tr p)) (hk s.mm (T p)) (s.mm (.tr (2*p))) (hk s.mm (T (2*p))) (s.mm (.tr (2*p+1))) (hk s.mm (T (2*p+1)))) fs):=by
    rw [Mu ha]
    show (if p<1∨p≥65536 then none else _)=_
    rw [if_neg Zo]
    rfl
   have swapped:∀ q o,q / 2=p→o / 2=p→q≠o→q≤2*p+1→hk s.mm (T q)<hk s.mm (T p)→hk s.mm (T q)≤hk s.mm (T o)→
     bit c tid s6 (Gn 7 p (s.mm (.tr p)) (hk s.mm (T p)) (s.mm (.tr (2*p))) (hk s.mm (T (2*p))) (s.mm (.tr (2*p+1))) (hk s.mm (T (2*p+1)))::fs)=Kg c s6 (Gn 7 p (s.mm (.tr p)) (hk s.mm (T p)) (s.mm (.tr (2*p))) (hk s.mm (T (2*p))) (s.mm (.tr (2*p+1))) (hk s.mm (T (2*p+1)))) fs (s.mm (.tr q)) q→
     ∃ (m':Loc→Int) (T':Int→List Int),ButTree s.mm m'∧Runs c tid s (Gn 0 p w0 k0 a0 b0 d0 e0::fs) ({s with mm:=m'}.told 0 0 0) fs∧Mound c m' T' 0∧(Bw (N c) T').Perm (Bw (N c) T):=by
    intro q o q1 q2 q3 q4 q5 q6 hbit
    have hsw:=h.swap hp1 q1 q2 q3 (by rw [hDt];omega) Zo q5 q6
    obtain ⟨s8,hs8⟩:∃ s8,s8=(s6.put (.tr p) (next (s.mm (.tr p)) (ptr (s.mm (.tr q))) false)).put (.tr q) (next (s.mm (.tr q)) (ptr (s.mm (.tr p))) true):=⟨_,rfl⟩
    have hsw2:Mound c s8.mm (Jo T p q) q:=by
     rw [hs8]
     show Mound c (upd (upd s6.mm _ _) _ _) _ _
     rw [l2]
     exact hsw.bH ((hb16.both _ _).both _ _)
    obtain ⟨m',T',w1,w2,w3,w4⟩:=ih s8 (Jo T p q) q (s.mm (.tr p)) (hk s.mm (T p)) (s.mm (.tr (2*p))) (hk s.mm (T (2*p))) (s.mm (.tr (2*p+1))) (hk s.mm (T (2*p+1))) fs Zo Zo Zo hsw2 (fun r n hn=>by
     unfold Jo Iz at hn
     split at hn
     .exact hr _ n hn
     .split at hn
      .exact hr _ n hn
      .exact hr _ n hn) hfs
    refine ⟨m',T',?_,?_,w3,w4.trans (Vr T p q (N c) Zo (by unfold N;omega) Zo (by unfold N;omega) Zo)⟩
    .refine ButTree.trans ?_ w1
     rw [hs8]
     show ButTree _ (upd (upd s6.mm _ _) _ _)
     rw [l2]
     exact hb16.butTree.trans ((ButTree.upd _ _ _).trans (ButTree.upd _ _ _))
    .have w2':Runs c tid s8 (Gn 0 q (s.mm (.tr p)) (hk s.mm (T p)) (s.mm (.tr (2*p))) (hk s.mm (T (2*p))) (s.mm (.tr (2*p+1))) (hk s.mm (T (2*p+1)))::fs) (({s with mm:=m'}:St).told 0 0 0) fs:=by
      have e9:({s8 with mm:=m'}:St).told 0 0 0=({s with mm:=m'}:St).told 0 0 0:=by rw [hs8,hs6,hs5,hs1];rfl
      rw [← e9]
      exact w2
     refine r6.trans (Runs.via (o:=⟨s8,_,[],true⟩) ?_ w2')
     rw [hbit]
     unfold Kg
     show (if s6.mm (.tr p)=s.mm (.tr p)∧s6.mm (.tr q)=s.mm (.tr q) then Mg c (.tr p) (.tr q) ((s6.put (.tr p) (next (s.mm (.tr p)) (ptr (s.mm (.tr q))) false)).put (.tr q) (next (s.mm (.tr q)) (ptr (s.mm (.tr p))) true)) _ else _)=_
     rw [if_pos ⟨by rw [l2];exact hb16.tr p,by rw [l2];exact hb16.tr q⟩,Vl (Ib Zo hp2) (Ib Zo Zo),← hs8]
     rfl
   by_cases hc1:hk s.mm (T (2*p))≤hk s.mm (T (2*p+1))∧hk s.mm (T (2*p))<hk s.mm (T p)
   .rw [if_pos hc1] at c7
    exact swapped (2*p) (2*p+1) Zo Zo Zo Zo hc1.2 hc1.1 c7
   .rw [if_neg hc1] at c7
    by_cases hc2:hk s.mm (T (2*p+1))<hk s.mm (T (2*p))∧hk s.mm (T (2*p+1))<hk s.mm (T p)
    .rw [if_pos hc2] at c7
     exact swapped (2*p+1) (2*p) Zo Zo Zo Zo hc2.2 Zo c7
    .rw [if_neg hc2] at c7
     obtain ⟨m',v1,v2,v3⟩:=washed s6 7 (s.mm (.tr (2*p))) (hk s.mm (T (2*p))) (s.mm (.tr (2*p+1))) (hk s.mm (T (2*p+1))) (by rw [l2];exact hb16) l3 (fun q hq hq2=>by
      have:q=2*p∨q=2*p+1:=Zo
      rcases this with rfl|rfl<;>omega)
     exact ⟨m',T,v1,r6.trans (Runs.via (c7.trans v2) (Runs.refl _ _)),v3,List.Perm.refl _⟩
  .rw [if_neg Zo] at r2
   have l3:∀ x y z,s1.told x y z=({s with mm:=s1.mm}:St).told x y z:=fun x y z=>by rw [hs1];rfl
   obtain ⟨m',v1,v2,v3⟩:=washed s1 3 a0 b0 d0 e0 (by rw [g2];exact hb1) l3 (fun q hq hq2=>by
    have:T q=[]:=h.beyond q (by rw [hDt];omega)
    rw [this]
    exact uG h p)
   exact ⟨m',T,v1,r2.trans (Runs.via (((Mu ha).trans (show Hl c s1 (Gn 3 p (s.mm (.tr p)) (hk s.mm (T p)) a0 b0 d0 e0) fs=Nv c s1 (Gn 3 p (s.mm (.tr p)) (hk s.mm (T p)) a0 b0 d0 e0) fs from rfl)).trans v2) (Runs.refl _ _)),v3,List.Perm.refl _⟩
def mR (b:List (Int×Int)) (op key val kind k v:Int) (b':List (Int×Int)):Prop:=
 (op=0∧kind=0∧k=0∧v=0∧b'.Perm ((key,val)::b))∨
 (op≠0∧b=[]∧b'=[]∧kind=3∧k=0∧v=0)∨
 (op≠0∧kind=2∧(k,v) ∈ b∧(∀ p ∈ b,k≤p.1)∧((op=1∧b.Perm ((k,v)::b'))∨(op=2∧b'.Perm b)))
def Pf (op key val:Int):Prop:=(op=0∧0≤key∧key<4294967296∧0≤val∧val<4294967296)∨((op=1∨op=2)∧key=0∧val=0)
def Gg (fn pc:Nat) (w k v x:Int):Fr:={fn:=fn,pc:=pc,r0:=w,r1:=k,r2:=v,r3:=x}
theorem Ko (ha:c.algo=0) {s:St} {fn pc:Nat} {w k v x:Int} {fs:List Fr} (hf:fn=12∨fn=13) (hp:pc≠90):bit c tid s (Gg fn pc w k v x::fs)=Hx c s (Gg fn pc w k v x) fs:=by
 rw [Jn ha]
 unfold Gd
 rw [if_neg (by show ¬ (pc=90∧_);omega)]
 rcases hf with rfl|rfl<;>rfl
theorem Wv (G:Good c tid) (ha:c.algo=0) {s:St} {T:Int→List Int} {free:List Int} (fn:Nat) (hf:fn=12∨fn=13) (h:Owned c s free (Bw (N c) T)) (hM:Mound c s.mm T 0) :
  (T 1=[]∧∃ s':St,Runs c tid s [Gg fn 0 0 0 0 0] (s'.told 3 0 0) []∧Owned c s' free (Bw (N c) T)∧Mound c s'.mm T 0∧s'.us=s.us)∨
  ∃ (n:Int) (r:List Int),T 1=n::r∧∃ (s':St) (T':Int→List Int) (free':List Int),Runs c tid s [Gg fn 0 0 0 0 0] (s'.told 2 (s.mm (.nd n 0)) (s.mm (.nd n 1))) []∧Owned c s' free' (Bw (N c) T')∧Mound c s'.mm T' 0∧s'.us=s.us∧
   (∀ x f,s'.mm (.nd x f)=s.mm (.nd x f))∧(fn=12→(Bw (N c) T).Perm (n::Bw (N c) T'))∧(fn=13→T'=T):=by
 have hlv:=G.lv
 have hsl:=Qn ha
 have hpl:2≤c.pl:=by
  rw [Kz ha]
  have:(2 ^ 1:Nat)≤2 ^ c.lv.toNat:=Kq Zo
  omega
 have hht:c.has (.tr 1)=true:=Ib Zd Zo
 have hff:11≤fn∧fn≤13:=Zo
 have fini:∀ (s1:St) (pc:Nat) (w k v x kind key val:Int),∃ m',ButHaz s1.mm m'∧Runs c tid s1 (fin s1 (Gg fn pc w k v x) [] kind key val) (({s1 with mm:=m'}:St).told kind key val) []:=fun s1 pc w k v x kind key val=>
  Ic (c:=c) (tid:=tid) G s1 (Gg fn pc w k v x) kind key val (.inl ⟨ha,hff.1,hff.2⟩)
 have b0:bit c tid s [Gg fn 0 0 0 0 0]=some ⟨s,[{fn:=3,pc:=0,r0:=0,r1:=c.addr (.tr 1)},Gg fn 1 0 0 0 0],[],false⟩:=by
  rw [Ko ha hf Zd]
  show (if c.has (.tr 1) then _ else none)=_
  rw [if_pos hht]
  rfl
 obtain ⟨m1,hb1,hr1⟩:=Lp (c:=c) (tid:=tid) s [Gg fn 1 0 0 0 0] 0 (c.addr (.tr 1)) (.tr 1) (Sv G ha 1 Zd) hht (Gf G.me.1 G.me.2 Zd Zo) (fun _ _ e=>by cases e)
 obtain ⟨s1,hs1⟩:∃ s1,s1=(({s with mm:=m1}:St).told (s.mm (.tr 1)) 0 0):=⟨_,rfl⟩
 rw [← hs1] at hr1
 have g0:s1.ret0=s.mm (.tr 1):=by rw [hs1];rfl
 have g1:s1.mm=m1:=by rw [hs1];rfl
 have g2:s1.rt=s.rt:=by rw [hs1];rfl
 have g3:s1.us=s.us:=by rw [hs1];rfl
 clear hs1
 have hmk:mark (s.mm (.tr 1))=false:=by rw [hM.marks 1 Zd Zo];exact decide_eq_false Zd
 have hO1:Owned c s1 free (Bw (N c) T):=h.bH (by rw [g1];exact hb1) g2
 have hM1:Mound c s1.mm T 0:=by rw [g1];exact hM.bH hb1
 have hli:=hM.lists 1 Zd Zo
 have hr0:=Runs.via b0 hr1
 cases hT:T 1 with
 |nil=>
  refine .inl ⟨rfl,?_⟩
  rw [hT] at hli
  have hz:ptr (s.mm (.tr 1))=0:=hli
  obtain ⟨m2,hb2,hr2⟩:=fini s1 1 (s.mm (.tr 1)) 0 0 0 3 0 0
  refine ⟨{s1 with mm:=m2},hr0.trans (Runs.via (o:=⟨s1,fin s1 (Gg fn 1 (s.mm (.tr 1)) 0 0 0) [] 3 0 0,[],false⟩) ?_ hr2),hO1.bH hb2 rfl,hM1.bH hb2,g3⟩
  rw [Ko ha hf Zd]
  show (if mark s1.ret0 then _ else if ptr s1.ret0=0 then ok s1 (fin s1 (Gg fn 1 s1.ret0 0 0 0) [] 3 0 0) else _)=_
  rw [g0,if_neg (by rw [hmk];decide),if_pos hz]
  rfl
 |cons n r=>
  refine .inr ⟨n,r,rfl,?_⟩
  rw [hT] at hli
  have hz:ptr (s.mm (.tr 1))=n:=hli.1
  have hnm:n ∈ Bw (N c) T:=hM.mm (p:=1) (by rw [hT];exact List.mem_cons_self ..)
  have hn:=h.pos hnm
  have hN:=G.ns
  obtain ⟨w,hw⟩:∃ w,w=s.mm (.tr 1):=⟨_,rfl⟩
  rw [← hw] at hmk hz g0
  have b1:bit c tid s1 [Gg fn 1 0 0 0 0]=some ⟨s1,[Gg fn 2 w 0 0 0],[],false⟩:=by
   rw [Ko ha hf Zd]
   show (if mark s1.ret0 then _ else if ptr s1.ret0=0 then _ else ok s1 [Gg fn 2 s1.ret0 0 0 0])=_
   rw [g0,if_neg (by rw [hmk];decide),if_neg Zo]
   rfl
  have b2:bit c tid s1 [Gg fn 2 w 0 0 0]=some ⟨s1,[Gg fn 3 w (s.mm (.nd n 0)) 0 0],Cu (.nd n 0),true⟩:=by
   rw [Ko ha hf Zd]
   show Ao c (.nd (ptr w) 0) s1 [Gg fn 3 w (s1.mm (.nd (ptr w) 0)) 0 0]=_
   rw [hz,g1,hb1.nd,Ah (Io ha hn Zd Zd)]
  have hr3:=hr0.trans (Runs.via b1 (Runs.via b2 (Runs.refl _ _)))
  rcases hf with rfl|rfl
  .have b3:bit c tid s1 [Gg 12 3 w (s.mm (.nd n 0)) 0 0]=some ⟨s1,[Gg 12 4 w (s.mm (.nd n 0)) (s.mm (.nd n 1)) 0],Cu (.nd n 1),true⟩:=by
    rw [Ko ha (.inl rfl) Zd]
    show Ao c (.nd (ptr w) 1) s1 [Gg 12 4 w (s.mm (.nd n 0)) (s1.mm (.nd (ptr w) 1)) 0]=_
    rw [hz,g1,hb1.nd,Ah (Io ha hn Zd Zd)]
   have b4:bit c tid s1 [Gg 12 4 w (s.mm (.nd n 0)) (s.mm (.nd n 1)) 0]=some ⟨s1,[Gg 12 5 w (s.mm (.nd n 0)) (s.mm (.nd n 1)) (s.mm (.nd n 2))],Cu (.nd n 2),true⟩:=by
    rw [Ko ha (.inl rfl) Zd]
    show Ao c (.nd (ptr w) 2) s1 [Gg 12 5 w (s.mm (.nd n 0)) (s.mm (.nd n 1)) (s1.mm (.nd (ptr w) 2))]=_
    rw [hz,g1,hb1.nd,Ah (Io ha hn Zd Zd)]
   obtain ⟨s5,hs5⟩:∃ s5,s5=s1.put (.tr 1) (next w (s.mm (.nd n 2)) true):=⟨_,rfl⟩
   have b5:bit c tid s1 [Gg 12 5 w (s.mm (.nd n 0)) (s.mm (.nd n 1)) (s.mm (.nd n 2))]=some ⟨s5,[Gn 0 1 0 0 0 0 0 0,Gg 12 6 w (s.mm (.nd n 0)) (s.mm (.nd n 1)) (s.mm (.nd n 2))],[],true⟩:=by
    rw [Ko ha (.inl rfl) Zd]
    show (if s1.mm (.tr 1)=w then Ao c (.tr 1) (s1.put (.tr 1) (next w (s.mm (.nd n 2)) true)) [Gn 0 1 0 0 0 0 0 0,Gg 12 6 w (s.mm (.nd n 0)) (s.mm (.nd n 1)) (s.mm (.nd n 2))] else _)=_
    rw [if_pos (by rw [g1,hb1.tr,hw]),Ah hht,hs5]
    rfl
   have hrange:∀ q,∀ x ∈ T q,1≤x∧x≤c.ns:=fun q x hx=>h.pos (hM.mm hx)
   have hr2:∀ x ∈ r,1≤x∧x≤c.ns:=fun x hx=>hrange 1 x (by rw [hT];exact List.mem_cons_of_mem _ hx)
   have hpr:=ListAt.ptr hli.2 hr2 hN.2
   have e0:∀ x,x≠.tr 1→(∀ t i,x≠.haz t i)→s5.mm x=s.mm x:=fun x hx hy=>by rw [hs5,Bo _ _ hx,g1];exact hb1 x hy
   have e1:s5.mm (.tr 1)=next w (s.mm (.nd n 2)) true:=by rw [hs5,Dl]
   have ek:∀ l,hk s5.mm l=hk s.mm l:=fun l=>Eb _ (fun n _=>e0 _ (fun e=>by cases e) (fun _ _ e=>by cases e))
   have enode:∀ x f,s5.mm (.nd x f)=s.mm (.nd x f):=fun x f=>e0 _ (fun e=>by cases e) (fun _ _ e=>by cases e)
   have hM5:Mound c s5.mm (Iz T 1 r) 1:=by
    refine ⟨by rw [e0 _ (fun e=>by cases e) (fun _ _ e=>by cases e)];exact hM.depth,fun q a b=>?_,fun q a b=>?_,fun q a=>?_,fun q a=>?_,fun q=>?_,fun q a b=>?_,fun q a b=>Zo,fun q x hx=>?_⟩
    .by_cases hq:q=1
     .rw [hq,e1,Eh];exact (decide_eq_true rfl).symm
     .rw [e0 _ (fun e=>hq (by injection e)) (fun _ _ e=>by cases e),hM.marks q a b,decide_eq_false hq,decide_eq_false Zo]
    .by_cases hq:q=1
     .rw [hq,e1,Em _ _ _ hpr.1 hpr.2,Eu]
      exact ListAt.congr _ _ (fun x _=>enode x 2) hli.2
     .rw [e0 _ (fun e=>hq (by injection e)) (fun _ _ e=>by cases e),Dk _ _ hq]
      exact ListAt.congr _ _ (fun x _=>enode x 2) (hM.lists q a b)
    .rw [Dk _ _ (fun e=>a ⟨Zo,Zo⟩)];exact hM.out q a
    .rw [e0 _ (fun e=>by cases e) (fun _ _ e=>by cases e)] at a
     have hd:=hM.depth
     have:(2 ^ 1:Nat)≤2 ^ (s.mm (.gl 2)).toNat:=Kq Zo
     rw [Dk _ _ Zo]
     exact hM.beyond q a
    .have hs:∀ l:List Int,l.Pairwise (fun a b=>s.mm (.nd a 0)≤s.mm (.nd b 0))→l.Pairwise (fun a b=>s5.mm (.nd a 0)≤s5.mm (.nd b 0)):=fun l hl=>hl.imp fun {a b} hab=>by rw [enode,enode];exact hab
     by_cases hq:q=1
     .rw [hq,Eu]
      have:=hM.sorted 1
      rw [hT] at this
      exact hs r (List.pairwise_cons.1 this).2
     .rw [Dk _ _ hq];exact hs _ (hM.sorted q)
    .rw [ek,ek,Dk _ _ b,Dk _ _ Zo]
     exact hM.heap q a Zo
    .rw [enode]
     by_cases hq:q=1
     .rw [hq,Eu] at hx
      exact hM.keys 1 x (by rw [hT];exact List.mem_cons_of_mem _ hx)
     .rw [Dk _ _ hq] at hx;exact hM.keys q x hx
   obtain ⟨m6,T6,v1,v2,v3,v4⟩:=eM G ha (c.pl-1).toNat s5 (Iz T 1 r) 1 0 0 0 0 0 0 [Gg 12 6 w (s.mm (.nd n 0)) (s.mm (.nd n 1)) (s.mm (.nd n 2))] (Nat.le_refl _) Zd Zo hM5 (fun q x hx=>by
    by_cases hq:q=1
    .rw [hq,Eu] at hx;exact hr2 x hx
    .rw [Dk _ _ hq] at hx;exact hrange q x hx) (by show 1≤40;decide)
   obtain ⟨s6,hs6⟩:∃ s6,s6=(({s5 with mm:=m6}:St).told 0 0 0):=⟨_,rfl⟩
   rw [← hs6] at v2
   have h6m:s6.mm=m6:=by rw [hs6];rfl
   have b6:bit c tid s6 [Gg 12 6 w (s.mm (.nd n 0)) (s.mm (.nd n 1)) (s.mm (.nd n 2))]=some ⟨s6,[{fn:=5,pc:=0,r0:=n},Gg 12 7 w (s.mm (.nd n 0)) (s.mm (.nd n 1)) (s.mm (.nd n 2))],[],false⟩:=by
    rw [Ko ha (.inl rfl) Zd]
    show some (Out.mk s6 [{fn:=5,pc:=0,r0:=ptr w},Gg 12 7 w (s.mm (.nd n 0)) (s.mm (.nd n 1)) (s.mm (.nd n 2))] [] false)=_
    rw [hz]
   obtain ⟨rest,p1,p2⟩:=Iv T 1 (N c) Zd (by unfold N;omega)
   have pn:(Bw (N c) T).Perm (n::Bw (N c) T6):=by
    rw [hT] at p1
    refine p1.trans ?_
    rw [List.cons_append]
    exact List.Perm.cons n ((p2 r).symm.trans v4.symm)
   have hO6:Owned c s6 free (n::Bw (N c) T6):=by
    refine Owned.perm (h.same ?_ (fun x=>?_) ?_) pn
    .rw [h6m,v1.gl,e0 _ (fun e=>by cases e) (fun _ _ e=>by cases e)]
    .rw [h6m,v1.link,e0 _ (fun e=>by cases e) (fun _ _ e=>by cases e)]
    .rw [hs6,hs5];exact g2
   obtain ⟨s7,free7,q1,q2,q3,q4⟩:=Ke G [Gg 12 7 w (s.mm (.nd n 0)) (s.mm (.nd n 1)) (s.mm (.nd n 2))] hO6
   obtain ⟨m8,hb8,hr8⟩:=fini (s7.told 0 0 0) 7 w (s.mm (.nd n 0)) (s.mm (.nd n 1)) (s.mm (.nd n 2)) 2 (s.mm (.nd n 0)) (s.mm (.nd n 1))
   have b7:bit c tid (s7.told 0 0 0) [Gg 12 7 w (s.mm (.nd n 0)) (s.mm (.nd n 1)) (s.mm (.nd n 2))]=some ⟨s7.told 0 0 0,fin (s7.told 0 0 0) (Gg 12 7 w (s.mm (.nd n 0)) (s.mm (.nd n 1)) (s.mm (.nd n 2))) [] 2 (s.mm (.nd n 0)) (s.mm (.nd n 1)),[],false⟩:=by
    rw [Ko ha (.inl rfl) Zd]
    rfl
   refine ⟨{s7 with mm:=m8},T6,free7,hr3.trans (Runs.via b3 (Runs.via b4 (Runs.via b5 (v2.trans (Runs.via b6 (q1.trans (Runs.via b7 hr8))))))),q2.bH hb8 rfl,?_,?_,fun x f=>?_,fun _=>pn,fun e=>absurd e Zd⟩
   .exact ((by rw [h6m];exact v3:Mound c s6.mm T6 0).butFree q4).bH hb8
   .show s7.us=_
    rw [q3.us,hs6,hs5]
    exact g3
   .show m8 (.nd x f)=_
    rw [hb8.nd]
    show s7.mm (.nd x f)=_
    rw [q4.2.1,h6m,v1.nd,enode]
  .obtain ⟨m4,hb4,hr4⟩:=fini s1 3 w (s.mm (.nd n 0)) (s.mm (.nd n 1)) 0 2 (s.mm (.nd n 0)) (s.mm (.nd n 1))
   refine ⟨{s1 with mm:=m4},T,free,hr3.trans (Runs.via (o:=⟨s1,fin s1 (Gg 13 3 w (s.mm (.nd n 0)) (s.mm (.nd n 1)) 0) [] 2 (s.mm (.nd n 0)) (s.mm (.nd n 1)),Cu (.nd n 1),true⟩) ?_ hr4),hO1.bH hb4 rfl,hM1.bH hb4,g3,fun x f=>?_,fun e=>absurd e Zd,fun _=>rfl⟩
   .rw [Ko ha (.inr rfl) Zd]
    show Ao c (.nd (ptr w) 1) s1 (fin s1 (Gg 13 3 w (s.mm (.nd n 0)) (s1.mm (.nd (ptr w) 1)) 0) [] 2 (s.mm (.nd n 0)) (s1.mm (.nd (ptr w) 1)))=_
    rw [hz,g1,hb1.nd,Ah (Io ha hn Zd Zd)]
   .show m4 (.nd x f)=_
    rw [hb4.nd,g1,hb1.nd]
def Yb (c:Cf) (s:St) (b:List (Int×Int)):Prop:=∃ (T:Int→List Int) (free:List Int),Owned c s free (Bw (N c) T)∧Mound c s.mm T 0∧b.Perm ((Bw (N c) T).map (kv s.mm))
theorem lI {m m':Loc→Int} (h:∀ x f,m' (.nd x f)=m (.nd x f)):kv m'=kv m:=by funext x;unfold kv;rw [h,h]
theorem Qv {T:Int→List Int} {N:Nat} {x:Int} (h:x ∈ Bw N T):∃ p,0≤p∧x ∈ T p:=by
 unfold Bw at h
 rw [List.mem_flatMap] at h
 obtain ⟨i,_,h2⟩:=h
 exact ⟨i,Zo,h2⟩
theorem gV (G:Good c tid) (ha:c.algo=0) {s:St} {b:List (Int×Int)} {op key val:Int} (h:Yb c s b) (hq:Pf op key val) (hu:s.us+1000≤1000000) :
  ∃ (s':St) (kind k v:Int),Runs c tid s [first c op key val] (s'.told kind k v) []∧((op=0∧kind=1∧k=0∧v=0)∨∃ b',mR b op key val kind k v b'∧Yb c (s'.told kind k v) b'∧s'.us≤s.us+1000):=by
 obtain ⟨T,free,hO,hM,hb⟩:=h
 rcases hq with ⟨rfl,h1,h2,h3,h4⟩|⟨hop,rfl,rfl⟩
 .have e:first c 0 key val=Dr 0 key val 0 0 0 0 0:=by unfold first;rw [if_pos ha];rfl
  rw [e]
  rcases Ww G ha key val ⟨h1,h2⟩ hu hO hM with ⟨s',r⟩|⟨s',T',free',r,o,m,u,p⟩
  .exact ⟨s',1,0,0,r,.inl ⟨rfl,rfl,rfl,rfl⟩⟩
  .refine ⟨s',0,0,0,r,.inr ⟨(key,val)::b,.inl ⟨rfl,rfl,rfl,rfl,List.Perm.refl _⟩,⟨T',free',o.told _ _ _,m,?_⟩,u⟩⟩
   exact (List.Perm.cons _ hb).trans p.symm
 .obtain ⟨fn,hfn,e⟩:∃ fn:Nat,((op=1∧fn=12)∨(op=2∧fn=13))∧first c op 0 0=Gg fn 0 0 0 0 0:=by
   rcases hop with rfl|rfl
   .exact ⟨12,.inl ⟨rfl,rfl⟩,by unfold first;rw [if_pos ha];rfl⟩
   .exact ⟨13,.inr ⟨rfl,rfl⟩,by unfold first;rw [if_pos ha];rfl⟩
  rw [e]
  rcases Wv G ha fn Zo hO hM with ⟨h0,s',r,o,m,u⟩|⟨n,r0,hT,s',T',free',r,o,m,u,hk,hp1,hp2⟩
  .have hnil:Bw (N c) T=[]:=by
    rw [List.eq_nil_iff_forall_not_mem]
    intro x hx
    obtain ⟨p,_,hp⟩:=Qv hx
    rw [cV hM h0] at hp
    cases hp
   rw [hnil] at hb
   have hb0:b=[]:=by simpa using hb
   exact ⟨s',3,0,0,r,.inr ⟨[],.inr (.inl ⟨Zo,hb0,rfl,rfl,rfl,rfl⟩),⟨T,free,o.told _ _ _,m,by rw [hnil];exact List.Perm.refl _⟩,Zo⟩⟩
  .have hnm:n ∈ Bw (N c) T:=hM.mm (p:=1) (by rw [hT];exact List.mem_cons_self ..)
   have hin:(s.mm (.nd n 0),s.mm (.nd n 1)) ∈ b:=hb.mem_iff.2 (List.mem_map.2 ⟨n,hnm,rfl⟩)
   have hle:∀ p ∈ b,s.mm (.nd n 0)≤p.1:=fun p hp=>by
    obtain ⟨x,hx,rfl⟩:=List.mem_map.1 (hb.mem_iff.1 hp)
    obtain ⟨q,hq0,hq⟩:=Qv hx
    have hins:=hM.inside hq
    have h5:=Sl hM q.toNat q Zo hins.1
    rw [hT] at h5
    exact Int.le_trans h5 (bC hM q x hq)
   rcases hfn with ⟨rfl,rfl⟩|⟨rfl,rfl⟩
   .refine ⟨s',2,_,_,r,.inr ⟨(Bw (N c) T').map (kv s.mm),.inr (.inr ⟨Zd,rfl,hin,hle,.inl ⟨rfl,?_⟩⟩),⟨T',free',o.told _ _ _,m,?_⟩,Zo⟩⟩
    .exact hb.trans ((hp1 rfl).map (kv s.mm))
    .show List.Perm _ (List.map (kv s'.mm) _)
     rw [lI hk]
   .refine ⟨s',2,_,_,r,.inr ⟨b,.inr (.inr ⟨Zd,rfl,hin,hle,.inr ⟨rfl,List.Perm.refl _⟩⟩),⟨T',free',o.told _ _ _,m,?_⟩,Zo⟩⟩
    show List.Perm _ (List.map (kv s'.mm) _)
    rw [lI hk,hp2 rfl]
    exact hb
def Row (m:Loc→Int) (i:Int):Int→List Int→Prop
 |p,[]=>ptr (m (.nd p (5+i)))=2
 |p,n::r=>ptr (m (.nd p (5+i)))=n∧Row m i n r
def Bc:Int→List Int→Int
 |d,[]=>d
 |_,a::r=>Bc a r
theorem Dp (d:Int) (A B:List Int):Bc d (A++B)=Bc (Bc d A) B:=by
 induction A generalizing d with
 |nil=>rfl
 |cons a A ih=>exact ih a
theorem Di (d:Int) (A:List Int):Bc d A=d∨Bc d A ∈ A:=by
 induction A generalizing d with
 |nil=>exact .inl rfl
 |cons a A ih=>
  rcases ih a with h|h
  .exact .inr (by show Bc a A ∈ _;rw [h];exact List.mem_cons_self ..)
  .exact .inr (List.mem_cons_of_mem _ h)
theorem Row.congr {m m':Loc→Int} {i:Int}:∀ {l:List Int} {p:Int},(∀ x ∈ p::l,ptr (m' (.nd x (5+i)))=ptr (m (.nd x (5+i))))→Row m i p l→Row m' i p l
 |[],p,he,h=>(he p (List.mem_cons_self ..)).trans h
 |n::r,p,he,h=>⟨(he p (List.mem_cons_self ..)).trans h.1,Row.congr (fun x hx=>he x (List.mem_cons_of_mem _ hx)) h.2⟩
theorem Row.tail {m:Loc→Int} {i:Int}:∀ {A B:List Int} {p:Int},Row m i p (A++B)→Row m i (Bc p A) B
 |[],_,_,h=>h
 |a::A,_,_,h=>Row.tail (A:=A) h.2
theorem Row.insert {m m':Loc→Int} {i n:Int}:∀ {A B:List Int} {p:Int},Row m i p (A++B)→(∀ x ∈ p::(A++B),x≠Bc p A→ptr (m' (.nd x (5+i)))=ptr (m (.nd x (5+i))))→
  (p::(A++B)).Nodup→ptr (m' (.nd (Bc p A) (5+i)))=n→ptr (m' (.nd n (5+i)))=ptr (m (.nd (Bc p A) (5+i)))→Row m' i p (A++n::B)
 |[],B,p,h,he,hd,h1,h2=>by
  refine ⟨h1,?_⟩
  cases B with
  |nil=>exact h2.trans h
  |cons b B=>
   refine ⟨h2.trans h.1,Row.congr (fun x hx=>he x (List.mem_cons_of_mem _ hx) (fun e=>?_)) h.2⟩
   exact (List.nodup_cons.1 hd).1 ((show x=p from e)▸hx)
 |a::A,B,p,h,he,hd,h1,h2=>by
  have hd2:=(List.nodup_cons.1 hd).2
  have hp:p≠Bc a A:=fun e=>by
   refine (List.nodup_cons.1 hd).1 ?_
   rcases Di a A with h5|h5
   .rw [e,h5];exact List.mem_cons_self ..
   .rw [e];exact List.mem_cons_of_mem _ (List.mem_append_left _ h5)
  exact ⟨(he p (List.mem_cons_self ..) hp).trans h.1,Row.insert (A:=A) h.2 (fun x hx hne=>he x (List.mem_cons_of_mem _ hx) hne) hd2 h1 h2⟩
theorem Row.first {m:Loc→Int} {i p:Int} {B:List Int} (h:Row m i p B):ptr (m (.nd p (5+i)))=B.headD 2:=by
 cases B with
 |nil=>exact h
 |cons b B=>exact h.1
theorem Nx (ha:c.algo≠0):c.wI=5+c.lv:=by unfold Cf.wI;rw [if_neg ha]
theorem Hh (ha:c.algo≠0):c.sl=2*c.lv+2:=by unfold Cf.sl;rw [if_neg ha]
theorem Jl (ha:c.algo≠0):c.sE=2:=by unfold Cf.sE;rw [if_neg ha]
theorem Cm (ha:c.algo≠0) {n i:Int} (h:1≤n∧n≤c.ns) (h0:0≤i) (h1:i<c.lv):c.has (.nd n (5+i))=true:=Ov h.1 h.2 Zo (by rw [Nx ha];omega)
theorem Cl (G:Good c tid) (ha:c.algo≠0) {n f:Int} (h:1≤n∧n≤c.ns) (h0:0≤f) (h1:f≤5):c.has (.nd n f)=true:=Ov h.1 h.2 Zo (by rw [Nx ha];have:=G.lv;omega)
theorem Gj {i:Int} (h0:0≤i) (h1:i<c.lv):c.row i=true:=decide_eq_true ⟨h0,h1⟩
theorem aM (G:Good c tid) (ha:c.algo≠0):c.lO (c.addr (.nd 1 5))=.nd 1 5:=by
 have h1:=G.th
 have h2:=G.ns
 have hl:=G.lv
 have hs:=Jl ha
 have hw:=Nx ha
 have hsl:=Es G
 have hmul:0≤c.th*c.sl:=Int.mul_nonneg Zo Zo
 have hmul2:2*c.wI≤c.ns*c.wI:=Int.mul_le_mul_of_nonneg_right Zo Zo
 obtain ⟨X,hX⟩:∃ X,X=c.th*c.sl:=⟨_,rfl⟩
 obtain ⟨Y,hY⟩:∃ Y,Y=c.ns*c.wI:=⟨_,rfl⟩
 show c.lO (c.nA+(1-1)*c.wI+5)=_
 rw [show ((1:Int)-1)*c.wI=0 by rw [Int.sub_self,Int.zero_mul]]
 unfold Cf.lO Cf.tA Cf.nA Cf.lK Cf.hZ
 rw [← hX,← hY]
 rw [← hX] at hmul
 rw [← hY] at hmul2
 rw [if_neg Zo,if_neg Zo,if_neg Zo,if_pos Zo]
 have e1:8+X+c.ns+0+5-(8+X+c.ns)=5:=Zo
 rw [e1]
 have e2:(5:Int) / c.wI=0:=Int.ediv_eq_zero_of_lt Zo Zo
 have e3:(5:Int) % c.wI=5:=Int.emod_eq_of_lt Zo Zo
 rw [e2,e3]
 rfl
def Dq (pc:Nat) (o i p w x:Int):Fr:={fn:=20,pc:=pc,r0:=o,r1:=i,r2:=p,r3:=w,r4:=x}
theorem En (ha:c.algo=1) {s:St} {pc:Nat} {o i p w x:Int} {fs:List Fr}:bit c tid s (Dq pc o i p w x::fs)=Jg c tid s (Dq pc o i p w x) fs:=by
 show (if c.algo=0 then _ else if c.algo=1 then Er c tid s _ fs else _)=_
 rw [if_neg Zo,if_pos ha]
 unfold Er
 rw [if_pos (by show 20<21∨_;omega)]
 rfl
structure Noted (i p w:Int) (s s':St):Prop where
 us:s'.us=s.us
 rt:s'.rt=s.rt
 pred:∀ j,s'.pred j=if j=i then p else s.pred j
 wrd:∀ j,s'.wrd j=if j=i then w else s.wrd j
 succ:∀ j,s'.succ j=if j=i then ptr w else s.succ j
theorem Pk (G:Good c tid) (ha:c.algo=1) {s:St} {o i p y w0 x0:Int} (fs:List Fr) (hfs:fs.length≤40) (hi0:0≤i) (hi1:i<c.lv) (hp:1≤p∧p≤c.ns) (hy:1≤y∧y≤c.ns) (hy2:y≠2)
  (h:ptr (s.mm (.nd p (5+i)))=y) (hm:mark (s.mm (.nd p (5+i)))=false) :
  ∃ m',ButHaz s.mm m'∧Runs c tid s (Dq 1 o i p w0 x0::fs) {s with mm:=m'} (Dq (if mark (s.mm (.nd y (5+i))) then 6 else 7) o i p (s.mm (.nd p (5+i))) (s.mm (.nd y (5+i)))::fs):=by
 have hsl:=Hh (c:=c) Zo
 obtain ⟨w,hw⟩:∃ w,s.mm (.nd p (5+i))=w:=⟨_,rfl⟩
 rw [hw] at h hm ⊢
 have hlk:=Cm (c:=c) Zo hp hi0 hi1
 have hly:=Cm (c:=c) Zo hy hi0 hi1
 have hz0:=Gf (c:=c) G.me.1 G.me.2 (i:=2*i) Zo Zo
 have hz1:=Gf (c:=c) G.me.1 G.me.2 (i:=2*i+1) Zo Zo
 have b1:bit c tid s (Dq 1 o i p w0 x0::fs)=some ⟨s.put (.haz tid (2*i)) p,Dq 2 o i p w0 x0::fs,[],true⟩:=by
  rw [En ha]
  exact Ah hz0
 obtain ⟨s1,hs1⟩:∃ s1,s1=s.put (.haz tid (2*i)) p:=⟨_,rfl⟩
 rw [← hs1] at b1
 have h1:ButHaz s.mm s1.mm:=by rw [hs1];exact ButHaz.upd _ _ _ _
 have b2:bit c tid s1 (Dq 2 o i p w0 x0::fs)=some ⟨s1,Dq 3 o i p w x0::fs,Cu (.nd p (5+i)),true⟩:=by
  rw [En ha]
  show Ki c (.nd p (5+i)) s1 (Dq 2 o i p w0 x0) fs (s1.mm (.nd p (5+i)))=_
  unfold Ki
  rw [h1.nd,hw,if_neg (by rw [hm];decide),if_neg Zo,Ah hlk]
  rfl
 have b3:bit c tid s1 (Dq 3 o i p w x0::fs)=some ⟨s1.put (.haz tid (2*i+1)) y,Dq 4 o i p w x0::fs,[],true⟩:=by
  rw [En ha]
  show Ao c (.haz tid (2*i+1)) (s1.put (.haz tid (2*i+1)) (ptr w)) _=_
  rw [h,Ah hz1]
  rfl
 obtain ⟨s3,hs3⟩:∃ s3,s3=s1.put (.haz tid (2*i+1)) y:=⟨_,rfl⟩
 rw [← hs3] at b3
 have h3:ButHaz s.mm s3.mm:=by rw [hs3];exact h1.trans (ButHaz.upd _ _ _ _)
 have b4:bit c tid s3 (Dq 4 o i p w x0::fs)=some ⟨s3,Dq 5 o i p w x0::fs,Cu (.nd p (5+i)),true⟩:=by
  rw [En ha]
  show (if s3.mm (.nd p (5+i))≠w then _ else Ao c (.nd p (5+i)) s3 _)=_
  rw [if_neg (by rw [h3.nd,hw];simp),Ah hlk]
  rfl
 have b5:bit c tid s3 (Dq 5 o i p w x0::fs)=some ⟨s3,Dq (if mark (s.mm (.nd y (5+i))) then 6 else 7) o i p w (s.mm (.nd y (5+i)))::fs,Cu (.nd y (5+i)),true⟩:=by
  rw [En ha]
  show Ao c (.nd (ptr w) (5+i)) s3 (Dq (if mark (s3.mm (.nd (ptr w) (5+i))) then 6 else 7) o i p w (s3.mm (.nd (ptr w) (5+i)))::fs)=_
  rw [h,h3.nd,Ah hly]
 refine ⟨s3.mm,h3,Runs.via b1 (Runs.via b2 (Runs.via b3 (Runs.via b4 (Runs.via b5 ?_))))⟩
 have e:({s with mm:=s3.mm}:St)=s3:=by rw [hs3,hs1];rfl
 rw [e]
 exact Runs.refl _ _
def cP (s:St) (i p w:Int):St:={s with pred:=upd s.pred i p,wrd:=upd s.wrd i w,succ:=upd s.succ i (ptr w)}
theorem dJ (s:St) (m':Loc→Int) (i p w:Int):Noted i p w s (cP {s with mm:=m'} i p w):=⟨rfl,rfl,fun _=>rfl,fun _=>rfl,fun _=>rfl⟩
theorem Sj (G:Good c tid) (ha:c.algo=1) {o i:Int} (fs:List Fr) (hfs:fs.length≤40) (hi0:0≤i) (hi1:i<c.lv):∀ (A B:List Int) (s:St) (p w0 x0:Int),Row s.mm i p (A++B)→
  (∀ x ∈ p::(A++B),mark (s.mm (.nd x (5+i)))=false∧1≤x∧x≤c.ns)→2 ∉ A++B→(∀ x ∈ A,s.mm (.nd x 0)<o)→(∀ x ∈ B.head?,o≤s.mm (.nd x 0))→
  ∃ s' x',ButHaz s.mm s'.mm∧Noted i (Bc p A) (s.mm (.nd (Bc p A) (5+i))) s s'∧
   Runs c tid s (Dq 1 o i p w0 x0::fs) (if i=0 then s'.told 0 0 0 else s') (if i=0 then fs else Dq 1 o (i-1) (Bc p A) (s.mm (.nd (Bc p A) (5+i))) x'::fs):=by
 intro A
 induction A with
 |nil=>
  intro B s p w0 x0 h hc h2 hlo hhi
  have hp:=hc p (List.mem_cons_self ..)
  have settle:∀ (m':Loc→Int) (pc:Nat) (x:Int),ButHaz s.mm m'→Runs c tid s (Dq 1 o i p w0 x0::fs) (Jh {s with mm:=m'} (Dq pc o i p (s.mm (.nd p (5+i))) x)) (Ie (Dq pc o i p (s.mm (.nd p (5+i))) x) fs)→
    ∃ s' x',ButHaz s.mm s'.mm∧Noted i p (s.mm (.nd p (5+i))) s s'∧Runs c tid s (Dq 1 o i p w0 x0::fs) (if i=0 then s'.told 0 0 0 else s') (if i=0 then fs else Dq 1 o (i-1) p (s.mm (.nd p (5+i))) x'::fs):=by
   intro m' pc x hb hr
   exact ⟨cP {s with mm:=m'} i p (s.mm (.nd p (5+i))),x,hb,dJ _ _ _ _ _,hr⟩
  cases B with
  |nil=>
   have hz:ptr (s.mm (.nd p (5+i)))=2:=h
   have hz0:=Gf (c:=c) G.me.1 G.me.2 (i:=2*i) Zo (by rw [Hh (c:=c) Zo];omega)
   refine settle (upd s.mm (.haz tid (2*i)) p) 2 x0 (ButHaz.upd _ _ _ _) (Runs.via (o:=⟨s.put (.haz tid (2*i)) p,Dq 2 o i p w0 x0::fs,[],true⟩) ?_ (Runs.via (o:=⟨_,_,Cu (.nd p (5+i)),true⟩) ?_ (Runs.refl _ _)))
   .rw [En ha]
    exact Ah hz0
   .rw [En ha]
    show Ki c (.nd p (5+i)) (s.put (.haz tid (2*i)) p) (Dq 2 o i p w0 x0) fs ((s.put (.haz tid (2*i)) p).mm (.nd p (5+i)))=_
    unfold Ki
    rw [Bo _ _ (fun e=>by cases e),if_neg (by rw [hp.1];decide),if_pos hz,if_pos (show c.row (Dq 2 o i p w0 x0).r1=true from Gj hi0 hi1),Ah (Cm (c:=c) Zo hp.2 hi0 hi1)]
    rfl
  |cons y B=>
   have hy:=hc y Zs
   obtain ⟨m',hb,hr⟩:=Pk G ha (s:=s) (o:=o) (i:=i) (p:=p) (y:=y) (w0:=w0) (x0:=x0) fs hfs hi0 hi1 hp.2 hy.2 (fun e=>h2 (by simp [e])) h.1 hp.1
   rw [if_neg (by rw [hy.1];decide)] at hr
   refine settle m' 7 (s.mm (.nd y (5+i))) hb (hr.trans (Runs.via (o:=⟨_,_,Cu (.nd y 0),true⟩) ?_ (Runs.refl _ _)))
   rw [En ha]
   show (if ({s with mm:=m'}:St).mm (.nd (ptr (s.mm (.nd p (5+i)))) 0)≥o then (if c.row i then Ao c (.nd (ptr (s.mm (.nd p (5+i)))) 0) _ _ else none) else _)=_
   rw [h.1,if_pos (by show m' _≥o;rw [hb.nd];exact hhi y Zs),if_pos (Gj hi0 hi1),Ah (Cl G Zo hy.2 Zd Zd)]
   rfl
 |cons a A ih=>
  intro B s p w0 x0 h hc h2 hlo hhi
  have hp:=hc p (List.mem_cons_self ..)
  have hy:=hc a Zs
  obtain ⟨m',hb,hr⟩:=Pk G ha (s:=s) (o:=o) (i:=i) (p:=p) (y:=a) (w0:=w0) (x0:=x0) fs hfs hi0 hi1 hp.2 hy.2 (fun e=>h2 (by simp [e])) h.1 hp.1
  rw [if_neg (by rw [hy.1];decide)] at hr
  have b7:bit c tid {s with mm:=m'} (Dq 7 o i p (s.mm (.nd p (5+i))) (s.mm (.nd a (5+i)))::fs)=some ⟨{s with mm:=m'},Dq 1 o i a (s.mm (.nd p (5+i))) (s.mm (.nd a (5+i)))::fs,Cu (.nd a 0),true⟩:=by
   rw [En ha]
   show (if ({s with mm:=m'}:St).mm (.nd (ptr (s.mm (.nd p (5+i)))) 0)≥o then _ else Ao c (.nd (ptr (s.mm (.nd p (5+i)))) 0) _ (Dq 1 o i (ptr (s.mm (.nd p (5+i)))) (s.mm (.nd p (5+i))) (s.mm (.nd a (5+i)))::fs))=_
   have:=hlo a Zs
   rw [h.1,if_neg (by show ¬ m' _≥o;rw [hb.nd];omega),Ah (Cl G Zo hy.2 Zd Zd)]
  obtain ⟨s',x',k1,k2,k3⟩:=ih B {s with mm:=m'} a (s.mm (.nd p (5+i))) (s.mm (.nd a (5+i))) (Row.congr (fun x _=>by show ptr (m' _)=_;rw [hb.nd]) h.2) (fun x hx=>by show mark (m' _)=false∧_;rw [hb.nd];exact hc x (List.mem_cons_of_mem _ hx)) (fun e=>h2 (by simp at e ⊢;exact .inr e)) (fun x hx=>by show m' _<o;rw [hb.nd];exact hlo x (List.mem_cons_of_mem _ hx)) (fun x hx=>by show o≤m' _;rw [hb.nd];exact hhi x hx)
  have e1:({s with mm:=m'}:St).mm (.nd (Bc a A) (5+i))=s.mm (.nd (Bc a A) (5+i)):=hb.nd _ _
  rw [e1] at k2 k3
  exact ⟨s',x',hb.trans k1,⟨k2.us,k2.rt,k2.pred,k2.wrd,k2.succ⟩,hr.trans (Runs.via b7 k3)⟩
def fl (tl:Int→Int) (i:Int) (l:List Int):List Int:=l.filter fun x=>decide (i<tl x)
theorem Hp (tl:Int→Int) (i:Int) (A B:List Int):fl tl i (A++B)=fl tl i A++fl tl i B:=List.filter_append ..
theorem fl_mem {tl:Int→Int} {i:Int} {l:List Int} {x:Int}:x ∈ fl tl i l↔x ∈ l∧i<tl x:=by unfold fl;rw [List.mem_filter,decide_eq_true_iff]
theorem oC {tl:Int→Int} {i j:Int} {l:List Int} {x:Int} (h:x ∈ fl tl i l) (hj:j≤i):x ∈ fl tl j l:=fl_mem.2 ⟨(fl_mem.1 h).1,by have:=(fl_mem.1 h).2;omega⟩
structure Founds (m:Loc→Int) (P:Int→Int) (k:Int) (s s':St):Prop where
 haz:ButHaz s.mm s'.mm
 us:s'.us=s.us
 rt:s'.rt=s.rt
 pred:∀ j,0≤j→j<k→s'.pred j=P j
 wrd:∀ j,0≤j→j<k→s'.wrd j=m (.nd (P j) (5+j))
 succ:∀ j,0≤j→j<k→s'.succ j=ptr (m (.nd (P j) (5+j)))
 far:∀ j,k≤j→s'.pred j=s.pred j∧s'.wrd j=s.wrd j∧s'.succ j=s.succ j
theorem oH (G:Good c tid) (ha:c.algo=1) {o:Int} {tl:Int→Int} {A B:List Int} {m:Loc→Int} (fs:List Fr) (hfs:fs.length≤40) (h2:2 ∉ A++B) (hA:∀ x ∈ A,m (.nd x 0)<o) (hB:∀ x ∈ B,o≤m (.nd x 0)):∀ (i:Nat) (s:St) (p w0 x0:Int),ButHaz m s.mm→(i:Int)<c.lv→
  (∀ j:Nat,j≤i→Row m j 1 (fl tl j A++fl tl j B)∧∀ x ∈ 1::(fl tl j A++fl tl j B),mark (m (.nd x (5+j)))=false∧1≤x∧x≤c.ns)→(p=1∨p ∈ fl tl i A)→
  ∃ s',Founds m (fun j=>Bc 1 (fl tl j A)) (i+1) s s'∧Runs c tid s (Dq 1 o i p w0 x0::fs) (s'.told 0 0 0) fs:=by
 intro i
 induction i with
 |zero=>
  intro s p w0 x0 hb hi hr hp
  obtain ⟨A1,e1,e2,e3,e4⟩:∃ A1,Bc p A1=Bc 1 (fl tl (0:Nat) A)∧Row m (0:Nat) p (A1++fl tl (0:Nat) B)∧(∀ x ∈ p::(A1++fl tl (0:Nat) B),x ∈ 1::(fl tl (0:Nat) A++fl tl (0:Nat) B))∧(∀ x ∈ A1,x ∈ fl tl (0:Nat) A):=by
   rcases hp with rfl|hp
   .exact ⟨_,rfl,(hr 0 (Nat.le_refl _)).1,fun x hx=>hx,fun x hx=>hx⟩
   .obtain ⟨X,Y,hXY⟩:=List.append_of_mem hp
    refine ⟨Y,by rw [hXY,Dp];rfl,?_,fun x hx=>?_,fun x hx=>by rw [hXY];simp [hx]⟩
    .have:=(hr 0 (Nat.le_refl _)).1
     rw [hXY,List.append_assoc] at this
     exact (Row.tail (A:=X) this).2
    .rw [hXY]
     simp only [List.mem_cons,List.mem_append] at hx ⊢
     rcases hx with h|h|h
     .exact .inr (.inl (.inr (.inl h)))
     .exact .inr (.inl (.inr (.inr h)))
     .exact .inr (.inr h)
  have hc:=(hr 0 (Nat.le_refl _)).2
  obtain ⟨s',x',k1,k2,k3⟩:=Sj G ha (o:=o) (i:=((0:Nat):Int)) fs hfs Zo hi A1 (fl tl (0:Nat) B) s p w0 x0 (Row.congr (fun x _=>by rw [hb.nd]) e2) (fun x hx=>by rw [hb.nd];exact hc x (e3 x hx)) (fun hx=>h2 (by
    rcases List.mem_append.1 hx with h|h
    .exact List.mem_append_left _ (fl_mem.1 (e4 _ h)).1
    .exact List.mem_append_right _ (fl_mem.1 h).1)) (fun x hx=>by rw [hb.nd];exact hA x (fl_mem.1 (e4 x hx)).1) (fun x hx=>by rw [hb.nd];exact hB x (fl_mem.1 (List.mem_of_mem_head? hx)).1)
  rw [hb.nd,e1] at k2
  rw [if_pos (by rfl),if_pos (by rfl)] at k3
  refine ⟨s',⟨k1,k2.us,k2.rt,fun j a b=>?_,fun j a b=>?_,fun j a b=>?_,fun j a=>⟨?_,?_,?_⟩⟩,k3⟩
  .obtain rfl:j=0:=Zo
   rw [k2.pred];rfl
  .obtain rfl:j=0:=Zo
   rw [k2.wrd];rfl
  .obtain rfl:j=0:=Zo
   rw [k2.succ];rfl
  .rw [k2.pred,if_neg Zo]
  .rw [k2.wrd,if_neg Zo]
  .rw [k2.succ,if_neg Zo]
 |succ i ih=>
  intro s p w0 x0 hb hi hr hp
  obtain ⟨A1,e1,e2,e3,e4⟩:∃ A1,Bc p A1=Bc 1 (fl tl (i+1:Nat) A)∧Row m (i+1:Nat) p (A1++fl tl (i+1:Nat) B)∧(∀ x ∈ p::(A1++fl tl (i+1:Nat) B),x ∈ 1::(fl tl (i+1:Nat) A++fl tl (i+1:Nat) B))∧(∀ x ∈ A1,x ∈ fl tl (i+1:Nat) A):=by
   rcases hp with rfl|hp
   .exact ⟨_,rfl,(hr (i+1) (Nat.le_refl _)).1,fun x hx=>hx,fun x hx=>hx⟩
   .obtain ⟨X,Y,hXY⟩:=List.append_of_mem hp
    refine ⟨Y,by rw [hXY,Dp];rfl,?_,fun x hx=>?_,fun x hx=>by rw [hXY];simp [hx]⟩
    .have:=(hr (i+1) (Nat.le_refl _)).1
     rw [hXY,List.append_assoc] at this
     exact (Row.tail (A:=X) this).2
    .rw [hXY]
     simp only [List.mem_cons,List.mem_append] at hx ⊢
     rcases hx with h|h|h
     .exact .inr (.inl (.inr (.inl h)))
     .exact .inr (.inl (.inr (.inr h)))
     .exact .inr (.inr h)
  have hc:=(hr (i+1) (Nat.le_refl _)).2
  obtain ⟨s1,x1,k1,k2,k3⟩:=Sj G ha (o:=o) (i:=((i+1:Nat):Int)) fs hfs Zo hi A1 (fl tl (i+1:Nat) B) s p w0 x0 (Row.congr (fun x _=>by rw [hb.nd]) e2) (fun x hx=>by rw [hb.nd];exact hc x (e3 x hx)) (fun hx=>h2 (by
    rcases List.mem_append.1 hx with h|h
    .exact List.mem_append_left _ (fl_mem.1 (e4 _ h)).1
    .exact List.mem_append_right _ (fl_mem.1 h).1)) (fun x hx=>by rw [hb.nd];exact hA x (fl_mem.1 (e4 x hx)).1) (fun x hx=>by rw [hb.nd];exact hB x (fl_mem.1 (List.mem_of_mem_head? hx)).1)
  rw [hb.nd,e1] at k2
  rw [hb.nd,e1] at k3
  rw [if_neg Zo,if_neg Zo] at k3
  obtain ⟨s',q1,q2⟩:=ih s1 (Bc 1 (fl tl (i+1:Nat) A)) (m (.nd (Bc 1 (fl tl (i+1:Nat) A)) (5+(i+1:Nat)))) x1 (hb.trans k1) Zo (fun j hj=>hr j Zo) (by
   rcases Di 1 (fl tl (i+1:Nat) A) with h|h
   .exact .inl h
   .exact .inr (oC h Zo))
  rw [show ((i+1:Nat):Int)-1=i by omega] at k3
  have hj:∀ j:Int,j<((i+1:Nat):Int)+1→¬ j<(i:Int)+1→j=((i+1:Nat):Int):=fun j a b=>Zo
  refine ⟨s',⟨k1.trans q1.haz,q1.us.trans k2.us,q1.rt.trans k2.rt,fun j a b=>?_,fun j a b=>?_,fun j a b=>?_,fun j a=>⟨?_,?_,?_⟩⟩,k3.trans q2⟩
  .by_cases h:j<(i:Int)+1
   .exact q1.pred j a h
   .obtain rfl:=hj j b h
    rw [(q1.far _ Zo).1,k2.pred,if_pos rfl]
  .by_cases h:j<(i:Int)+1
   .exact q1.wrd j a h
   .obtain rfl:=hj j b h
    rw [(q1.far _ Zo).2.1,k2.wrd,if_pos rfl]
  .by_cases h:j<(i:Int)+1
   .exact q1.succ j a h
   .obtain rfl:=hj j b h
    rw [(q1.far _ Zo).2.2,k2.succ,if_pos rfl]
  .rw [(q1.far j Zo).1,k2.pred,if_neg Zo]
  .rw [(q1.far j Zo).2.1,k2.wrd,if_neg Zo]
  .rw [(q1.far j Zo).2.2,k2.succ,if_neg Zo]
theorem iP (G:Good c tid) (ha:c.algo=1) {o:Int} {tl:Int→Int} {A B:List Int} (s:St) (fs:List Fr) (hfs:fs.length≤40) (h2:2 ∉ A++B) (hA:∀ x ∈ A,s.mm (.nd x 0)<o) (hB:∀ x ∈ B,o≤s.mm (.nd x 0))
  (hr:∀ j:Nat,(j:Int)<c.lv→Row s.mm j 1 (fl tl j A++fl tl j B)∧∀ x ∈ 1::(fl tl j A++fl tl j B),mark (s.mm (.nd x (5+j)))=false∧1≤x∧x≤c.ns) :
  ∃ s',Founds s.mm (fun j=>Bc 1 (fl tl j A)) c.lv s s'∧Runs c tid s ({fn:=20,pc:=0,r0:=o}::fs) (s'.told 0 0 0) fs:=by
 have hlv:=G.lv
 obtain ⟨s',q1,q2⟩:=oH G ha (m:=s.mm) fs hfs h2 hA hB (c.lv-1).toNat s 1 0 0 (ButHaz.refl _) Zo (fun j hj=>hr j Zo) (.inl rfl)
 rw [show (((c.lv-1).toNat:Nat):Int)=c.lv-1 by omega] at q1 q2
 rw [show c.lv-1+1=c.lv by omega] at q1
 refine ⟨s',q1,Runs.via (o:=⟨s,Dq 1 o (c.lv-1) 1 0 0::fs,[],false⟩) ?_ q2⟩
 show bit c tid s (Dq 0 o 0 0 0 0::fs)=_
 rw [En ha]
 rfl
def frI (fn pc:Nat) (k v n t o r w x:Int):Fr:={fn:=fn,pc:=pc,r0:=k,r1:=v,r2:=n,r3:=t,r4:=o,r5:=r,r6:=w,r7:=x}
theorem fA (ha:c.algo=1) {s:St} {f:Fr} {fs:List Fr} (h1:21≤f.fn) (h2:f.fn≤23) (hp:f.pc≠90):bit c tid s (f::fs)=if f.fn=21 then Fs c s f fs else Ey c s f fs:=by
 show (if c.algo=0 then _ else if c.algo=1 then Er c tid s f fs else _)=_
 rw [if_neg Zo,if_pos ha]
 unfold Er
 rw [if_neg Zo,if_neg hp]
theorem Hu (ha:c.algo=1) {s:St} {pc:Nat} {k v n t o r w x:Int} {fs:List Fr} (hp:pc≠90):bit c tid s (frI 21 pc k v n t o r w x::fs)=Fs c s (frI 21 pc k v n t o r w x) fs:=
 (fA ha (by show 21≤21;decide) (by show 21≤23;decide) hp).trans (if_pos rfl)
theorem Ri (most:Nat) (b:Int) (h:1≤most):∀ k,k≤most→1≤Dz most b k∧Dz most b k≤most:=by
 intro k
 induction k with
 |zero=>intro _;unfold Dz;omega
 |succ k ih=>
  intro hk
  unfold Dz
  split
  .omega
  .exact ih Zo
theorem bL (G:Good c tid) (s:St):1≤drawn c s∧drawn c s≤c.lv:=by
 have hl:=G.lv
 have:=Ri c.lv.toNat (take c s) Zo c.lv.toNat (Nat.le_refl _)
 unfold drawn
 omega
theorem Sf (G:Good c tid) (fn:Nat) (hf:(c.algo=1∧fn=21)∨(c.algo=2∧fn=31)) (hb:∀ (s:St) (pc:Nat) (k v n t o r w x:Int) (fs:List Fr),pc≤2→bit c tid s (frI fn pc k v n t o r w x::fs)=Kx c s (frI fn pc k v n t o r w x) fs) {s:St} {free us:List Int} (k v:Int) (kr:0≤k∧k<4294967296)
  (ht:0≤s.mm (.gl 3)∧s.mm (.gl 3)+1<4294967296) (hu:s.us<1000000) (h:Owned c s free us) :
  (∃ s':St,Runs c tid s [frI fn 0 k v 0 0 0 0 0 0] (s'.told 1 0 0) [])∨
  ∃ (s':St) (free':List Int) (n t r:Int),Runs c tid s [frI fn 0 k v 0 0 0 0 0 0] s' [frI fn 3 k v n t (k*4294967296+s.mm (.gl 3)) r 0 0]∧Owned c s' free' (n::us)∧s'.us=s.us+1∧1≤t∧t≤c.lv∧
   s'.mm (.gl 3)=s.mm (.gl 3)+1∧s'.mm (.gl 1)=s.mm (.gl 1)∧∀ n f,s'.mm (.nd n f)=s.mm (.nd n f):=by
 have call0:∀ (s:St) (r:Int),bit c tid s [frI fn 0 k v 0 0 0 r 0 0]=some ⟨s,[{fn:=1,pc:=0},frI fn 1 k v 0 0 0 r 0 0],[],false⟩:=fun s r=>by
  rw [hb _ _ _ _ _ _ _ _ _ _ _ Zd]
  rfl
 have got:∀ (s:St) (r n:Int),s.ret0=n→n≠0→bit c tid s [frI fn 1 k v 0 0 0 r 0 0]=some ⟨s,[frI fn 2 k v n 0 0 r 0 0],[],false⟩:=fun s r n h0 h1=>by
  rw [hb _ _ _ _ _ _ _ _ _ _ _ Zd]
  show (if s.ret0≠0 then ok s [frI fn 2 k v s.ret0 0 0 r 0 0] else _)=_
  rw [if_pos (by rw [h0];exact h1),h0]
  rfl
 have full:∀ (s:St) (r:Int),s.ret0=0→¬ (r=0∧s.rt.length>0)→∃ s':St,Runs c tid s [frI fn 1 k v 0 0 0 r 0 0] (s'.told 1 0 0) []:=fun s r h0 h1=>by
  obtain ⟨m',_,h2⟩:=Ic (c:=c) (tid:=tid) G s (frI fn 1 k v 0 0 0 r 0 0) 1 0 0 (by
   rcases hf with ⟨e,rfl⟩|⟨e,rfl⟩
   .exact .inr (.inl ⟨e,by show 21≤21;decide,by show 21≤23;decide⟩)
   .exact .inr (.inr ⟨e,by show 31≤31;decide,by show 31≤33;decide⟩))
  refine ⟨{s with mm:=m'},Runs.via (o:=⟨s,fin s (frI fn 1 k v 0 0 0 r 0 0) [] 1 0 0,[],false⟩) ?_ h2⟩
  rw [hb _ _ _ _ _ _ _ _ _ _ _ Zd]
  show (if s.ret0≠0 then _ else if r=0∧s.rt.length>0 then _ else ok s (fin s (frI fn 1 k v s.ret0 0 0 r 0 0) [] 1 0 0))=_
  rw [if_neg (by rw [h0];simp),if_neg h1,h0]
  rfl
 have tick:∀ (s1:St) (n r:Int),s1.us=s.us→s1.mm (.gl 3)=s.mm (.gl 3)→bit c tid s1 [frI fn 2 k v n 0 0 r 0 0]=some ⟨{s1.put (.gl 3) (s.mm (.gl 3)+1) with us:=s.us+1},[frI fn 3 k v n (drawn c s1) (k*4294967296+s.mm (.gl 3)) r 0 0],[],true⟩:=fun s1 n r h0 h1=>by
  rw [hb _ _ _ _ _ _ _ _ _ _ _ Zd]
  show (if s1.us≥1000000 then none else Ao c (.gl 3) {s1.put (.gl 3) (u64 (s1.mm (.gl 3)+1)) with us:=s1.us+1} [frI fn 3 k v n (drawn c s1) (order k (s1.mm (.gl 3))) r 0 0])=_
  have e1:u64 (s.mm (.gl 3)+1)=s.mm (.gl 3)+1:=by unfold u64;omega
  have e2:order k (s.mm (.gl 3))=k*4294967296+s.mm (.gl 3):=by unfold order u32;omega
  rw [h1,h0,e1,e2,if_neg Zo,Ah (Cw 3 Zd Zd)]
  rfl
 have done:∀ (s1:St) (free':List Int) (n r:Int),Owned c s1 free' (n::us)→Kept s s1→ButFree s.mm s1.mm→Runs c tid s [frI fn 0 k v 0 0 0 0 0 0] (s1.told n 0 0) [frI fn 1 k v 0 0 0 r 0 0]→
   ∃ (s':St) (free':List Int) (n t r:Int),Runs c tid s [frI fn 0 k v 0 0 0 0 0 0] s' [frI fn 3 k v n t (k*4294967296+s.mm (.gl 3)) r 0 0]∧Owned c s' free' (n::us)∧s'.us=s.us+1∧1≤t∧t≤c.lv∧
   s'.mm (.gl 3)=s.mm (.gl 3)+1∧s'.mm (.gl 1)=s.mm (.gl 1)∧∀ n f,s'.mm (.nd n f)=s.mm (.nd n f):=by
  intro s1 free' n r o1 k1 b1 r1
  have hn:=o1.pos (n:=n) Zs
  have hdr:=bL G (s1.told n 0 0)
  refine ⟨_,free',n,drawn c (s1.told n 0 0),r,r1.trans (Runs.via (got (s1.told n 0 0) r n rfl Zo) (Runs.via (tick (s1.told n 0 0) n r k1.us (b1.1 3 Zd)) (Runs.refl _ _))),?_,rfl,hdr.1,hdr.2,?_,?_,fun x f=>?_⟩
  .refine o1.same ?_ (fun x=>?_) rfl
   .show upd s1.mm (.gl 3) (s.mm (.gl 3)+1) (.gl 0)=_
    exact By _ _ (fun e=>by injection e with e;exact absurd e Zd)
   .show upd s1.mm (.gl 3) (s.mm (.gl 3)+1) (.link x)=_
    exact By _ _ (fun e=>by cases e)
  .show upd s1.mm (.gl 3) (s.mm (.gl 3)+1) (.gl 3)=_
   exact Fi _ _ _
  .show upd s1.mm (.gl 3) (s.mm (.gl 3)+1) (.gl 1)=_
   rw [By _ _ (fun e=>by injection e with e;exact absurd e Zd)]
   exact b1.1 1 Zd
  .show upd s1.mm (.gl 3) (s.mm (.gl 3)+1) (.nd x f)=_
   rw [By _ _ (fun e=>by cases e)]
   exact b1.2.1 x f
 cases free with
 |cons n free=>
  obtain ⟨s1,r1,o1,k1,b1,_⟩:=Kk G [frI fn 1 k v 0 0 0 0 0 0] h
  exact .inr (done s1 free n 0 o1 k1 b1 (Runs.via (call0 s 0) r1))
 |nil=>
  have r1:=Mc (c:=c) (tid:=tid) (s:=s) [frI fn 1 k v 0 0 0 0 0 0] h
  by_cases hr:s.rt.length>0
  .obtain ⟨s2,free2,r2,o2,k2,b2⟩:=Yt G [frI fn 0 k v 0 0 0 1 0 0] (by show 1≤49;decide) (s.told 0 0 0) [] us (h.told 0 0 0)
   have bsc:∀ s0:St,s0.ret0=0→s0.rt.length>0→bit c tid s0 [frI fn 1 k v 0 0 0 0 0 0]=some ⟨s0,[{fn:=6,pc:=0},frI fn 0 k v 0 0 0 1 0 0],[],false⟩:=fun s0 h0 hr=>by
    rw [hb _ _ _ _ _ _ _ _ _ _ _ Zd]
    show (if s0.ret0≠0 then _ else if (0:Int)=0∧s0.rt.length>0 then call s0 (frI fn 1 k v s0.ret0 0 0 1 0 0) [] 0 {fn:=6,pc:=0} else _)=_
    rw [if_neg (by rw [h0];simp),if_pos ⟨rfl,hr⟩,h0]
    rfl
   have r3:=Runs.via (call0 s 0) (r1.trans (Runs.via (bsc (s.told 0 0 0) rfl hr) r2))
   cases free2 with
   |cons n free=>
    obtain ⟨s4,r4,o4,k4,b4,_⟩:=Kk G [frI fn 1 k v 0 0 0 1 0 0] (o2.told 0 0 0)
    exact .inr (done s4 free n 1 o4 ⟨k4.us.trans k2.us,k4.pred.trans k2.pred,k4.succ.trans k2.succ,k4.wrd.trans k2.wrd⟩ (b2.trans b4) (r3.trans (Runs.via (call0 _ 1) r4)))
   |nil=>
    have r4:=Mc (c:=c) (tid:=tid) (s:=s2.told 0 0 0) [frI fn 1 k v 0 0 0 1 0 0] (o2.told 0 0 0)
    obtain ⟨s5,r5⟩:=full ((s2.told 0 0 0).told 0 0 0) 1 rfl Zo
    exact .inl ⟨s5,r3.trans (Runs.via (call0 _ 1) (r4.trans r5))⟩
  .obtain ⟨s5,r5⟩:=full (s.told 0 0 0) 0 rfl (fun e=>hr e.2)
   exact .inl ⟨s5,Runs.via (call0 s 0) (r1.trans r5)⟩
structure Lk (m m':Loc→Int) (n:Int) (P S:Int→Int) (t j:Int):Prop where
 same:∀ x,(∀ i,0≤i→i<t→x≠.nd n (5+i))→(∀ i,0≤i→i<j→x≠.nd (P i) (5+i))→m' x=m x
 own:∀ i,0≤i→i<t→ptr (m' (.nd n (5+i)))=S i∧mark (m' (.nd n (5+i)))=false
 there:∀ i,0≤i→i<j→ptr (m' (.nd (P i) (5+i)))=n∧mark (m' (.nd (P i) (5+i)))=false
theorem Ar {a b f g:Int} (h:a≠b∨f≠g):Loc.nd a f≠Loc.nd b g:=fun e=>by
 injection e with e1 e2
 rcases h with h|h
 .exact h e1
 .exact h e2
theorem Lk.put {m m':Loc→Int} {n:Int} {P S:Int→Int} {t j:Int} (h:Lk m m' n P S t j) (hj:0≤j) (w:Int) (hn:0≤n∧n<65536) (hP:∀ i,P i≠n):Lk m (upd m' (.nd (P j) (5+j)) (next w n false)) n P S t (j+1):=by
 refine ⟨fun x h1 h2=>?_,fun i a b=>?_,fun i a b=>?_⟩
 .rw [By _ _ (h2 j hj Zo)]
  exact h.same x h1 (fun i a b=>h2 i a Zo)
 .rw [By _ _ (Ar (.inl (Ne.symm (hP j))))]
  exact h.own i a b
 .by_cases e:i=j
  .subst e
   rw [Fi,Em _ _ _ hn.1 hn.2,Eh]
   exact ⟨rfl,rfl⟩
  .rw [By _ _ (Ar (.inr Zo))]
   exact h.there i a Zo
theorem gJ (G:Good c tid) (ha:c.algo=1) {k v n t o:Int} (hn:1≤n∧n≤c.ns) (ht:t≤c.lv) {m:Loc→Int} {P S:Int→Int} (hS:∀ i,0≤i→i<c.lv→0≤S i∧S i<65536):∀ (d:Nat) (s:St) (j w:Int),(t-j).toNat=d→0≤j→j<t→
  (∀ i,0≤i→i<c.lv→s.succ i=S i)→(∀ x,(∀ i,0≤i→i<t→x≠.nd n (5+i))→s.mm x=m x)→(∀ i,0≤i→i<j→ptr (s.mm (.nd n (5+i)))=S i∧mark (s.mm (.nd n (5+i)))=false)→
  ∃ m' w',Runs c tid s [frI 21 9 k v n t o j w 0] {s with mm:=m'} [frI 21 11 k v n t o t w' 0]∧Lk m m' n P S t 0:=by
 intro d
 induction d with
 |zero=>intro s j w hd h0 h1;omega
 |succ d ih=>
  intro s j w hd h0 h1 hs hm hw
  have hlk:=Cm (c:=c) Zo hn h0 Zo
  have b9:bit c tid s [frI 21 9 k v n t o j w 0]=some ⟨s,[frI 21 10 k v n t o j (s.mm (.nd n (5+j))) 0],Cu (.nd n (5+j)),true⟩:=by
   rw [Hu ha Zd]
   exact Ah hlk
  obtain ⟨s1,hs1⟩:∃ s1,s1=s.put (.nd n (5+j)) (next (s.mm (.nd n (5+j))) (S j) false):=⟨_,rfl⟩
  have b10:bit c tid s [frI 21 10 k v n t o j (s.mm (.nd n (5+j))) 0]=some ⟨s1,[frI 21 (if j+1≥t then 11 else 9) k v n t o (j+1) (s.mm (.nd n (5+j))) 0],Cu (.nd n (5+j)),true⟩:=by
   rw [Hu ha Zd]
   show (if c.row j then Ao c (.nd n (5+j)) (s.put (.nd n (5+j)) (next (s.mm (.nd n (5+j))) (s.succ j) false)) _ else none)=_
   rw [if_pos (Gj h0 Zo),hs j h0 Zo,Ah hlk,← hs1]
   rfl
  have hm1:∀ x,(∀ i,0≤i→i<t→x≠.nd n (5+i))→s1.mm x=m x:=fun x hx=>by
   rw [hs1,Bo _ _ (hx j h0 h1)]
   exact hm x hx
  have hw1:∀ i,0≤i→i<j+1→ptr (s1.mm (.nd n (5+i)))=S i∧mark (s1.mm (.nd n (5+i)))=false:=fun i a b=>by
   have hSj:=hS j h0 Zo
   by_cases e:i=j
   .subst e
    rw [hs1,Dl,Em _ _ _ hSj.1 hSj.2,Eh]
    exact ⟨rfl,rfl⟩
   .rw [hs1,Bo _ _ (Ar (.inr Zo))]
    exact hw i a Zo
  by_cases he:j+1≥t
  .rw [if_pos he] at b10
   obtain rfl:t=j+1:=Zo
   refine ⟨s1.mm,s.mm (.nd n (5+j)),Runs.via b9 (Runs.via b10 ?_),⟨fun x h1 _=>hm1 x h1,hw1,fun i a b=>Zo⟩⟩
   rw [hs1]
   exact Runs.refl _ _
  .rw [if_neg he] at b10
   obtain ⟨m',w',q1,q2⟩:=ih s1 (j+1) (s.mm (.nd n (5+j))) Zo Zo Zo (by rw [hs1];exact hs) hm1 hw1
   refine ⟨m',w',Runs.via b9 (Runs.via b10 ?_),q2⟩
   have e:({s1 with mm:=m'}:St)={s with mm:=m'}:=by rw [hs1];rfl
   rw [e] at q1
   exact q1
theorem Yw (G:Good c tid) (ha:c.algo=1) {k v n t o:Int} (hn:1≤n∧n≤c.ns) (ht:t≤c.lv) {m:Loc→Int} {P S:Int→Int} (hP:∀ i,P i≠n) (hP2:∀ i,0≤i→i<c.lv→1≤P i∧P i≤c.ns) (hS:∀ i,0≤i→i<c.lv→S i=ptr (m (.nd (P i) (5+i)))):∀ (d:Nat) (s:St) (j w:Int),(t-j).toNat=d→1≤j→j≤t→
  (∀ i,0≤i→i<c.lv→s.pred i=P i∧s.succ i=S i∧s.wrd i=m (.nd (P i) (5+i)))→Lk m s.mm n P S t j→
  ∃ m' w',Runs c tid s [frI 21 12 k v n t o j w 0] {s with mm:=m'} [frI 21 15 k v n t o t w' 0]∧Lk m m' n P S t t:=by
 intro d
 have hN:=G.ns
 induction d with
 |zero=>
  intro s j w hd h0 h1 hs hL
  obtain rfl:j=t:=Zo
  refine ⟨s.mm,w,Runs.via (o:=⟨s,_,[],false⟩) ?_ (Runs.refl _ _),hL⟩
  rw [Hu ha Zd]
  show (if j≥j then ok s [frI 21 15 k v n j o j w 0] else _)=_
  rw [if_pos Zo]
  rfl
 |succ d ih=>
  intro s j w hd h0 h1 hs hL
  have hlk:=Cm (c:=c) Zo hn (show 0≤j by omega) Zo
  have hlp:=Cm (c:=c) Zo (hP2 j Zo Zo) (show 0≤j by omega) Zo
  have ho:=hL.own j Zo Zo
  have hsj:=hs j Zo Zo
  have hre:s.mm (.nd (P j) (5+j))=m (.nd (P j) (5+j)):=hL.same _ (fun i _ _=>Ar (.inl (hP j))) (fun i a b=>Ar (.inr Zo))
  have b12:bit c tid s [frI 21 12 k v n t o j w 0]=some ⟨s,[frI 21 14 k v n t o j (s.mm (.nd n (5+j))) 0],Cu (.nd n (5+j)),true⟩:=by
   rw [Hu ha Zd]
   show (if j≥t then _ else if c.row j then Ao c (.nd n (5+j)) s [frI 21 (if mark (s.mm (.nd n (5+j))) then 15 else if ptr (s.mm (.nd n (5+j)))≠s.succ j then 13 else 14) k v n t o j (s.mm (.nd n (5+j))) 0] else none)=_
   rw [if_neg Zo,if_pos (Gj Zo Zo),if_neg (by rw [ho.2];decide),if_neg (by rw [ho.1,hsj.2.1];simp),Ah hlk]
  obtain ⟨s1,hs1⟩:∃ s1,s1=s.put (.nd (P j) (5+j)) (next (m (.nd (P j) (5+j))) n false):=⟨_,rfl⟩
  have b14:bit c tid s [frI 21 14 k v n t o j (s.mm (.nd n (5+j))) 0]=some ⟨s1,[frI 21 12 k v n t o (j+1) (s.mm (.nd n (5+j))) 0],Cu (.nd (P j) (5+j)),true⟩:=by
   rw [Hu ha Zd]
   show (if c.row j then (if s.mm (.nd (s.pred j) (5+j))=s.wrd j then Ao c (.nd (s.pred j) (5+j)) (s.put (.nd (s.pred j) (5+j)) (next (s.wrd j) n false)) [frI 21 12 k v n t o (j+1) (s.mm (.nd n (5+j))) 0] else _) else none)=_
   rw [if_pos (Gj Zo Zo),hsj.1,hsj.2.2,if_pos hre,Ah hlp,← hs1]
  have hL1:Lk m s1.mm n P S t (j+1):=by rw [hs1];exact hL.put Zo _ Zo hP
  obtain ⟨m',w',q1,q2⟩:=ih s1 (j+1) (s.mm (.nd n (5+j))) Zo Zo Zo (by rw [hs1];exact hs) hL1
  refine ⟨m',w',Runs.via b12 (Runs.via b14 ?_),q2⟩
  have e:({s1 with mm:=m'}:St)={s with mm:=m'}:=by rw [hs1];rfl
  rw [e] at q1
  exact q1
def Gy (m:Loc→Int) (x:Int):Int:=m (.nd x 3)
structure Sk (c:Cf) (m:Loc→Int) (L:List Int):Prop where
 rows:∀ j:Nat,(j:Int)<c.lv→Row m j 1 (fl (Gy m) j L)
 clear:∀ j:Nat,(j:Int)<c.lv→∀ x ∈ 1::fl (Gy m) j L,mark (m (.nd x (5+j)))=false
 sorted:L.Pairwise fun a b=>m (.nd a 0)<m (.nd b 0)
 talls:∀ x ∈ L,1≤Gy m x∧Gy m x≤c.lv
 refs:∀ x ∈ L,m (.nd x 2)=1
 vals:∀ x ∈ L,0≤m (.nd x 1)∧m (.nd x 1)<8589934592∧mark (m (.nd x 1))=false
 ords:∀ x ∈ L,0≤m (.nd x 0)∧m (.nd x 0)<18446744073709551616∧m (.nd x 0) % 4294967296<m (.gl 3)
 tick:0≤m (.gl 3)
theorem Oz {tl tl':Int→Int} {i:Int} {l:List Int} (h:∀ x ∈ l,tl' x=tl x):fl tl' i l=fl tl i l:=by
 unfold fl
 exact List.filter_congr fun x hx=>by rw [h x hx]
theorem Sk.same {m m':Loc→Int} {L:List Int} (h:Sk c m L) (hg:m (.gl 3)≤m' (.gl 3)) (hn:∀ x ∈ 1::L,∀ f,m' (.nd x f)=m (.nd x f)):Sk c m' L:=by
 have ht:∀ x ∈ L,Gy m' x=Gy m x:=fun x hx=>hn x (List.mem_cons_of_mem _ hx) 3
 have hf:∀ (j:Int) (x:Int),x ∈ 1::fl (Gy m) j L→x ∈ 1::L:=fun j x hx=>by
  rcases List.mem_cons.1 hx with rfl|hx
  .exact List.mem_cons_self ..
  .exact List.mem_cons_of_mem _ (fl_mem.1 hx).1
 have hm:∀ x ∈ L,∀ f,m' (.nd x f)=m (.nd x f):=fun x hx=>hn x (List.mem_cons_of_mem _ hx)
 refine ⟨fun j hj=>?_,fun j hj x hx=>?_,?_,fun x hx=>?_,fun x hx=>?_,fun x hx=>?_,fun x hx=>?_,Int.le_trans h.tick hg⟩
 .rw [Oz ht]
  exact Row.congr (fun x hx=>by rw [hn x (hf _ x hx)]) (h.rows j hj)
 .rw [Oz ht] at hx
  rw [hn x (hf _ x hx)]
  exact h.clear j hj x hx
 .exact List.Pairwise.imp_of_mem (fun {a b} x y hab=>by rw [hm a x,hm b y];exact hab) h.sorted
 .rw [ht x hx];exact h.talls x hx
 .rw [hm x hx];exact h.refs x hx
 .rw [hm x hx];exact h.vals x hx
 .rw [hm x hx]
  have:=h.ords x hx
  omega
theorem Xr (tl:Int→Int) (i n:Int) (l:List Int):fl tl i (n::l)=if i<tl n then n::fl tl i l else fl tl i l:=by
 unfold fl
 rw [List.filter_cons]
 by_cases h:i<tl n
 .rw [if_pos (decide_eq_true h),if_pos h]
 .rw [if_neg (by rw [decide_eq_false h];decide),if_neg h]
theorem Sk.insert {m m1 m':Loc→Int} {A B:List Int} {n t:Int} {P S:Int→Int} (h:Sk c m (A++B)) (hd:(1::n::(A++B)).Nodup) (hP:∀ j:Nat,(j:Int)<c.lv→P j=Bc 1 (fl (Gy m) j A)) (hS:∀ j:Nat,(j:Int)<c.lv→S j=ptr (m (.nd (P j) (5+j))))
  (hL:Lk m m1 n P S t t) (hm:∀ x,(∀ a b,x≠.haz a b)→x≠.nd n 2→m' x=m1 x) (hr:m' (.nd n 2)=1) (ht:Gy m n=t) (ht1:1≤t) (ht2:t≤c.lv) (hA:∀ x ∈ A,m (.nd x 0)<m (.nd n 0)) (hB:∀ x ∈ B,m (.nd n 0)<m (.nd x 0))
  (hv:0≤m (.nd n 1)∧m (.nd n 1)<8589934592∧mark (m (.nd n 1))=false) (ho:0≤m (.nd n 0)∧m (.nd n 0)<18446744073709551616∧m (.nd n 0) % 4294967296<m (.gl 3)):Sk c m' (A++n::B):=by
 have hPn:∀ j:Nat,(j:Int)<c.lv→P j≠n:=fun j hj e=>by
  rw [hP j hj] at e
  have hd1:=List.nodup_cons.1 hd
  rcases Di 1 (fl (Gy m) j A) with h5|h5
  .exact hd1.1 (by rw [← h5,e];exact List.mem_cons_self ..)
  .rw [e] at h5
   exact (List.nodup_cons.1 hd1.2).1 (List.mem_append_left _ (fl_mem.1 h5).1)
 have hnat:∀ i:Int,0≤i→i<t→∃ j:Nat,i=(j:Int)∧(j:Int)<c.lv:=fun i a b=>⟨i.toNat,Zo,Zo⟩
 have hfld:∀ x f,f<5→(x≠n∨f≠2)→m' (.nd x f)=m (.nd x f):=fun x f h1 h2=>by
  rw [hm _ (fun _ _ e=>by cases e) (Ar h2)]
  exact hL.same _ (fun i a b=>Ar (.inr Zo)) (fun i a b=>Ar (.inr Zo))
 have hg:m' (.gl 3)=m (.gl 3):=by
  rw [hm _ (fun _ _ e=>by cases e) (fun e=>by cases e)]
  exact hL.same _ (fun i a b e=>by cases e) (fun i a b e=>by cases e)
 have ht':∀ x,Gy m' x=Gy m x:=fun x=>hfld x 3 Zd (.inr Zd)
 have htf:Gy m'=Gy m:=funext ht'
 have hlink:∀ x (j:Nat),m' (.nd x (5+j))=m1 (.nd x (5+j)):=fun x j=>hm _ (fun _ _ e=>by cases e) (Ar (.inr Zo))
 have hoth:∀ (j:Nat) (x:Int),(j:Int)<c.lv→x≠n→((j:Int)<t→x≠P j)→m' (.nd x (5+j))=m (.nd x (5+j)):=fun j x hj hx hx2=>by
  rw [hlink]
  refine hL.same _ (fun i a b=>Ar (.inl hx)) (fun i a b=>?_)
  by_cases e:i=(j:Int)
  .subst e;exact Ar (.inl (hx2 b))
  .exact Ar (.inr Zo)
 have hsub:∀ (j:Nat) (x:Int),x ∈ 1::(fl (Gy m) j A++fl (Gy m) j B)→x ∈ 1::(A++B):=fun j x hx=>by
  rw [← Hp] at hx
  rcases List.mem_cons.1 hx with rfl|hx
  .exact List.mem_cons_self ..
  .exact List.mem_cons_of_mem _ (fl_mem.1 hx).1
 have hxn:∀ x ∈ 1::(A++B),x≠n:=fun x hx e=>by
  subst e
  have hd1:=List.nodup_cons.1 hd
  rcases List.mem_cons.1 hx with rfl|hx
  .exact hd1.1 (List.mem_cons_self ..)
  .exact (List.nodup_cons.1 hd1.2).1 hx
 have hnd:(1::(A++B)).Nodup:=by
  have h1:=List.nodup_cons.1 hd
  exact List.nodup_cons.2 ⟨fun e=>h1.1 (List.mem_cons_of_mem _ e),(List.nodup_cons.1 h1.2).2⟩
 have hndj:∀ j:Nat,(1::(fl (Gy m) j A++fl (Gy m) j B)).Nodup:=fun j=>by
  rw [← Hp]
  have h1:=List.nodup_cons.1 hnd
  exact List.nodup_cons.2 ⟨fun e=>h1.1 (fl_mem.1 e).1,h1.2.filter _⟩
 refine ⟨fun j hj=>?_,fun j hj x hx=>?_,?_,fun x hx=>?_,fun x hx=>?_,fun x hx=>?_,fun x hx=>?_,by rw [hg];exact h.tick⟩
 .have hrow:=h.rows j hj
  rw [Hp] at hrow
  rw [htf,Hp,Xr,ht]
  by_cases hjt:(j:Int)<t
  .rw [if_pos hjt]
   have hth:=hL.there j Zo hjt
   have hown:=hL.own j Zo hjt
   refine Row.insert hrow (fun x hx hne=>?_) (hndj j) ?_ ?_
   .rw [hoth j x hj (hxn x (hsub j x hx)) (fun _=>by rw [hP j hj];exact hne)]
   .rw [← hP j hj,hlink];exact hth.1
   .rw [← hP j hj,hlink,← hS j hj];exact hown.1
  .rw [if_neg hjt]
   exact Row.congr (fun x hx=>by rw [hoth j x hj (hxn x (hsub j x hx)) (fun e=>absurd e hjt)]) hrow
 .rw [htf,Hp,Xr,ht] at hx
  by_cases hxe:x=n
  .have hjt:(j:Int)<t:=by
    refine Classical.byContradiction fun hjt=>?_
    rw [if_neg hjt] at hx
    exact hxn x (hsub j x hx) hxe
   rw [hxe,hlink]
   exact (hL.own j Zo hjt).2
  .have hx2:x ∈ 1::(fl (Gy m) j A++fl (Gy m) j B):=by
    split at hx
    .simp only [List.mem_cons,List.mem_append] at hx ⊢
     rcases hx with h1|h1|h1|h1
     .exact .inl h1
     .exact .inr (.inl h1)
     .exact absurd h1 hxe
     .exact .inr (.inr h1)
    .exact hx
   by_cases hjt:(j:Int)<t∧x=P j
   .rw [hjt.2,hlink]
    exact (hL.there j Zo hjt.1).2
   .rw [hoth j x hj hxe (fun a e=>hjt ⟨a,e⟩)]
    rw [← Hp] at hx2
    exact h.clear j hj x hx2
 .have hs:=List.pairwise_append.1 h.sorted
  have e0:∀ x,m' (.nd x 0)=m (.nd x 0):=fun x=>hfld x 0 Zd (.inr Zd)
  have hall:(A++n::B).Pairwise fun a b=>m (.nd a 0)<m (.nd b 0):=by
   rw [List.pairwise_append]
   refine ⟨hs.1,List.pairwise_cons.2 ⟨hB,hs.2.1⟩,fun a haA b hb=>?_⟩
   rcases List.mem_cons.1 hb with rfl|hb
   .exact hA a haA
   .exact hs.2.2 a haA b hb
  exact hall.imp fun {a b} hab=>by rw [e0,e0];exact hab
 all_goals
  have hx2:x=n∨x ∈ A++B:=by
   simp only [List.mem_append,List.mem_cons] at hx ⊢
   rcases hx with h1|h1|h1
   .exact .inr (.inl h1)
   .exact .inl h1
   .exact .inr (.inr h1)
 .rw [ht']
  rcases hx2 with rfl|hx2
  .rw [ht];exact ⟨ht1,ht2⟩
  .exact h.talls x hx2
 .rcases hx2 with rfl|hx2
  .exact hr
  .rw [hfld x 2 Zd (.inl (hxn x (List.mem_cons_of_mem _ hx2)))]
   exact h.refs x hx2
 .rw [hfld x 1 Zd (.inr Zd)]
  rcases hx2 with rfl|hx2
  .exact hv
  .exact h.vals x hx2
 .rw [hfld x 0 Zd (.inr Zd),hg]
  rcases hx2 with rfl|hx2
  .exact ho
  .exact h.ords x hx2
end Go.Proofs.YtlejhikddkdanaaGreat.Mdl
