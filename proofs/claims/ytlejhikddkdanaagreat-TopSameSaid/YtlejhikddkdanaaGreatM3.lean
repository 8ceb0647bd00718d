/- TopSame, part 3: lemmas on the way. -/
import Derived.Test.YtlejhikddkdanaaGreatM2
set_option maxHeartbeats 8000000
set_option maxRecDepth 1000000
set_option linter.unusedVariables false
set_option linter.unusedSimpArgs false
namespace Go.Proofs.YtlejhikddkdanaaGreat.Mdl
variable {c:Cf} {tid:Int}
theorem Lm (f:Int→Int) (o:Int):∀ L:List Int,L.Pairwise (fun a b=>f a<f b)→∃ A B,L=A++B∧(∀ x ∈ A,f x<o)∧∀ x ∈ B,o≤f x
 |[],_=>⟨[],[],rfl,fun _ h=>(nomatch h),fun _ h=>(nomatch h)⟩
 |a::L,h=>by
  have h1:=List.pairwise_cons.1 h
  by_cases ho:f a<o
  .obtain ⟨A,B,e,p,q⟩:=Lm f o L h1.2
   refine ⟨a::A,B,by rw [e];rfl,fun x hx=>?_,q⟩
   rcases List.mem_cons.1 hx with rfl|hx
   .exact ho
   .exact p x hx
  .refine ⟨[],a::L,rfl,fun _ h=>(nomatch h),fun x hx=>?_⟩
   rcases List.mem_cons.1 hx with rfl|hx
   .omega
   .have:=h1.1 x hx
    omega
def kvs (m:Loc→Int) (n:Int):Int×Int:=(m (.nd n 0) / 4294967296,m (.nd n 1) / 2)
theorem Mq (ha:c.algo=1) {s:St} {pc:Nat} {k v n t o r:Int} (hx:∀ f,0≤f→f≤5→c.has (.nd n f)=true) (kk vv:Int) (hk:0≤kk∧kk≤5) (hp:pc≠90)
  (hs:Fs c s (frI 21 pc k v n t o r 0 0) []=Lu c s (frI 21 pc k v n t o r 0 0) [] kk vv) {s':St} {l':List Fr} (h:Runs c tid (s.put (.nd n kk) vv) [frI 21 (pc+1) k v n t o r 0 0] s' l'):Runs c tid s [frI 21 pc k v n t o r 0 0] s' l':=by
 refine Runs.via (o:=⟨s.put (.nd n kk) vv,[frI 21 (pc+1) k v n t o r 0 0],Cu (.nd n kk),true⟩) ?_ h
 rw [Hu ha hp,hs]
 exact Ah (hx kk hk.1 hk.2)
theorem Vy (G:Good c tid) (ha:c.algo=1) {s:St} {L free:List Int} (k v:Int) (kr:0≤k∧k<4294967296) (vr:0≤v∧v<4294967296) (ht3:s.mm (.gl 3)+1<4294967296) (hu:s.us<1000000)
  (hO:Owned c s free (1::2::L)) (hK:Sk c s.mm L) :
  (∃ s':St,Runs c tid s [frI 21 0 k v 0 0 0 0 0 0] (s'.told 1 0 0) [])∨
  ∃ (s':St) (L' free':List Int),Runs c tid s [frI 21 0 k v 0 0 0 0 0 0] (s'.told 0 0 0) []∧Owned c s' free' (1::2::L')∧Sk c s'.mm L'∧s'.us=s.us+1∧s'.mm (.gl 3)=s.mm (.gl 3)+1∧(L'.map (kvs s'.mm)).Perm ((k,v)::L.map (kvs s.mm)):=by
 have hN:=G.ns
 have hlv:=G.lv
 rcases Sf G 21 (.inl ⟨ha,rfl⟩) (fun s pc k v n t o r w x fs hp=>by
   rw [Hu ha Zo]
   rcases pc with _|_|_|pc
   .rfl
   .rfl
   .rfl
   .omega) k v kr ⟨hK.tick,ht3⟩ hu hO with h0|⟨s1,free1,n,t,r,r1,o1,u1,t1,t2,g3,g1,nf⟩
 .exact .inl h0
 refine .inr ?_
 obtain ⟨T,hT⟩:∃ T,T=s.mm (.gl 3):=⟨_,rfl⟩
 have hT0:0≤T:=by rw [hT];exact hK.tick
 rw [← hT] at g3 ht3 r1
 obtain ⟨o,ho⟩:∃ o,o=k*4294967296+T:=⟨_,rfl⟩
 rw [← ho] at r1
 have hn:=o1.pos (n:=n) Zs
 have hnd:(n::1::2::L).Nodup:=by
  have:=o1.nodup
  rw [List.nodup_append] at this
  exact this.2.1
 have hn1:n≠1:=fun e=>(List.nodup_cons.1 hnd).1 (by simp [e])
 have hn2:n≠2:=fun e=>(List.nodup_cons.1 hnd).1 (by simp [e])
 have hnL:n ∉ L:=fun e=>(List.nodup_cons.1 hnd).1 (by simp [e])
 have hL2:2 ∉ L:=fun e=>by
  have h1:=(List.nodup_cons.1 (List.nodup_cons.1 hnd).2).2
  exact (List.nodup_cons.1 h1).1 e
 have hL1:1 ∉ L:=fun e=>by
  have h1:=(List.nodup_cons.1 hnd).2
  exact (List.nodup_cons.1 h1).1 (List.mem_cons_of_mem _ e)
 have hLn:L.Nodup:=(List.nodup_cons.1 (List.nodup_cons.1 (List.nodup_cons.1 hnd).2).2).2
 have hLr:∀ x ∈ 1::L,1≤x∧x≤c.ns:=fun x hx=>o1.pos (by
  rcases List.mem_cons.1 hx with rfl|hx
  .simp
  .simp [hx])
 obtain ⟨s2,hs2⟩:∃ s2,s2=((((s1.put (.nd n 0) o).put (.nd n 1) (u32 v*2)).put (.nd n 2) 2).put (.nd n 3) t).put (.nd n 4) 0:=⟨_,rfl⟩
 have hx:=fun f a b=>Cl (c:=c) G Zo hn (f:=f) a b
 have hlay:∀ {s':St} {l':List Fr},Runs c tid s2 [frI 21 8 k v n t o r 0 0] s' l'→Runs c tid s1 [frI 21 3 k v n t o r 0 0] s' l':=fun h=>by
  rw [hs2] at h
  exact Mq ha hx 0 o Zd Zd rfl (Mq ha hx 1 (u32 v*2) Zd Zd rfl (Mq ha hx 2 2 Zd Zd rfl (Mq ha hx 3 t Zd Zd rfl (Mq ha hx 4 0 Zd Zd rfl h))))
 have e2:∀ x,(∀ f,x≠.nd n f)→s2.mm x=s1.mm x:=fun x hx=>by
  rw [hs2,Bo _ _ (hx 4),Bo _ _ (hx 3),Bo _ _ (hx 2),Bo _ _ (hx 1),Bo _ _ (hx 0)]
 have en:∀ x f,x≠n→s2.mm (.nd x f)=s.mm (.nd x f):=fun x f hx=>by rw [e2 _ (fun f=>Ar (.inl hx)),nf]
 have n0:s2.mm (.nd n 0)=o:=by
  rw [hs2,Bo _ _ (Ar (.inr Zd)),Bo _ _ (Ar (.inr Zd)),Bo _ _ (Ar (.inr Zd)),Bo _ _ (Ar (.inr Zd)),Dl]
 have n1:s2.mm (.nd n 1)=v*2:=by
  rw [hs2,Bo _ _ (Ar (.inr Zd)),Bo _ _ (Ar (.inr Zd)),Bo _ _ (Ar (.inr Zd)),Dl]
  unfold u32;omega
 have n2:s2.mm (.nd n 2)=2:=by
  rw [hs2,Bo _ _ (Ar (.inr Zd)),Bo _ _ (Ar (.inr Zd)),Dl]
 have n3:s2.mm (.nd n 3)=t:=by
  rw [hs2,Bo _ _ (Ar (.inr Zd)),Dl]
 have hg2:s2.mm (.gl 3)=T+1:=by rw [e2 _ (fun f e=>by cases e),g3]
 have hK2:Sk c s2.mm L:=hK.same Zo (fun x hx f=>en x f (fun e=>by
  rcases List.mem_cons.1 hx with h|h
  .exact hn1 (e.symm.trans h)
  .exact hnL (e▸h)))
 have hO2:Owned c s2 free1 (n::1::2::L):=o1.same (e2 _ (fun f e=>by cases e)) (fun x=>e2 _ (fun f e=>by cases e)) (by rw [hs2];rfl)
 have hu2:s2.us=s.us+1:=by rw [← u1,hs2];rfl
 clear hs2
 obtain ⟨A,B,hAB,hA,hB⟩:=Lm (fun x=>s2.mm (.nd x 0)) o L hK2.sorted
 subst hAB
 have hB2:∀ x ∈ B,o<s2.mm (.nd x 0):=fun x hx=>by
  have h1:=hB x hx
  have h2:=(hK.ords x (List.mem_append_right _ hx)).2.2
  rw [← en x 0 (fun e=>hnL (by rw [← e];exact List.mem_append_right _ hx)),← hT] at h2
  omega
 obtain ⟨s3,f3,r3⟩:=iP G ha (o:=o) (tl:=Gy s2.mm) (A:=A) (B:=B) s2 [frI 21 9 k v n t o 0 0 0] (by show 1≤40;decide) hL2 hA hB (fun j hj=>by
  have h1:=hK2.rows j hj
  have h2:=hK2.clear j hj
  rw [Hp] at h1 h2
  refine ⟨h1,fun x hx=>⟨h2 x hx,hLr x ?_⟩⟩
  rw [← Hp] at hx
  rcases List.mem_cons.1 hx with rfl|hx
  .exact List.mem_cons_self ..
  .exact List.mem_cons_of_mem _ (fl_mem.1 hx).1)
 have b8:bit c tid s2 [frI 21 8 k v n t o r 0 0]=some ⟨s2,[{fn:=20,pc:=0,r0:=o},frI 21 9 k v n t o 0 0 0],[],false⟩:=by
  rw [Hu ha Zd]
  rfl
 have r4:=r1.trans (hlay (Runs.via b8 r3))
 clear r1 hlay r3 b8
 obtain ⟨m,hm⟩:∃ m,m=s3.mm:=⟨_,rfl⟩
 have mn:∀ x f,m (.nd x f)=s2.mm (.nd x f):=fun x f=>by rw [hm];exact f3.haz.nd x f
 obtain ⟨P,hP⟩:∃ P:Int→Int,P=fun j=>Bc 1 (fl (Gy s2.mm) j A):=⟨_,rfl⟩
 obtain ⟨S,hS⟩:∃ S:Int→Int,S=fun j=>ptr (m (.nd (P j) (5+j))):=⟨_,rfl⟩
 have hPm:∀ j,P j ∈ 1::(A++B):=fun j=>by
  rw [hP]
  rcases Di 1 (fl (Gy s2.mm) j A) with h|h
  .show Bc 1 _ ∈ _;rw [h];exact List.mem_cons_self ..
  .exact List.mem_cons_of_mem _ (List.mem_append_left _ (fl_mem.1 h).1)
 have hPn:∀ j,P j≠n:=fun j e=>by
  have:=hPm j
  rw [e] at this
  rcases List.mem_cons.1 this with h|h
  .exact hn1 h
  .exact hnL h
 have hfp:∀ i,0≤i→i<c.lv→s3.pred i=P i∧s3.succ i=S i∧s3.wrd i=m (.nd (P i) (5+i)):=fun i a b=>by
  refine ⟨by rw [f3.pred i a b,hP],?_,?_⟩
  .rw [f3.succ i a b,hS]
   show _=ptr (m (.nd (P i) (5+i)))
   rw [mn,hP]
  .rw [f3.wrd i a b,mn,hP]
 obtain ⟨m4,w4,r5,l4⟩:=gJ G ha (k:=k) (v:=v) (t:=t) (o:=o) hn t2 (m:=m) (P:=P) (S:=S) (fun i _ _=>by rw [hS];exact Fj _) t.toNat (s3.told 0 0 0) 0 0 Zo Zd Zo (fun i a b=>(hfp i a b).2.1) (fun x _=>by rw [hm];rfl) (fun i a b=>Zo)
 have hP0:=hLr (P 0) (hPm 0)
 have hw0:m4 (.nd (P 0) 5)=m (.nd (P 0) 5):=l4.same _ (fun i _ _=>Ar (.inl (hPn 0))) (fun i a b=>Zo)
 obtain ⟨s5,hs5⟩:∃ s5:St,s5=({s3.told 0 0 0 with mm:=m4}:St).put (.nd (P 0) 5) (next (m (.nd (P 0) 5)) n false):=⟨_,rfl⟩
 have b11:bit c tid ({s3.told 0 0 0 with mm:=m4}:St) [frI 21 11 k v n t o t w4 0]=some ⟨s5,[frI 21 12 k v n t o 1 w4 0],Cu (.nd (P 0) 5),true⟩:=by
  rw [Hu ha Zd]
  show (if m4 (.nd (s3.pred 0) 5)=s3.wrd 0 then Ao c (.nd (s3.pred 0) 5) (({s3.told 0 0 0 with mm:=m4}:St).put (.nd (s3.pred 0) 5) (next (s3.wrd 0) n false)) [frI 21 12 k v n t o 1 w4 0] else _)=_
  have h0:=hfp 0 Zd Zo
  rw [h0.1,h0.2.2,show (5:Int)+0=5 from rfl,if_pos hw0,Ah (Cl G Zo hP0 Zd Zd),← hs5]
 have l5:Lk m s5.mm n P S t 1:=by
  rw [hs5]
  exact l4.put Zd _ Zo hPn
 obtain ⟨m6,w6,r6,l6⟩:=Yw G ha (k:=k) (v:=v) (t:=t) (o:=o) hn t2 (m:=m) (P:=P) (S:=S) hPn (fun i _ _=>hLr (P i) (hPm i)) (fun i _ _=>by rw [hS]) (t-1).toNat s5 1 w4 rfl Zd t1 (fun i a b=>by rw [hs5];exact hfp i a b) l5
 have hm6:m6 (.nd n 2)=2:=by rw [l6.same _ (fun i a b=>Ar (.inr Zo)) (fun i a b=>Ar (.inr Zo)),mn,n2]
 obtain ⟨s7,hs7⟩:∃ s7:St,s7=({s5 with mm:=m6}:St).put (.nd n 2) 1:=⟨_,rfl⟩
 have b15:bit c tid ({s5 with mm:=m6}:St) [frI 21 15 k v n t o t w6 0]=some ⟨s7,[frI 21 16 k v n t o t w6 0],Cu (.nd n 2),true⟩:=by
  rw [Hu ha Zd]
  show Ml c ({s5 with mm:=m6}:St) (frI 21 15 k v n t o t w6 0) [] n 17 16 o=_
  unfold Ml
  show (if m6 (.nd n 2)=1 then _ else Ao c (.nd n 2) (({s5 with mm:=m6}:St).put (.nd n 2) (u64 (m6 (.nd n 2)-1))) _)=_
  rw [hm6,if_neg Zd,Ah (hx 2 Zd Zd),show u64 (2-1)=1 from Zd,← hs7]
  rfl
 obtain ⟨m8,hb8,r8⟩:=Ic (c:=c) (tid:=tid) G s7 (frI 21 16 k v n t o t w6 0) 0 0 0 (.inr (.inl ⟨ha,by show 21≤21;decide,by show 21≤23;decide⟩))
 have b16:bit c tid s7 [frI 21 16 k v n t o t w6 0]=some ⟨s7,fin s7 (frI 21 16 k v n t o t w6 0) [] 0 0 0,[],false⟩:=by
  rw [Hu ha Zd]
  rfl
 have hall:=r4.trans (r5.trans (Runs.via b11 (r6.trans (Runs.via b15 (Runs.via b16 r8)))))
 have h7:∀ x,(∀ a b,x≠.haz a b)→x≠.nd n 2→m8 x=m6 x:=fun x hh hx=>by
  rw [hb8 x hh,hs7,Bo _ _ hx]
 have h7n:m8 (.nd n 2)=1:=by rw [hb8.nd,hs7,Dl]
 have hgl:∀ i,m8 (.gl i)=s2.mm (.gl i):=fun i=>by
  rw [h7 _ (fun _ _ e=>by cases e) (fun e=>by cases e),l6.same _ (fun _ _ _ e=>by cases e) (fun _ _ _ e=>by cases e),hm,f3.haz.gl]
 have hK3:Sk c m (A++B):=hK2.same (by rw [hm,f3.haz.gl];omega) (fun x _ f=>mn x f)
 have htm:Gy m=Gy s2.mm:=funext fun x=>mn x 3
 have hKf:Sk c m8 (A++n::B):=by
  refine hK3.insert (m1:=m6) (n:=n) (t:=t) (P:=P) (S:=S) ?_ (fun j _=>by rw [hP,htm]) (fun j _=>by rw [hS]) l6 h7 h7n (by show m (.nd n 3)=t;rw [mn,n3]) t1 t2 (fun x hx=>by rw [mn,mn,n0];exact hA x hx) (fun x hx=>by rw [mn,mn,n0];exact hB2 x hx) ?_ ?_
  .refine List.nodup_cons.2 ⟨fun e=>?_,List.nodup_cons.2 ⟨hnL,hLn⟩⟩
   rcases List.mem_cons.1 e with h|h
   .exact hn1 h.symm
   .exact hL1 h
  .rw [mn,n1]
   refine ⟨Zo,Zo,?_⟩
   unfold mark
   rw [beq_eq_false_iff_ne];omega
  .rw [mn,n0,hm,f3.haz.gl,hg2]
   omega
 have hpm:(n::1::2::(A++B)).Perm (1::2::(A++n::B)):=by
  have h1:(n::1::2::(A++B)).Perm (1::2::n::(A++B)):=(List.Perm.swap 1 n _).trans (List.Perm.cons 1 (List.Perm.swap 2 n _))
  exact h1.trans (List.Perm.cons 1 (List.Perm.cons 2 List.perm_middle.symm))
 refine ⟨{s7 with mm:=m8},A++n::B,free1,hall,(hO2.same ?_ (fun x=>?_) ?_).perm hpm,hKf,?_,?_,?_⟩
 .exact hgl 0
 .show m8 (.link x)=_
  rw [h7 _ (fun _ _ e=>by cases e) (fun e=>by cases e),l6.same _ (fun _ _ _ e=>by cases e) (fun _ _ _ e=>by cases e),hm,f3.haz.link]
 .show s7.rt=s2.rt
  rw [hs7,hs5]
  exact f3.rt
 .show s7.us=_
  rw [hs7,hs5]
  show s3.us=_
  rw [f3.us,hu2]
 .show m8 (.gl 3)=_
  rw [hgl,hg2,hT]
 .have hfld:∀ x f,f<5→(x≠n∨f≠2)→m8 (.nd x f)=s2.mm (.nd x f):=fun x f h1 h2=>by
   rw [h7 _ (fun _ _ e=>by cases e) (Ar h2),l6.same _ (fun i a b=>Ar (.inr Zo)) (fun i a b=>Ar (.inr Zo)),mn]
  have hkn:kvs m8 n=(k,v):=by
   unfold kvs
   rw [hfld n 0 Zd (.inr Zd),hfld n 1 Zd (.inr Zd),n0,n1]
   congr 1
   .omega
   .omega
  have hko:∀ x ∈ A++B,kvs m8 x=kvs s.mm x:=fun x hx=>by
   have hxn:x≠n:=fun e=>hnL (e▸hx)
   unfold kvs
   rw [hfld x 0 Zd (.inl hxn),hfld x 1 Zd (.inl hxn),en x 0 hxn,en x 1 hxn]
  show ((A++n::B).map (kvs m8)).Perm _
  refine (List.Perm.map _ List.perm_middle).trans ?_
  rw [List.map_cons,hkn]
  exact List.Perm.cons _ (List.Perm.of_eq (List.map_congr_left hko))
theorem Row.move {m m':Loc→Int} {i p q:Int} {l:List Int} (h:Row m i p l) (hq:ptr (m' (.nd q (5+i)))=ptr (m (.nd p (5+i)))) (hl:∀ x ∈ l,ptr (m' (.nd x (5+i)))=ptr (m (.nd x (5+i)))):Row m' i q l:=by
 cases l with
 |nil=>exact hq.trans h
 |cons a l=>exact ⟨hq.trans h.1,Row.congr hl h.2⟩
structure DelM (m m':Loc→Int) (d t i:Int):Prop where
 same:∀ x,(∀ a b,x≠.haz a b)→(∀ j,i≤j→j<t→x≠.nd 1 (5+j))→m' x=m x
 past:∀ j,i≤j→j<t→m' (.nd 1 (5+j))=next (m (.nd 1 (5+j))) (ptr (m (.nd d (5+j)))) false
theorem DelM.haz {m m1 m':Loc→Int} {d t i:Int} (h:DelM m m1 d t i) (hb:ButHaz m1 m'):DelM m m' d t i:=
 ⟨fun x h1 h2=>(hb x h1).trans (h.same x h1 h2),fun j a b=>(hb.nd _ _).trans (h.past j a b)⟩
theorem DelM.skip {m m':Loc→Int} {d t i:Int} (h:DelM m m' d t (i+1)) (hi:t≤i):DelM m m' d t i:=
 ⟨fun x h1 h2=>h.same x h1 (fun j a b=>Zo),fun j a b=>Zo⟩
theorem DelM.step {m m':Loc→Int} {d t i:Int} (h:DelM m m' d t (i+1)) (hi:i<t):DelM m (upd m' (.nd 1 (5+i)) (next (m (.nd 1 (5+i))) (ptr (m (.nd d (5+i)))) false)) d t i:=by
 refine ⟨fun x h1 h2=>?_,fun j a b=>?_⟩
 .rw [By _ _ (h2 i (Int.le_refl _) hi)]
  exact h.same x h1 (fun j a b=>h2 j Zo b)
 .by_cases e:j=i
  .subst e;rw [Fi]
  .rw [By _ _ (Ar (.inr Zo))]
   exact h.past j Zo b
theorem cQ (G:Good c tid) (ha:c.algo=1) {s:St} {o i p y x0:Int} (fs:List Fr) (hfs:fs.length≤40) (hi0:0≤i) (hi1:i<c.lv) (hp:1≤p∧p≤c.ns) (hy:1≤y∧y≤c.ns)
  (h:ptr (s.mm (.nd p (5+i)))=y) :
  ∃ m',ButHaz s.mm m'∧Runs c tid s (Dq 3 o i p (s.mm (.nd p (5+i))) x0::fs) {s with mm:=m'} (Dq (if mark (s.mm (.nd y (5+i))) then 6 else 7) o i p (s.mm (.nd p (5+i))) (s.mm (.nd y (5+i)))::fs):=by
 have hsl:=Hh (c:=c) Zo
 obtain ⟨w,hw⟩:∃ w,s.mm (.nd p (5+i))=w:=⟨_,rfl⟩
 rw [hw] at h ⊢
 have hlk:=Cm (c:=c) Zo hp hi0 hi1
 have hly:=Cm (c:=c) Zo hy hi0 hi1
 have hz1:=Gf (c:=c) G.me.1 G.me.2 (i:=2*i+1) Zo Zo
 have b3:bit c tid s (Dq 3 o i p w x0::fs)=some ⟨s.put (.haz tid (2*i+1)) y,Dq 4 o i p w x0::fs,[],true⟩:=by
  rw [En ha]
  show Ao c (.haz tid (2*i+1)) (s.put (.haz tid (2*i+1)) (ptr w)) _=_
  rw [h,Ah hz1]
  rfl
 obtain ⟨s3,hs3⟩:∃ s3,s3=s.put (.haz tid (2*i+1)) y:=⟨_,rfl⟩
 rw [← hs3] at b3
 have h3:ButHaz s.mm s3.mm:=by rw [hs3];exact ButHaz.upd _ _ _ _
 have b4:bit c tid s3 (Dq 4 o i p w x0::fs)=some ⟨s3,Dq 5 o i p w x0::fs,Cu (.nd p (5+i)),true⟩:=by
  rw [En ha]
  show (if s3.mm (.nd p (5+i))≠w then _ else Ao c (.nd p (5+i)) s3 _)=_
  rw [if_neg (by rw [h3.nd,hw];simp),Ah hlk]
  rfl
 have b5:bit c tid s3 (Dq 5 o i p w x0::fs)=some ⟨s3,Dq (if mark (s.mm (.nd y (5+i))) then 6 else 7) o i p w (s.mm (.nd y (5+i)))::fs,Cu (.nd y (5+i)),true⟩:=by
  rw [En ha]
  show Ao c (.nd (ptr w) (5+i)) s3 (Dq (if mark (s3.mm (.nd (ptr w) (5+i))) then 6 else 7) o i p w (s3.mm (.nd (ptr w) (5+i)))::fs)=_
  rw [h,h3.nd,Ah hly]
 refine ⟨s3.mm,h3,Runs.via b3 (Runs.via b4 (Runs.via b5 ?_))⟩
 have e:({s with mm:=s3.mm}:St)=s3:=by rw [hs3];rfl
 rw [e]
 exact Runs.refl _ _
theorem oI (G:Good c tid) (ha:c.algo=1) {o i d:Int} {R:List Int} {s:St} {w0 x0:Int} (fs:List Fr) (hfs:fs.length≤40) (hi0:0≤i) (hi1:i<c.lv) (h:Row s.mm i 1 (d::R)) (hd:1≤d∧d≤c.ns) (hd1:d≠1) (hd2:d≠2) (hN:1≤c.ns)
  (h1:mark (s.mm (.nd 1 (5+i)))=false) (hm:mark (s.mm (.nd d (5+i)))=true) (hR:∀ y ∈ R,y≠2∧y≠1∧1≤y∧y≤c.ns∧mark (s.mm (.nd y (5+i)))=false∧o≤s.mm (.nd y 0)) :
  ∃ (s':St) (p' w' x':Int),ButHaz (upd s.mm (.nd 1 (5+i)) (next (s.mm (.nd 1 (5+i))) (ptr (s.mm (.nd d (5+i)))) false)) s'.mm∧s'.us=s.us∧s'.rt=s.rt∧
   Runs c tid s (Dq 1 o i 1 w0 x0::fs) (if i=0 then s'.told 0 0 0 else s') (if i=0 then fs else Dq 1 o (i-1) 1 w' x'::fs):=by
 obtain ⟨m1,hb1,r1⟩:=Pk G ha (s:=s) (o:=o) (i:=i) (p:=1) (y:=d) (w0:=w0) (x0:=x0) fs hfs hi0 hi1 ⟨Zd,hN⟩ hd hd2 h.1 h1
 rw [if_pos hm] at r1
 obtain ⟨w,hw⟩:∃ w,w=s.mm (.nd 1 (5+i)):=⟨_,rfl⟩
 obtain ⟨wd,hwd⟩:∃ wd,wd=s.mm (.nd d (5+i)):=⟨_,rfl⟩
 rw [← hw,← hwd] at r1 ⊢
 obtain ⟨w',hw'⟩:∃ w',w'=next w (ptr wd) false:=⟨_,rfl⟩
 rw [← hw']
 have hlk:=Cm (c:=c) (n:=1) Zo ⟨Zd,hN⟩ hi0 hi1
 have hpw:ptr w'=ptr wd:=by rw [hw',Em _ _ _ (Fj wd).1 (Fj wd).2]
 have hmw:mark w'=false:=by rw [hw',Eh]
 obtain ⟨s2,hs2⟩:∃ s2:St,s2=({s with mm:=m1}:St).put (.nd 1 (5+i)) w':=⟨_,rfl⟩
 have hb2:ButHaz (upd s.mm (.nd 1 (5+i)) w') s2.mm:=by rw [hs2];exact hb1.both _ _
 have b6:bit c tid ({s with mm:=m1}:St) (Dq 6 o i 1 w wd::fs)=Ki c (.nd 1 (5+i)) s2 (Dq 6 o i 1 w wd) fs w':=by
  rw [En ha]
  show (if m1 (.nd 1 (5+i))=w then Ki c (.nd 1 (5+i)) (({s with mm:=m1}:St).put (.nd 1 (5+i)) (next w (ptr wd) false)) (Dq 6 o i 1 w wd) fs (next w (ptr wd) false) else _)=_
  rw [if_pos (by rw [hb1.nd,hw]),← hw',← hs2]
 have settle:∀ (s3:St) (pc:Nat) (x:Int),ButHaz s2.mm s3.mm→s3.us=s.us→s3.rt=s.rt→Runs c tid s (Dq 1 o i 1 w0 x0::fs) (Jh s3 (Dq pc o i 1 w' x)) (Ie (Dq pc o i 1 w' x) fs)→
   ∃ (s':St) (p' v' x':Int),ButHaz (upd s.mm (.nd 1 (5+i)) w') s'.mm∧s'.us=s.us∧s'.rt=s.rt∧
   Runs c tid s (Dq 1 o i 1 w0 x0::fs) (if i=0 then s'.told 0 0 0 else s') (if i=0 then fs else Dq 1 o (i-1) 1 v' x'::fs):=by
  intro s3 pc x hb hu hr hrun
  exact ⟨cP s3 i 1 w',0,w',x,hb2.trans hb,hu,hr,hrun⟩
 cases R with
 |nil=>
  have hz:ptr w'=2:=by rw [hpw,hwd];exact h.2
  refine settle s2 6 wd (ButHaz.refl _) (by rw [hs2];rfl) (by rw [hs2];rfl) (r1.trans (Runs.via (o:=⟨Jh s2 (Dq 6 o i 1 w' wd),Ie (Dq 6 o i 1 w' wd) fs,Cu (.nd 1 (5+i)),true⟩) ?_ (Runs.refl _ _)))
  rw [b6]
  unfold Ki
  rw [if_neg (by rw [hmw];decide),if_pos hz,if_pos (show c.row (Dq 6 o i 1 w wd).r1=true from Gj hi0 hi1),Ah hlk]
  rfl
 |cons y R=>
  have hy:=hR y (List.mem_cons_self ..)
  have hz:ptr w'=y:=by rw [hpw,hwd];exact h.2.1
  have hs2w:s2.mm (.nd 1 (5+i))=w':=by rw [hs2,Dl]
  have hs2y:∀ f,s2.mm (.nd y f)=s.mm (.nd y f):=fun f=>by rw [hb2.nd,By _ _ (Ar (.inl hy.2.1))]
  obtain ⟨m3,hb3,r3⟩:=cQ G ha (s:=s2) (o:=o) (i:=i) (p:=1) (y:=y) (x0:=wd) fs hfs hi0 hi1 ⟨Zd,hN⟩ ⟨hy.2.2.1,hy.2.2.2.1⟩ (by rw [hs2w];exact hz)
  rw [hs2y,if_neg (by rw [hy.2.2.2.2.1];decide),hs2w] at r3
  have e6:Ki c (.nd 1 (5+i)) s2 (Dq 6 o i 1 w wd) fs w'=some ⟨s2,Dq 3 o i 1 w' wd::fs,Cu (.nd 1 (5+i)),true⟩:=by
   unfold Ki
   rw [if_neg (by rw [hmw];decide),if_neg (by rw [hz];exact hy.1),Ah hlk]
   rfl
  refine settle {s2 with mm:=m3} 7 (s.mm (.nd y (5+i))) hb3 (by rw [hs2];rfl) (by rw [hs2];rfl) (r1.trans (Runs.via (b6.trans e6) (r3.trans (Runs.via (o:=⟨Jh {s2 with mm:=m3} (Dq 7 o i 1 w' (s.mm (.nd y (5+i)))),Ie (Dq 7 o i 1 w' (s.mm (.nd y (5+i)))) fs,Cu (.nd y 0),true⟩) ?_ (Runs.refl _ _)))))
  rw [En ha]
  show (if m3 (.nd (ptr w') 0)≥o then (if c.row i then Ao c (.nd (ptr w') 0) _ _ else none) else _)=_
  rw [hz,if_pos (by rw [hb3.nd,hs2y];exact hy.2.2.2.2.2),if_pos (Gj hi0 hi1),Ah (Cl G Zo ⟨hy.2.2.1,hy.2.2.2.1⟩ Zd Zd)]
theorem lY (G:Good c tid) (ha:c.algo=1) {o d t:Int} {R:Int→List Int} {m:Loc→Int} (fs:List Fr) (hfs:fs.length≤40) (hd:1≤d∧d≤c.ns) (hd1:d≠1) (hd2:d≠2) (hN:1≤c.ns)
  (hrow:∀ j:Nat,(j:Int)<c.lv→Row m j 1 (if (j:Int)<t then d::R j else R j)) (h1:∀ j:Nat,(j:Int)<c.lv→mark (m (.nd 1 (5+j)))=false) (hm:∀ j:Nat,(j:Int)<t→mark (m (.nd d (5+j)))=true)
  (hR:∀ j:Nat,(j:Int)<c.lv→∀ y ∈ R j,y≠2∧y≠1∧1≤y∧y≤c.ns∧mark (m (.nd y (5+j)))=false∧o≤m (.nd y 0)) :
  ∀ (i:Nat) (s:St) (w0 x0:Int),(i:Int)<c.lv→DelM m s.mm d t (i+1)→
  ∃ s':St,DelM m s'.mm d t 0∧s'.us=s.us∧s'.rt=s.rt∧Runs c tid s (Dq 1 o i 1 w0 x0::fs) (s'.told 0 0 0) fs:=by
 intro i
 have one:∀ (i:Nat) (s:St) (w0 x0:Int),(i:Int)<c.lv→DelM m s.mm d t (i+1)→∃ (s':St) (w' x':Int),DelM m s'.mm d t i∧s'.us=s.us∧s'.rt=s.rt∧
   Runs c tid s (Dq 1 o i 1 w0 x0::fs) (if (i:Int)=0 then s'.told 0 0 0 else s') (if (i:Int)=0 then fs else Dq 1 o (i-1) 1 w' x'::fs):=by
  intro i s w0 x0 hi hD
  have e1:s.mm (.nd 1 (5+i))=m (.nd 1 (5+i)):=hD.same _ (fun _ _ e=>by cases e) (fun j a b=>Ar (.inr Zo))
  have e2:∀ x f,x≠1→s.mm (.nd x f)=m (.nd x f):=fun x f hx=>hD.same _ (fun _ _ e=>by cases e) (fun j a b=>Ar (.inl hx))
  have hRi:=hR i hi
  have hro:=hrow i hi
  by_cases ht:(i:Int)<t
  .rw [if_pos ht] at hro
   obtain ⟨s',p',w',x',q1,q2,q3,q4⟩:=oI G ha (o:=o) (i:=(i:Int)) (d:=d) (R:=R i) (s:=s) (w0:=w0) (x0:=x0) fs hfs Zo hi (Row.move hro (by rw [e1]) (fun x hx=>by
     rcases List.mem_cons.1 hx with rfl|hx
     .rw [e2 _ _ hd1]
     .rw [e2 _ _ (hRi x hx).2.1])) hd hd1 hd2 hN (by rw [e1];exact h1 i hi) (by rw [e2 _ _ hd1];exact hm i ht) (fun y hy=>by
     have:=hRi y hy
     rw [e2 _ _ this.2.1,e2 _ _ this.2.1];exact this)
   refine ⟨s',w',x',?_,q2,q3,q4⟩
   rw [e1,e2 _ _ hd1] at q1
   exact (hD.step ht).haz q1
  .rw [if_neg ht] at hro
   obtain ⟨s',x',q1,q2,q3⟩:=Sj G ha (o:=o) (i:=(i:Int)) fs hfs Zo hi [] (R i) s 1 w0 x0 (Row.move hro (by rw [e1]) (fun x hx=>by rw [e2 _ _ (hRi x hx).2.1])) (fun x hx=>by
     rcases List.mem_cons.1 hx with rfl|hx
     .rw [e1];exact ⟨h1 i hi,Zd,hN⟩
     .have:=hRi x hx
      rw [e2 _ _ this.2.1];exact ⟨this.2.2.2.2.1,this.2.2.1,this.2.2.2.1⟩) (fun h=>(hRi 2 h).1 rfl) (fun x hx=>nomatch hx) (fun x hx=>by
     have:=hRi x (List.mem_of_mem_head? hx)
     rw [e2 _ _ this.2.1];exact this.2.2.2.2.2)
   exact ⟨s',_,x',(hD.skip Zo).haz q1,q2.us,q2.rt,q3⟩
 induction i with
 |zero=>
  intro s w0 x0 hi hD
  obtain ⟨s',w',x',q1,q2,q3,q4⟩:=one 0 s w0 x0 hi hD
  exact ⟨s',q1,q2,q3,q4⟩
 |succ i ih=>
  intro s w0 x0 hi hD
  obtain ⟨s1,w',x',q1,q2,q3,q4⟩:=one (i+1) s w0 x0 hi hD
  rw [if_neg Zo,if_neg Zo,show ((i+1:Nat):Int)-1=i by omega] at q4
  obtain ⟨s',p1,p2,p3,p4⟩:=ih s1 w' x' Zo q1
  exact ⟨s',p1,p2.trans q2,p3.trans q3,q4.trans p4⟩
def frR (fn pc:Nat) (w n o v r x mi:Int):Fr:={fn:=fn,pc:=pc,r0:=w,r1:=n,r2:=o,r3:=v,r4:=r,r5:=x,r6:=mi}
theorem Fo (ha:c.algo=1) {s:St} {fn pc:Nat} {w n o v r x mi:Int} {fs:List Fr} (hf:fn=22∨fn=23) (hp:pc≠90):bit c tid s (frR fn pc w n o v r x mi::fs)=Ey c s (frR fn pc w n o v r x mi) fs:=
 (fA ha (by show 21≤fn;omega) (by show fn≤23;omega) hp).trans (if_neg (by show fn≠21;omega))
structure MkM (m m':Loc→Int) (n t r:Int):Prop where
 same:∀ x,(∀ j,r≤j→j<t→x≠.nd n (5+j))→m' x=m x
 marks:∀ j,r≤j→j<t→ptr (m' (.nd n (5+j)))=ptr (m (.nd n (5+j)))∧mark (m' (.nd n (5+j)))=true
theorem dV (G:Good c tid) (ha:c.algo=1) {w n o v t:Int} (hn:1≤n∧n≤c.ns) (ht:t≤c.lv) {m:Loc→Int} (hu:∀ j:Int,0≤j→j<t→mark (m (.nd n (5+j)))=false):∀ (r:Nat) (s:St) (x:Int),(r:Int)≤t→MkM m s.mm n t r→
  ∃ m' x',Runs c tid s [frR 22 7 w n o v r x 1] {s with mm:=m'} [frR 22 11 w n o v 0 x' 1]∧MkM m m' n t 0:=by
 intro r
 induction r with
 |zero=>
  intro s x hr hM
  refine ⟨s.mm,x,Runs.via (o:=⟨s,[frR 22 11 w n o v 0 x 1],[],false⟩) ?_ (Runs.refl _ _),hM⟩
  rw [Fo ha (.inl rfl) Zd]
  rfl
 |succ r ih=>
  intro s x hr hM
  have hlk:=Cm (c:=c) (i:=(r:Int)) Zo hn Zo Zo
  have e:s.mm (.nd n (5+r))=m (.nd n (5+r)):=hM.same _ (fun j a b=>Ar (.inr Zo))
  have e4:(4:Int)+((r+1:Nat):Int)=5+r:=Zo
  have hmf:=hu r Zo Zo
  obtain ⟨y,hy⟩:∃ y,y=m (.nd n (5+r)):=⟨_,rfl⟩
  have b7:bit c tid s [frR 22 7 w n o v (r+1:Nat) x 1]=some ⟨s,[frR 22 8 w n o v (r+1:Nat) y 1],Cu (.nd n (5+r)),true⟩:=by
   rw [Fo ha (.inl rfl) Zd]
   show (if ((r+1:Nat):Int)=0 then ok s ({frR 22 7 w n o v (r+1:Nat) x 1 with pc:=if (1:Int)=1 then 11 else 9}::[]) else if mark (s.mm (.nd n (4+((r+1:Nat):Int)))) then Ao c (.nd n (4+((r+1:Nat):Int))) s [frR 22 7 w n o v (((r+1:Nat):Int)-1) (s.mm (.nd n (4+((r+1:Nat):Int)))) 1] else Ao c (.nd n (4+((r+1:Nat):Int))) s [frR 22 8 w n o v (r+1:Nat) (s.mm (.nd n (4+((r+1:Nat):Int)))) 1])=_
   rw [if_neg Zo,e4,e,if_neg (by rw [hmf];decide),Ah hlk,← hy]
  obtain ⟨s1,hs1⟩:∃ s1,s1=s.put (.nd n (5+r)) (next y (ptr y) true):=⟨_,rfl⟩
  have b8:bit c tid s [frR 22 8 w n o v (r+1:Nat) y 1]=some ⟨s1,[frR 22 7 w n o v r y 1],Cu (.nd n (5+r)),true⟩:=by
   rw [Fo ha (.inl rfl) Zd]
   show (if ((r+1:Nat):Int)<1 then none else if s.mm (.nd n (4+((r+1:Nat):Int)))=y then Ao c (.nd n (4+((r+1:Nat):Int))) (s.put (.nd n (4+((r+1:Nat):Int))) (next y (ptr y) true)) [frR 22 7 w n o v (((r+1:Nat):Int)-1) y 1] else _)=_
   rw [if_neg Zo,e4,e,if_pos hy.symm,Ah hlk,← hs1,show ((r+1:Nat):Int)-1=r by omega]
  have hM1:MkM m s1.mm n t r:=by
   refine ⟨fun z hz=>?_,fun j a b=>?_⟩
   .rw [hs1,Bo _ _ (hz r (Int.le_refl _) Zo)]
    exact hM.same z (fun j a b=>hz j Zo b)
   .by_cases ej:j=(r:Int)
    .subst ej
     rw [hs1,Dl,Em _ _ _ (Fj y).1 (Fj y).2,Eh,← hy]
     exact ⟨rfl,rfl⟩
    .rw [hs1,Bo _ _ (Ar (.inr Zo))]
     exact hM.marks j Zo b
  obtain ⟨m',x',q1,q2⟩:=ih s1 y Zo hM1
  refine ⟨m',x',Runs.via b7 (Runs.via b8 ?_),q2⟩
  have e9:({s1 with mm:=m'}:St)={s with mm:=m'}:=by rw [hs1];rfl
  rw [e9] at q1
  exact q1
theorem rK {tl:Int→Int} {l:List Int} (h:∀ x ∈ l,1≤tl x):fl tl (0:Nat) l=l:=by
 unfold fl
 exact List.filter_eq_self.2 fun x hx=>decide_eq_true (by have:=h x hx;omega)
theorem Vs (G:Good c tid) (ha:c.algo=1) {s:St} {L free:List Int} (fn:Nat) (hf:fn=22∨fn=23) (hO:Owned c s free (1::2::L)) (hK:Sk c s.mm L) :
  (L=[]∧∃ s':St,Runs c tid s [frR fn 0 0 0 0 0 0 0 0] (s'.told 3 0 0) []∧Owned c s' free (1::2::L)∧Sk c s'.mm L∧s'.us=s.us∧s'.mm (.gl 3)=s.mm (.gl 3))∨
  ∃ (n:Int) (R:List Int),L=n::R∧∃ (s':St) (L' free':List Int),Runs c tid s [frR fn 0 0 0 0 0 0 0 0] (s'.told 2 (kvs s.mm n).1 (kvs s.mm n).2) []∧Owned c s' free' (1::2::L')∧Sk c s'.mm L'∧s'.us=s.us∧s'.mm (.gl 3)=s.mm (.gl 3)∧
   (∀ x ∈ L',∀ f,f=0∨f=1→s'.mm (.nd x f)=s.mm (.nd x f))∧(fn=22→L'=R)∧(fn=23→L'=L):=by
 have hN:=G.ns
 have hlv:=G.lv
 have hsl:=Hh (c:=c) Zo
 have hff:21≤fn∧fn≤23:=Zo
 have hse:=Jl (c:=c) Zo
 have h15:c.has (.nd 1 5)=true:=Cl G Zo ⟨Zd,Zo⟩ Zd Zd
 have fini:∀ (s1:St) (f:Fr) (kind key val:Int),f.fn=fn→∃ m',ButHaz s1.mm m'∧Runs c tid s1 (fin s1 f [] kind key val) (({s1 with mm:=m'}:St).told kind key val) []:=fun s1 f kind key val hfn=>
  Ic (c:=c) (tid:=tid) G s1 f kind key val (.inr (.inl ⟨ha,Zo,Zo⟩))
 have b0:bit c tid s [frR fn 0 0 0 0 0 0 0 0]=some ⟨s,[{fn:=3,pc:=0,r0:=c.sl-2,r1:=c.addr (.nd 1 5)},frR fn 1 0 0 0 0 0 0 0],[],false⟩:=by
  rw [Fo ha hf Zd]
  show (if c.has (.nd 1 5) then _ else none)=_
  rw [if_pos h15]
  rfl
 obtain ⟨m1,hb1,hr1⟩:=Lp (c:=c) (tid:=tid) s [frR fn 1 0 0 0 0 0 0 0] (c.sl-2) (c.addr (.nd 1 5)) (.nd 1 5) (aM G Zo) h15 (Gf G.me.1 G.me.2 Zo Zo) (fun _ _ e=>by cases e)
 obtain ⟨s1,hs1⟩:∃ s1,s1=(({s with mm:=m1}:St).told (s.mm (.nd 1 5)) 0 0):=⟨_,rfl⟩
 rw [← hs1] at hr1
 have g0:s1.ret0=s.mm (.nd 1 5):=by rw [hs1];rfl
 have g1:s1.mm=m1:=by rw [hs1];rfl
 have g2:s1.rt=s.rt:=by rw [hs1];rfl
 have g3:s1.us=s.us:=by rw [hs1];rfl
 clear hs1
 have hO1:Owned c s1 free (1::2::L):=hO.bH (by rw [g1];exact hb1) g2
 have hbK:∀ {m m':Loc→Int} {l:List Int},ButHaz m m'→Sk c m l→Sk c m' l:=fun hb hk=>hk.same (by rw [hb.gl];exact Int.le_refl _) (fun x _ f=>hb.nd x f)
 have hK1:Sk c s1.mm L:=by rw [g1];exact hbK hb1 hK
 have hr0:=Runs.via b0 hr1
 have hrow:=hK.rows 0 Zo
 rw [rK (fun x hx=>(hK.talls x hx).1)] at hrow
 cases L with
 |nil=>
  refine .inl ⟨rfl,?_⟩
  have hz:ptr (s.mm (.nd 1 5))=2:=hrow
  obtain ⟨m2,hb2,hr2⟩:=fini s1 (frR fn 1 (s.mm (.nd 1 5)) (ptr (s.mm (.nd 1 5))) 0 0 0 0 0) 3 0 0 rfl
  refine ⟨{s1 with mm:=m2},hr0.trans (Runs.via (o:=⟨s1,fin s1 (frR fn 1 (s.mm (.nd 1 5)) (ptr (s.mm (.nd 1 5))) 0 0 0 0 0) [] 3 0 0,[],false⟩) ?_ hr2),hO1.bH hb2 rfl,hbK hb2 hK1,g3,?_⟩
  .rw [Fo ha hf Zd]
   show (if ptr s1.ret0=2 then ok s1 (fin s1 (frR fn 1 s1.ret0 (ptr s1.ret0) 0 0 0 0 0) [] 3 0 0) else _)=_
   rw [g0,if_pos hz]
   rfl
  .show m2 (.gl 3)=_
   rw [hb2.gl,g1,hb1.gl]
 |cons n R=>
  refine .inr ⟨n,R,rfl,?_⟩
  have hn:=hO.pos (n:=n) Zs
  have hnd:(1::2::n::R).Nodup:=by
   have:=hO.nodup
   rw [List.nodup_append] at this
   exact this.2.1
  have hn1:n≠1:=fun e=>(List.nodup_cons.1 hnd).1 (by simp [e])
  have hn2:n≠2:=fun e=>(List.nodup_cons.1 (List.nodup_cons.1 hnd).2).1 (by simp [e])
  have hnR:n ∉ R:=(List.nodup_cons.1 (List.nodup_cons.1 (List.nodup_cons.1 hnd).2).2).1
  have hR1:1 ∉ R:=fun e=>(List.nodup_cons.1 hnd).1 (by simp [e])
  have hR2:2 ∉ R:=fun e=>(List.nodup_cons.1 (List.nodup_cons.1 hnd).2).1 (by simp [e])
  have hz:ptr (s.mm (.nd 1 5))=n:=hrow.1
  have hv:=hK.vals n (List.mem_cons_self ..)
  have ho:=hK.ords n (List.mem_cons_self ..)
  have ht:=hK.talls n (List.mem_cons_self ..)
  obtain ⟨w,hw⟩:∃ w,w=s.mm (.nd 1 5):=⟨_,rfl⟩
  obtain ⟨v,hvv⟩:∃ v,v=s.mm (.nd n 1):=⟨_,rfl⟩
  obtain ⟨o,hoo⟩:∃ o,o=s.mm (.nd n 0):=⟨_,rfl⟩
  rw [← hvv] at hv
  rw [← hoo] at ho
  rw [← hw] at hz g0
  have hfl:=fun f a b=>Cl (c:=c) G Zo hn (f:=f) a b
  have hkk:(kvs s.mm n).1=o / 4294967296 % 4294967296:=by
   unfold kvs
   show s.mm (.nd n 0) / 4294967296=_
   rw [← hoo];omega
  have hvk:(kvs s.mm n).2=v / 2 % 4294967296:=by
   unfold kvs
   show s.mm (.nd n 1) / 2=_
   rw [← hvv];omega
  rw [hkk,hvk]
  have m1n:∀ x f,s1.mm (.nd x f)=s.mm (.nd x f):=fun x f=>by rw [g1];exact hb1.nd x f
  have b1:bit c tid s1 [frR fn 1 0 0 0 0 0 0 0]=some ⟨s1,[frR fn 2 w n 0 0 0 0 0],[],false⟩:=by
   rw [Fo ha hf Zd]
   show (if ptr s1.ret0=2 then _ else ok s1 [frR fn 2 s1.ret0 (ptr s1.ret0) 0 0 0 0 0])=_
   rw [g0,hz,if_neg hn2]
   rfl
  have b2:bit c tid s1 [frR fn 2 w n 0 0 0 0 0]=some ⟨s1,[frR fn 3 w n 0 v 0 0 0],Cu (.nd n 1),true⟩:=by
   rw [Fo ha hf Zd]
   show Ao c (.nd n 1) s1 [frR fn (if mark (s1.mm (.nd n 1)) then 6 else 3) w n 0 (s1.mm (.nd n 1)) 0 0 0]=_
   rw [m1n,← hvv,if_neg (by rw [hv.2.2];decide),Ah (hfl 1 Zd Zd)]
  have hr3:=hr0.trans (Runs.via b1 (Runs.via b2 (Runs.refl _ _)))
  rcases hf with rfl|rfl
  .have b3:bit c tid s1 [frR 22 3 w n 0 v 0 0 0]=some ⟨s1,[frR 22 4 w n o v 0 0 0],Cu (.nd n 0),true⟩:=by
    rw [Fo ha (.inl rfl) Zd]
    show Ao c (.nd n 0) s1 [frR 22 4 w n (s1.mm (.nd n 0)) v 0 0 0]=_
    rw [m1n,← hoo,Ah (hfl 0 Zd Zd)]
   obtain ⟨s4,hs4⟩:∃ s4,s4=s1.put (.nd n 1) (v+1-v % 2):=⟨_,rfl⟩
   have b4:bit c tid s1 [frR 22 4 w n o v 0 0 0]=some ⟨s4,[frR 22 5 w n o v 0 0 1],Cu (.nd n 1),true⟩:=by
    rw [Fo ha (.inl rfl) Zd]
    show (if s1.mm (.nd n 1)=v then Ao c (.nd n 1) (s1.put (.nd n 1) (v+1-v % 2)) [frR 22 5 w n o v 0 0 1] else _)=_
    rw [if_pos (by rw [m1n,← hvv]),Ah (hfl 1 Zd Zd),← hs4]
   obtain ⟨s5,hs5⟩:∃ s5,s5=s4.put (.nd n 4) 1:=⟨_,rfl⟩
   have b5:bit c tid s4 [frR 22 5 w n o v 0 0 1]=some ⟨s5,[frR 22 6 w n o v 0 0 1],Cu (.nd n 4),true⟩:=by
    rw [Fo ha (.inl rfl) Zd,hs5]
    exact Ah (hfl 4 Zd Zd)
   have e5:∀ x,x≠.nd n 1→x≠.nd n 4→s5.mm x=s1.mm x:=fun x h1 h2=>by rw [hs5,Bo _ _ h2,hs4,Bo _ _ h1]
   obtain ⟨t,htt⟩:∃ t,t=s.mm (.nd n 3):=⟨_,rfl⟩
   have ht':1≤t∧t≤c.lv:=by rw [htt];exact ht
   have b6:bit c tid s5 [frR 22 6 w n o v 0 0 1]=some ⟨s5,[frR 22 7 w n o v t 0 1],Cu (.nd n 3),true⟩:=by
    rw [Fo ha (.inl rfl) Zd]
    show Ao c (.nd n 3) s5 [frR 22 7 w n o v (s5.mm (.nd n 3)) 0 1]=_
    rw [e5 _ (Ar (.inr Zd)) (Ar (.inr Zd)),m1n,← htt,Ah (hfl 3 Zd Zd)]
   obtain ⟨m7,x7,r7,k7⟩:=dV G ha (w:=w) (n:=n) (o:=o) (v:=v) (t:=t) hn ht'.2 (m:=s5.mm) (fun j a b=>by
    rw [e5 _ (Ar (.inr Zo)) (Ar (.inr Zo)),m1n]
    have:=hK.clear j.toNat Zo n (List.mem_cons_of_mem _ (fl_mem.2 ⟨List.mem_cons_self ..,by show ((j.toNat:Nat):Int)<s.mm (.nd n 3);rw [← htt];omega⟩))
    rw [show ((j.toNat:Nat):Int)=j by omega] at this
    exact this) t.toNat s5 0 Zo ⟨fun _ _=>rfl,fun j a b=>Zo⟩
   rw [show ((t.toNat:Nat):Int)=t by omega] at r7
   have hm7:m7 (.nd n 2)=1:=by
    rw [k7.same _ (fun j a b=>Ar (.inr Zo)),e5 _ (Ar (.inr Zd)) (Ar (.inr Zd)),m1n]
    exact hK.refs n (List.mem_cons_self ..)
   obtain ⟨s8,hs8⟩:∃ s8:St,s8=({s5 with mm:=m7}:St).put (.nd n 2) 0:=⟨_,rfl⟩
   have b11:bit c tid ({s5 with mm:=m7}:St) [frR 22 11 w n o v 0 x7 1]=some ⟨s8,[Dq 0 o 0 0 0 0,frR 22 12 w n o v 0 x7 1],Cu (.nd n 2),true⟩:=by
    rw [Fo ha (.inl rfl) Zd]
    show Ml c ({s5 with mm:=m7}:St) (frR 22 11 w n o v 0 x7 1) [] n 12 13 o=_
    unfold Ml
    show (if m7 (.nd n 2)=1 then Ao c (.nd n 2) (({s5 with mm:=m7}:St).put (.nd n 2) (u64 (m7 (.nd n 2)-1))) _ else _)=_
    rw [hm7,if_pos rfl,Ah (hfl 2 Zd Zd),show u64 (1-1)=0 from Zd,← hs8]
    rfl
   have e8:∀ x f,x≠n→s8.mm (.nd x f)=s.mm (.nd x f):=fun x f hx=>by
    rw [hs8,Bo _ _ (Ar (.inl hx))]
    show m7 _=_
    rw [k7.same _ (fun j a b=>Ar (.inl hx)),e5 _ (Ar (.inl hx)) (Ar (.inl hx)),m1n]
   have e8n:∀ j:Int,0≤j→s8.mm (.nd n (5+j))=m7 (.nd n (5+j)):=fun j a=>by rw [hs8,Bo _ _ (Ar (.inr Zo))]
   have e8p:∀ j:Int,0≤j→ptr (s8.mm (.nd n (5+j)))=ptr (s.mm (.nd n (5+j))):=fun j a=>by
    rw [e8n j a,← m1n,← e5 _ (Ar (.inr Zo)) (Ar (.inr Zo))]
    by_cases hj:j<t
    .exact (k7.marks j a hj).1
    .rw [k7.same _ (fun i x y=>Ar (.inr Zo))]
   have e8o:∀ x,(∀ f,x≠.nd n f)→s8.mm x=s1.mm x:=fun x hx=>by
    rw [hs8,Bo _ _ (hx 2)]
    show m7 _=_
    rw [k7.same _ (fun j a b=>hx _),e5 _ (hx 1) (hx 4)]
   have hRin:∀ x ∈ R,x≠n∧x≠1∧x≠2:=fun x hx=>⟨fun e=>hnR (e▸hx),fun e=>hR1 (e▸hx),fun e=>hR2 (e▸hx)⟩
   have hRt:∀ j:Nat,fl (Gy s.mm) j (n::R)=if (j:Int)<t then n::fl (Gy s.mm) j R else fl (Gy s.mm) j R:=fun j=>by
    rw [Xr]
    show (if (j:Int)<s.mm (.nd n 3) then _ else _)=_
    rw [← htt]
   have hsort:=List.pairwise_cons.1 hK.sorted
   obtain ⟨s9,d9,u9,q9,r9⟩:=lY G ha (o:=o) (d:=n) (t:=t) (R:=fun j=>fl (Gy s.mm) j R) (m:=s8.mm) [frR 22 12 w n o v 0 x7 1] (by show 1≤40;decide) hn hn1 hn2 Zo
    (fun j hj=>by
     have h1:=hK.rows j hj
     rw [hRt] at h1
     by_cases hjt:(j:Int)<t
     .rw [if_pos hjt] at h1 ⊢
      refine Row.congr (fun x hx=>?_) h1
      by_cases hx2:x=n
      .rw [hx2];exact e8p j Zo
      .rw [e8 _ _ hx2]
     .rw [if_neg hjt] at h1 ⊢
      refine Row.congr (fun x hx=>?_) h1
      by_cases hx2:x=n
      .rw [hx2];exact e8p j Zo
      .rw [e8 _ _ hx2])
    (fun j hj=>by rw [e8 _ _ (Ne.symm hn1)];exact hK.clear j hj 1 (List.mem_cons_self ..))
    (fun j hj=>by rw [e8n j Zo];exact (k7.marks j Zo hj).2)
    (fun j hj y hy=>by
     have hyR:=(fl_mem.1 hy).1
     have h1:=hRin y hyR
     have h2:=hO.pos (n:=y) (by simp [hyR])
     refine ⟨h1.2.2,h1.2.1,h2.1,h2.2,?_,?_⟩
     .rw [e8 _ _ h1.1]
      exact hK.clear j hj y (List.mem_cons_of_mem _ (fl_mem.2 ⟨List.mem_cons_of_mem _ hyR,(fl_mem.1 hy).2⟩))
     .rw [e8 _ _ h1.1,hoo]
      exact Int.le_of_lt (hsort.1 y hyR))
    (c.lv-1).toNat s8 0 0 Zo ⟨fun _ _ _=>rfl,fun j a b=>Zo⟩
   have b20:bit c tid s8 [Dq 0 o 0 0 0 0,frR 22 12 w n o v 0 x7 1]=some ⟨s8,[Dq 1 o (c.lv-1:Int).toNat 1 0 0,frR 22 12 w n o v 0 x7 1],[],false⟩:=by
    rw [En ha,show (((c.lv-1:Int).toNat:Nat):Int)=c.lv-1 by omega]
    rfl
   have b12:bit c tid (s9.told 0 0 0) [frR 22 12 w n o v 0 x7 1]=some ⟨s9.told 0 0 0,[{fn:=5,pc:=0,r0:=n},frR 22 13 w n o v 0 x7 1],[],false⟩:=by
    rw [Fo ha (.inl rfl) Zd]
    rfl
   have h9g:∀ x,(∀ a b,x≠.haz a b)→(∀ a f,x≠.nd a f)→s9.mm x=s.mm x:=fun x h1 h2=>by
    rw [d9.same x h1 (fun j a b=>h2 _ _),e8o x (fun f=>h2 _ _),g1,hb1 x h1]
   have h9n:∀ x f,x≠n→x≠1→s9.mm (.nd x f)=s.mm (.nd x f):=fun x f h1 h2=>by
    rw [d9.same _ (fun _ _ e=>by cases e) (fun j a b=>Ar (.inl h2)),e8 _ _ h1]
   have h9h:∀ j:Int,0≤j→mark (s9.mm (.nd 1 (5+j)))=mark (s.mm (.nd 1 (5+j)))∨(j<t∧mark (s9.mm (.nd 1 (5+j)))=false):=fun j a=>by
    by_cases hj:j<t
    .rw [d9.past j a hj,Eh];exact .inr ⟨hj,rfl⟩
    .rw [d9.same _ (fun _ _ e=>by cases e) (fun i x y=>Ar (.inr Zo)),e8 _ _ (Ne.symm hn1)];exact .inl rfl
   have hK9:Sk c s9.mm R:=by
    have htl:∀ x ∈ R,Gy s9.mm x=Gy s.mm x:=fun x hx=>h9n x 3 (hRin x hx).1 (hRin x hx).2.1
    have hg3:s9.mm (.gl 3)=s.mm (.gl 3):=h9g _ (fun _ _ e=>by cases e) (fun _ _ e=>by cases e)
    refine ⟨fun j hj=>?_,fun j hj x hx=>?_,?_,fun x hx=>?_,fun x hx=>?_,fun x hx=>?_,fun x hx=>?_,by rw [hg3];exact hK.tick⟩
    .rw [Oz htl]
     have h1:=hK.rows j hj
     rw [hRt] at h1
     have hoth:∀ x ∈ fl (Gy s.mm) j R,ptr (s9.mm (.nd x (5+j)))=ptr (s.mm (.nd x (5+j))):=fun x hx=>by
      have:=hRin x (fl_mem.1 hx).1
      rw [h9n x _ this.1 this.2.1]
     by_cases hjt:(j:Int)<t
     .rw [if_pos hjt] at h1
      refine Row.move h1.2 ?_ hoth
      have pr:=Fj (s8.mm (.nd n (5+j)))
      rw [d9.past j Zo hjt,Em _ _ _ pr.1 pr.2,e8p j Zo]
     .rw [if_neg hjt] at h1
      refine Row.move h1 ?_ hoth
      rw [d9.same _ (fun _ _ e=>by cases e) (fun i x y=>Ar (.inr Zo)),e8 _ _ (Ne.symm hn1)]
    .rw [Oz htl] at hx
     rcases List.mem_cons.1 hx with rfl|hx
     .rcases h9h j Zo with h1|h1
      .rw [h1];exact hK.clear j hj 1 (List.mem_cons_self ..)
      .exact h1.2
     .have h1:=hRin x (fl_mem.1 hx).1
      rw [h9n x _ h1.1 h1.2.1]
      exact hK.clear j hj x (List.mem_cons_of_mem _ (fl_mem.2 ⟨List.mem_cons_of_mem _ (fl_mem.1 hx).1,(fl_mem.1 hx).2⟩))
    .exact List.Pairwise.imp_of_mem (fun {a b} x y hab=>by rw [h9n a 0 (hRin a x).1 (hRin a x).2.1,h9n b 0 (hRin b y).1 (hRin b y).2.1];exact hab) hsort.2
    .rw [htl x hx];exact hK.talls x (List.mem_cons_of_mem _ hx)
    .rw [h9n x 2 (hRin x hx).1 (hRin x hx).2.1];exact hK.refs x (List.mem_cons_of_mem _ hx)
    .rw [h9n x 1 (hRin x hx).1 (hRin x hx).2.1];exact hK.vals x (List.mem_cons_of_mem _ hx)
    .rw [h9n x 0 (hRin x hx).1 (hRin x hx).2.1,hg3];exact hK.ords x (List.mem_cons_of_mem _ hx)
   have hre9:s9.rt=s.rt:=by rw [q9,hs8,hs5,hs4];exact g2
   have hO9:Owned c (s9.told 0 0 0) free (n::1::2::R):=by
    have h1:Owned c s9 free (1::2::n::R):=hO.same (h9g _ (fun _ _ e=>by cases e) (fun _ _ e=>by cases e)) (fun x=>h9g _ (fun _ _ e=>by cases e) (fun _ _ e=>by cases e)) hre9
    have hpm:(1::2::n::R).Perm (n::1::2::R):=((List.Perm.cons 1 (List.Perm.swap n 2 R)).trans (List.Perm.swap n 1 (2::R)))
    exact (h1.perm hpm).told _ _ _
   obtain ⟨s10,free10,r10,o10,k10,f10⟩:=Ke G [frR 22 13 w n o v 0 x7 1] hO9
   obtain ⟨m11,hb11,r11⟩:=fini (s10.told 0 0 0) (frR 22 13 w n o v 0 x7 1) 2 (o / 4294967296 % 4294967296) (v / 2 % 4294967296) rfl
   have b13:bit c tid (s10.told 0 0 0) [frR 22 13 w n o v 0 x7 1]=some ⟨s10.told 0 0 0,fin (s10.told 0 0 0) (frR 22 13 w n o v 0 x7 1) [] 2 (o / 4294967296 % 4294967296) (v / 2 % 4294967296),[],false⟩:=by
    rw [Fo ha (.inl rfl) Zd]
    rfl
   have hK11:Sk c m11 R:=hbK hb11 (hK9.same (by show _≤s10.mm (.gl 3);rw [f10.1 3 Zd];exact Int.le_refl _) (fun x _ f=>f10.2.1 x f))
   refine ⟨{s10 with mm:=m11},R,free10,hr3.trans (Runs.via b3 (Runs.via b4 (Runs.via b5 (Runs.via b6 (r7.trans (Runs.via b11 (Runs.via b20 (r9.trans (Runs.via b12 (r10.trans (Runs.via b13 r11))))))))))),o10.bH hb11 rfl,hK11,?_,?_,fun x hx f hf=>?_,fun _=>rfl,fun e=>absurd e Zd⟩
   .show s10.us=_
    rw [k10.us]
    show s9.us=_
    rw [u9,hs8,hs5,hs4]
    exact g3
   .show m11 (.gl 3)=_
    rw [hb11.gl]
    show s10.mm (.gl 3)=_
    rw [f10.1 3 Zd]
    exact h9g _ (fun _ _ e=>by cases e) (fun _ _ e=>by cases e)
   .show m11 (.nd x f)=_
    rw [hb11.nd]
    show s10.mm (.nd x f)=_
    rw [f10.2.1]
    exact h9n x f (hRin x hx).1 (hRin x hx).2.1
  .obtain ⟨m4,hb4,hr4⟩:=fini s1 (frR 23 3 w n o v 0 0 0) 2 (o / 4294967296 % 4294967296) (v / 2 % 4294967296) rfl
   refine ⟨{s1 with mm:=m4},n::R,free,hr3.trans (Runs.via (o:=⟨s1,fin s1 (frR 23 3 w n o v 0 0 0) [] 2 (o / 4294967296 % 4294967296) (v / 2 % 4294967296),Cu (.nd n 0),true⟩) ?_ hr4),hO1.bH hb4 rfl,hbK hb4 hK1,g3,?_,fun x _ f _=>?_,fun e=>absurd e Zd,fun _=>rfl⟩
   .rw [Fo ha (.inr rfl) Zd]
    show Ao c (.nd n 0) s1 (fin s1 (frR 23 3 w n (s1.mm (.nd n 0)) v 0 0 0) [] 2 (s1.mm (.nd n 0) / 4294967296 % 4294967296) (v / 2 % 4294967296))=_
    rw [m1n,← hoo,Ah (hfl 0 Zd Zd)]
   .show m4 (.gl 3)=_
    rw [hb4.gl,g1,hb1.gl]
   .show m4 (.nd x f)=_
    rw [hb4.nd,m1n]
def oU (c:Cf) (s:St) (b:List (Int×Int)):Prop:=∃ (L free:List Int),Owned c s free (1::2::L)∧Sk c s.mm L∧b.Perm (L.map (kvs s.mm))
theorem lG {m m':Loc→Int} {L:List Int} (h:∀ x ∈ L,∀ f,f=0∨f=1→m' (.nd x f)=m (.nd x f)):L.map (kvs m')=L.map (kvs m):=
 List.map_congr_left fun x hx=>by unfold kvs;rw [h x hx 0 (.inl rfl),h x hx 1 (.inr rfl)]
theorem iF {m:Loc→Int} {n:Int} {R:List Int} (h:(n::R).Pairwise fun a b=>m (.nd a 0)<m (.nd b 0)):∀ x ∈ n::R,(kvs m n).1≤(kvs m x).1:=by
 intro x hx
 unfold kvs
 show m (.nd n 0) / 4294967296≤m (.nd x 0) / 4294967296
 rcases List.mem_cons.1 hx with rfl|hx
 .omega
 .have:=(List.pairwise_cons.1 h).1 x hx
  omega
theorem nC (G:Good c tid) (ha:c.algo=1) {s:St} {b:List (Int×Int)} {op key val:Int} (h:oU c s b) (hq:Pf op key val) (hu:s.us<1000000) (ht:s.mm (.gl 3)+1<4294967296) :
  ∃ (s':St) (kind k v:Int),Runs c tid s [first c op key val] (s'.told kind k v) []∧((op=0∧kind=1∧k=0∧v=0)∨∃ b',mR b op key val kind k v b'∧oU c (s'.told kind k v) b'∧s'.us≤s.us+1∧s'.mm (.gl 3)≤s.mm (.gl 3)+1):=by
 obtain ⟨L,free,hO,hK,hb⟩:=h
 rcases hq with ⟨rfl,h1,h2,h3,h4⟩|⟨hop,rfl,rfl⟩
 .have e:first c 0 key val=frI 21 0 key val 0 0 0 0 0 0:=by unfold first;rw [if_neg Zo,if_pos ha];rfl
  rw [e]
  rcases Vy G ha key val ⟨h1,h2⟩ ⟨h3,h4⟩ ht hu hO hK with ⟨s',r⟩|⟨s',L',free',r,o,m,u,g,p⟩
  .exact ⟨s',1,0,0,r,.inl ⟨rfl,rfl,rfl,rfl⟩⟩
  .exact ⟨s',0,0,0,r,.inr ⟨(key,val)::b,.inl ⟨rfl,rfl,rfl,rfl,List.Perm.refl _⟩,⟨L',free',o.told _ _ _,m,(List.Perm.cons _ hb).trans p.symm⟩,Zo,Zo⟩⟩
 .obtain ⟨fn,hfn,e⟩:∃ fn:Nat,((op=1∧fn=22)∨(op=2∧fn=23))∧first c op 0 0=frR fn 0 0 0 0 0 0 0 0:=by
   rcases hop with rfl|rfl
   .exact ⟨22,.inl ⟨rfl,rfl⟩,by unfold first;rw [if_neg Zo,if_pos ha];rfl⟩
   .exact ⟨23,.inr ⟨rfl,rfl⟩,by unfold first;rw [if_neg Zo,if_pos ha];rfl⟩
  rw [e]
  rcases Vs G ha fn Zo hO hK with ⟨h0,s',r,o,m,u,g⟩|⟨n,R,hL,s',L',free',r,o,m,u,g,hk,hp1,hp2⟩
  .subst h0
   have hb0:b=[]:=by simpa using hb
   exact ⟨s',3,0,0,r,.inr ⟨[],.inr (.inl ⟨Zo,hb0,rfl,rfl,rfl,rfl⟩),⟨[],free,o.told _ _ _,m,List.Perm.refl _⟩,Zo,Zo⟩⟩
  .have hin:((kvs s.mm n).1,(kvs s.mm n).2) ∈ b:=hb.mem_iff.2 (by rw [hL];exact List.mem_map.2 ⟨n,List.mem_cons_self ..,rfl⟩)
   have hle:∀ p ∈ b,(kvs s.mm n).1≤p.1:=fun p hp=>by
    obtain ⟨x,hx,rfl⟩:=List.mem_map.1 (hb.mem_iff.1 hp)
    rw [hL] at hx
    have hs:=hK.sorted
    rw [hL] at hs
    exact iF hs x hx
   rcases hfn with ⟨rfl,rfl⟩|⟨rfl,rfl⟩
   .have e1:=hp1 rfl
    refine ⟨s',2,_,_,r,.inr ⟨R.map (kvs s.mm),.inr (.inr ⟨Zd,rfl,hin,hle,.inl ⟨rfl,?_⟩⟩),⟨L',free',o.told _ _ _,m,?_⟩,Zo,Zo⟩⟩
    .rw [hL] at hb
     exact hb
    .show List.Perm _ (List.map (kvs s'.mm) _)
     rw [lG hk,e1]
   .have e1:=hp2 rfl
    refine ⟨s',2,_,_,r,.inr ⟨b,.inr (.inr ⟨Zd,rfl,hin,hle,.inr ⟨rfl,List.Perm.refl _⟩⟩),⟨L',free',o.told _ _ _,m,?_⟩,Zo,Zo⟩⟩
    show List.Perm _ (List.map (kvs s'.mm) _)
    rw [lG hk,e1]
    exact hb
def Ep (pc:Nat) (o e i p w x:Int):Fr:={fn:=30,pc:=pc,r0:=o,r1:=e,r2:=i,r3:=p,r4:=w,r5:=x}
theorem Oo (ha:c.algo=2) {s:St} {f:Fr} {fs:List Fr}:bit c tid s (f::fs)=Ef c tid s f fs:=by
 show (if c.algo=0 then _ else if c.algo=1 then _ else Ef c tid s f fs)=_
 rw [if_neg Zo,if_neg Zo]
theorem Hd (ha:c.algo=2) {s:St} {pc:Nat} {o e i p w x:Int} {fs:List Fr}:bit c tid s (Ep pc o e i p w x::fs)=Gp c tid s (Ep pc o e i p w x) fs:=by
 rw [Oo ha]
 unfold Ef
 rw [if_pos (by show 30<31∨_;omega)]
 rfl
def Qx (s:St) (i p w x:Int):St:=if i=0 then (cP s i p w).told x 0 0 else cP s i p w
def Qw (o e i p w x:Int) (fs:List Fr):List Fr:=if i=0 then fs else Ep 1 o e (i-1) p w x::fs
theorem aK (G:Good c tid) (ha:c.algo=2) {s:St} {o e i p y w0 x:Int} (fs:List Fr) (hfs:fs.length≤40) (hi0:0≤i) (hi1:i<c.lv) (hp:1≤p∧p≤c.ns) (hy2:y≠2) (h:ptr (s.mm (.nd p (5+i)))=y) :
  ∃ m',ButHaz s.mm m'∧Runs c tid s (Ep 1 o e i p w0 x::fs) {s with mm:=m'} (Ep 4 o e i p (s.mm (.nd p (5+i))) x::fs):=by
 have hsl:=Hh (c:=c) Zo
 obtain ⟨w,hw⟩:∃ w,s.mm (.nd p (5+i))=w:=⟨_,rfl⟩
 rw [hw] at h ⊢
 have hlk:=Cm (c:=c) Zo hp hi0 hi1
 have hz0:=Gf (c:=c) G.me.1 G.me.2 (i:=2*i) Zo Zo
 have hz1:=Gf (c:=c) G.me.1 G.me.2 (i:=2*i+1) Zo Zo
 have b1:bit c tid s (Ep 1 o e i p w0 x::fs)=some ⟨s.put (.haz tid (2*i)) p,Ep 2 o e i p w0 x::fs,[],true⟩:=by
  rw [Hd ha]
  exact Ah hz0
 obtain ⟨s1,hs1⟩:∃ s1,s1=s.put (.haz tid (2*i)) p:=⟨_,rfl⟩
 rw [← hs1] at b1
 have h1:ButHaz s.mm s1.mm:=by rw [hs1];exact ButHaz.upd _ _ _ _
 have b2:bit c tid s1 (Ep 2 o e i p w0 x::fs)=some ⟨s1,Ep 3 o e i p w x::fs,Cu (.nd p (5+i)),true⟩:=by
  rw [Hd ha]
  show (if ptr (s1.mm (.nd p (5+i)))=2 then _ else Ao c (.nd p (5+i)) s1 (Ep 3 o e i p (s1.mm (.nd p (5+i))) x::fs))=_
  rw [h1.nd,hw,if_neg Zo,Ah hlk]
 have b3:bit c tid s1 (Ep 3 o e i p w x::fs)=some ⟨s1.put (.haz tid (2*i+1)) y,Ep 4 o e i p w x::fs,[],true⟩:=by
  rw [Hd ha]
  show Ao c (.haz tid (2*i+1)) (s1.put (.haz tid (2*i+1)) (ptr w)) _=_
  rw [h,Ah hz1]
  rfl
 refine ⟨(s1.put (.haz tid (2*i+1)) y).mm,h1.trans (ButHaz.upd _ _ _ _),Runs.via b1 (Runs.via b2 (Runs.via b3 ?_))⟩
 have e9:({s with mm:=(s1.put (.haz tid (2*i+1)) y).mm}:St)=s1.put (.haz tid (2*i+1)) y:=by rw [hs1];rfl
 rw [e9]
 exact Runs.refl _ _
theorem kZ (G:Good c tid) (ha:c.algo=2) {s:St} {o e i p w0 x:Int} (fs:List Fr) (hfs:fs.length≤40) (hi0:0≤i) (hi1:i<c.lv) (hp:1≤p∧p≤c.ns) (h:ptr (s.mm (.nd p (5+i)))=2) :
  ∃ m',ButHaz s.mm m'∧Runs c tid s (Ep 1 o e i p w0 x::fs) (Qx {s with mm:=m'} i p (s.mm (.nd p (5+i))) x) (Qw o e i p (s.mm (.nd p (5+i))) x fs):=by
 have hsl:=Hh (c:=c) Zo
 have hlk:=Cm (c:=c) Zo hp hi0 hi1
 have hz0:=Gf (c:=c) G.me.1 G.me.2 (i:=2*i) Zo Zo
 refine ⟨(s.put (.haz tid (2*i)) p).mm,ButHaz.upd _ _ _ _,Runs.via (o:=⟨s.put (.haz tid (2*i)) p,Ep 2 o e i p w0 x::fs,[],true⟩) ?_ (Runs.via (o:=⟨_,_,Cu (.nd p (5+i)),true⟩) ?_ (Runs.refl _ _))⟩
 .rw [Hd ha]
  exact Ah hz0
 .rw [Hd ha]
  have e1:(s.put (.haz tid (2*i)) p).mm (.nd p (5+i))=s.mm (.nd p (5+i)):=Bo _ _ (fun e=>by cases e)
  show (if ptr ((s.put (.haz tid (2*i)) p).mm (.nd p (5+i)))=2 then (if c.row i then Ao c (.nd p (5+i)) (Nk (s.put (.haz tid (2*i)) p) (Ep 3 o e i p ((s.put (.haz tid (2*i)) p).mm (.nd p (5+i))) x)) (Le (Ep 3 o e i p ((s.put (.haz tid (2*i)) p).mm (.nd p (5+i))) x) fs) else none) else _)=_
  rw [e1,if_pos h,if_pos (Gj hi0 hi1),Ah hlk]
  rfl
theorem lC (G:Good c tid) (ha:c.algo=2) {s:St} {o e i p y w0 x:Int} (fs:List Fr) (hfs:fs.length≤40) (hi0:0≤i) (hi1:i<c.lv) (hp:1≤p∧p≤c.ns) (hy:1≤y∧y≤c.ns) (hy2:y≠2) (he:s.mm (.gl 1)=e) (h:ptr (s.mm (.nd p (5+i)))=y)
  (hps:if i=0 then (mark (s.mm (.nd p 5))=true∨s.mm (.nd y 0)<o) else (mark (s.mm (.nd y 5))=true∨s.mm (.nd y 0)<o)) :
  ∃ m' w',ButHaz s.mm m'∧Runs c tid s (Ep 1 o e i p w0 x::fs) {s with mm:=m'} (Ep 1 o e i y w' (if i=0∧mark (s.mm (.nd p 5))=true then y else x)::fs):=by
 obtain ⟨m1,hb,r1⟩:=aK G ha (s:=s) (o:=o) (e:=e) (i:=i) (p:=p) (y:=y) (w0:=w0) (x:=x) fs hfs hi0 hi1 hp hy2 h
 refine ⟨m1,s.mm (.nd p (5+i)),hb,r1.trans ?_⟩
 obtain ⟨w,hw⟩:∃ w,s.mm (.nd p (5+i))=w:=⟨_,rfl⟩
 obtain ⟨s1,hs1⟩:∃ s1:St,s1={s with mm:=m1}:=⟨_,rfl⟩
 have hm:s1.mm=m1:=by rw [hs1]
 have hrow:=Gj hi0 hi1
 have hgl:=Cw (c:=c) 1 Zd Zd
 have hg:s1.mm (.gl 1)=e:=by rw [hm,hb.gl,he]
 have hmn:∀ a f,s1.mm (.nd a f)=s.mm (.nd a f):=fun a f=>by rw [hm];exact hb.nd a f
 rw [← hs1]
 rw [hw] at h ⊢
 have b4:bit c tid s1 (Ep 4 o e i p w x::fs)=if i=0∧mark w=true then some ⟨s1,Ep 1 o e i y w y::fs,[],true⟩ else some ⟨s1,Ep (if i>0 then 5 else 6) o e i p w x::fs,[],true⟩:=by
  rw [Hd ha]
  show (if c.row i=false then none else if s1.mm (.gl 1)≠e then _ else if i=0∧mark w=true then Ao c (.gl 1) s1 (Ep 1 o e i (ptr w) w (ptr w)::fs) else Ao c (.gl 1) s1 (Ep (if i>0 then 5 else 6) o e i p w x::fs))=_
  rw [if_neg (by rw [hrow];decide),if_neg (by rw [hg];simp),h]
  split
  .rw [Ah hgl];rfl
  .rw [Ah hgl];rfl
 have b6:s.mm (.nd y 0)<o→bit c tid s1 (Ep 6 o e i p w x::fs)=some ⟨s1,Ep 1 o e i y w x::fs,Cu (.nd y 0),true⟩:=fun hlt=>by
  rw [Hd ha]
  show (if s1.mm (.nd (ptr w) 0)<o then Ao c (.nd (ptr w) 0) s1 (Ep 1 o e i (ptr w) w x::fs) else _)=_
  rw [h,hmn,if_pos hlt,Ah (Cl G Zo hy Zd Zd)]
 by_cases h0:i=0
 .subst h0
  rw [show (5:Int)+0=5 from rfl] at hw
  rw [if_pos rfl,hw] at hps
  rw [hw]
  by_cases hmk:mark w=true
  .rw [if_pos ⟨rfl,hmk⟩] at b4 ⊢
   exact Runs.via b4 (Runs.refl _ _)
  .rw [if_neg (fun q=>hmk q.2)] at b4 ⊢
   rw [if_neg Zo] at b4
   exact Runs.via b4 (Runs.via (b6 (hps.resolve_left hmk)) (Runs.refl _ _))
 .rw [if_neg h0] at hps
  rw [if_neg (fun q=>h0 q.1)] at b4 ⊢
  rw [if_pos Zo] at b4
  have b5:bit c tid s1 (Ep 5 o e i p w x::fs)=if mark (s.mm (.nd y 5))=true then some ⟨s1,Ep 1 o e i y w x::fs,Cu (.nd y 5),true⟩ else some ⟨s1,Ep 6 o e i p w x::fs,Cu (.nd y 5),true⟩:=by
   rw [Hd ha]
   show (if mark (s1.mm (.nd (ptr w) 5))=true then Ao c (.nd (ptr w) 5) s1 (Ep 1 o e i (ptr w) w x::fs) else Ao c (.nd (ptr w) 5) s1 (Ep 6 o e i p w x::fs))=_
   rw [h,hmn]
   split
   .rw [Ah (Cl G Zo hy Zd Zd)]
   .rw [Ah (Cl G Zo hy Zd Zd)]
  by_cases hmk:mark (s.mm (.nd y 5))=true
  .rw [if_pos hmk] at b5
   exact Runs.via b4 (Runs.via b5 (Runs.refl _ _))
  .rw [if_neg hmk] at b5
   exact Runs.via b4 (Runs.via b5 (Runs.via (b6 (hps.resolve_left hmk)) (Runs.refl _ _)))
theorem lA (G:Good c tid) (ha:c.algo=2) {s:St} {o e i p y w0 x:Int} (fs:List Fr) (hfs:fs.length≤40) (hi0:0≤i) (hi1:i<c.lv) (hp:1≤p∧p≤c.ns) (hy:1≤y∧y≤c.ns) (hy2:y≠2) (he:s.mm (.gl 1)=e) (h:ptr (s.mm (.nd p (5+i)))=y)
  (hps:if i=0 then mark (s.mm (.nd p 5))=false else mark (s.mm (.nd y 5))=false) (ho:o≤s.mm (.nd y 0)) :
  ∃ m',ButHaz s.mm m'∧Runs c tid s (Ep 1 o e i p w0 x::fs) (Qx {s with mm:=m'} i p (s.mm (.nd p (5+i))) x) (Qw o e i p (s.mm (.nd p (5+i))) x fs):=by
 obtain ⟨m1,hb,r1⟩:=aK G ha (s:=s) (o:=o) (e:=e) (i:=i) (p:=p) (y:=y) (w0:=w0) (x:=x) fs hfs hi0 hi1 hp hy2 h
 refine ⟨m1,hb,r1.trans ?_⟩
 obtain ⟨w,hw⟩:∃ w,s.mm (.nd p (5+i))=w:=⟨_,rfl⟩
 obtain ⟨s1,hs1⟩:∃ s1:St,s1={s with mm:=m1}:=⟨_,rfl⟩
 have hm:s1.mm=m1:=by rw [hs1]
 have hrow:=Gj hi0 hi1
 have hgl:=Cw (c:=c) 1 Zd Zd
 have hg:s1.mm (.gl 1)=e:=by rw [hm,hb.gl,he]
 have hmn:∀ a f,s1.mm (.nd a f)=s.mm (.nd a f):=fun a f=>by rw [hm];exact hb.nd a f
 rw [← hs1]
 rw [hw] at h ⊢
 have hnm:¬ (i=0∧mark w=true):=fun q=>by
  have h0:=q.1
  subst h0
  rw [show (5:Int)+0=5 from rfl] at hw
  rw [if_pos rfl,hw,q.2] at hps
  cases hps
 have b4:bit c tid s1 (Ep 4 o e i p w x::fs)=some ⟨s1,Ep (if i>0 then 5 else 6) o e i p w x::fs,[],true⟩:=by
  rw [Hd ha]
  show (if c.row i=false then none else if s1.mm (.gl 1)≠e then _ else if i=0∧mark w=true then Ao c (.gl 1) s1 (Ep 1 o e i (ptr w) w (ptr w)::fs) else Ao c (.gl 1) s1 (Ep (if i>0 then 5 else 6) o e i p w x::fs))=_
  rw [if_neg (by rw [hrow];decide),if_neg (by rw [hg];simp),if_neg hnm,Ah hgl]
  rfl
 have b6:bit c tid s1 (Ep 6 o e i p w x::fs)=some ⟨Qx s1 i p w x,Qw o e i p w x fs,Cu (.nd y 0),true⟩:=by
  rw [Hd ha]
  show (if s1.mm (.nd (ptr w) 0)<o then _ else if c.row i then Ao c (.nd (ptr w) 0) (Nk s1 (Ep 6 o e i p w x)) (Le (Ep 6 o e i p w x) fs) else none)=_
  rw [h,hmn,if_neg Zo,if_pos hrow,Ah (Cl G Zo hy Zd Zd)]
  rfl
 by_cases h0:i=0
 .rw [if_neg Zo] at b4
  exact Runs.via b4 (Runs.via b6 (Runs.refl _ _))
 .rw [if_neg h0] at hps
  rw [if_pos Zo] at b4
  have b5:bit c tid s1 (Ep 5 o e i p w x::fs)=some ⟨s1,Ep 6 o e i p w x::fs,Cu (.nd y 5),true⟩:=by
   rw [Hd ha]
   show (if mark (s1.mm (.nd (ptr w) 5))=true then _ else Ao c (.nd (ptr w) 5) s1 (Ep 6 o e i p w x::fs))=_
   rw [h,hmn,if_neg (by rw [hps];decide),Ah (Cl G Zo hy Zd Zd)]
  exact Runs.via b4 (Runs.via b5 (Runs.via b6 (Runs.refl _ _)))
def Ex (m:Loc→Int):Int→Int→List Int→Int
 |x,_,[]=>x
 |x,p,y::A=>Ex m (if mark (m (.nd p 5))=true then y else x) y A
theorem Lz {m m':Loc→Int} (h:∀ x f,m' (.nd x f)=m (.nd x f)):∀ (A:List Int) (x p:Int),Ex m' x p A=Ex m x p A
 |[],_,_=>rfl
 |y::A,x,p=>by
  show Ex m' _ y A=Ex m _ y A
  rw [h,Lz h A]
def Passes (m:Loc→Int) (o i:Int):Int→List Int→Prop
 |_,[]=>True
 |p,y::A=>(if i=0 then (mark (m (.nd p 5))=true∨m (.nd y 0)<o) else (mark (m (.nd y 5))=true∨m (.nd y 0)<o))∧Passes m o i y A
theorem Passes.congr {m m':Loc→Int} {o i:Int} (h:∀ x f,m' (.nd x f)=m (.nd x f)):∀ {A:List Int} {p:Int},Passes m o i p A→Passes m' o i p A
 |[],_,_=>trivial
 |y::A,p,hp=>by
  refine ⟨?_,Passes.congr h hp.2⟩
  rw [h,h,h]
  exact hp.1
theorem Xf (G:Good c tid) (ha:c.algo=2) {o e i:Int} (fs:List Fr) (hfs:fs.length≤40) (hi0:0≤i) (hi1:i<c.lv):∀ (A B:List Int) (s:St) (p w0 x:Int),s.mm (.gl 1)=e→Row s.mm i p (A++B)→
  (∀ y ∈ p::(A++B),1≤y∧y≤c.ns)→2 ∉ A++B→Passes s.mm o i p A→
  (∀ y ∈ B.head?,(if i=0 then mark (s.mm (.nd (Bc p A) 5))=false else mark (s.mm (.nd y 5))=false)∧o≤s.mm (.nd y 0))→
  ∃ m',ButHaz s.mm m'∧Runs c tid s (Ep 1 o e i p w0 x::fs) (Qx {s with mm:=m'} i (Bc p A) (s.mm (.nd (Bc p A) (5+i))) (if i=0 then Ex s.mm x p A else x))
   (Qw o e i (Bc p A) (s.mm (.nd (Bc p A) (5+i))) (if i=0 then Ex s.mm x p A else x) fs):=by
 intro A
 induction A with
 |nil=>
  intro B s p w0 x he h hr h2 hA hB
  have hx:(if i=0 then Ex s.mm x p [] else x)=x:=by split<;>rfl
  rw [hx]
  cases B with
  |nil=>exact kZ G ha fs hfs hi0 hi1 (hr p Zs) h
  |cons y B=>
   have hy:=hB y Zs
   exact lA G ha fs hfs hi0 hi1 (hr p Zs) (hr y Zs) (fun e=>h2 (by simp [e])) he h.1 hy.1 hy.2
 |cons y A ih=>
  intro B s p w0 x he h hr h2 hA hB
  obtain ⟨m1,w1,hb,r1⟩:=lC G ha (s:=s) (o:=o) (e:=e) (i:=i) (p:=p) (y:=y) (w0:=w0) (x:=x) fs hfs hi0 hi1 (hr p Zs) (hr y Zs) (fun e=>h2 (by simp [e])) he h.1 hA.1
  obtain ⟨m2,k1,k2⟩:=ih B {s with mm:=m1} y w1 (if i=0∧mark (s.mm (.nd p 5))=true then y else x) (by show m1 _=e;rw [hb.gl];exact he) (Row.congr (fun x _=>by show ptr (m1 _)=_;rw [hb.nd]) h.2) (fun z hz=>hr z (List.mem_cons_of_mem _ hz)) (fun e=>h2 (by simp at e ⊢;exact .inr e)) (Passes.congr (fun a f=>hb.nd a f) hA.2)
   (fun z hz=>by
    have:=hB z hz
    show (if i=0 then mark (m1 _)=false else mark (m1 _)=false)∧o≤m1 _
    rw [hb.nd,hb.nd,hb.nd]
    exact this)
  refine ⟨m2,hb.trans k1,r1.trans ?_⟩
  have e1:m1 (.nd (Bc y A) (5+i))=s.mm (.nd (Bc y A) (5+i)):=hb.nd _ _
  have e2:(if i=0 then Ex m1 (if i=0∧mark (s.mm (.nd p 5))=true then y else x) y A else (if i=0∧mark (s.mm (.nd p 5))=true then y else x))=(if i=0 then Ex s.mm x p (y::A) else x):=by
   by_cases h0:i=0
   .rw [if_pos h0,if_pos h0,Lz (fun a f=>hb.nd a f)]
    show _=Ex s.mm (if mark (s.mm (.nd p 5))=true then y else x) y A
    simp only [h0,true_and]
   .rw [if_neg h0,if_neg h0,if_neg (fun q=>h0 q.1)]
  have k3:Runs c tid {s with mm:=m1} (Ep 1 o e i y w1 (if i=0∧mark (s.mm (.nd p 5))=true then y else x)::fs) (Qx {s with mm:=m2} i (Bc y A) (m1 (.nd (Bc y A) (5+i))) (if i=0 then Ex m1 (if i=0∧mark (s.mm (.nd p 5))=true then y else x) y A else (if i=0∧mark (s.mm (.nd p 5))=true then y else x)))
   (Qw o e i (Bc y A) (m1 (.nd (Bc y A) (5+i))) (if i=0 then Ex m1 (if i=0∧mark (s.mm (.nd p 5))=true then y else x) y A else (if i=0∧mark (s.mm (.nd p 5))=true then y else x)) fs):=k2
  rw [e1,e2] at k3
  exact k3
theorem fB {W Y A B:List Int} {y:Int} (h:(W++y::Y).Sublist (A++y::B)) (hd:(A++y::B).Nodup):W.Sublist A∧Y.Sublist B:=by
 have hd1:=List.nodup_append.1 hd
 have hyA:y ∉ A:=fun e=>hd1.2.2 y e y (List.mem_cons_self ..) rfl
 have hyB:y ∉ B:=(List.nodup_cons.1 hd1.2.1).1
 obtain ⟨P1,P2,e,s1,s2⟩:=List.sublist_append_iff.1 h
 have hy1:y ∉ P1:=fun h5=>hyA (s1.subset h5)
 rcases List.append_eq_append_iff.1 e with ⟨W2,e1,e2⟩|⟨W2,e1,e2⟩
 .
  cases W2 with
  |nil=>
   rw [List.append_nil] at e1
   rw [List.nil_append] at e2
   rw [← e2] at s2
   refine ⟨by rw [← e1];exact s1,?_⟩
   exact List.cons_sublist_cons.1 s2
  |cons z W2=>
   rw [List.cons_append] at e2
   injection e2 with e2 _
   exact absurd (by rw [e1,e2];simp) hy1
 .
  cases W2 with
  |nil=>
   rw [List.append_nil] at e1
   rw [List.nil_append] at e2
   rw [e2] at s2
   exact ⟨by rw [e1];exact s1,List.cons_sublist_cons.1 s2⟩
  |cons z W2=>
   exfalso
   rw [e2,List.cons_append] at s2
   rcases List.sublist_cons_iff.1 s2 with h5|⟨r,e5,h5⟩
   .exact hyB (h5.subset Zs)
   .injection e5 with _ e6
    rw [← e6] at h5
    exact hyB (h5.subset Zs)
structure Ln (c:Cf) (m:Loc→Int) (D L:List Int) (R:Nat→List Int):Prop where
 rows:∀ j:Nat,(j:Int)<c.lv→Row m j 1 (R j)
 base:R 0=D++L
 nest:∀ j,(R (j+1)).Sublist (R j)
 dead:∀ x ∈ (1::D).dropLast,mark (m (.nd x 5))=true
 last:mark (m (.nd (Bc 1 D) 5))=false
 live:∀ x ∈ L,mark (m (.nd x 5))=false
 sorted:L.Pairwise fun a b=>m (.nd a 0)<m (.nd b 0)
 refs:∀ x ∈ D++L,m (.nd x 2)=0
 vals:∀ x ∈ L,0≤m (.nd x 1)∧m (.nd x 1)<4294967296
 ords:∀ x ∈ L,0≤m (.nd x 0)∧m (.nd x 0)<18446744073709551616∧m (.nd x 0) % 4294967296<m (.gl 3)
 tick:0≤m (.gl 3)
theorem Ln.sub {m:Loc→Int} {D L:List Int} {R:Nat→List Int} (h:Ln c m D L R):∀ j,(R j).Sublist (D++L)
 |0=>by rw [h.base];exact List.Sublist.refl _
 |j+1=>(h.nest j).trans (h.sub j)
theorem Lv (p:Int) (A:List Int) (y:Int):Bc p (A++[y])=y:=by rw [Dp];rfl
theorem Kv (p:Int) (A:List Int) (y:Int):(p::(A++[y])).dropLast=p::A:=by
 rw [← List.cons_append,List.dropLast_concat]
structure Parts (R U V:Nat→List Int) (Lo Hi:List Int):Prop where
 is:∀ j,R j=U j++V j
 low:∀ j,(U j).Sublist Lo
 high:∀ j,(V j).Sublist Hi
 nestU:∀ j,(U (j+1)).Sublist (U j)
 nestV:∀ j,(V (j+1)).Sublist (V j)
theorem Zl {R:Nat→List Int} {Lo Hi:List Int} (hs:∀ j,(R j).Sublist (Lo++Hi)) (hn:∀ j,(R (j+1)).Sublist (R j)) (hd:(Lo++Hi).Nodup):∃ U V:Nat→List Int,Parts R U V Lo Hi:=by
 have hd1:=List.nodup_append.1 hd
 have hf:∀ j,∃ X Y,R j=X++Y∧X.Sublist Lo∧Y.Sublist Hi∧(R j).filter (fun x=>decide (x ∈ Lo))=X∧(R j).filter (fun x=>!decide (x ∈ Lo))=Y:=fun j=>by
  obtain ⟨X,Y,e,s1,s2⟩:=List.sublist_append_iff.1 (hs j)
  have h1:∀ x ∈ X,x ∈ Lo:=fun x hx=>s1.subset hx
  have h2:∀ x ∈ Y,x ∉ Lo:=fun x hx h5=>hd1.2.2 x h5 x (s2.subset hx) rfl
  refine ⟨X,Y,e,s1,s2,?_,?_⟩
  .rw [e,List.filter_append,List.filter_eq_self.2 (fun x hx=>decide_eq_true (h1 x hx)),List.filter_eq_nil_iff.2 (fun x hx=>by simp [h2 x hx]),List.append_nil]
  .rw [e,List.filter_append,List.filter_eq_nil_iff.2 (fun x hx=>by simp [h1 x hx]),List.filter_eq_self.2 (fun x hx=>by simp [h2 x hx]),List.nil_append]
 refine ⟨fun j=>(R j).filter (fun x=>decide (x ∈ Lo)),fun j=>(R j).filter (fun x=>!decide (x ∈ Lo)),⟨fun j=>?_,fun j=>?_,fun j=>?_,fun j=>(hn j).filter _,fun j=>(hn j).filter _⟩⟩
 .obtain ⟨X,Y,e,_,_,h1,h2⟩:=hf j
  show R j=(R j).filter _++(R j).filter _
  rw [h1,h2];exact e
 .obtain ⟨X,Y,e,h3,_,h1,h2⟩:=hf j
  show ((R j).filter _).Sublist _
  rw [h1];exact h3
 .obtain ⟨X,Y,e,_,h3,h1,h2⟩:=hf j
  show ((R j).filter _).Sublist _
  rw [h2];exact h3
theorem Va (m:Loc→Int) (o i:Int) (hi:i≠0):∀ (A:List Int) (p:Int),Passes m o i p A∨∃ X y Y,A=X++y::Y∧Passes m o i p X∧mark (m (.nd y 5))=false∧o≤m (.nd y 0)
 |[],_=>.inl trivial
 |y::A,p=>by
  by_cases h:mark (m (.nd y 5))=true∨m (.nd y 0)<o
  .have h1:(if i=0 then (mark (m (.nd p 5))=true∨m (.nd y 0)<o) else (mark (m (.nd y 5))=true∨m (.nd y 0)<o)):=by rw [if_neg hi];exact h
   rcases Va m o i hi A y with h2|⟨X,z,Y,e,h2,h3,h4⟩
   .exact .inl ⟨h1,h2⟩
   .exact .inr ⟨y::X,z,Y,by rw [e];rfl,⟨h1,h2⟩,h3,h4⟩
  .refine .inr ⟨[],y,A,rfl,trivial,?_,?_⟩
   .cases hm:mark (m (.nd y 5)) with
    |true=>exact absurd (.inl hm) h
    |false=>rfl
   .exact Int.not_lt.1 (fun h5=>h (.inr h5))
theorem Od (m:Loc→Int) (o:Int):∀ (A:List Int) (p:Int),(∀ y ∈ A,m (.nd y 0)<o)→Passes m o 0 p A
 |[],_,_=>trivial
 |y::A,p,h=>⟨by rw [if_pos rfl];exact .inr (h y (List.mem_cons_self ..)),Od m o A y (fun z hz=>h z (List.mem_cons_of_mem _ hz))⟩
theorem Oe (m:Loc→Int):∀ (A:List Int) (p x:Int),mark (m (.nd p 5))=false→(∀ y ∈ A,mark (m (.nd y 5))=false)→Ex m x p A=x
 |[],_,_,_,_=>rfl
 |y::A,p,x,h,ha=>by
  show Ex m _ y A=x
  rw [if_neg (by rw [h];decide)]
  exact Oe m A y x (ha y (List.mem_cons_self ..)) (fun z hz=>ha z (List.mem_cons_of_mem _ hz))
theorem Qr (m:Loc→Int) (o:Int):∀ (D A:List Int) (p x:Int),(∀ y ∈ (p::D).dropLast,mark (m (.nd y 5))=true)→mark (m (.nd (Bc p D) 5))=false→(∀ y ∈ A,m (.nd y 0)<o∧mark (m (.nd y 5))=false)→
  Passes m o 0 p (D++A)∧Ex m x p (D++A)=if D=[] then x else Bc p D
 |[],A,p,x,h1,h2,h3=>⟨Od m o A p (fun y hy=>(h3 y hy).1),by rw [if_pos rfl];exact Oe m A p x h2 (fun y hy=>(h3 y hy).2)⟩
 |y::D,A,p,x,h1,h2,h3=>by
  have hp:mark (m (.nd p 5))=true:=h1 p (by rw [List.dropLast_cons_cons];exact List.mem_cons_self ..)
  have ih:=Qr m o D A y y (fun z hz=>h1 z (by rw [List.dropLast_cons_cons];exact List.mem_cons_of_mem _ hz)) h2 h3
  refine ⟨⟨by rw [if_pos rfl];exact .inl hp,ih.1⟩,?_⟩
  show Ex m (if mark (m (.nd p 5))=true then y else x) y (D++A)=_
  rw [if_pos hp,ih.2,if_neg (show ¬ (y::D=[]) from fun e=>nomatch e)]
  split
  .rename_i e;rw [e];rfl
  .rfl
structure LdF (m:Loc→Int) (U:Nat→List Int) (Lo D:List Int) (x:Int) (k:Nat) (s s':St):Prop where
 haz:ButHaz s.mm s'.mm
 us:s'.us=s.us
 rt:s'.rt=s.rt
 zero:0<k→s'.pred 0=Bc 1 Lo
 pred:∀ j:Nat,1≤j→j<k→s'.pred j=Bc 1 (U j)∨(s'.succ j=x∧x ∈ D)
 wrd:∀ j:Nat,j<k→s'.wrd j=m (.nd (s'.pred j) (5+j))∧s'.succ j=ptr (m (.nd (s'.pred j) (5+j)))
 far:∀ j:Nat,k≤j→s'.pred j=s.pred j∧s'.wrd j=s.wrd j∧s'.succ j=s.succ j
 inn:x=0∨x ∈ D
 ins:∀ j:Nat,j<k→s'.pred j=1∨s'.pred j ∈ Lo
theorem Vg {p:Int} {X:List Int} (h:p=1∨p ∈ X):∃ X0 X1,X=X0++X1∧p=Bc 1 X0:=by
 rcases h with rfl|h
 .exact ⟨[],X,rfl,rfl⟩
 .obtain ⟨A,B,e⟩:=List.append_of_mem h
  exact ⟨A++[p],B,by rw [e,List.append_assoc];rfl,(Lv 1 A p).symm⟩
theorem lD (G:Good c tid) (ha:c.algo=2) {o e:Int} {m:Loc→Int} {D LA LB:List Int} {R U V:Nat→List Int} (fs:List Fr) (hfs:fs.length≤40) (h:Ln c m D (LA++LB) R) (hP:Parts R U V (D++LA) LB) (hd:(1::2::(D++(LA++LB))).Nodup)
  (hr:∀ x ∈ 1::(D++(LA++LB)),1≤x∧x≤c.ns) (hA:∀ x ∈ LA,m (.nd x 0)<o) (hB:∀ x ∈ LB,o≤m (.nd x 0)) (he:m (.gl 1)=e) :
  ∀ (i:Nat) (s:St) (p w0:Int),ButHaz m s.mm→(i:Int)<c.lv→(p=1∨p ∈ U i)→∀ b:Bool,(b=true→p ∈ (1::D).dropLast∧Bc 1 D ∈ U i∧o≤m (.nd (Bc 1 D) 0))→
  ∃ s' x,LdF m U (D++LA) D x (i+1) s s'∧(b=true→x=Bc 1 D∧x ∈ D)∧Runs c tid s (Ep 1 o e i p w0 0::fs) (s'.told x 0 0) fs:=by
 have hd1:=List.nodup_cons.1 hd
 have hd2:=List.nodup_cons.1 hd1.2
 have h1D:1 ∉ D++(LA++LB):=fun q=>hd1.1 (List.mem_cons_of_mem _ q)
 have hnd:=hd2.2
 have hndA:(D++LA).Nodup:=by
  rw [← List.append_assoc] at hnd
  exact (List.nodup_append.1 hnd).1
 have hUin:∀ j,∀ x ∈ U j,x ∈ D++(LA++LB):=fun j x hx=>by
  rw [← List.append_assoc];exact List.mem_append_left _ ((hP.low j).subset hx)
 have hVin:∀ j,∀ x ∈ V j,x ∈ D++(LA++LB):=fun j x hx=>by
  rw [← List.append_assoc];exact List.mem_append_right _ ((hP.high j).subset hx)
 have hlastD:D=[]∨∃ D',D=D'++[Bc 1 D]∧(1::D).dropLast=1::D':=by
  rcases List.eq_nil_or_concat D with h0|⟨D',d,h0⟩
  .exact .inl h0
  .rw [List.concat_eq_append] at h0
   refine .inr ⟨D',?_,?_⟩
   .rw [h0,Lv]
   .rw [h0,Kv]
 intro i
 induction i with
 |zero=>
  intro s p w0 hb hi hp b hbk
  have hU0:U 0=D++LA:=by
   have h1:=hP.is 0
   rw [h.base,← List.append_assoc] at h1
   have hl:=(hP.low 0).length_le
   have hv:=(hP.high 0).length_le
   have:=congrArg List.length h1
   rw [List.length_append,List.length_append («as»:=U 0)] at this
   exact (hP.low 0).eq_of_length Zo
  have hV0:V 0=LB:=by
   have h1:=hP.is 0
   rw [h.base,← List.append_assoc,hU0] at h1
   exact (List.append_cancel_left h1).symm
  rw [hU0] at hp
  obtain ⟨X0,X1,eX,ep⟩:=Vg hp
  have hrow:=h.rows 0 hi
  rw [h.base,← List.append_assoc,eX,List.append_assoc] at hrow
  have hrow2:=Row.tail hrow
  rw [← ep] at hrow2
  have hlast:Bc p X1=Bc 1 (D++LA):=by rw [eX,Dp,← ep]
  have hps:Passes m o 0 p X1∧((Ex m 0 p X1=0∨(Ex m 0 p X1 ∈ D))∧(b=true→Ex m 0 p X1=Bc 1 D∧Ex m 0 p X1 ∈ D)):=by
   rcases List.append_eq_append_iff.1 eX with ⟨D1,e1,e2⟩|⟨D1,e1,e2⟩
   .
    have hX1:∀ y ∈ X1,y ∈ LA:=fun y hy=>by rw [e2];exact List.mem_append_right _ hy
    have hpm:mark (m (.nd p 5))=false:=by
     rw [ep,e1,Dp]
     rcases Di (Bc 1 D) D1 with h5|h5
     .rw [h5];exact h.last
     .exact h.live _ (List.mem_append_left _ (by rw [e2];exact List.mem_append_left _ h5))
    have hdz:=Oe m X1 p 0 hpm (fun y hy=>h.live y (List.mem_append_left _ (hX1 y hy)))
    refine ⟨Od m o X1 p (fun y hy=>hA y (hX1 y hy)),.inl hdz,fun hb1=>?_⟩
    have h6:=h.dead p (hbk hb1).1
    rw [hpm] at h6
    cases h6
   .
    have hq:=Qr m o D1 LA p 0 (fun y hy=>h.dead y (by
      rw [e1,ep] at *
      have:∀ (q:Int) (A B:List Int),(Bc q A::B).dropLast ⊆ (q::(A++B)).dropLast:=by
       intro q A
       induction A generalizing q with
       |nil=>intro B z hz;exact hz
       |cons a A ih=>
        intro B z hz
        rw [List.cons_append,List.dropLast_cons_cons]
        exact List.mem_cons_of_mem _ (ih a B hz)
      exact this 1 X0 D1 hy)) (by rw [ep,← Dp,← e1];exact h.last) (fun y hy=>⟨hA y hy,h.live y (List.mem_append_left _ hy)⟩)
    rw [← e2] at hq
    have hl:Bc p D1=Bc 1 D:=by rw [e1,Dp,← ep]
    by_cases h0:D1=[]
    .rw [if_pos h0] at hq
     refine ⟨hq.1,.inl hq.2,fun hb1=>?_⟩
     have h6:=h.dead p (hbk hb1).1
     have h7:p=Bc 1 D:=by rw [← hl,h0];rfl
     rw [h7,h.last] at h6
     cases h6
    .rw [if_neg h0,hl] at hq
     have hin:Bc 1 D ∈ D:=by
      rcases hlastD with h5|⟨D',h5,_⟩
      .rw [h5] at e1
       exact absurd (List.append_eq_nil_iff.1 e1.symm).2 h0
      .rw [h5];simp
       rw [← h5];exact .inr rfl
     exact ⟨hq.1,.inr (by rw [hq.2];exact hin),fun _=>by rw [hq.2];exact ⟨rfl,hin⟩⟩
  obtain ⟨m',k1,k2⟩:=Xf G ha (o:=o) (e:=e) (i:=((0:Nat):Int)) fs hfs Zo hi X1 LB s p w0 0 (by rw [hb.gl];exact he) (Row.congr (fun x _=>by rw [hb.nd]) hrow2) (fun y hy=>hr y (by
    rcases List.mem_cons.1 hy with h5|hy
    .rcases hp with hp|hp
     .rw [h5,hp];exact List.mem_cons_self ..
     .rw [h5];exact List.mem_cons_of_mem _ (by rw [← List.append_assoc];exact List.mem_append_left _ hp)
    .rcases List.mem_append.1 hy with h5|h5
     .exact List.mem_cons_of_mem _ (by rw [← List.append_assoc];exact List.mem_append_left _ (by rw [eX];exact List.mem_append_right _ h5))
     .exact List.mem_cons_of_mem _ (List.mem_append_right _ (List.mem_append_right _ h5)))) (fun q=>hd2.1 (by
    rcases List.mem_append.1 q with h5|h5
    .rw [← List.append_assoc];exact List.mem_append_left _ (by rw [eX];exact List.mem_append_right _ h5)
    .exact List.mem_append_right _ (List.mem_append_right _ h5))) (Passes.congr (fun a f=>hb.nd a f) hps.1)
   (fun y hy=>by
    rw [if_pos (by rfl),hb.nd,hb.nd,hlast]
    refine ⟨?_,hB y (List.mem_of_mem_head? hy)⟩
    rw [Dp]
    rcases Di (Bc 1 D) LA with h5|h5
    .rw [h5];exact h.last
    .exact h.live _ (List.mem_append_left _ h5))
  rw [if_pos (by rfl),Lz (fun a f=>hb.nd a f),hlast,hb.nd] at k2
  unfold Qx Qw at k2
  rw [if_pos (by rfl),if_pos (by rfl)] at k2
  refine ⟨cP {s with mm:=m'} 0 (Bc 1 (D++LA)) (m (.nd (Bc 1 (D++LA)) (5+(0:Nat)))),Ex m 0 p X1,⟨k1,rfl,rfl,fun _=>rfl,fun j a b=>Zo,fun j a=>?_,fun j a=>?_,hps.2.1,fun j a=>?_⟩,hps.2.2,k2⟩
  .obtain rfl:j=0:=Zo
   exact ⟨rfl,rfl⟩
  .have hj:(j:Int)≠0:=Zo
   exact ⟨if_neg hj,if_neg hj,if_neg hj⟩
  .obtain rfl:j=0:=Zo
   exact Di 1 (D++LA)
 |succ i ih=>
  intro s p w0 hb hi hp b hbk
  obtain ⟨X0,X1,eX,ep⟩:=Vg hp
  have hrow:=h.rows (i+1) hi
  rw [hP.is,eX,List.append_assoc] at hrow
  have hrow2:=Row.tail hrow
  rw [← ep] at hrow2
  have hrs:∀ y ∈ p::(X1++V (i+1)),1≤y∧y≤c.ns:=fun y hy=>hr y (by
    rcases List.mem_cons.1 hy with h5|hy
    .rcases hp with hp|hp
     .rw [h5,hp];exact List.mem_cons_self ..
     .rw [h5];exact List.mem_cons_of_mem _ (hUin _ _ hp)
    .rcases List.mem_append.1 hy with h5|h5
     .exact List.mem_cons_of_mem _ (hUin (i+1) _ (by rw [eX];exact List.mem_append_right _ h5))
     .exact List.mem_cons_of_mem _ (hVin _ _ h5))
  have h2n:2 ∉ X1++V (i+1):=fun q=>hd2.1 (by
    rcases List.mem_append.1 q with h5|h5
    .exact hUin (i+1) _ (by rw [eX];exact List.mem_append_right _ h5)
    .exact hVin _ _ h5)
  have hne:((i+1:Nat):Int)≠0:=Zo
  have go:∀ (q:Int) (m':Loc→Int) (b':Bool),ButHaz s.mm m'→(q=1∨q ∈ U i)→(b'=true→q ∈ (1::D).dropLast∧Bc 1 D ∈ U i∧o≤m (.nd (Bc 1 D) 0))→(b=true→b'=true)→
    (q=Bc 1 (U (i+1))∨(b'=true∧ptr (m (.nd q (5+(i+1:Nat))))=Bc 1 D))→
    Runs c tid s (Ep 1 o e (i+1:Nat) p w0 0::fs) (Qx {s with mm:=m'} (i+1:Nat) q (m (.nd q (5+(i+1:Nat)))) 0) (Qw o e (i+1:Nat) q (m (.nd q (5+(i+1:Nat)))) 0 fs)→
    ∃ s' x,LdF m U (D++LA) D x (i+1+1) s s'∧(b=true→x=Bc 1 D∧x ∈ D)∧Runs c tid s (Ep 1 o e (i+1:Nat) p w0 0::fs) (s'.told x 0 0) fs:=by
   intro q m' b' hb' hq hbq hbb hout hrun
   unfold Qx Qw at hrun
   rw [if_neg hne,if_neg hne,show ((i+1:Nat):Int)-1=i by omega] at hrun
   obtain ⟨s',x,k1,k2,k3⟩:=ih (cP {s with mm:=m'} (i+1:Nat) q (m (.nd q (5+(i+1:Nat))))) q (m (.nd q (5+(i+1:Nat)))) (hb.trans hb') Zo hq b' hbq
   have hjn:∀ j:Nat,j<i+1+1→¬ j<i+1→j=i+1:=fun j a b=>Zo
   have hfar:=k1.far (i+1) (Nat.le_refl _)
   have f1:s'.pred (i+1:Nat)=q:=hfar.1.trans (if_pos rfl)
   have f2:s'.wrd (i+1:Nat)=m (.nd q (5+(i+1:Nat))):=hfar.2.1.trans (if_pos rfl)
   have f3:s'.succ (i+1:Nat)=ptr (m (.nd q (5+(i+1:Nat)))):=hfar.2.2.trans (if_pos rfl)
   refine ⟨s',x,⟨hb'.trans k1.haz,k1.us,k1.rt,fun _=>k1.zero Zo,fun j a b=>?_,fun j a=>?_,fun j a=>?_,k1.inn,fun j a=>?_⟩,fun hb1=>k2 (hbb hb1),hrun.trans k3⟩
   .by_cases hj:j<i+1
    .exact k1.pred j a hj
    .obtain rfl:=hjn j b hj
     rcases hout with h5|⟨h5,h6⟩
     .exact .inl (f1.trans h5)
     .have:=k2 h5
      exact .inr ⟨by rw [f3,h6,this.1],this.2⟩
   .by_cases hj:j<i+1
    .exact k1.wrd j hj
    .obtain rfl:=hjn j a hj
     rw [f1]
     exact ⟨f2,f3⟩
   .have:=k1.far j Zo
    have hj:(j:Int)≠((i+1:Nat):Int):=Zo
    exact ⟨this.1.trans (if_neg hj),this.2.1.trans (if_neg hj),this.2.2.trans (if_neg hj)⟩
   .by_cases hj:j<i+1
    .exact k1.ins j hj
    .obtain rfl:=hjn j a hj
     rw [f1]
     rcases hq with h5|h5
     .exact .inl h5
     .exact .inr ((hP.low i).subset h5)
  have hno0:∀ (A:List Int),(if ((i+1:Nat):Int)=0 then Ex s.mm 0 p A else 0)=0:=fun A=>if_neg hne
  rcases Va m o (i+1:Nat) hne X1 p with hps|⟨X,y,Y,e1,hps,hym,hyo⟩
  .
   have hlast:Bc p X1=Bc 1 (U (i+1)):=by rw [eX,Dp,← ep]
   obtain ⟨m',k1,k2⟩:=Xf G ha (o:=o) (e:=e) (i:=((i+1:Nat):Int)) fs hfs Zo hi X1 (V (i+1)) s p w0 0 (by rw [hb.gl];exact he) (Row.congr (fun x _=>by rw [hb.nd]) hrow2) hrs h2n (Passes.congr (fun a f=>hb.nd a f) hps)
    (fun y hy=>by
     have hyV:=(hP.high (i+1)).subset (List.mem_of_mem_head? hy)
     rw [if_neg hne,hb.nd,hb.nd]
     exact ⟨h.live y (List.mem_append_right _ hyV),hB y hyV⟩)
   rw [hno0,hlast,hb.nd] at k2
   have hq:Bc 1 (U (i+1))=1∨Bc 1 (U (i+1)) ∈ U i:=by
    rcases Di 1 (U (i+1)) with h5|h5
    .exact .inl h5
    .exact .inr ((hP.nestU i).subset h5)
   have hnb:b=false:=by
    cases hbv:b with
    |false=>rfl
    |true=>
     exfalso
     obtain ⟨q1,q2,q3⟩:=hbk hbv
     rcases hlastD with h5|⟨D',h5,h6⟩
     .rw [h5] at q1;simp at q1
     .rw [h6] at q1
      have hsub:=hP.low (i+1)
      rw [eX] at q2 hsub
      rcases List.mem_append.1 q2 with h7|h7
      .obtain ⟨W,Y,e3⟩:=List.append_of_mem h7
       have hsub2:(W++Bc 1 D::(Y++X1)).Sublist (D'++Bc 1 D::LA):=by
        rw [e3] at hsub
        have e4:D++LA=D'++Bc 1 D::LA:=by
         have:=congrArg (·++LA) h5
         simpa using this
        rw [e4] at hsub
        simpa using hsub
       have hnd3:(D'++Bc 1 D::LA).Nodup:=by
        have e4:D++LA=D'++Bc 1 D::LA:=by
         have:=congrArg (·++LA) h5
         simpa using this
        rw [← e4];exact hndA
       have hm:=fB hsub2 hnd3
       have hpY:p=Bc (Bc 1 D) Y:=by rw [ep,e3,Dp];rfl
       have hn4:=List.nodup_append.1 hnd3
       have hn5:=List.nodup_cons.1 hn4.2.1
       rcases Di (Bc 1 D) Y with h8|h8
       .rw [h8] at hpY
        rcases List.mem_cons.1 q1 with h9|h9
        .exact h1D (by rw [← h9,hpY,h5];simp;rw [← h5];exact .inr (.inl rfl))
        .exact hn4.2.2 p h9 (Bc 1 D) (List.mem_cons_self ..) hpY
       .rw [← hpY] at h8
        have hpLA:p ∈ LA:=hm.2.subset (List.mem_append_left _ h8)
        rcases List.mem_cons.1 q1 with h9|h9
        .exact h1D (by rw [← h9];exact List.mem_append_right _ (List.mem_append_left _ hpLA))
        .exact hn4.2.2 p h9 p (List.mem_cons_of_mem _ hpLA) rfl
      .
       have:∀ (A:List Int) (z:Int),Passes m o (i+1:Nat) z A→∀ y ∈ A,mark (m (.nd y 5))=true∨m (.nd y 0)<o:=by
        intro A
        induction A with
        |nil=>intro z _ y hy;cases hy
        |cons a A ih=>
         intro z hz y hy
         have hz1:=hz.1
         rw [if_neg hne] at hz1
         rcases List.mem_cons.1 hy with rfl|hy
         .exact hz1
         .exact ih a hz.2 y hy
       rcases this X1 p hps _ h7 with h8|h8
       .rw [h.last] at h8;cases h8
       .omega
   exact go _ m' false k1 hq (fun h5=>by cases h5) (fun h5=>by rw [hnb] at h5;cases h5) (.inl rfl) k2
  .
   have hyU:y ∈ U (i+1):=by rw [eX,e1];simp
   have hyLo:=(hP.low (i+1)).subset hyU
   have hyD:y ∈ D:=by
    rcases List.mem_append.1 hyLo with h5|h5
    .exact h5
    .have:=hA y h5;omega
   obtain ⟨D',h5,h6⟩:∃ D',D=D'++[Bc 1 D]∧(1::D).dropLast=1::D':=by
    rcases hlastD with h5|h5
    .rw [h5] at hyD;cases hyD
    .exact h5
   have hyl:y=Bc 1 D:=by
    rw [h5] at hyD
    rcases List.mem_append.1 hyD with h7|h7
    .have:=h.dead y (by rw [h6];exact List.mem_cons_of_mem _ h7)
     rw [hym] at this
     cases this
    .exact List.mem_singleton.1 h7
   have hrow3:=hrow2
   rw [e1,List.append_assoc] at hrow3
   obtain ⟨m',k1,k2⟩:=Xf G ha (o:=o) (e:=e) (i:=((i+1:Nat):Int)) fs hfs Zo hi X (y::Y++V (i+1)) s p w0 0 (by rw [hb.gl];exact he) (Row.congr (fun x _=>by rw [hb.nd]) hrow3) (fun z hz=>hrs z (by rw [e1,List.append_assoc];exact hz)) (fun q=>h2n (by rw [e1,List.append_assoc];exact q)) (Passes.congr (fun a f=>hb.nd a f) hps)
    (fun z hz=>by
     have:z=y:=by simpa using hz.symm
     rw [if_neg hne,hb.nd,hb.nd,this]
     exact ⟨hym,hyo⟩)
   rw [hno0,hb.nd] at k2
   have hsub:(X0++X++y::Y).Sublist (D'++y::LA):=by
    have hs:=hP.low (i+1)
    rw [eX,e1,← List.append_assoc] at hs
    have e4:D++LA=D'++y::LA:=by
     have:=congrArg (·++LA) h5
     rw [hyl]
     simpa using this
    rw [← e4];exact hs
   have hnd3:(D'++y::LA).Nodup:=by
    have e4:D++LA=D'++y::LA:=by
     have:=congrArg (·++LA) h5
     rw [hyl]
     simpa using this
    rw [← e4];exact hndA
   have hW:=(fB hsub hnd3).1
   have hqe:Bc p X=Bc 1 (X0++X):=by rw [Dp,← ep]
   have hq:Bc p X=1∨Bc p X ∈ X0++X:=by rw [hqe];exact Di 1 _
   have hptr:ptr (m (.nd (Bc p X) (5+(i+1:Nat))))=Bc 1 D:=by
    have:=(Row.tail hrow3).1
    rw [this,hyl]
   refine go _ m' true k1 ?_ (fun _=>⟨?_,?_,?_⟩) (fun _=>rfl) (.inr ⟨rfl,hptr⟩) k2
   .rcases hq with h7|h7
    .exact .inl h7
    .refine .inr ((hP.nestU i).subset ?_)
     rw [eX,e1,← List.append_assoc]
     exact List.mem_append_left _ h7
   .rw [h6]
    rcases hq with h7|h7
    .rw [h7];exact List.mem_cons_self ..
    .exact List.mem_cons_of_mem _ (hW.subset h7)
   .rw [← hyl];exact (hP.nestU i).subset hyU
   .rw [← hyl];exact hyo
theorem Parts.zero {R U V:Nat→List Int} {Lo Hi:List Int} (h:Parts R U V Lo Hi) (h0:R 0=Lo++Hi):U 0=Lo∧V 0=Hi:=by
 have h1:=h.is 0
 rw [h0] at h1
 have hl:=(h.low 0).length_le
 have hv:=(h.high 0).length_le
 have:=congrArg List.length h1
 rw [List.length_append,List.length_append («as»:=U 0)] at this
 have hU:U 0=Lo:=(h.low 0).eq_of_length Zo
 rw [hU] at h1
 exact ⟨hU,(List.append_cancel_left h1).symm⟩
theorem Ln.same {m m':Loc→Int} {D L:List Int} {R:Nat→List Int} (h:Ln c m D L R) (hg:m (.gl 3)≤m' (.gl 3)) (hn:∀ x ∈ 1::(D++L),∀ f,m' (.nd x f)=m (.nd x f)):Ln c m' D L R:=by
 have hD:∀ x ∈ 1::D,∀ f,m' (.nd x f)=m (.nd x f):=fun x hx f=>hn x (by
  rcases List.mem_cons.1 hx with rfl|hx
  .exact List.mem_cons_self ..
  .exact List.mem_cons_of_mem _ (List.mem_append_left _ hx)) f
 have hL:∀ x ∈ L,∀ f,m' (.nd x f)=m (.nd x f):=fun x hx f=>hn x (List.mem_cons_of_mem _ (List.mem_append_right _ hx)) f
 refine ⟨fun j hj=>Row.congr (fun x hx=>by
   rw [hn x (by
    rcases List.mem_cons.1 hx with rfl|hx
    .exact List.mem_cons_self ..
    .exact List.mem_cons_of_mem _ ((h.sub j).subset hx))]) (h.rows j hj),h.base,h.nest,fun x hx=>?_,?_,fun x hx=>?_,?_,fun x hx=>?_,fun x hx=>?_,fun x hx=>?_,Int.le_trans h.tick hg⟩
 .rw [hD x (List.dropLast_subset _ hx)];exact h.dead x hx
 .rw [hD _ (by
   rcases Di 1 D with h5|h5
   .rw [h5];exact List.mem_cons_self ..
   .exact List.mem_cons_of_mem _ h5)]
  exact h.last
 .rw [hL x hx];exact h.live x hx
 .exact List.Pairwise.imp_of_mem (fun {a b} x y hab=>by rw [hL a x,hL b y];exact hab) h.sorted
 .rw [hn x (List.mem_cons_of_mem _ hx)];exact h.refs x hx
 .rw [hL x hx];exact h.vals x hx
 .rw [hL x hx]
  have:=h.ords x hx
  omega
theorem Fb (ha:c.algo=2) {s:St} {pc:Nat} {k v n t o r w x:Int} {fs:List Fr} (hp:pc≠90):bit c tid s (frI 31 pc k v n t o r w x::fs)=Ge c s (frI 31 pc k v n t o r w x) fs:=by
 rw [Oo ha]
 unfold Ef
 rw [if_neg (by show ¬ (31<31∨36<31);omega),if_neg (show ¬ (frI 31 pc k v n t o r w x).pc=90 from hp)]
 rfl
theorem lB (G:Good c tid) (ha:c.algo=2) {o:Int} {D LA LB:List Int} {R U V:Nat→List Int} (s:St) (fs:List Fr) (hfs:fs.length≤40) (h:Ln c s.mm D (LA++LB) R) (hP:Parts R U V (D++LA) LB) (hd:(1::2::(D++(LA++LB))).Nodup)
  (hr:∀ x ∈ 1::(D++(LA++LB)),1≤x∧x≤c.ns) (hA:∀ x ∈ LA,s.mm (.nd x 0)<o) (hB:∀ x ∈ LB,o≤s.mm (.nd x 0)) :
  ∃ s' x,LdF s.mm U (D++LA) D x c.lv.toNat s s'∧Runs c tid s ({fn:=30,pc:=0,r0:=o}::fs) (s'.told x 0 0) fs:=by
 have hlv:=G.lv
 obtain ⟨s',x,k1,_,k3⟩:=lD G ha fs hfs h hP hd hr hA hB rfl (c.lv-1).toNat s 1 0 (ButHaz.refl _) Zo (.inl rfl) false (fun e=>by cases e)
 rw [show (((c.lv-1).toNat:Nat):Int)=c.lv-1 by omega] at k3
 rw [show (c.lv-1).toNat+1=c.lv.toNat by omega] at k1
 refine ⟨s',x,k1,Runs.via (o:=⟨s,Ep 1 o (s.mm (.gl 1)) (c.lv-1) 1 0 0::fs,[],true⟩) ?_ k3⟩
 show bit c tid s (Ep 0 o 0 0 0 0 0::fs)=_
 rw [Hd ha]
 exact Ah (Cw 1 Zd Zd)
theorem Lk.own1 {m m':Loc→Int} {n:Int} {P S:Int→Int} {j:Int} (h:Lk m m' n P S j j) (hj:0≤j) (w:Int) (hS:0≤S j∧S j<65536) (hP:∀ i,P i≠n):Lk m (upd m' (.nd n (5+j)) (next w (S j) false)) n P S (j+1) j:=by
 refine ⟨fun x h1 h2=>?_,fun i a b=>?_,fun i a b=>?_⟩
 .rw [By _ _ (h1 j hj Zo)]
  exact h.same x (fun i a b=>h1 i a Zo) h2
 .by_cases e:i=j
  .subst e
   rw [Fi,Em _ _ _ hS.1 hS.2,Eh]
   exact ⟨rfl,rfl⟩
  .rw [By _ _ (Ar (.inr Zo))]
   exact h.own i a Zo
 .rw [By _ _ (Ar (.inl (hP i)))]
  exact h.there i a b
theorem rQ (G:Good c tid) (ha:c.algo=2) {k v n t o x:Int} (hn:1≤n∧n≤c.ns) (ht:t≤c.lv) {m:Loc→Int} {P S:Int→Int} (hP:∀ i,P i≠n) (hPr:∀ i,0≤i→i<c.lv→1≤P i∧P i≤c.ns) (hx2:x≠2)
  (hS:∀ i,0≤i→i<c.lv→S i=ptr (m (.nd (P i) (5+i)))) (hSo:∀ i,1≤i→i<c.lv→S i=x∨S i=2∨(S i≠x∧S i≠P 0∧S i≠n∧1≤S i∧S i≤c.ns∧mark (m (.nd (S i) 5))=false)):∀ (d:Nat) (s:St) (j w:Int),(t-j).toNat=d→1≤j→j≤t→
  (∀ i,0≤i→i<c.lv→s.pred i=P i∧s.succ i=S i∧s.wrd i=m (.nd (P i) (5+i)))→Lk m s.mm n P S j j→
  ∃ m' j' w',Runs c tid s [frI 31 11 k v n t o j w x] {s with mm:=m'} [frI 31 17 k v n t o j' w' x]∧Lk m m' n P S j' j'∧j≤j'∧j'≤t∧∀ i,j≤i→i<j'→S i≠x:=by
 intro d
 have hN:=G.ns
 induction d with
 |zero=>
  intro s j w hd h0 h1 hs hL
  obtain rfl:j=t:=Zo
  refine ⟨s.mm,j,w,Runs.via (o:=⟨s,[frI 31 17 k v n j o j w x],[],false⟩) ?_ (Runs.refl _ _),hL,Int.le_refl _,Int.le_refl _,fun i a b=>Zo⟩
  rw [Fb ha Zd]
  show (if j≥j then ok s [frI 31 17 k v n j o j w x] else _)=_
  rw [if_pos Zo]
  rfl
 |succ d ih=>
  intro s j w hd h0 h1 hs hL
  have hf5:=Cl (c:=c) G Zo hn (f:=5) Zd Zd
  have hlk:=Cm (c:=c) Zo hn (show 0≤j by omega) Zo
  have hlp:=Cm (c:=c) Zo (hPr j Zo Zo) (show 0≤j by omega) Zo
  have hrow:=Gj (c:=c) (i:=j) Zo Zo
  have hsj:=hs j Zo Zo
  have ho:=(hL.own 0 Zd Zo).2
  rw [show (5:Int)+0=5 from rfl] at ho
  have b11:bit c tid s [frI 31 11 k v n t o j w x]=some ⟨s,[frI 31 12 k v n t o j w x],Cu (.nd n 5),true⟩:=by
   rw [Fb ha Zd]
   show (if j≥t then _ else Ao c (.nd n 5) s [frI 31 (if mark (s.mm (.nd n 5))=true then 17 else 12) k v n t o j w x])=_
   rw [if_neg Zo,if_neg (by rw [ho];decide),Ah hf5]
  by_cases hsx:S j=x
  .have b12:bit c tid s [frI 31 12 k v n t o j w x]=some ⟨s,[frI 31 17 k v n t o j w x],[],false⟩:=by
    rw [Fb ha Zd]
    show (if c.row j then (if s.succ j=2 then _ else if s.succ j=x then ok s [frI 31 17 k v n t o j w x] else _) else none)=_
    rw [if_pos hrow,hsj.2.1,if_neg (by rw [hsx];exact hx2),if_pos hsx]
    rfl
   exact ⟨s.mm,j,w,Runs.via b11 (Runs.via b12 (Runs.refl _ _)),hL,Int.le_refl _,h1,fun i a b=>Zo⟩
  .have b12:∃ a ev,bit c tid s [frI 31 12 k v n t o j w x]=some ⟨s,[frI 31 13 k v n t o j w x],ev,a⟩:=by
    rcases hSo j h0 Zo with h5|h5|⟨h5,h6,h7,h8,h9,h10⟩
    .exact absurd h5 hsx
    .refine ⟨false,[],?_⟩
     rw [Fb ha Zd]
     show (if c.row j then (if s.succ j=2 then ok s [frI 31 13 k v n t o j w x] else _) else none)=_
     rw [if_pos hrow,hsj.2.1,if_pos h5]
     rfl
    .by_cases h2:S j=2
     .refine ⟨false,[],?_⟩
      rw [Fb ha Zd]
      show (if c.row j then (if s.succ j=2 then ok s [frI 31 13 k v n t o j w x] else _) else none)=_
      rw [if_pos hrow,hsj.2.1,if_pos h2]
      rfl
     .have e:s.mm (.nd (S j) 5)=m (.nd (S j) 5):=hL.same _ (fun i a b=>Ar (.inl h7)) (fun i a b=>by
       by_cases hi:i=0
       .subst hi;exact Ar (.inl h6)
       .exact Ar (.inr Zo))
      refine ⟨true,Cu (.nd (S j) 5),?_⟩
      rw [Fb ha Zd]
      show (if c.row j then (if s.succ j=2 then _ else if s.succ j=x then _ else Ao c (.nd (s.succ j) 5) s [frI 31 (if mark (s.mm (.nd (s.succ j) 5))=true then 17 else 13) k v n t o j w x]) else none)=_
      rw [if_pos hrow,hsj.2.1,if_neg h2,if_neg h5,e,if_neg (by rw [h10];decide),Ah (Cl G Zo ⟨h8,h9⟩ Zd Zd)]
   obtain ⟨a12,ev12,b12⟩:=b12
   have b13:bit c tid s [frI 31 13 k v n t o j w x]=some ⟨s,[frI 31 14 k v n t o j (s.mm (.nd n (5+j))) x],Cu (.nd n (5+j)),true⟩:=by
    rw [Fb ha Zd]
    exact Ah hlk
   obtain ⟨y,hy⟩:∃ y,y=s.mm (.nd n (5+j)):=⟨_,rfl⟩
   rw [← hy] at b13
   obtain ⟨s1,hs1⟩:∃ s1,s1=s.put (.nd n (5+j)) (next y (S j) false):=⟨_,rfl⟩
   have b14:bit c tid s [frI 31 14 k v n t o j y x]=some ⟨s1,[frI 31 15 k v n t o j y x],Cu (.nd n (5+j)),true⟩:=by
    rw [Fb ha Zd]
    show (if c.row j then Ao c (.nd n (5+j)) (s.put (.nd n (5+j)) (next y (s.succ j) false)) [frI 31 15 k v n t o j y x] else none)=_
    rw [if_pos hrow,hsj.2.1,Ah hlk,← hs1]
   have hSr:0≤S j∧S j<65536:=by rw [hS j Zo Zo];exact Fj _
   have hL1:Lk m s1.mm n P S (j+1) j:=by rw [hs1];exact hL.own1 Zo _ hSr hP
   have hre:s1.mm (.nd (P j) (5+j))=m (.nd (P j) (5+j)):=hL1.same _ (fun i _ _=>Ar (.inl (hP j))) (fun i a b=>Ar (.inr Zo))
   obtain ⟨s2,hs2⟩:∃ s2,s2=s1.put (.nd (P j) (5+j)) (next (m (.nd (P j) (5+j))) n false):=⟨_,rfl⟩
   have hfld1:s1.pred j=P j∧s1.wrd j=m (.nd (P j) (5+j)):=by rw [hs1];exact ⟨hsj.1,hsj.2.2⟩
   have b15:bit c tid s1 [frI 31 15 k v n t o j y x]=some ⟨s2,[frI 31 11 k v n t o (j+1) y x],Cu (.nd (P j) (5+j)),true⟩:=by
    rw [Fb ha Zd]
    show (if c.row j then (if s1.mm (.nd (s1.pred j) (5+j))=s1.wrd j then Ao c (.nd (s1.pred j) (5+j)) (s1.put (.nd (s1.pred j) (5+j)) (next (s1.wrd j) n false)) [frI 31 11 k v n t o (j+1) y x] else _) else none)=_
    rw [if_pos hrow,hfld1.1,hfld1.2,if_pos hre,Ah hlp,← hs2]
   have hL2:Lk m s2.mm n P S (j+1) (j+1):=by rw [hs2];exact hL1.put Zo _ Zo hP
   obtain ⟨m',j',w',q1,q2,q3,q4,q5⟩:=ih s2 (j+1) y Zo Zo Zo (by rw [hs2,hs1];exact hs) hL2
   have e9:({s2 with mm:=m'}:St)={s with mm:=m'}:=by rw [hs2,hs1];rfl
   rw [e9] at q1
   refine ⟨m',j',w',Runs.via b11 (Runs.via b12 (Runs.via b13 (Runs.via b14 (Runs.via b15 q1)))),q2,Zo,q4,fun i a b=>?_⟩
   by_cases e:i=j
   .rw [e];exact hsx
   .exact q5 i Zo b
theorem Ln.insert {m m1 m':Loc→Int} {D LA LB:List Int} {R U V:Nat→List Int} {n t:Int} {P S:Int→Int} (h:Ln c m D (LA++LB) R) (hQ:Parts R U V (D++LA) LB) (hd:(1::n::(D++(LA++LB))).Nodup) (ht0:1≤t) (htl:t≤c.lv)
  (hP:∀ j:Nat,(j:Int)<t→P j=Bc 1 (U j)) (hPn:∀ i,P i≠n) (hS:∀ j:Nat,(j:Int)<t→S j=ptr (m (.nd (P j) (5+j))))
  (hL:Lk m m1 n P S t t) (hm:∀ x,(∀ a b,x≠.haz a b)→x≠.nd n 2→m' x=m1 x) (hr:m' (.nd n 2)=0) (hA:∀ x ∈ LA,m (.nd x 0)<m (.nd n 0)) (hB:∀ x ∈ LB,m (.nd n 0)<m (.nd x 0))
  (hv:0≤m (.nd n 1)∧m (.nd n 1)<4294967296) (ho:0≤m (.nd n 0)∧m (.nd n 0)<18446744073709551616∧m (.nd n 0) % 4294967296<m (.gl 3)) :
  Ln c m' D (LA++n::LB) (fun j=>if (j:Int)<t then U j++n::V j else R j):=by
 have hz:=hQ.zero (by rw [h.base,List.append_assoc])
 have hP0:P 0=Bc 1 (D++LA):=by
  have:=hP 0 Zo
  rw [hz.1] at this
  exact this
 have hfld:∀ x f,f<5→(x≠n∨f≠2)→m' (.nd x f)=m (.nd x f):=fun x f h1 h2=>by
  rw [hm _ (fun _ _ e=>by cases e) (Ar h2)]
  exact hL.same _ (fun i a b=>Ar (.inr Zo)) (fun i a b=>Ar (.inr Zo))
 have hg:m' (.gl 3)=m (.gl 3):=by
  rw [hm _ (fun _ _ e=>by cases e) (fun e=>by cases e)]
  exact hL.same _ (fun i a b e=>by cases e) (fun i a b e=>by cases e)
 have hlink:∀ x (j:Nat),m' (.nd x (5+j))=m1 (.nd x (5+j)):=fun x j=>hm _ (fun _ _ e=>by cases e) (Ar (.inr Zo))
 have hoth:∀ (j:Nat) (x:Int),x≠n→((j:Int)<t→x≠P j)→m' (.nd x (5+j))=m (.nd x (5+j)):=fun j x hx hx2=>by
  rw [hlink]
  refine hL.same _ (fun i a b=>Ar (.inl hx)) (fun i a b=>?_)
  by_cases e:i=(j:Int)
  .subst e;exact Ar (.inl (hx2 b))
  .exact Ar (.inr Zo)
 have hxn:∀ x ∈ 1::(D++(LA++LB)),x≠n:=fun x hx e=>by
  subst e
  have hd1:=List.nodup_cons.1 hd
  rcases List.mem_cons.1 hx with rfl|hx
  .exact hd1.1 (List.mem_cons_self ..)
  .exact (List.nodup_cons.1 hd1.2).1 hx
 have hnd:(1::(D++(LA++LB))).Nodup:=by
  have h1:=List.nodup_cons.1 hd
  exact List.nodup_cons.2 ⟨fun e=>h1.1 (List.mem_cons_of_mem _ e),(List.nodup_cons.1 h1.2).2⟩
 have hRin:∀ (j:Nat),∀ x ∈ 1::R j,x ∈ 1::(D++(LA++LB)):=fun j x hx=>by
  rcases List.mem_cons.1 hx with rfl|hx
  .exact List.mem_cons_self ..
  .exact List.mem_cons_of_mem _ ((h.sub j).subset hx)
 have hndj:∀ j:Nat,(1::(U j++V j)).Nodup:=fun j=>by
  rw [← hQ.is]
  have h1:=List.nodup_cons.1 hnd
  exact List.nodup_cons.2 ⟨fun e=>h1.1 ((h.sub j).subset e),h1.2.sublist (h.sub j)⟩
 have l5:∀ x,m' (.nd x 5)=m1 (.nd x 5):=fun x=>hlink x 0
 have o5:∀ x,x≠n→x≠P 0→m' (.nd x 5)=m (.nd x 5):=fun x h1 h2=>hoth 0 x h1 (fun _=>h2)
 have own5:=(hL.own 0 Zd Zo).2
 have the5:=(hL.there 0 Zd Zo).2
 rw [show (5:Int)+0=5 from rfl] at own5 the5
 have hP0m:mark (m (.nd (P 0) 5))=false:=by
  rw [hP0,Dp]
  rcases Di (Bc 1 D) LA with h5|h5
  .rw [h5];exact h.last
  .exact h.live _ (List.mem_append_left _ h5)
 refine ⟨fun j hj=>?_,?_,fun j=>?_,fun x hx=>?_,?_,fun x hx=>?_,?_,fun x hx=>?_,fun x hx=>?_,fun x hx=>?_,by rw [hg];exact h.tick⟩
 .have hrow:=h.rows j hj
  by_cases hjt:(j:Int)<t
  .show Row m' j 1 (if (j:Int)<t then _ else _)
   rw [if_pos hjt]
   rw [hQ.is] at hrow
   have hth:=hL.there j Zo hjt
   have hown:=hL.own j Zo hjt
   refine Row.insert hrow (fun x hx hne=>?_) (hndj j) ?_ ?_
   .rw [← hQ.is] at hx
    rw [hoth j x (hxn x (hRin j x hx)) (fun _=>by rw [hP j hjt];exact hne)]
   .rw [← hP j hjt,hlink];exact hth.1
   .rw [← hP j hjt,hlink,← hS j hjt];exact hown.1
  .show Row m' j 1 (if (j:Int)<t then _ else _)
   rw [if_neg hjt]
   exact Row.congr (fun x hx=>by rw [hoth j x (hxn x (hRin j x hx)) (fun e=>absurd e hjt)]) hrow
 .show (if ((0:Nat):Int)<t then _ else _)=_
  rw [if_pos Zo,hz.1,hz.2,List.append_assoc]
 .show (if ((j+1:Nat):Int)<t then U (j+1)++n::V (j+1) else R (j+1)).Sublist (if (j:Int)<t then U j++n::V j else R j)
  by_cases h1:((j+1:Nat):Int)<t
  .rw [if_pos h1,if_pos Zo]
   exact (hQ.nestU j).append (List.cons_sublist_cons.2 (hQ.nestV j))
  .rw [if_neg h1]
   by_cases h2:(j:Int)<t
   .rw [if_pos h2]
    refine (h.nest j).trans ?_
    rw [hQ.is]
    exact (List.Sublist.refl _).append (List.sublist_cons_self _ _)
   .rw [if_neg h2];exact h.nest j
 .have h1:=h.dead x hx
  rw [o5 x (hxn x (by
   rcases List.mem_cons.1 (List.dropLast_subset _ hx) with h5|h5
   .rw [h5];exact List.mem_cons_self ..
   .exact List.mem_cons_of_mem _ (List.mem_append_left _ h5))) (fun e=>by rw [e,hP0m] at h1;cases h1)]
  exact h1
 .by_cases e:Bc 1 D=P 0
  .rw [e,l5];exact the5
  .rw [o5 _ (hxn _ (by
    rcases Di 1 D with h5|h5
    .rw [h5];exact List.mem_cons_self ..
    .exact List.mem_cons_of_mem _ (List.mem_append_left _ h5))) e]
   exact h.last
 .by_cases e:x=n
  .rw [e,l5];exact own5
  .by_cases e2:x=P 0
   .rw [e2,l5];exact the5
   .rw [o5 x e e2]
    refine h.live x ?_
    simp only [List.mem_append,List.mem_cons] at hx ⊢
    rcases hx with h5|h5|h5
    .exact .inl h5
    .exact absurd h5 e
    .exact .inr h5
 .have hs:=List.pairwise_append.1 h.sorted
  have e0:∀ x,m' (.nd x 0)=m (.nd x 0):=fun x=>hfld x 0 Zd (.inr Zd)
  have hall:(LA++n::LB).Pairwise fun a b=>m (.nd a 0)<m (.nd b 0):=by
   rw [List.pairwise_append]
   refine ⟨hs.1,List.pairwise_cons.2 ⟨hB,hs.2.1⟩,fun a haA b hb=>?_⟩
   rcases List.mem_cons.1 hb with rfl|hb
   .exact hA a haA
   .exact hs.2.2 a haA b hb
  exact hall.imp fun {a b} hab=>by rw [e0,e0];exact hab
 .have hx2:x=n∨x ∈ D++(LA++LB):=by
   simp only [List.mem_append,List.mem_cons] at hx ⊢
   rcases hx with h1|h1|h1|h1
   .exact .inr (.inl h1)
   .exact .inr (.inr (.inl h1))
   .exact .inl h1
   .exact .inr (.inr (.inr h1))
  rcases hx2 with rfl|hx2
  .exact hr
  .rw [hfld x 2 Zd (.inl (hxn x (List.mem_cons_of_mem _ hx2)))]
   exact h.refs x hx2
 all_goals
  have hx2:x=n∨x ∈ LA++LB:=by
   simp only [List.mem_append,List.mem_cons] at hx ⊢
   rcases hx with h1|h1|h1
   .exact .inr (.inl h1)
   .exact .inl h1
   .exact .inr (.inr h1)
 .rw [hfld x 1 Zd (.inr Zd)]
  rcases hx2 with rfl|hx2
  .exact hv
  .exact h.vals x hx2
 .rw [hfld x 0 Zd (.inr Zd),hg]
  rcases hx2 with rfl|hx2
  .exact ho
  .exact h.ords x hx2
def kvl (m:Loc→Int) (n:Int):Int×Int:=(m (.nd n 0) / 4294967296,m (.nd n 1))
theorem Nf (ha:c.algo=2) {s:St} {pc:Nat} {k v n t o r:Int} (hx:∀ f,0≤f→f≤5→c.has (.nd n f)=true) (kk vv:Int) (hk:0≤kk∧kk≤5) (hp:pc≠90)
  (hs:Ge c s (frI 31 pc k v n t o r 0 0) []=Lu c s (frI 31 pc k v n t o r 0 0) [] kk vv) {s':St} {l':List Fr} (h:Runs c tid (s.put (.nd n kk) vv) [frI 31 (pc+1) k v n t o r 0 0] s' l'):Runs c tid s [frI 31 pc k v n t o r 0 0] s' l':=by
 refine Runs.via (o:=⟨s.put (.nd n kk) vv,[frI 31 (pc+1) k v n t o r 0 0],Cu (.nd n kk),true⟩) ?_ h
 rw [Fb ha hp,hs]
 exact Ah (hx kk hk.1 hk.2)
theorem Xi (G:Good c tid) (ha:c.algo=2) {s:St} {D L free:List Int} {R:Nat→List Int} (k v:Int) (kr:0≤k∧k<4294967296) (vr:0≤v∧v<4294967296) (ht3:s.mm (.gl 3)+1<4294967296) (hu:s.us<1000000)
  (hO:Owned c s free (1::2::(D++L))) (hK:Ln c s.mm D L R) :
  (∃ s':St,Runs c tid s [frI 31 0 k v 0 0 0 0 0 0] (s'.told 1 0 0) [])∨
  ∃ (s':St) (L' free':List Int) (R':Nat→List Int),Runs c tid s [frI 31 0 k v 0 0 0 0 0 0] (s'.told 0 0 0) []∧Owned c s' free' (1::2::(D++L'))∧Ln c s'.mm D L' R'∧s'.us=s.us+1∧s'.mm (.gl 3)=s.mm (.gl 3)+1∧(L'.map (kvl s'.mm)).Perm ((k,v)::L.map (kvl s.mm)):=by
 have hN:=G.ns
 have hlv:=G.lv
 rcases Sf G 31 (.inr ⟨ha,rfl⟩) (fun s pc k v n t o r w x fs hp=>by
   rw [Fb ha Zo]
   rcases pc with _|_|_|pc
   .rfl
   .rfl
   .rfl
   .omega) k v kr ⟨hK.tick,ht3⟩ hu hO with h0|⟨s1,free1,n,t,r,r1,o1,u1,t1,t2,g3,g1,nf⟩
 .exact .inl h0
 refine .inr ?_
 obtain ⟨T,hT⟩:∃ T,T=s.mm (.gl 3):=⟨_,rfl⟩
 have hT0:0≤T:=by rw [hT];exact hK.tick
 rw [← hT] at g3 ht3 r1
 obtain ⟨o,ho⟩:∃ o,o=k*4294967296+T:=⟨_,rfl⟩
 rw [← ho] at r1
 have hn:=o1.pos (n:=n) Zs
 have hnd:(n::1::2::(D++L)).Nodup:=by
  have:=o1.nodup
  rw [List.nodup_append] at this
  exact this.2.1
 have hn1:n≠1:=fun e=>(List.nodup_cons.1 hnd).1 (by simp [e])
 have hn2:n≠2:=fun e=>(List.nodup_cons.1 hnd).1 (by simp [e])
 have hnL:n ∉ D++L:=fun e=>(List.nodup_cons.1 hnd).1 (List.mem_cons_of_mem _ (List.mem_cons_of_mem _ e))
 have hnd1:=(List.nodup_cons.1 hnd).2
 have hnd2:=(List.nodup_cons.1 hnd1).2
 have hL2:2 ∉ D++L:=(List.nodup_cons.1 hnd2).1
 have hL1:1 ∉ D++L:=fun e=>(List.nodup_cons.1 hnd1).1 (List.mem_cons_of_mem _ e)
 have hLn:(D++L).Nodup:=(List.nodup_cons.1 hnd2).2
 have hLr:∀ x ∈ 1::(D++L),1≤x∧x≤c.ns:=fun x hx=>o1.pos (by
  rcases List.mem_cons.1 hx with rfl|hx
  .simp
  .exact List.mem_cons_of_mem _ (List.mem_cons_of_mem _ (List.mem_cons_of_mem _ hx)))
 obtain ⟨s2,hs2⟩:∃ s2,s2=(((s1.put (.nd n 0) o).put (.nd n 1) v).put (.nd n 2) 1).put (.nd n 3) t:=⟨_,rfl⟩
 have hx:=fun f a b=>Cl (c:=c) G Zo hn (f:=f) a b
 have hlay:∀ {s':St} {l':List Fr},Runs c tid s2 [frI 31 7 k v n t o r 0 0] s' l'→Runs c tid s1 [frI 31 3 k v n t o r 0 0] s' l':=fun h=>by
  rw [hs2] at h
  exact Nf ha hx 0 o Zd Zd rfl (Nf ha hx 1 v Zd Zd rfl (Nf ha hx 2 1 Zd Zd rfl (Nf ha hx 3 t Zd Zd rfl h)))
 have e2:∀ x,(∀ f,x≠.nd n f)→s2.mm x=s1.mm x:=fun x hx=>by
  rw [hs2,Bo _ _ (hx 3),Bo _ _ (hx 2),Bo _ _ (hx 1),Bo _ _ (hx 0)]
 have en:∀ x f,x≠n→s2.mm (.nd x f)=s.mm (.nd x f):=fun x f hx=>by rw [e2 _ (fun f=>Ar (.inl hx)),nf]
 have n0:s2.mm (.nd n 0)=o:=by
  rw [hs2,Bo _ _ (Ar (.inr Zd)),Bo _ _ (Ar (.inr Zd)),Bo _ _ (Ar (.inr Zd)),Dl]
 have n1:s2.mm (.nd n 1)=v:=by
  rw [hs2,Bo _ _ (Ar (.inr Zd)),Bo _ _ (Ar (.inr Zd)),Dl]
 have hg2:s2.mm (.gl 3)=T+1:=by rw [e2 _ (fun f e=>by cases e),g3]
 have hK2:Ln c s2.mm D L R:=hK.same Zo (fun x hx f=>en x f (fun e=>by
  rcases List.mem_cons.1 hx with h|h
  .exact hn1 (e.symm.trans h)
  .exact hnL (e▸h)))
 have hO2:Owned c s2 free1 (n::1::2::(D++L)):=o1.same (e2 _ (fun f e=>by cases e)) (fun x=>e2 _ (fun f e=>by cases e)) (by rw [hs2];rfl)
 have hu2:s2.us=s.us+1:=by rw [← u1,hs2];rfl
 clear hs2
 obtain ⟨LA,LB,hAB,hA,hB⟩:=Lm (fun x=>s2.mm (.nd x 0)) o L hK2.sorted
 subst hAB
 have hB2:∀ x ∈ LB,o<s2.mm (.nd x 0):=fun x hx=>by
  have h1:=hB x hx
  have h2:=(hK.ords x (List.mem_append_right _ hx)).2.2
  rw [← en x 0 (fun e=>hnL (by rw [← e];exact List.mem_append_right _ (List.mem_append_right _ hx))),← hT] at h2
  omega
 obtain ⟨U,V,hQ⟩:=Zl (R:=R) (Lo:=D++LA) (Hi:=LB) (fun j=>by rw [List.append_assoc];exact hK.sub j) hK.nest (by rw [List.append_assoc];exact hLn)
 obtain ⟨s3,x,f3,r3⟩:=lB G ha (o:=o) s2 [frI 31 8 k v n t o r 0 0] (by show 1≤40;decide) hK2 hQ hnd1 hLr hA hB
 have b7:bit c tid s2 [frI 31 7 k v n t o r 0 0]=some ⟨s2,[{fn:=30,pc:=0,r0:=o},frI 31 8 k v n t o r 0 0],[],false⟩:=by
  rw [Fb ha Zd]
  rfl
 have r4:=r1.trans (hlay (Runs.via b7 r3))
 clear r1 hlay r3 b7
 obtain ⟨m,hm⟩:∃ m,m=s3.mm:=⟨_,rfl⟩
 have mn:∀ x f,m (.nd x f)=s2.mm (.nd x f):=fun x f=>by rw [hm];exact f3.haz.nd x f
 obtain ⟨P,hP⟩:∃ P:Int→Int,P=fun j=>if 0≤j∧j<c.lv then s3.pred j else 1:=⟨_,rfl⟩
 obtain ⟨S,hS⟩:∃ S:Int→Int,S=fun j=>ptr (m (.nd (P j) (5+j))):=⟨_,rfl⟩
 have hPj:∀ j:Nat,(j:Int)<c.lv→P j=s3.pred j:=fun j hj=>by rw [hP];exact if_pos ⟨Zo,hj⟩
 have hwj:∀ j:Nat,(j:Int)<c.lv→s3.wrd j=m (.nd (P j) (5+j))∧s3.succ j=S j:=fun j hj=>by
  have:=f3.wrd j Zo
  rw [hS]
  show _∧s3.succ j=ptr (m (.nd (P j) (5+j)))
  rw [mn,hPj j hj]
  exact this
 have hz:=hQ.zero (by rw [hK.base,List.append_assoc])
 have hxn:x≠n:=fun e=>by
  rcases f3.inn with h5|h5
  .omega
  .exact hnL (List.mem_append_left _ (e▸h5))
 have hx2:x≠2:=fun e=>by
  rcases f3.inn with h5|h5
  .omega
  .exact hL2 (List.mem_append_left _ (e▸h5))
 have hrow:∀ j:Nat,(j:Int)<c.lv→(P j=Bc 1 (U j))∨(S j=x∧x ∈ D):=fun j hj=>by
  by_cases h0:j=0
  .subst h0
   refine .inl ?_
   rw [hPj 0 hj,hz.1]
   exact f3.zero Zo
  .rcases f3.pred j Zo Zo with h5|⟨h5,h6⟩
   .exact .inl ((hPj j hj).trans h5)
   .exact .inr ⟨by rw [← (hwj j hj).2];exact h5,h6⟩
 have hPin:∀ j,P j ∈ 1::(D++(LA++LB)):=fun j=>by
  by_cases hj:0≤j∧j<c.lv
  .obtain ⟨i,rfl⟩:∃ i:Nat,j=(i:Int):=⟨j.toNat,Zo⟩
   rw [hPj i hj.2]
   rcases f3.ins i Zo with h5|h5
   .rw [h5];exact List.mem_cons_self ..
   .exact List.mem_cons_of_mem _ (by rw [← List.append_assoc];exact List.mem_append_left _ h5)
  .rw [hP]
   show (if 0≤j∧j<c.lv then _ else (1:Int)) ∈ _
   rw [if_neg hj]
   exact List.mem_cons_self ..
 have hPn:∀ j,P j≠n:=fun j e=>by
  have:=hPin j
  rw [e] at this
  rcases List.mem_cons.1 this with h|h
  .exact hn1 h
  .exact hnL h
 have hfp:∀ i,0≤i→i<c.lv→s3.pred i=P i∧s3.succ i=S i∧s3.wrd i=m (.nd (P i) (5+i)):=fun i a b=>by
  obtain ⟨j,rfl⟩:∃ j:Nat,i=(j:Int):=⟨i.toNat,Zo⟩
  have:=hwj j b
  exact ⟨(hPj j b).symm,this.2,this.1⟩
 have hP0:P 0=Bc 1 (D++LA):=by
  have:=hPj 0 Zo
  rw [show ((0:Nat):Int)=0 from rfl] at this
  rw [this]
  exact f3.zero Zo
 have hK3:Ln c m D (LA++LB) R:=hK2.same (by rw [hm,f3.haz.gl];omega) (fun x _ f=>mn x f)
 have hSn:∀ j:Nat,(j:Int)<c.lv→P j=Bc 1 (U j)→S j=(V j).headD 2:=fun j hj h5=>by
  rw [hS]
  show ptr (m (.nd (P j) (5+j)))=_
  rw [h5]
  have:=hK3.rows j hj
  rw [hQ.is] at this
  exact (Row.tail this).first
 have hf5:=hx 5 Zd Zd
 have hS0:=Fj (m (.nd (P 0) (5+0)))
 obtain ⟨s8,hs8⟩:∃ s8:St,s8=(s3.told x 0 0):=⟨_,rfl⟩
 have b8:bit c tid s8 [frI 31 8 k v n t o r 0 0]=some ⟨s8,[frI 31 9 k v n t o r (m (.nd n 5)) x],Cu (.nd n 5),true⟩:=by
  rw [Fb ha Zd]
  show Ao c (.nd n 5) s8 [frI 31 9 k v n t o r (s8.mm (.nd n 5)) s8.ret0]=_
  rw [Ah hf5,hs8,hm]
  rfl
 obtain ⟨s9,hs9⟩:∃ s9:St,s9=s8.put (.nd n 5) (next (m (.nd n 5)) (S 0) false):=⟨_,rfl⟩
 have h80:s8.succ 0=S 0∧s8.pred 0=P 0∧s8.wrd 0=m (.nd (P 0) 5)∧s8.mm=m:=by
  have h0:=hfp 0 Zd Zo
  rw [hs8,hm]
  rw [hm] at h0
  exact ⟨h0.2.1,h0.1,h0.2.2,rfl⟩
 have b9:bit c tid s8 [frI 31 9 k v n t o r (m (.nd n 5)) x]=some ⟨s9,[frI 31 10 k v n t o r (m (.nd n 5)) x],Cu (.nd n 5),true⟩:=by
  rw [Fb ha Zd]
  show Ao c (.nd n 5) (s8.put (.nd n 5) (next (m (.nd n 5)) (s8.succ 0) false)) [frI 31 10 k v n t o r (m (.nd n 5)) x]=_
  rw [h80.1,Ah hf5,← hs9]
 have l0:Lk m s8.mm n P S 0 0:=by
  rw [h80.2.2.2]
  exact ⟨fun _ _ _=>rfl,fun i a b=>Zo,fun i a b=>Zo⟩
 have l9:Lk m s9.mm n P S (0+1) 0:=by
  rw [hs9]
  exact l0.own1 Zd _ (by rw [hS];exact hS0) hPn
 have hP0r:=hLr (P 0) (hPin 0)
 have hw0:s9.mm (.nd (P 0) 5)=m (.nd (P 0) 5):=l9.same _ (fun i _ _=>Ar (.inl (hPn 0))) (fun i a b=>Zo)
 obtain ⟨s10,hs10⟩:∃ s10:St,s10=s9.put (.nd (P 0) 5) (next (m (.nd (P 0) 5)) n false):=⟨_,rfl⟩
 have h90:s9.pred 0=P 0∧s9.wrd 0=m (.nd (P 0) 5):=by rw [hs9];exact ⟨h80.2.1,h80.2.2.1⟩
 have b10:bit c tid s9 [frI 31 10 k v n t o r (m (.nd n 5)) x]=some ⟨s10,[frI 31 11 k v n t o 1 (m (.nd n 5)) x],Cu (.nd (P 0) 5),true⟩:=by
  rw [Fb ha Zd]
  show (if s9.mm (.nd (s9.pred 0) 5)=s9.wrd 0 then Ao c (.nd (s9.pred 0) 5) (s9.put (.nd (s9.pred 0) 5) (next (s9.wrd 0) n false)) [frI 31 11 k v n t o 1 (m (.nd n 5)) x] else _)=_
  rw [h90.1,h90.2,if_pos hw0,Ah (Cl G Zo hP0r Zd Zd),← hs10]
 have l10:Lk m s10.mm n P S 1 1:=by
  rw [hs10]
  exact l9.put Zd _ Zo hPn
 have hfp10:∀ i,0≤i→i<c.lv→s10.pred i=P i∧s10.succ i=S i∧s10.wrd i=m (.nd (P i) (5+i)):=fun i a b=>by
  rw [hs10,hs9,hs8];exact hfp i a b
 have hSo:∀ i,1≤i→i<c.lv→S i=x∨S i=2∨(S i≠x∧S i≠P 0∧S i≠n∧1≤S i∧S i≤c.ns∧mark (m (.nd (S i) 5))=false):=fun i a b=>by
  obtain ⟨j,rfl⟩:∃ j:Nat,i=(j:Int):=⟨i.toNat,Zo⟩
  rcases hrow j b with h5|h5
  .have h6:=hSn j b h5
   cases hv:V j with
   |nil=>rw [hv] at h6;exact .inr (.inl h6)
   |cons y Y=>
    rw [hv] at h6
    have h7:S j=y:=h6
    have hyB:y ∈ LB:=(hQ.high j).subset (by rw [hv];exact List.mem_cons_self ..)
    have hyL:y ∈ D++(LA++LB):=List.mem_append_right _ (List.mem_append_right _ hyB)
    have hyr:=hLr y (List.mem_cons_of_mem _ hyL)
    have hnd5:(D++LA++LB).Nodup:=by rw [List.append_assoc];exact hLn
    have hdis:=(List.nodup_append.1 hnd5).2.2
    refine .inr (.inr ⟨?_,?_,?_,Zo,Zo,?_⟩)
    .rw [h7];intro e
     rcases f3.inn with h8|h8
     .omega
     .exact hdis x (List.mem_append_left _ h8) y hyB e.symm
    .rw [h7,hP0];intro e
     rcases Di 1 (D++LA) with h8|h8
     .exact hL1 (by rw [← h8,← e];exact hyL)
     .exact hdis _ h8 y hyB e.symm
    .rw [h7];intro e;exact hnL (e▸hyL)
    .rw [h7];exact hK3.live y (List.mem_append_right _ hyB)
  .exact .inl h5.1
 obtain ⟨m11,j11,w11,r11,l11,q1,q2,q3⟩:=rQ G ha (k:=k) (v:=v) (t:=t) (o:=o) (x:=x) hn t2 (m:=m) (P:=P) (S:=S) hPn (fun i _ _=>hLr (P i) (hPin i)) hx2 (fun i _ _=>by rw [hS]) hSo (t-1).toNat s10 1 (m (.nd n 5)) rfl Zd t1 hfp10 l10
 obtain ⟨s12,hs12⟩:∃ s12:St,s12=({s10 with mm:=m11}:St).put (.nd n 2) 0:=⟨_,rfl⟩
 have b17:bit c tid ({s10 with mm:=m11}:St) [frI 31 17 k v n t o j11 w11 x]=some ⟨s12,[frI 31 18 k v n t o j11 w11 x],Cu (.nd n 2),true⟩:=by
  rw [Fb ha Zd,hs12]
  exact Ah (hx 2 Zd Zd)
 obtain ⟨m13,hb13,r13⟩:=Ic (c:=c) (tid:=tid) G s12 (frI 31 18 k v n t o j11 w11 x) 0 0 0 (.inr (.inr ⟨ha,by show 31≤31;decide,by show 31≤33;decide⟩))
 have b18:bit c tid s12 [frI 31 18 k v n t o j11 w11 x]=some ⟨s12,fin s12 (frI 31 18 k v n t o j11 w11 x) [] 0 0 0,[],false⟩:=by
  rw [Fb ha Zd]
  rfl
 rw [← hs8] at r4
 have hall:=r4.trans (Runs.via b8 (Runs.via b9 (Runs.via b10 (r11.trans (Runs.via b17 (Runs.via b18 r13))))))
 have h7:∀ x,(∀ a b,x≠.haz a b)→x≠.nd n 2→m13 x=m11 x:=fun x hh hx=>by
  rw [hb13 x hh,hs12,Bo _ _ hx]
 have h7n:m13 (.nd n 2)=0:=by rw [hb13.nd,hs12,Dl]
 have hgl:∀ i,m13 (.gl i)=s2.mm (.gl i):=fun i=>by
  rw [h7 _ (fun _ _ e=>by cases e) (fun e=>by cases e),l11.same _ (fun _ _ _ e=>by cases e) (fun _ _ _ e=>by cases e),hm,f3.haz.gl]
 have hKf:Ln c m13 D (LA++n::LB) (fun j=>if (j:Int)<j11 then U j++n::V j else R j):=by
  refine hK3.insert (m1:=m11) (n:=n) (t:=j11) (P:=P) (S:=S) hQ ?_ Zo Zo (fun j hj=>?_) hPn (fun j _=>by rw [hS]) l11 h7 h7n (fun x hx=>by rw [mn,mn,n0];exact hA x hx) (fun x hx=>by rw [mn,mn,n0];exact hB2 x hx) ?_ ?_
  .refine List.nodup_cons.2 ⟨fun e=>?_,List.nodup_cons.2 ⟨hnL,hLn⟩⟩
   rcases List.mem_cons.1 e with h|h
   .exact hn1 h.symm
   .exact hL1 h
  .by_cases h0:j=0
   .subst h0
    rw [hz.1];exact hP0
   .rcases hrow j Zo with h5|h5
    .exact h5
    .exact absurd h5.1 (q3 j Zo hj)
  .rw [mn,n1];exact vr
  .rw [mn,n0,hm,f3.haz.gl,hg2]
   omega
 have hpm:(n::1::2::(D++(LA++LB))).Perm (1::2::(D++(LA++n::LB))):=by
  have h1:(n::1::2::(D++(LA++LB))).Perm (1::2::n::(D++(LA++LB))):=(List.Perm.swap 1 n _).trans (List.Perm.cons 1 (List.Perm.swap 2 n _))
  refine h1.trans (List.Perm.cons 1 (List.Perm.cons 2 ?_))
  rw [← List.append_assoc,← List.append_assoc]
  exact List.perm_middle.symm
 refine ⟨{s12 with mm:=m13},LA++n::LB,free1,_,hall,(hO2.same ?_ (fun x=>?_) ?_).perm hpm,hKf,?_,?_,?_⟩
 .exact hgl 0
 .show m13 (.link x)=_
  rw [h7 _ (fun _ _ e=>by cases e) (fun e=>by cases e),l11.same _ (fun _ _ _ e=>by cases e) (fun _ _ _ e=>by cases e),hm,f3.haz.link]
 .show s12.rt=s2.rt
  rw [hs12,hs10,hs9,hs8]
  exact f3.rt
 .show s12.us=_
  rw [hs12,hs10,hs9,hs8]
  show s3.us=_
  rw [f3.us,hu2]
 .show m13 (.gl 3)=_
  rw [hgl,hg2,hT]
 .have hfld:∀ x f,f<5→(x≠n∨f≠2)→m13 (.nd x f)=s2.mm (.nd x f):=fun x f h1 h2=>by
   rw [h7 _ (fun _ _ e=>by cases e) (Ar h2),l11.same _ (fun i a b=>Ar (.inr Zo)) (fun i a b=>Ar (.inr Zo)),mn]
  have hkn:kvl m13 n=(k,v):=by
   unfold kvl
   rw [hfld n 0 Zd (.inr Zd),hfld n 1 Zd (.inr Zd),n0,n1]
   congr 1
   omega
  have hko:∀ x ∈ LA++LB,kvl m13 x=kvl s.mm x:=fun x hx=>by
   have hxn:x≠n:=fun e=>hnL (List.mem_append_right _ (e▸hx))
   unfold kvl
   rw [hfld x 0 Zd (.inl hxn),hfld x 1 Zd (.inl hxn),en x 0 hxn,en x 1 hxn]
  show ((LA++n::LB).map (kvl m13)).Perm _
  refine (List.Perm.map _ List.perm_middle).trans ?_
  rw [List.map_cons,hkn]
  exact List.Perm.cons _ (List.Perm.of_eq (List.map_congr_left hko))
def Eg (pc:Nat) (e i w p k:Int):Fr:={fn:=36,pc:=pc,r0:=0,r1:=e,r2:=i,r3:=w,r4:=p,r5:=k}
theorem Gc (ha:c.algo=2) {s:St} {pc:Nat} {e i w p k:Int} {fs:List Fr} (hp:pc≠90):bit c tid s (Eg pc e i w p k::fs)=Oq c tid s (Eg pc e i w p k) fs:=by
 rw [Oo ha]
 unfold Ef
 rw [if_neg (by show ¬ (36<31∨36<36);omega),if_neg (show ¬ (Eg pc e i w p k).pc=90 from hp)]
 rfl
theorem Tg (G:Good c tid) (ha:c.algo=2) (k:Int):c.has (.haz tid (Gl c k))=true:=by
 have hsl:=Hh (c:=c) Zo
 have hlv:=G.lv
 unfold Gl
 exact Gf G.me.1 G.me.2 Zo Zo
theorem kQ (G:Good c tid) (ha:c.algo=2) {e i w:Int} (fs:List Fr) (hfs:fs.length≤40) (hi0:1≤i) (hi1:i<c.lv) {m:Loc→Int} (he:m (.gl 1)=e) (Y:List Int):∀ (X:List Int) (s:St) (d k:Int),ButHaz m s.mm→Row m i d (X++Y)→
  (∀ x ∈ d::X,mark (m (.nd x 5))=true∧1≤x∧x≤c.ns∧x≠2)→(∀ y ∈ Y,1≤y∧y≤c.ns∧y≠2)→(∀ y ∈ Y.head?,mark (m (.nd y 5))=false∧y≠ptr w)→k+X.length+2≤1000→0≤k→
  ∃ m' k',ButHaz m m'∧Runs c tid s (Eg 2 e i w d k::fs) {s with mm:=m'} (Eg 6 e i w (Y.headD 2) k'::fs)∧0≤k'∧k'≤k+X.length+2:=by
 intro X
 have hlv:=G.lv
 have hgl:=Cw (c:=c) 1 Zd Zd
 have guard:∀ (s:St) (p k:Int),ButHaz m s.mm→k<1000→∃ m',ButHaz m m'∧Runs c tid s (Eg 2 e i w p k::fs) {s with mm:=m'} (Eg 4 e i w p (k+1)::fs):=fun s p k hb hk=>by
  have b2:bit c tid s (Eg 2 e i w p k::fs)=some ⟨s.put (.haz tid (Gl c k)) p,Eg 3 e i w p (k+1)::fs,[],true⟩:=by
   rw [Gc ha Zd]
   show (if k≥1000000 then none else Ao c (.haz tid (Gl c k)) (s.put (.haz tid (Gl c k)) p) (Eg 3 e i w p (k+1)::fs))=_
   rw [if_neg Zo,Ah (Tg G ha k)]
   rfl
  have hb2:ButHaz m (s.put (.haz tid (Gl c k)) p).mm:=hb.trans (ButHaz.upd _ _ _ _)
  have b3:bit c tid (s.put (.haz tid (Gl c k)) p) (Eg 3 e i w p (k+1)::fs)=some ⟨s.put (.haz tid (Gl c k)) p,Eg 4 e i w p (k+1)::fs,[],true⟩:=by
   rw [Gc ha Zd]
   show Ao c (.gl 1) (s.put (.haz tid (Gl c k)) p) (Eg (if (s.put (.haz tid (Gl c k)) p).mm (.gl 1)≠e then 0 else 4) e i w p (k+1)::fs)=_
   rw [hb2.gl,he,if_neg Zs,Ah hgl]
   rfl
  exact ⟨_,hb2,Runs.via b2 (Runs.via b3 (Runs.refl _ _))⟩
 induction X with
 |nil=>
  intro s d k hb hrow hX hY hYm hk hk0
  have hd:=hX d (List.mem_cons_self ..)
  obtain ⟨m1,hb1,r1⟩:=guard s d k hb Zo
  have b4:bit c tid ({s with mm:=m1}:St) (Eg 4 e i w d (k+1)::fs)=some ⟨{s with mm:=m1},Eg 5 e i w d (k+1)::fs,Cu (.nd d 5),true⟩:=by
   rw [Gc ha Zd]
   show (if i<1∨i≥65536 then none else if d=0 then _ else if mark (m1 (.nd d 5))=true then Ao c (.nd d 5) ({s with mm:=m1}:St) (Eg 5 e i w d (k+1)::fs) else _)=_
   rw [if_neg Zo,if_neg Zo,hb1.nd,if_pos hd.1,Ah (Cl G Zo ⟨hd.2.1,hd.2.2.1⟩ Zd Zd)]
  have hlk:=Cm (c:=c) (n:=d) Zo ⟨hd.2.1,hd.2.2.1⟩ (show 0≤i by omega) hi1
  have hfst:=hrow.first
  rw [List.nil_append] at hfst
  have b5:bit c tid ({s with mm:=m1}:St) (Eg 5 e i w d (k+1)::fs)=some ⟨{s with mm:=m1},Eg (if Y.headD 2=2 then 6 else 2) e i w (Y.headD 2) (k+1)::fs,Cu (.nd d (5+i)),true⟩:=by
   rw [Gc ha Zd]
   show Ao c (.nd d (5+i)) ({s with mm:=m1}:St) (Eg (if ptr (m1 (.nd d (5+i)))=2 then 6 else 2) e i w (ptr (m1 (.nd d (5+i)))) (k+1)::fs)=_
   rw [hb1.nd,hfst,Ah hlk]
  cases hYe:Y with
  |nil=>
   rw [hYe] at b5
   rw [if_pos (show ([]:List Int).headD 2=2 from rfl)] at b5
   exact ⟨m1,k+1,hb1,r1.trans (Runs.via b4 (Runs.via b5 (Runs.refl _ _))),Zo,Zs⟩
  |cons y Y'=>
   rw [hYe] at b5
   have hy:=hY y (by rw [hYe];exact List.mem_cons_self ..)
   have hym:=hYm y (by rw [hYe];rfl)
   rw [if_neg (show ¬ (y::Y').headD 2=2 from hy.2.2)] at b5
   obtain ⟨m2,hb2,r2⟩:=guard {s with mm:=m1} y (k+1) hb1 (by simp at hk;omega)
   have b6:bit c tid ({s with mm:=m2}:St) (Eg 4 e i w y (k+1+1)::fs)=some ⟨{s with mm:=m2},Eg 6 e i w y (k+1+1)::fs,Cu (.nd y 5),true⟩:=by
    rw [Gc ha Zd]
    show (if i<1∨i≥65536 then none else if y=0 then _ else if mark (m2 (.nd y 5))=true then _ else if y=ptr w then _ else Ao c (.nd y 5) ({s with mm:=m2}:St) (Eg 6 e i w y (k+1+1)::fs))=_
    rw [if_neg Zo,if_neg Zo,hb2.nd,if_neg (by rw [hym.1];decide),if_neg hym.2,Ah (Cl G Zo ⟨hy.1,hy.2.1⟩ Zd Zd)]
   exact ⟨m2,k+1+1,hb2,r1.trans (Runs.via b4 (Runs.via b5 (r2.trans (Runs.via b6 (Runs.refl _ _))))),Zo,by simp;omega⟩
 |cons x X ih=>
  intro s d k hb hrow hX hY hYm hk hk0
  have hd:=hX d (List.mem_cons_self ..)
  have hx:=hX x Zs
  obtain ⟨m1,hb1,r1⟩:=guard s d k hb Zo
  have b4:bit c tid ({s with mm:=m1}:St) (Eg 4 e i w d (k+1)::fs)=some ⟨{s with mm:=m1},Eg 5 e i w d (k+1)::fs,Cu (.nd d 5),true⟩:=by
   rw [Gc ha Zd]
   show (if i<1∨i≥65536 then none else if d=0 then _ else if mark (m1 (.nd d 5))=true then Ao c (.nd d 5) ({s with mm:=m1}:St) (Eg 5 e i w d (k+1)::fs) else _)=_
   rw [if_neg Zo,if_neg Zo,hb1.nd,if_pos hd.1,Ah (Cl G Zo ⟨hd.2.1,hd.2.2.1⟩ Zd Zd)]
  have hlk:=Cm (c:=c) (n:=d) Zo ⟨hd.2.1,hd.2.2.1⟩ (show 0≤i by omega) hi1
  have b5:bit c tid ({s with mm:=m1}:St) (Eg 5 e i w d (k+1)::fs)=some ⟨{s with mm:=m1},Eg 2 e i w x (k+1)::fs,Cu (.nd d (5+i)),true⟩:=by
   rw [Gc ha Zd]
   show Ao c (.nd d (5+i)) ({s with mm:=m1}:St) (Eg (if ptr (m1 (.nd d (5+i)))=2 then 6 else 2) e i w (ptr (m1 (.nd d (5+i)))) (k+1)::fs)=_
   rw [hb1.nd,hrow.1,if_neg hx.2.2.2,Ah hlk]
  obtain ⟨m2,k2,hb2,r2,q1,q2⟩:=ih {s with mm:=m1} x (k+1) hb1 hrow.2 (fun z hz=>hX z (List.mem_cons_of_mem _ hz)) hY hYm (by simp at hk ⊢;omega) Zo
  exact ⟨m2,k2,hb2,r1.trans (Runs.via b4 (Runs.via b5 r2)),q1,by simp at q2 ⊢;omega⟩
structure MvM (m m':Loc→Int) (X Y:Nat→List Int) (lv i:Int):Prop where
 same:∀ x,(∀ a b,x≠.haz a b)→(∀ j,i≤j→j<lv→x≠.nd 1 (5+j))→m' x=m x
 past:∀ j:Nat,i≤(j:Int)→(j:Int)<lv→ptr (m' (.nd 1 (5+j)))=(Y j).headD 2
theorem MvM.keep {m m1:Loc→Int} {X Y:Nat→List Int} {lv:Int} {i:Nat} (h:MvM m m1 X Y lv (i+1)) (hp:ptr (m1 (.nd 1 (5+i)))=(Y i).headD 2):MvM m m1 X Y lv i:=
 ⟨fun x a b=>h.same x a (fun j c d=>b j Zo d),fun j a b=>by
  by_cases e:j=i
  .rw [e];exact hp
  .exact h.past j Zo b⟩
theorem MvM.step {m m1:Loc→Int} {X Y:Nat→List Int} {lv:Int} {i:Nat} (h:MvM m m1 X Y lv (i+1)) (hi:(i:Int)<lv) (v:Int) (hp:ptr v=(Y i).headD 2):MvM m (upd m1 (.nd 1 (5+i)) v) X Y lv i:=
 ⟨fun x a b=>by
  rw [By _ _ (b i (Int.le_refl _) hi)]
  exact h.same x a (fun j c d=>b j Zo d),fun j a b=>by
  by_cases e:j=i
  .rw [e,Fi];exact hp
  .rw [By _ _ (Ar (.inr Zo))]
   exact h.past j Zo b⟩
theorem MvM.haz {m m1 m':Loc→Int} {X Y:Nat→List Int} {lv i:Int} (h:MvM m m1 X Y lv i) (hb:ButHaz m1 m'):MvM m m' X Y lv i:=
 ⟨fun x h1 h2=>(hb x h1).trans (h.same x h1 h2),fun j a b=>by rw [hb.nd];exact h.past j a b⟩
theorem kR (G:Good c tid) (ha:c.algo=2) {e:Int} (fs:List Fr) (hfs:fs.length≤40) {m:Loc→Int} (he:m (.gl 1)=e) {X Y:Nat→List Int} (hrow:∀ j:Nat,1≤j→(j:Int)<c.lv→Row m j 1 (X j++Y j))
  (hX:∀ j:Nat,(j:Int)<c.lv→(X j).length≤64∧∀ x ∈ X j,mark (m (.nd x 5))=true∧1≤x∧x≤c.ns∧x≠2∧x≠1) (hY:∀ j:Nat,(j:Int)<c.lv→∀ y ∈ Y j,1≤y∧y≤c.ns∧y≠2∧y≠1∧mark (m (.nd y 5))=false)
  (hd:∀ j:Nat,(j:Int)<c.lv→∀ x ∈ X j,x ∉ Y j):∀ (i:Nat) (s:St) (w0 p0 k:Int),(i:Int)<c.lv→MvM m s.mm X Y c.lv (i+1)→0≤k→k+i*70≤900→
  ∃ m',Runs c tid s (Eg 1 e i w0 p0 k::fs) (({s with mm:=m'}:St).told 0 0 0) fs∧MvM m m' X Y c.lv 1:=by
 have hlv:=G.lv
 have hN:=G.ns
 have hse:=Jl (c:=c) Zo
 intro i
 induction i with
 |zero=>
  intro s w0 p0 k hi hM hk0 hk
  refine ⟨s.mm,Runs.via (o:=⟨s.told 0 0 0,fs,[],false⟩) ?_ (Runs.refl _ _),hM⟩
  rw [Gc ha Zd]
  rfl
 |succ i ih=>
  intro s w0 p0 k hi hM hk0 hk
  have hhd:=Cm (c:=c) (n:=1) Zo ⟨Zd,Zo⟩ (show 0≤((i+1:Nat):Int) by omega) hi
  have e1:s.mm (.nd 1 (5+(i+1:Nat)))=m (.nd 1 (5+(i+1:Nat))):=hM.same _ (fun _ _ e=>by cases e) (fun j a b=>Ar (.inr Zo))
  have hro:=hrow (i+1) Zo hi
  have hXi:=hX (i+1) hi
  have hYi:=hY (i+1) hi
  have hfst:=hro.first
  obtain ⟨w,hw⟩:∃ w,w=m (.nd 1 (5+(i+1:Nat))):=⟨_,rfl⟩
  rw [← hw] at e1 hfst
  have b1:bit c tid s (Eg 1 e (i+1:Nat) w0 p0 k::fs)=if ptr w=2 then some ⟨s,Eg 1 e i w (ptr w) k::fs,Cu (.nd 1 (5+(i+1:Nat))),true⟩ else some ⟨s,Eg 2 e (i+1:Nat) w (ptr w) k::fs,Cu (.nd 1 (5+(i+1:Nat))),true⟩:=by
   rw [Gc ha Zd]
   show (if ((i+1:Nat):Int)=0 then ok (s.told 0 0 0) fs else if ptr (s.mm (.nd 1 (5+(i+1:Nat))))=2 then Ao c (.nd 1 (5+(i+1:Nat))) s (Eg 1 e (((i+1:Nat):Int)-1) (s.mm (.nd 1 (5+(i+1:Nat)))) (ptr (s.mm (.nd 1 (5+(i+1:Nat))))) k::fs)
    else Ao c (.nd 1 (5+(i+1:Nat))) s (Eg 2 e (i+1:Nat) (s.mm (.nd 1 (5+(i+1:Nat)))) (ptr (s.mm (.nd 1 (5+(i+1:Nat))))) k::fs))=_
   rw [if_neg Zo,e1,show ((i+1:Nat):Int)-1=i by omega]
   split
   .rw [Ah hhd]
   .rw [Ah hhd]
  have on:∀ (s':St) (w' p' k':Int),(∀ x y z m',({s' with mm:=m'}:St).told x y z=({s with mm:=m'}:St).told x y z)→MvM m s'.mm X Y c.lv (i+1:Nat)→0≤k'→k'+i*70≤900→Runs c tid s (Eg 1 e (i+1:Nat) w0 p0 k::fs) s' (Eg 1 e i w' p' k'::fs)→
    ∃ m',Runs c tid s (Eg 1 e (i+1:Nat) w0 p0 k::fs) (({s with mm:=m'}:St).told 0 0 0) fs∧MvM m m' X Y c.lv 1:=fun s' w' p' k' hs hM' h0 h1 hr=>by
   obtain ⟨m',q1,q2⟩:=ih s' w' p' k' Zo hM' h0 h1
   rw [hs] at q1
   exact ⟨m',hr.trans q1,q2⟩
  cases hXe:X (i+1) with
  |nil=>
   rw [hXe,List.nil_append] at hfst
   cases hYe:Y (i+1) with
   |nil=>
    rw [hYe] at hfst
    rw [if_pos (show ptr w=2 from hfst)] at b1
    refine on s w (ptr w) k (fun _ _ _ _=>rfl) (hM.keep ?_) hk0 Zo (Runs.via b1 (Runs.refl _ _))
    rw [e1,hfst,hYe]
   |cons y Y'=>
    rw [hYe] at hfst
    have hpy:ptr w=y:=hfst
    have hy:=hYi y (by rw [hYe];exact List.mem_cons_self ..)
    rw [if_neg (by rw [hpy];exact hy.2.2.1),hpy] at b1
    have b2:bit c tid s (Eg 2 e (i+1:Nat) w y k::fs)=some ⟨s.put (.haz tid (Gl c k)) y,Eg 3 e (i+1:Nat) w y (k+1)::fs,[],true⟩:=by
     rw [Gc ha Zd]
     show (if k≥1000000 then none else Ao c (.haz tid (Gl c k)) (s.put (.haz tid (Gl c k)) y) (Eg 3 e (i+1:Nat) w y (k+1)::fs))=_
     rw [if_neg Zo,Ah (Tg G ha k)]
     rfl
    obtain ⟨s2,hs2⟩:∃ s2,s2=s.put (.haz tid (Gl c k)) y:=⟨_,rfl⟩
    rw [← hs2] at b2
    have hb2:ButHaz s.mm s2.mm:=by rw [hs2];exact ButHaz.upd _ _ _ _
    have hM2:MvM m s2.mm X Y c.lv ((i+1:Nat)+1):=hM.haz hb2
    have b3:bit c tid s2 (Eg 3 e (i+1:Nat) w y (k+1)::fs)=some ⟨s2,Eg 4 e (i+1:Nat) w y (k+1)::fs,[],true⟩:=by
     rw [Gc ha Zd]
     show Ao c (.gl 1) s2 (Eg (if s2.mm (.gl 1)≠e then 0 else 4) e (i+1:Nat) w y (k+1)::fs)=_
     rw [hM2.same _ (fun _ _ e=>by cases e) (fun _ _ _ e=>by cases e),he,if_neg Zs,Ah (Cw 1 Zd Zd)]
     rfl
    have b4:bit c tid s2 (Eg 4 e (i+1:Nat) w y (k+1)::fs)=some ⟨s2,Eg 1 e i w y (k+1)::fs,Cu (.nd y 5),true⟩:=by
     rw [Gc ha Zd]
     show (if ((i+1:Nat):Int)<1∨((i+1:Nat):Int)≥65536 then none else if y=0 then _ else if mark (s2.mm (.nd y 5))=true then _ else if y=ptr w then Ao c (.nd y 5) s2 (Eg 1 e (((i+1:Nat):Int)-1) w y (k+1)::fs) else _)=_
     rw [if_neg Zo,if_neg Zo,hM2.same _ (fun _ _ e=>by cases e) (fun _ _ _=>Ar (.inl hy.2.2.2.1)),if_neg (by rw [hy.2.2.2.2];decide),if_pos hpy.symm,Ah (Cl G Zo ⟨hy.1,hy.2.1⟩ Zd Zd),show ((i+1:Nat):Int)-1=i by omega]
    refine on s2 w y (k+1) (fun _ _ _ _=>by rw [hs2];rfl) (hM2.keep ?_) Zo Zo (Runs.via b1 (Runs.via b2 (Runs.via b3 (Runs.via b4 (Runs.refl _ _)))))
    rw [hb2.nd,e1,hpy,hYe]
    rfl
  |cons d X'=>
   rw [hXe,List.cons_append] at hfst
   have hpd:ptr w=d:=hfst
   rw [hXe] at hXi
   have hdm:=hXi.2 d (List.mem_cons_self ..)
   rw [if_neg (by rw [hpd];exact hdm.2.2.2.1),hpd] at b1
   have hro2:=hro
   rw [hXe] at hro2
   have hsn:∀ x f,x≠1→s.mm (.nd x f)=m (.nd x f):=fun x f hx=>hM.same _ (fun _ _ e=>by cases e) (fun j a b=>Ar (.inl hx))
   obtain ⟨m2,k2,hb2,r2,q1,q2⟩:=kQ G ha (e:=e) (i:=((i+1:Nat):Int)) (w:=w) fs hfs Zo hi (m:=s.mm) (by rw [hM.same _ (fun _ _ e=>by cases e) (fun _ _ _ e=>by cases e)];exact he) (Y (i+1)) X' s d k (ButHaz.refl _)
    (Row.congr (fun x hx=>by
     rw [hsn]
     rcases List.mem_cons.1 hx with rfl|hx
     .exact hdm.2.2.2.2
     .rcases List.mem_append.1 hx with h5|h5
      .exact (hXi.2 x (List.mem_cons_of_mem _ h5)).2.2.2.2
      .exact (hYi x h5).2.2.2.1) hro2.2)
    (fun x hx=>by
     have:=hXi.2 x hx
     rw [hsn _ _ this.2.2.2.2]
     exact ⟨this.1,this.2.1,this.2.2.1,this.2.2.2.1⟩)
    (fun y hy=>⟨(hYi y hy).1,(hYi y hy).2.1,(hYi y hy).2.2.1⟩)
    (fun y hy=>by
     have hyY:=List.mem_of_mem_head? hy
     have:=hYi y hyY
     rw [hsn _ _ this.2.2.2.1]
     refine ⟨this.2.2.2.2,fun e5=>hd (i+1) hi d (by rw [hXe];exact List.mem_cons_self ..) ?_⟩
     rw [← hpd,← e5];exact hyY) (by have:=hXi.1;simp at this;omega) hk0
   have hl:=hXi.1
   simp at hl
   obtain ⟨s6,hs6⟩:∃ s6:St,s6=({s with mm:=m2}:St).put (.nd 1 (5+(i+1:Nat))) (next w ((Y (i+1)).headD 2) false):=⟨_,rfl⟩
   have b6:bit c tid ({s with mm:=m2}:St) (Eg 6 e (i+1:Nat) w ((Y (i+1)).headD 2) k2::fs)=some ⟨s6,Eg 1 e i w ((Y (i+1)).headD 2) k2::fs,Cu (.nd 1 (5+(i+1:Nat))),true⟩:=by
    rw [Gc ha Zd]
    show (if ((i+1:Nat):Int)<1∨((i+1:Nat):Int)≥65536 then none else if m2 (.nd 1 (5+(i+1:Nat)))=w then Ao c (.nd 1 (5+(i+1:Nat))) (({s with mm:=m2}:St).put (.nd 1 (5+(i+1:Nat))) (next w ((Y (i+1)).headD 2) false)) (Eg 1 e (((i+1:Nat):Int)-1) w ((Y (i+1)).headD 2) k2::fs) else _)=_
    rw [if_neg Zo,hb2.nd,if_pos e1,Ah hhd,← hs6,show ((i+1:Nat):Int)-1=i by omega]
   have hhr:0≤(Y (i+1)).headD 2∧(Y (i+1)).headD 2<65536:=by
    cases hYe:Y (i+1) with
    |nil=>exact ⟨Zd,Zd⟩
    |cons y Y'=>
     have:=hYi y (by rw [hYe];exact List.mem_cons_self ..)
     show 0≤y∧y<65536
     omega
   have hM2:MvM m m2 X Y c.lv ((i+1:Nat)+1):=hM.haz hb2
   refine on s6 w _ k2 (fun _ _ _ _=>by rw [hs6];rfl) ?_ q1 Zo (Runs.via b1 (r2.trans (Runs.via b6 (Runs.refl _ _))))
   rw [hs6]
   exact hM2.step hi _ (by rw [Em _ _ _ hhr.1 hhr.2])
end Go.Proofs.YtlejhikddkdanaaGreat.Mdl
