/- TopSame, part 10: lemmas on the way. -/
import Derived.Test.YtlejhikddkdanaaGreatM9
import Derived.Test.YtlejhikddkdanaaGreatRows
set_option maxHeartbeats 8000000
set_option maxRecDepth 1000000
set_option linter.unusedVariables false
set_option linter.unusedSimpArgs false
namespace Go.Proofs.YtlejhikddkdanaaGreat.Mdl
open RowKit PTopSame Wk Fns YtlejhikddkdanaaGreatW.PrintWords YtlejhikddkdanaaGreatW.PrintLast YtlejhikddkdanaaGreatW.PrintMore
variable {c:Cf} {tid:Int} {A:Ad} {T:Td} {B:Nat→Prop} {w0 w w1 w2 w6 w7:World} {fv fv':Value} {s s':St} {l l' fs:List Fr} {f f':Fr} {fb cap ga gb qb thb:Nat}
section
attribute [local go_sem] Cs Cq De Dd Cj Ci Cr Cp
theorem gL (tb:Nat) (x:Int) (rv:Value) (xs:List Int) (cs:Array Value) (w:World) (hl:xs.length<1000) (ht:w.heap[tb]?=some (.cells cs 104 (0,0))) (hc:cs[8]?=some rv)
  (ho:w.ownsRow 0 3 1 rv xs.length (Co .i64 xs)) (hne:some tb≠rv.ownBlock) :
  Calls Tryz.prog 155 #[Pt tb 8,Φ x] w fun e w'=>e=.returned (.tuple #[])∧∃ v1,w'.ownsRow 0 3 1 v1 (xs.length+1) (Co .i64 (xs++[x]))∧w'.heap[tb]?=some (.cells (cs.setIfInBounds 8 v1) 104 (0,0))∧Over (fun k=>k=tb∨rv.ownBlock=some k) w w'∧(v1.ownBlock=rv.ownBlock∨∃ b,v1.ownBlock=some b∧w.heap.size≤b):=by
 have HT:=Az.m ht
 have HO:=Az.m ho
 have HC:=Az.m hc
 have HN:=Az.m hne
 have c8:w.cell? (Ψ tb 8)=some rv:=(Aa ht 8).trans hc
 clear ho hne ht hc
 obtain ⟨A0,c0,e0,-⟩:=Lr (enc:=fun y:Int=>Value.int .i64 y) (d:=0) (show w.ownsRow 0 3 1 rv xs.length (eJ (fun y:Int=>Value.int .i64 y) xs) from HO.o)
 subst e0
 go_enter Tryz.func155,Tryz.ntmps155
 go_wp2_with (first|((with_reducible refine Al (N:=13) rfl ?_);go_must (refine Ii (W:=w) (w0:=w) 0 rfl (.tmp 10) (.tmp 12) 35 3 .i64 8 rfl Tryz.underlying35 PTopSame.info3 Zd (.slice A0 xs.length c0) xs x rfl rfl HO.o (Below.refl _ _) (Nat.zero_le _) Zo ?_;intro v1 w1 h1 h2 h3 h4;obtain ⟨A1,c1,e1,h9⟩:=Lr (enc:=fun y:Int=>Value.int .i64 y) (d:=0) (show w1.ownsRow 0 3 1 v1 (xs++[x]).length (eJ (fun y:Int=>Value.int .i64 y) (xs++[x])) from h1);clear h9;subst e1;rw [show (xs++[x]).length=xs.length+1 from Zs] at h1 h4;have K1:=Az.m h1;have K3:=Az.m h3;have K4:=Az.m h4;have KT:=Az.m (Ed HT.o h3 HN.o);have d8:w1.cell? (Ψ tb 8)=some (.slice A0 xs.length c0):=((Aa KT.o 8).trans HC.o);have f8:=Ab KT.o 8;clear h1 h2 h3 h4)))
 go_end0
 exact ⟨rfl,_,Bi K1.o ((Over.refl (fun k=>k=tb) _).set_ (Or.inl rfl) _) (fun k hk e=>by
  rw [e] at hk
  rcases K4.o with h|⟨b,h,h'⟩
  .exact HN.o (hk.symm.trans h)
  .rw [h] at hk
   injection hk with hk
   have:=Bb HT.o
   omega),Ae KT.o 8 _ rfl,(Over.mk K3.o.os K3.o.tape K3.o.output K3.o.size (fun k hk hs=>K3.o.block k hk (fun e=>hs (.inr e.symm)))).set_ (Or.inl (Or.inl rfl)) _,K4.o⟩
theorem vD {x:Int} (hl:s.rt.length<1000) (H:Ix c tid A T B w0 fv s l w) :
  Calls Tryz.prog 155 #[Pt T.tb 8,Φ x] w fun e w'=>e=.returned (.tuple #[])∧Ix c tid A T B w0 fv {s with rt:=s.rt++[x]} l w':=by
 obtain ⟨g,aT,hm⟩:=H.mach
 obtain ⟨rv,dv,ht,hr,hd,hs1,hs2⟩:=H.thr
 have hne:some T.tb≠rv.ownBlock:=fun e=>by
  obtain ⟨cs,hc⟩:=Ay hr e.symm
  exact An ht hc Zd rfl
 refine (gL T.tb x rv s.rt _ w hl ht rfl hr hne).mono ?_
 rintro e w' ⟨rfl,v1,h1,h2,ho,h4⟩
 have nt:∀ (k:Nat) (cs:Array Value) (e:TypeId),w.heap[k]?=some (.cells cs e (0,0))→e≠104→e≠3→¬ (k=T.tb∨rv.ownBlock=some k):=fun k cs e hk he he2 hh=>hh.elim (An hk ht he) (fun h3=>by
  obtain ⟨cs',h4⟩:=Ay hr h3
  exact An hk h4 he2 rfl)
 refine ⟨rfl,⟨g,aT,hm.off ho (fun k hk=>hk.elim (fun hk=>⟨_,104,hk▸ht,.inl rfl⟩) (fun hk=>by obtain ⟨cs',h5⟩:=Ay hr hk;exact ⟨_,3,h5,.inr (.inr (.inr ⟨rfl,(hs1 k hk).1⟩))⟩))⟩,
  ⟨v1,dv,h2,by rw [show (s.rt++[x]).length=s.rt.length+1 from Zs];exact h1,?_,?_,hs2⟩,
  Bi H.frames ho (fun k hk=>by obtain ⟨cs,h5⟩:=Ay H.frames hk;exact nt k cs 111 h5 Zd Zd),
  ho.blk H.pred (nt _ _ _ H.pred Zd Zd),ho.blk H.succ (nt _ _ _ H.succ Zd Zd),ho.blk H.wrd (nt _ _ _ H.wrd Zd Zd),H.prf,H.rets,H.fits,
  H.over.then_ ho (fun k hk=>hk.elim (fun hk=>by rw [hk];exact H.own.1) (fun hk=>(hs1 k hk).2.2)),H.mayD,H.own,H.fvD,H.apart⟩
 .exact hd.over ho (fun k hk hh=>hh.elim (fun e=>by obtain ⟨cs,h5⟩:=hd.type hk;exact An h5 ht Zd e) (fun e=>(hs1 k e).2.1 hk))
 .intro k hk
  rcases h4 with h4|⟨b,h4,h5⟩
  .exact hs1 k (h4▸hk)
  .rw [h4] at hk
   injection hk with hk
   subst hk
   refine ⟨fun hmay=>?_,fun hdv=>?_,Or.inr (Nat.le_trans H.over.size h5)⟩
   .have:=hm.may_lt hmay
    omega
   .obtain ⟨cs,h6⟩:=hd.type hdv
    have:=Bb h6
    omega
theorem bB (b off cp:Nat) (xs:List Int) (v:Int) (w:World) (hn:xs.length<100000) (hc:∀ j,j<xs.length→w.cell? (Ψ b (off+j))=some (Φ (xs.getD j 0))) :
  Calls Tryz.prog 208 #[.slice (some (Ψ b off)) xs.length cp,Φ v] w fun e w'=>∃ r,e=.returned (Φ r)∧(decide (0≤r)=xs.contains v)∧w=w':=by
 have HC:=Az.m hc
 clear hc
 go_enter Tryz.func208,Tryz.ntmps208
 go_wp2
 go_loopw [8] (fun i wr=>∃ k:Nat,i=Φ k∧k≤xs.length∧Az (∀ j,j<k→xs.getD j 0≠v)∧Az (wr=w)) (fun i _=>xs.length-(intOf i).toNat)
 case atStart=>exact ⟨0,rfl,Zo,⟨fun j hj=>Zo⟩,⟨rfl⟩⟩
 case round=>
  obtain ⟨k,rfl,hk,he,hw⟩:=hrel
  obtain rfl:=hw.out
  by_cases hkm:k<xs.length
  .have b0:((k:Int)<(xs.length:Int))=True:=eq_true Zo
   have b1:(k<xs.length)=True:=eq_true hkm
   have w1:=Ak (x:=(k:Int)+1) Zo Zo
   have ck:=HC.o k hkm
   by_cases hv:v=xs.getD k 0
   .have hv2:=Az.m hv
    rw [← hv] at ck
    clear hv
    go_wp2
    go_ret
    refine ⟨k,rfl,?_,rfl⟩
    have hm:v ∈ xs:=by
     have h5:=hv2.out
     rw [List.getD_eq_getElem?_getD,List.getElem?_eq_getElem hkm] at h5
     simp at h5
     rw [h5]
     exact List.getElem_mem hkm
    exact ⟨fun _=>hm,fun _=>Zo⟩
   .generalize hu:xs.getD k 0=u at ck hv
    have q:=Aj hv
    have hu2:=Az.m hu
    have hv2:=Az.m hv
    clear hv hu
    go_wp2
    refine ⟨⟨k+1,Zs,Zo,⟨fun j hj=>?_⟩,by first|exact ⟨rfl⟩|exact ⟨trivial⟩⟩,by simp [intOf];omega⟩
    by_cases hjk:j=k
    .rw [hjk,hu2.out]
     exact fun e=>hv2.out e.symm
    .exact he.out j Zo
  .have b0:((k:Int)<(xs.length:Int))=False:=eq_false Zo
   have hkm2:k=xs.length:=Zo
   have hkm3:=Az.m hkm2
   clear hkm hkm2
   go_wp2
   go_ret
   refine ⟨-1,rfl,?_,rfl⟩
   have hm:¬ v ∈ xs:=fun h=>by
    obtain ⟨j,hj,e⟩:=List.getElem_of_mem h
    have:=he.out j (by rw [hkm3.out];exact hj)
    rw [List.getD_eq_getElem?_getD,List.getElem?_eq_getElem hj] at this
    exact this e
   exact ⟨fun h=>absurd h Zd,fun h=>absurd h hm⟩
theorem To (b off cp:Nat) (xs:List Int) (v:Int) (w:World) (hn:xs.length<100000) (hc:∀ j,j<xs.length→w.cell? (Ψ b (off+j))=some (Φ (xs.getD j 0))) :
  Calls Tryz.prog 157 #[.slice (some (Ψ b off)) xs.length cp,Φ v] w fun e w'=>e=.returned (.bool (xs.contains v))∧w=w':=by
 have HC:=Az.m hc
 clear hc
 go_enter Tryz.func157,Tryz.ntmps157
 go_wp2_with (first|(go_at_call 208;go_must (refine (bB b off cp xs v _ hn HC.o).mono ?_;rintro e w2 ⟨r,rfl,hr,rfl⟩;have hr2:=Az.m hr;clear hr)))
 go_ret
 exact ⟨by show Ending.returned (Value.bool (decide (0≤r)))=_;rw [hr2.out],rfl⟩
end
theorem bU (gb tb b off cp:Nat) (xs:List Int) (v:Int) (w:World) (hg:w.cell? (Ψ gb 0)=some (Pt tb 0)) (ht:w.cell? (Ψ tb 9)=some (.slice (some (Ψ b off)) xs.length cp)) (hn:xs.length<100000)
  (hc:∀ j,j<xs.length→w.cell? (Ψ b (off+j))=some (Φ (xs.getD j 0))) :
  Calls Tryz.prog 156 #[Φ v,Pt gb 0] w fun e w'=>e=.returned (.bool (xs.contains v))∧w=w':=by
 have HC:=Az.m hc
 clear hc
 go_enter Tryz.func156,Tryz.ntmps156
 go_wp2_with (go_at_call 157;refine (To b off cp xs v w hn HC.o).mono ?_;rintro e w2 ⟨rfl,rfl⟩)
 go_ret
 exact ⟨by show Ending.returned (Value.bool (decide (v ∈ xs)))=_;simp,rfl⟩
theorem iK (v:Int) (w:World):Calls Tryz.prog 208 #[.slice none 0 0,Φ v] w fun e w'=>e=.returned (Φ (-1))∧w=w':=by
 go_enter Tryz.func208,Tryz.ntmps208
 go_wp2
 go_loopw [8] (fun i wr=>i=Φ 0∧Az (wr=w)) (fun i _=>0)
 case atStart=>exact ⟨rfl,⟨rfl⟩⟩
 case round=>
  obtain ⟨rfl,hw⟩:=hrel
  obtain rfl:=hw.out
  go_wp2
  go_ret
  exact ⟨rfl,rfl⟩
theorem Xt (v:Int) (w:World):Calls Tryz.prog 157 #[.slice none 0 0,Φ v] w fun e w'=>e=.returned (.bool false)∧w=w':=by
 go_enter Tryz.func157,Tryz.ntmps157
 go_wp2_with (first|(go_at_call 208;go_must (refine (iK v w).mono ?_;rintro e w2 ⟨rfl,rfl⟩)))
 go_ret
 exact ⟨rfl,rfl⟩
theorem iW (gb tb:Nat) (v:Int) (w:World) (hg:w.cell? (Ψ gb 0)=some (Pt tb 0)) (ht:w.cell? (Ψ tb 9)=some (.slice none 0 0)) :
  Calls Tryz.prog 156 #[Φ v,Pt gb 0] w fun e w'=>e=.returned (.bool (([]:List Int).contains v))∧w=w':=by
 go_enter Tryz.func156,Tryz.ntmps156
 go_wp2_with (go_at_call 157;refine (Xt v w).mono ?_;rintro e w2 ⟨rfl,rfl⟩)
 go_ret
 exact ⟨rfl,rfl⟩
theorem nR (tb:Nat) (sv:Value) (w:World) (hs:w.cell? (Ψ tb 8)=some sv) {R:Ending→World→Prop} (hc:Calls Tryz.prog 209 #[sv] w fun e w'=>∃ v',e=.returned v'∧R (.returned v') w') :
  Calls Tryz.prog 158 #[Pt tb 8] w fun e w'=>∃ v',e=.returned v'∧R (.returned v') w':=by
 have HC:=Az.m hc
 clear hc
 go_enter Tryz.func158,Tryz.ntmps158
 go_wp2_with (go_at_call 209;refine HC.o.mono ?_;rintro e w2 ⟨v',rfl,hr⟩;have HR:=Az.m hr;clear hr)
 go_ret
 exact ⟨_,rfl,HR.o⟩
theorem Nb {w:World} {g:Nat} {cur:Array Value} {cap:Nat} {xs:List Int} (hb:w.heap[g]?=some (.cells cur 3 (0,0))) (ht:cur.toList.take (xs.length*1)=Co .i64 xs):∀ j,j<xs.length→w.cell? (Ψ g (0+j))=some (Φ (xs.getD j 0)):=by
 intro j hj
 rw [Aa hb,Nat.zero_add]
 have h1:(cur.toList.take (xs.length*1))[j]?=(Co .i64 xs)[j]?:=by rw [ht]
 rw [List.getElem?_take_of_lt Zo] at h1
 rw [← Array.getElem?_toList,h1,Co,List.getElem?_map,List.getElem?_eq_getElem hj,List.getD_eq_getElem?_getD,List.getElem?_eq_getElem hj]
 rfl
theorem aN (tb base:Nat) (xs:List Int) (sv:Value) (w:World) (hs:w.cell? (Ψ tb 8)=some sv) (ho:w.ownsRow base 3 1 sv xs.length (Co .i64 xs)) (hn:xs.length<100000) :
  Calls Tryz.prog 158 #[Pt tb 8] w fun e w'=>∃ v',e=.returned v'∧w'.ownsRow w.heap.size 3 1 v' xs.length (Co .i64 xs)∧Below w.heap.size w w':=by
 have key:Calls Tryz.prog 209 #[sv] w fun e w'=>∃ v',e=.returned v'∧(w'.ownsRow w.heap.size 3 1 v' xs.length (Co .i64 xs)∧Below w.heap.size w w'):=by
  obtain ⟨hl,⟨rfl,h0⟩|⟨g,cap,cur,rfl,_,hb,_,_,_,ht⟩⟩:=ho
  .have hx:xs=[]:=List.length_eq_zero_iff.1 h0
   subst hx
   exact (Tryz.slices_Clone_int_nil 0 0 w).mono (by rintro e w' ⟨rfl,rfl⟩;exact ⟨_,rfl,World.ownsRow_nil _ _ _ _,Below.refl _ _⟩)
  .refine (Tryz.slices_Clone_int g 0 xs.length cap xs w (Nat.le_refl _) Zo (Nb (cap:=cap) hb ht)).mono ?_
   rintro e w' ⟨v',rfl,h1,_,h2⟩
   rw [List.take_length] at h1
   exact ⟨v',rfl,h1,h2⟩
 exact (nR tb sv w hs (R:=fun e w'=>∃ v',e=.returned v'∧w'.ownsRow w.heap.size 3 1 v' xs.length (Co .i64 xs)∧Below w.heap.size w w') (key.mono (by rintro e w' ⟨v',rfl,h⟩;exact ⟨v',rfl,v',rfl,h⟩))).mono (by rintro e w' ⟨v',rfl,h⟩;exact h)
end Go.Proofs.YtlejhikddkdanaaGreat.Mdl
namespace Go.Proofs.YtlejhikddkdanaaGreat.Mdl
variable {c:Cf} {tid:Int} {A:Ad} {T:Td} {B:Nat→Prop} {w0 w w1 w2 w6 w7:World} {fv fv':Value} {s s':St} {l l' fs:List Fr} {f f':Fr} {fb cap ga gb qb thb:Nat}
theorem Gu (a b d e f g h:Value) (w:World):(Instr.field 23 (.agg #[a,b,d,e,f,g,h]) 1).run Tryz.prog w=.ok b w:=Zk
theorem Ip (a b d e f g h:Value) (w:World):(Instr.field 23 (.agg #[a,b,d,e,f,g,h]) 3).run Tryz.prog w=.ok e w:=Zk
theorem Iq (a b d e f g h:Value) (w:World):(Instr.field 23 (.agg #[a,b,d,e,f,g,h]) 4).run Tryz.prog w=.ok f w:=Zk
theorem Hr (a b d e f g h:Value) (w:World):(Instr.field 23 (.agg #[a,b,d,e,f,g,h]) 5).run Tryz.prog w=.ok g w:=Zk
theorem Jm (a b d e f g h:Value) (w:World):(Instr.field 23 (.agg #[a,b,d,e,f,g,h]) 6).run Tryz.prog w=.ok h w:=Zk
end Go.Proofs.YtlejhikddkdanaaGreat.Mdl
namespace Go.Proofs.YtlejhikddkdanaaGreat.Mdl
open RowKit PTopSame Wk Fns YtlejhikddkdanaaGreatW.PrintWords YtlejhikddkdanaaGreatW.PrintLast YtlejhikddkdanaaGreatW.PrintMore
variable {c:Cf} {tid:Int} {A:Ad} {T:Td} {B:Nat→Prop} {w0 w w1 w2 w6 w7:World} {fv fv':Value} {s s':St} {l l' fs:List Fr} {f f':Fr} {fb cap ga gb qb thb:Nat}
section
attribute [local go_sem] Cs Cq De Dd Cj Ci Cr Cp Ig Fz Ez Ej Gu Ip Iq Hr Jm Pg Vh Ut
namespace X5
theorem κ {p:Prop} (h:p:=by with_reducible first|(exact Λ84)|(go_at_call 160;exact bW G Zo h2 HI)|(go_at_call 161;exact Ud G Zo h2 HI)|(exact Λ189)):p:=h
theorem ξ {p:Prop} (h:p:=by
 by_cases e1:fn=1
 case' pos=>(subst e1;have h2:alloc c s ⟨1,pc,r0,r1,r2,r3,r4,r5,r6,r7,r8,r9⟩ fs=some out:=h;clear h)
 case' neg=>skip
 by_cases e2:fn=2
 case' pos=>(subst e2;have h2:Rm c s ⟨2,pc,r0,r1,r2,r3,r4,r5,r6,r7,r8,r9⟩ fs=some out:=h;clear h)
 case' neg=>skip
 case' neg=>(exfalso;unfold Rw at h;dsimp only at h;split at h<;>first|omega|exact absurd h Zs)
 all_goals (try (have q1:=Aj (show ¬ (fn:Int)=1 by omega)))
 all_goals (try (have q2:=Aj (show ¬ (fn:Int)=2 by omega)))
 all_goals (go_enter Tryz.func91,Tryz.ntmps91;exact Θ0)):p:=h
end X5
open X5 in
theorem Us (G:Good c tid) (hn:fs.length<900) {out:Out} (h:Rw c s f fs=some out) (H:IT c tid A T B w0 fb cap s f fs w) :
  Calls Tryz.prog 91 #[Pt A.mb 0,Pt T.tb 0] w (RO c tid A T B w0 out):=Ξ
namespace X102
theorem κ {p:Prop} (h:p:=by with_reducible first|(go_at_call 154;exact vH _ HI)|(go_at_call 155;exact vD Zo HI)|(exact Λ189)|(exact Λ54)|(exact Λ50)|(exact Λ86)|(go_at_call 58;exact lZ 6 Zd Zo Zd HI)):p:=h
theorem ξ {p:Prop} (h:p:=by
 all_goals (simp only [We] at h)
 iterate 6 (all_goals (try (split at h<;>rename_i k<;>(first|(obtain ⟨_,_,_⟩:=ω;clear k)|have:=Ω))))
 all_goals cases h
 all_goals (try (have E0:=Ak (x:=r0) u0.1 Zo))
 all_goals (try (have EL:(({s with rt:=s.rt++[r0]}:St).told 0 0 0).rt.length=s.rt.length+1:=by show (s.rt++[r0]).length=_;simp))
 all_goals (go_enter Tryz.func89,Tryz.ntmps89;exact Θ0)):p:=h
end X102
open X102 in
theorem Wd (G:Good c tid) (hn:fs.length<900) {out:Out} (h:We c s f fs=some out) (H:IT c tid A T B w0 fb cap s f fs w) :
  Calls Tryz.prog 89 #[Pt A.mb 0,Pt T.tb 0,Pt fb (fs.length*12)] w (RO c tid A T B w0 out):=Ξ
namespace X12
abbrev νa:=1
abbrev τa:=163
theorem ξ {p:Prop} (h:p:=by
 all_goals (go_enter Tryz.func163,Tryz.ntmps163;exact Θ4)):p:=h
end X12
open X12 in
theorem vZ (G:Good c tid) (hn:fs.length<900) (H:IT c tid A T B w0 fb cap s f fs w) :
  Calls Tryz.prog 163 #[.agg (rc A T fb fs.length)] w fun e w'=>e=.returned (Φ (wrap64 f.r1))∧Ix c tid A T B w0 (Tv fb fs.length cap) s (f::fs) w':=Ξ
namespace X13
abbrev νa:=1
abbrev τa:=163
theorem ξ {p:Prop} (h:p:=by
 all_goals (go_enter Tryz.func216,Tryz.ntmps216;exact Θ4)):p:=h
end X13
open X13 in
theorem uI (G:Good c tid) (hn:fs.length<900) (H:IT c tid A T B w0 fb cap s f fs w) :
  Calls Tryz.prog 216 #[.agg (rc A T fb fs.length)] w fun e w'=>e=.returned (Γ f.r3)∧Ix c tid A T B w0 (Tv fb fs.length cap) s (f::fs) w':=Ξ
namespace X14
theorem κ {p:Prop} (h:p:=by with_reducible first|(exact Λ50)|(exact Λ64)|(exact Λ89)):p:=h
abbrev δ:List (Nat×Nat):=[(1,5)]
abbrev νa:=2
abbrev τa:=163
theorem ξ {p:Prop} (h:p:=by
 dsimp only at hr hx
 have E0:=Fg G hx
 have E1:=Ak (x:=r1) hr.1 (by have:=hr.2;omega)
 have E2:=Ak (x:=5+r1) (by have:=hr.1;omega) (by have:=hr.2;omega)
 all_goals (go_enter Tryz.func165,Tryz.ntmps165;exact Θ5)):p:=h
end X14
open X14 in
theorem uJ (G:Good c tid) (hn:fs.length<900) {n:Int} (hr:0≤f.r1∧f.r1<65536) (hx:c.has (.nd n (5+f.r1))=true) (H:IT c tid A T B w0 fb cap s f fs w) :
  Calls Tryz.prog 165 #[.agg (rc A T fb fs.length),Γ n] w fun e w'=>e=.returned (Φ (c.addr (.nd n (5+f.r1))))∧Ix c tid A T B w0 (Tv fb fs.length cap) s (f::fs) w':=Ξ
namespace X15
theorem κ {p:Prop} (h:p:=by with_reducible first|(exact Λ64)|(exact Λ81)|(exact Λ185)|(exact Λ190)):p:=h
abbrev δ:List (Nat×Nat):=[(1,6),(2,6),(5,7)]
theorem ρb:True:=trivial
abbrev νa:=1
abbrev τa:=165
theorem ξ {p:Prop} (h:p:=by
 dsimp only at hr
 have R0:=Az.m (Gx hr)
 have RI:=Jp G hr
 unfold Jh Ie
 dsimp only
 by_cases q0:r1=0
 all_goals (first|(have q1:=As q0)|(have q1:=Aj q0;have u1m:InU (r1-1):=⟨by have:=R0.o.1;omega,by have:=u1.2;omega⟩;have E1:=Ak (x:=r1-1) (by have:=R0.o.1;omega) (by have:=u1.2;have:=(Gx hr).2;have:=G.lv;omega)))
 all_goals (first|(rw [if_pos q0,if_pos q0])|(rw [if_neg q0,if_neg q0]))
 all_goals (try (have:=Az.m q0;clear q0))
 all_goals (go_enter Tryz.func217,Tryz.ntmps217;exact Θ6)):p:=h
end X15
open X15 in
theorem oB (G:Good c tid) (hn:fs.length<900) (hr:c.row f.r1=true) (H:IT c tid A T B w0 fb cap s f fs w) :
  Calls Tryz.prog 217 #[.agg (rc A T fb fs.length)] w fun e w'=>e=.returned (.tuple #[])∧∃ fv',Ix c tid A T B w0 fv' (Jh s f) (Ie f fs) w'∧cC (Tv fb fs.length cap) f fs w':=Ξ
namespace X16
theorem κ {p:Prop} (h:p:=by with_reducible first|(exact Λ81)|(exact Λ169)|(exact Λ185)|(exact Λ82)):p:=h
abbrev νa:=2
abbrev τa:=165
theorem ξ {p:Prop} (h:p:=by
 all_goals (go_enter Tryz.func164,Tryz.ntmps164;exact Θ7)):p:=h
end X16
open X16 in
theorem eF (G:Good c tid) (hn:fs.length<900) {v:Int} (uv:InU v) (hm:mark v=true) (H:IT c tid A T B w0 fb cap s f fs w) :
  Calls Tryz.prog 164 #[.agg (rc A T fb fs.length),Γ v] w fun e w'=>e=.returned (.tuple #[])∧∃ fv',Ix c tid A T B w0 fv' s ({f with r3:=v,pc:=8}::fs) w'∧cC (Tv fb fs.length cap) f fs w':=Ξ
namespace X17
theorem κ {p:Prop} (h:p:=by with_reducible first|(exact Λ81)|(exact Λ169)|(exact Λ185)|(exact Λ82)):p:=h
abbrev νa:=2
abbrev τa:=165
theorem ξ {p:Prop} (h:p:=by
 dsimp only at hr
 have q1:=As ht.out
 all_goals (go_enter Tryz.func164,Tryz.ntmps164;exact Θ7)):p:=h
end X17
open X17 in
theorem eE (G:Good c tid) (hn:fs.length<900) {v:Int} (uv:InU v) (hm:mark v=false) (ht:Az (ptr v=2)) (hr:c.row f.r1=true) (H:IT c tid A T B w0 fb cap s f fs w) :
  Calls Tryz.prog 164 #[.agg (rc A T fb fs.length),Γ v] w fun e w'=>e=.returned (.tuple #[])∧∃ fv',Ix c tid A T B w0 fv' (Jh s {f with r3:=v}) (Ie {f with r3:=v} fs) w'∧cC (Tv fb fs.length cap) f fs w':=Ξ
namespace X18
theorem κ {p:Prop} (h:p:=by with_reducible first|(exact Λ81)|(exact Λ169)|(exact Λ185)|(exact Λ82)):p:=h
abbrev νa:=2
abbrev τa:=165
theorem ξ {p:Prop} (h:p:=by
 have q1:=Aj ht
 all_goals (go_enter Tryz.func164,Tryz.ntmps164;exact Θ7)):p:=h
end X18
open X18 in
theorem lS (G:Good c tid) (hn:fs.length<900) {v:Int} (uv:InU v) (hm:mark v=false) (ht:¬ ptr v=2) (H:IT c tid A T B w0 fb cap s f fs w) :
  Calls Tryz.prog 164 #[.agg (rc A T fb fs.length),Γ v] w fun e w'=>e=.returned (.tuple #[])∧∃ fv',Ix c tid A T B w0 fv' s ({f with r3:=v,pc:=3}::fs) w'∧cC (Tv fb fs.length cap) f fs w':=Ξ
namespace X19
theorem κ {p:Prop} (h:p:=by with_reducible first|(exact Λ50)|(exact Λ86)):p:=h
abbrev δ:List (Nat×Nat):=[(2,8)]
abbrev νa:=1
abbrev τa:=165
theorem ξ {p:Prop} (h:p:=by
 have hu23:=Tryz.underlying23
 have E1:=Ak (x:=c.lv-1) Λ96 Λ96
 have ul:InU (c.lv-1):=⟨by have:=G.lv;omega,by have:=G.lv;omega⟩
 all_goals (go_enter Tryz.func162,Tryz.ntmps162;exact Θ5)):p:=h
end X19
open X19 in
theorem rL (G:Good c tid) (hn:fs.length<900) (H:IT c tid A T B w0 fb cap s f fs w) :
  Calls Tryz.prog 162 #[.agg (rc A T fb fs.length)] w fun e w'=>e=.returned (.tuple #[])∧Ix c tid A T B w0 (Tv fb fs.length cap) s ({f with r2:=1,r1:=c.lv-1,pc:=1}::fs) w':=Ξ
namespace X20
theorem κ {p:Prop} (h:p:=by with_reducible first|(exact Λ81)|(exact Λ185)|(exact Λ50)|(exact Λ64)|(exact Λ60)|(exact Λ166)|(exact Λ65)|(exact Λ91)|(exact Λ174)|(exact Λ169)|(exact Λ171)|(exact Λ168)|(exact Λ89)|(exact Λ82)):p:=h
abbrev δ:List (Nat×Nat):=[(5,5),(8,5),(18,5),(19,5),(23,5),(13,9)]
abbrev νa:=1
abbrev τa:=165
theorem ξ {p:Prop} (h:p:=by
 dsimp only at hp0 hp1
 rcases pc with _|_|_|_|_|_|_|_|pc
 all_goals (try (exfalso;omega))
 all_goals (clear hp0 hp1)
 all_goals (simp only [Jg,Ki,Ao,ok] at h)
 iterate 6 (all_goals (try (split at h<;>rename_i k<;>(first|(obtain ⟨_,_,_⟩:=ω;clear k)|have:=Ω))))
 all_goals cases h
 all_goals (try (obtain ⟨p,hp⟩:∃ p:Nat,p=pc+8:=⟨_,rfl⟩;rw [show pc+8=p from hp.symm] at H0;have d0:((p:Int)==0)=false:=Λ143;have d1:((p:Int)==1)=false:=Λ143;have d2:((p:Int)==2)=false:=Λ143;have d3:((p:Int)==3)=false:=Λ143;have d4:((p:Int)==4)=false:=Λ143;have d5:((p:Int)==5)=false:=Λ143;have d6:((p:Int)==6)=false:=Λ143;have d7:((p:Int)==7)=false:=Λ143;clear hp))
 all_goals (try (have E9:=Fg G (n:=r2) (k:=4) Za))
 all_goals (try (have RR:=Cv G u1 (n:=r2) Za))
 all_goals (try (have RO:=Hj G u1 (n:=r2) Za))
 all_goals (try (have RR:=Cv G u1 (n:=ptr r3) Za))
 all_goals (try (have RO:=Hj G u1 (n:=ptr r3) Za))
 all_goals (try (have RS:=Fq G (t:=tid) (n:=2*r1+1) Za))
 all_goals (try (have RS:=Fq G (t:=tid) (n:=2*r1) Za))
 all_goals (try (have RT:=Oi G u1 (t:=tid) Za))
 all_goals (try (have RT:=My G u1 (t:=tid) Za))
 all_goals (try (have EP:=Cy r3))
 all_goals (go_enter Tryz.func166,Tryz.ntmps166;exact Θ5)):p:=h
end X20
open X20 in
theorem bK (G:Good c tid) (hn:fs.length<900) {out:Out} (hp0:3≤f.pc) (hp1:f.pc<8) (h:Jg c tid s f fs=some out) (H:IT c tid A T B w0 fb cap s f fs w) :
  Calls Tryz.prog 166 #[.agg (rc A T fb fs.length)] w (RO c tid A T B w0 out):=Ξ
namespace X21
theorem κ {p:Prop} (h:p:=by with_reducible first|(exact Λ63)|(exact Λ50)|(exact Λ64)|(exact Λ60)|(exact Λ166)|(exact Λ65)|(exact Λ91)|(exact Λ174)|(exact Λ89)|(exact Λ66)):p:=h
abbrev δ:List (Nat×Nat):=[(7,5),(12,5),(10,10)]
abbrev νa:=1
abbrev τa:=165
theorem ξ {p:Prop} (h:p:=by
 dsimp only at hp
 rcases pc with _|_|_|_|_|_|_|_|_|pc
 all_goals (try (exfalso;omega))
 all_goals (clear hp)
 all_goals (simp only [Jg,Ki,Ao,ok] at h)
 iterate 6 (all_goals (try (split at h<;>rename_i k<;>(first|(obtain ⟨_,_,_⟩:=ω;clear k)|have:=Ω))))
 all_goals cases h
 all_goals (try (obtain ⟨p,hp⟩:∃ p:Nat,p=pc+9:=⟨_,rfl⟩;rw [show pc+9=p from hp.symm] at H0;have d0:((p:Int)==0)=false:=Λ143;have d1:((p:Int)==1)=false:=Λ143;have d2:((p:Int)==2)=false:=Λ143;have d3:((p:Int)==3)=false:=Λ143;have d4:((p:Int)==4)=false:=Λ143;have d5:((p:Int)==5)=false:=Λ143;have d6:((p:Int)==6)=false:=Λ143;have d7:((p:Int)==7)=false:=Λ143;have d8:((p:Int)==8)=false:=Λ143;clear hp))
 all_goals (try (have E9:=Fg G (n:=r2) (k:=4) Za))
 all_goals (try (have RR:=Cv G u1 (n:=r2) Za))
 all_goals (try (have RO:=Hj G u1 (n:=r2) Za))
 all_goals (try (have RR:=Cv G u1 (n:=ptr r3) Za))
 all_goals (try (have RO:=Hj G u1 (n:=ptr r3) Za))
 all_goals (try (have RS:=Fq G (t:=tid) (n:=2*r1+1) Za))
 all_goals (try (have RS:=Fq G (t:=tid) (n:=2*r1) Za))
 all_goals (try (have RT:=Oi G u1 (t:=tid) Za))
 all_goals (try (have RT:=My G u1 (t:=tid) Za))
 all_goals (try (have EP:=Cy r3))
 all_goals (go_enter Tryz.func92,Tryz.ntmps92;exact Θ5)):p:=h
end X21
open X21 in
theorem Xp (G:Good c tid) (hn:fs.length<900) {out:Out} (hp:f.pc<3∨8≤f.pc) (h:Jg c tid s f fs=some out) (H:IT c tid A T B w0 fb cap s f fs w) :
  Calls Tryz.prog 92 #[.agg (rc A T fb fs.length)] w (RO c tid A T B w0 out):=Ξ
namespace X22
theorem κ {p:Prop} (h:p:=by with_reducible first|(exact Λ63)|(exact Λ50)|(exact Λ64)|(exact Λ60)|(exact Λ166)|(exact Λ65)|(exact Λ91)|(exact Λ174)|(exact Λ89)|(exact Λ66)):p:=h
abbrev δ:List (Nat×Nat):=[(7,5),(12,5),(10,11)]
abbrev νa:=1
abbrev τa:=165
theorem ξ {p:Prop} (h:p:=by
 dsimp only at hp
 have hc:(3≤pc∧pc<8):=Zo
 rcases hc with ⟨hp0,hp1⟩
 all_goals (first|(have:=As (show ((pc:Nat):Int)=0 by omega))|(have:=Aj (show ¬ ((pc:Nat):Int)=0 by omega)))
 all_goals (first|(have:=As (show ((pc:Nat):Int)=1 by omega))|(have:=Aj (show ¬ ((pc:Nat):Int)=1 by omega)))
 all_goals (first|(have:=As (show ((pc:Nat):Int)=2 by omega))|(have:=Aj (show ¬ ((pc:Nat):Int)=2 by omega)))
 all_goals (first|(have:=As (show ((pc:Nat):Int)=8 by omega))|(have:=Aj (show ¬ ((pc:Nat):Int)=8 by omega)))
 all_goals (go_enter Tryz.func92,Tryz.ntmps92;exact Θ5)):p:=h
end X22
open X22 in
theorem Xo (G:Good c tid) (hn:fs.length<900) {out:Out} (hp:3≤f.pc∧f.pc<8) (h:Jg c tid s f fs=some out) (H:IT c tid A T B w0 fb cap s f fs w) :
  Calls Tryz.prog 92 #[.agg (rc A T fb fs.length)] w (RO c tid A T B w0 out):=Ξ
theorem bF (G:Good c tid) (hn:fs.length<900) {out:Out} (h:Jg c tid s f fs=some out) (H:IT c tid A T B w0 fb cap s f fs w) :
  Calls Tryz.prog 92 #[.agg (rc A T fb fs.length)] w (RO c tid A T B w0 out):=by
 delta rc
 by_cases hp:3≤f.pc∧f.pc<8
 .exact Xo G hn hp h H
 .exact Xp G hn Zo h H
namespace X53
abbrev νa:=1
abbrev τa:=167
theorem ξ {p:Prop} (h:p:=by
 all_goals (go_enter Tryz.func184,Tryz.ntmps184;exact Θ4)):p:=h
end X53
open X53 in
theorem vY (G:Good c tid) (hn:fs.length<900) (H:IT c tid A T B w0 fb cap s f fs w) :
  Calls Tryz.prog 184 #[.agg (rc A T fb fs.length)] w fun e w'=>e=.returned (Φ (wrap64 f.r2))∧Ix c tid A T B w0 (Tv fb fs.length cap) s (f::fs) w':=Ξ
namespace X54
abbrev νa:=1
abbrev τa:=167
theorem ξ {p:Prop} (h:p:=by
 all_goals (go_enter Tryz.func219,Tryz.ntmps219;exact Θ4)):p:=h
end X54
open X54 in
theorem uB (G:Good c tid) (hn:fs.length<900) (H:IT c tid A T B w0 fb cap s f fs w) :
  Calls Tryz.prog 219 #[.agg (rc A T fb fs.length)] w fun e w'=>e=.returned (Γ f.r4)∧Ix c tid A T B w0 (Tv fb fs.length cap) s (f::fs) w':=Ξ
namespace X55
theorem κ {p:Prop} (h:p:=by with_reducible first|(exact Λ83)|(exact Λ185)):p:=h
abbrev νa:=1
abbrev τa:=167
theorem ξ {p:Prop} (h:p:=by
 all_goals (go_enter Tryz.func186,Tryz.ntmps186;exact Θ5)):p:=h
end X55
open X55 in
theorem uF (G:Good c tid) (hn:fs.length<900) (H:IT c tid A T B w0 fb cap s f fs w) :
  Calls Tryz.prog 186 #[.agg (rc A T fb fs.length)] w fun e w'=>e=.returned (Γ (ptr f.r4))∧Ix c tid A T B w0 (Tv fb fs.length cap) s (f::fs) w':=Ξ
namespace X56
theorem κ {p:Prop} (h:p:=by with_reducible first|(exact Λ50)|(exact Λ89)):p:=h
abbrev νa:=3
abbrev τa:=167
theorem ξ {p:Prop} (h:p:=by
 have E0:=Fg G hx
 all_goals (go_enter Tryz.func185,Tryz.ntmps185;exact Θ5)):p:=h
end X56
open X56 in
theorem lat (G:Good c tid) (hn:fs.length<900) {v k:Int} (hx:c.has (.nd v k)=true) (H:IT c tid A T B w0 fb cap s f fs w) :
  Calls Tryz.prog 185 #[.agg (rc A T fb fs.length),Γ v,Φ k] w fun e w'=>e=.returned (Φ (c.addr (.nd v k)))∧Ix c tid A T B w0 (Tv fb fs.length cap) s (f::fs) w':=Ξ
namespace X57
theorem κ {p:Prop} (h:p:=by with_reducible first|(exact Λ50)|(exact Λ60)):p:=h
abbrev δ:List (Nat×Nat):=[(1,5)]
abbrev νa:=2
abbrev τa:=167
theorem ξ {p:Prop} (h:p:=by
 all_goals (go_enter Tryz.func183,Tryz.ntmps183;exact Θ5)):p:=h
end X57
open X57 in
theorem uD (G:Good c tid) (hn:fs.length<900) {k:Int} (hx:c.has (.haz tid k)=true) (H:IT c tid A T B w0 fb cap s f fs w) :
  Calls Tryz.prog 183 #[.agg (rc A T fb fs.length),Φ k] w fun e w'=>e=.returned (Φ (c.addr (.haz tid k)))∧Ix c tid A T B w0 (Tv fb fs.length cap) s (f::fs) w':=Ξ
namespace X58
theorem κ {p:Prop} (h:p:=by with_reducible first|(exact Λ75)):p:=h
abbrev δ:List (Nat×Nat):=[(1,34)]
abbrev νa:=1
abbrev τa:=169
theorem ξ {p:Prop} (h:p:=by
 all_goals (go_enter Tryz.func189,Tryz.ntmps189;exact Θ5)):p:=h
end X58
open X58 in
theorem uE (G:Good c tid) (hn:fs.length<900) (H:IT c tid A T B w0 fb cap s f fs w) :
  Calls Tryz.prog 189 #[.agg (rc A T fb fs.length)] w fun e w'=>e=.returned (.tuple #[])∧Ix c tid A T B w0 (Tv fb fs.length cap) s ({f with r3:=ptr f.r4,pc:=1}::fs) w':=Ξ
namespace X59
theorem κ {p:Prop} (h:p:=by with_reducible first|(exact Λ91)|(exact Λ50)|(exact Λ86)):p:=h
abbrev δ:List (Nat×Nat):=[(2,8),(3,15),(4,22)]
abbrev νa:=1
abbrev τa:=169
theorem ξ {p:Prop} (h:p:=by
 have E1:=Ak (x:=c.lv-1) Λ96 Λ96
 have ul:InU (c.lv-1):=⟨by have:=G.lv;omega,by have:=G.lv;omega⟩
 have X1:=Cw (c:=c) 1 Zd Zd
 all_goals (go_enter Tryz.func182,Tryz.ntmps182;exact Θ5)):p:=h
end X59
open X59 in
theorem rE (G:Good c tid) (hn:fs.length<900) (H:IT c tid A T B w0 fb cap s f fs w) :
  Calls Tryz.prog 182 #[.agg (rc A T fb fs.length)] w fun e w'=>e=.returned (.tuple #[])∧Ix c tid A T B w0 (Tv fb fs.length cap) s ({f with r1:=s.mm (.gl 1),r3:=1,r5:=0,r2:=c.lv-1,pc:=1}::fs) w':=Ξ
namespace X60
theorem κ {p:Prop} (h:p:=by with_reducible first|(exact Λ73)|(exact Λ75)|(exact Λ190)):p:=h
abbrev δ:List (Nat×Nat):=[(1,6),(2,6),(4,11),(5,7)]
theorem ρb:True:=trivial
abbrev νa:=1
abbrev τa:=169
theorem ξ {p:Prop} (h:p:=by
 dsimp only at hr
 have R0:=Az.m (Gx hr)
 have RI:=Jp G hr
 unfold Nk Le
 dsimp only
 by_cases q0:r2=0
 all_goals (first|(have q1:=As q0)|(have q1:=Aj q0;have u1m:InU (r2-1):=⟨by have:=R0.o.1;omega,by have:=u2.2;omega⟩;have E1:=Ak (x:=r2-1) (by have:=R0.o.1;omega) (by have:=u2.2;have:=(Gx hr).2;have:=G.lv;omega)))
 all_goals (first|(rw [if_pos q0,if_pos q0])|(rw [if_neg q0,if_neg q0]))
 all_goals (try (have:=Az.m q0;clear q0))
 all_goals (go_enter Tryz.func187,Tryz.ntmps187;exact Θ5)):p:=h
end X60
open X60 in
theorem nP (G:Good c tid) (hn:fs.length<900) (hr:c.row f.r2=true) (H:IT c tid A T B w0 fb cap s f fs w) :
  Calls Tryz.prog 187 #[.agg (rc A T fb fs.length)] w fun e w'=>e=.returned (.tuple #[])∧∃ fv',Ix c tid A T B w0 fv' (Nk s f) (Le f fs) w':=Ξ
namespace X61
theorem κ {p:Prop} (h:p:=by with_reducible first|(exact Λ91)|(exact Λ73)|(exact Λ83)|(exact Λ169)|(exact Λ75)|(exact Λ78)):p:=h
abbrev δ:List (Nat×Nat):=[(3,5),(6,40)]
abbrev νa:=1
abbrev τa:=169
theorem ξ {p:Prop} (h:p:=by
 dsimp only at hp0 hp1
 rcases pc with _|_|_|_|_|pc
 all_goals (try (exfalso;omega))
 all_goals (clear hp0 hp1)
 case' succ.succ.succ.succ.zero=>(by_cases q0:r2=0<;>(first|(have:=@id ((_:Bool)=true) q0)|(have:=As q0)|(have:=Aj q0)|(have:=Ca q0)|(have:=Bq q0)|(have:=Br q0)|(have:=Bg q0)|(have:=Du q0)|(have:=Dt q0)|(have:=Ds q0)))<;>(by_cases q1:mark r4=true<;>(first|(have:=@id ((_:Bool)=true) q1)|(have:=As q1)|(have:=Aj q1)|(have:=Ca q1)|(have:=Bq q1)|(have:=Br q1)|(have:=Bg q1)|(have:=Du q1)|(have:=Dt q1)|(have:=Ds q1)))
 all_goals (simp only [Gp,Ao,ok,aY] at h)
 all_goals (first|(have p0:=eq_false q0)|(have p0:=eq_true q0)|skip)
 all_goals (first|(have p1:=eq_false q1)|(have p1:=eq_true q1)|skip)
 all_goals (try (simp only [p0,p1,ne_eq,gt_iff_lt,ge_iff_le,not_true_eq_false,not_false_eq_true,and_true,true_and,and_false,false_and,or_true,true_or,or_false,false_or,if_true,if_false] at h;clear p0 p1))
 all_goals (try (simp only [p0,ne_eq,gt_iff_lt,ge_iff_le,not_true_eq_false,not_false_eq_true,and_true,true_and,and_false,false_and,or_true,true_or,or_false,false_or,if_true,if_false] at h;clear p0))
 iterate 6 (all_goals (try (split at h<;>rename_i k<;>(first|(obtain ⟨_,_,_⟩:=ω;clear k)|have:=Ω))))
 all_goals (try (exfalso;omega))
 all_goals (try (have:=Az.m q0;clear q0))
 all_goals (try (have:=Az.m q1;clear q1))
 all_goals cases h
 all_goals (try (obtain ⟨p,hp⟩:∃ p:Nat,p=pc+5:=⟨_,rfl⟩;rw [show pc+5=p from hp.symm] at H0;have d0:((p:Int)==0)=false:=Λ143;have d1:((p:Int)==1)=false:=Λ143;have d2:((p:Int)==2)=false:=Λ143;have d3:((p:Int)==3)=false:=Λ143;have d4:((p:Int)==4)=false:=Λ143;clear hp))
 all_goals (try (have RR:=Cv G u2 (n:=r3) Za))
 all_goals (try (have RO:=Hj G u2 (n:=r3) Za))
 all_goals (try (have RS:=Fq G (t:=tid) (n:=2*r2+1) Za))
 all_goals (try (have RS:=Fq G (t:=tid) (n:=2*r2) Za))
 all_goals (try (have RT:=Oi G u2 (t:=tid) Za))
 all_goals (try (have RT:=My G u2 (t:=tid) Za))
 all_goals (try (have EP:=Cy r4))
 all_goals (try (have E7:=Ak (x:=5+r2) (by have:=u2.1;omega) Λ94))
 all_goals (try (have RI:=Jp G (i:=r2) Za))
 all_goals (try (have RI:=Jp G (i:=r2) ((Bool.not_eq_false _).mp Za)))
 all_goals (go_enter Tryz.func188,Tryz.ntmps188;exact Θ5)):p:=h
end X61
open X61 in
theorem Xg (G:Good c tid) (hn:fs.length<900) {out:Out} (hp0:4≤f.pc) (hp1:f.pc<5) (h:Gp c tid s f fs=some out) (H:IT c tid A T B w0 fb cap s f fs w) :
  Calls Tryz.prog 188 #[.agg (rc A T fb fs.length)] w (RO c tid A T B w0 out):=Ξ
namespace X62
theorem κ {p:Prop} (h:p:=by with_reducible first|(exact Λ71)|(exact Λ73)|(exact Λ72)|(exact Λ166)|(exact Λ74)|(exact Λ91)|(exact Λ75)|(exact Λ76)|(exact Λ77)|(exact Λ169)|(exact Λ78)):p:=h
abbrev δ:List (Nat×Nat):=[(9,5),(17,5),(23,5),(3,5),(12,9)]
abbrev νa:=1
abbrev τa:=169
theorem ξ {p:Prop} (h:p:=by
 dsimp only at hp
 rcases pc with _|_|_|_|_|_|pc
 all_goals (try (exfalso;omega))
 all_goals (clear hp)
 all_goals (simp only [Gp,Ao,ok,aY] at h)
 iterate 6 (all_goals (try (split at h<;>rename_i k<;>(first|(obtain ⟨_,_,_⟩:=ω;clear k)|have:=Ω))))
 all_goals cases h
 all_goals (try (obtain ⟨p,hp⟩:∃ p:Nat,p=pc+6:=⟨_,rfl⟩;rw [show pc+6=p from hp.symm] at H0;have d0:((p:Int)==0)=false:=Λ143;have d1:((p:Int)==1)=false:=Λ143;have d2:((p:Int)==2)=false:=Λ143;have d3:((p:Int)==3)=false:=Λ143;have d4:((p:Int)==4)=false:=Λ143;have d5:((p:Int)==5)=false:=Λ143;clear hp))
 all_goals (try (have RR:=Cv G u2 (n:=r3) Za))
 all_goals (try (have RO:=Hj G u2 (n:=r3) Za))
 all_goals (try (have RS:=Fq G (t:=tid) (n:=2*r2+1) Za))
 all_goals (try (have RS:=Fq G (t:=tid) (n:=2*r2) Za))
 all_goals (try (have RT:=Oi G u2 (t:=tid) Za))
 all_goals (try (have RT:=My G u2 (t:=tid) Za))
 all_goals (try (have EP:=Cy r4))
 all_goals (try (have E7:=Ak (x:=5+r2) (by have:=u2.1;omega) Λ94))
 all_goals (try (have RI:=Jp G (i:=r2) Za))
 all_goals (try (have RI:=Jp G (i:=r2) ((Bool.not_eq_false _).mp Za)))
 all_goals (go_enter Tryz.func102,Tryz.ntmps102;exact Θ5)):p:=h
end X62
open X62 in
theorem Xc (G:Good c tid) (hn:fs.length<900) {out:Out} (hp:f.pc<4∨5≤f.pc) (h:Gp c tid s f fs=some out) (H:IT c tid A T B w0 fb cap s f fs w) :
  Calls Tryz.prog 102 #[.agg (rc A T fb fs.length)] w (RO c tid A T B w0 out):=Ξ
namespace X63
theorem κ {p:Prop} (h:p:=by with_reducible first|(exact Λ71)|(exact Λ73)|(exact Λ72)|(exact Λ166)|(exact Λ74)|(exact Λ91)|(exact Λ75)|(exact Λ76)|(exact Λ77)|(exact Λ169)|(exact Λ78)):p:=h
abbrev δ:List (Nat×Nat):=[(9,5),(17,5),(23,5),(3,5),(12,9)]
abbrev νa:=1
abbrev τa:=169
theorem ξ {p:Prop} (h:p:=by
 dsimp only at hp
 have hc:(4≤pc∧pc<5):=Zo
 rcases hc with ⟨hp0,hp1⟩
 all_goals (first|(have:=As (show ((pc:Nat):Int)=0 by omega))|(have:=Aj (show ¬ ((pc:Nat):Int)=0 by omega)))
 all_goals (first|(have:=As (show ((pc:Nat):Int)=1 by omega))|(have:=Aj (show ¬ ((pc:Nat):Int)=1 by omega)))
 all_goals (first|(have:=As (show ((pc:Nat):Int)=2 by omega))|(have:=Aj (show ¬ ((pc:Nat):Int)=2 by omega)))
 all_goals (first|(have:=As (show ((pc:Nat):Int)=3 by omega))|(have:=Aj (show ¬ ((pc:Nat):Int)=3 by omega)))
 all_goals (first|(have:=As (show ((pc:Nat):Int)=4 by omega))|(have:=Aj (show ¬ ((pc:Nat):Int)=4 by omega)))
 all_goals (first|(have:=As (show ((pc:Nat):Int)=5 by omega))|(have:=Aj (show ¬ ((pc:Nat):Int)=5 by omega)))
 all_goals (go_enter Tryz.func102,Tryz.ntmps102;exact Θ5)):p:=h
end X63
open X63 in
theorem Xb (G:Good c tid) (hn:fs.length<900) {out:Out} (hp:4≤f.pc∧f.pc<5) (h:Gp c tid s f fs=some out) (H:IT c tid A T B w0 fb cap s f fs w) :
  Calls Tryz.prog 102 #[.agg (rc A T fb fs.length)] w (RO c tid A T B w0 out):=Ξ
theorem aJ (G:Good c tid) (hn:fs.length<900) {out:Out} (h:Gp c tid s f fs=some out) (H:IT c tid A T B w0 fb cap s f fs w) :
  Calls Tryz.prog 102 #[.agg (rc A T fb fs.length)] w (RO c tid A T B w0 out):=by
 delta rc
 by_cases hp:4≤f.pc∧f.pc<5
 .exact Xb G hn hp h H
 .exact Xc G hn Zo h H
namespace X81
theorem κ {p:Prop} (h:p:=by with_reducible first|(exact Λ92)|(exact Λ90)|(go_at_call 70;first|exact kU G Λ40 1 3 Zd Zd Zd Zd Λ157 Λ37 Λ37 HI|exact Jq G Λ40 0 14 Zd Zd Zd Zd Λ157 Λ37 HI)|(exact Λ169)|(exact Λ185)|(exact Λ188)|(exact Λ186)|(exact Λ91)):p:=h
abbrev δ:List (Nat×Nat):=[(5,38),(7,23),(14,8),(17,22),(20,11)]
abbrev νa:=1
abbrev τa:=115
theorem ξ {p:Prop} (h:p:=by
 dsimp only at hp0 hp1
 rcases pc with _|_|_|_|pc
 all_goals (try (exfalso;omega))
 all_goals (clear hp0 hp1)
 case' succ.succ.succ.zero=>(by_cases q0:(fn:Int)=13<;>(first|(have:=@id ((_:Bool)=true) q0)|(have:=As q0)|(have:=Aj q0)|(have:=Ca q0)|(have:=Bq q0)|(have:=Br q0)|(have:=Bg q0)|(have:=Du q0)|(have:=Dt q0)|(have:=Ds q0)))
 all_goals (simp only [Hx,Ao,call,ok,fin] at h)
 all_goals (first|(have p0:=eq_false q0)|(have p0:=eq_true q0)|skip)
 all_goals (try (simp only [p0,ne_eq,gt_iff_lt,ge_iff_le,not_true_eq_false,not_false_eq_true,and_true,true_and,and_false,false_and,or_true,true_or,or_false,false_or,if_true,if_false] at h;clear p0))
 iterate 6 (all_goals (try (split at h<;>rename_i k<;>(first|(obtain ⟨_,_,_⟩:=ω;clear k)|have:=Ω))))
 all_goals (try (exfalso;omega))
 all_goals (try (have:=Az.m q0;clear q0))
 all_goals cases h
 all_goals (try (obtain ⟨p,hp⟩:∃ p:Nat,p=pc+4:=⟨_,rfl⟩;rw [show pc+4=p from hp.symm] at H0;have d0:((p:Int)==0)=false:=Λ143;have d1:((p:Int)==1)=false:=Λ143;have d2:((p:Int)==2)=false:=Λ143;have d3:((p:Int)==3)=false:=Λ143;clear hp))
 all_goals (try (have EP:=Cy r0))
 all_goals (try (have E1:=Md G (x:=.tr 1) Za))
 all_goals (try (have q9:=As (show (fn:Int)=13 by omega)))
 all_goals (try (have q9:=Aj (show ¬ (fn:Int)=13 by omega)))
 all_goals (go_enter Tryz.func82,Tryz.ntmps82;exact Θ5)):p:=h
end X81
open X81 in
theorem Zz (G:Good c tid) (hn:fs.length<900) {out:Out} (hp0:0≤f.pc) (hp1:f.pc<4) (h:Hx c s f fs=some out) (H:IT c tid A T B w0 fb cap s f fs w) :
  Calls Tryz.prog 82 #[.agg (rc A T fb fs.length)] w (RO c tid A T B w0 out):=Ξ
namespace X82
theorem κ {p:Prop} (h:p:=by with_reducible first|(exact Λ92)|(exact Λ186)|(exact Λ91)|(exact Λ187)|(exact Λ193)|(exact Λ185)|(exact Λ188)|(exact Λ93)):p:=h
abbrev δ:List (Nat×Nat):=[(6,34),(10,5),(13,38),(15,11)]
abbrev νa:=1
abbrev τa:=115
theorem ξ {p:Prop} (h:p:=by
 dsimp only at hp
 rcases pc with _|_|_|_|_|_|_|_|pc
 all_goals (try (exfalso;omega))
 all_goals (clear hp)
 all_goals (simp only [Hx,Ao,call,ok,fin] at h)
 iterate 6 (all_goals (try (split at h<;>rename_i k<;>(first|(obtain ⟨_,_,_⟩:=ω;clear k)|have:=Ω))))
 all_goals cases h
 all_goals (try (obtain ⟨p,hp⟩:∃ p:Nat,p=pc+8:=⟨_,rfl⟩;rw [show pc+8=p from hp.symm] at H0;have d0:((p:Int)==0)=false:=Λ143;have d1:((p:Int)==1)=false:=Λ143;have d2:((p:Int)==2)=false:=Λ143;have d3:((p:Int)==3)=false:=Λ143;have d4:((p:Int)==4)=false:=Λ143;have d5:((p:Int)==5)=false:=Λ143;have d6:((p:Int)==6)=false:=Λ143;have d7:((p:Int)==7)=false:=Λ143;clear hp))
 all_goals (try (have EP:=Cy r0))
 all_goals (try (have E1:=Md G (x:=.tr 1) Za))
 all_goals (try (have q9:=As (show (fn:Int)=13 by omega)))
 all_goals (try (have q9:=Aj (show ¬ (fn:Int)=13 by omega)))
 all_goals (go_enter Tryz.func44,Tryz.ntmps44;exact Θ5)):p:=h
end X82
open X82 in
theorem Ss (G:Good c tid) (hn:fs.length<900) {out:Out} (hp:4≤f.pc) (h:Hx c s f fs=some out) (H:IT c tid A T B w0 fb cap s f fs w) :
  Calls Tryz.prog 44 #[.agg (rc A T fb fs.length)] w (RO c tid A T B w0 out):=Ξ
namespace X83
theorem κ {p:Prop} (h:p:=by with_reducible first|(exact Λ92)|(exact Λ186)|(exact Λ91)|(exact Λ187)|(exact Λ193)|(exact Λ185)|(exact Λ188)|(exact Λ93)):p:=h
abbrev δ:List (Nat×Nat):=[(6,34),(10,5),(13,38),(15,11)]
abbrev νa:=1
abbrev τa:=115
theorem ξ {p:Prop} (h:p:=by
 dsimp only at hp
 have hc:(0≤pc∧pc<4):=Zo
 rcases hc with ⟨hp0,hp1⟩
 all_goals (first|(have:=As (show ((pc:Nat):Int)=4 by omega))|(have:=Aj (show ¬ ((pc:Nat):Int)=4 by omega)))
 all_goals (first|(have:=As (show ((pc:Nat):Int)=5 by omega))|(have:=Aj (show ¬ ((pc:Nat):Int)=5 by omega)))
 all_goals (first|(have:=As (show ((pc:Nat):Int)=6 by omega))|(have:=Aj (show ¬ ((pc:Nat):Int)=6 by omega)))
 all_goals (first|(have:=As (show ((pc:Nat):Int)=7 by omega))|(have:=Aj (show ¬ ((pc:Nat):Int)=7 by omega)))
 all_goals (go_enter Tryz.func44,Tryz.ntmps44;exact Θ5)):p:=h
end X83
open X83 in
theorem Sr (G:Good c tid) (hn:fs.length<900) {out:Out} (hp:0≤f.pc∧f.pc<4) (h:Hx c s f fs=some out) (H:IT c tid A T B w0 fb cap s f fs w) :
  Calls Tryz.prog 44 #[.agg (rc A T fb fs.length)] w (RO c tid A T B w0 out):=Ξ
theorem Uk (G:Good c tid) (hn:fs.length<900) {out:Out} (h:Hx c s f fs=some out) (H:IT c tid A T B w0 fb cap s f fs w) :
  Calls Tryz.prog 44 #[.agg (rc A T fb fs.length)] w (RO c tid A T B w0 out):=by
 delta rc
 by_cases hp:0≤f.pc∧f.pc<4
 .exact Sr G hn hp h H
 .exact Ss G hn Zo h H
end
end Go.Proofs.YtlejhikddkdanaaGreat.Mdl
