/- TopSame, part 6: lemmas on the way. -/
import Derived.Test.YtlejhikddkdanaaGreatM4
import Derived.Test.YtlejhikddkdanaaGreatM5
set_option maxHeartbeats 8000000
set_option maxRecDepth 1000000
set_option linter.unusedVariables false
set_option linter.unusedSimpArgs false
namespace Go.Proofs.YtlejhikddkdanaaGreat.Wk
open RowKit YtlejhikddkdanaaGreatW.PrintWords YtlejhikddkdanaaGreatW.PrintLast YtlejhikddkdanaaGreatW.PrintMore
section
attribute [local go_sem] Cs Cq De Dd Cj Ci Cr Cp
structure Over (S:Nat→Prop) (w w':World):Prop where
 os:w'.os=w.os
 tape:w'.tape=w.tape
 output:w'.output=w.output
 size:w.heap.size≤w'.heap.size
 block:∀ k,k<w.heap.size→¬ S k→w'.heap[k]?=w.heap[k]?
namespace Over
variable {S S2:Nat→Prop} {w w1 w2:World}
theorem refl (S:Nat→Prop) (w:World):Over S w w:=⟨rfl,rfl,rfl,Nat.le_refl _,fun _ _ _=>rfl⟩
theorem then_ (h:Over S w w1) (k:Over S2 w1 w2) (hs:∀ k,S2 k→S k∨w.heap.size≤k):Over S w w2:=
 ⟨k.os.trans h.os,k.tape.trans h.tape,k.output.trans h.output,Nat.le_trans h.size k.size,fun i hi hn=>(k.block i (Nat.lt_of_lt_of_le hi h.size) (fun h2=>(hs i h2).elim hn (fun h3=>Zo))).trans (h.block i hi hn)⟩
theorem mono (h:Over S w w1) (hs:∀ k,S k→S2 k):Over S2 w w1:=⟨h.os,h.tape,h.output,h.size,fun i hi hn=>h.block i hi (fun hk=>hn (hs i hk))⟩
theorem of_below (S:Nat→Prop) (h:Below w.heap.size w w1):Over S w w1:=⟨h.os,h.tape,h.output,h.size,fun i hi _=>h.block i hi⟩
theorem below (h:Over S w w1) (k:Below w1.heap.size w1 w2):Over S w w2:=h.then_ (of_below (fun _=>False) k) (fun _ hk=>hk.elim)
theorem set_ (h:Over S w w1) {p:Addr} (hp:S p.block∨w.heap.size≤p.block) (u:Value):Over S w (w1.setCell p u):=
 h.then_ (S2:=fun k=>k=p.block) ⟨rfl,rfl,rfl,by simp [World.setCell],fun i _ hn=>Below.heap_setCell w1 p u i hn⟩ (fun k hk=>by rw [hk];exact hp)
theorem blk {g:Nat} {o:Obj} (h:Over S w w1) (hb:w.heap[g]?=some o) (hn:¬ S g):w1.heap[g]?=some o:=(h.block g (Bb hb) hn).trans hb
theorem cell {a:Addr} {v:Value} (h:Over S w w1) (hb:w.cell? a=some v) (hn:¬ S a.block):w1.cell? a=some v:=by
 have:=h.block a.block (World.block_lt_of_cell? w a hb) hn
 simpa [World.cell?,this] using hb
theorem drew (h:Over S w w1):Over S w w1.drew:=⟨h.os,h.tape,h.output,h.size,h.block⟩
end Over
structure IsMem (pb wb:Nat) (ws:List Int) (w:World):Prop where
 head:∃ st,w.heap[pb]?=some (.cells #[.slice (some (Ψ wb 0)) ws.length ws.length,Φ st,.bool false,.slice none 0 0] 142 (0,0))
 row:w.heap[wb]?=some (.cells (Co .u64 ws).toArray 82 (0,0))
 most:ws.length≤4096
theorem IsMem.ne {pb wb:Nat} {ws:List Int} {w:World} (h:IsMem pb wb ws w):pb≠wb:=by
 obtain ⟨st,h1⟩:=h.head
 exact An h1 h.row Zd
theorem IsMem.same {pb wb:Nat} {ws:List Int} {w w1:World} (h:IsMem pb wb ws w) (hb:Below w.heap.size w w1):IsMem pb wb ws w1:=by
 obtain ⟨st,h3⟩:=h.head
 exact ⟨⟨st,Ac h3 hb⟩,Ac h.row hb,h.most⟩
theorem IsMem.drew {pb wb:Nat} {ws:List Int} {w:World} (h:IsMem pb wb ws w):IsMem pb wb ws w.drew:=h.same (Da (Below.refl _ _))
theorem IsMem.over {pb wb:Nat} {ws:List Int} {w w1:World} {S:Nat→Prop} (h:IsMem pb wb ws w) (ho:Over S w w1) (h1:¬ S pb) (h2:¬ S wb):IsMem pb wb ws w1:=by
 obtain ⟨st,h3⟩:=h.head
 exact ⟨⟨st,ho.blk h3 h1⟩,ho.blk h.row h2,h.most⟩
theorem Sm (pb g:Nat) (A:Option Addr) (n c:Nat) (a:Int) (w:World) (hp:w.cell? (Ψ pb 0)=some (.slice A n c)) (hg:w.cell? (Ψ g 0)=some (Φ a)) (h0:0≤a) (h1:a<n) :
  Calls Tryz.prog 124 #[Pt pb 0,.slice (some (Ψ g 0)) 1 1] w fun e w'=>e=.returned (Φ 0)∧Drawn0 w w':=by
 have g0:decide (a<0)=false:=by rw [decide_eq_false_iff_not];omega
 have g1:decide ((n:Int)≤a)=false:=by rw [decide_eq_false_iff_not];omega
 have HP:=Az.m hp
 have HG:=Az.m hg
 clear hp hg h0 h1
 go_enter Tryz.func124,Tryz.ntmps124
 go_wp2
 go_loopw [11] (fun i wr=>∃ k:Nat,i=Φ k∧k≤1∧Az (Drawn0 w wr)) (fun i _=>1-(intOf i).toNat)
 case atStart=>exact ⟨0,rfl,Zo,⟨by repeat (first|exact Drawn0.refl _|apply Drawn0.step)⟩⟩
 case round=>
  obtain ⟨k,rfl,hk,hd⟩:=hrel
  have hp:wr.cell? (Ψ pb 0)=some (.slice A n c):=Ch hd.out.below HP.o
  have hg:wr.cell? (Ψ g 0)=some (Φ a):=Ch hd.out.below HG.o
  cases k with
  |zero=>
   go_wp2
   go_round
   case measure=>simp [intOf]
   case rel=>exact ⟨1,rfl,Zo,⟨by repeat (first|exact hd.out|apply Drawn0.step)⟩⟩
  |succ k=>
   obtain rfl:k=0:=Zo
   go_wp2
   go_ret
   exact ⟨rfl,by repeat (first|exact hd.out|apply Drawn0.step)⟩
theorem Pr (pb g:Nat) (A:Option Addr) (n c:Nat) (a b:Int) (w:World) (hp:w.cell? (Ψ pb 0)=some (.slice A n c)) (hg:w.cell? (Ψ g 0)=some (Φ a)) (hg2:w.cell? (Ψ g 1)=some (Φ b))
  (h0:0≤a) (h1:a<n) (h2:0≤b) (h3:b<n) :
  Calls Tryz.prog 124 #[Pt pb 0,.slice (some (Ψ g 0)) 2 2] w fun e w'=>e=.returned (Φ 0)∧Drawn0 w w':=by
 have g0:decide (a<0)=false:=by rw [decide_eq_false_iff_not];omega
 have g1:decide ((n:Int)≤a)=false:=by rw [decide_eq_false_iff_not];omega
 have g2:decide (b<0)=false:=by rw [decide_eq_false_iff_not];omega
 have g3:decide ((n:Int)≤b)=false:=by rw [decide_eq_false_iff_not];omega
 have HP:=Az.m hp
 have HG:=Az.m hg
 have HG2:=Az.m hg2
 clear hp hg hg2 h0 h1 h2 h3
 go_enter Tryz.func124,Tryz.ntmps124
 go_wp2
 go_loopw [11] (fun i wr=>∃ k:Nat,i=Φ k∧k≤2∧Az (Drawn0 w wr)) (fun i _=>2-(intOf i).toNat)
 case atStart=>exact ⟨0,rfl,Zo,⟨by repeat (first|exact Drawn0.refl _|apply Drawn0.step)⟩⟩
 case round=>
  obtain ⟨k,rfl,hk,hd⟩:=hrel
  have hp:wr.cell? (Ψ pb 0)=some (.slice A n c):=Ch hd.out.below HP.o
  have hg:wr.cell? (Ψ g 0)=some (Φ a):=Ch hd.out.below HG.o
  have hg2:wr.cell? (Ψ g 1)=some (Φ b):=Ch hd.out.below HG2.o
  cases k with
  |zero=>
   go_wp2
   go_round
   case measure=>simp [intOf]
   case rel=>exact ⟨1,rfl,Zo,⟨by repeat (first|exact hd.out|apply Drawn0.step)⟩⟩
  |succ k=>
   cases k with
   |zero=>
    go_wp2
    go_round
    case measure=>simp [intOf]
    case rel=>exact ⟨2,rfl,Zo,⟨by repeat (first|exact hd.out|apply Drawn0.step)⟩⟩
   |succ k=>
    obtain rfl:k=0:=Zo
    go_wp2
    go_ret
    exact ⟨rfl,by repeat (first|exact hd.out|apply Drawn0.step)⟩
theorem Ea (pb wb:Nat) (ws:List Int) (kind a b:Int) (d:Bool) (w:World) (h:IsMem pb wb ws w) :
  Calls Tryz.prog 125 #[Pt pb 0,.agg #[Φ kind,Φ a,Φ b,.bool d]] w fun e w'=>e=.returned (.tuple #[])∧IsMem pb wb ws w'∧Over (fun k=>k=pb) w w':=by
 obtain ⟨st,hb⟩:=h.head
 have HB:=Az.m hb
 have HR:=Az.m h.row
 have HM:=Az.m h.most
 have HN:=Az.m h.ne
 have hlt:=Az.m (Bb hb)
 clear h hb
 go_enter Tryz.func125,Tryz.ntmps125
 go_wp2_with (first|((with_reducible refine Al (N:=3) rfl ?_);refine Am ?hg (N:=3) ?hd (cs:=#[Φ kind,Φ a,Φ b,.bool d]) (t:=182) ?hr ?_;(case hd=>rfl);(case hg=>rfl);(case hr=>exact Λ18);intro gb hgb w6 hbox hbl;have HX:=Az.m hbox;have HW:=Az.m hbl;have c0:w6.cell? (Ψ pb 1)=some (Φ st):=(Aa (Ac HB.o hbl) 1).trans rfl;have c1:w6.cell? (Ψ pb 2)=some (.bool false):=(Aa (Ac HB.o hbl) 2).trans rfl;have f0:=Ab (Ac HB.o hbl) 1;have HB6:=Az.m (Ac HB.o hbl);have HR6:=Az.m (Ac HR.o hbl);clear hbox hbl hgb))
 go_end0
 exact ⟨rfl,⟨⟨_,Ae HB6.o 1 _ rfl⟩,Av HR6.o (Ne.symm HN.o) _,HM.o⟩,(Over.of_below (fun k=>k=pb) HW.o).set_ (Or.inl rfl) _⟩
theorem nN {ws:List Int} {a:Int} (h0:0≤a) (h1:a<ws.length):(Co .u64 ws).toArray[a.toNat]?=some (Γ (rd ws a)):=by
 simp [Co,rd,List.getElem?_eq_getElem (show a.toNat<ws.length by omega)]
theorem IsMem.word {pb wb:Nat} {ws:List Int} {w:World} (h:IsMem pb wb ws w) {a:Int} (h0:0≤a) (h1:a<ws.length):w.cell? (Ψ wb a.toNat)=some (Γ (rd ws a)):=(Aa h.row a.toNat).trans (nN h0 h1)
theorem IsMem.slice {pb wb:Nat} {ws:List Int} {w:World} (h:IsMem pb wb ws w):w.cell? (Ψ pb 0)=some (.slice (some (Ψ wb 0)) ws.length ws.length):=by
 obtain ⟨st,h1⟩:=h.head
 exact (Aa h1 0).trans rfl
theorem dW (pb wb:Nat) (ws:List Int) (a:Int) (w:World) (h:IsMem pb wb ws w) (h0:0≤a) (h1:a<ws.length) :
  Calls Tryz.prog 129 #[Pt pb 0,Φ a] w fun e w'=>e=.returned (.tuple #[Γ (rd ws a),Φ 0])∧IsMem pb wb ws w'∧Over (fun k=>k=pb) w w':=by
 have H:=Az.m h
 have A0:=Az.m h0
 have A1:=Az.m h1
 clear h h0 h1
 go_enter Tryz.func129,Tryz.ntmps129
 go_wp2_with (first|((with_reducible refine Ai (f:=124) rfl ?_);refine Bk (some 10) rfl rfl Tryz.func124 Zk rfl #[Pt pb 0,.slice (some (Ψ w.heap.size 0)) 1 1] rfl Λ10 ?_;(with_reducible refine (Sm pb w.heap.size (some (Ψ wb 0)) ws.length ws.length a _ (Ch (Af (Below.refl _ _) _) H.o.slice) ((Aa (Cc w _) 0).trans rfl) A0.o A1.o).mono ?_);rintro e w1 ⟨rfl,hd⟩;refine ⟨_,rfl,?_⟩;have O1:=Az.m (Over.of_below (fun k=>k=pb) (Ag (Af (Below.refl _ _) _) hd.below));have H1:=Az.m (H.o.same (Ag (Af (Below.refl _ _) _) hd.below));have a0:=eq_true A0.o;have a1:=eq_true A1.o;have cs:=H1.o.slice;have cw:=H1.o.word A0.o A1.o;have fw:=Ab H1.o.row a.toNat;clear hd)|((with_reducible refine Ai (f:=125) rfl ?_);refine Bk (some 17) rfl rfl Tryz.func125 Zk rfl #[Pt pb 0,.agg #[Φ 0,Φ a,Φ (-1),.bool false]] rfl Λ10 ?_;(with_reducible refine (Ea pb wb ws 0 a (-1) false _ H1.o).mono ?_);rintro e w2 ⟨rfl,hm,ho⟩;refine ⟨_,rfl,?_⟩;have O2:=Az.m ((O1.o).then_ ho (fun _ hk=>.inl hk));have H2:=Az.m hm;clear cs cw fw;have cs:=hm.slice;have cw:=hm.word A0.o A1.o;clear hm ho))
 go_ret2
 exact ⟨rfl,H2.o,O2.o⟩
theorem IsMem.put {pb wb:Nat} {ws:List Int} {w:World} (h:IsMem pb wb ws w) (a v:Int):IsMem pb wb (ws.set a.toNat v) (w.setCell (Ψ wb a.toNat) (Γ v)):=by
 obtain ⟨st,h1⟩:=h.head
 refine ⟨⟨st,?_⟩,Ae h.row a.toNat _ (by simp [Co]),by rw [List.length_set];exact h.most⟩
 rw [List.length_set]
 exact Av h1 h.ne _
theorem Qm (pb wb:Nat) (ws:List Int) (a v:Int) (w:World) (h:IsMem pb wb ws w) (h0:0≤a) (h1:a<ws.length) :
  Calls Tryz.prog 66 #[Pt pb 0,Φ a,Γ v] w fun e w'=>e=.returned (Φ 0)∧IsMem pb wb (ws.set a.toNat v) w'∧Over (fun k=>k=pb∨k=wb) w w':=by
 have H:=Az.m h
 have A0:=Az.m h0
 have A1:=Az.m h1
 clear h h0 h1
 go_enter Tryz.func66,Tryz.ntmps66
 go_wp2_with (first|((with_reducible refine Ai (f:=124) rfl ?_);refine Bk (some 11) rfl rfl Tryz.func124 Zk rfl #[Pt pb 0,.slice (some (Ψ w.heap.size 0)) 1 1] rfl Λ10 ?_;(with_reducible refine (Sm pb w.heap.size (some (Ψ wb 0)) ws.length ws.length a _ (Ch (Af (Below.refl _ _) _) H.o.slice) ((Aa (Cc w _) 0).trans rfl) A0.o A1.o).mono ?_);rintro e w1 ⟨rfl,hd⟩;refine ⟨_,rfl,?_⟩;have O1:=Az.m (Over.of_below (fun k=>k=pb∨k=wb) (Ag (Af (Below.refl _ _) _) hd.below));have H1:=Az.m (H.o.same (Ag (Af (Below.refl _ _) _) hd.below));have a0:=eq_true A0.o;have a1:=eq_true A1.o;have cs:=H1.o.slice;have cw:=H1.o.word A0.o A1.o;have fw:=Ab H1.o.row a.toNat;clear hd)|((with_reducible refine Ai (f:=125) rfl ?_);refine Bk (some 18) rfl rfl Tryz.func125 Zk rfl #[Pt pb 0,.agg #[Φ 1,Φ a,Φ (-1),.bool true]] rfl Λ10 ?_;(with_reducible refine (Ea pb wb ws 1 a (-1) true _ H1.o).mono ?_);rintro e w2 ⟨rfl,hm,ho⟩;refine ⟨_,rfl,?_⟩;have O2:=Az.m ((O1.o).then_ ho (fun _ hk=>.inl (.inl hk)));have H2:=Az.m hm;clear cs cw fw;have cs:=hm.slice;have cw:=hm.word A0.o A1.o;have fw:=Ab hm.row a.toNat;clear hm ho))
 go_ret
 exact ⟨rfl,H2.o.put a v,O2.o.set_ (Or.inl (Or.inr rfl)) _⟩
theorem iT (pb wb:Nat) (ws:List Int) (a o n:Int) (w:World) (h:IsMem pb wb ws w) (h0:0≤a) (h1:a<ws.length) :
  Calls Tryz.prog 200 #[Pt pb 0,Φ a,Γ o,Γ n] w fun e w'=>e=.returned (.tuple #[.bool (rd ws a==o),Φ 0])∧IsMem pb wb (if rd ws a=o then ws.set a.toNat n else ws) w'∧Over (fun k=>k=pb∨k=wb) w w':=by
 by_cases ho:rd ws a=o
 .have hb:(rd ws a==o)=true:=by rw [ho];exact beq_self_eq_true o
  rw [if_pos ho,hb]
  have HO:=Az.m ho
  clear ho
  have H:=Az.m h
  have A0:=Az.m h0
  have A1:=Az.m h1
  clear h h0 h1
  go_enter Tryz.func200,Tryz.ntmps200
  go_wp2_with (first|((with_reducible refine Ai (f:=124) rfl ?_);refine Bk (some 15) rfl rfl Tryz.func124 Zk rfl #[Pt pb 0,.slice (some (Ψ w.heap.size 0)) 1 1] rfl Λ10 ?_;(with_reducible refine (Sm pb w.heap.size (some (Ψ wb 0)) ws.length ws.length a _ (Ch (Af (Below.refl _ _) _) H.o.slice) ((Aa (Cc w _) 0).trans rfl) A0.o A1.o).mono ?_);rintro e w1 ⟨rfl,hd⟩;refine ⟨_,rfl,?_⟩;have O1:=Az.m (Over.of_below (fun k=>k=pb∨k=wb) (Ag (Af (Below.refl _ _) _) hd.below));have H1:=Az.m (H.o.same (Ag (Af (Below.refl _ _) _) hd.below));have a0:=eq_true A0.o;have a1:=eq_true A1.o;have cs:=H1.o.slice;have cw:=H1.o.word A0.o A1.o;have fw:=Ab H1.o.row a.toNat;clear hd)|((with_reducible refine Ai (f:=125) rfl ?_);refine Bk (some 40) rfl rfl Tryz.func125 Zk rfl #[Pt pb 0,.agg #[Φ 2,Φ a,Φ (-1),.bool true]] rfl Λ10 ?_;(with_reducible refine (Ea pb wb (ws.set a.toNat n) 2 a (-1) true _ (H1.o.put a n)).mono ?_);rintro e w2 ⟨rfl,hm,ho⟩;refine ⟨_,rfl,?_⟩;have O2:=Az.m (((O1.o.set_ (p:=(Ψ wb a.toNat)) (Or.inl (Or.inr rfl)) (Γ n))).then_ ho (fun _ hk=>.inl (.inl hk)));have H2:=Az.m hm;clear hm ho))
  go_ret2
  exact ⟨rfl,H2.o,O2.o⟩
 .have hb:(rd ws a==o)=false:=by rw [beq_eq_false_iff_ne];exact ho
  rw [if_neg ho,hb]
  clear ho
  have H:=Az.m h
  have A0:=Az.m h0
  have A1:=Az.m h1
  clear h h0 h1
  go_enter Tryz.func200,Tryz.ntmps200
  go_wp2_with (first|((with_reducible refine Ai (f:=124) rfl ?_);refine Bk (some 15) rfl rfl Tryz.func124 Zk rfl #[Pt pb 0,.slice (some (Ψ w.heap.size 0)) 1 1] rfl Λ10 ?_;(with_reducible refine (Sm pb w.heap.size (some (Ψ wb 0)) ws.length ws.length a _ (Ch (Af (Below.refl _ _) _) H.o.slice) ((Aa (Cc w _) 0).trans rfl) A0.o A1.o).mono ?_);rintro e w1 ⟨rfl,hd⟩;refine ⟨_,rfl,?_⟩;have O1:=Az.m (Over.of_below (fun k=>k=pb∨k=wb) (Ag (Af (Below.refl _ _) _) hd.below));have H1:=Az.m (H.o.same (Ag (Af (Below.refl _ _) _) hd.below));have a0:=eq_true A0.o;have a1:=eq_true A1.o;have cs:=H1.o.slice;have cw:=H1.o.word A0.o A1.o;have fw:=Ab H1.o.row a.toNat;clear hd)|((with_reducible refine Ai (f:=125) rfl ?_);refine Bk (some 40) rfl rfl Tryz.func125 Zk rfl #[Pt pb 0,.agg #[Φ 2,Φ a,Φ (-1),.bool false]] rfl Λ10 ?_;(with_reducible refine (Ea pb wb ws 2 a (-1) false _ H1.o).mono ?_);rintro e w2 ⟨rfl,hm,ho⟩;refine ⟨_,rfl,?_⟩;have O2:=Az.m ((O1.o).then_ ho (fun _ hk=>.inl (.inl hk)));have H2:=Az.m hm;clear hm ho))
  go_ret2
  exact ⟨rfl,H2.o,O2.o⟩
theorem jB (pb wb:Nat) (ws:List Int) (a d:Int) (w:World) (h:IsMem pb wb ws w) (h0:0≤a) (h1:a<ws.length) :
  Calls Tryz.prog 192 #[Pt pb 0,Φ a,Γ d] w fun e w'=>e=.returned (.tuple #[Γ (rd ws a),Φ 0])∧IsMem pb wb (ws.set a.toNat (IntKind.u64.wrap (rd ws a+d))) w'∧Over (fun k=>k=pb∨k=wb) w w':=by
 have H:=Az.m h
 have A0:=Az.m h0
 have A1:=Az.m h1
 clear h h0 h1
 go_enter Tryz.func192,Tryz.ntmps192
 go_wp2_with (first|((with_reducible refine Ai (f:=124) rfl ?_);refine Bk (some 13) rfl rfl Tryz.func124 Zk rfl #[Pt pb 0,.slice (some (Ψ w.heap.size 0)) 1 1] rfl Λ10 ?_;(with_reducible refine (Sm pb w.heap.size (some (Ψ wb 0)) ws.length ws.length a _ (Ch (Af (Below.refl _ _) _) H.o.slice) ((Aa (Cc w _) 0).trans rfl) A0.o A1.o).mono ?_);rintro e w1 ⟨rfl,hd⟩;refine ⟨_,rfl,?_⟩;have O1:=Az.m (Over.of_below (fun k=>k=pb∨k=wb) (Ag (Af (Below.refl _ _) _) hd.below));have H1:=Az.m (H.o.same (Ag (Af (Below.refl _ _) _) hd.below));have a0:=eq_true A0.o;have a1:=eq_true A1.o;have cs:=H1.o.slice;have cw:=H1.o.word A0.o A1.o;have fw:=Ab H1.o.row a.toNat;clear hd)|((with_reducible refine Ai (f:=125) rfl ?_);refine Bk (some 20) rfl rfl Tryz.func125 Zk rfl #[Pt pb 0,.agg #[Φ 3,Φ a,Φ (-1),.bool true]] rfl Λ10 ?_;(with_reducible refine (Ea pb wb ws 3 a (-1) true _ H1.o).mono ?_);rintro e w2 ⟨rfl,hm,ho⟩;refine ⟨_,rfl,?_⟩;have O2:=Az.m ((O1.o).then_ ho (fun _ hk=>.inl (.inl hk)));have H2:=Az.m hm;clear cs cw fw;have cs:=hm.slice;have cw:=hm.word A0.o A1.o;have fw:=Ab hm.row a.toNat;clear hm ho))
 go_ret2
 exact ⟨rfl,H2.o.put a _,O2.o.set_ (Or.inl (Or.inr rfl)) _⟩
theorem eK (pb wb:Nat) (ws:List Int) (a o n b q:Int) (w:World) (h:IsMem pb wb ws w) (h0:0≤a) (h1:a<ws.length) (h2:0≤b) (h3:b<ws.length) :
  Calls Tryz.prog 203 #[Pt pb 0,Φ a,Γ o,Γ n,Φ b,Γ q] w fun e w'=>e=.returned (.tuple #[.bool (rd ws a==o && rd ws b==q),Φ 0])∧IsMem pb wb (if rd ws a=o∧rd ws b=q then ws.set a.toNat n else ws) w'∧Over (fun k=>k=pb∨k=wb) w w':=by
 by_cases ho:rd ws a=o
 .have hb:(rd ws a==o)=true:=by rw [ho];exact beq_self_eq_true o
  by_cases hq:rd ws b=q
  .have hb2:(rd ws b==q)=true:=by rw [hq];exact beq_self_eq_true q
   rw [if_pos ⟨ho,hq⟩,hb,hb2]
   clear ho hq
   have H:=Az.m h
   have A0:=Az.m h0
   have A1:=Az.m h1
   have B0:=Az.m h2
   have B1:=Az.m h3
   clear h2 h3
   clear h h0 h1
   go_enter Tryz.func203,Tryz.ntmps203
   go_wp2_with (first|((with_reducible refine Ai (f:=124) rfl ?_);refine Bk (some 20) rfl rfl Tryz.func124 Zk rfl #[Pt pb 0,.slice (some (Ψ w.heap.size 0)) 2 2] rfl Λ10 ?_;(with_reducible refine (Pr pb w.heap.size (some (Ψ wb 0)) ws.length ws.length a b _ (Ch (Af (Below.refl _ _) _) H.o.slice) ((Aa (Cc w _) 0).trans rfl) ((Aa (Cc w _) 1).trans rfl) A0.o A1.o B0.o B1.o).mono ?_);rintro e w1 ⟨rfl,hd⟩;refine ⟨_,rfl,?_⟩;have O1:=Az.m (Over.of_below (fun k=>k=pb∨k=wb) (Ag (Af (Below.refl _ _) _) hd.below));have H1:=Az.m (H.o.same (Ag (Af (Below.refl _ _) _) hd.below));have a0:=eq_true A0.o;have a1:=eq_true A1.o;have b0:=eq_true B0.o;have b1:=eq_true B1.o;have cs:=H1.o.slice;have cw:=H1.o.word A0.o A1.o;have cw2:=H1.o.word B0.o B1.o;have fw:=Ab H1.o.row a.toNat;have fw2:=Ab H1.o.row b.toNat;clear hd)|((with_reducible refine Ai (f:=125) rfl ?_);refine Bk (some 57) rfl rfl Tryz.func125 Zk rfl #[Pt pb 0,.agg #[Φ 5,Φ a,Φ b,.bool true]] rfl Λ10 ?_;(with_reducible refine (Ea pb wb (ws.set a.toNat n) 5 a b true _ (H1.o.put a n)).mono ?_);rintro e w2 ⟨rfl,hm,ho⟩;refine ⟨_,rfl,?_⟩;have O2:=Az.m (((O1.o.set_ (p:=(Ψ wb a.toNat)) (Or.inl (Or.inr rfl)) (Γ n))).then_ ho (fun _ hk=>.inl (.inl hk)));have H2:=Az.m hm;clear hm ho))
   go_ret2
   exact ⟨rfl,H2.o,O2.o⟩
  .have hb2:(rd ws b==q)=false:=by rw [beq_eq_false_iff_ne];exact hq
   rw [if_neg (fun h=>hq h.2),hb,hb2]
   clear ho hq
   have H:=Az.m h
   have A0:=Az.m h0
   have A1:=Az.m h1
   have B0:=Az.m h2
   have B1:=Az.m h3
   clear h2 h3
   clear h h0 h1
   go_enter Tryz.func203,Tryz.ntmps203
   go_wp2_with (first|((with_reducible refine Ai (f:=124) rfl ?_);refine Bk (some 20) rfl rfl Tryz.func124 Zk rfl #[Pt pb 0,.slice (some (Ψ w.heap.size 0)) 2 2] rfl Λ10 ?_;(with_reducible refine (Pr pb w.heap.size (some (Ψ wb 0)) ws.length ws.length a b _ (Ch (Af (Below.refl _ _) _) H.o.slice) ((Aa (Cc w _) 0).trans rfl) ((Aa (Cc w _) 1).trans rfl) A0.o A1.o B0.o B1.o).mono ?_);rintro e w1 ⟨rfl,hd⟩;refine ⟨_,rfl,?_⟩;have O1:=Az.m (Over.of_below (fun k=>k=pb∨k=wb) (Ag (Af (Below.refl _ _) _) hd.below));have H1:=Az.m (H.o.same (Ag (Af (Below.refl _ _) _) hd.below));have a0:=eq_true A0.o;have a1:=eq_true A1.o;have b0:=eq_true B0.o;have b1:=eq_true B1.o;have cs:=H1.o.slice;have cw:=H1.o.word A0.o A1.o;have cw2:=H1.o.word B0.o B1.o;have fw:=Ab H1.o.row a.toNat;have fw2:=Ab H1.o.row b.toNat;clear hd)|((with_reducible refine Ai (f:=125) rfl ?_);refine Bk (some 57) rfl rfl Tryz.func125 Zk rfl #[Pt pb 0,.agg #[Φ 5,Φ a,Φ b,.bool false]] rfl Λ10 ?_;(with_reducible refine (Ea pb wb ws 5 a b false _ H1.o).mono ?_);rintro e w2 ⟨rfl,hm,ho⟩;refine ⟨_,rfl,?_⟩;have O2:=Az.m ((O1.o).then_ ho (fun _ hk=>.inl (.inl hk)));have H2:=Az.m hm;clear hm ho))
   go_ret2
   exact ⟨rfl,H2.o,O2.o⟩
 .have hb:(rd ws a==o)=false:=by rw [beq_eq_false_iff_ne];exact ho
  rw [if_neg (fun h=>ho h.1),hb]
  clear ho
  have H:=Az.m h
  have A0:=Az.m h0
  have A1:=Az.m h1
  have B0:=Az.m h2
  have B1:=Az.m h3
  clear h2 h3
  clear h h0 h1
  go_enter Tryz.func203,Tryz.ntmps203
  go_wp2_with (first|((with_reducible refine Ai (f:=124) rfl ?_);refine Bk (some 20) rfl rfl Tryz.func124 Zk rfl #[Pt pb 0,.slice (some (Ψ w.heap.size 0)) 2 2] rfl Λ10 ?_;(with_reducible refine (Pr pb w.heap.size (some (Ψ wb 0)) ws.length ws.length a b _ (Ch (Af (Below.refl _ _) _) H.o.slice) ((Aa (Cc w _) 0).trans rfl) ((Aa (Cc w _) 1).trans rfl) A0.o A1.o B0.o B1.o).mono ?_);rintro e w1 ⟨rfl,hd⟩;refine ⟨_,rfl,?_⟩;have O1:=Az.m (Over.of_below (fun k=>k=pb∨k=wb) (Ag (Af (Below.refl _ _) _) hd.below));have H1:=Az.m (H.o.same (Ag (Af (Below.refl _ _) _) hd.below));have a0:=eq_true A0.o;have a1:=eq_true A1.o;have b0:=eq_true B0.o;have b1:=eq_true B1.o;have cs:=H1.o.slice;have cw:=H1.o.word A0.o A1.o;have cw2:=H1.o.word B0.o B1.o;have fw:=Ab H1.o.row a.toNat;have fw2:=Ab H1.o.row b.toNat;clear hd)|((with_reducible refine Ai (f:=125) rfl ?_);refine Bk (some 57) rfl rfl Tryz.func125 Zk rfl #[Pt pb 0,.agg #[Φ 5,Φ a,Φ b,.bool false]] rfl Λ10 ?_;(with_reducible refine (Ea pb wb ws 5 a b false _ H1.o).mono ?_);rintro e w2 ⟨rfl,hm,ho⟩;refine ⟨_,rfl,?_⟩;have O2:=Az.m ((O1.o).then_ ho (fun _ hk=>.inl (.inl hk)));have H2:=Az.m hm;clear hm ho))
  go_ret2
  exact ⟨rfl,H2.o,O2.o⟩
theorem eL (pb wb:Nat) (ws:List Int) (a o n b q r:Int) (w:World) (h:IsMem pb wb ws w) (h0:0≤a) (h1:a<ws.length) (h2:0≤b) (h3:b<ws.length) (hab:a≠b) :
  Calls Tryz.prog 205 #[Pt pb 0,Φ a,Γ o,Γ n,Φ b,Γ q,Γ r] w fun e w'=>e=.returned (.tuple #[.bool (rd ws a==o && rd ws b==q),Φ 0])∧IsMem pb wb (if rd ws a=o∧rd ws b=q then (ws.set a.toNat n).set b.toNat r else ws) w'∧Over (fun k=>k=pb∨k=wb) w w':=by
 have hne:(a==b)=false:=by rw [beq_eq_false_iff_ne];exact hab
 by_cases ho:rd ws a=o
 .have hb:(rd ws a==o)=true:=by rw [ho];exact beq_self_eq_true o
  by_cases hq:rd ws b=q
  .have hb2:(rd ws b==q)=true:=by rw [hq];exact beq_self_eq_true q
   rw [if_pos ⟨ho,hq⟩,hb,hb2]
   have HAB:=Az.m hab
   have nab:a.toNat≠b.toNat:=Zo
   have nab1:=eq_false nab
   have nab2:=eq_false (Ne.symm nab)
   clear ho hq hab nab
   have H:=Az.m h
   have A0:=Az.m h0
   have A1:=Az.m h1
   have B0:=Az.m h2
   have B1:=Az.m h3
   clear h2 h3
   clear h h0 h1
   go_enter Tryz.func205,Tryz.ntmps205
   go_wp2_with (first|((with_reducible refine Ai (f:=124) rfl ?_);refine Bk (some 22) rfl rfl Tryz.func124 Zk rfl #[Pt pb 0,.slice (some (Ψ w.heap.size 0)) 2 2] rfl Λ10 ?_;(with_reducible refine (Pr pb w.heap.size (some (Ψ wb 0)) ws.length ws.length a b _ (Ch (Af (Below.refl _ _) _) H.o.slice) ((Aa (Cc w _) 0).trans rfl) ((Aa (Cc w _) 1).trans rfl) A0.o A1.o B0.o B1.o).mono ?_);rintro e w1 ⟨rfl,hd⟩;refine ⟨_,rfl,?_⟩;have O1:=Az.m (Over.of_below (fun k=>k=pb∨k=wb) (Ag (Af (Below.refl _ _) _) hd.below));have H1:=Az.m (H.o.same (Ag (Af (Below.refl _ _) _) hd.below));have a0:=eq_true A0.o;have a1:=eq_true A1.o;have b0:=eq_true B0.o;have b1:=eq_true B1.o;have cs:=H1.o.slice;have cw:=H1.o.word A0.o A1.o;have cw2:=H1.o.word B0.o B1.o;have fw:=Ab H1.o.row a.toNat;have fw2:=Ab H1.o.row b.toNat;clear hd))
   go_region
   all_goals go_wp2_with (first|((with_reducible refine Ai (f:=125) rfl ?_);refine Bk (some 69) rfl rfl Tryz.func125 Zk rfl #[Pt pb 0,.agg #[Φ 4,Φ a,Φ b,.bool true]] rfl Λ10 ?_;(with_reducible refine (Ea pb wb ((ws.set a.toNat n).set b.toNat r) 4 a b true _ ((H1.o.put a n).put b r).drew).mono ?_);rintro e w2 ⟨rfl,hm,ho⟩;refine ⟨_,rfl,?_⟩;have O2:=Az.m (((((O1.o.set_ (p:=(Ψ wb a.toNat)) (Or.inl (Or.inr rfl)) (Γ n)).set_ (p:=(Ψ wb b.toNat)) (Or.inl (Or.inr rfl)) (Γ r)).drew)).then_ ho (fun _ hk=>.inl (.inl hk)));have H2:=Az.m hm;clear hm ho)|((with_reducible refine Ai (f:=125) rfl ?_);refine Bk (some 69) rfl rfl Tryz.func125 Zk rfl #[Pt pb 0,.agg #[Φ 4,Φ a,Φ b,.bool true]] rfl Λ10 ?_;(with_reducible refine (Ea pb wb ((ws.set b.toNat r).set a.toNat n) 4 a b true _ ((H1.o.put b r).put a n).drew).mono ?_);rintro e w2 ⟨rfl,hm,ho⟩;refine ⟨_,rfl,?_⟩;have O2:=Az.m (((((O1.o.set_ (p:=(Ψ wb b.toNat)) (Or.inl (Or.inr rfl)) (Γ r)).set_ (p:=(Ψ wb a.toNat)) (Or.inl (Or.inr rfl)) (Γ n)).drew)).then_ ho (fun _ hk=>.inl (.inl hk)));have H2:=Az.m hm;clear hm ho))
   all_goals go_ret2
   all_goals first|exact ⟨rfl,H2.o,O2.o⟩|exact ⟨rfl,(List.set_comm _ _ (by have:=HAB.o;have:=A0.o;have:=B0.o;omega))▸H2.o,O2.o⟩
  .have hb2:(rd ws b==q)=false:=by rw [beq_eq_false_iff_ne];exact hq
   rw [if_neg (fun h=>hq h.2),hb,hb2]
   clear ho hq hab
   have H:=Az.m h
   have A0:=Az.m h0
   have A1:=Az.m h1
   have B0:=Az.m h2
   have B1:=Az.m h3
   clear h2 h3
   clear h h0 h1
   go_enter Tryz.func205,Tryz.ntmps205
   go_wp2_with (first|((with_reducible refine Ai (f:=124) rfl ?_);refine Bk (some 22) rfl rfl Tryz.func124 Zk rfl #[Pt pb 0,.slice (some (Ψ w.heap.size 0)) 2 2] rfl Λ10 ?_;(with_reducible refine (Pr pb w.heap.size (some (Ψ wb 0)) ws.length ws.length a b _ (Ch (Af (Below.refl _ _) _) H.o.slice) ((Aa (Cc w _) 0).trans rfl) ((Aa (Cc w _) 1).trans rfl) A0.o A1.o B0.o B1.o).mono ?_);rintro e w1 ⟨rfl,hd⟩;refine ⟨_,rfl,?_⟩;have O1:=Az.m (Over.of_below (fun k=>k=pb∨k=wb) (Ag (Af (Below.refl _ _) _) hd.below));have H1:=Az.m (H.o.same (Ag (Af (Below.refl _ _) _) hd.below));have a0:=eq_true A0.o;have a1:=eq_true A1.o;have b0:=eq_true B0.o;have b1:=eq_true B1.o;have cs:=H1.o.slice;have cw:=H1.o.word A0.o A1.o;have cw2:=H1.o.word B0.o B1.o;have fw:=Ab H1.o.row a.toNat;have fw2:=Ab H1.o.row b.toNat;clear hd)|((with_reducible refine Ai (f:=125) rfl ?_);refine Bk (some 69) rfl rfl Tryz.func125 Zk rfl #[Pt pb 0,.agg #[Φ 4,Φ a,Φ b,.bool false]] rfl Λ10 ?_;(with_reducible refine (Ea pb wb ws 4 a b false _ H1.o).mono ?_);rintro e w2 ⟨rfl,hm,ho⟩;refine ⟨_,rfl,?_⟩;have O2:=Az.m ((O1.o).then_ ho (fun _ hk=>.inl (.inl hk)));have H2:=Az.m hm;clear hm ho))
   go_ret2
   exact ⟨rfl,H2.o,O2.o⟩
 .have hb:(rd ws a==o)=false:=by rw [beq_eq_false_iff_ne];exact ho
  rw [if_neg (fun h=>ho h.1),hb]
  clear ho hab
  have H:=Az.m h
  have A0:=Az.m h0
  have A1:=Az.m h1
  have B0:=Az.m h2
  have B1:=Az.m h3
  clear h2 h3
  clear h h0 h1
  go_enter Tryz.func205,Tryz.ntmps205
  go_wp2_with (first|((with_reducible refine Ai (f:=124) rfl ?_);refine Bk (some 22) rfl rfl Tryz.func124 Zk rfl #[Pt pb 0,.slice (some (Ψ w.heap.size 0)) 2 2] rfl Λ10 ?_;(with_reducible refine (Pr pb w.heap.size (some (Ψ wb 0)) ws.length ws.length a b _ (Ch (Af (Below.refl _ _) _) H.o.slice) ((Aa (Cc w _) 0).trans rfl) ((Aa (Cc w _) 1).trans rfl) A0.o A1.o B0.o B1.o).mono ?_);rintro e w1 ⟨rfl,hd⟩;refine ⟨_,rfl,?_⟩;have O1:=Az.m (Over.of_below (fun k=>k=pb∨k=wb) (Ag (Af (Below.refl _ _) _) hd.below));have H1:=Az.m (H.o.same (Ag (Af (Below.refl _ _) _) hd.below));have a0:=eq_true A0.o;have a1:=eq_true A1.o;have b0:=eq_true B0.o;have b1:=eq_true B1.o;have cs:=H1.o.slice;have cw:=H1.o.word A0.o A1.o;have cw2:=H1.o.word B0.o B1.o;have fw:=Ab H1.o.row a.toNat;have fw2:=Ab H1.o.row b.toNat;clear hd)|((with_reducible refine Ai (f:=125) rfl ?_);refine Bk (some 69) rfl rfl Tryz.func125 Zk rfl #[Pt pb 0,.agg #[Φ 4,Φ a,Φ b,.bool false]] rfl Λ10 ?_;(with_reducible refine (Ea pb wb ws 4 a b false _ H1.o).mono ?_);rintro e w2 ⟨rfl,hm,ho⟩;refine ⟨_,rfl,?_⟩;have O2:=Az.m ((O1.o).then_ ho (fun _ hk=>.inl (.inl hk)));have H2:=Az.m hm;clear hm ho))
  go_ret2
  exact ⟨rfl,H2.o,O2.o⟩
structure Gh where
 tags:List Int
 kind:Int
 nd:Int
def Gh.fault (g:Gh) (k i:Int):Gh:=if g.kind=0∧g.nd=0 then {g with kind:=k,nd:=i} else g
def Gh.turn (g:Gh) (i f t k:Int):Gh:=if 1≤i∧i≤g.tags.length then (if rd g.tags (i-1)=f then {g with tags:=g.tags.set (i-1).toNat t} else g.fault k i) else g.fault 5 i
def Gh.touch (g:Gh) (i:Int):Gh:=if 1≤i∧i≤g.tags.length then (if rd g.tags (i-1)=0 then g.fault 4 i else g) else g.fault 5 i
structure IsGh (gb tb:Nat) (g:Gh) (w:World):Prop where
 head:w.heap[gb]?=some (.cells #[.slice (some (Ψ tb 0)) g.tags.length g.tags.length,Φ g.kind,Φ g.nd] 138 (0,0))
 row:w.heap[tb]?=some (.cells (Co .i64 g.tags).toArray 3 (0,0))
 most:g.tags.length≤64
theorem IsGh.ne {gb tb:Nat} {g:Gh} {w:World} (h:IsGh gb tb g w):gb≠tb:=An h.head h.row Zd
theorem IsGh.same {gb tb:Nat} {g:Gh} {w w1:World} (h:IsGh gb tb g w) (hb:Below w.heap.size w w1):IsGh gb tb g w1:=⟨Ac h.head hb,Ac h.row hb,h.most⟩
theorem IsGh.over {gb tb:Nat} {g:Gh} {w w1:World} {S:Nat→Prop} (h:IsGh gb tb g w) (ho:Over S w w1) (h1:¬ S gb) (h2:¬ S tb):IsGh gb tb g w1:=⟨ho.blk h.head h1,ho.blk h.row h2,h.most⟩
theorem rM (d:Nat) (w:World) (x0 y0 x1 y1:Int) :
  (Op.equalIn (d+2) 135 (.agg #[Φ x0,Φ x1]) (.agg #[Φ y0,Φ y1])).run Tryz.prog w=.ok (x0==y0 && (x1==y1)) w:=by
 refine Tm Tryz.underlying135 Zk ?_
 refine Ec (by rfl) (by go_simp;rfl) (by go_simp;rfl) (by go_simp) ?_
 exact Mt (by rfl) (by go_simp;rfl) (by go_simp;rfl) (by go_simp)
attribute [local go_sem high] rM
theorem lQ {ws:List Int} {a:Int} (h0:0≤a) (h1:a<ws.length):(Co .i64 ws).toArray[a.toNat]?=some (Φ (rd ws a)):=by
 simp [Co,rd,List.getElem?_eq_getElem (show a.toNat<ws.length by omega)]
theorem Hq (gb tb:Nat) (g:Gh) (k i:Int) (w:World) (h:IsGh gb tb g w) :
  Calls Tryz.prog 220 #[Pt gb 0,Φ k,Φ i] w fun e w'=>(∃ b,e=.returned (.bool b))∧IsGh gb tb (g.fault k i) w'∧Over (fun k=>k=gb) w w':=by
 obtain ⟨c0,c1,c2⟩:=bc3 h.head
 have f1:=Ab h.head 1
 have f2:=Ab h.head 2
 have H:=Az.m h
 unfold Gh.fault
 by_cases hz:g.kind=0∧g.nd=0
 .have hb:(g.kind==0 && g.nd==0)=true:=by rw [hz.1,hz.2];rfl
  rw [if_pos hz]
  clear h hz
  go_enter Tryz.func220,Tryz.ntmps220
  go_wp2
  go_ret
  exact ⟨⟨_,rfl⟩,⟨Ae (Ae H.o.head 1 _ rfl) 2 _ rfl,Av (Av H.o.row (Ne.symm H.o.ne) _) (Ne.symm H.o.ne) _,H.o.most⟩,((Over.refl (fun k=>k=gb) w).set_ (Or.inl rfl) _).set_ (Or.inl rfl) _⟩
 .have hb:(g.kind==0 && g.nd==0)=false:=by
   rw [Bool.and_eq_false_iff]
   rcases Classical.not_and_iff_not_or_not.1 hz with h1|h1
   .exact Or.inl (by rw [beq_eq_false_iff_ne];exact h1)
   .exact Or.inr (by rw [beq_eq_false_iff_ne];exact h1)
  rw [if_neg hz]
  clear h hz
  go_enter Tryz.func220,Tryz.ntmps220
  go_wp2
  go_ret
  exact ⟨⟨_,rfl⟩,H.o,Over.refl _ w⟩
theorem Ye (gb tb:Nat) (g:Gh) (i:Int) (w:World) (h:IsGh gb tb g w) :
  Calls Tryz.prog 198 #[Pt gb 0,Φ i] w fun e w'=>(∃ b,e=.returned (.bool b))∧IsGh gb tb (g.touch i) w'∧Over (fun k=>k=gb∨k=tb) w w':=by
 obtain ⟨c0,c1,c2⟩:=bc3 h.head
 have f1:=Ab h.head 1
 have f2:=Ab h.head 2
 have H:=Az.m h
 have hw:1≤i∧i≤g.tags.length→wrap64 (i-1)=i-1:=fun hi=>by have:=h.most;unfold wrap64;omega
 unfold Gh.touch
 by_cases hi:1≤i∧i≤g.tags.length
 .rw [if_pos hi]
  have g0:decide (i<1)=false:=by rw [decide_eq_false_iff_not];omega
  have g1:decide ((g.tags.length:Int)<i)=false:=by rw [decide_eq_false_iff_not];omega
  have ew:=hw hi
  have r0:(1≤i)=True:=eq_true Zo
  have r1:(i-1<g.tags.length)=True:=eq_true Zo
  have en:(i-1).toNat=i.toNat-1:=Zo
  have ct:w.cell? (Ψ tb (i.toNat-1))=some (Φ (rd g.tags (i-1))):=by rw [← en];exact (Aa h.row _).trans (lQ Zo Zo)
  by_cases hz:rd g.tags (i-1)=0
  .have hb:(rd g.tags (i-1)==0)=true:=by rw [hz];rfl
   rw [if_pos hz]
   clear h hz hi hw
   go_enter Tryz.func198,Tryz.ntmps198
   go_wp2_with (first|((with_reducible refine Ai (f:=220) rfl ?_);refine Bk (some 36) rfl rfl Tryz.func220 Zk rfl #[Pt gb 0,Φ 4,Φ i] rfl Λ10 ?_;(with_reducible refine (Hq gb tb g 4 i _ H.o).mono ?_);rintro e w2 ⟨⟨bb,rfl⟩,hm,ho⟩;refine ⟨_,rfl,?_⟩;have O2:=Az.m (ho.mono (S2:=(fun k=>k=gb∨k=tb)) (fun _ hk=>.inl hk));have H2:=Az.m hm;clear hm ho))
   go_ret
   exact ⟨⟨_,rfl⟩,H2.o,O2.o⟩
  .have hb:(rd g.tags (i-1)==0)=false:=by rw [beq_eq_false_iff_ne];exact hz
   rw [if_neg hz]
   clear h hz hi hw
   go_enter Tryz.func198,Tryz.ntmps198
   go_wp2
   go_ret
   exact ⟨⟨_,rfl⟩,H.o,Over.refl _ w⟩
 .rw [if_neg hi]
  by_cases h1:i<1
  .have g0:decide (i<1)=true:=decide_eq_true h1
   clear h h1 hi hw
   go_enter Tryz.func198,Tryz.ntmps198
   go_wp2_with (first|((with_reducible refine Ai (f:=220) rfl ?_);refine Bk (some 23) rfl rfl Tryz.func220 Zk rfl #[Pt gb 0,Φ 5,Φ i] rfl Λ10 ?_;(with_reducible refine (Hq gb tb g 5 i _ H.o).mono ?_);rintro e w2 ⟨⟨bb,rfl⟩,hm,ho⟩;refine ⟨_,rfl,?_⟩;have O2:=Az.m (ho.mono (S2:=(fun k=>k=gb∨k=tb)) (fun _ hk=>.inl hk));have H2:=Az.m hm;clear hm ho))
   go_ret
   exact ⟨⟨_,rfl⟩,H2.o,O2.o⟩
  .have g0:decide (i<1)=false:=decide_eq_false h1
   have g1:decide ((g.tags.length:Int)<i)=true:=by rw [decide_eq_true_eq];omega
   clear h h1 hi hw
   go_enter Tryz.func198,Tryz.ntmps198
   go_wp2_with (first|((with_reducible refine Ai (f:=220) rfl ?_);refine Bk (some 23) rfl rfl Tryz.func220 Zk rfl #[Pt gb 0,Φ 5,Φ i] rfl Λ10 ?_;(with_reducible refine (Hq gb tb g 5 i _ H.o).mono ?_);rintro e w2 ⟨⟨bb,rfl⟩,hm,ho⟩;refine ⟨_,rfl,?_⟩;have O2:=Az.m (ho.mono (S2:=(fun k=>k=gb∨k=tb)) (fun _ hk=>.inl hk));have H2:=Az.m hm;clear hm ho))
   go_ret
   exact ⟨⟨_,rfl⟩,H2.o,O2.o⟩
theorem Ny (gb tb:Nat) (g:Gh) (i f t k:Int) (w:World) (h:IsGh gb tb g w) :
  Calls Tryz.prog 222 #[Pt gb 0,Φ i,Φ f,Φ t,Φ k] w fun e w'=>(∃ b,e=.returned (.bool b))∧IsGh gb tb (g.turn i f t k) w'∧Over (fun k=>k=gb∨k=tb) w w':=by
 obtain ⟨c0,c1,c2⟩:=bc3 h.head
 have f1:=Ab h.head 1
 have f2:=Ab h.head 2
 have H:=Az.m h
 have hw:1≤i∧i≤g.tags.length→wrap64 (i-1)=i-1:=fun hi=>by have:=h.most;unfold wrap64;omega
 unfold Gh.turn
 by_cases hi:1≤i∧i≤g.tags.length
 .rw [if_pos hi]
  have g0:decide (i<1)=false:=by rw [decide_eq_false_iff_not];omega
  have g1:decide ((g.tags.length:Int)<i)=false:=by rw [decide_eq_false_iff_not];omega
  have ew:=hw hi
  have r0:(1≤i)=True:=eq_true Zo
  have r1:(i-1<g.tags.length)=True:=eq_true Zo
  have en:(i-1).toNat=i.toNat-1:=Zo
  have ct:w.cell? (Ψ tb (i.toNat-1))=some (Φ (rd g.tags (i-1))):=by rw [← en];exact (Aa h.row _).trans (lQ Zo Zo)
  have ft:=Ab h.row (i.toNat-1)
  rw [en]
  clear en
  by_cases hz:rd g.tags (i-1)=f
  .have hb:(rd g.tags (i-1)==f)=true:=by rw [hz];exact beq_self_eq_true f
   rw [if_pos hz]
   clear h hz hi hw
   go_enter Tryz.func222,Tryz.ntmps222
   go_wp2
   go_ret
   exact ⟨⟨_,rfl⟩,⟨by show _=some (Obj.cells #[Value.slice (some (Ψ tb 0)) (g.tags.set (i.toNat-1) t).length (g.tags.set (i.toNat-1) t).length,_,_] 138 (0,0));rw [List.length_set];exact Av H.o.head H.o.ne _,Ae H.o.row _ _ (by simp [Co]),by show (g.tags.set (i.toNat-1) t).length≤64;rw [List.length_set];exact H.o.most⟩,(Over.refl (fun k=>k=gb∨k=tb) w).set_ (Or.inl (Or.inr rfl)) _⟩
  .have hb:(rd g.tags (i-1)==f)=false:=by rw [beq_eq_false_iff_ne];exact hz
   rw [if_neg hz]
   clear h hz hi hw
   go_enter Tryz.func222,Tryz.ntmps222
   go_wp2_with (first|((with_reducible refine Ai (f:=220) rfl ?_);refine Bk (some 44) rfl rfl Tryz.func220 Zk rfl #[Pt gb 0,Φ k,Φ i] rfl Λ10 ?_;(with_reducible refine (Hq gb tb g k i _ H.o).mono ?_);rintro e w2 ⟨⟨bb,rfl⟩,hm,ho⟩;refine ⟨_,rfl,?_⟩;have O2:=Az.m (ho.mono (S2:=(fun k=>k=gb∨k=tb)) (fun _ hk=>.inl hk));have H2:=Az.m hm;clear hm ho))
   go_ret
   exact ⟨⟨_,rfl⟩,H2.o,O2.o⟩
 .rw [if_neg hi]
  by_cases h1:i<1
  .have g0:decide (i<1)=true:=decide_eq_true h1
   clear h h1 hi hw
   go_enter Tryz.func222,Tryz.ntmps222
   go_wp2_with (first|((with_reducible refine Ai (f:=220) rfl ?_);refine Bk (some 29) rfl rfl Tryz.func220 Zk rfl #[Pt gb 0,Φ 5,Φ i] rfl Λ10 ?_;(with_reducible refine (Hq gb tb g 5 i _ H.o).mono ?_);rintro e w2 ⟨⟨bb,rfl⟩,hm,ho⟩;refine ⟨_,rfl,?_⟩;have O2:=Az.m (ho.mono (S2:=(fun k=>k=gb∨k=tb)) (fun _ hk=>.inl hk));have H2:=Az.m hm;clear hm ho))
   go_ret
   exact ⟨⟨_,rfl⟩,H2.o,O2.o⟩
  .have g0:decide (i<1)=false:=decide_eq_false h1
   have g1:decide ((g.tags.length:Int)<i)=true:=by rw [decide_eq_true_eq];omega
   clear h h1 hi hw
   go_enter Tryz.func222,Tryz.ntmps222
   go_wp2_with (first|((with_reducible refine Ai (f:=220) rfl ?_);refine Bk (some 29) rfl rfl Tryz.func220 Zk rfl #[Pt gb 0,Φ 5,Φ i] rfl Λ10 ?_;(with_reducible refine (Hq gb tb g 5 i _ H.o).mono ?_);rintro e w2 ⟨⟨bb,rfl⟩,hm,ho⟩;refine ⟨_,rfl,?_⟩;have O2:=Az.m (ho.mono (S2:=(fun k=>k=gb∨k=tb)) (fun _ hk=>.inl hk));have H2:=Az.m hm;clear hm ho))
   go_ret
   exact ⟨⟨_,rfl⟩,H2.o,O2.o⟩
theorem cH (gb tb:Nat) (g:Gh) (i:Int) (w:World) (h:IsGh gb tb g w) :
  Calls Tryz.prog 226 #[Pt gb 0,Φ i] w fun e w'=>(∃ b,e=.returned (.bool b))∧IsGh gb tb (g.turn i 0 1 1) w'∧Over (fun k=>k=gb∨k=tb) w w':=by
 have H:=Az.m h
 clear h
 go_enter Tryz.func226,Tryz.ntmps226
 go_wp2_with (first|((with_reducible refine Ai (f:=222) rfl ?_);refine Bk (some 7) rfl rfl Tryz.func222 Zk rfl #[Pt gb 0,Φ i,Φ 0,Φ 1,Φ 1] rfl Λ10 ?_;(with_reducible refine (Ny gb tb g i 0 1 1 _ H.o).mono ?_);rintro e w2 ⟨⟨bb,rfl⟩,hm,ho⟩;refine ⟨_,rfl,?_⟩;have O2:=Az.m ho;have H2:=Az.m hm;clear hm ho))
 go_ret
 exact ⟨⟨_,rfl⟩,H2.o,O2.o⟩
theorem eD (gb tb:Nat) (g:Gh) (i:Int) (w:World) (h:IsGh gb tb g w) :
  Calls Tryz.prog 207 #[Pt gb 0,Φ i] w fun e w'=>(∃ b,e=.returned (.bool b))∧IsGh gb tb (g.turn i 1 2 2) w'∧Over (fun k=>k=gb∨k=tb) w w':=by
 have H:=Az.m h
 clear h
 go_enter Tryz.func207,Tryz.ntmps207
 go_wp2_with (first|((with_reducible refine Ai (f:=222) rfl ?_);refine Bk (some 7) rfl rfl Tryz.func222 Zk rfl #[Pt gb 0,Φ i,Φ 1,Φ 2,Φ 2] rfl Λ10 ?_;(with_reducible refine (Ny gb tb g i 1 2 2 _ H.o).mono ?_);rintro e w2 ⟨⟨bb,rfl⟩,hm,ho⟩;refine ⟨_,rfl,?_⟩;have O2:=Az.m ho;have H2:=Az.m hm;clear hm ho))
 go_ret
 exact ⟨⟨_,rfl⟩,H2.o,O2.o⟩
theorem bG (gb tb:Nat) (g:Gh) (i:Int) (w:World) (h:IsGh gb tb g w) :
  Calls Tryz.prog 227 #[Pt gb 0,Φ i] w fun e w'=>(∃ b,e=.returned (.bool b))∧IsGh gb tb (g.turn i 2 0 3) w'∧Over (fun k=>k=gb∨k=tb) w w':=by
 have H:=Az.m h
 clear h
 go_enter Tryz.func227,Tryz.ntmps227
 go_wp2_with (first|((with_reducible refine Ai (f:=222) rfl ?_);refine Bk (some 7) rfl rfl Tryz.func222 Zk rfl #[Pt gb 0,Φ i,Φ 2,Φ 0,Φ 3] rfl Λ10 ?_;(with_reducible refine (Ny gb tb g i 2 0 3 _ H.o).mono ?_);rintro e w2 ⟨⟨bb,rfl⟩,hm,ho⟩;refine ⟨_,rfl,?_⟩;have O2:=Az.m ho;have H2:=Az.m hm;clear hm ho))
 go_ret
 exact ⟨⟨_,rfl⟩,H2.o,O2.o⟩
end
section
attribute [local go_sem] Cs Cq De Dd Cj Ci Cr Cp
structure IsFeed (fb bb:Nat) (bytes:List Int) (us:Nat) (w:World):Prop where
 head:∃ A cap,w.heap[fb]?=some (.cells #[.slice A bytes.length cap,Φ us] 151 (0,0))∧(0<bytes.length→A=some (Ψ bb 0))
 row:0<bytes.length→∃ cs:Array Value,w.heap[bb]?=some (.cells cs 5 (0,0))∧∀ i:Nat,i<bytes.length→cs[i]?=some (.int .u8 (bytes.getD i 0))
 fits:bytes.length≤4096
 small:∀ i:Nat,0≤bytes.getD i 0∧bytes.getD i 0≤255
theorem IsFeed.same {fb bb us:Nat} {bytes:List Int} {w w1:World} (h:IsFeed fb bb bytes us w) (hb:Below w.heap.size w w1):IsFeed fb bb bytes us w1:=by
 obtain ⟨A,cap,h1,h2⟩:=h.head
 refine ⟨⟨A,cap,Ac h1 hb,h2⟩,fun h3=>?_,h.fits,h.small⟩
 obtain ⟨cs,h4,h5⟩:=h.row h3
 exact ⟨cs,Ac h4 hb,h5⟩
theorem IsFeed.over {fb bb us:Nat} {bytes:List Int} {w w1:World} {S:Nat→Prop} (h:IsFeed fb bb bytes us w) (ho:Over S w w1) (h1:¬ S fb) (h2:0<bytes.length→¬ S bb):IsFeed fb bb bytes us w1:=by
 obtain ⟨A,cap,h3,h4⟩:=h.head
 refine ⟨⟨A,cap,ho.blk h3 h1,h4⟩,fun h5=>?_,h.fits,h.small⟩
 obtain ⟨cs,h6,h7⟩:=h.row h5
 exact ⟨cs,ho.blk h6 (h2 h5),h7⟩
theorem Se (fb bb us:Nat) (bytes:List Int) (w:World) (h:IsFeed fb bb bytes us w) (hu:us<1000000) :
  Calls Tryz.prog 199 #[Pt fb 0] w fun e w'=>e=.returned (Φ (bytes.getD us 0))∧IsFeed fb bb bytes (us+1) w'∧Over (fun k=>k=fb) w w':=by
 obtain ⟨A,cap,hb,hA⟩:=h.head
 have H:=Az.m h
 have HB:=Az.m hb
 obtain ⟨c0,c1⟩:=bc2 hb
 have f1:=Ab hb 1
 have ew:wrap64 ((us:Int)+1)=(us:Int)+1:=by unfold wrap64;omega
 by_cases hl:us<bytes.length
 .have g0:decide ((bytes.length:Int)<(us:Int)+1)=false:=by rw [decide_eq_false_iff_not];omega
  obtain rfl:=hA Zo
  obtain ⟨cs,h4,h5⟩:=h.row Zo
  have ew2:wrap64 (us:Int)=(us:Int):=by unfold wrap64;omega
  have eb:wrap64 (bytes.getD us 0)=bytes.getD us 0:=by have:=h.small us;unfold wrap64;omega
  have r0:(us<bytes.length)=True:=eq_true hl
  have cb:w.cell? (Ψ bb us)=some (.int .u8 (bytes.getD us 0)):=(Aa h4 us).trans (h5 us hl)
  have HN:=Az.m (An hb h4 Zd)
  have hne:=eq_false HN.o
  have hne2:=eq_false (Ne.symm HN.o)
  have HA:=Az.m (And.intro h4 h5)
  clear h hb hA hl hu h4 h5
  generalize bytes.getD us 0=bv at eb cb ⊢
  go_enter Tryz.func199,Tryz.ntmps199
  go_wp2
  go_region
  all_goals go_wp2
  all_goals go_region
  all_goals go_wp2
  all_goals go_ret
  all_goals exact ⟨by show Ending.returned (Value.int .i64 (wrap64 bv))=_;rw [eb],⟨⟨_,cap,Ae HB.o 1 _ rfl,fun _=>rfl⟩,fun hp=>⟨cs,Av HA.o.1 (Ne.symm HN.o) _,HA.o.2⟩,H.o.fits,H.o.small⟩,((Over.refl (fun k=>k=fb) w).set_ (Or.inl rfl) _).drew.drew⟩
 .have g0:decide ((bytes.length:Int)<(us:Int)+1)=true:=by rw [decide_eq_true_eq];omega
  have HA:=Az.m hA
  have ez:bytes.getD us 0=0:=by simp [List.getD,List.getElem?_eq_none (show bytes.length≤us by omega)]
  rw [ez]
  clear h hb hA hl hu
  go_enter Tryz.func199,Tryz.ntmps199
  go_wp2
  go_region
  all_goals go_wp2
  all_goals go_ret
  all_goals exact ⟨rfl,⟨⟨A,cap,Ae HB.o 1 _ rfl,HA.o⟩,fun hp=>by obtain ⟨cs,h4,h5⟩:=H.o.row hp;exact ⟨cs,Av h4 (An h4 HB.o Zd) _,h5⟩,H.o.fits,H.o.small⟩,((Over.refl (fun k=>k=fb) w).set_ (Or.inl rfl) _).drew⟩
theorem dL (fb bb us:Nat) (bytes:List Int) (n:Int) (w:World) (h:IsFeed fb bb bytes us w) (hu:us<1000000) (hn:1≤n) :
  Calls Tryz.prog 135 #[Pt fb 0,Φ n] w fun e w'=>e=.returned (Φ (bytes.getD us 0 % n))∧IsFeed fb bb bytes (us+1) w'∧Over (fun k=>k=fb) w w':=by
 have H:=Az.m h
 have g0:decide (n<1)=false:=by rw [decide_eq_false_iff_not];omega
 have hs:=h.small us
 have eb:Int.tmod (bytes.getD us 0) n=bytes.getD us 0 % n:=Int.tmod_eq_emod_of_nonneg hs.1
 have nz:(n==0)=false:=by rw [beq_eq_false_iff_ne];omega
 have nz2:n≠0:=Zo
 have EB:=Az.m eb
 clear h eb hs
 go_enter Tryz.func135,Tryz.ntmps135
 go_wp2_with (first|((with_reducible refine Ai (f:=199) rfl ?_);refine Bk (some 8) rfl rfl Tryz.func199 Zk rfl #[Pt fb 0] rfl Λ10 ?_;(with_reducible refine (Se fb bb us bytes _ H.o hu).mono ?_);rintro e w2 ⟨rfl,hm,ho⟩;refine ⟨_,rfl,?_⟩;have O2:=Az.m ho;have H2:=Az.m hm;clear hm ho))
 go_ret
 exact ⟨by show Ending.returned (Value.int .i64 ((bytes[us]?.getD 0).tmod n))=_;rw [← List.getD_eq_getElem?_getD,EB.o],H2.o,O2.o⟩
theorem jN (tb:Nat) (A:Option Addr) (cap:Nat) (w:World) (h:w.cell? (Ψ tb 1)=some (.slice A 0 cap)) :
  Calls Tryz.prog 40 #[Pt tb 0] w fun e w'=>e=.returned (.pointer none)∧Drawn0 w w':=by
 go_enter Tryz.func40,Tryz.ntmps40
 go_wp2
 go_ret
 exact ⟨rfl,by repeat (first|exact Drawn0.refl _|apply Drawn0.step)⟩
theorem gA (tb fb n cap:Nat) (w:World) (h:w.cell? (Ψ tb 1)=some (Tv fb n cap)) (hn:n<1000) :
  Calls Tryz.prog 40 #[Pt tb 0] w fun e w'=>e=.returned (Pt fb (n*12))∧Drawn0 w w':=by
 have g0:(((n+1:Nat):Int)==0)=false:=by rw [beq_eq_false_iff_ne];omega
 have g1:(((n:Nat):Int)+1==0)=false:=by rw [beq_eq_false_iff_ne];omega
 have ew:wrap64 (n:Int)=(n:Int):=by unfold wrap64;omega
 have r0:(n<n+1)=True:=eq_true Zo
 go_enter Tryz.func40,Tryz.ntmps40
 go_wp2
 go_region
 all_goals go_wp2
 all_goals go_ret
 all_goals exact ⟨rfl,⟨⟨1,rfl⟩⟩⟩
theorem Sp (tb fb n cap:Nat) (id r0 r1 r2 pv sv wv rv dv:Value) (w:World) (h:w.heap[tb]?=some (.cells #[id,Tv fb n cap,r0,r1,r2,pv,sv,wv,rv,dv] 104 (0,0))) (hn:n<1000) (hc:n+1≤cap) :
  Calls Tryz.prog 41 #[Pt tb 0,.slice none 0 0] w fun e w'=>e=.returned (.tuple #[])∧w'.heap[tb]?=some (.cells #[id,.slice (some (Ψ fb 0)) n cap,Γ 0,Γ 0,Γ 0,pv,sv,wv,rv,dv] 104 (0,0))∧Over (fun k=>k=tb) w w':=by
 have H:=Az.m h
 have c1:w.cell? (Ψ tb 1)=some (Tv fb n cap):=(Aa h 1).trans rfl
 have c2:w.cell? (Ψ tb 2)=some r0:=(Aa h 2).trans rfl
 have c3:w.cell? (Ψ tb 3)=some r1:=(Aa h 3).trans rfl
 have c4:w.cell? (Ψ tb 4)=some r2:=(Aa h 4).trans rfl
 have f1:=Ab h 1
 have f2:=Ab h 2
 have f3:=Ab h 3
 have f4:=Ab h 4
 have g0:(((n+1:Nat):Int)==0)=false:=by rw [beq_eq_false_iff_ne];omega
 have g1:(((n:Nat):Int)+1==0)=false:=by rw [beq_eq_false_iff_ne];omega
 have ew:wrap64 (n:Int)=(n:Int):=by unfold wrap64;omega
 have e1:(n≤cap)=True:=eq_true Zo
 have hcp:=fun W:World=>run_copy_nil (P:=Tryz.prog) W 78 78 3 82 (Ψ tb 2) 3 3 Tryz.underlying78 Zk
 clear h
 go_enter Tryz.func41,Tryz.ntmps41
 go_wp2
 go_region
 all_goals go_wp2
 all_goals go_end0
 all_goals exact ⟨rfl,Ae (Ae (Ae (Ae H.o 1 _ rfl) 2 _ rfl) 3 _ rfl) 4 _ rfl,(((((Over.refl (fun k=>k=tb) w).set_ (Or.inl rfl) _).set_ (Or.inl rfl) _).set_ (Or.inl rfl) _).set_ (Or.inl rfl) _).drew⟩
theorem So (tb fb n cap:Nat) (id r0 r1 r2 pv sv wv rv dv:Value) (gl:Nat) (v0:Int) (w:World) (hg:w.heap[gl]?=some (.cells #[Γ v0] 82 (0,0))) (h:w.heap[tb]?=some (.cells #[id,Tv fb n cap,r0,r1,r2,pv,sv,wv,rv,dv] 104 (0,0))) (hn:n<1000) (hc:n+1≤cap) :
  Calls Tryz.prog 41 #[Pt tb 0,.slice (some (Ψ gl 0)) 1 1] w fun e w'=>e=.returned (.tuple #[])∧w'.heap[tb]?=some (.cells #[id,.slice (some (Ψ fb 0)) n cap,Γ v0,Γ 0,Γ 0,pv,sv,wv,rv,dv] 104 (0,0))∧Over (fun k=>k=tb) w w':=by
 have H:=Az.m h
 have c1:w.cell? (Ψ tb 1)=some (Tv fb n cap):=(Aa h 1).trans rfl
 have c2:w.cell? (Ψ tb 2)=some r0:=(Aa h 2).trans rfl
 have c3:w.cell? (Ψ tb 3)=some r1:=(Aa h 3).trans rfl
 have c4:w.cell? (Ψ tb 4)=some r2:=(Aa h 4).trans rfl
 have f1:=Ab h 1
 have f2:=Ab h 2
 have f3:=Ab h 3
 have f4:=Ab h 4
 have g0:(((n+1:Nat):Int)==0)=false:=by rw [beq_eq_false_iff_ne];omega
 have g1:(((n:Nat):Int)+1==0)=false:=by rw [beq_eq_false_iff_ne];omega
 have ew:wrap64 (n:Int)=(n:Int):=by unfold wrap64;omega
 have e1:(n≤cap)=True:=eq_true Zo
 have hne:=An hg h Zd
 have B4:=Ae (Ae (Ae (Ae h 1 (.slice (some (Ψ fb 0)) n cap) rfl) 2 (Γ 0) rfl) 3 (Γ 0) rfl) 4 (Γ 0) rfl
 have G4:=Av (p:=(Ψ tb 4)) (Av (p:=(Ψ tb 3)) (Av (p:=(Ψ tb 2)) (Av (p:=(Ψ tb 1)) hg hne (.slice (some (Ψ fb 0)) n cap)) hne (Γ 0)) hne (Γ 0)) hne (Γ 0)
 have hcp:=run_copy_cells (P:=Tryz.prog) (((((w.setCell (Ψ tb 1) (.slice (some (Ψ fb 0)) n cap)).setCell (Ψ tb 2) (Γ 0)).setCell (Ψ tb 3) (Γ 0)).setCell (Ψ tb 4) (Γ 0)).drew) 78 78 3 82 tb 2 3 3 (Ψ gl 0) 1 1 [Γ v0] Tryz.underlying78 Zk rfl
  (fun j v hj=>by rw [Dj];exact (Aa (Bl G4) j).trans (by simpa using hj))
  (fun j hj=>by rw [Aa (Bl B4) (2+j)];have hj2:j<1:=hj;rcases j with _|_|_|j<;>first|rfl|omega) (fun j hj=>Ab (Bl B4) (2+j)) Λ154
 clear hne B4 G4
 clear h hg
 go_enter Tryz.func41,Tryz.ntmps41
 go_wp2
 go_region
 all_goals go_wp2
 all_goals go_end0
 all_goals exact ⟨rfl,Ae (Ae (Ae (Ae (Ae H.o 1 _ rfl) 2 _ rfl) 3 _ rfl) 4 _ rfl) 2 _ rfl,((((((Over.refl (fun k=>k=tb) w).set_ (Or.inl rfl) _).set_ (Or.inl rfl) _).set_ (Or.inl rfl) _).set_ (Or.inl rfl) _).drew).set_ (Or.inl rfl) _⟩
theorem dC (tb fb n cap:Nat) (id r0 r1 r2 pv sv wv rv dv:Value) (gl:Nat) (v0 v1:Int) (w:World) (hg:w.heap[gl]?=some (.cells #[Γ v0,Γ v1] 82 (0,0))) (h:w.heap[tb]?=some (.cells #[id,Tv fb n cap,r0,r1,r2,pv,sv,wv,rv,dv] 104 (0,0))) (hn:n<1000) (hc:n+1≤cap) :
  Calls Tryz.prog 41 #[Pt tb 0,.slice (some (Ψ gl 0)) 2 2] w fun e w'=>e=.returned (.tuple #[])∧w'.heap[tb]?=some (.cells #[id,.slice (some (Ψ fb 0)) n cap,Γ v0,Γ v1,Γ 0,pv,sv,wv,rv,dv] 104 (0,0))∧Over (fun k=>k=tb) w w':=by
 have H:=Az.m h
 have c1:w.cell? (Ψ tb 1)=some (Tv fb n cap):=(Aa h 1).trans rfl
 have c2:w.cell? (Ψ tb 2)=some r0:=(Aa h 2).trans rfl
 have c3:w.cell? (Ψ tb 3)=some r1:=(Aa h 3).trans rfl
 have c4:w.cell? (Ψ tb 4)=some r2:=(Aa h 4).trans rfl
 have f1:=Ab h 1
 have f2:=Ab h 2
 have f3:=Ab h 3
 have f4:=Ab h 4
 have g0:(((n+1:Nat):Int)==0)=false:=by rw [beq_eq_false_iff_ne];omega
 have g1:(((n:Nat):Int)+1==0)=false:=by rw [beq_eq_false_iff_ne];omega
 have ew:wrap64 (n:Int)=(n:Int):=by unfold wrap64;omega
 have e1:(n≤cap)=True:=eq_true Zo
 have hne:=An hg h Zd
 have B4:=Ae (Ae (Ae (Ae h 1 (.slice (some (Ψ fb 0)) n cap) rfl) 2 (Γ 0) rfl) 3 (Γ 0) rfl) 4 (Γ 0) rfl
 have G4:=Av (p:=(Ψ tb 4)) (Av (p:=(Ψ tb 3)) (Av (p:=(Ψ tb 2)) (Av (p:=(Ψ tb 1)) hg hne (.slice (some (Ψ fb 0)) n cap)) hne (Γ 0)) hne (Γ 0)) hne (Γ 0)
 have hcp:=run_copy_cells (P:=Tryz.prog) (((((w.setCell (Ψ tb 1) (.slice (some (Ψ fb 0)) n cap)).setCell (Ψ tb 2) (Γ 0)).setCell (Ψ tb 3) (Γ 0)).setCell (Ψ tb 4) (Γ 0)).drew) 78 78 3 82 tb 2 3 3 (Ψ gl 0) 2 2 [Γ v0,Γ v1] Tryz.underlying78 Zk rfl
  (fun j v hj=>by rw [Dj];exact (Aa (Bl G4) j).trans (by simpa using hj))
  (fun j hj=>by rw [Aa (Bl B4) (2+j)];have hj2:j<2:=hj;rcases j with _|_|_|j<;>first|rfl|omega) (fun j hj=>Ab (Bl B4) (2+j)) Λ154
 clear hne B4 G4
 clear h hg
 go_enter Tryz.func41,Tryz.ntmps41
 go_wp2
 go_region
 all_goals go_wp2
 all_goals go_end0
 all_goals exact ⟨rfl,Ae (Ae (Ae (Ae (Ae (Ae H.o 1 _ rfl) 2 _ rfl) 3 _ rfl) 4 _ rfl) 2 _ rfl) 3 _ rfl,(((((((Over.refl (fun k=>k=tb) w).set_ (Or.inl rfl) _).set_ (Or.inl rfl) _).set_ (Or.inl rfl) _).set_ (Or.inl rfl) _).drew).set_ (Or.inl rfl) _).set_ (Or.inl rfl) _⟩
theorem dB (tb fb n cap:Nat) (id r0 r1 r2 pv sv wv rv dv:Value) (gl:Nat) (v0 v1 v2:Int) (w:World) (hg:w.heap[gl]?=some (.cells #[Γ v0,Γ v1,Γ v2] 82 (0,0))) (h:w.heap[tb]?=some (.cells #[id,Tv fb n cap,r0,r1,r2,pv,sv,wv,rv,dv] 104 (0,0))) (hn:n<1000) (hc:n+1≤cap) :
  Calls Tryz.prog 41 #[Pt tb 0,.slice (some (Ψ gl 0)) 3 3] w fun e w'=>e=.returned (.tuple #[])∧w'.heap[tb]?=some (.cells #[id,.slice (some (Ψ fb 0)) n cap,Γ v0,Γ v1,Γ v2,pv,sv,wv,rv,dv] 104 (0,0))∧Over (fun k=>k=tb) w w':=by
 have H:=Az.m h
 have c1:w.cell? (Ψ tb 1)=some (Tv fb n cap):=(Aa h 1).trans rfl
 have c2:w.cell? (Ψ tb 2)=some r0:=(Aa h 2).trans rfl
 have c3:w.cell? (Ψ tb 3)=some r1:=(Aa h 3).trans rfl
 have c4:w.cell? (Ψ tb 4)=some r2:=(Aa h 4).trans rfl
 have f1:=Ab h 1
 have f2:=Ab h 2
 have f3:=Ab h 3
 have f4:=Ab h 4
 have g0:(((n+1:Nat):Int)==0)=false:=by rw [beq_eq_false_iff_ne];omega
 have g1:(((n:Nat):Int)+1==0)=false:=by rw [beq_eq_false_iff_ne];omega
 have ew:wrap64 (n:Int)=(n:Int):=by unfold wrap64;omega
 have e1:(n≤cap)=True:=eq_true Zo
 have hne:=An hg h Zd
 have B4:=Ae (Ae (Ae (Ae h 1 (.slice (some (Ψ fb 0)) n cap) rfl) 2 (Γ 0) rfl) 3 (Γ 0) rfl) 4 (Γ 0) rfl
 have G4:=Av (p:=(Ψ tb 4)) (Av (p:=(Ψ tb 3)) (Av (p:=(Ψ tb 2)) (Av (p:=(Ψ tb 1)) hg hne (.slice (some (Ψ fb 0)) n cap)) hne (Γ 0)) hne (Γ 0)) hne (Γ 0)
 have hcp:=run_copy_cells (P:=Tryz.prog) (((((w.setCell (Ψ tb 1) (.slice (some (Ψ fb 0)) n cap)).setCell (Ψ tb 2) (Γ 0)).setCell (Ψ tb 3) (Γ 0)).setCell (Ψ tb 4) (Γ 0)).drew) 78 78 3 82 tb 2 3 3 (Ψ gl 0) 3 3 [Γ v0,Γ v1,Γ v2] Tryz.underlying78 Zk rfl
  (fun j v hj=>by rw [Dj];exact (Aa (Bl G4) j).trans (by simpa using hj))
  (fun j hj=>by rw [Aa (Bl B4) (2+j)];have hj2:j<3:=hj;rcases j with _|_|_|j<;>first|rfl|omega) (fun j hj=>Ab (Bl B4) (2+j)) Λ154
 clear hne B4 G4
 clear h hg
 go_enter Tryz.func41,Tryz.ntmps41
 go_wp2
 go_region
 all_goals go_wp2
 all_goals go_end0
 all_goals exact ⟨rfl,Ae (Ae (Ae (Ae (Ae (Ae (Ae H.o 1 _ rfl) 2 _ rfl) 3 _ rfl) 4 _ rfl) 2 _ rfl) 3 _ rfl) 4 _ rfl,((((((((Over.refl (fun k=>k=tb) w).set_ (Or.inl rfl) _).set_ (Or.inl rfl) _).set_ (Or.inl rfl) _).set_ (Or.inl rfl) _).drew).set_ (Or.inl rfl) _).set_ (Or.inl rfl) _).set_ (Or.inl rfl) _⟩
end
end Go.Proofs.YtlejhikddkdanaaGreat.Wk
namespace Go.Proofs.YtlejhikddkdanaaGreat.Fns
open PTopSame
open RowKit YtlejhikddkdanaaGreatW.PrintWords YtlejhikddkdanaaGreatW.PrintLast YtlejhikddkdanaaGreatW.PrintMore
section
attribute [local go_sem] Cs Cq De Dd Cj Ci Cr Cp
theorem eH {a b:Int} (h:a=b):(a==b)=true∧(a != b)=false:=⟨beq_iff_eq.2 h,by simp [h]⟩
theorem eG {a b:Int} (h:¬ a=b):(a==b)=false∧(a != b)=true:=⟨beq_eq_false_iff_ne.2 h,by simp [h]⟩
theorem wB {a b:Int} (h:a<b):(a<b)=True∧(b≤a)=False:=⟨eq_true h,eq_false Zo⟩
theorem uL {a b:Int} (h:¬ a<b):(a<b)=False∧(b≤a)=True:=⟨eq_false h,eq_true Zo⟩
theorem wC {a b:Int} (h:a≤b):(a≤b)=True∧(b<a)=False:=⟨eq_true h,eq_false Zo⟩
theorem uM {a b:Int} (h:¬ a≤b):(a≤b)=False∧(b<a)=True:=⟨eq_false h,eq_true Zo⟩
theorem f_b {b:Bool} (h:¬ b=true):b=false:=by simpa using h
theorem f_t {p:Prop} (h:p):p=True:=eq_true h
theorem f_f {p:Prop} (h:¬ p):p=False:=eq_false h
theorem iJ {w:World} {P:Program} {n:FuncId} {args:Array Value} {R:Ending→World→Prop} (h:Calls P n args w R):Calls P n args w R:=h
theorem Gi (w:World) (n:Nat):(w.drewN n).heap.size=w.heap.size:=rfl
theorem vR {W:World} {g:Nat} {x:S145} (h:W.cell? (Ψ g 0)=some (Φ x.f0)∧W.cell? (Ψ g 1)=some (Φ x.f1)∧W.cell? (Ψ g 2)=some (Φ x.f2)):Kd.C k145 W (some (Ψ g 0)) 1 [x]:=by
 refine ⟨rfl,Zd,fun _=>⟨_,rfl,fun j p e=>?_⟩⟩
 rcases j with _|j
 .cases e
  refine ⟨_,rfl,Xn _ _,fun i u e=>?_⟩
  rcases i with _|_|_|i<;>cases e
  .exact h.1
  .exact h.2.1
  .exact h.2.2
 .cases e
theorem vQ {W:World} {g:Nat} {x y:S145} (h:W.cell? (Ψ g 0)=some (Φ x.f0)∧W.cell? (Ψ g 1)=some (Φ x.f1)∧W.cell? (Ψ g 2)=some (Φ x.f2)∧W.cell? (Ψ g 3)=some (Φ y.f0)∧W.cell? (Ψ g 4)=some (Φ y.f1)∧W.cell? (Ψ g 5)=some (Φ y.f2)):Kd.C k145 W (some (Ψ g 0)) 2 [x,y]:=by
 refine ⟨rfl,Zd,fun _=>⟨_,rfl,fun j p e=>?_⟩⟩
 rcases j with _|_|j
 .cases e
  refine ⟨_,rfl,Xn _ _,fun i u e=>?_⟩
  rcases i with _|_|_|i<;>cases e
  .exact h.1
  .exact h.2.1
  .exact h.2.2.1
 .cases e
  refine ⟨_,rfl,Xn _ _,fun i u e=>?_⟩
  rcases i with _|_|_|i<;>cases e
  .exact h.2.2.2.1
  .exact h.2.2.2.2.1
  .exact h.2.2.2.2.2
 .cases e
theorem vS {W:World} {g:Nat} {x:Int} (h:W.cell? (Ψ g 0)=some (Γ x)):Kd.C (Kd.int .u64) W (some (Ψ g 0)) 1 [x]:=by
 refine ⟨rfl,Zd,fun _=>⟨_,rfl,fun j p e=>?_⟩⟩
 rcases j with _|j
 .cases e
  refine ⟨_,rfl,rfl,fun i u e=>?_⟩
  rcases i with _|i<;>cases e
  exact h
 .cases e
theorem HR {p:Prop} (h:p:=by first|(refine vR ⟨?_,?_,?_⟩<;>go_simp)|(refine vQ ⟨?_,?_,?_,?_,?_,?_⟩<;>go_simp)|(refine vS ?_;go_simp)):p:=h
theorem FK {p:Prop} (h:p:=by first|exact eH k|exact eG k|exact wB k|exact uL k|exact wC k|exact uM k|exact (k:_=true)|exact f_b k|exact f_f k|exact f_t k):p:=h
theorem FB {p:Prop} (h:p:=by repeat (first|exact Drawn0.refl _|apply Drawn0.step|exact Below.refl _ _|apply Af|apply Bu|apply At|(refine Ag ?_ ‹Below _ _ _›)|(refine Aq ?_ (by first|exact Nat.le_refl _|assumption|omega)))):p:=h
theorem SZ {p:Prop} (h:p:=by (try dsimp only);(try simp only [World.size_alloc,World.size_drew,World.size_setCell,Gi]);(try simp only [World.size_alloc,World.size_drew,World.size_setCell,Gi] at hs);omega):p:=h
theorem lN {w:World} {P:Program} {id:Nat} {ops:Array Oper} {Q:Exit→Act→World→Prop} {a:Act} (h:(Code.region id ops true).wp P Q a w):(Code.region id ops true).wp P Q a w:=h
theorem BLK {p:Prop} (h:p:=by with_reducible repeat (first|exact Cc _ _|(have e:=fun o o2=>Cc (w.alloc o) o2;simp only [World.size_alloc] at e;exact e _ _)|refine Ba ?_ _|refine Bl ?_|refine Cg ?_ _|refine (Below.block Za _ SZ).trans ?_)):p:=h
theorem VAL {p:Prop} (h:p:=by first|rfl|(simp;done)|(simp [*];done)|(simp [Act.put,Ou];done)):p:=h
theorem FE {p:Prop} (h:p:=by go_wp2_with (first|((with_reducible refine iJ ?_);go_must ((with_reducible apply Calls.mono);(case h=>exact KF);first|rintro e w2 ⟨rfl,⟨nd,rfl⟩⟩|(rintro e w2 ⟨rfl,hb⟩;have hs:=Bz hb;(try simp only [World.size_alloc,World.size_drew,World.size_setCell,Gi] at hs);(try have c0:=fun i=>hb.cell (p:=(Ψ w.heap.size i)) SZ);(try have d0:=fun i=>hb.frozen (p:=(Ψ w.heap.size i)) SZ);(try have c1:=fun i=>hb.cell (p:=(Ψ (w.heap.size+1) i)) SZ);(try have d1:=fun i=>hb.frozen (p:=(Ψ (w.heap.size+1) i)) SZ);(try have c2:=fun i=>hb.cell (p:=(Ψ (w.heap.size+1+1) i)) SZ);(try have d2:=fun i=>hb.frozen (p:=(Ψ (w.heap.size+1+1) i)) SZ);(try have c3:=fun i=>hb.cell (p:=(Ψ (w.heap.size+1+1+1) i)) SZ);(try have d3:=fun i=>hb.frozen (p:=(Ψ (w.heap.size+1+1+1) i)) SZ))))|((with_reducible refine lN ?_);first|go_quiet (fail)|go_region_with (((with_reducible refine iJ ?_);go_must ((with_reducible apply Calls.mono);(case h=>exact KF);first|rintro e w2 ⟨rfl,⟨nd,rfl⟩⟩|(rintro e w2 ⟨rfl,hb⟩;have hs:=Bz hb;(try simp only [World.size_alloc,World.size_drew,World.size_setCell,Gi] at hs);(try have c0:=fun i=>hb.cell (p:=(Ψ w.heap.size i)) SZ);(try have d0:=fun i=>hb.frozen (p:=(Ψ w.heap.size i)) SZ);(try have c1:=fun i=>hb.cell (p:=(Ψ (w.heap.size+1) i)) SZ);(try have d1:=fun i=>hb.frozen (p:=(Ψ (w.heap.size+1) i)) SZ);(try have c2:=fun i=>hb.cell (p:=(Ψ (w.heap.size+1+1) i)) SZ);(try have d2:=fun i=>hb.frozen (p:=(Ψ (w.heap.size+1+1) i)) SZ);(try have c3:=fun i=>hb.cell (p:=(Ψ (w.heap.size+1+1+1) i)) SZ);(try have d3:=fun i=>hb.frozen (p:=(Ψ (w.heap.size+1+1+1) i)) SZ)))))));all_goals (repeat (go_quiet (fail);try go_wp2));all_goals (first|go_ret|go_ret2|go_ret3);all_goals exact ⟨VAL,FB⟩):p:=h
theorem FD {p:Prop} (h:p:=by go_wp2_with (first|((with_reducible refine iJ ?_);go_must ((with_reducible apply Calls.mono);(case h=>exact KF);first|rintro e w2 ⟨rfl,⟨nd,rfl⟩⟩|(rintro e w2 ⟨rfl,hb⟩;have hs:=Bz hb;(try simp only [World.size_alloc,World.size_drew,World.size_setCell,Gi] at hs);(try have c0:=fun i=>hb.cell (p:=(Ψ w.heap.size i)) SZ);(try have d0:=fun i=>hb.frozen (p:=(Ψ w.heap.size i)) SZ);(try have c1:=fun i=>hb.cell (p:=(Ψ (w.heap.size+1) i)) SZ);(try have d1:=fun i=>hb.frozen (p:=(Ψ (w.heap.size+1) i)) SZ);(try have c2:=fun i=>hb.cell (p:=(Ψ (w.heap.size+1+1) i)) SZ);(try have d2:=fun i=>hb.frozen (p:=(Ψ (w.heap.size+1+1) i)) SZ);(try have c3:=fun i=>hb.cell (p:=(Ψ (w.heap.size+1+1+1) i)) SZ);(try have d3:=fun i=>hb.frozen (p:=(Ψ (w.heap.size+1+1+1) i)) SZ))))|((with_reducible refine lN ?_);first|go_quiet (fail)|go_region_with (((with_reducible refine iJ ?_);go_must ((with_reducible apply Calls.mono);(case h=>exact KF);first|rintro e w2 ⟨rfl,⟨nd,rfl⟩⟩|(rintro e w2 ⟨rfl,hb⟩;have hs:=Bz hb;(try simp only [World.size_alloc,World.size_drew,World.size_setCell,Gi] at hs);(try have c0:=fun i=>hb.cell (p:=(Ψ w.heap.size i)) SZ);(try have d0:=fun i=>hb.frozen (p:=(Ψ w.heap.size i)) SZ);(try have c1:=fun i=>hb.cell (p:=(Ψ (w.heap.size+1) i)) SZ);(try have d1:=fun i=>hb.frozen (p:=(Ψ (w.heap.size+1) i)) SZ);(try have c2:=fun i=>hb.cell (p:=(Ψ (w.heap.size+1+1) i)) SZ);(try have d2:=fun i=>hb.frozen (p:=(Ψ (w.heap.size+1+1) i)) SZ);(try have c3:=fun i=>hb.cell (p:=(Ψ (w.heap.size+1+1+1) i)) SZ);(try have d3:=fun i=>hb.frozen (p:=(Ψ (w.heap.size+1+1+1) i)) SZ)))))));all_goals (repeat (go_quiet (fail);try go_wp2));all_goals (exact EN)):p:=h
theorem HB_ {p:Prop} (h:p:=by first|exact Cc _ _|exact Ae (Ae (Cc _ _) 0 _ rfl) 1 _ rfl|(simp [World.alloc,World.setCell,World.drew,World.drewN];done)):p:=h
theorem FO {p:Prop} (h:p:=by (iterate 24 (all_goals (try (first|(rw [Option.bind_eq_some_iff] at h;obtain ⟨_,_,h⟩:=h)|(split at h<;>rename_i k<;>first|(have k2:_=true:=k;subst k2)|(have k2:=f_b k;subst k2)|have:=FK)))));all_goals (cases h<;>exact F1)):p:=h
theorem MO {p:Prop} (h:p:=by repeat' first|(with_reducible exact ih0 _ _ _)|(with_reducible exact LeO.refl _)|(with_reducible exact LeO.none _)|(with_reducible refine LeO.ite ?_ ?_)|(with_reducible refine LeO.bind ?_ (fun _=>?_))|exact LeO.none _|refine LeO.ite ?_ ?_|refine LeO.bind ?_ (fun _=>?_)):p:=h
theorem KF {p:Prop} (h:p:=by first|(go_at_call 64;with_reducible first|exact Vp Za HR Zd|exact Rk Za HR Zd)|(go_at_call 35;with_reducible exact plan_Plan_Size.calls _ _ _ _ _ _ _ _ _ _ _ _ _ _ _ _ _ Za)|(go_at_call 39;with_reducible exact plan_Plan_Sentinels.calls _ _ _ _ _ _ _ _ _ _ _ _ _ _ _ _ _ Za)|(go_at_call 65;with_reducible exact plan_Plan_Conf.calls _ _ _ _ _ _ _ _ _ _ _ _ _ _ _ _ _ _ _ _ _ _ _ Za)|(go_at_call 195;with_reducible exact wA Za HR Zd)|(go_at_call 196;with_reducible exact word_pack.calls _ _ _ _ _ Za)|(go_at_call 126;with_reducible exact word_Make.calls _ _ _ _ _ _ _ Za)|(go_at_call 67;with_reducible exact core_link.calls _ _ _ _ Za)|(go_at_call 68;with_reducible exact plan_Plan_Link.calls _ _ _ _ _ _ _ _ _ _ _ _ _ _ _ _ _ _ _ Za)|(go_at_call 69;with_reducible exact plan_Plan_Node.calls _ _ _ _ _ _ _ _ _ _ _ _ _ _ _ _ _ _ _ _ Za)|(go_at_call 127;with_reducible exact plan_Plan_Tree.calls _ _ _ _ _ _ _ _ _ _ _ _ _ _ _ _ _ _ Za)|(go_at_call 72;with_reducible exact word_Word_Ptr.calls _ _ _ Za)|(go_at_call 136;with_reducible exact tree_Leaves.calls _ _ _ Za)|(go_at_call 133;with_reducible exact tree_Leaf.calls _ _ _ _ Za)|(go_at_call 138;with_reducible exact path_New.calls _ _ _ _ Za)|(go_at_call 141;with_reducible exact path_Span_Done.calls _ _ _ _ Za)|(go_at_call 206;with_reducible exact tree_right.calls _ _ _ Za)|(go_at_call 228;with_reducible exact bits_Len.calls _ _ _ _ Za)|(go_at_call 221;with_reducible exact tree_Level.calls _ _ _ _ Za)|(go_at_call 201;with_reducible exact tree_Up.calls _ _ _ _ _ Za)|(go_at_call 202;with_reducible exact path_clip.calls _ _ _ Za)|(go_at_call 143;with_reducible exact path_Span_Mid.calls _ _ _ _ Za)|(go_at_call 144;with_reducible exact path_Span_Cut.calls _ _ _ _ _ _ Za)|(go_at_call 57;with_reducible exact call_Right.calls _ _ _ _ _ Za)|(go_at_call 32;with_reducible exact jostleref06_Sentinels.calls _ _ _ _ _ _ _ _ _ Za)|(go_at_call 13;with_reducible exact jostleref06_Right.calls _ _ _ _ _ _ _ _ _ _ Za)|(go_at_call 6;with_reducible exact jostletop_of.calls _ _ _ _ _ _ _ _ _ _ _ _ _ _ _ _ _ _ Za)|(go_at_call 9;with_reducible exact jostleref09_Right.calls _ _ _ _ _ Za)|(go_at_call 146;with_reducible exact word_Word_Mark.calls _ _ _ Za)|(go_at_call 204;with_reducible exact word_Word_Ver.calls _ _ _ Za)|(go_at_call 148;with_reducible exact word_Word_Next.calls _ _ _ _ _ Za)|(go_at_call 150;with_reducible exact tree_Inner.calls _ _ _ _ Za)|(go_at_call 151;with_reducible exact hazard_ptr.calls _ _ _ Za)|(go_at_call 152;with_reducible exact plan_Plan_Hazard.calls _ _ _ _ _ _ _ _ _ _ _ _ _ _ _ _ _ _ _ _ Za)|(go_at_call 153;with_reducible exact plan_Plan_Slots.calls _ _ _ _ _ _ _ _ _ _ _ _ _ _ _ _ _ Za)|(go_at_call 212;with_reducible exact arena_ptr.calls _ _ _ Za)|(go_at_call 169;with_reducible exact ord_Make.calls _ _ _ _ Za)|(go_at_call 172;with_reducible exact ord_Pack.calls _ _ _ _ Za)|(go_at_call 175;with_reducible exact sundell_mark.calls _ _ _ Za)|(go_at_call 176;with_reducible exact sundell_ptr.calls _ _ _ Za)|(go_at_call 178;with_reducible exact ord_Gone.calls _ _ _ Za)|(go_at_call 194;with_reducible exact ord_Key.calls _ _ _ Za)|(go_at_call 218;with_reducible exact ord_Val.calls _ _ _ Za)|(go_at_call 180;with_reducible exact ord_Bury.calls _ _ _ Za)|(go_at_call 181;with_reducible exact word_Word_Marked.calls _ _ _ Za)|(go_at_call 110;with_reducible exact linden_mark.calls _ _ _ Za)|(go_at_call 109;with_reducible exact linden_ptr.calls _ _ _ Za)|(go_at_call 197;with_reducible exact plan_Plan_Where.calls _ _ _ _ _ _ _ _ _ _ _ _ _ _ _ _ _ _ _ _ _ Za)|(go_at_call 59;with_reducible exact jostleref09_May.calls _ _ _ _ _ Za)|(go_at_call 20;with_reducible exact jostleref12_Fits.calls _ _ _ _ _ _ _ _ Za)|(go_at_call 21;exact jostleref13_Least.calls _ _ _ _ _ _ _ HR (Nat.le_refl _) Za)|(go_at_call 22;exact jostleref13_Count.calls _ _ _ _ _ _ _ _ HR (Nat.le_refl _) Za)|(go_at_call 23;exact jostleref13_Without.calls _ _ _ _ _ _ _ _ HR (Nat.le_refl _) Za)|(go_at_call 11;with_reducible exact jostleref13_Do.calls _ _ _ _ _ _ _ _ _ _ _ _ _ _ Za)):p:=h
def plan_within.l0:Nat→List (S145)→Int→Int→Option (Bool)
 |0,_,_,_=>none
 |k+1,x5,x6,x7=>if x7<x6 then (if 0≤x7 then (if x7<(x5.length:Int) then (if ((Dn x5 x7).f0)<((Dn x5 x7).f1) then (some false) else (if ((Dn x5 x7).f0)>((Dn x5 x7).f2) then (some false) else (plan_within.l0 k x5 x6 (wrap64 (x7+1))))) else (none)) else (none)) else (some true)
def plan_within.f (k:Nat) (l0:List (S145)):Option (Bool):=plan_within.l0 k l0 (l0.length:Int) 0
theorem plan_within.calls (k:Nat) (A0:Option Addr) (c0:Nat) (l0:List (S145)) (r:Bool) (w:World) (hr0:Kd.C k145 w A0 l0.length l0) (hc0:l0.length≤c0) (h:plan_within.f k l0=some r) :
  Calls Tryz.prog 64 #[.slice A0 l0.length c0] w fun e w'=>e=.returned (.bool r)∧Below w.heap.size w w':=by
 have hu145:=Tryz.underlying145
 have HR0:=Az.m hr0
 have HC0:=Az.m hc0
 clear hr0 hc0
 have HB:=Az.m (Below.refl w.heap.size w)
 have H:(plan_within.l0 k l0 (l0.length:Int) 0)=some r:=h
 clear h
 have H':=Az.m H
 clear H
 go_enter Tryz.func64,Tryz.ntmps64
 go_wp2
 go_loopg [7] k (fun kq v7 w'=>∃ (x7_1:Int),v7=Φ x7_1∧Az (plan_within.l0 kq l0 (l0.length:Int) x7_1=some r)∧Az (kq≤k)∧Az (Below w.heap.size w w'))
 case atStart=>exact ⟨(0),Λ46,H',⟨Nat.le_refl _⟩,⟨by repeat (first|(with_reducible first|exact HB.o|apply Af|apply At|apply Bu)|exact HB.o)⟩⟩
 case round=>
  clear H'
  obtain ⟨x7_1,rfl,HA,HK1,HB⟩:=hrel
  cases gk with
  |zero=>exact absurd HA.o (by simp [plan_within.l0])
  |succ k1=>
   have H:=HA.o
   clear HA
   simp only [plan_within.l0] at H
   by_cases c2:x7_1<(l0.length:Int)
   .rw [if_pos c2] at H
    have c2b0:decide (x7_1<(l0.length:Int))=true:=decide_eq_true c2
    clear c2
    by_cases c3:0≤x7_1
    .rw [if_pos c3] at H
     have c3b0:decide (0≤x7_1)=true:=decide_eq_true c3
     clear c3
     by_cases c4:x7_1<(l0.length:Int)
     .rw [if_pos c4] at H
      have c4b0:decide (x7_1<(l0.length:Int))=true:=decide_eq_true c4
      clear c4
      by_cases c5:((Dn l0 x7_1).f0)<((Dn l0 x7_1).f1)
      .rw [if_pos c5] at H
       have c5b0:decide (((Dn l0 x7_1).f0)<((Dn l0 x7_1).f1))=true:=decide_eq_true c5
       clear c5
       obtain rfl:=Option.some.inj H
       have p101:0≤(x7_1:Int):=of_decide_eq_true Λ27
       have q101:x7_1<(l0.length:Int):=of_decide_eq_true Λ27
       obtain ⟨ad101,e101,hx101_0,hx101_1,hx101_2⟩:=Xx HR0.o x7_1 p101 q101
       cases e101
       replace hx101_0:=(HB.o.cell (World.block_lt_of_cell? w _ hx101_0)).trans hx101_0
       replace hx101_1:=(HB.o.cell (World.block_lt_of_cell? w _ hx101_1)).trans hx101_1
       replace hx101_2:=(HB.o.cell (World.block_lt_of_cell? w _ hx101_2)).trans hx101_2
       replace p101:=eq_true p101
       replace q101:=eq_true q101
       go_wp2_with (first|((with_reducible refine Al (N:=4) rfl ?_);refine Am ?hg (N:=4) ?hd (cs:=#[Φ 0,Φ 0,Φ 0]) (t:=145) ?hr ?_;(case hd=>rfl);(case hg=>rfl);(case hr=>exact Λ18);intro gb102 hg w6 hbox hb;have n0_:=Az.m (Ag Λ134 hb);have n1_:=Az.m (hbox);have n2_:=Az.m ((by rw [hg];exact (Bz Λ134):w.heap.size≤gb102));have n3_:=Az.m ((by rw [hg];exact (Bz Λ134):w.heap.size≤gb102));clear HB;have HB:=n0_;have BK102:=n1_;have GW102:=n2_;have GE102:=n3_;clear n0_ n1_ n2_ n3_;clear hb hbox hg;obtain ⟨hcz7_0,hcz7_1,hcz7_2⟩:=bc3 BK102.o;have hfz7_0:=Ab BK102.o))
       go_ret
       exact ⟨by first|rfl|(simp [errW_none,errW_some]<;>rfl)|(simp [*,errW_none,errW_some]<;>rfl),by repeat (first|(with_reducible first|exact HB.o|apply Af|apply At|apply Bu|refine Aq ?_ GE102.o)|exact HB.o)⟩
      .rw [if_neg c5] at H
       have c5b0:decide (((Dn l0 x7_1).f0)<((Dn l0 x7_1).f1))=false:=decide_eq_false c5
       clear c5
       by_cases c8:((Dn l0 x7_1).f0)>((Dn l0 x7_1).f2)
       .rw [if_pos c8] at H
        have c8b0:decide (((Dn l0 x7_1).f2)<((Dn l0 x7_1).f0))=true:=decide_eq_true c8
        clear c8
        obtain rfl:=Option.some.inj H
        have p101:0≤(x7_1:Int):=of_decide_eq_true Λ27
        have q101:x7_1<(l0.length:Int):=of_decide_eq_true Λ27
        obtain ⟨ad101,e101,hx101_0,hx101_1,hx101_2⟩:=Xx HR0.o x7_1 p101 q101
        cases e101
        replace hx101_0:=(HB.o.cell (World.block_lt_of_cell? w _ hx101_0)).trans hx101_0
        replace hx101_1:=(HB.o.cell (World.block_lt_of_cell? w _ hx101_1)).trans hx101_1
        replace hx101_2:=(HB.o.cell (World.block_lt_of_cell? w _ hx101_2)).trans hx101_2
        replace p101:=eq_true p101
        replace q101:=eq_true q101
        go_wp2_with (first|((with_reducible refine Al (N:=4) rfl ?_);refine Am ?hg (N:=4) ?hd (cs:=#[Φ 0,Φ 0,Φ 0]) (t:=145) ?hr ?_;(case hd=>rfl);(case hg=>rfl);(case hr=>exact Λ18);intro gb102 hg w9 hbox hb;have n0_:=Az.m (Ag Λ134 hb);have n1_:=Az.m (hbox);have n2_:=Az.m ((by rw [hg];exact (Bz Λ134):w.heap.size≤gb102));have n3_:=Az.m ((by rw [hg];exact (Bz Λ134):w.heap.size≤gb102));clear HB;have HB:=n0_;have BK102:=n1_;have GW102:=n2_;have GE102:=n3_;clear n0_ n1_ n2_ n3_;clear hb hbox hg;obtain ⟨hcz10_0,hcz10_1,hcz10_2⟩:=bc3 BK102.o;have hfz10_0:=Ab BK102.o))
        go_ret
        exact ⟨by first|rfl|(simp [errW_none,errW_some]<;>rfl)|(simp [*,errW_none,errW_some]<;>rfl),by repeat (first|(with_reducible first|exact HB.o|apply Af|apply At|apply Bu|refine Aq ?_ GE102.o)|exact HB.o)⟩
       .rw [if_neg c8] at H
        have c8b0:decide (((Dn l0 x7_1).f2)<((Dn l0 x7_1).f0))=false:=decide_eq_false c8
        clear c8
        have H':=Az.m H
        clear H
        have p101:0≤(x7_1:Int):=of_decide_eq_true Λ27
        have q101:x7_1<(l0.length:Int):=of_decide_eq_true Λ27
        obtain ⟨ad101,e101,hx101_0,hx101_1,hx101_2⟩:=Xx HR0.o x7_1 p101 q101
        cases e101
        replace hx101_0:=(HB.o.cell (World.block_lt_of_cell? w _ hx101_0)).trans hx101_0
        replace hx101_1:=(HB.o.cell (World.block_lt_of_cell? w _ hx101_1)).trans hx101_1
        replace hx101_2:=(HB.o.cell (World.block_lt_of_cell? w _ hx101_2)).trans hx101_2
        replace p101:=eq_true p101
        replace q101:=eq_true q101
        go_wp2_with (first|((with_reducible refine Al (N:=4) rfl ?_);refine Am ?hg (N:=4) ?hd (cs:=#[Φ 0,Φ 0,Φ 0]) (t:=145) ?hr ?_;(case hd=>rfl);(case hg=>rfl);(case hr=>exact Λ18);intro gb102 hg w11 hbox hb;have n0_:=Az.m (Ag Λ134 hb);have n1_:=Az.m (hbox);have n2_:=Az.m ((by rw [hg];exact (Bz Λ134):w.heap.size≤gb102));have n3_:=Az.m ((by rw [hg];exact (Bz Λ134):w.heap.size≤gb102));clear HB;have HB:=n0_;have BK102:=n1_;have GW102:=n2_;have GE102:=n3_;clear n0_ n1_ n2_ n3_;clear hb hbox hg;obtain ⟨hcz12_0,hcz12_1,hcz12_2⟩:=bc3 BK102.o;have hfz12_0:=Ab BK102.o))
        go_roundg k1
        case measure=>have:=HK1.o;omega
        case rel=>exact ⟨(wrap64 (x7_1+1)),Λ46,H',⟨by have:=HK1.o;omega⟩,⟨by repeat (first|(with_reducible first|exact HB.o|apply Af|apply At|apply Bu|refine Aq ?_ GE102.o)|exact HB.o)⟩⟩
     .rw [if_neg c4] at H
      exact absurd H Zs
    .rw [if_neg c3] at H
     exact absurd H Zs
   .rw [if_neg c2] at H
    have c2b0:decide (x7_1<(l0.length:Int))=false:=decide_eq_false c2
    clear c2
    obtain rfl:=Option.some.inj H
    go_wp2
    go_ret
    exact ⟨by first|rfl|(simp [errW_none,errW_some]<;>rfl)|(simp [*,errW_none,errW_some]<;>rfl),by repeat (first|(with_reducible first|exact HB.o|apply Af|apply At|apply Bu)|exact HB.o)⟩
theorem Vp {k:Nat} {A:Option Addr} {c:Nat} {x:S145} {r:Bool} {w:World} (h:plan_within.f k [x]=some r) (hr:Kd.C k145 w A 1 [x]) (hc:1≤c):Calls Tryz.prog 64 #[.slice A 1 c] w fun e w'=>e=.returned (.bool r)∧Below w.heap.size w w':=plan_within.calls k A c [x] r w hr hc h
theorem Rk {k:Nat} {A:Option Addr} {c:Nat} {x y:S145} {r:Bool} {w:World} (h:plan_within.f k [x,y]=some r) (hr:Kd.C k145 w A 2 [x,y]) (hc:2≤c):Calls Tryz.prog 64 #[.slice A 2 c] w fun e w'=>e=.returned (.bool r)∧Below w.heap.size w w':=plan_within.calls k A c [x,y] r w hr hc h
def plan_Plan_Size.f (db da dc dd de df dg dh dj dl dm dn dp dk di:Int):Option (Int):=some di
namespace Y35
theorem F1 {p:Prop} (h:p:=by go_enter Tryz.func35,Tryz.ntmps35;exact FE):p:=h
end Y35
open Y35 in
theorem plan_Plan_Size.calls (db da dc dd de df dg dh dj dl dm dn dp dk di r:Int) (w:World) (h:plan_Plan_Size.f db da dc dd de df dg dh dj dl dm dn dp dk di=some r) :
  Calls Tryz.prog 35 #[.agg #[Φ db,Φ da,Φ dc,Φ dd,Φ de,Φ df,Φ dg,Φ dh,Φ dj,Φ dl,Φ dm,Φ dn,Φ dp,Φ dk,Φ di]] w fun e w'=>e=.returned (Φ r)∧Below w.heap.size w w':=by
 unfold plan_Plan_Size.f at h
 exact FO
def plan_Plan_Sentinels.f (db da dc dd de df dg dh dj dl dm dn dp dk di:Int):Option (Int):=some dl
namespace Y39
theorem F1 {p:Prop} (h:p:=by go_enter Tryz.func39,Tryz.ntmps39;exact FE):p:=h
end Y39
open Y39 in
theorem plan_Plan_Sentinels.calls (db da dc dd de df dg dh dj dl dm dn dp dk di r:Int) (w:World) (h:plan_Plan_Sentinels.f db da dc dd de df dg dh dj dl dm dn dp dk di=some r) :
  Calls Tryz.prog 39 #[.agg #[Φ db,Φ da,Φ dc,Φ dd,Φ de,Φ df,Φ dg,Φ dh,Φ dj,Φ dl,Φ dm,Φ dn,Φ dp,Φ dk,Φ di]] w fun e w'=>e=.returned (Φ r)∧Below w.heap.size w w':=by
 unfold plan_Plan_Sentinels.f at h
 exact FO
def plan_Plan_Conf.f (db da dc dd de df dg dh dj dl dm dn dp dk di:Int):Option (Int×Int×Int×Int×Int×Int×Int):=some (db,da,dc,dd,de,df,dg)
namespace Y65
theorem EN {p:Prop} (h:p:=by refine bodyPost_ret (results_cell_row rfl _ _ (w.heap.size+1) 23 _ (0,0) _ rfl ((by have e:=fun o o2=>Cc (w.alloc o) o2;simp only [World.size_alloc] at e;exact e _ _)) Tryz.underlying23 rfl Zk) rfl ?_;exact ⟨VAL,FB⟩):p:=h
theorem F1 {p:Prop} (h:p:=by go_enter Tryz.func65,Tryz.ntmps65;exact FD):p:=h
end Y65
open Y65 in
theorem plan_Plan_Conf.calls (db da dc dd de df dg dh dj dl dm dn dp dk di r1 r2 r3 r4 r5 r6 r7:Int) (w:World) (h:plan_Plan_Conf.f db da dc dd de df dg dh dj dl dm dn dp dk di=some (r1,r2,r3,r4,r5,r6,r7)) :
  Calls Tryz.prog 65 #[.agg #[Φ db,Φ da,Φ dc,Φ dd,Φ de,Φ df,Φ dg,Φ dh,Φ dj,Φ dl,Φ dm,Φ dn,Φ dp,Φ dk,Φ di]] w fun e w'=>e=.returned (.agg #[Φ r1,Φ r2,Φ r3,Φ r4,Φ r5,Φ r6,Φ r7])∧Below w.heap.size w w':=by
 unfold plan_Plan_Conf.f at h
 exact FO
def word_fit.l0:Nat→Int→List Int→Int→Int→Option (Bool)
 |0,_,_,_,_=>none
 |k+1,x0,x7,x8,x9=>if x9<x8 then (if 0≤x9 then (if x9<(x7.length:Int) then (if (rd x7 x9)≥x0 then (some false) else (word_fit.l0 k x0 x7 x8 (wrap64 (x9+1)))) else (none)) else (none)) else (some true)
def word_fit.f (k:Nat) (a0:Int) (l1:List Int):Option (Bool):=word_fit.l0 k a0 l1 (l1.length:Int) 0
theorem word_fit.calls (k:Nat) (a0:Int) (A1:Option Addr) (c1:Nat) (l1:List Int) (r:Bool) (w:World) (hr1:Kd.C (Kd.int .u64) w A1 l1.length l1) (hc1:l1.length≤c1) (h:word_fit.f k a0 l1=some r) :
  Calls Tryz.prog 195 #[Γ a0,.slice A1 l1.length c1] w fun e w'=>e=.returned (.bool r)∧Drawn0 w w':=by
 have HR1:=Az.m hr1
 have HC1:=Az.m hc1
 clear hr1 hc1
 have H:(word_fit.l0 k a0 l1 (l1.length:Int) 0)=some r:=h
 clear h
 have H':=Az.m H
 clear H
 go_enter Tryz.func195,Tryz.ntmps195
 go_wp2
 go_loopg [9] k (fun kq v9 w'=>∃ (x9_1:Int),v9=Φ x9_1∧Az (word_fit.l0 kq a0 l1 (l1.length:Int) x9_1=some r)∧Az (kq≤k)∧Drawn0 w w')
 case atStart=>exact ⟨(0),Λ46,H',⟨Nat.le_refl _⟩,by repeat (first|exact Drawn0.refl _|apply Drawn0.step)⟩
 case round=>
  clear H'
  try clear c1
  try clear p2
  obtain ⟨x9_1,rfl,HA,HK1,⟨m1,rfl⟩⟩:=hrel
  cases gk with
  |zero=>exact absurd HA.o (by simp [word_fit.l0])
  |succ k1=>
   have H:=HA.o
   clear HA
   simp only [word_fit.l0] at H
   by_cases c3:x9_1<(l1.length:Int)
   .rw [if_pos c3] at H
    have c3b0:decide (x9_1<(l1.length:Int))=true:=decide_eq_true c3
    clear c3
    by_cases c4:0≤x9_1
    .rw [if_pos c4] at H
     have c4b0:decide (0≤x9_1)=true:=decide_eq_true c4
     clear c4
     by_cases c5:x9_1<(l1.length:Int)
     .rw [if_pos c5] at H
      have c5b0:decide (x9_1<(l1.length:Int))=true:=decide_eq_true c5
      clear c5
      by_cases c6:(rd l1 x9_1)≥a0
      .rw [if_pos c6] at H
       have c6b0:decide (a0≤(rd l1 x9_1))=true:=decide_eq_true c6
       clear c6
       obtain rfl:=Option.some.inj H
       have p118:0≤(x9_1:Int):=of_decide_eq_true Λ27
       have q118:x9_1<(l1.length:Int):=of_decide_eq_true Λ27
       obtain ⟨ad118,e118,hx118_0⟩:=Kd.at_int HR1.o x9_1 p118 q118
       cases e118
       replace p118:=eq_true p118
       replace q118:=eq_true q118
       go_wp2
       go_ret
       exact ⟨by first|rfl|(simp;done)|(simp [*];done),by repeat (first|exact Drawn0.refl _|apply Drawn0.step)⟩
      .rw [if_neg c6] at H
       have c6b0:decide (a0≤(rd l1 x9_1))=false:=decide_eq_false c6
       clear c6
       have H':=Az.m H
       clear H
       have p118:0≤(x9_1:Int):=of_decide_eq_true Λ27
       have q118:x9_1<(l1.length:Int):=of_decide_eq_true Λ27
       obtain ⟨ad118,e118,hx118_0⟩:=Kd.at_int HR1.o x9_1 p118 q118
       cases e118
       replace p118:=eq_true p118
       replace q118:=eq_true q118
       go_wp2
       go_roundg k1
       case measure=>have:=HK1.o;omega
       case rel=>exact ⟨(wrap64 (x9_1+1)),Λ46,H',⟨by have:=HK1.o;omega⟩,by repeat (first|exact Drawn0.refl _|apply Drawn0.step)⟩
     .rw [if_neg c5] at H
      exact absurd H Zs
    .rw [if_neg c4] at H
     exact absurd H Zs
   .rw [if_neg c3] at H
    have c3b0:decide (x9_1<(l1.length:Int))=false:=decide_eq_false c3
    clear c3
    obtain rfl:=Option.some.inj H
    go_wp2
    go_ret
    exact ⟨by first|rfl|(simp;done)|(simp [*];done),by repeat (first|exact Drawn0.refl _|apply Drawn0.step)⟩
theorem wA {k:Nat} {a:Int} {A:Option Addr} {c:Nat} {x:Int} {r:Bool} {w:World} (h:word_fit.f k a [x]=some r) (hr:Kd.C (Kd.int .u64) w A 1 [x]) (hc:1≤c):Calls Tryz.prog 195 #[Γ a,.slice A 1 c] w fun e w'=>e=.returned (.bool r)∧Drawn0 w w':=word_fit.calls k a A c [x] r w hr hc h
def word_pack.f (a0:Int) (a1:Bool) (a2:Int):Option (Int):=if a1=true then (some (Go.bits .or .u64 (Go.bits .or .u64 (IntKind.u64.wrap (a2*131072)) (IntKind.u64.wrap (a0*2))) 1)) else (some (Go.bits .or .u64 (IntKind.u64.wrap (a2*131072)) (IntKind.u64.wrap (a0*2))))
namespace Y196
theorem F1 {p:Prop} (h:p:=by go_enter Tryz.func196,Tryz.ntmps196;exact FE):p:=h
end Y196
open Y196 in
theorem word_pack.calls (a0:Int) (a1:Bool) (a2 r:Int) (w:World) (h:word_pack.f a0 a1 a2=some r) :
  Calls Tryz.prog 196 #[Γ a0,.bool a1,Γ a2] w fun e w'=>e=.returned (Γ r)∧Drawn0 w w':=by
 unfold word_pack.f at h
 exact FO
def word_Make.f (k:Nat) (a0:Int) (a1:Bool) (a2:Int):Option (Int×Int):=if a0<0 then (some (0,2)) else ((word_fit.f k 65536 (([IntKind.u64.wrap (a0)]:List Int))).bind fun t122=>(if t122=true then ((word_fit.f k 140737488355328 (([a2]:List Int))).bind fun t126=>(if t126=true then ((word_pack.f (IntKind.u64.wrap (a0)) a1 a2).bind fun t127=>(some (t127,0))) else (some (0,2)))) else (some (0,2))))
namespace Y126
theorem F1 {p:Prop} (h:p:=by go_enter Tryz.func126,Tryz.ntmps126;exact FE):p:=h
end Y126
open Y126 in
theorem word_Make.calls (k:Nat) (a0:Int) (a1:Bool) (a2 r1 r2:Int) (w:World) (h:word_Make.f k a0 a1 a2=some (r1,r2)) :
  Calls Tryz.prog 126 #[Φ a0,.bool a1,Γ a2] w fun e w'=>e=.returned (.tuple #[Γ r1,Φ r2])∧Below w.heap.size w w':=by
 unfold word_Make.f at h
 exact FO
def core_link.f (k:Nat) (a0:Int):Option (Int):=(word_Make.f k a0 false 0).bind fun bt128=>(some bt128.1)
namespace Y67
theorem F1 {p:Prop} (h:p:=by go_enter Tryz.func67,Tryz.ntmps67;exact FE):p:=h
end Y67
open Y67 in
theorem core_link.calls (k:Nat) (a0 r:Int) (w:World) (h:core_link.f k a0=some r) :
  Calls Tryz.prog 67 #[Φ a0] w fun e w'=>e=.returned (Γ r)∧Below w.heap.size w w':=by
 unfold core_link.f at h
 exact FO
def plan_Plan_Link.f (k:Nat) (db da dc dd de df dg dh dj dl dm dn dp dk di a1:Int):Option (Int):=(plan_within.f k (([(⟨a1,1,dc⟩:S145)]:List (S145)))).bind fun t134=>(if t134=true then (some (wrap64 ((wrap64 (dn+a1))-1))) else (some (-1)))
namespace Y68
theorem F1 {p:Prop} (h:p:=by go_enter Tryz.func68,Tryz.ntmps68;exact FE):p:=h
end Y68
open Y68 in
theorem plan_Plan_Link.calls (k:Nat) (db da dc dd de df dg dh dj dl dm dn dp dk di a1 r:Int) (w:World) (h:plan_Plan_Link.f k db da dc dd de df dg dh dj dl dm dn dp dk di a1=some r) :
  Calls Tryz.prog 68 #[.agg #[Φ db,Φ da,Φ dc,Φ dd,Φ de,Φ df,Φ dg,Φ dh,Φ dj,Φ dl,Φ dm,Φ dn,Φ dp,Φ dk,Φ di],Φ a1] w fun e w'=>e=.returned (Φ r)∧Below w.heap.size w w':=by
 unfold plan_Plan_Link.f at h
 exact FO
def plan_Plan_Node.f (k:Nat) (db da dc dd de df dg dh dj dl dm dn dp dk di a1 a2:Int):Option (Int):=(plan_within.f k (([(⟨a1,1,dc⟩:S145),(⟨a2,0,wrap64 (dj-1)⟩:S145)]:List (S145)))).bind fun t139=>(if t139=true then (some (wrap64 ((wrap64 (dp+(wrap64 ((wrap64 (a1-1))*dj))))+a2))) else (some (-1)))
namespace Y69
theorem F1 {p:Prop} (h:p:=by go_enter Tryz.func69,Tryz.ntmps69;exact FE):p:=h
end Y69
open Y69 in
theorem plan_Plan_Node.calls (k:Nat) (db da dc dd de df dg dh dj dl dm dn dp dk di a1 a2 r:Int) (w:World) (h:plan_Plan_Node.f k db da dc dd de df dg dh dj dl dm dn dp dk di a1 a2=some r) :
  Calls Tryz.prog 69 #[.agg #[Φ db,Φ da,Φ dc,Φ dd,Φ de,Φ df,Φ dg,Φ dh,Φ dj,Φ dl,Φ dm,Φ dn,Φ dp,Φ dk,Φ di],Φ a1,Φ a2] w fun e w'=>e=.returned (Φ r)∧Below w.heap.size w w':=by
 unfold plan_Plan_Node.f at h
 exact FO
def plan_Plan_Tree.f (db da dc dd de df dg dh dj dl dm dn dp dk di a1:Int):Option (Int):=if a1<0 then (some (-1)) else (if a1≥(wrap64 (di-dk)) then (some (-1)) else (some (wrap64 (dk+a1))))
namespace Y127
theorem F1 {p:Prop} (h:p:=by go_enter Tryz.func127,Tryz.ntmps127;exact FE):p:=h
end Y127
open Y127 in
theorem plan_Plan_Tree.calls (db da dc dd de df dg dh dj dl dm dn dp dk di a1 r:Int) (w:World) (h:plan_Plan_Tree.f db da dc dd de df dg dh dj dl dm dn dp dk di a1=some r) :
  Calls Tryz.prog 127 #[.agg #[Φ db,Φ da,Φ dc,Φ dd,Φ de,Φ df,Φ dg,Φ dh,Φ dj,Φ dl,Φ dm,Φ dn,Φ dp,Φ dk,Φ di],Φ a1] w fun e w'=>e=.returned (Φ r)∧Below w.heap.size w w':=by
 unfold plan_Plan_Tree.f at h
 exact FO
def word_Word_Ptr.f (a0:Int):Option (Int):=some (wrap64 (Int.tmod (a0 / 2) 65536))
namespace Y72
theorem F1 {p:Prop} (h:p:=by go_enter Tryz.func72,Tryz.ntmps72;exact FE):p:=h
end Y72
open Y72 in
theorem word_Word_Ptr.calls (a0 r:Int) (w:World) (h:word_Word_Ptr.f a0=some r) :
  Calls Tryz.prog 72 #[Γ a0] w fun e w'=>e=.returned (Φ r)∧Drawn0 w w':=by
 unfold word_Word_Ptr.f at h
 exact FO
def plan_Plan_Where.j0:Nat→Int→Bool→Int→Int→Int→Int→Int→Int→Int→Int→Int→Int→Int→Int→Int→Int→Int→Option (Int×Int×Int)
 |0,_,_,_,_,_,_,_,_,_,_,_,_,_,_,_,_,_=>none
 |k+1,x1,x7,x165000,x165001,x165002,x165003,x165004,x165005,x165006,x165007,x165008,x165009,x165010,x165011,x165012,x165013,x165014=>if x7=true then (some (5,0,0)) else (if x1<x165010 then (some (0,x1,0)) else (if x1<x165011 then (if x165007=0 then (none) else (some (1,wrap64 (Int.tdiv (wrap64 (x1-x165010)) x165007),Int.tmod (wrap64 (x1-x165010)) x165007))) else (if x1<x165012 then (some (2,wrap64 ((wrap64 (x1-x165011))+1),0)) else (if x1<x165013 then (if x165008=0 then (none) else (some (3,wrap64 ((wrap64 (Int.tdiv (wrap64 (x1-x165012)) x165008))+1),Int.tmod (wrap64 (x1-x165012)) x165008))) else (some (4,wrap64 (x1-x165013),0))))))
def plan_Plan_Where.f (k:Nat) (db da dc dd de df dg dh dj dl dm dn dp dk di a1:Int):Option (Int×Int×Int):=if a1<0 then (plan_Plan_Where.j0 k a1 true db da dc dd de df dg dh dj dl dm dn dp dk di) else (plan_Plan_Where.j0 k a1 (decide (a1≥di)) db da dc dd de df dg dh dj dl dm dn dp dk di)
theorem plan_Plan_Where.calls (k:Nat) (db da dc dd de df dg dh dj dl dm dn dp dk di a1 r1 r2 r3:Int) (w:World) (h:plan_Plan_Where.f k db da dc dd de df dg dh dj dl dm dn dp dk di a1=some (r1,r2,r3)) :
  Calls Tryz.prog 197 #[.agg #[Φ db,Φ da,Φ dc,Φ dd,Φ de,Φ df,Φ dg,Φ dh,Φ dj,Φ dl,Φ dm,Φ dn,Φ dp,Φ dk,Φ di],Φ a1] w fun e w'=>e=.returned (.tuple #[Φ r1,Φ r2,Φ r3])∧Below w.heap.size w w':=by
 rcases k with _|k<;>simp only [plan_Plan_Where.f] at h
 iterate 24 (all_goals (try (first|(rw [Option.bind_eq_some_iff] at h;obtain ⟨_,_,h⟩:=h)|(split at h<;>rename_i k<;>first|(have k2:_=true:=k;subst k2)|(have k2:=f_b k;subst k2)|have:=FK))))
 all_goals (try simp only [plan_Plan_Where.j0,if_true,decide_eq_true_eq] at h)
 iterate 24 (all_goals (try (first|(rw [Option.bind_eq_some_iff] at h;obtain ⟨_,_,h⟩:=h)|(split at h<;>rename_i k<;>first|(have k2:_=true:=k;subst k2)|(have k2:=f_b k;subst k2)|have:=FK))))
 all_goals (cases h<;>(go_enter Tryz.func197,Tryz.ntmps197;exact FE))
def tree_Leaves.f (a0:Int):Option (Int):=if a0<1 then (some 0) else (if a0>20 then (some 0) else (if 0≤(wrap64 (a0-1)) then (some (shl .i64 1 (wrap64 (a0-1)))) else (none)))
theorem tree_Leaves.calls (a0 r:Int) (w:World) (h:tree_Leaves.f a0=some r) :
  Calls Tryz.prog 136 #[Φ a0] w fun e w'=>e=.returned (Φ r)∧Drawn0 w w':=by
 have H:(if a0<1 then (some 0) else (if a0>20 then (some 0) else (if 0≤(wrap64 (a0-1)) then (some (shl .i64 1 (wrap64 (a0-1)))) else (none))))=some r:=h
 clear h
 by_cases c2:a0<1
 .rw [if_pos c2] at H
  have c2b0:decide (a0<1)=true:=decide_eq_true c2
  clear c2
  obtain rfl:=Option.some.inj H
  go_enter Tryz.func136,Tryz.ntmps136
  go_wp2
  go_ret
  exact ⟨by first|rfl|(simp;done)|(simp [*];done),by repeat (first|exact Drawn0.refl _|apply Drawn0.step)⟩
 .rw [if_neg c2] at H
  have c2b0:decide (a0<1)=false:=decide_eq_false c2
  clear c2
  by_cases c3:a0>20
  .rw [if_pos c3] at H
   have c3b0:decide (20<a0)=true:=decide_eq_true c3
   clear c3
   obtain rfl:=Option.some.inj H
   go_enter Tryz.func136,Tryz.ntmps136
   go_wp2
   go_ret
   exact ⟨by first|rfl|(simp;done)|(simp [*];done),by repeat (first|exact Drawn0.refl _|apply Drawn0.step)⟩
  .rw [if_neg c3] at H
   have c3b0:decide (20<a0)=false:=decide_eq_false c3
   clear c3
   obtain ⟨ji4,hji4⟩:∃ j_:Int,(wrap64 (a0-1))=j_:=⟨_,rfl⟩
   replace H:(if 0≤(ji4) then (some (shl .i64 1 (ji4))) else (none))=some r:=by first|(rw [hji4] at H;exact H)|(simp only [hji4] at H ⊢;exact H)
   have hji4w:(IntKind.i64.wrap (a0-1))=ji4:=(Ou _).trans hji4
   by_cases c5:0≤(ji4)
   .rw [if_pos c5] at H
    have c5b0:=eq_true c5
    have c5b1:decide (0≤(ji4))=true:=decide_eq_true c5
    clear c5
    obtain ⟨ji6,hji6⟩:∃ j_:Int,(shl .i64 1 (ji4))=j_:=⟨_,rfl⟩
    replace H:(some ji6)=some r:=by first|(rw [hji6] at H;exact H)|(simp only [hji6] at H ⊢;exact H)
    have hji6_:(IntKind.i64.wrap (1*2 ^ min (ji4).toNat 64))=ji6:=hji6
    have hji6z:(ji4)≤64→(IntKind.i64.wrap (1*2 ^ (ji4).toNat))=ji6:=gG hji6
    have hji6u:(IntKind.i64.wrap (2 ^ min (ji4).toNat 64))=ji6:=by have h_:=hji6_;rw [Int.one_mul] at h_;exact h_
    have hji6v:(ji4)≤64→(IntKind.i64.wrap (2 ^ (ji4).toNat))=ji6:=fun hle_=>by have h_:=hji6z hle_;rw [Int.one_mul] at h_;exact h_
    have hji6y:(wrap64 (1*2 ^ min (ji4).toNat 64))=ji6:=(Ou _).symm.trans hji6_
    have hji6x:(ji4)≤64→(wrap64 (1*2 ^ (ji4).toNat))=ji6:=fun h_=>(Ou _).symm.trans (hji6z h_)
    obtain rfl:=Option.some.inj H
    go_enter Tryz.func136,Tryz.ntmps136
    go_wp2
    go_ret
    exact ⟨by first|rfl|(simp;done)|(simp only [← hji4,← hji6]<;>(first|rfl|simp))|(simp [*];done),by repeat (first|exact Drawn0.refl _|apply Drawn0.step)⟩
   .rw [if_neg c5] at H
    exact absurd H Zs
def tree_Leaf.f (a0 a1:Int):Option (Int):=(tree_Leaves.f a0).bind fun t168=>(if t168=0 then (some 0) else (some (wrap64 (t168+((mx a1 0) % t168)))))
theorem tree_Leaf.calls (a0 a1 r:Int) (w:World) (h:tree_Leaf.f a0 a1=some r) :
  Calls Tryz.prog 133 #[Φ a0,Φ a1] w fun e w'=>e=.returned (Φ r)∧Below w.heap.size w w':=by
 have HB:=Az.m (Below.refl w.heap.size w)
 have H:((tree_Leaves.f a0).bind fun t168=>(if t168=0 then (some 0) else (some (wrap64 (t168+((mx a1 0) % t168))))))=some r:=h
 clear h
 replace H:=Option.bind_eq_some_iff.mp H
 obtain ⟨t168,A30,H⟩:=H
 replace H:(if t168=0 then (some 0) else (some (wrap64 (t168+((mx a1 0) % t168)))))=some r:=H
 have A3:=Az.m A30
 clear A30
 by_cases c4:t168=0
 .rw [if_pos c4] at H
  have c4b0:(t168==0)=true:=beq_iff_eq.mpr c4
  have c4b1:(t168 != 0)=false:=bne_eq_false_iff_eq.mpr c4
  clear c4
  obtain rfl:=Option.some.inj H
  go_enter Tryz.func133,Tryz.ntmps133
  go_wp2_with (first|((with_reducible refine Ai (f:=136) rfl ?_);refine Bk (some 7) rfl rfl Tryz.func136 Zk rfl #[Φ a0] rfl Λ11 ?_;(with_reducible refine (tree_Leaves.calls a0 t168 _ A3.o).mono ?_);rintro e w' ⟨rfl,⟨nd,rfl⟩⟩;refine ⟨_,rfl,?_⟩))
  go_ret
  exact ⟨by first|rfl|(simp [errW_none,errW_some]<;>rfl)|(simp [*,errW_none,errW_some]<;>rfl),by repeat (first|(with_reducible first|exact HB.o|apply Af|apply At|apply Bu)|exact HB.o)⟩
 .rw [if_neg c4] at H
  have c4b0:(t168==0)=false:=beq_eq_false_iff_ne.mpr c4
  have c4b1:(t168 != 0)=true:=bne_iff_ne.mpr c4
  obtain ⟨ji5,hji5⟩:∃ j_:Int,(mx a1 0)=j_:=⟨_,rfl⟩
  replace H:(some (wrap64 (t168+((ji5) % t168))))=some r:=by first|(rw [hji5] at H;exact H)|(simp only [hji5] at H ⊢;exact H)
  (try rw [hji5] at A3)
  (try (have hji5l:0≤ji5:=by (rw [← hji5];unfold mx;(repeat' split)<;>omega)))
  (try (have hji5m:0≤ji5:=by omega))
  have hji5_:(if a1<0 then 0 else a1)=ji5:=hji5
  obtain rfl:=Option.some.inj H
  go_enter Tryz.func133,Tryz.ntmps133
  go_wp2_with (first|((with_reducible refine Ai (f:=136) rfl ?_);refine Bk (some 7) rfl rfl Tryz.func136 Zk rfl #[Φ a0] rfl Λ11 ?_;(with_reducible refine (tree_Leaves.calls a0 t168 _ A3.o).mono ?_);rintro e w' ⟨rfl,⟨nd,rfl⟩⟩;refine ⟨_,rfl,?_⟩))
  go_ret
  exact ⟨by first|rfl|(simp [errW_none,errW_some]<;>rfl)|(simp only [← hji5];first|rfl|(simp [errW_none,errW_some]<;>rfl))|(simp [*,errW_none,errW_some]<;>rfl),by repeat (first|(with_reducible first|exact HB.o|apply Af|apply At|apply Bu)|exact HB.o)⟩
def path_New.f (a0:Int):Option (Int×Int):=some (0,wrap64 ((mx a0 1)-1))
theorem path_New.calls (a0 r1 r2:Int) (w:World) (h:path_New.f a0=some (r1,r2)) :
  Calls Tryz.prog 138 #[Φ a0] w fun e w'=>e=.returned (.agg #[Φ r1,Φ r2])∧Below w.heap.size w w':=by
 have hu193:=Tryz.underlying193
 have HB:=Az.m (Below.refl w.heap.size w)
 have H:(some (0,wrap64 ((mx a0 1)-1)))=some (r1,r2):=h
 clear h
 obtain ⟨ji2,hji2⟩:∃ j_:Int,(mx a0 1)=j_:=⟨_,rfl⟩
 replace H:(some (0,wrap64 ((ji2)-1)))=some (r1,r2):=by first|(rw [hji2] at H;exact H)|(simp only [hji2] at H ⊢;exact H)
 (try (have hji2l:1≤ji2:=by (rw [← hji2];unfold mx;(repeat' split)<;>omega)))
 (try (have hji2m:0≤ji2:=by omega))
 have hji2_:(if a0<1 then 1 else a0)=ji2:=hji2
 simp only [Option.some.injEq,Prod.mk.injEq] at H
 obtain ⟨rfl,rfl⟩:=H
 go_enter Tryz.func138,Tryz.ntmps138
 go_wp2_with (first|((with_reducible refine Al (N:=2) rfl ?_);refine Am ?hg (N:=2) ?hd (cs:=#[Φ 0,Φ 0]) (t:=193) ?hr ?_;(case hd=>rfl);(case hg=>rfl);(case hr=>exact Λ18);intro gb169 hg w3 hbox hb;have n0_:=Az.m (Ag Λ134 hb);have n1_:=Az.m (hbox);have n2_:=Az.m ((by rw [hg];exact (Bz Λ134):w.heap.size≤gb169));have n3_:=Az.m ((by rw [hg];exact (Bz Λ134):w.heap.size≤gb169));clear HB;have HB:=n0_;have BK169:=n1_;have GW169:=n2_;have GE169:=n3_;clear n0_ n1_ n2_ n3_;clear hb hbox hg;obtain ⟨hcz4_0,hcz4_1⟩:=bc2 BK169.o;have hfz4_0:=Ab BK169.o))
 refine bodyPost_ret (results_cell_row rfl _ _ gb169 193 #[Φ 0,Φ (wrap64 ((ji2)-1))] (0,0) _ rfl (by (with_reducible repeat (first|refine Cg ?_ _|refine Bl ?_|refine Ba ?_ _));refine Ae (cs:=#[Φ 0,Φ 0]) ?_ 1 _ rfl;(with_reducible repeat (first|refine Cg ?_ _|refine Bl ?_|refine Ba ?_ _));refine Ae (cs:=#[Φ 0,Φ 0]) ?_ 0 _ rfl;(with_reducible repeat (first|refine Cg ?_ _|refine Bl ?_|refine Ba ?_ _));exact BK169.o) Tryz.underlying193 rfl Zk) rfl ?_
 exact ⟨by first|rfl|(simp [errW_none,errW_some]<;>rfl)|(simp only [← hji2];first|rfl|(simp [errW_none,errW_some]<;>rfl))|(simp [*,errW_none,errW_some]<;>rfl),by repeat (first|(with_reducible first|exact HB.o|apply Af|apply At|apply Bu|refine Aq ?_ GE169.o)|exact HB.o)⟩
def path_Span_Done.f (db da:Int):Option (Bool):=some (decide (db≥da))
namespace Y141
theorem F1 {p:Prop} (h:p:=by go_enter Tryz.func141,Tryz.ntmps141;exact FE):p:=h
end Y141
open Y141 in
theorem path_Span_Done.calls (db da:Int) (r:Bool) (w:World) (h:path_Span_Done.f db da=some r) :
  Calls Tryz.prog 141 #[.agg #[Φ db,Φ da]] w fun e w'=>e=.returned (.bool r)∧Below w.heap.size w w':=by
 unfold path_Span_Done.f at h
 exact FO
def tree_right.f (a0:Int):Option (Bool):=if a0≥1 then (some (decide (a0≤1048576))) else (some false)
namespace Y206
theorem F1 {p:Prop} (h:p:=by go_enter Tryz.func206,Tryz.ntmps206;exact FE):p:=h
end Y206
open Y206 in
theorem tree_right.calls (a0:Int) (r:Bool) (w:World) (h:tree_right.f a0=some r) :
  Calls Tryz.prog 206 #[Φ a0] w fun e w'=>e=.returned (.bool r)∧Drawn0 w w':=by
 unfold tree_right.f at h
 exact FO
def bits_Len.f (_k:Nat) (a0:Int):Option (Int):=if 0≤a0 then (if a0≤18446744073709551615 then some (Lib.bitLen a0.toNat:Int) else none) else none
theorem bits_Len.calls (k:Nat) (a0 r:Int) (w:World) (h:bits_Len.f k a0=some r) :
  Calls Tryz.prog 228 #[Γ a0] w fun e w'=>e=.returned (Φ r)∧Drawn0 w w':=by
 unfold bits_Len.f at h
 by_cases h0:0≤a0
 .by_cases h1:a0≤18446744073709551615
  .rw [if_pos h0,if_pos h1] at h
   obtain rfl:=Option.some.inj h
   refine (Tryz.bits_Len a0 w h0 h1).mono ?_
   rintro e w' ⟨rfl,rfl⟩
   exact ⟨rfl,Drawn0.refl _⟩
  .rw [if_pos h0,if_neg h1] at h
   cases h
 .rw [if_neg h0] at h
  cases h
def tree_Level.f (k:Nat) (a0:Int):Option (Int):=(tree_right.f a0).bind fun t175=>(if t175=true then ((bits_Len.f k (IntKind.u64.wrap (a0))).bind fun t176=>(some (wrap64 (t176-1)))) else (some 0))
namespace Y221
theorem F1 {p:Prop} (h:p:=by go_enter Tryz.func221,Tryz.ntmps221;exact FE):p:=h
end Y221
open Y221 in
theorem tree_Level.calls (k:Nat) (a0 r:Int) (w:World) (h:tree_Level.f k a0=some r) :
  Calls Tryz.prog 221 #[Φ a0] w fun e w'=>e=.returned (Φ r)∧Drawn0 w w':=by
 unfold tree_Level.f at h
 exact FO
def tree_Up.f (k:Nat) (a0 a1:Int):Option (Int):=(tree_right.f a0).bind fun t177=>(if t177=true then (if a1<0 then (some 0) else ((tree_Level.f k a0).bind fun t178=>(if t178<a1 then (some 0) else ((tree_Level.f k a0).bind fun t179=>(if 0≤(wrap64 (t179-a1)) then (some (shr .i64 a0 (wrap64 (t179-a1)))) else (none)))))) else (some 0))
theorem tree_Up.calls (k:Nat) (a0 a1 r:Int) (w:World) (h:tree_Up.f k a0 a1=some r) :
  Calls Tryz.prog 201 #[Φ a0,Φ a1] w fun e w'=>e=.returned (Φ r)∧Drawn0 w w':=by
 have H:((tree_right.f a0).bind fun t177=>(if t177=true then (if a1<0 then (some 0) else ((tree_Level.f k a0).bind fun t178=>(if t178<a1 then (some 0) else ((tree_Level.f k a0).bind fun t179=>(if 0≤(wrap64 (t179-a1)) then (some (shr .i64 a0 (wrap64 (t179-a1)))) else (none)))))) else (some 0)))=some r:=h
 clear h
 replace H:=Option.bind_eq_some_iff.mp H
 obtain ⟨t177,A30,H⟩:=H
 replace H:(if t177=true then (if a1<0 then (some 0) else ((tree_Level.f k a0).bind fun t178=>(if t178<a1 then (some 0) else ((tree_Level.f k a0).bind fun t179=>(if 0≤(wrap64 (t179-a1)) then (some (shr .i64 a0 (wrap64 (t179-a1)))) else (none)))))) else (some 0))=some r:=H
 have A3:=Az.m A30
 clear A30
 by_cases c4:t177=true
 .subst c4
  have H1:(if a1<0 then (some 0) else ((tree_Level.f k a0).bind fun t178=>(if t178<a1 then (some 0) else ((tree_Level.f k a0).bind fun t179=>(if 0≤(wrap64 (t179-a1)) then (some (shr .i64 a0 (wrap64 (t179-a1)))) else (none))))))=some r:=by rw [if_pos rfl] at H;exact H
  clear H
  have H:=H1
  clear H1
  by_cases c5:a1<0
  .rw [if_pos c5] at H
   have c5b0:decide (a1<0)=true:=decide_eq_true c5
   clear c5
   obtain rfl:=Option.some.inj H
   go_enter Tryz.func201,Tryz.ntmps201
   go_wp2_with (first|((with_reducible refine Ai (f:=206) rfl ?_);refine Bk (some 6) rfl rfl Tryz.func206 Zk rfl #[Φ a0] rfl Λ11 ?_;(with_reducible refine (tree_right.calls a0 true _ A3.o).mono ?_);rintro e w' ⟨rfl,⟨nd,rfl⟩⟩;refine ⟨_,rfl,?_⟩))
   go_ret
   exact ⟨by first|rfl|(simp;done)|(simp [*];done),by repeat (first|exact Drawn0.refl _|apply Drawn0.step)⟩
  .rw [if_neg c5] at H
   have c5b0:decide (a1<0)=false:=decide_eq_false c5
   clear c5
   replace H:=Option.bind_eq_some_iff.mp H
   obtain ⟨t178,A60,H⟩:=H
   replace H:(if t178<a1 then (some 0) else ((tree_Level.f k a0).bind fun t179=>(if 0≤(wrap64 (t179-a1)) then (some (shr .i64 a0 (wrap64 (t179-a1)))) else (none))))=some r:=H
   have A6:=Az.m A60
   clear A60
   by_cases c7:t178<a1
   .rw [if_pos c7] at H
    have c7b0:decide (t178<a1)=true:=decide_eq_true c7
    clear c7
    obtain rfl:=Option.some.inj H
    go_enter Tryz.func201,Tryz.ntmps201
    go_wp2_with (first|((with_reducible refine Ai (f:=206) rfl ?_);refine Bk (some 6) rfl rfl Tryz.func206 Zk rfl #[Φ a0] rfl Λ11 ?_;(with_reducible refine (tree_right.calls a0 true _ A3.o).mono ?_);rintro e w' ⟨rfl,⟨nd,rfl⟩⟩;refine ⟨_,rfl,?_⟩)|(go_at_call 221;(with_reducible refine (tree_Level.calls k a0 t178 _ A6.o).mono ?_);rintro e w' ⟨rfl,⟨nd,rfl⟩⟩))
    go_ret
    exact ⟨by first|rfl|(simp;done)|(simp [*];done),by repeat (first|exact Drawn0.refl _|apply Drawn0.step)⟩
   .rw [if_neg c7] at H
    have c7b0:decide (t178<a1)=false:=decide_eq_false c7
    clear c7
    replace H:=Option.bind_eq_some_iff.mp H
    obtain ⟨t179,A80,H⟩:=H
    replace H:(if 0≤(wrap64 (t179-a1)) then (some (shr .i64 a0 (wrap64 (t179-a1)))) else (none))=some r:=H
    have A8:=Az.m A80
    clear A80
    obtain ⟨ji9,hji9⟩:∃ j_:Int,(wrap64 (t179-a1))=j_:=⟨_,rfl⟩
    replace H:(if 0≤(ji9) then (some (shr .i64 a0 (ji9))) else (none))=some r:=by first|(rw [hji9] at H;exact H)|(simp only [hji9] at H ⊢;exact H)
    (try rw [hji9] at A3)
    (try rw [hji9] at A6)
    (try rw [hji9] at A8)
    have hji9w:(IntKind.i64.wrap (t179-a1))=ji9:=(Ou _).trans hji9
    by_cases c10:0≤(ji9)
    .rw [if_pos c10] at H
     have c10b0:=eq_true c10
     have c10b1:decide (0≤(ji9))=true:=decide_eq_true c10
     clear c10
     obtain ⟨ji11,hji11⟩:∃ j_:Int,(shr .i64 a0 (ji9))=j_:=⟨_,rfl⟩
     replace H:(some ji11)=some r:=by first|(rw [hji11] at H;exact H)|(simp only [hji11] at H ⊢;exact H)
     (try rw [hji11] at A3)
     (try rw [hji11] at A6)
     (try rw [hji11] at A8)
     have hji11_:(a0 / 2 ^ min (ji9).toNat 64)=ji11:=hji11
     have hji11z:(ji9)≤64→(a0 / 2 ^ (ji9).toNat)=ji11:=gF hji11
     obtain rfl:=Option.some.inj H
     go_enter Tryz.func201,Tryz.ntmps201
     go_wp2_with (first|((with_reducible refine Ai (f:=206) rfl ?_);refine Bk (some 6) rfl rfl Tryz.func206 Zk rfl #[Φ a0] rfl Λ11 ?_;(with_reducible refine (tree_right.calls a0 true _ A3.o).mono ?_);rintro e w' ⟨rfl,⟨nd,rfl⟩⟩;refine ⟨_,rfl,?_⟩)|(go_at_call 221;(with_reducible refine (tree_Level.calls k a0 t178 _ A6.o).mono ?_);rintro e w' ⟨rfl,⟨nd,rfl⟩⟩)|((with_reducible refine Ai (f:=221) rfl ?_);refine Bk (some 20) rfl rfl Tryz.func221 Zk rfl #[Φ a0] rfl Λ11 ?_;(with_reducible refine (tree_Level.calls k a0 t179 _ A8.o).mono ?_);rintro e w' ⟨rfl,⟨nd,rfl⟩⟩;refine ⟨_,rfl,?_⟩))
     go_ret
     exact ⟨by first|rfl|(simp;done)|(simp only [← hji9,← hji11]<;>(first|rfl|simp))|(simp [*];done),by repeat (first|exact Drawn0.refl _|apply Drawn0.step)⟩
    .rw [if_neg c10] at H
     exact absurd H Zs
 .replace c4:=Bool.eq_false_iff.mpr c4
  subst c4
  have H1:(some 0)=some r:=by rw [if_neg (show ¬ (false=true) by decide)] at H;exact H
  clear H
  have H:=H1
  clear H1
  obtain rfl:=Option.some.inj H
  go_enter Tryz.func201,Tryz.ntmps201
  go_wp2_with (first|((with_reducible refine Ai (f:=206) rfl ?_);refine Bk (some 6) rfl rfl Tryz.func206 Zk rfl #[Φ a0] rfl Λ11 ?_;(with_reducible refine (tree_right.calls a0 false _ A3.o).mono ?_);rintro e w' ⟨rfl,⟨nd,rfl⟩⟩;refine ⟨_,rfl,?_⟩))
  go_ret
  exact ⟨by first|rfl|(simp;done)|(simp [*];done),by repeat (first|exact Drawn0.refl _|apply Drawn0.step)⟩
def path_clip.f (a0:Int):Option (Int):=some (mx 0 (mn a0 1073741824))
theorem path_clip.calls (a0 r:Int) (w:World) (h:path_clip.f a0=some r) :
  Calls Tryz.prog 202 #[Φ a0] w fun e w'=>e=.returned (Φ r)∧Below w.heap.size w w':=by
 have HB:=Az.m (Below.refl w.heap.size w)
 have H:(some (mx 0 (mn a0 1073741824)))=some r:=h
 clear h
 obtain ⟨ji2,hji2⟩:∃ j_:Int,(mn a0 1073741824)=j_:=⟨_,rfl⟩
 replace H:(some (mx 0 (ji2)))=some r:=by first|(rw [hji2] at H;exact H)|(simp only [hji2] at H ⊢;exact H)
 (try (have hji2h:ji2≤1073741824:=by (rw [← hji2];unfold mn;(repeat' split)<;>omega)))
 (try (have hji2g:ji2≤64:=by omega))
 have hji2_:(if 1073741824<a0 then 1073741824 else a0)=ji2:=hji2
 obtain ⟨ji3,hji3⟩:∃ j_:Int,(mx 0 (ji2))=j_:=⟨_,rfl⟩
 replace H:(some ji3)=some r:=by first|(rw [hji3] at H;exact H)|(simp only [hji3] at H ⊢;exact H)
 have hji3_:(if 0<(ji2) then (ji2) else 0)=ji3:=hji3
 obtain rfl:=Option.some.inj H
 go_enter Tryz.func202,Tryz.ntmps202
 go_wp2
 go_ret
 exact ⟨by first|rfl|(simp [errW_none,errW_some]<;>rfl)|(simp only [← hji2,← hji3];first|rfl|(simp [errW_none,errW_some]<;>rfl))|(simp [*,errW_none,errW_some]<;>rfl),by repeat (first|(with_reducible first|exact HB.o|apply Af|apply At|apply Bu)|exact HB.o)⟩
def path_Span_Mid.f (db da:Int):Option (Int):=(path_clip.f db).bind fun t181=>((path_clip.f da).bind fun t182=>(some (wrap64 (Int.tdiv (wrap64 (t181+t182)) 2))))
namespace Y143
theorem F1 {p:Prop} (h:p:=by go_enter Tryz.func143,Tryz.ntmps143;exact FE):p:=h
end Y143
open Y143 in
theorem path_Span_Mid.calls (db da r:Int) (w:World) (h:path_Span_Mid.f db da=some r) :
  Calls Tryz.prog 143 #[.agg #[Φ db,Φ da]] w fun e w'=>e=.returned (Φ r)∧Below w.heap.size w w':=by
 unfold path_Span_Mid.f at h
 exact FO
def path_Span_Cut.f (db da:Int) (a1:Bool):Option (Int×Int):=(path_Span_Done.f db da).bind fun t185=>(if t185=true then (some (db,da)) else (if a1=true then ((path_Span_Mid.f db da).bind fun t186=>(some (db,t186))) else ((path_Span_Mid.f db da).bind fun t187=>(some (wrap64 (t187+1),da)))))
namespace Y144
theorem EN {p:Prop} (h:p:=by refine bodyPost_ret (results_cell_row rfl _ _ (w.heap.size+1) 193 _ (0,0) _ rfl (Ae (Ae (cs:=#[Φ 0,Φ 0]) BLK 0 _ rfl) 1 _ rfl) Tryz.underlying193 rfl Zk) rfl ?_;exact ⟨VAL,FB⟩):p:=h
theorem F1 {p:Prop} (h:p:=by go_enter Tryz.func144,Tryz.ntmps144;exact FD):p:=h
end Y144
open Y144 in
theorem path_Span_Cut.calls (db da:Int) (a1:Bool) (r1 r2:Int) (w:World) (h:path_Span_Cut.f db da a1=some (r1,r2)) :
  Calls Tryz.prog 144 #[.agg #[Φ db,Φ da],.bool a1] w fun e w'=>e=.returned (.agg #[Φ r1,Φ r2])∧Below w.heap.size w w':=by
 unfold path_Span_Cut.f at h
 exact FO
end
section
attribute [local go_sem] Cs Cq De Dd Cj Ci Cr Cp
attribute [local go_sem high] uQ
def word_Word_Mark.f (a0:Int):Option (Bool):=some ((Go.bits .and .u64 a0 1)==1)
namespace Y146
theorem F1 {p:Prop} (h:p:=by go_enter Tryz.func146,Tryz.ntmps146;exact FE):p:=h
end Y146
open Y146 in
theorem word_Word_Mark.calls (a0:Int) (r:Bool) (w:World) (h:word_Word_Mark.f a0=some r) :
  Calls Tryz.prog 146 #[Γ a0] w fun e w'=>e=.returned (.bool r)∧Drawn0 w w':=by
 unfold word_Word_Mark.f at h
 exact FO
def word_Word_Ver.f (a0:Int):Option (Int):=some (a0 / 131072)
namespace Y204
theorem F1 {p:Prop} (h:p:=by go_enter Tryz.func204,Tryz.ntmps204;exact FE):p:=h
end Y204
open Y204 in
theorem word_Word_Ver.calls (a0 r:Int) (w:World) (h:word_Word_Ver.f a0=some r) :
  Calls Tryz.prog 204 #[Γ a0] w fun e w'=>e=.returned (Γ r)∧Drawn0 w w':=by
 unfold word_Word_Ver.f at h
 exact FO
def word_Word_Next.f (a0 a1:Int) (a2:Bool):Option (Int):=(word_Word_Ver.f a0).bind fun t191=>((word_pack.f (Int.tmod (IntKind.u64.wrap (a1)) 65536) a2 (Int.tmod (IntKind.u64.wrap (t191+1)) 140737488355328)).bind fun t192=>(some t192))
namespace Y148
theorem F1 {p:Prop} (h:p:=by go_enter Tryz.func148,Tryz.ntmps148;exact FE):p:=h
end Y148
open Y148 in
theorem word_Word_Next.calls (a0 a1:Int) (a2:Bool) (r:Int) (w:World) (h:word_Word_Next.f a0 a1 a2=some r) :
  Calls Tryz.prog 148 #[Γ a0,Φ a1,.bool a2] w fun e w'=>e=.returned (Γ r)∧Drawn0 w w':=by
 unfold word_Word_Next.f at h
 exact FO
def tree_Inner.f (a0 a1:Int):Option (Bool):=(tree_right.f a0).bind fun t196=>(if t196=true then ((tree_Leaves.f a1).bind fun t197=>(some (decide (a0<t197)))) else (some false))
namespace Y150
theorem F1 {p:Prop} (h:p:=by go_enter Tryz.func150,Tryz.ntmps150;exact FE):p:=h
end Y150
open Y150 in
theorem tree_Inner.calls (a0 a1:Int) (r:Bool) (w:World) (h:tree_Inner.f a0 a1=some r) :
  Calls Tryz.prog 150 #[Φ a0,Φ a1] w fun e w'=>e=.returned (.bool r)∧Drawn0 w w':=by
 unfold tree_Inner.f at h
 exact FO
def hazard_ptr.f (a0:Int):Option (Int):=(word_Word_Ptr.f a0).bind fun t198=>(some (IntKind.u64.wrap (t198)))
namespace Y151
theorem F1 {p:Prop} (h:p:=by go_enter Tryz.func151,Tryz.ntmps151;exact FE):p:=h
end Y151
open Y151 in
theorem hazard_ptr.calls (a0 r:Int) (w:World) (h:hazard_ptr.f a0=some r) :
  Calls Tryz.prog 151 #[Γ a0] w fun e w'=>e=.returned (Γ r)∧Drawn0 w w':=by
 unfold hazard_ptr.f at h
 exact FO
def plan_Plan_Hazard.f (k:Nat) (db da dc dd de df dg dh dj dl dm dn dp dk di a1 a2:Int):Option (Int):=if ((db==0 && (da==0 && (dc==0 && (dd==0 && (de==0 && (df==0 && (dg==0))))))) && (dh==0 && (dj==0 && (dl==0 && (dm==0 && (dn==0 && (dp==0 && (dk==0 && (di==0)))))))))=true then (some (-1)) else ((plan_within.f k (([(⟨a1,0,wrap64 (da-1)⟩:S145),(⟨a2,0,wrap64 (dh-1)⟩:S145)]:List (S145)))).bind fun t203=>(if t203=true then (some (wrap64 ((wrap64 (dm+(wrap64 (a1*dh))))+a2))) else (some (-1))))
namespace Y152
theorem F1 {p:Prop} (h:p:=by go_enter Tryz.func152,Tryz.ntmps152;exact FE):p:=h
end Y152
open Y152 in
theorem plan_Plan_Hazard.calls (k:Nat) (db da dc dd de df dg dh dj dl dm dn dp dk di a1 a2 r:Int) (w:World) (h:plan_Plan_Hazard.f k db da dc dd de df dg dh dj dl dm dn dp dk di a1 a2=some r) :
  Calls Tryz.prog 152 #[.agg #[Φ db,Φ da,Φ dc,Φ dd,Φ de,Φ df,Φ dg,Φ dh,Φ dj,Φ dl,Φ dm,Φ dn,Φ dp,Φ dk,Φ di],Φ a1,Φ a2] w fun e w'=>e=.returned (Φ r)∧Below w.heap.size w w':=by
 unfold plan_Plan_Hazard.f at h
 exact FO
def plan_Plan_Slots.f (db da dc dd de df dg dh dj dl dm dn dp dk di:Int):Option (Int):=some dh
namespace Y153
theorem F1 {p:Prop} (h:p:=by go_enter Tryz.func153,Tryz.ntmps153;exact FE):p:=h
end Y153
open Y153 in
theorem plan_Plan_Slots.calls (db da dc dd de df dg dh dj dl dm dn dp dk di r:Int) (w:World) (h:plan_Plan_Slots.f db da dc dd de df dg dh dj dl dm dn dp dk di=some r) :
  Calls Tryz.prog 153 #[.agg #[Φ db,Φ da,Φ dc,Φ dd,Φ de,Φ df,Φ dg,Φ dh,Φ dj,Φ dl,Φ dm,Φ dn,Φ dp,Φ dk,Φ di]] w fun e w'=>e=.returned (Φ r)∧Below w.heap.size w w':=by
 unfold plan_Plan_Slots.f at h
 exact FO
def arena_ptr.f (a0:Int):Option (Int):=(word_Word_Ptr.f a0).bind fun t205=>(some t205)
namespace Y212
theorem F1 {p:Prop} (h:p:=by go_enter Tryz.func212,Tryz.ntmps212;exact FE):p:=h
end Y212
open Y212 in
theorem arena_ptr.calls (a0 r:Int) (w:World) (h:arena_ptr.f a0=some r) :
  Calls Tryz.prog 212 #[Γ a0] w fun e w'=>e=.returned (Φ r)∧Drawn0 w w':=by
 unfold arena_ptr.f at h
 exact FO
def ord_Make.f (a0 a1:Int):Option (Int):=some (Go.bits .or .u64 (IntKind.u64.wrap ((IntKind.u64.wrap (a0))*4294967296)) (IntKind.u64.wrap (a1)))
namespace Y169
theorem F1 {p:Prop} (h:p:=by go_enter Tryz.func169,Tryz.ntmps169;exact FE):p:=h
end Y169
open Y169 in
theorem ord_Make.calls (a0 a1 r:Int) (w:World) (h:ord_Make.f a0 a1=some r) :
  Calls Tryz.prog 169 #[.int .u32 a0,.int .u32 a1] w fun e w'=>e=.returned (Γ r)∧Drawn0 w w':=by
 unfold ord_Make.f at h
 exact FO
def ord_Pack.f (a0:Int) (a1:Bool):Option (Int):=if a1=true then (some (Go.bits .or .u64 (IntKind.u64.wrap ((IntKind.u64.wrap (a0))*2)) 1)) else (some (IntKind.u64.wrap ((IntKind.u64.wrap (a0))*2)))
namespace Y172
theorem F1 {p:Prop} (h:p:=by go_enter Tryz.func172,Tryz.ntmps172;exact FE):p:=h
end Y172
open Y172 in
theorem ord_Pack.calls (a0:Int) (a1:Bool) (r:Int) (w:World) (h:ord_Pack.f a0 a1=some r) :
  Calls Tryz.prog 172 #[.int .u32 a0,.bool a1] w fun e w'=>e=.returned (Γ r)∧Drawn0 w w':=by
 unfold ord_Pack.f at h
 exact FO
def sundell_mark.f (a0:Int):Option (Bool):=(word_Word_Mark.f a0).bind fun t209=>(some t209)
namespace Y175
theorem F1 {p:Prop} (h:p:=by go_enter Tryz.func175,Tryz.ntmps175;exact FE):p:=h
end Y175
open Y175 in
theorem sundell_mark.calls (a0:Int) (r:Bool) (w:World) (h:sundell_mark.f a0=some r) :
  Calls Tryz.prog 175 #[Γ a0] w fun e w'=>e=.returned (.bool r)∧Drawn0 w w':=by
 unfold sundell_mark.f at h
 exact FO
def sundell_ptr.f (a0:Int):Option (Int):=(word_Word_Ptr.f a0).bind fun t210=>(some (IntKind.u64.wrap (t210)))
namespace Y176
theorem F1 {p:Prop} (h:p:=by go_enter Tryz.func176,Tryz.ntmps176;exact FE):p:=h
end Y176
open Y176 in
theorem sundell_ptr.calls (a0 r:Int) (w:World) (h:sundell_ptr.f a0=some r) :
  Calls Tryz.prog 176 #[Γ a0] w fun e w'=>e=.returned (Γ r)∧Drawn0 w w':=by
 unfold sundell_ptr.f at h
 exact FO
def ord_Gone.f (a0:Int):Option (Bool):=some ((Go.bits .and .u64 a0 1)==1)
namespace Y178
theorem F1 {p:Prop} (h:p:=by go_enter Tryz.func178,Tryz.ntmps178;exact FE):p:=h
end Y178
open Y178 in
theorem ord_Gone.calls (a0:Int) (r:Bool) (w:World) (h:ord_Gone.f a0=some r) :
  Calls Tryz.prog 178 #[Γ a0] w fun e w'=>e=.returned (.bool r)∧Drawn0 w w':=by
 unfold ord_Gone.f at h
 exact FO
def ord_Key.f (a0:Int):Option (Int):=some ((a0 / 4294967296) % 4294967296)
namespace Y194
theorem F1 {p:Prop} (h:p:=by go_enter Tryz.func194,Tryz.ntmps194;exact FE):p:=h
end Y194
open Y194 in
theorem ord_Key.calls (a0 r:Int) (w:World) (h:ord_Key.f a0=some r) :
  Calls Tryz.prog 194 #[Γ a0] w fun e w'=>e=.returned (.int .u32 r)∧Drawn0 w w':=by
 unfold ord_Key.f at h
 exact FO
def ord_Val.f (a0:Int):Option (Int):=some ((a0 / 2) % 4294967296)
namespace Y218
theorem F1 {p:Prop} (h:p:=by go_enter Tryz.func218,Tryz.ntmps218;exact FE):p:=h
end Y218
open Y218 in
theorem ord_Val.calls (a0 r:Int) (w:World) (h:ord_Val.f a0=some r) :
  Calls Tryz.prog 218 #[Γ a0] w fun e w'=>e=.returned (.int .u32 r)∧Drawn0 w w':=by
 unfold ord_Val.f at h
 exact FO
def ord_Bury.f (a0:Int):Option (Int):=some (Go.bits .or .u64 a0 1)
namespace Y180
theorem F1 {p:Prop} (h:p:=by go_enter Tryz.func180,Tryz.ntmps180;exact FE):p:=h
end Y180
open Y180 in
theorem ord_Bury.calls (a0 r:Int) (w:World) (h:ord_Bury.f a0=some r) :
  Calls Tryz.prog 180 #[Γ a0] w fun e w'=>e=.returned (Γ r)∧Drawn0 w w':=by
 unfold ord_Bury.f at h
 exact FO
def word_Word_Marked.f (a0:Int):Option (Int):=(word_Word_Ptr.f a0).bind fun t211=>((word_Word_Next.f a0 t211 true).bind fun t212=>(some t212))
namespace Y181
theorem F1 {p:Prop} (h:p:=by go_enter Tryz.func181,Tryz.ntmps181;exact FE):p:=h
end Y181
open Y181 in
theorem word_Word_Marked.calls (a0 r:Int) (w:World) (h:word_Word_Marked.f a0=some r) :
  Calls Tryz.prog 181 #[Γ a0] w fun e w'=>e=.returned (Γ r)∧Drawn0 w w':=by
 unfold word_Word_Marked.f at h
 exact FO
def linden_mark.f (a0:Int):Option (Bool):=(word_Word_Mark.f a0).bind fun t213=>(some t213)
namespace Y110
theorem F1 {p:Prop} (h:p:=by go_enter Tryz.func110,Tryz.ntmps110;exact FE):p:=h
end Y110
open Y110 in
theorem linden_mark.calls (a0:Int) (r:Bool) (w:World) (h:linden_mark.f a0=some r) :
  Calls Tryz.prog 110 #[Γ a0] w fun e w'=>e=.returned (.bool r)∧Drawn0 w w':=by
 unfold linden_mark.f at h
 exact FO
def linden_ptr.f (a0:Int):Option (Int):=(word_Word_Ptr.f a0).bind fun t214=>(some (IntKind.u64.wrap (t214)))
namespace Y109
theorem F1 {p:Prop} (h:p:=by go_enter Tryz.func109,Tryz.ntmps109;exact FE):p:=h
end Y109
open Y109 in
theorem linden_ptr.calls (a0 r:Int) (w:World) (h:linden_ptr.f a0=some r) :
  Calls Tryz.prog 109 #[Γ a0] w fun e w'=>e=.returned (Γ r)∧Drawn0 w w':=by
 unfold linden_ptr.f at h
 exact FO
def call_Right.f (db da dc:Int):Option (Bool):=if db=0 then (some true) else (if db=1 then (if da=0 then (some (dc==0)) else (some false)) else (if db=2 then (if da=0 then (some (dc==0)) else (some false)) else (some false)))
namespace Y57
theorem F1 {p:Prop} (h:p:=by go_enter Tryz.func57,Tryz.ntmps57;exact FE):p:=h
end Y57
open Y57 in
theorem call_Right.calls (db da dc:Int) (r:Bool) (w:World) (h:call_Right.f db da dc=some r) :
  Calls Tryz.prog 57 #[.agg #[Φ db,.int .u32 da,.int .u32 dc]] w fun e w'=>e=.returned (.bool r)∧Below w.heap.size w w':=by
 unfold call_Right.f at h
 exact FO
def jostleref06_Sentinels.f (db da dc dd de df dg:Int):Option (Int):=if db=0 then (some 0) else (some 2)
namespace Y32
theorem F1 {p:Prop} (h:p:=by go_enter Tryz.func32,Tryz.ntmps32;exact FE):p:=h
end Y32
open Y32 in
theorem jostleref06_Sentinels.calls (db da dc dd de df dg r:Int) (w:World) (h:jostleref06_Sentinels.f db da dc dd de df dg=some r) :
  Calls Tryz.prog 32 #[.agg #[Φ db,Φ da,Φ dc,Φ dd,Φ de,Φ df,Φ dg]] w fun e w'=>e=.returned (Φ r)∧Below w.heap.size w w':=by
 unfold jostleref06_Sentinels.f at h
 exact FO
def jostleref06_Right.j0:Nat→Bool→Int→Int→Int→Int→Int→Int→Int→Option (Bool)
 |0,_,_,_,_,_,_,_,_=>none
 |k+1,x40,x218000,x218001,x218002,x218003,x218004,x218005,x218006=>if x40=true then (some false) else (if x218004<1 then (some false) else (if x218004>16 then (some false) else (if x218005<1 then (some false) else (if x218005>16 then (some false) else (if x218006<1 then (some false) else (if x218006>64 then (some false) else ((jostleref06_Sentinels.f x218000 x218001 x218002 x218003 x218004 x218005 x218006).bind fun t218=>(some (decide (x218002>t218))))))))))
def jostleref06_Right.f (k:Nat) (db da dc dd de df dg:Int):Option (Bool):=if db<0 then (jostleref06_Right.j0 k true db da dc dd de df dg) else (if db>2 then (jostleref06_Right.j0 k true db da dc dd de df dg) else (if da<1 then (jostleref06_Right.j0 k true db da dc dd de df dg) else (if da>6 then (jostleref06_Right.j0 k true db da dc dd de df dg) else (if dc<1 then (jostleref06_Right.j0 k true db da dc dd de df dg) else (if dc>64 then (jostleref06_Right.j0 k true db da dc dd de df dg) else (if dd<1 then (jostleref06_Right.j0 k true db da dc dd de df dg) else (jostleref06_Right.j0 k (decide (dd>6)) db da dc dd de df dg)))))))
theorem jostleref06_Right.calls (k:Nat) (db da dc dd de df dg:Int) (r:Bool) (w:World) (h:jostleref06_Right.f k db da dc dd de df dg=some r) :
  Calls Tryz.prog 13 #[.agg #[Φ db,Φ da,Φ dc,Φ dd,Φ de,Φ df,Φ dg]] w fun e w'=>e=.returned (.bool r)∧Below w.heap.size w w':=by
 rcases k with _|k<;>simp only [jostleref06_Right.f] at h
 iterate 24 (all_goals (try (first|(rw [Option.bind_eq_some_iff] at h;obtain ⟨_,_,h⟩:=h)|(split at h<;>rename_i k<;>first|(have k2:_=true:=k;subst k2)|(have k2:=f_b k;subst k2)|have:=FK))))
 all_goals (try simp only [jostleref06_Right.j0,if_true,decide_eq_true_eq] at h)
 iterate 24 (all_goals (try (first|(rw [Option.bind_eq_some_iff] at h;obtain ⟨_,_,h⟩:=h)|(split at h<;>rename_i k<;>first|(have k2:_=true:=k;subst k2)|(have k2:=f_b k;subst k2)|have:=FK))))
 all_goals (cases h<;>(go_enter Tryz.func13,Tryz.ntmps13;exact FE))
def jostletop_of.f (k:Nat) (db da dc dd de df dg a1:Int):Option (Int×Int×Int×Int×Int×Int×Int×Bool):=(jostleref06_Right.f k a1 da dc dd de df dg).bind fun t221=>(some (a1,da,dc,dd,de,df,dg,t221))
theorem jostletop_of.calls (k:Nat) (db da dc dd de df dg a1 r1 r2 r3 r4 r5 r6 r7:Int) (r8:Bool) (w:World) (h:jostletop_of.f k db da dc dd de df dg a1=some (r1,r2,r3,r4,r5,r6,r7,r8)) :
  Calls Tryz.prog 6 #[.agg #[Φ db,Φ da,Φ dc,Φ dd,Φ de,Φ df,Φ dg],Φ a1] w fun e w'=>e=.returned (.tuple #[.agg #[Φ r1,Φ r2,Φ r3,Φ r4,Φ r5,Φ r6,Φ r7],.bool r8])∧Below w.heap.size w w':=by
 have hu23:=Tryz.underlying23
 have HB:=Az.m (Below.refl w.heap.size w)
 have H:((jostleref06_Right.f k a1 da dc dd de df dg).bind fun t221=>(some (a1,da,dc,dd,de,df,dg,t221)))=some (r1,r2,r3,r4,r5,r6,r7,r8):=h
 clear h
 replace H:=Option.bind_eq_some_iff.mp H
 obtain ⟨t221,A30,H⟩:=H
 replace H:(some (a1,da,dc,dd,de,df,dg,t221))=some (r1,r2,r3,r4,r5,r6,r7,r8):=H
 have A3:=Az.m A30
 clear A30
 simp only [Option.some.injEq,Prod.mk.injEq] at H
 obtain ⟨rfl,rfl,rfl,rfl,rfl,rfl,rfl,rfl⟩:=H
 go_enter Tryz.func6,Tryz.ntmps6
 try go_wp2_with (first|((with_reducible refine Al (N:=2) rfl ?_);refine Am ?hg (N:=2) ?hd (cs:=#[Φ db,Φ da,Φ dc,Φ dd,Φ de,Φ df,Φ dg]) (t:=23) ?hr ?_;(case hd=>rfl);(case hg=>rfl);(case hr=>exact Λ18);intro gb219 hg w4 hbox hb;have n0_:=Az.m (Ag Λ134 hb);have n1_:=Az.m (hbox);have n2_:=Az.m ((by rw [hg];exact (Bz Λ134):w.heap.size≤gb219));have n3_:=Az.m ((by rw [hg];exact (Bz Λ134):w.heap.size≤gb219));clear HB;have HB:=n0_;have BK219:=n1_;have GW219:=n2_;have GE219:=n3_;clear n0_ n1_ n2_ n3_;clear hb hbox hg)|((with_reducible refine Al (N:=4) rfl ?_);refine Am ?hg (N:=4) ?hd (cs:=#[Φ 0,Φ 0,Φ 0,Φ 0,Φ 0,Φ 0,Φ 0]) (t:=23) ?hr ?_;(case hd=>rfl);(case hg=>rfl);(case hr=>exact Λ18);intro gb220 hg w5 hbox hb;have n0_:=Az.m (Ac (g:=gb219) (o:=.cells #[Φ db,Φ da,Φ dc,Φ dd,Φ de,Φ df,Φ dg] 23 (0,0)) Λ13 hb);have n1_:=Az.m (Ag Λ132 hb);have n2_:=Az.m (hbox);have n3_:=Az.m ((by rw [hg];exact (Bz Λ132):w.heap.size≤gb220));have n4_:=Az.m ((by rw [hg];exact (Bz Λ132):w.heap.size≤gb220));have n5_:=Az.m ((by rw [hg];exact Nat.ne_of_lt (Bb (g:=gb219) (o:=.cells #[Φ db,Φ da,Φ dc,Φ dd,Φ de,Φ df,Φ dg] 23 (0,0)) Λ13):gb219≠gb220));have n6_:=Az.m ((by rw [hg];exact Nat.ne_of_gt (Bb (g:=gb219) (o:=.cells #[Φ db,Φ da,Φ dc,Φ dd,Φ de,Φ df,Φ dg] 23 (0,0)) Λ13):gb220≠gb219));clear BK219;clear HB;have BK219:=n0_;have HB:=n1_;have BK220:=n2_;have GW220:=n3_;have GE220:=n4_;have NB219_220:=n5_;have NB220_219:=n6_;clear n0_ n1_ n2_ n3_ n4_ n5_ n6_;clear hb hbox hg;have hnb6:=NB219_220.o;have hnc6:=NB220_219.o;obtain ⟨hcz7_0,hcz7_1,hcz7_2,hcz7_3,hcz7_4,hcz7_5,hcz7_6⟩:=bc7 BK219.o;have hfz7_0:=Ab BK219.o))
 have n0_:Az ((w5.setCell (Ψ gb219 0) (Φ a1)).heap[gb219]?=some (.cells #[Φ a1,Φ da,Φ dc,Φ dd,Φ de,Φ df,Φ dg] 23 (0,0))):=⟨by (with_reducible repeat (first|refine Cg ?_ _|refine Bl ?_|refine Ba ?_ _));refine Ae (cs:=#[Φ db,Φ da,Φ dc,Φ dd,Φ de,Φ df,Φ dg]) ?_ 0 _ rfl;(with_reducible repeat (first|refine Cg ?_ _|refine Bl ?_|refine Ba ?_ _));exact BK219.o⟩
 have n1_:Az ((w5.setCell (Ψ gb219 0) (Φ a1)).heap[gb220]?=some (.cells #[Φ 0,Φ 0,Φ 0,Φ 0,Φ 0,Φ 0,Φ 0] 23 (0,0))):=⟨by (with_reducible repeat (first|refine Cg ?_ _|refine Bl ?_|refine Ba ?_ _));refine Av ?_ NB220_219.o _;(with_reducible repeat (first|refine Cg ?_ _|refine Bl ?_|refine Ba ?_ _));exact BK220.o⟩
 have n2_:Az (Below w.heap.size w (w5.setCell (Ψ gb219 0) (Φ a1))):=⟨by repeat (first|(with_reducible first|exact HB.o|apply Af|apply At|apply Bu|refine Aq ?_ GE219.o|refine Aq ?_ GE220.o)|exact HB.o)⟩
 (try clear BK219)
 (try clear BK220)
 (try clear HB)
 generalize (w5.setCell (Ψ gb219 0) (Φ a1))=w8 at n0_ n1_ n2_ ⊢
 have BK219:=n0_
 have BK220:=n1_
 have HB:=n2_
 clear n0_ n1_ n2_
 have n0_:=Az.m (Bl BK219.o)
 have n1_:=Az.m (Bl BK220.o)
 have n2_:=Az.m (Bu HB.o)
 clear BK219
 clear BK220
 clear HB
 have BK219:=n0_
 have BK220:=n1_
 have HB:=n2_
 clear n0_ n1_ n2_
 refine qA (n:=5) (S:=fun w'=>w'.cell? (Ψ gb219 0)=some (Φ a1)∧w'.cell? (Ψ gb219 1)=some (Φ da)∧w'.cell? (Ψ gb219 2)=some (Φ dc)∧w'.cell? (Ψ gb219 3)=some (Φ dd)∧w'.cell? (Ψ gb219 4)=some (Φ de)∧w'.cell? (Ψ gb219 5)=some (Φ df)∧w'.cell? (Ψ gb219 6)=some (Φ dg)) (ds:=[]) #[false,false,false,false,false] Zk rfl rfl ⟨(Aa BK219.o 0).trans rfl,(Aa BK219.o 1).trans rfl,(Aa BK219.o 2).trans rfl,(Aa BK219.o 3).trans rfl,(Aa BK219.o 4).trans rfl,(Aa BK219.o 5).trans rfl,(Aa BK219.o 6).trans rfl⟩ (fun hZ8=>?_)
 generalize w8.drew=w9 at BK219 BK220 HB hZ8 ⊢
 refine oY (i:=0) (N:=some 8) (v:=?_) (a':=?_) #[true,false,false,false,false] rfl rfl Zk (fun _ _ _ h=>h) (Or.inl ⟨by rfl,?_⟩) hZ8 ?_ ?_
 rotate_left
 .rintro w' ⟨s0,s1,s2,s3,s4,s5,s6⟩
  go_simp
  with_reducible rfl
 rotate_left
 .simp only [Act.put,List.setIfInBounds_toArray,List.set_cons_zero,List.set_cons_succ,Ou,fP]
  rfl
 refine oY (i:=1) (N:=some 9) (v:=?_) (a':=?_) #[true,true,false,false,false] rfl rfl Zk (fun _ _ _ h=>h) (Or.inl ⟨by rfl,?_⟩) hZ8 ?_ ?_
 rotate_left
 .rintro w' ⟨s0,s1,s2,s3,s4,s5,s6⟩
  go_simp
  with_reducible rfl
 rotate_left
 .simp only [Act.put,List.setIfInBounds_toArray,List.set_cons_zero,List.set_cons_succ,Ou,fP]
  rfl
 refine tM (i:=2) (N:=some 10) #[true,true,true,false,false] rfl rfl Zk Zd (fun K hK=>?_)
 refine uH Tryz.func13 Zk rfl #[.agg #[Φ a1,Φ da,Φ dc,Φ dd,Φ de,Φ df,Φ dg]] (by rfl) rfl rfl Λ11 ?_
 with_reducible refine (jostleref06_Right.calls k a1 da dc dd de df dg t221 _ A3.o).mono ?_
 rintro e w10 ⟨rfl,hb⟩
 refine ⟨_,rfl,?_⟩
 have n0_:=Az.m (Ac (g:=gb219) (o:=.cells #[Φ a1,Φ da,Φ dc,Φ dd,Φ de,Φ df,Φ dg] 23 (0,0)) Λ13 hb)
 have n1_:=Az.m (Ac (g:=gb220) (o:=.cells #[Φ 0,Φ 0,Φ 0,Φ 0,Φ 0,Φ 0,Φ 0] 23 (0,0)) (by (with_reducible repeat (first|refine Cg ?_ _|refine Bl ?_|refine Ba ?_ _));exact BK220.o) hb)
 have n2_:=Az.m (Ag (by repeat (first|(with_reducible first|exact HB.o|apply Af|apply At|apply Bu|refine Aq ?_ GE219.o|refine Aq ?_ GE220.o)|exact HB.o)) hb)
 clear BK219
 clear BK220
 clear HB
 have BK219:=n0_
 have BK220:=n1_
 have HB:=n2_
 clear n0_ n1_ n2_
 (try clear hb)
 (try clear hb2)
 (try clear hk)
 (try clear hi)
 refine hK.out _ _ ⟨(Aa BK219.o 0).trans rfl,(Aa BK219.o 1).trans rfl,(Aa BK219.o 2).trans rfl,(Aa BK219.o 3).trans rfl,(Aa BK219.o 4).trans rfl,(Aa BK219.o 5).trans rfl,(Aa BK219.o 6).trans rfl⟩ (fun hZ8=>?_)
 clear hK K
 refine tQ (a':=?_) ?_ ?_
 rotate_left
 .show Act.put _ (some 10) _=_
  simp only [Act.put,List.setIfInBounds_toArray,List.set_cons_zero,List.set_cons_succ,Ou,fP]
  rfl
 refine tM (i:=3) (N:=none) #[true,true,true,true,false] rfl rfl Zk Zd (fun K hK=>?_)
 have hs11:w10.cell? (Ψ gb220 0)=some (Φ 0):=(Aa BK220.o 0).trans rfl
 have hfs11:=Ab BK220.o 0
 have hns11_0:=NB219_220.o
 have hms11_0:=NB220_219.o
 have hs12:w10.cell? (Ψ gb220 1)=some (Φ 0):=(Aa BK220.o 1).trans rfl
 have hfs12:=Ab BK220.o 1
 have hns12_0:=NB219_220.o
 have hms12_0:=NB220_219.o
 have hs13:w10.cell? (Ψ gb220 2)=some (Φ 0):=(Aa BK220.o 2).trans rfl
 have hfs13:=Ab BK220.o 2
 have hns13_0:=NB219_220.o
 have hms13_0:=NB220_219.o
 have hs14:w10.cell? (Ψ gb220 3)=some (Φ 0):=(Aa BK220.o 3).trans rfl
 have hfs14:=Ab BK220.o 3
 have hns14_0:=NB219_220.o
 have hms14_0:=NB220_219.o
 have hs15:w10.cell? (Ψ gb220 4)=some (Φ 0):=(Aa BK220.o 4).trans rfl
 have hfs15:=Ab BK220.o 4
 have hns15_0:=NB219_220.o
 have hms15_0:=NB220_219.o
 have hs16:w10.cell? (Ψ gb220 5)=some (Φ 0):=(Aa BK220.o 5).trans rfl
 have hfs16:=Ab BK220.o 5
 have hns16_0:=NB219_220.o
 have hms16_0:=NB220_219.o
 have hs17:w10.cell? (Ψ gb220 6)=some (Φ 0):=(Aa BK220.o 6).trans rfl
 have hfs17:=Ab BK220.o 6
 have hns17_0:=NB219_220.o
 have hms17_0:=NB220_219.o
 refine tF (w1:=?_) (by rfl) rfl ?_ ?_
 rotate_left
 .go_simp
  rfl
 refine hK.out _ _ ⟨((Bh (p:=(Ψ gb220 _)) NB219_220.o _).trans (((Bh (p:=(Ψ gb220 _)) NB219_220.o _).trans (((Bh (p:=(Ψ gb220 _)) NB219_220.o _).trans (((Bh (p:=(Ψ gb220 _)) NB219_220.o _).trans (((Bh (p:=(Ψ gb220 _)) NB219_220.o _).trans (((Bh (p:=(Ψ gb220 _)) NB219_220.o _).trans (((Bh (p:=(Ψ gb220 _)) NB219_220.o _).trans (hZ8.1)))))))))))))),((Bh (p:=(Ψ gb220 _)) NB219_220.o _).trans (((Bh (p:=(Ψ gb220 _)) NB219_220.o _).trans (((Bh (p:=(Ψ gb220 _)) NB219_220.o _).trans (((Bh (p:=(Ψ gb220 _)) NB219_220.o _).trans (((Bh (p:=(Ψ gb220 _)) NB219_220.o _).trans (((Bh (p:=(Ψ gb220 _)) NB219_220.o _).trans (((Bh (p:=(Ψ gb220 _)) NB219_220.o _).trans (hZ8.2.1)))))))))))))),((Bh (p:=(Ψ gb220 _)) NB219_220.o _).trans (((Bh (p:=(Ψ gb220 _)) NB219_220.o _).trans (((Bh (p:=(Ψ gb220 _)) NB219_220.o _).trans (((Bh (p:=(Ψ gb220 _)) NB219_220.o _).trans (((Bh (p:=(Ψ gb220 _)) NB219_220.o _).trans (((Bh (p:=(Ψ gb220 _)) NB219_220.o _).trans (((Bh (p:=(Ψ gb220 _)) NB219_220.o _).trans (hZ8.2.2.1)))))))))))))),((Bh (p:=(Ψ gb220 _)) NB219_220.o _).trans (((Bh (p:=(Ψ gb220 _)) NB219_220.o _).trans (((Bh (p:=(Ψ gb220 _)) NB219_220.o _).trans (((Bh (p:=(Ψ gb220 _)) NB219_220.o _).trans (((Bh (p:=(Ψ gb220 _)) NB219_220.o _).trans (((Bh (p:=(Ψ gb220 _)) NB219_220.o _).trans (((Bh (p:=(Ψ gb220 _)) NB219_220.o _).trans (hZ8.2.2.2.1)))))))))))))),((Bh (p:=(Ψ gb220 _)) NB219_220.o _).trans (((Bh (p:=(Ψ gb220 _)) NB219_220.o _).trans (((Bh (p:=(Ψ gb220 _)) NB219_220.o _).trans (((Bh (p:=(Ψ gb220 _)) NB219_220.o _).trans (((Bh (p:=(Ψ gb220 _)) NB219_220.o _).trans (((Bh (p:=(Ψ gb220 _)) NB219_220.o _).trans (((Bh (p:=(Ψ gb220 _)) NB219_220.o _).trans (hZ8.2.2.2.2.1)))))))))))))),((Bh (p:=(Ψ gb220 _)) NB219_220.o _).trans (((Bh (p:=(Ψ gb220 _)) NB219_220.o _).trans (((Bh (p:=(Ψ gb220 _)) NB219_220.o _).trans (((Bh (p:=(Ψ gb220 _)) NB219_220.o _).trans (((Bh (p:=(Ψ gb220 _)) NB219_220.o _).trans (((Bh (p:=(Ψ gb220 _)) NB219_220.o _).trans (((Bh (p:=(Ψ gb220 _)) NB219_220.o _).trans (hZ8.2.2.2.2.2.1)))))))))))))),((Bh (p:=(Ψ gb220 _)) NB219_220.o _).trans (((Bh (p:=(Ψ gb220 _)) NB219_220.o _).trans (((Bh (p:=(Ψ gb220 _)) NB219_220.o _).trans (((Bh (p:=(Ψ gb220 _)) NB219_220.o _).trans (((Bh (p:=(Ψ gb220 _)) NB219_220.o _).trans (((Bh (p:=(Ψ gb220 _)) NB219_220.o _).trans (((Bh (p:=(Ψ gb220 _)) NB219_220.o _).trans (hZ8.2.2.2.2.2.2))))))))))))))⟩ (fun hZ8=>?_)
 clear hK K
 refine tK (i:=4) (N:=some 5) (v:=?_) (a':=?_) #[true,true,true,true,true] rfl rfl Zk (fun _ _ _ h=>h) (Or.inl ⟨by rfl,?_⟩) ?_ ?_
 rotate_left
 .intro w'
  go_simp
  with_reducible rfl
 rotate_left
 .simp only [Act.put,List.setIfInBounds_toArray,List.set_cons_zero,List.set_cons_succ,Ou,fP]
  rfl
 refine uT Zk ?_
 try go_wp2
 refine bodyPost_ret (cW rfl _ _ gb220 23 #[Φ a1,Φ da,Φ dc,Φ dd,Φ de,Φ df,Φ dg] (0,0) _ rfl (by (with_reducible repeat (first|refine Cg ?_ _|refine Bl ?_|refine Ba ?_ _));refine Ae (cs:=#[Φ a1,Φ da,Φ dc,Φ dd,Φ de,Φ df,Φ 0]) ?_ 6 _ rfl;(with_reducible repeat (first|refine Cg ?_ _|refine Bl ?_|refine Ba ?_ _));refine Ae (cs:=#[Φ a1,Φ da,Φ dc,Φ dd,Φ de,Φ 0,Φ 0]) ?_ 5 _ rfl;(with_reducible repeat (first|refine Cg ?_ _|refine Bl ?_|refine Ba ?_ _));refine Ae (cs:=#[Φ a1,Φ da,Φ dc,Φ dd,Φ 0,Φ 0,Φ 0]) ?_ 4 _ rfl;(with_reducible repeat (first|refine Cg ?_ _|refine Bl ?_|refine Ba ?_ _));refine Ae (cs:=#[Φ a1,Φ da,Φ dc,Φ 0,Φ 0,Φ 0,Φ 0]) ?_ 3 _ rfl;(with_reducible repeat (first|refine Cg ?_ _|refine Bl ?_|refine Ba ?_ _));refine Ae (cs:=#[Φ a1,Φ da,Φ 0,Φ 0,Φ 0,Φ 0,Φ 0]) ?_ 2 _ rfl;(with_reducible repeat (first|refine Cg ?_ _|refine Bl ?_|refine Ba ?_ _));refine Ae (cs:=#[Φ a1,Φ 0,Φ 0,Φ 0,Φ 0,Φ 0,Φ 0]) ?_ 1 _ rfl;(with_reducible repeat (first|refine Cg ?_ _|refine Bl ?_|refine Ba ?_ _));refine Ae (cs:=#[Φ 0,Φ 0,Φ 0,Φ 0,Φ 0,Φ 0,Φ 0]) ?_ 0 _ rfl;(with_reducible repeat (first|refine Cg ?_ _|refine Bl ?_|refine Ba ?_ _));exact BK220.o) Tryz.underlying23 rfl Zk) rfl ?_
 exact ⟨by first|rfl|(simp [errW_none,errW_some]<;>rfl)|(simp [*,errW_none,errW_some]<;>rfl),by repeat (first|(with_reducible first|exact HB.o|apply Af|apply At|apply Bu|refine Aq ?_ GE219.o|refine Aq ?_ GE220.o)|exact HB.o)⟩
def jostleref09_Right.f (db da dc:Int):Option (Bool):=if db=0 then (some true) else (if db=1 then (if da=0 then (some (dc==0)) else (some false)) else (if db=2 then (if da=0 then (some (dc==0)) else (some false)) else (some false)))
namespace Y9
theorem F1 {p:Prop} (h:p:=by go_enter Tryz.func9,Tryz.ntmps9;exact FE):p:=h
end Y9
open Y9 in
theorem jostleref09_Right.calls (db da dc:Int) (r:Bool) (w:World) (h:jostleref09_Right.f db da dc=some r) :
  Calls Tryz.prog 9 #[.agg #[Φ db,.int .u32 da,.int .u32 dc]] w fun e w'=>e=.returned (.bool r)∧Below w.heap.size w w':=by
 unfold jostleref09_Right.f at h
 exact FO
end
end Go.Proofs.YtlejhikddkdanaaGreat.Fns
