/- TopSame, part 1: lemmas on the way. -/
import Derived.ArgAppend
import Derived.Below
import Derived.BigQuiet
import Derived.Deep.AppendLies
import Derived.Deep.CutBlock
import Derived.Deep.DeepCutAuto
import Derived.Deep.Draws
import Derived.Deep.LoopGhost
import Derived.Deep.OwnRows
import Derived.Deep.QuietTactic
import Derived.Deep.RegionHeld3
import Derived.KernelRfl
import Derived.Laws.BitsLemmas
import Derived.Laws.BytesArg
import Derived.Laws.IdiomCopy
import Derived.Laws.MakeOwn
import Derived.Laws.OwnMore
import Derived.Laws.Rows
import Derived.Laws.Slices
import Derived.Laws.StructEq
import Derived.Lib.AppendStr
import Derived.Lib.ConvBytes
import Derived.Maps.AppendAt
import Derived.OrdersHeld
import Derived.OwnWalk
import Derived.RowKit
import Derived.RowKit3
import Derived.Tactics
import Derived.Test.YtlejhikddkdanaaGreatProg
import Derived.WalkKit
import Derived.WideLaws
import Derived.Test.YtlejhikddkdanaaGreatM0
set_option maxHeartbeats 8000000
set_option maxRecDepth 1000000
set_option linter.unusedVariables false
set_option linter.unusedSimpArgs false
namespace Go.Proofs.YtlejhikddkdanaaGreatW.PrintWords
open Go.RowKit
structure Az (p:Prop):Prop where m::(out:p)
theorem Az.o {p:Prop} (h:Az p):p:=h.out
structure Drawn0 (w w':World):Prop where mk::(out:∃ n,w'=w.drewN n)
theorem Drawn0.o {w w':World} (h:Drawn0 w w'):∃ n,w'=w.drewN n:=h.out
theorem Drawn0.refl (w:World):Drawn0 w w:=⟨⟨0,rfl⟩⟩
theorem Drawn0.step {w w':World} (h:Drawn0 w w') (n:Nat):Drawn0 w (w'.drewN n):=by
 obtain ⟨m,rfl⟩:=h
 exact ⟨⟨m+n,World.drewN_drewN ..⟩⟩
theorem Drawn0.below {w w':World} (h:Drawn0 w w'):Below w.heap.size w w':=by
 obtain ⟨n,rfl⟩:=h
 induction n with
 |zero=>exact Below.refl _ _
 |succ n ih=>rw [← World.drew_drewN];exact ih.drew
def rd (xs:List Int) (i:Int):Int:=xs.getD i.toNat 0
def Co (k:IntKind) (xs:List Int):List Value:=xs.map fun x=>.int k x
theorem Qt (k:IntKind) (xs:List Int):(Co k xs).length=xs.length:=by simp [Co]
theorem Af {w W:World} (h:Below w.heap.size w W) (o:Obj):Below w.heap.size w (W.alloc o):=h.alloc h.size o
theorem Da {B:Nat} {w W:World} (h:Below B w W):Below B w W.drew:=⟨h.os,h.tape,h.output,h.size,h.block⟩
theorem At {B:Nat} {w W:World} (h:Below B w W) (n:Nat):Below B w (W.drewN n):=⟨h.os,h.tape,h.output,h.size,h.block⟩
theorem Mb {B:Nat} {w w1 w2:World} (h:Below B w w1) (hB:B≤w1.heap.size) (k:Below w1.heap.size w1 w2):Below B w w2:=
 h.trans ⟨k.os,k.tape,k.output,k.size,fun i hi=>k.block i (Nat.lt_of_lt_of_le hi hB)⟩
theorem Th {w w1:World} (h:Below w.heap.size w w1) (row:Option Nat):w.grownBy w1 row:=⟨h.os,h.tape,h.output,h.size,fun i hi _=>h.block i hi⟩
theorem Ch {w w1:World} (h:Below w.heap.size w w1) {a:Addr} {v:Value} (hc:w.cell? a=some v):w1.cell? a=some v:=(h.cell (World.block_lt_of_cell? w a hc)).trans hc
theorem Dj (g j:Nat):(⟨g,0,none⟩:Addr).add j=⟨g,j,none⟩:=by unfold Addr.add;split<;>simp_all
def ReadsInt (w:World) (k:IntKind) (A:Option Addr) (n:Nat) (xs:List Int):Prop:=
 xs.length=n∧n≤9223372036854775807∧(0<n→∃ ad,A=some ad∧∀ j,j<n→w.cell? (ad.add j)=some (.int k (xs.getD j 0)))
theorem ReadsInt.at_ {w:World} {k:IntKind} {A:Option Addr} {n:Nat} {xs:List Int} (h:ReadsInt w k A n xs) (i:Int) (h0:0≤i) (h1:i<n):∃ ad,A=some ad∧w.cell? (ad.add i.toNat)=some (.int k (rd xs i)):=by
 obtain ⟨ad,e,hc⟩:=h.2.2 Zo
 exact ⟨ad,e,hc _ Zo⟩
theorem ReadsInt.below {w w1:World} {k:IntKind} {A:Option Addr} {n:Nat} {xs:List Int} (h:ReadsInt w k A n xs) (hb:Below w.heap.size w w1):ReadsInt w1 k A n xs:=
 ⟨h.1,h.2.1,fun hn=>by
  obtain ⟨ad,e,hc⟩:=h.2.2 hn
  exact ⟨ad,e,fun j hj=>Ch hb (hc j hj)⟩⟩
theorem Hw (W:World) (base:Nat) (e:TypeId) (size:Nat):W.ownsRow base e size (.slice none 0 0) 0 []:=⟨Zs,.inl ⟨rfl,rfl⟩⟩
theorem Fk {w:World} {base:Nat} {e:TypeId} {size n:Nat} {v:Value} {xs:List Value} (h:w.ownsRow base e size v n xs) (k:Nat) (hk:v.ownBlock=some k):base≤k:=by
 rcases h.2 with ⟨rfl,_⟩|⟨g,cap,cur,rfl,hb,_⟩
 .simp [Value.ownBlock] at hk
 .have:g=k:=by simpa [Value.ownBlock] using hk
  omega
theorem Gk {w:World} {base:Nat} {e:TypeId} {size n:Nat} {v:Value} {xs:List Value} (h:w.ownsRow base e size v n xs) (k:Nat) (hk:v.ownBlock=some k):k<w.heap.size:=by
 rcases h.2 with ⟨rfl,_⟩|⟨g,cap,cur,rfl,hb,hh,_⟩
 .simp [Value.ownBlock] at hk
 .have:g=k:=by simpa [Value.ownBlock] using hk
  subst this
  exact (Array.getElem?_eq_some_iff.1 hh).1
theorem Jb {w w1:World} {base:Nat} {e:TypeId} {size n:Nat} {v:Value} {xs:List Value} (h:w.ownsRow base e size v n xs) (hb:Below w.heap.size w w1):w1.ownsRow base e size v n xs:=
 h.kept (Th hb none) (by cases v.ownBlock<;>simp)
section
variable {P:Program} {ops:Array Oper} {rest:List Oper} {o:Oper} {a:Act} {Q:Exit→Act→World→Prop}
theorem Lq {w0 W:World} (base:Nat) (hgd:o.guard=none) (s x:Operand) (t e:TypeId) (z:Value) (bytes:Nat)
  (ho:o.op=.call {callee:=.builtin .append,args:=#[s,x],argTypes:=#[t,t]})
  (ht:P.underlying t=some (.slice e)) (hinfo:(P.info? e).map (fun i=>(i.zero,i.size,i.bytes))=some (some z,1,bytes)) (hz:z.cells.size=1) (hb0:0<bytes)
  (v:Value) (xs:List Value) (y:Value) (hs:a.eval s=v) (hx:a.eval x=.slice (some ⟨W.heap.size,0,none⟩) 1 1) (h1:y.oneCell'=true)
  (HO:W.ownsRow base e 1 v xs.length xs) (HB:Below base w0 W) (hbase:base≤W.heap.size) (hl:(xs.length+1)*bytes≤140737488355328)
  (h:∀ v1 w1,w1.ownsRow base e 1 v1 (xs++[y]).length (xs++[y])→Below base w0 w1→W.grownBy w1 v.ownBlock→(v1.ownBlock=v.ownBlock∨∃ b,v1.ownBlock=some b∧W.heap.size≤b)→wpList P ops Q rest (a.put o.dst v1) w1) :
  wpList P ops Q (o::rest) a (W.alloc (.cells #[y] e)):=by
 obtain ⟨i0,hi,hzz⟩:=Option.map_eq_some_iff.1 hinfo
 simp only [Prod.mk.injEq] at hzz
 obtain ⟨hz0,hz1,hz2⟩:=hzz
 have hlen:xs.length+1≤140737488355328:=Nat.le_trans (Nat.le_mul_of_pos_right _ hb0) hl
 refine wpList_append_own_at (W.alloc (.cells #[y] e)) hgd s x t ho base e i0 z 1 bytes ht hi hz0 hz1 hz2 hz Zo v xs.length xs hs (HO.alloc _) ⟨W.heap.size,0,none⟩ 1 1 [y] hx rfl
  (World.news_of_block (cs:=#[y]) (t:=e) (fr:=(0,0)) (heap_alloc_new W _)) (by simpa using h1) (by simp only [maxLen];omega) hl (by simp;omega) ?_
 intro v1 w1 hown hg _ hat
 refine h v1 w1 (by simpa using hown) ((HB.alloc hbase _).grown hg (by simp;omega) (Fk HO)) (World.grownBy.trans (World.grownBy_alloc W _ _) hg) ?_
 rcases hat with hat|hat
 .exact .inl hat
 .exact .inr ⟨_,hat,Zs⟩
theorem Ii {w0 W:World} (base:Nat) (hgd:o.guard=none) (s x:Operand) (t e:TypeId) (k:IntKind) (bytes:Nat)
  (ho:o.op=.call {callee:=.builtin .append,args:=#[s,x],argTypes:=#[t,t]})
  (ht:P.underlying t=some (.slice e)) (hinfo:(P.info? e).map (fun i=>(i.zero,i.size,i.bytes))=some (some (.int k 0),1,bytes)) (hb0:0<bytes)
  (v:Value) (xs:List Int) (y:Int) (hs:a.eval s=v) (hx:a.eval x=.slice (some ⟨W.heap.size,0,none⟩) 1 1)
  (HO:W.ownsRow base e 1 v xs.length (Co k xs)) (HB:Below base w0 W) (hbase:base≤W.heap.size) (hl:(xs.length+1)*bytes≤140737488355328)
  (h:∀ v1 w1,w1.ownsRow base e 1 v1 (xs++[y]).length (Co k (xs++[y]))→Below base w0 w1→W.grownBy w1 v.ownBlock→(v1.ownBlock=v.ownBlock∨∃ b,v1.ownBlock=some b∧W.heap.size≤b)→wpList P ops Q rest (a.put o.dst v1) w1) :
  wpList P ops Q (o::rest) a (W.alloc (.cells #[.int k y] e)):=
 Lq base hgd s x t e (.int k 0) bytes ho ht hinfo rfl hb0 v (Co k xs) (.int k y) hs hx rfl (by rw [Qt];exact HO) HB hbase (by rw [Qt];exact hl)
  fun v1 w1 hown hB hg hat=>h v1 w1 (by simpa [Co] using hown) hB hg hat
end
section
variable {P:Program}
theorem Oc (t e:TypeId) (k:IntKind) (bytes:Nat) (ht:P.underlying t=some (.slice e)) (hinfo:(P.info? e).map (fun i=>(i.zero,i.size,i.bytes))=some (some (.int k 0),1,bytes)) (hb0:0<bytes)
  (m:Nat) (hn:m*bytes≤281474976710656) :
  ∀ W:World,(Instr.makeSlice t (.int .i64 (m:Int)) (.int .i64 (m:Int))).run P W=.ok (.slice (some ⟨W.heap.size,0,none⟩) m m) (W.alloc (.cells (madeCells #[.int k 0] m) e)):=by
 intro W
 have hm:m≤281474976710656:=Nat.le_trans (Nat.le_mul_of_pos_right _ hb0) hn
 exact run_make_row' t e (.int k 0) bytes ht hinfo rfl .i64 .i64 m (by rw [Nat.mul_comm];exact hn) Zo W
end
theorem nL (W:World) (base:Nat) (e:TypeId) (k:IntKind) (xs:List Int) (hb:base≤W.heap.size) (hm:xs.length≤9223372036854775807) :
  (W.alloc (.cells (Co k xs).toArray e)).ownsRow base e 1 (.slice (some ⟨W.heap.size,0,none⟩) xs.length xs.length) xs.length (Co k xs):=by
 have h:=World.ownsRow_lit (base:=base) (e:=e) (size:=1) W (Co k xs).toArray xs.length hb (by simpa [maxLen] using hm) (by simp [Co])
 simpa using h
section
variable {P:Program} {ops:Array Oper} {rest:List Oper} {o:Oper} {a:Act} {Q:Exit→Act→World→Prop}
theorem Px {w0 W:World} (base:Nat) (hgd:o.guard=none) (s x:Operand) (t e:TypeId) (k:IntKind) (bytes:Nat)
  (ho:o.op=.call {callee:=.builtin .append,args:=#[s,x],argTypes:=#[t,t]})
  (ht:P.underlying t=some (.slice e)) (hinfo:(P.info? e).map (fun i=>(i.zero,i.size,i.bytes))=some (some (.int k 0),1,bytes)) (hb0:0<bytes)
  (v:Value) (xs ys:List Int) (A:Option Addr) (m c:Nat) (hs:a.eval s=v) (hx:a.eval x=.slice A m c)
  (HO:W.ownsRow base e 1 v xs.length (Co k xs)) (HR:ReadsInt W k A m ys) (HB:Below base w0 W) (hbase:base≤W.heap.size) (hl:(xs.length+m)*bytes≤140737488355328)
  (h:∀ v1 w1,w1.ownsRow base e 1 v1 (xs++ys).length (Co k (xs++ys))→Below base w0 w1→W.grownBy w1 v.ownBlock→(v1.ownBlock=v.ownBlock∨∃ b,v1.ownBlock=some b∧W.heap.size≤b)→wpList P ops Q rest (a.put o.dst v1) w1) :
  wpList P ops Q (o::rest) a W:=by
 obtain ⟨i0,hi,hzz⟩:=Option.map_eq_some_iff.1 hinfo
 simp only [Prod.mk.injEq] at hzz
 obtain ⟨hz0,hz1,hz2⟩:=hzz
 have hm:ys.length=m:=HR.1
 have hlen:xs.length+m≤140737488355328:=Nat.le_trans (Nat.le_mul_of_pos_right _ hb0) hl
 have hrun:∃ v1 w1,(Builtin.append_ #[t,t] o.type #[v,.slice A m c]).run P W=.ok v1 w1∧w1.ownsRow base e 1 v1 (xs++ys).length (Co k (xs++ys))∧W.grownBy w1 v.ownBlock∧(v1.ownBlock=v.ownBlock∨v1.ownBlock=some W.heap.size):=by
  rcases A with _|ad
  .have h0:m=0:=by
    rcases Nat.eq_zero_or_pos m with h0|h0
    .exact h0
    .obtain ⟨ad,h,_⟩:=HR.2.2 h0
     cases h
   subst h0
   obtain rfl:ys=[]:=List.eq_nil_of_length_eq_zero hm
   refine ⟨v,W,?_,by simpa using HO,World.grownBy.refl W _,.inl rfl⟩
   rcases HO.2 with ⟨rfl,hn⟩|⟨g,cap,cur,rfl,_,_,hnc,_⟩
   .simp [Builtin.append_,run_underlying ht,sizeOf,typeInfo,hi,Builtin.lenOf,Builtin.firstCells]
   .simp [Builtin.append_,run_underlying ht,sizeOf,typeInfo,hi,Builtin.lenOf,Builtin.firstCells,hnc,storeCells]
  .have hcells:∀ j u,(Co k ys)[j]?=some u→W.cell? (ad.add j)=some u:=by
    intro j u hu
    have hj:j<ys.length:=by
     rcases Nat.lt_or_ge j ys.length with h|h
     .exact h
     .simp [Co,List.getElem?_eq_none h] at hu
    obtain ⟨ad',h',hc⟩:=HR.2.2 Zo
    injection h' with h'
    subst h'
    have:=hc j Zo
    simp [Co,List.getElem?_eq_getElem hj] at hu
    subst hu
    rw [this]
    simp [List.getD_eq_getElem?_getD,List.getElem?_eq_getElem hj]
   obtain ⟨v1,w1,hr,h2,h3,_,h5⟩:=run_append_own_at (P:=P) W base t o.type e i0 (.int k 0) 1 bytes ht hi hz0 hz1 hz2 rfl Zo v xs.length (Co k xs) HO ad m c (Co k ys) (by simp [Co,hm]) hcells
    (by intro u hu;simp only [Co,List.mem_map] at hu;obtain ⟨q,_,rfl⟩:=hu;rfl) (by simp only [maxLen];omega) hl hbase
   exact ⟨v1,w1,hr,by simpa [Co,hm] using h2,h3,h5⟩
 obtain ⟨v1,w1,hr,hown,hg,hat⟩:=hrun
 refine wpList_plain hgd fun K hK=>?_
 unfold Oper.wp execOp
 simp only [ho,resolve,invoke,builtin,Sem.run_bind,Sem.run_pure,Result.andThen_ok,List.map_toArray,List.map_cons,List.map_nil,hs,hx,hr]
 refine hK _ _ (h v1 w1 hown (HB.grown hg hbase (Fk HO)) hg ?_)
 rcases hat with hat|hat
 .exact .inl hat
 .exact .inr ⟨_,hat,Nat.le_refl _⟩
end
def Reps {α:Type} (R:α→List Value→Prop) (size:Nat) (ps:List α) (cs:List Value):Prop:=
 cs.length=ps.length*size∧∀ j p,ps[j]?=some p→R p ((cs.drop (j*size)).take size)
theorem Reps.none {α:Type} (R:α→List Value→Prop) (size:Nat):Reps R size [] []:=⟨Zs,fun j p h=>by simp at h⟩
theorem Reps.snoc {α:Type} {R:α→List Value→Prop} {size:Nat} {ps:List α} {cs c:List Value} {p:α} (h:Reps R size ps cs) (hp:R p c) (hc:c.length=size):Reps R size (ps++[p]) (cs++c):=by
 refine ⟨by rw [List.length_append,h.1,hc,List.length_append,List.length_singleton,Nat.add_mul,Nat.one_mul],fun j q hq=>?_⟩
 rcases Nat.lt_or_ge j ps.length with hj|hj
 .rw [List.getElem?_append_left hj] at hq
  have h1:j*size+size≤cs.length:=by rw [h.1,← Nat.succ_mul];exact Nat.mul_le_mul_right _ hj
  have h2:=h.2 j q hq
  rw [List.drop_append_of_le_length Zo,List.take_append_of_le_length (by rw [List.length_drop];omega)]
  exact h2
 .have hj':j=ps.length:=by
   have:=(List.getElem?_eq_some_iff.1 hq).1
   rw [List.length_append,List.length_singleton] at this
   omega
  subst hj'
  have hq':p=q:=by simpa using hq
  subst hq'
  rw [← h.1,List.drop_left,← hc,List.take_length]
  exact hp
theorem Reps.imp_ {α:Type} {R R':α→List Value→Prop} {size:Nat} {ps:List α} {cs:List Value} (h:Reps R size ps cs) (hR:∀ p c,R p c→R' p c):Reps R' size ps cs:=⟨h.1,fun j p hj=>hR _ _ (h.2 j p hj)⟩
def ReadsRow {α:Type} (R:α→List Value→Prop) (size:Nat) (w:World) (A:Option Addr) (n:Nat) (ps:List α):Prop:=
 ps.length=n∧n≤9223372036854775807∧(0<n→∃ ad,A=some ad∧∀ j p,ps[j]?=some p→∃ c,c.length=size∧R p c∧∀ i u,c[i]?=some u→w.cell? (ad.add (j*size+i))=some u)
theorem ReadsRow.get_ {α:Type} {R:α→List Value→Prop} {size:Nat} {w:World} {A:Option Addr} {n:Nat} {ps:List α} (h:ReadsRow R size w A n ps) (d:α) (i:Int) (h0:0≤i) (h1:i<n) :
  ∃ ad c,A=some ad∧c.length=size∧R (ps.getD i.toNat d) c∧∀ j u,c[j]?=some u→w.cell? (ad.add (i.toNat*size+j))=some u:=by
 obtain ⟨ad,e,hc⟩:=h.2.2 Zo
 have hl:i.toNat<ps.length:=by have:=h.1;omega
 obtain ⟨c,hs,hr,hcell⟩:=hc i.toNat _ (List.getElem?_eq_getElem hl)
 refine ⟨ad,c,e,hs,?_,hcell⟩
 rw [List.getD_eq_getElem?_getD,List.getElem?_eq_getElem hl]
 exact hr
theorem ReadsRow.imp_ {α:Type} {R R':α→List Value→Prop} {size:Nat} {w w1:World} {A:Option Addr} {n:Nat} {ps:List α} (h:ReadsRow R size w A n ps) (hb:Below w.heap.size w w1) (hR:∀ p c,R p c→R' p c):ReadsRow R' size w1 A n ps:=
 ⟨h.1,h.2.1,fun hn=>by
  obtain ⟨ad,e,hc⟩:=h.2.2 hn
  refine ⟨ad,e,fun j p hj=>?_⟩
  obtain ⟨c,hs,hr,hcell⟩:=hc j p hj
  exact ⟨c,hs,hR _ _ hr,fun i u hu=>Ch hb (hcell i u hu)⟩⟩
theorem Ug {α:Type} {R:α→List Value→Prop} {w:World} {base n size:Nat} {e:TypeId} {v:Value} {ps:List α} {cs:List Value} (h:w.ownsRow base e size v n cs) (hR:Reps R size ps cs) (hn:ps.length=n) :
  ∃ A c,v=.slice A n c∧ReadsRow R size w A n ps:=by
 rcases Nat.eq_zero_or_pos n with h0|h0
 .rcases h.2 with ⟨rfl,rfl⟩|⟨g,cap,cur,rfl,_⟩
  .exact ⟨none,0,rfl,hn,Zo,fun hp=>absurd hp Zo⟩
  .exact ⟨_,cap,rfl,hn,Zo,fun hp=>absurd hp Zo⟩
 .obtain ⟨g,cap,rfl,_,_⟩:=h.form h0
  have hm:n≤9223372036854775807:=by
   rcases h.2 with ⟨_,h1⟩|⟨g',cap',cur,he,_,_,h1,h2,_⟩
   .omega
   .simp only [maxLen] at h2
    omega
  refine ⟨_,cap,rfl,hn,hm,fun _=>⟨_,rfl,fun j p hj=>⟨(cs.drop (j*size)).take size,?_,hR.2 j p hj,fun i u hu=>?_⟩⟩⟩
  .have hjl:=(List.getElem?_eq_some_iff.1 hj).1
   have h1:j*size+size≤cs.length:=by rw [hR.1,← Nat.succ_mul];exact Nat.mul_le_mul_right _ hjl
   rw [List.length_take,List.length_drop]
   omega
  .refine h.cells (g:=g) rfl _ u ?_
   rw [List.getElem?_take] at hu
   split at hu
   .rw [List.getElem?_drop] at hu
    exact hu
   .cases hu
theorem Lj (ad:Addr) (m j:Nat) (hj:0<j):ad.add (m+j)=⟨(ad.add m).block,(ad.add m).off+j,none⟩:=by
 unfold Addr.add
 by_cases hm:m=0
 .subst hm
  simp [Nat.ne_of_gt hj]
 .simp [hm,Nat.add_assoc]
section
variable {P:Program} {ops:Array Oper} {rest:List Oper} {o:Oper} {a:Act} {Q:Exit→Act→World→Prop}
theorem Hk {w0 W:World} (base:Nat) (hgd:o.guard=none) (s x:Operand) (t e:TypeId) (z:Value) (size bytes:Nat)
  (ho:o.op=.call {callee:=.builtin .append,args:=#[s,x],argTypes:=#[t,t]})
  (ht:P.underlying t=some (.slice e)) (hinfo:(P.info? e).map (fun i=>(i.zero,i.size,i.bytes))=some (some z,size,bytes)) (hz:z.cells.size=size) (hs0:0<size) (hb0:0<bytes)
  (v:Value) (n:Nat) (xs ys:List Value) (hs:a.eval s=v) (hx:a.eval x=.slice (some ⟨W.heap.size,0,none⟩) 1 1) (hys:ys.length=size) (h1:∀ u ∈ ys,u.oneCell'=true)
  (HO:W.ownsRow base e size v n xs) (HB:Below base w0 W) (hbase:base≤W.heap.size) (hl:(n+1)*bytes≤140737488355328)
  (h:∀ v1 w1,w1.ownsRow base e size v1 (n+1) (xs++ys)→Below base w0 w1→W.grownBy w1 v.ownBlock→(v1.ownBlock=v.ownBlock∨∃ b,v1.ownBlock=some b∧W.heap.size≤b)→wpList P ops Q rest (a.put o.dst v1) w1) :
  wpList P ops Q (o::rest) a (W.alloc (.cells ys.toArray e)):=by
 obtain ⟨i0,hi,hzz⟩:=Option.map_eq_some_iff.1 hinfo
 simp only [Prod.mk.injEq] at hzz
 obtain ⟨hz0,hz1,hz2⟩:=hzz
 have hlen:n+1≤140737488355328:=Nat.le_trans (Nat.le_mul_of_pos_right _ hb0) hl
 refine wpList_append_own_at (W.alloc (.cells ys.toArray e)) hgd s x t ho base e i0 z size bytes ht hi hz0 hz1 hz2 hz hs0 v n xs hs (HO.alloc _) ⟨W.heap.size,0,none⟩ 1 1 ys hx (by rw [hys];simp)
  (by simpa using World.news_of_block (cs:=ys.toArray) (t:=e) (fr:=(0,0)) (heap_alloc_new W (.cells ys.toArray e))) h1 (by simp only [maxLen];omega) hl (by simp;omega) ?_
 intro v1 w1 hown hg _ hat
 refine h v1 w1 hown ((HB.alloc hbase _).grown hg (by simp;omega) (Fk HO)) (World.grownBy.trans (World.grownBy_alloc W _ _) hg) ?_
 rcases hat with hat|hat
 .exact .inl hat
 .exact .inr ⟨_,hat,Zs⟩
end
theorem Kr {w:World} {base:Nat} {e t:TypeId} {size n g:Nat} {v:Value} {xs:List Value} {cs:Array Value} (h:w.ownsRow base e size v n xs) (hg:w.heap[g]?=some (.cells cs t (0,0))) (hne:e≠t):some g≠v.ownBlock:=by
 rcases h.2 with ⟨rfl,_⟩|⟨g',cap,cur,rfl,_,hh,_⟩
 .simp [Value.ownBlock]
 .intro he
  have:g=g':=by simpa [Value.ownBlock] using he
  subst this
  rw [hg] at hh
  injection hh with hh
  injection hh with _ ht
  exact hne ht.symm
theorem Ct {w:World} {base:Nat} {e:TypeId} {size n:Nat} {v:Value} {xs:List Value} (h:w.ownsRow base e size v n xs) {p:Addr} (hne:some p.block≠v.ownBlock) (u:Value):(w.setCell p u).ownsRow base e size v n xs:=by
 obtain ⟨h1,h2⟩:=h
 refine ⟨h1,?_⟩
 rcases h2 with h2|⟨g,cap,cur,rfl,hg,hh,r⟩
 .exact .inl h2
 .exact .inr ⟨g,cap,cur,rfl,hg,by rw [Below.heap_setCell _ _ _ _ (fun e=>hne (by rw [e];rfl))];exact hh,r⟩
theorem blk_set {w:World} {g:Nat} {t:TypeId} {cs:Array Value} (h:w.heap[g]?=some (.cells cs t (0,0))) (i:Nat) (u:Value):(w.setCell ⟨g,i,none⟩ u).heap[g]?=some (.cells (cs.setIfInBounds i u) t (0,0)):=by
 simp [World.setCell,Array.getElem?_modify,h]
theorem Av {w:World} {g:Nat} {t:TypeId} {cs:Array Value} (h:w.heap[g]?=some (.cells cs t (0,0))) {p:Addr} (hp:g≠p.block) (u:Value):(w.setCell p u).heap[g]?=some (.cells cs t (0,0)):=(Below.heap_setCell w p u g hp).trans h
theorem Bb {w:World} {g:Nat} {o:Obj} (h:w.heap[g]?=some o):g<w.heap.size:=(Array.getElem?_eq_some_iff.1 h).1
theorem Aa {w:World} {g:Nat} {t:TypeId} {cs:Array Value} (h:w.heap[g]?=some (.cells cs t (0,0))) (i:Nat):w.cell? ⟨g,i,none⟩=cs[i]?:=cell_of_row w g i cs t (0,0) h
theorem Ab {w:World} {g:Nat} {t:TypeId} {cs:Array Value} (h:w.heap[g]?=some (.cells cs t (0,0))) (i:Nat):w.frozen? ⟨g,i,none⟩=false:=by simp [World.frozen?,h]
theorem Ed {w w1:World} {g:Nat} {o:Obj} {row:Option Nat} (h:w.heap[g]?=some o) (hg:w.grownBy w1 row) (hne:some g≠row):w1.heap[g]?=some o:=(hg.block g (Bb h) hne).trans h
theorem An {w:World} {g g':Nat} {t t':TypeId} {cs cs':Array Value} (h:w.heap[g]?=some (.cells cs t (0,0))) (h':w.heap[g']?=some (.cells cs' t' (0,0))) (hne:t≠t'):g≠g':=by
 rintro rfl
 rw [h] at h'
 injection h' with h'
 injection h' with _ ht
 exact hne ht
section
variable {P:Program} {ops:Array Oper} {o:Oper} {a:Act} {Q:Exit→Act→World→Prop} {K:Act→World→Prop}
end
theorem dE {w:World} {base base':Nat} {e:TypeId} {size n:Nat} {v:Value} {xs:List Value} (h:w.ownsRow base e size v n xs) (hb:base'≤base):w.ownsRow base' e size v n xs:=by
 obtain ⟨h1,h2⟩:=h
 refine ⟨h1,?_⟩
 rcases h2 with h2|⟨g,cap,cur,rfl,hg,r⟩
 .exact .inl h2
 .exact .inr ⟨g,cap,cur,rfl,Nat.le_trans hb hg,r⟩
section
variable {α:Type} {enc:α→Value} {d:α}
def eJ (enc:α→Value) (xs:List α):List Value:=xs.map enc
def vT (d:α) (xs:List α) (i:Int):α:=xs.getD i.toNat d
theorem lU (xs:List α) (j:Nat) (h:j<xs.length):(eJ enc xs)[j]?=some (enc (xs.getD j d)):=by
 simp [eJ,List.getElem?_eq_getElem h,List.getD_eq_getElem?_getD]
def ReadsOf (enc:α→Value) (d:α) (w:World) (A:Option Addr) (n:Nat) (xs:List α):Prop:=
 xs.length=n∧n≤9223372036854775807∧(0<n→∃ ad,A=some ad∧∀ j,j<n→w.cell? (ad.add j)=some (enc (xs.getD j d)))
theorem ReadsOf.at_ {w:World} {A:Option Addr} {n:Nat} {xs:List α} (h:ReadsOf enc d w A n xs) (i:Int) (h0:0≤i) (h1:i<n):∃ ad,A=some ad∧w.cell? (ad.add i.toNat)=some (enc (vT d xs i)):=by
 obtain ⟨ad,e,hc⟩:=h.2.2 Zo
 exact ⟨ad,e,hc _ Zo⟩
theorem Lr {w:World} {base n:Nat} {e:TypeId} {v:Value} {xs:List α} (h:w.ownsRow base e 1 v n (eJ enc xs)):∃ A c,v=.slice A n c∧ReadsOf enc d w A n xs:=by
 have hl:xs.length=n:=by have:=h.1;simp [eJ] at this;exact this
 rcases Nat.eq_zero_or_pos n with h0|h0
 .rcases h.2 with ⟨rfl,rfl⟩|⟨g,cap,cur,rfl,_⟩
  .exact ⟨none,0,rfl,hl,Zo,fun hp=>absurd hp Zo⟩
  .exact ⟨_,cap,rfl,hl,Zo,fun hp=>absurd hp Zo⟩
 .obtain ⟨g,cap,rfl,_,_⟩:=h.form h0
  have hm:n≤9223372036854775807:=by
   rcases h.2 with ⟨_,h1⟩|⟨g',cap',cur,he,_,_,h1,h2,_⟩
   .omega
   .simp only [maxLen] at h2
    omega
  exact ⟨_,cap,rfl,hl,hm,fun _=>⟨_,rfl,fun j hj=>h.cells (g:=g) rfl j _ (lU xs j Zo)⟩⟩
end
section
variable {α:Type} {P:Program} {ops:Array Oper} {rest:List Oper} {o:Oper} {a:Act} {Q:Exit→Act→World→Prop}
end
theorem Ba {w:World} {g:Nat} {o:Obj} (h:w.heap[g]?=some o) (o':Obj):(w.alloc o').heap[g]?=some o:=(Below.heap_alloc w o' g (Bb h)).trans h
theorem Bl {w:World} {g:Nat} {o:Obj} (h:w.heap[g]?=some o):w.drew.heap[g]?=some o:=h
theorem Cg {w:World} {g:Nat} {o:Obj} (h:w.heap[g]?=some o) (n:Nat):(w.drewN n).heap[g]?=some o:=h
theorem Ac {w w1:World} {g:Nat} {o:Obj} (h:w.heap[g]?=some o) (hb:Below w.heap.size w w1):w1.heap[g]?=some o:=(hb.block g (Bb h)).trans h
theorem Cc (w:World) (o:Obj):(w.alloc o).heap[w.heap.size]?=some o:=heap_alloc_new w o
section
variable {P:Program}
theorem cW {fn:Func} {p u:Tmp} {ty:TypeId} (h:fn.results=#[.cell p ty,.tmp u]) (tmps:Array Value) (w:World) (g:Nat) (t:TypeId) (cs:Array Value) (fr:Nat×Nat) (d:TypeDesc)
  (hp:tmps.getD p undef=.pointer (some ⟨g,0,none⟩)) (hg:w.heap[g]?=some (.cells cs t fr))
  (hu:P.underlying ty=some d) (hd:(match d with|.struct _|.array _ _=>true|_=>false)=true) (hi:(P.info? ty).map (·.size)=some cs.size) :
  (results fn tmps).run P w=.ok (.tuple #[.agg cs,tmps.getD u undef]) w:=by
 have hp':tmps[p]?.getD undef=.pointer (some ⟨g,0,none⟩):=by simpa using hp
 simp [results,h,hp',asAddr,run_loadVar_row w g t ty cs fr d hg hu hd hi]
end
theorem qR {w:World} {base n m c size:Nat} {e:TypeId} {A:Option Addr} {xs:List Value} (h:w.ownsRow base e size (.slice A m c) n xs):m≤c:=by
 rcases h.2 with ⟨he,_⟩|⟨g,cap,cur,he,_,_,hnc,_⟩
 .injection he with _ h2 h3
  omega
 .injection he with _ h2 h3
  omega
def OwnRow {α:Type} (R:α→List Value→Prop) (e:TypeId) (size:Nat) (w:World) (base:Nat) (v:Value) (ps:List α):Prop:=
 ∃ inner,w.ownsRow base e size v ps.length inner∧Reps R size ps inner
section
variable {α:Type} {R R':α→List Value→Prop} {e:TypeId} {size:Nat} {w w1:World} {base:Nat} {v:Value} {ps:List α}
theorem OwnRow.none_ (R:α→List Value→Prop) (e:TypeId) (size:Nat) (w:World) (base:Nat):OwnRow R e size w base (.slice none 0 0) []:=⟨[],Hw _ _ _ _,Reps.none _ _⟩
theorem OwnRow.imp_ (h:OwnRow R e size w base v ps) (hR:∀ p c,R p c→R' p c):OwnRow R' e size w base v ps:=by
 obtain ⟨inner,ho,hr⟩:=h
 exact ⟨inner,ho,hr.imp_ hR⟩
theorem OwnRow.reads (h:OwnRow R e size w base v ps):∃ A c,v=.slice A ps.length c∧ps.length≤c∧ReadsRow R size w A ps.length ps:=by
 obtain ⟨inner,ho,hr⟩:=h
 obtain ⟨A,c,rfl,hrow⟩:=Ug ho hr rfl
 exact ⟨A,c,rfl,qR ho,hrow⟩
theorem OwnRow.ne_block (h:OwnRow R e size w base v ps) {g:Nat} {t:TypeId} {cells:Array Value} (hb:w.heap[g]?=some (.cells cells t (0,0))) (ht:e≠t):some g≠v.ownBlock:=by
 obtain ⟨inner,ho,hr⟩:=h
 exact Kr ho hb ht
end
section
variable {P:Program} {ops:Array Oper} {rest:List Oper} {o:Oper} {a:Act} {Q:Exit→Act→World→Prop} {α:Type} {R:α→List Value→Prop}
end
section
variable {P:Program} {ops:Array Oper} {o:Oper} {a:Act} {Q:Exit→Act→World→Prop} {K:Act→World→Prop} {α:Type} {R:α→List Value→Prop}
end
theorem ReadsRow.inner_ {α:Type} {R:α→List Value→Prop} {size:Nat} {w:World} {ad:Addr} {n:Nat} {ps:List α} (h:ReadsRow R size w (some ad) n ps) :
  ∃ inner,Reps R size ps inner∧∀ j u,inner[j]?=some u→w.cell? (ad.add j)=some u:=by
 have key:∀ m,m≤ps.length→∃ inner,Reps R size (ps.take m) inner∧∀ j u,inner[j]?=some u→w.cell? (ad.add j)=some u:=by
  intro m
  induction m with
  |zero=>exact fun _=>⟨[],Reps.none _ _,fun j u hu=>by simp at hu⟩
  |succ m ih=>
   intro hm
   obtain ⟨inner,hr,hc⟩:=ih Zo
   obtain ⟨ad',he,hcell⟩:=h.2.2 (by have:=h.1;omega)
   injection he with he
   subst he
   obtain ⟨c,hcl,hp,hcc⟩:=hcell m _ (List.getElem?_eq_getElem (show m<ps.length by omega))
   refine ⟨inner++c,?_,fun j u hu=>?_⟩
   .rw [List.take_succ_eq_append_getElem (show m<ps.length by omega)]
    exact hr.snoc hp hcl
   .have hil:inner.length=m*size:=by rw [hr.1,List.length_take,Nat.min_eq_left Zo]
    rcases Nat.lt_or_ge j inner.length with hj|hj
    .rw [List.getElem?_append_left hj] at hu
     exact hc j u hu
    .rw [List.getElem?_append_right hj] at hu
     have:=hcc (j-inner.length) u hu
     rwa [hil,Nat.add_sub_cancel' Zo] at this
 obtain ⟨inner,hr,hc⟩:=key ps.length (Nat.le_refl _)
 rw [List.take_length] at hr
 exact ⟨inner,hr,hc⟩
section
variable {α:Type} {P:Program}
end
section
variable {P:Program} {ops:Array Oper} {rest:List Oper} {o:Oper} {a:Act} {Q:Exit→Act→World→Prop}
end
structure Kd (α:Type) where
 sz:Nat
 E:List Nat
 K:World→α→List Value→Prop
 M:World→Nat→(Nat→Prop)→α→List Value→Prop
 K_len:∀ {w x cs},K w x cs→cs.length=sz
 K_one:∀ {w x cs},K w x cs→∀ u ∈ cs,u.oneCell'=true
 K_below:∀ {w w1:World} {x cs},Below w.heap.size w w1→K w x cs→K w1 x cs
 K_of_M:∀ {w base ok x cs},M w base ok x cs→K w x cs
 M_mono:∀ {w base ok ok' x cs},(∀ k,ok k→ok' k)→M w base ok x cs→M w base ok' x cs
 M_bound:∀ {w:World} {base ok x cs},M w base ok x cs→M w base (fun k=>ok k∧base≤k∧k<w.heap.size∧∃ q,q ∈ E∧∃ cells,w.heap[k]?=some (.cells cells q (0,0))) x cs
 M_move:∀ {w w1:World} {base ok x cs},(∀ k,ok k→w1.heap[k]?=w.heap[k]?)→M w base ok x cs→M w1 base ok x cs
 M_lower:∀ {w base base' ok x cs},base'≤base→M w base ok x cs→M w base' ok x cs
theorem kH {w w1:World} {base:Nat} {e:TypeId} {size n:Nat} {v:Value} {xs:List Value} (h:w.ownsRow base e size v n xs) (hm:∀ k,v.ownBlock=some k→w1.heap[k]?=w.heap[k]?):w1.ownsRow base e size v n xs:=by
 obtain ⟨h1,h2⟩:=h
 refine ⟨h1,?_⟩
 rcases h2 with h2|⟨g,cap,cur,rfl,hg,hh,r⟩
 .exact .inl h2
 .exact .inr ⟨g,cap,cur,rfl,hg,(hm g (by simp [Value.ownBlock])).trans hh,r⟩
theorem gM {w:World} {base:Nat} {e:TypeId} {size n:Nat} {v:Value} {xs:List Value} (h:w.ownsRow base e size v n xs) (k:Nat) (hk:v.ownBlock=some k):∃ cells,w.heap[k]?=some (.cells cells e (0,0)):=by
 rcases h.2 with ⟨rfl,_⟩|⟨g,cap,cur,rfl,hg,hh,r⟩
 .simp [Value.ownBlock] at hk
 .have:g=k:=by simpa [Value.ownBlock] using hk
  subst this
  exact ⟨cur,hh⟩
namespace Kd
def C {α:Type} (d:Kd α) (w:World) (A:Option Addr) (n:Nat) (xs:List α):Prop:=ReadsRow (d.K w) d.sz w A n xs
def R {α:Type} (d:Kd α) (e:Nat) (w:World) (base:Nat) (ok:Nat→Prop) (v:Value) (xs:List α):Prop:=
 (∀ k,v.ownBlock=some k→ok k)∧OwnRow (d.M w base (fun k=>ok k∧some k≠v.ownBlock)) e d.sz w base v xs
section
variable {α:Type} {d:Kd α} {e:Nat} {w w1:World} {base:Nat} {ok ok':Nat→Prop} {v:Value} {xs:List α}
theorem C_below {A:Option Addr} {n:Nat} (h:d.C w A n xs) (hb:Below w.heap.size w w1):d.C w1 A n xs:=ReadsRow.imp_ h hb (fun _ _ hp=>d.K_below hb hp)
theorem R_nil (d:Kd α) (e:Nat) (w:World) (base:Nat) (ok:Nat→Prop):d.R e w base ok (.slice none 0 0) []:=⟨fun k hk=>by simp [Value.ownBlock] at hk,OwnRow.none_ _ _ _ _ _⟩
theorem R_mono (h:d.R e w base ok v xs) (hok:∀ k,ok k→ok' k):d.R e w base ok' v xs:=⟨fun k hk=>hok k (h.1 k hk),h.2.imp_ (fun _ _ hp=>d.M_mono (fun k hk=>⟨hok k hk.1,hk.2⟩) hp)⟩
theorem Me (h:d.R e w base ok v xs):d.R e w base (fun k=>ok k∧base≤k∧k<w.heap.size∧∃ q,q ∈ e::d.E∧∃ cells,w.heap[k]?=some (.cells cells q (0,0))) v xs:=by
 obtain ⟨h0,inner,ho,hr⟩:=h
 refine ⟨fun k hk=>?_,inner,ho,hr.imp_ (fun _ _ hp=>d.M_mono (fun k hk=>?_) (d.M_bound hp))⟩
 .obtain ⟨cells,hc⟩:=gM ho k hk
  exact ⟨h0 k hk,Fk ho k hk,Gk ho k hk,e,List.mem_cons_self,cells,hc⟩
 .obtain ⟨⟨h1,h2⟩,h3,h4,q,hq,hc⟩:=hk
  exact ⟨⟨h1,h3,h4,q,List.mem_cons_of_mem _ hq,hc⟩,h2⟩
theorem eU (h:d.R e w base ok v xs) (hm:∀ k,ok k→w1.heap[k]?=w.heap[k]?):d.R e w1 base ok v xs:=by
 obtain ⟨h0,inner,ho,hr⟩:=h
 exact ⟨h0,inner,kH ho (fun k hk=>hm k (h0 k hk)),hr.imp_ (fun _ _ hp=>d.M_move (fun k hk=>hm k hk.1) hp)⟩
theorem R_lower {base':Nat} (h:d.R e w base ok v xs) (hb:base'≤base):d.R e w base' ok v xs:=by
 obtain ⟨h0,inner,ho,hr⟩:=h
 exact ⟨h0,inner,dE ho hb,hr.imp_ (fun _ _ hp=>d.M_lower hb hp)⟩
theorem R_step (h:d.R e w base ok v xs) (hm:∀ k,ok k→k<w.heap.size→w1.heap[k]?=w.heap[k]?):d.R e w1 base ok v xs:=
 R_mono (eU (Me h) (fun k hk=>hm k hk.1 hk.2.2.1)) (fun _ hk=>hk.1)
theorem sP {x:α} {cs:List Value} (h:d.M w base ok x cs) (hm:∀ k,ok k→k<w.heap.size→w1.heap[k]?=w.heap[k]?):d.M w1 base ok x cs:=
 d.M_mono (fun _ hk=>hk.1) (d.M_move (fun k hk=>hm k hk.1 hk.2.2.1) (d.M_bound h))
theorem R_below (h:d.R e w base ok v xs) (hb:Below w.heap.size w w1):d.R e w1 base ok v xs:=R_step h (fun k _ hk=>hb.block k hk)
theorem fX {x:α} {cs:List Value} (h:d.M w base ok x cs) (hb:Below w.heap.size w w1):d.M w1 base ok x cs:=sP h (fun k _ hk=>hb.block k hk)
theorem wP (h:d.R e w base ok v xs) {p:Addr} (hok:∀ k,ok k→k≠p.block) (u:Value):d.R e (w.setCell p u) base ok v xs:=R_step h (fun k ho _=>Below.heap_setCell w p u k (hok k ho))
theorem fW (h:d.R e w base ok v xs):∃ A c,v=.slice A xs.length c∧xs.length≤c∧d.C w A xs.length xs:=by
 obtain ⟨A,c,he,hl,hr⟩:=OwnRow.reads h.2
 exact ⟨A,c,he,hl,hr.imp_ (Below.refl _ _) (fun _ _ hp=>d.K_of_M hp)⟩
theorem R_slice (h:d.R e w base ok v xs):∃ A c,v=.slice A xs.length c:=by
 obtain ⟨A,c,he,_⟩:=fW h
 exact ⟨A,c,he⟩
theorem pN (h:d.R e w base ok v xs):∃ inner,w.ownsRow base e d.sz v xs.length inner:=by
 obtain ⟨_,inner,ho,_⟩:=h
 exact ⟨inner,ho⟩
theorem wR (h:d.R e w base ok v xs) {g t:Nat} {cells:Array Value} (hb:w.heap[g]?=some (.cells cells t (0,0))) (ht:e≠t):some g≠v.ownBlock:=OwnRow.ne_block h.2 hb ht
end
def Wb {α:Type} (enc:α→Value) (h1:∀ x,(enc x).oneCell'=true):Kd α where
 sz:=1
 E:=[]
 K:=fun _ x cs=>cs=[enc x]
 M:=fun _ _ _ x cs=>cs=[enc x]
 K_len:=fun h=>by rw [h];rfl
 K_one:=fun h u hu=>by
  rw [h] at hu
  rw [List.mem_singleton.1 hu]
  exact h1 _
 K_below:=fun _ h=>h
 K_of_M:=fun h=>h
 M_mono:=fun _ h=>h
 M_bound:=fun h=>h
 M_move:=fun _ h=>h
 M_lower:=fun _ h=>h
def int (k:IntKind):Kd Int:=Wb (Value.int k) (fun _=>rfl)
def pair {α β:Type} (a:Kd α) (b:Kd β):Kd (α×β) where
 sz:=a.sz+b.sz
 E:=a.E++b.E
 K:=fun w x cs=>∃ c0 c1,cs=c0++c1∧a.K w x.1 c0∧b.K w x.2 c1
 M:=fun w base ok x cs=>∃ c0 c1,cs=c0++c1∧a.M w base ok x.1 c0∧b.M w base ok x.2 c1
 K_len:=by
  rintro w x cs ⟨c0,c1,rfl,h0,h1⟩
  rw [List.length_append,a.K_len h0,b.K_len h1]
 K_one:=by
  rintro w x cs ⟨c0,c1,rfl,h0,h1⟩ u hu
  rcases List.mem_append.1 hu with hu|hu
  .exact a.K_one h0 u hu
  .exact b.K_one h1 u hu
 K_below:=by
  rintro w w1 x cs hb ⟨c0,c1,rfl,h0,h1⟩
  exact ⟨c0,c1,rfl,a.K_below hb h0,b.K_below hb h1⟩
 K_of_M:=by
  rintro w base ok x cs ⟨c0,c1,rfl,h0,h1⟩
  exact ⟨c0,c1,rfl,a.K_of_M h0,b.K_of_M h1⟩
 M_mono:=by
  rintro w base ok ok' x cs hok ⟨c0,c1,rfl,h0,h1⟩
  exact ⟨c0,c1,rfl,a.M_mono hok h0,b.M_mono hok h1⟩
 M_bound:=by
  rintro w base ok x cs ⟨c0,c1,rfl,h0,h1⟩
  refine ⟨c0,c1,rfl,a.M_mono ?_ (a.M_bound h0),b.M_mono ?_ (b.M_bound h1)⟩
  .rintro k ⟨h2,h3,h4,q,hq,hc⟩
   exact ⟨h2,h3,h4,q,List.mem_append_left _ hq,hc⟩
  .rintro k ⟨h2,h3,h4,q,hq,hc⟩
   exact ⟨h2,h3,h4,q,List.mem_append_right _ hq,hc⟩
 M_move:=by
  rintro w w1 base ok x cs hm ⟨c0,c1,rfl,h0,h1⟩
  exact ⟨c0,c1,rfl,a.M_move hm h0,b.M_move hm h1⟩
 M_lower:=by
  rintro w base base' ok x cs hb ⟨c0,c1,rfl,h0,h1⟩
  exact ⟨c0,c1,rfl,a.M_lower hb h0,b.M_lower hb h1⟩
def iso {α β:Type} (d:Kd α) (f:β→α):Kd β where
 sz:=d.sz
 E:=d.E
 K:=fun w x cs=>d.K w (f x) cs
 M:=fun w base ok x cs=>d.M w base ok (f x) cs
 K_len:=d.K_len
 K_one:=d.K_one
 K_below:=d.K_below
 K_of_M:=d.K_of_M
 M_mono:=d.M_mono
 M_bound:=d.M_bound
 M_move:=d.M_move
 M_lower:=d.M_lower
def bot {α:Type} (sz:Nat) (E:List Nat):Kd α where
 sz:=sz
 E:=E
 K:=fun _ _ _=>False
 M:=fun _ _ _ _ _=>False
 K_len:=fun h=>h.elim
 K_one:=fun h=>h.elim
 K_below:=fun _ h=>h
 K_of_M:=fun h=>h
 M_mono:=fun _ h=>h
 M_bound:=fun h=>h
 M_move:=fun _ h=>h
 M_lower:=fun _ h=>h
def jL {α:Type} (F:Kd α→Kd α) (sz:Nat) (E:List Nat):Nat→Kd α
 |0=>bot sz E
 |n+1=>F (jL F sz E n)
theorem C_get {α:Type} {d:Kd α} {w:World} {A:Option Addr} {n:Nat} {xs:List α} (h:d.C w A n xs) (z:α) (i:Int) (h0:0≤i) (h1:i<n) :
  ∃ ad c,A=some ad∧c.length=d.sz∧d.K w (xs.getD i.toNat z) c∧∀ j u,c[j]?=some u→w.cell? (ad.add (i.toNat*d.sz+j))=some u:=ReadsRow.get_ h z i h0 h1
theorem eV {α:Type} {d:Kd α} {e base:Nat} {ok okp:Nat→Prop} {W w1:World} {v v1:Value} {xs:List α} {p:α} {inner cs:List Value} (h0:∀ k,v.ownBlock=some k→ok k) (hr:Reps (d.M W base (fun k=>ok k∧some k≠v.ownBlock)) d.sz xs inner) (hp:d.M W base okp p cs) (hokp:∀ k,okp k→ok k∧some k≠v.ownBlock) (hfresh:∀ k,W.heap.size≤k→ok k)
  (hown:w1.ownsRow base e d.sz v1 (xs.length+1) (inner++cs)) (hg:W.grownBy w1 v.ownBlock) (hat:v1.ownBlock=v.ownBlock∨∃ b,v1.ownBlock=some b∧W.heap.size≤b):d.R e w1 base ok v1 (xs++[p]):=by
 have hne:∀ k,some k≠v.ownBlock→k<W.heap.size→some k≠v1.ownBlock:=by
  intro k hk hlt
  rcases hat with hat|⟨b,hb,hle⟩
  .rw [hat];exact hk
  .rw [hb]
   intro he
   injection he with he
   omega
 have step:∀ {q:α} {c:List Value} {o:Nat→Prop},d.M W base o q c→(∀ k,o k→ok k∧some k≠v.ownBlock)→d.M w1 base (fun k=>ok k∧some k≠v1.ownBlock) q c:=by
  intro q c o hq ho
  have h1:=d.M_move (w1:=w1) (fun k hk=>hg.block k hk.2.2.1 (ho k hk.1).2) (d.M_bound hq)
  exact d.M_mono (fun k hk=>⟨(ho k hk.1).1,hne k (ho k hk.1).2 hk.2.2.1⟩) h1
 refine ⟨fun k hk=>?_,inner++cs,by rw [List.length_append,List.length_singleton];exact hown,?_⟩
 .rcases hat with hat|⟨b,hb,hle⟩
  .exact h0 k (hat▸hk)
  .rw [hb] at hk
   injection hk with hk
   exact hfresh k Zo
 .exact (hr.imp_ (fun _ _ hq=>step hq (fun _ hk=>hk))).snoc (step hp hokp) (d.K_len (d.K_of_M hp))
section
variable {P:Program} {ops:Array Oper} {rest:List Oper} {o:Oper} {a:Act} {Q:Exit→Act→World→Prop} {α:Type}
theorem R_append (d:Kd α) {w0 W:World} (base:Nat) (hgd:o.guard=none) (s x:Operand) (t e:TypeId) (z:Value) (bytes:Nat)
  (ho:o.op=.call {callee:=.builtin .append,args:=#[s,x],argTypes:=#[t,t]})
  (ht:P.underlying t=some (.slice e)) (hinfo:(P.info? e).map (fun i=>(i.zero,i.size,i.bytes))=some (some z,d.sz,bytes)) (hz:z.cells.size=d.sz) (hs0:0<d.sz) (hb0:0<bytes)
  (v:Value) (xs:List α) (p:α) (cs:List Value) (ok okp:Nat→Prop) (hs:a.eval s=v) (hx:a.eval x=.slice (some ⟨W.heap.size,0,none⟩) 1 1) (hp:d.M W base okp p cs) (hokp:∀ k,okp k→ok k∧some k≠v.ownBlock) (hfresh:∀ k,W.heap.size≤k→ok k)
  (HO:d.R e W base ok v xs) (HB:Below base w0 W) (hbase:base≤W.heap.size) (hl:(xs.length+1)*bytes≤140737488355328)
  (h:∀ v1 w1,d.R e w1 base ok v1 (xs++[p])→Below base w0 w1→W.grownBy w1 v.ownBlock→(v1.ownBlock=v.ownBlock∨∃ b,v1.ownBlock=some b∧W.heap.size≤b)→wpList P ops Q rest (a.put o.dst v1) w1) :
  wpList P ops Q (o::rest) a (W.alloc (.cells cs.toArray e)):=by
 obtain ⟨h0,inner,hown,hr⟩:=HO
 refine Hk base hgd s x t e z d.sz bytes ho ht hinfo hz hs0 hb0 v xs.length inner cs hs hx (d.K_len (d.K_of_M hp)) (d.K_one (d.K_of_M hp)) hown HB hbase hl ?_
 intro v1 w1 hown1 hb1 hg1 hat1
 exact h v1 w1 (eV h0 hr hp hokp hfresh hown1 hg1 hat1) hb1 hg1 hat1
end
section
variable {P:Program} {ops:Array Oper} {o:Oper} {a:Act} {Q:Exit→Act→World→Prop} {Kc:Act→World→Prop} {α:Type}
end
theorem cY {α:Type} {enc:α→Value} {d:α} {h1:∀ x,(enc x).oneCell'=true} {w:World} {A:Option Addr} {n:Nat} {xs:List α} (h:(Wb enc h1).C w A n xs):ReadsOf enc d w A n xs:=by
 refine ⟨h.1,h.2.1,fun hn=>?_⟩
 obtain ⟨ad,e,hc⟩:=h.2.2 hn
 refine ⟨ad,e,fun j hj=>?_⟩
 have hl:j<xs.length:=by have:=h.1;omega
 obtain ⟨c,_,hK,hcell⟩:=hc j _ (List.getElem?_eq_getElem hl)
 have hK':c=[enc xs[j]]:=hK
 subst hK'
 have:=hcell 0 _ rfl
 simpa [Wb,List.getD_eq_getElem?_getD,List.getElem?_eq_getElem hl] using this
end Kd
namespace Kd
section
variable {α:Type} {F:Kd α→Kd α} {sz:Nat} {E:List Nat} {hs:∀ n,(jL F sz E n).sz=sz} {hE:∀ n q,q ∈ (jL F sz E n).E→q ∈ E}
end
end Kd
namespace Kd
theorem R_after {α:Type} {d:Kd α} {e base:Nat} {ok:Nat→Prop} {W w1:World} {u v v1:Value} {xs:List α} (h:d.R e W base (fun k=>ok k∧some k≠v.ownBlock) u xs) (hg:W.grownBy w1 v.ownBlock) (hat:v1.ownBlock=v.ownBlock∨∃ b,v1.ownBlock=some b∧W.heap.size≤b):d.R e w1 base (fun k=>ok k∧some k≠v1.ownBlock) u xs:=by
 refine R_mono (eU (Me h) (fun k hk=>hg.block k hk.2.2.1 hk.1.2)) (fun k hk=>⟨hk.1.1,?_⟩)
 rcases hat with hat|⟨b,hb,hle⟩
 .rw [hat];exact hk.1.2
 .rw [hb]
  intro he
  injection he with he
  have:=hk.2.2.1
  omega
theorem pO {α:Type} {d:Kd α} {e base:Nat} {ok:Nat→Prop} {w:World} {u:Value} {xs:List α} (h:d.R e w base ok u xs):d.R e w base (fun k=>ok k∧some k≠(Value.slice none 0 0).ownBlock) u xs:=R_mono h (fun k hk=>⟨hk,by simp [Value.ownBlock]⟩)
end Kd
namespace Kd
section
variable {α β:Type} {d:Kd α} {d':Kd β} {e e':Nat} {w w1 W:World} {base b b':Nat} {ok ok' okv oku:Nat→Prop} {v u:Value} {xs:List α} {ys:List β}
theorem R_drew (h:d.R e w base ok v xs):d.R e w.drew base ok v xs:=R_below h (Da (Below.refl _ _))
theorem R_drewN (h:d.R e w base ok v xs) (m:Nat):d.R e (w.drewN m) base ok v xs:=R_below h (At (Below.refl _ _) m)
theorem R_reads' {A:Option Addr} {n c:Nat} (h:d.R e w base ok (.slice A n c) xs):n=xs.length∧n≤c∧d.C w A xs.length xs:=by
 obtain ⟨A',c',he,hl,hr⟩:=fW h
 injection he with h1 h2 h3
 subst h1
 exact ⟨h2,Zo,hr⟩
theorem wS (h:d.R e w base ok v xs):∀ k,v.ownBlock=some k→k<w.heap.size:=by
 obtain ⟨inner,ho⟩:=pN h
 exact Gk ho
theorem wM (h:d.R e w base ok v xs):∀ k,v.ownBlock=some k→base≤k:=by
 obtain ⟨inner,ho⟩:=pN h
 exact Fk ho
theorem R_away (h:d.R e w base ok v xs) {g:Nat} (hok:∀ k,ok k→k≠g):some g≠v.ownBlock:=fun e=>hok g (h.1 g e.symm) rfl
end
section
variable {w W:World} {A:Option Addr} {n:Nat}
theorem at_int {k:IntKind} {xs:List Int} (h:(Kd.int k).C w A n xs) (i:Int) (h0:0≤i) (h1:i<n):∃ ad,A=some ad∧w.cell? (ad.add i.toNat)=some (.int k (rd xs i)):=
 ReadsOf.at_ (cY (enc:=Value.int k) (d:=(0:Int)) (h1:=fun _=>rfl) h) i h0 h1
variable {α:Type} {enc:α→Value} {h1:∀ x,(enc x).oneCell'=true} {e base g cap:Nat} {ok:Nat→Prop} {xs:List α}
end
section
variable {P:Program} {ops:Array Oper} {rest:List Oper} {o:Oper} {a:Act} {Q:Exit→Act→World→Prop}
theorem event_run {W w1:World} {v:Value} (hgd:o.guard=none) (hrun:(execOp a.eval o).run P W=.ok (.value v) w1) (h:wpList P ops Q rest (a.put o.dst v) w1):wpList P ops Q (o::rest) a W:=by
 refine wpList_plain hgd fun K hK=>?_
 unfold Oper.wp
 rw [hrun]
 exact hK _ _ h
variable {α:Type}
theorem R_lit (d:Kd α) {w0 W:World} (base e:Nat) (hgd:o.guard=none) {N:Tmp} (_hd:o.dst=some N) {xs:List α} {inner:List Value} {ok okp:Nat→Prop}
  (hrun:(execOp a.eval o).run P W=.ok (.value (.slice (some ⟨W.heap.size,0,none⟩) xs.length xs.length)) (W.alloc (.cells inner.toArray e)))
  (hrep:Reps (d.M W base okp) d.sz xs inner) (hok:∀ k,okp k→ok k) (hfresh:ok W.heap.size) (HB:Below base w0 W) (hbase:base≤W.heap.size) (hm:xs.length≤9223372036854775807)
  (h:∀ v1 w1,d.R e w1 base ok v1 xs→Below base w0 w1→W.grownBy w1 none→(∃ b,v1.ownBlock=some b∧W.heap.size≤b)→wpList P ops Q rest (a.put o.dst v1) w1):wpList P ops Q (o::rest) a W:=by
 refine event_run hgd hrun (h _ _ ⟨fun k hk=>?_,inner,?_,?_⟩ (HB.alloc hbase _) (World.grownBy_alloc W _ none) ⟨W.heap.size,by simp [Value.ownBlock],Nat.le_refl _⟩)
 .have:W.heap.size=k:=by simpa [Value.ownBlock] using hk
  subst this
  exact hfresh
 .have h2:=World.ownsRow_lit (base:=base) (e:=e) (size:=d.sz) W inner.toArray xs.length hbase (by simpa [maxLen] using hm) (by simpa using hrep.1)
  simpa using h2
 .refine hrep.imp_ (fun p c hp=>d.M_mono (fun k hk=>⟨hok k hk.1,fun he=>?_⟩) (fX (d.M_bound hp) (Af (Below.refl _ _) _)))
  have h3:k=W.heap.size:=by simpa [Value.ownBlock] using he
  have:=hk.2.2.1
  omega
end
end Kd
section
variable {P:Program}
end
section
variable {w w1:World} {base n size:Nat} {e:TypeId} {v:Value} {xs:List Value}
end
section
variable {P:Program}
end
namespace Kd
section
variable {α:Type} {d:Kd α} {e:Nat} {w w1 W:World} {base:Nat} {ok ok':Nat→Prop} {v:Value} {xs:List α}
end
section
variable {P:Program} {ops:Array Oper} {rest:List Oper} {o:Oper} {a:Act} {Q':Exit→Act→World→Prop} {Kc:Act→World→Prop} {α:Type}
end
end Kd
namespace Kd
section
variable {α:Type} {d:Kd α} {e e':Nat} {w w1 W:World} {base:Nat} {ok:Nat→Prop} {u v:Value} {xs:List α}
theorem R_elder' (hu:d.R e W base ok u xs) (hbase:∀ k,v.ownBlock=some k→W.heap.size≤k) (hb:Below W.heap.size W w1):d.R e w1 base (fun k=>ok k∧some k≠v.ownBlock) u xs:=
 R_mono (eU (Me hu) (fun k hk=>hb.block k hk.2.2.1)) (fun k hk=>⟨hk.1,fun he=>by have:=hbase k he.symm;have:=hk.2.2.1;omega⟩)
theorem R_new' (h:d.R e w1 W.heap.size ok v xs) (hlt:∀ k,u.ownBlock=some k→k<W.heap.size):d.R e w1 W.heap.size (fun k=>ok k∧some k≠u.ownBlock) v xs:=
 R_mono (Me h) (fun k hk=>⟨hk.1,fun he=>by have:=hlt k he.symm;have:=hk.2.1;omega⟩)
theorem fresh' (hlt:∀ k,u.ownBlock=some k→k<W.heap.size):∀ k,W.heap.size≤k→some k≠u.ownBlock:=fun k hk he=>by have:=hlt k he.symm;omega
end
end Kd
namespace Kd
section
variable {α:Type} {d:Kd α} {e base g n cap:Nat} {ok okp:Nat→Prop} {W:World} {xs:List α}
end
end Kd
namespace Kd
section
variable {α:Type} {F:Kd α→Kd α} {sz:Nat} {E:List Nat} {hs:∀ n,(jL F sz E n).sz=sz} {hE:∀ n q,q ∈ (jL F sz E n).E→q ∈ E}
end
end Kd
namespace Kd
theorem Yz {α:Type} {R:α→List Value→Prop} {size:Nat} {ps qs:List α} {cs ds:List Value} (h:Reps R size ps cs) (h':Reps R size qs ds):Reps R size (ps++qs) (cs++ds):=by
 refine ⟨by rw [List.length_append,List.length_append,h.1,h'.1,Nat.add_mul],fun j p hj=>?_⟩
 rcases Nat.lt_or_ge j ps.length with hlt|hge
 .rw [List.getElem?_append_left hlt] at hj
  have hle:j*size+size≤cs.length:=by rw [h.1,← Nat.succ_mul];exact Nat.mul_le_mul_right _ hlt
  rw [List.drop_append_of_le_length Zo,List.take_append_of_le_length (by rw [List.length_drop];omega)]
  exact h.2 j p hj
 .rw [List.getElem?_append_right hge] at hj
  have h2:=h'.2 (j-ps.length) p hj
  have hle:ps.length*size≤j*size:=Nat.mul_le_mul_right _ hge
  rw [List.drop_append,List.drop_eq_nil_of_le (by rw [h.1];exact hle),List.nil_append,h.1,← Nat.sub_mul]
  exact h2
section
variable {P:Program} {ops:Array Oper} {rest:List Oper} {o:Oper} {a:Act} {Q:Exit→Act→World→Prop} {α:Type}
end
end Kd
namespace Kd
section
variable {P:Program} {ops:Array Oper} {rest:List Oper} {o:Oper} {a:Act} {Q:Exit→Act→World→Prop} {α:Type}
end
end Kd
namespace Kd
section
variable {α:Type} {k:Kd α} {w:World} {A:Option Addr} {xs:List α} {m c:Nat}
end
end Kd
section
variable {P:Program}
end
theorem Bz {w W:World} (h:Below w.heap.size w W):w.heap.size≤W.heap.size:=h.size
theorem Ag {w W w2:World} (h:Below w.heap.size w W) (k:Below W.heap.size W w2):Below w.heap.size w w2:=Mb h h.size k
theorem ReadsInt.nil (W:World) (k:IntKind):ReadsInt W k none ([]:List Int).length []:=⟨rfl,Zs,fun h=>absurd h (Nat.lt_irrefl 0)⟩
theorem ReadsInt.ofRow {k:IntKind} {w:World} {a:Option Addr} {len cap:Nat} {zs:List Int} (h:(a=none∧len=0∧cap=0∧zs=[])∨∃ x,a=some x∧len≤cap∧cap≤maxLen∧zs.length=cap∧(∀ i,i<zs.length→w.cell? (x.add i)=some (.int k (zs.getD i 0)))∧∀ n ∈ zs,(Lit.int k n).wf=true) :
  ∃ l:List Int,len=l.length∧ReadsInt w k a l.length l∧l.length≤maxLen∧∀ x ∈ l,(Lit.int k x).wf=true:=by
 rcases h with ⟨rfl,rfl,rfl,rfl⟩|⟨x,rfl,hl,hm,hz,hc,hw⟩
 .exact ⟨[],rfl,ReadsInt.nil _ _,Nat.zero_le _,fun x hx=>by simp at hx⟩
 .have e:(zs.take len).length=len:=by simp;omega
  have hm':len≤maxLen:=Nat.le_trans hl hm
  refine ⟨zs.take len,e.symm,⟨rfl,by rw [e];simpa [maxLen] using hm',fun _=>⟨x,rfl,fun j hj=>?_⟩⟩,by rw [e];exact hm',fun y hy=>hw y (List.mem_of_mem_take hy)⟩
  rw [e] at hj
  rw [hc j Zo]
  simp [List.getD,List.getElem?_take,hj]
theorem Aq {w W:World} {g j:Nat} {v:Value} (h:Below w.heap.size w W) (hg:w.heap.size≤g):Below w.heap.size w (W.setCell ⟨g,j,none⟩ v):=h.setCell hg _
theorem Bh {W:World} {p a:Addr} (h:a.block≠p.block) (u:Value):(W.setCell p u).cell? a=W.cell? a:=by
 have:=Below.heap_setCell W p u a.block h
 simp [World.cell?,this]
theorem Ae {w:World} {g:Nat} {t:TypeId} {cs cs':Array Value} (h:w.heap[g]?=some (.cells cs t (0,0))) (i:Nat) (u:Value) (e:cs.setIfInBounds i u=cs'):(w.setCell ⟨g,i,none⟩ u).heap[g]?=some (.cells cs' t (0,0)):=e▸blk_set h i u
theorem ReadsInt.ofRowC {k:IntKind} {w:World} {a:Option Addr} {len cap:Nat} {zs:List Int} (h:(a=none∧len=0∧cap=0∧zs=[])∨∃ x,a=some x∧len≤cap∧cap≤maxLen∧zs.length=cap∧(∀ i,i<zs.length→w.cell? (x.add i)=some (.int k (zs.getD i 0)))∧∀ n ∈ zs,(Lit.int k n).wf=true) :
  ∃ l:List Int,len=l.length∧ReadsInt w k a l.length l∧l.length≤maxLen∧(∀ x ∈ l,(Lit.int k x).wf=true)∧l.length≤cap:=by
 have hl:len≤cap:=by
  rcases h with ⟨_,rfl,rfl,_⟩|⟨_,_,h,_⟩
  .exact Nat.le_refl _
  .exact h
 obtain ⟨l,e,h1,h2,h3⟩:=ReadsInt.ofRow h
 exact ⟨l,e,h1,h2,h3,e▸hl⟩
theorem Bu {base:Nat} {w W:World} (h:Below base w W):Below base w W.drew:=h.drew
namespace Kd
section
variable {α β:Type} {d:Kd α} {d':Kd β} {e e' base base' n:Nat} {ok ok':Nat→Prop} {w W w1 W1:World} {v u:Value} {xs:List α} {ys:List β} {A:Option Addr} {c:Nat}
end
section
variable {α:Type} {enc:α→Value} {h1:∀ x,(enc x).oneCell'=true} {w W:World} {A:Option Addr} {n g:Nat} {xs:List α}
end
end Kd
namespace Kd
section
variable {α:Type} {d:Kd α} {e base g:Nat} {ok:Nat→Prop} {w w1:World} {v:Value} {xs:List α} {o:Obj}
theorem vL (h:d.R e w base ok v xs) (a:Nat) (ha:w.heap.size≤a):d.R e w base (fun k=>ok k∧k≠a) v xs:=R_mono (Me h) (fun k hk=>⟨hk.1,by have:=hk.2.2.1;omega⟩)
theorem wK (h:d.R e w1 w.heap.size ok v xs) (hb:w.heap[g]?=some o):d.R e w1 w.heap.size (fun k=>ok k∧k≠g) v xs:=R_mono (Me h) (fun k hk=>⟨hk.1,by have:=Bb hb;have:=hk.2.1;omega⟩)
theorem freshB (hb:w.heap[g]?=some o):∀ k,w.heap.size≤k→k≠g:=fun k hk=>by have:=Bb hb;omega
end
end Kd
section
variable {P:Program} {ops:Array Oper} {rest:List Oper} {o:Oper} {a:Act} {Q:Exit→Act→World→Prop}
theorem Am {W:World} (hgd:o.guard=none) {N:Tmp} (_hd:o.dst=some N) {cs:Array Value} {t:TypeId}
  (hrun:(execOp a.eval o).run P W=.ok (.value (.pointer (some ⟨W.heap.size,0,none⟩))) (W.alloc (.cells cs t (0,0))))
  (h:∀ g,g=W.heap.size→∀ w1,w1.heap[g]?=some (.cells cs t (0,0))→Below W.heap.size W w1→wpList P ops Q rest (a.put o.dst (.pointer (some ⟨g,0,none⟩))) w1):wpList P ops Q (o::rest) a W:=
 Kd.event_run hgd hrun (h _ rfl _ (Cc W _) (Af (Below.refl _ _) _))
end
namespace Kd
section
variable {α:Type} {enc:α→Value} {h1:∀ x,(enc x).oneCell'=true} {e base g n cap:Nat} {ok:Nat→Prop} {W:World} {xs:List α}
end
end Kd
section
variable {P:Program} {ops:Array Oper} {rest:List Oper} {o:Oper} {a:Act} {Q:Exit→Act→World→Prop}
theorem Aw {W w1:World} (hgd:o.guard=none) {t:TypeId} {p:Tmp} {v:Operand} (_ho:o.op=.store t (.tmp p) v) (hN:o.dst=none)
  (hrun:(execOp a.eval o).run P W=.ok .skip w1) (h:∀ w',w'=w1→wpList P ops Q rest a w'):wpList P ops Q (o::rest) a W:=by
 refine wpList_plain hgd fun K hK=>?_
 unfold Oper.wp
 rw [hrun]
 show K (a.put o.dst undef) w1
 rw [hN]
 exact hK _ _ (h _ rfl)
end
namespace Kd
section
variable {α:Type} {enc:α→Value} {h1:∀ x,(enc x).oneCell'=true} {e base g n cap:Nat} {ok:Nat→Prop} {W:World} {xs:List α}
end
end Kd
section
variable {P:Program} {ops:Array Oper} {rest:List Oper} {o:Oper} {a:Act} {Q:Exit→Act→World→Prop} {W:World}
theorem Al {N:Tmp} (_hN:o.dst=some N) (h:wpList P ops Q (o::rest) a W):wpList P ops Q (o::rest) a W:=h
theorem Bd {t:TypeId} {p:Tmp} {v:Operand} (_ho:o.op=.store t (.tmp p) v) (h:wpList P ops Q (o::rest) a W):wpList P ops Q (o::rest) a W:=h
end
section
variable {P:Program} {ops:Array Oper} {o:Oper} {a:Act} {Q:Exit→Act→World→Prop} {Kc:Act→World→Prop}
theorem eI {W w1:World} {v:Value} (hw:Region.wanted o (yielded ops a.tmps)=true) (hrun:(execOp a.eval o).run P W=.ok (.value v) w1) (h:Kc (a.put o.dst v) w1):if Region.wanted o (yielded ops a.tmps)=true then Oper.wp P o a W Kc Q else Kc (a.put o.dst undef) W:=by
 rw [if_pos hw]
 unfold Oper.wp
 rw [hrun]
 exact h
namespace Kd
variable {α:Type}
theorem R_lit_step (d:Kd α) {w0 W:World} (base e:Nat) (hw:Region.wanted o (yielded ops a.tmps)=true) {N:Tmp} (_hd:o.dst=some N) {xs:List α} {inner:List Value} {ok okp:Nat→Prop}
  (hrun:(execOp a.eval o).run P W=.ok (.value (.slice (some ⟨W.heap.size,0,none⟩) xs.length xs.length)) (W.alloc (.cells inner.toArray e)))
  (hrep:Reps (d.M W base okp) d.sz xs inner) (hok:∀ k,okp k→ok k) (hfresh:ok W.heap.size) (HB:Below base w0 W) (hbase:base≤W.heap.size) (hm:xs.length≤9223372036854775807)
  (h:∀ v1 w1,d.R e w1 base ok v1 xs→Below base w0 w1→W.grownBy w1 none→(∃ b,v1.ownBlock=some b∧W.heap.size≤b)→Kc (a.put o.dst v1) w1):if Region.wanted o (yielded ops a.tmps)=true then Oper.wp P o a W Kc Q else Kc (a.put o.dst undef) W:=by
 refine eI hw hrun (h _ _ ⟨fun k hk=>?_,inner,?_,?_⟩ (HB.alloc hbase _) (World.grownBy_alloc W _ none) ⟨W.heap.size,by simp [Value.ownBlock],Nat.le_refl _⟩)
 .have:W.heap.size=k:=by simpa [Value.ownBlock] using hk
  subst this
  exact hfresh
 .have h2:=World.ownsRow_lit (base:=base) (e:=e) (size:=d.sz) W inner.toArray xs.length hbase (by simpa [maxLen] using hm) (by simpa using hrep.1)
  simpa using h2
 .refine hrep.imp_ (fun p c hp=>d.M_mono (fun k hk=>⟨hok k hk.1,fun he=>?_⟩) (fX (d.M_bound hp) (Af (Below.refl _ _) _)))
  have h3:k=W.heap.size:=by simpa [Value.ownBlock] using he
  have:=hk.2.2.1
  omega
theorem R_append_rows_step (d:Kd α) {Rr:α→List Value→Prop} {w0 W:World} (base:Nat) (hw:Region.wanted o (yielded ops a.tmps)=true) (s x:Operand) (t e:TypeId) (z:Value) (bytes:Nat)
  (ho:o.op=.call {callee:=.builtin .append,args:=#[s,x],argTypes:=#[t,t]})
  (ht:P.underlying t=some (.slice e)) (hinfo:(P.info? e).map (fun i=>(i.zero,i.size,i.bytes))=some (some z,d.sz,bytes)) (hz:z.cells.size=d.sz) (hs0:0<d.sz) (hb0:0<bytes)
  (v:Value) (xs ys:List α) (A:Option Addr) (m c:Nat) (ok okp:Nat→Prop) (hs:a.eval s=v) (hx:a.eval x=.slice A m c)
  (HO:d.R e W base ok v xs) (HR:ReadsRow Rr d.sz W A m ys) (hKM:∀ x cs,Rr x cs→d.M W base okp x cs) (hokp:∀ k,okp k→ok k∧some k≠v.ownBlock) (hfresh:∀ k,W.heap.size≤k→ok k)
  (HB:Below base w0 W) (hbase:base≤W.heap.size) (hl:(xs.length+m)*bytes≤140737488355328)
  (h:∀ v1 w1,d.R e w1 base ok v1 (xs++ys)→Below base w0 w1→W.grownBy w1 v.ownBlock→(v1.ownBlock=v.ownBlock∨∃ b,v1.ownBlock=some b∧W.heap.size≤b)→Kc (a.put o.dst v1) w1) :
  if Region.wanted o (yielded ops a.tmps)=true then Oper.wp P o a W Kc Q else Kc (a.put o.dst undef) W:=by
 obtain ⟨i0,hi,hzz⟩:=Option.map_eq_some_iff.1 hinfo
 simp only [Prod.mk.injEq] at hzz
 obtain ⟨hz0,hz1,hz2⟩:=hzz
 have hm:ys.length=m:=HR.1
 have hlen:xs.length+m≤140737488355328:=Nat.le_trans (Nat.le_mul_of_pos_right _ hb0) hl
 obtain ⟨hok,inner,hown,hr⟩:=HO
 have hrun:∃ v1 w1,(Builtin.append_ #[t,t] o.type #[v,.slice A m c]).run P W=.ok v1 w1∧d.R e w1 base ok v1 (xs++ys)∧W.grownBy w1 v.ownBlock∧(v1.ownBlock=v.ownBlock∨∃ b,v1.ownBlock=some b∧W.heap.size≤b):=by
  rcases A with _|ad
  .have h0:m=0:=by
    rcases Nat.eq_zero_or_pos m with h0|h0
    .exact h0
    .obtain ⟨ad,h,_⟩:=HR.2.2 h0
     cases h
   subst h0
   obtain rfl:ys=[]:=List.eq_nil_of_length_eq_zero hm
   refine ⟨v,W,?_,by rw [List.append_nil];exact ⟨hok,inner,hown,hr⟩,World.grownBy.refl W _,.inl rfl⟩
   rcases hown.2 with ⟨rfl,hn⟩|⟨g,cap,cur,rfl,_,_,hnc,_⟩
   .simp [Builtin.append_,run_underlying ht,sizeOf,typeInfo,hi,Builtin.lenOf,Builtin.firstCells]
   .simp [Builtin.append_,run_underlying ht,sizeOf,typeInfo,hi,Builtin.lenOf,Builtin.firstCells,hnc,storeCells]
  .obtain ⟨news,hnr,hnc⟩:=ReadsRow.inner_ HR
   have hnM:Reps (d.M W base okp) d.sz ys news:=hnr.imp_ (fun p c hp=>hKM p c hp)
   have hone:∀ u ∈ news,u.oneCell'=true:=by
    intro u hu
    obtain ⟨q,hq,rfl⟩:=List.mem_iff_getElem.1 hu
    have hql:q / d.sz<ys.length:=by
     rw [Nat.div_lt_iff_lt_mul hs0]
     rw [← hnM.1]
     exact hq
    have hc:=hnM.2 (q / d.sz) _ (List.getElem?_eq_getElem hql)
    refine d.K_one (d.K_of_M hc) _ ?_
    rw [List.mem_iff_getElem?]
    refine ⟨q % d.sz,?_⟩
    rw [List.getElem?_take,if_pos (Nat.mod_lt _ hs0),List.getElem?_drop,Nat.mul_comm,Nat.div_add_mod,List.getElem?_eq_getElem hq]
   obtain ⟨v1,w1,hrun,h2,hg,_,hat⟩:=run_append_own_at (P:=P) W base t o.type e i0 z d.sz bytes ht hi hz0 hz1 hz2 hz hs0 v xs.length inner hown ad m c news (by rw [hnM.1,hm]) hnc hone (by simp only [maxLen];omega) hl hbase
   have hat':v1.ownBlock=v.ownBlock∨∃ b,v1.ownBlock=some b∧W.heap.size≤b:=by
    rcases hat with hat|hat
    .exact .inl hat
    .exact .inr ⟨_,hat,Nat.le_refl _⟩
   have hne:∀ k,some k≠v.ownBlock→k<W.heap.size→some k≠v1.ownBlock:=by
    intro k hk hlt
    rcases hat' with hat|⟨b,hb,hle⟩
    .rw [hat];exact hk
    .rw [hb]
     intro he
     injection he with he
     omega
   have step:∀ {q:α} {c:List Value} {o:Nat→Prop},d.M W base o q c→(∀ k,o k→ok k∧some k≠v.ownBlock)→d.M w1 base (fun k=>ok k∧some k≠v1.ownBlock) q c:=by
    intro q c o hq ho
    have h1:=d.M_move (w1:=w1) (fun k hk=>hg.block k hk.2.2.1 (ho k hk.1).2) (d.M_bound hq)
    exact d.M_mono (fun k hk=>⟨(ho k hk.1).1,hne k (ho k hk.1).2 hk.2.2.1⟩) h1
   refine ⟨v1,w1,hrun,⟨fun k hk=>?_,inner++news,by rw [List.length_append,hm];exact h2,Yz (hr.imp_ (fun _ _ hq=>step hq (fun _ hk=>hk))) (hnM.imp_ (fun _ _ hq=>step hq hokp))⟩,hg,hat'⟩
   rcases hat' with hat|⟨b,hb,hle⟩
   .exact hok k (hat▸hk)
   .rw [hb] at hk
    injection hk with hk
    exact hfresh k Zo
 obtain ⟨v1,w1,hr1,h1,hg,hat⟩:=hrun
 rw [if_pos hw]
 unfold Oper.wp execOp
 simp only [ho,resolve,invoke,builtin,Sem.run_bind,Sem.run_pure,Result.andThen_ok,List.map_toArray,List.map_cons,List.map_nil,hs,hx,hr1]
 exact h v1 w1 h1 (HB.grown hg hbase (Fk hown)) hg hat
end Kd
end
inductive Vals (P:Program) (tmps:Array Value) (w:World):List ResultVar→List Value→Prop where
 |nil:Vals P tmps w [] []
 |tmp {u:Tmp} {rs:List ResultVar} {vs:List Value} (h:Vals P tmps w rs vs):Vals P tmps w (.tmp u::rs) (tmps.getD u undef::vs)
 |cell {p:Tmp} {ty:TypeId} {rs:List ResultVar} {vs:List Value} (g:Nat) (t:TypeId) (cs:Array Value) (fr:Nat×Nat) (d:TypeDesc)
   (hp:tmps.getD p undef=.pointer (some ⟨g,0,none⟩)) (hg:w.heap[g]?=some (.cells cs t fr))
   (hu:P.underlying ty=some d) (hd:(match d with|.struct _|.array _ _=>true|_=>false)=true) (hi:(P.info? ty).map (·.size)=some cs.size)
   (h:Vals P tmps w rs vs):Vals P tmps w (.cell p ty::rs) (.agg cs::vs)
section
variable {P:Program} {tmps:Array Value} {w:World}
theorem jK {rs:List ResultVar} {vs:List Value} (hv:Vals P tmps w rs vs) (f:ResultVar→Sem Value) (hf:∀ u,f (.tmp u)=pure (tmps.getD u undef)) (hc:∀ a t,f (.cell a t)=(do loadVar t (← asAddr (tmps.getD a undef)))) :
  (rs.mapM f).run P w=.ok vs w:=by
 induction hv with
 |nil=>simp
 |tmp h ih=>simp [List.mapM_cons,hf,ih]
 |cell g t cs fr d hp hg hu hd hi h ih=>
  rw [List.mapM_cons,hc,hp]
  simp [asAddr,run_loadVar_row w g t _ cs fr d hg hu hd hi,ih]
theorem Sn {fn:Func} {r:ResultVar} {v:Value} (h:fn.results=#[r]) (hv:Vals P tmps w [r] [v]):(results fn tmps).run P w=.ok v w:=by
 unfold results
 rw [show fn.results=[r].toArray from h,List.mapM_toArray]
 simp only [Sem.run_bind,Sem.run_map]
 rw [jK hv]
 .simp
 .intro u
  rfl
 .intro a t
  rfl
end
namespace Kd
section
variable {P:Program} {α:Type}
end
section
variable {P:Program} {ops:Array Oper} {rest:List Oper} {o:Oper} {a:Act} {Q:Exit→Act→World→Prop} {Kc:Act→World→Prop} {α:Type}
end
end Kd
theorem bc2 {w:World} {g:Nat} {t:TypeId} {a0 a1:Value} (h:w.heap[g]?=some (.cells #[a0,a1] t (0,0))):w.cell? ⟨g,0,none⟩=some a0∧w.cell? ⟨g,1,none⟩=some a1:=⟨(Aa h 0).trans rfl,(Aa h 1).trans rfl⟩
theorem bc3 {w:World} {g:Nat} {t:TypeId} {a0 a1 a2:Value} (h:w.heap[g]?=some (.cells #[a0,a1,a2] t (0,0))):w.cell? ⟨g,0,none⟩=some a0∧w.cell? ⟨g,1,none⟩=some a1∧w.cell? ⟨g,2,none⟩=some a2:=⟨(Aa h 0).trans rfl,(Aa h 1).trans rfl,(Aa h 2).trans rfl⟩
theorem bc7 {w:World} {g:Nat} {t:TypeId} {a0 a1 a2 a3 a4 a5 a6:Value} (h:w.heap[g]?=some (.cells #[a0,a1,a2,a3,a4,a5,a6] t (0,0))):w.cell? ⟨g,0,none⟩=some a0∧w.cell? ⟨g,1,none⟩=some a1∧w.cell? ⟨g,2,none⟩=some a2∧w.cell? ⟨g,3,none⟩=some a3∧w.cell? ⟨g,4,none⟩=some a4∧w.cell? ⟨g,5,none⟩=some a5∧w.cell? ⟨g,6,none⟩=some a6:=⟨(Aa h 0).trans rfl,(Aa h 1).trans rfl,(Aa h 2).trans rfl,(Aa h 3).trans rfl,(Aa h 4).trans rfl,(Aa h 5).trans rfl,(Aa h 6).trans rfl⟩
theorem oL {w:World} {g:Nat} {t:TypeId} {a0 a1 a2 a3 a4 a5 a6 a7 a8 a9:Value} (h:w.heap[g]?=some (.cells #[a0,a1,a2,a3,a4,a5,a6,a7,a8,a9] t (0,0))):w.cell? ⟨g,0,none⟩=some a0∧w.cell? ⟨g,1,none⟩=some a1∧w.cell? ⟨g,2,none⟩=some a2∧w.cell? ⟨g,3,none⟩=some a3∧w.cell? ⟨g,4,none⟩=some a4∧w.cell? ⟨g,5,none⟩=some a5∧w.cell? ⟨g,6,none⟩=some a6∧w.cell? ⟨g,7,none⟩=some a7∧w.cell? ⟨g,8,none⟩=some a8∧w.cell? ⟨g,9,none⟩=some a9:=⟨(Aa h 0).trans rfl,(Aa h 1).trans rfl,(Aa h 2).trans rfl,(Aa h 3).trans rfl,(Aa h 4).trans rfl,(Aa h 5).trans rfl,(Aa h 6).trans rfl,(Aa h 7).trans rfl,(Aa h 8).trans rfl,(Aa h 9).trans rfl⟩
theorem iV {w:World} {g:Nat} {t:TypeId} {a0 a1 a2 a3 a4 a5 a6 a7 a8 a9 a10 a11:Value} (h:w.heap[g]?=some (.cells #[a0,a1,a2,a3,a4,a5,a6,a7,a8,a9,a10,a11] t (0,0))):w.cell? ⟨g,0,none⟩=some a0∧w.cell? ⟨g,1,none⟩=some a1∧w.cell? ⟨g,2,none⟩=some a2∧w.cell? ⟨g,3,none⟩=some a3∧w.cell? ⟨g,4,none⟩=some a4∧w.cell? ⟨g,5,none⟩=some a5∧w.cell? ⟨g,6,none⟩=some a6∧w.cell? ⟨g,7,none⟩=some a7∧w.cell? ⟨g,8,none⟩=some a8∧w.cell? ⟨g,9,none⟩=some a9∧w.cell? ⟨g,10,none⟩=some a10∧w.cell? ⟨g,11,none⟩=some a11:=⟨(Aa h 0).trans rfl,(Aa h 1).trans rfl,(Aa h 2).trans rfl,(Aa h 3).trans rfl,(Aa h 4).trans rfl,(Aa h 5).trans rfl,(Aa h 6).trans rfl,(Aa h 7).trans rfl,(Aa h 8).trans rfl,(Aa h 9).trans rfl,(Aa h 10).trans rfl,(Aa h 11).trans rfl⟩
theorem Nq {w:World} {g:Nat} {t:TypeId} {a0 a1 a2 a3 a4 a5 a6 a7 a8 a9 a10 a11 a12 a13 a14:Value} (h:w.heap[g]?=some (.cells #[a0,a1,a2,a3,a4,a5,a6,a7,a8,a9,a10,a11,a12,a13,a14] t (0,0))):w.cell? ⟨g,0,none⟩=some a0∧w.cell? ⟨g,1,none⟩=some a1∧w.cell? ⟨g,2,none⟩=some a2∧w.cell? ⟨g,3,none⟩=some a3∧w.cell? ⟨g,4,none⟩=some a4∧w.cell? ⟨g,5,none⟩=some a5∧w.cell? ⟨g,6,none⟩=some a6∧w.cell? ⟨g,7,none⟩=some a7∧w.cell? ⟨g,8,none⟩=some a8∧w.cell? ⟨g,9,none⟩=some a9∧w.cell? ⟨g,10,none⟩=some a10∧w.cell? ⟨g,11,none⟩=some a11∧w.cell? ⟨g,12,none⟩=some a12∧w.cell? ⟨g,13,none⟩=some a13∧w.cell? ⟨g,14,none⟩=some a14:=⟨(Aa h 0).trans rfl,(Aa h 1).trans rfl,(Aa h 2).trans rfl,(Aa h 3).trans rfl,(Aa h 4).trans rfl,(Aa h 5).trans rfl,(Aa h 6).trans rfl,(Aa h 7).trans rfl,(Aa h 8).trans rfl,(Aa h 9).trans rfl,(Aa h 10).trans rfl,(Aa h 11).trans rfl,(Aa h 12).trans rfl,(Aa h 13).trans rfl,(Aa h 14).trans rfl⟩
abbrev s12 (w:World) (g:Nat) (a0 a1 a2 a3 a4 a5 a6 a7 a8 a9 a10 a11:Value):World:=((((((((((((w.setCell ⟨g,0,none⟩ a0).setCell ⟨g,1,none⟩ a1).setCell ⟨g,2,none⟩ a2).setCell ⟨g,3,none⟩ a3).setCell ⟨g,4,none⟩ a4).setCell ⟨g,5,none⟩ a5).setCell ⟨g,6,none⟩ a6).setCell ⟨g,7,none⟩ a7).setCell ⟨g,8,none⟩ a8).setCell ⟨g,9,none⟩ a9).setCell ⟨g,10,none⟩ a10).setCell ⟨g,11,none⟩ a11)
theorem p12 {w:World} {g:Nat} {t:TypeId} {a0 a1 a2 a3 a4 a5 a6 a7 a8 a9 a10 a11 z0 z1 z2 z3 z4 z5 z6 z7 z8 z9 z10 z11:Value} (h:w.heap[g]?=some (.cells #[z0,z1,z2,z3,z4,z5,z6,z7,z8,z9,z10,z11] t (0,0))):(s12 w g a0 a1 a2 a3 a4 a5 a6 a7 a8 a9 a10 a11).heap[g]?=some (.cells #[a0,a1,a2,a3,a4,a5,a6,a7,a8,a9,a10,a11] t (0,0)):=(Ae (cs':=#[a0,a1,a2,a3,a4,a5,a6,a7,a8,a9,a10,a11]) (Ae (cs':=#[a0,a1,a2,a3,a4,a5,a6,a7,a8,a9,a10,z11]) (Ae (cs':=#[a0,a1,a2,a3,a4,a5,a6,a7,a8,a9,z10,z11]) (Ae (cs':=#[a0,a1,a2,a3,a4,a5,a6,a7,a8,z9,z10,z11]) (Ae (cs':=#[a0,a1,a2,a3,a4,a5,a6,a7,z8,z9,z10,z11]) (Ae (cs':=#[a0,a1,a2,a3,a4,a5,a6,z7,z8,z9,z10,z11]) (Ae (cs':=#[a0,a1,a2,a3,a4,a5,z6,z7,z8,z9,z10,z11]) (Ae (cs':=#[a0,a1,a2,a3,a4,z5,z6,z7,z8,z9,z10,z11]) (Ae (cs':=#[a0,a1,a2,a3,z4,z5,z6,z7,z8,z9,z10,z11]) (Ae (cs':=#[a0,a1,a2,z3,z4,z5,z6,z7,z8,z9,z10,z11]) (Ae (cs':=#[a0,a1,z2,z3,z4,z5,z6,z7,z8,z9,z10,z11]) (Ae (cs':=#[a0,z1,z2,z3,z4,z5,z6,z7,z8,z9,z10,z11]) h 0 a0 rfl) 1 a1 rfl) 2 a2 rfl) 3 a3 rfl) 4 a4 rfl) 5 a5 rfl) 6 a6 rfl) 7 a7 rfl) 8 a8 rfl) 9 a9 rfl) 10 a10 rfl) 11 a11 rfl)
theorem f12 {w:World} {k g:Nat} {t:TypeId} {cs:Array Value} {a0 a1 a2 a3 a4 a5 a6 a7 a8 a9 a10 a11:Value} (h:w.heap[k]?=some (.cells cs t (0,0))) (hg:k≠g):(s12 w g a0 a1 a2 a3 a4 a5 a6 a7 a8 a9 a10 a11).heap[k]?=some (.cells cs t (0,0)):=(Av (p:=⟨g,11,none⟩) (Av (p:=⟨g,10,none⟩) (Av (p:=⟨g,9,none⟩) (Av (p:=⟨g,8,none⟩) (Av (p:=⟨g,7,none⟩) (Av (p:=⟨g,6,none⟩) (Av (p:=⟨g,5,none⟩) (Av (p:=⟨g,4,none⟩) (Av (p:=⟨g,3,none⟩) (Av (p:=⟨g,2,none⟩) (Av (p:=⟨g,1,none⟩) (Av (p:=⟨g,0,none⟩) h hg a0) hg a1) hg a2) hg a3) hg a4) hg a5) hg a6) hg a7) hg a8) hg a9) hg a10) hg a11)
theorem o12 {w:World} {g base:Nat} {e:TypeId} {size n:Nat} {v:Value} {xs:List Value} {a0 a1 a2 a3 a4 a5 a6 a7 a8 a9 a10 a11:Value} (h:w.ownsRow base e size v n xs) (hg:some g≠v.ownBlock):(s12 w g a0 a1 a2 a3 a4 a5 a6 a7 a8 a9 a10 a11).ownsRow base e size v n xs:=(Ct (p:=⟨g,11,none⟩) (Ct (p:=⟨g,10,none⟩) (Ct (p:=⟨g,9,none⟩) (Ct (p:=⟨g,8,none⟩) (Ct (p:=⟨g,7,none⟩) (Ct (p:=⟨g,6,none⟩) (Ct (p:=⟨g,5,none⟩) (Ct (p:=⟨g,4,none⟩) (Ct (p:=⟨g,3,none⟩) (Ct (p:=⟨g,2,none⟩) (Ct (p:=⟨g,1,none⟩) (Ct (p:=⟨g,0,none⟩) h hg a0) hg a1) hg a2) hg a3) hg a4) hg a5) hg a6) hg a7) hg a8) hg a9) hg a10) hg a11)
namespace Kd
section
variable {α:Type} {n:Nat} {d:Kd α} {hs:0<d.sz} {w:World} {base:Nat} {ok:Nat→Prop} {xs:List α} {cs:List Value}
end
section
variable {α:Type} {n:Nat} {enc:α→Value} {h1:∀ x,(enc x).oneCell'=true} {hs:0<(Wb enc h1).sz} {w:World} {base:Nat} {ok:Nat→Prop} {xs:List α} {cs:List Value}
end
end Kd
section
variable {P:Program} {d:Nat} {xs ys:Array Value} {f:Field} {fs:List Field} {a b:Value} {r s:Bool} {w:World}
theorem Mt (hn : (f.name == "_") = false) (ha : (part f.type xs f.offset).run P w = .ok a w) (hb : (part f.type ys f.offset).run P w = .ok b w) (he : (Op.equalIn d f.type a b).run P w = .ok r w) : (Op.eqFields d xs ys [f]).run P w = .ok r w := by
 have hn' : f.name ≠ "_" := by simpa using hn
 simp only [Op.eqFields,if_pos hn',Sem.run_bind,ha,hb,he,Result.andThen_ok]
 cases r<;>simp
theorem Ec (hn : (f.name == "_") = false) (ha : (part f.type xs f.offset).run P w = .ok a w) (hb : (part f.type ys f.offset).run P w = .ok b w) (he : (Op.equalIn d f.type a b).run P w = .ok r w) (hr : (Op.eqFields d xs ys fs).run P w = .ok s w) : (Op.eqFields d xs ys (f :: fs)).run P w = .ok (r && s) w := by
 have hn' : f.name ≠ "_" := by simpa using hn
 rw [Op.eqFields]
 simp only [if_pos hn',Sem.run_bind,ha,hb,he,Result.andThen_ok]
 cases r
 .simp
 .simpa using hr
theorem Tm {t:TypeId} {fs:Array Field} (hu:P.underlying t=some (.struct fs)) (hp:P.stoodInHeld t=false) (h:(Op.eqFields d xs ys fs.toList).run P w=.ok r w):(Op.equalIn (d+1) t (.agg xs) (.agg ys)).run P w=.ok r w:=by
 have hf:P.fieldsOf t=fs:=by simp [Program.fieldsOf,hu]
 rw [run_equalIn_struct (P:=P) w d t xs ys (by rw [hf];exact hu) hp,hf]
 exact h
end
section
variable {P:Program} {ops:Array Oper} {rest:List Oper} {o:Oper} {a:Act} {Q:Exit→Act→World→Prop} {W:World}
theorem rJ (hw:Region.wanted o (yielded ops a.tmps)=true) (h:wpList P ops Q ({o with guard:=none}::rest) a W):wpList P ops Q (o::rest) a W:=by
 have h1:Region.wanted {o with guard:=none} (yielded ops a.tmps)=true:=rfl
 unfold wpList at h ⊢
 rw [if_pos h1] at h
 rw [if_pos hw]
 exact h
end
end Go.Proofs.YtlejhikddkdanaaGreatW.PrintWords
namespace Go.Proofs.YtlejhikddkdanaaGreatW.PrintLast
section
variable {P:Program} {ops:Array Oper} {Q:Exit→Act→World→Prop} {md:Region.Mode} {S:World→Prop} {ds:List Nat}
def Region.reachB (md:Region.Mode) (ops:Array Oper) (i:Nat):Nat→Nat→Bool
 |0,_=>false
 |fuel+1,d=>match ops[d]? with
  |some o=>o.after.any fun e=>Region.binds md e && (e.on==i ||Region.reachB md ops i fuel e.on)
  |none=>false
def Region.closedB (md:Region.Mode) (ops:Array Oper) (listed:Array Bool):Bool:=
 (List.range ops.size).all fun j=>!listed.getD j false ||match ops[j]? with
  |some o=>o.after.all fun e=>!Region.binds md e ||listed.getD e.on false
  |none=>true
def Region.lastB (md:Region.Mode) (ops:Array Oper) (listed:Array Bool) (ds:List Nat) (i:Nat):Bool:=
 ds.all fun d=>listed.getD d true ||Region.reachB md ops i ops.size d
def ListedClosed (md:Region.Mode) (ops:Array Oper) (listed:Array Bool):Prop:=
 ∀ j oj,ops[j]?=some oj→listed.getD j false=true→∀ e ∈ oj.after,Region.binds md e=true→listed.getD e.on false=true
theorem Region.closedB_spec {listed:Array Bool} (h:Region.closedB md ops listed=true):ListedClosed md ops listed:=by
 intro j oj hj hl e he hb
 have hlt:j<ops.size:=(Array.getElem?_eq_some_iff.1 hj).1
 have h1:=List.all_eq_true.1 h j (List.mem_range.2 hlt)
 simp only [hl,hj,Bool.not_true,Bool.false_or] at h1
 have h2:=Array.all_eq_true_iff_forall_mem.1 h1 e he
 simpa [hb] using h2
theorem ListedClosed.set {listed:Array Bool} {i:Nat} (h:ListedClosed md ops listed) (hi:i ∈ Region.ready md ops listed):ListedClosed md ops (listed.setIfInBounds i true):=by
 obtain ⟨_,oi,hoi,hall⟩:=mem_ready.1 hi
 intro j oj hj hl e he hb
 by_cases hij:i=j
 .subst hij
  have:oj=oi:=Option.some.inj (hj.symm.trans hoi)
  subst this
  exact getD_set_true (hall e he hb)
 .rw [getD_set_ne false hij] at hl
  exact getD_set_true (h j oj hj hl e he hb)
theorem Region.reach_listed {listed:Array Bool} {i:Nat} (hc:ListedClosed md ops listed):∀ (fuel d:Nat),Region.reachB md ops i fuel d=true→listed.getD d false=true→listed.getD i false=true
 |0,_,h,_=>by simp [Region.reachB] at h
 |fuel+1,d,h,hl=>by
  unfold Region.reachB at h
  cases ho:ops[d]? with
  |none=>rw [ho] at h;simp at h
  |some o=>
   rw [ho] at h
   obtain ⟨e,he,h1⟩:=Array.any_eq_true'.1 h
   simp only [Bool.and_eq_true,Bool.or_eq_true,beq_iff_eq] at h1
   have hle:=hc d o ho hl e he h1.1
   rcases h1.2 with h2|h2
   .rw [← h2];exact hle
   .exact Region.reach_listed hc fuel e.on h2 hle
theorem Region.reach_not_ready {listed:Array Bool} {i d fuel:Nat} (hc:ListedClosed md ops listed) (hr:Region.reachB md ops i fuel d=true) (hun:listed.getD i true=false):d ∉ Region.ready md ops listed:=by
 intro hd
 obtain ⟨_,o,ho,hall⟩:=mem_ready.1 hd
 have hi:listed.getD i false=true:=by
  cases fuel with
  |zero=>simp [Region.reachB] at hr
  |succ n=>
   unfold Region.reachB at hr
   rw [ho] at hr
   obtain ⟨e,he,h1⟩:=Array.any_eq_true'.1 hr
   simp only [Bool.and_eq_true,Bool.or_eq_true,beq_iff_eq] at h1
   have hle:=hall e he h1.1
   rcases h1.2 with h2|h2
   .rw [← h2];exact hle
   .exact Region.reach_listed hc n e.on h2 hle
 rcases Nat.lt_or_ge i listed.size with h'|h'
 .simp [h'] at hun hi
  rw [hun] at hi
  cases hi
 .simp [Array.getElem?_eq_none h'] at hun
def Bv (P:Program) (md:Region.Mode) (ops:Array Oper) (Q:Exit→Act→World→Prop) (S:World→Prop) (ds:List Nat):Nat→Array Bool→Act→World→Prop
 |0,listed,a,w=>Region.ready md ops listed=[]∧Q .normal a w
 |fuel+1,listed,a,w=>
  (Region.ready md ops listed=[]→Q .normal a w)∧
  ∀ i ∈ Region.ready md ops listed,wpOp P ops Q i (fun a' w'=>(i ∉ ds→S w→S w')∧Bv P md ops Q S ds fuel (listed.setIfInBounds i true) a' w') a w
theorem Nr:∀ (fuel:Nat) (listed:Array Bool) (a:Act) (w:World),Bv P md ops Q S ds fuel listed a w→wpAny P md ops Q fuel listed a w
 |0,_,_,_,h=>h
 |fuel+1,_,_,_,h=>⟨h.1,fun i hi=>wpOp_mono (fun a' w' h'=>Nr fuel _ a' w' h'.2) (h.2 i hi)⟩
theorem Rd {i:Nat} {oi:Oper} {v:Value} (hi:ops[i]?=some oi) (hsel:∀ (j:Nat) (o:Oper) cs b,ops[j]?=some o→o.op≠.select cs b)
  (hQ:∀ c a w,Q (.panic c) (a.put oi.dst v) w→Q (.panic c) a w) (n:Nat) :
  ∀ (fuel:Nat) (listed:Array Bool) (a:Act) (w:World),
   (∀ j oj,ops[j]?=some oj→j≠i→listed.getD j true=false→(∀ e ∈ oj.after,Region.binds md e=true→e.on≠i)→oi.apart ops oj=true)→
   ListedClosed md ops listed→(∀ d ∈ ds,listed.getD d true=false→Region.reachB md ops i n d=true)→
   i ∈ Region.ready md ops listed→YieldsIf P ops S oi v a→S w→
   Bv P md ops Q S ds fuel (listed.setIfInBounds i true) (a.put oi.dst v) w→Bv P md ops Q S ds (fuel+1) listed a w:=by
 intro fuel
 induction fuel with
 |zero=>
  intro listed a w _ _ _ hr hy hS H
  refine ⟨fun h=>(by rw [h] at hr;cases hr),fun j hj=>?_⟩
  by_cases hji:j=i
  .subst hji;exact hy.wpOp hi hS ⟨fun _ h=>h,H⟩
  .have:=ready_mono hj hji
   rw [H.1] at this
   cases this
 |succ fuel ih=>
  intro listed a w hfree hc hd hr hy hS H
  refine ⟨fun h=>(by rw [h] at hr;cases hr),fun j hj=>?_⟩
  by_cases hji:j=i
  .subst hji;exact hy.wpOp hi hS ⟨fun _ h=>h,H⟩
  .have h1:=H.2 j (ready_mono hj hji)
   obtain ⟨hjun,oj,hoj,hall⟩:=mem_ready.1 hj
   have hiun:=(mem_ready.1 hr).1
   have hnot:∀ e ∈ oj.after,Region.binds md e=true→e.on≠i:=fun e he hb heq=>by
    have h1:=hall e he hb
    rw [heq] at h1
    rcases Nat.lt_or_ge i listed.size with h'|h'
    .simp [h'] at hiun h1;rw [hiun] at h1;cases h1
    .simp [Array.getElem?_eq_none h'] at h1
   have hjd:j ∉ ds:=fun hm=>Region.reach_not_ready hc (hd j hm hjun) hiun hj
   have h2:=wpOp_putIf hoj (hfree j oj hoj hji hjun hnot) (fun cs b=>hsel i oi cs b hi) (fun cs b=>hsel j oj cs b hoj) hQ hy h1
   have hfree':∀ k ok,ops[k]?=some ok→k≠i→(listed.setIfInBounds j true).getD k true=false→
     (∀ e ∈ ok.after,Region.binds md e=true→e.on≠i)→oi.apart ops ok=true:=fun k ok hk hki hun hno=>by
    refine hfree k ok hk hki ?_ hno
    by_cases hjk:j=k
    .subst hjk;exact hjun
    .rw [getD_set_ne true hjk] at hun;exact hun
   have hd':∀ d ∈ ds,(listed.setIfInBounds j true).getD d true=false→Region.reachB md ops i n d=true:=fun d hm hun=>by
    refine hd d hm ?_
    by_cases hjk:j=d
    .subst hjk;exact hjun
    .rw [getD_set_ne true hjk] at hun;exact hun
   refine wpOp_mono (fun a' w' h3=>⟨h3.2.1,ih (listed.setIfInBounds j true) a' w' hfree' (hc.set hj) hd' (ready_mono hr (Ne.symm hji)) h3.1 (h3.2.1 hjd hS) ?_⟩) h2
   rw [Array.setIfInBounds_comm _ _ hji]
   exact h3.2.2
theorem Tx {i:Nat} {oi:Oper} {v:Value} (hi:ops[i]?=some oi) (hsel:∀ (j:Nat) (o:Oper) cs b,ops[j]?=some o→o.op≠.select cs b)
  (hQ:∀ c a w,Q (.panic c) (a.put oi.dst v) w→Q (.panic c) a w) :
  ∀ (fuel:Nat) (listed:Array Bool) (a:Act) (w:World),
   (∀ j oj,ops[j]?=some oj→j≠i→listed.getD j true=false→(∀ e ∈ oj.after,Region.binds md e=true→e.on≠i)→oi.apart ops oj=true)→
   i ∈ Region.ready md ops listed→Yields P ops oi v a→
   Bv P md ops Q S ds fuel (listed.setIfInBounds i true) (a.put oi.dst v) w→Bv P md ops Q S ds (fuel+1) listed a w:=by
 intro fuel
 induction fuel with
 |zero=>
  intro listed a w _ hr hy H
  refine ⟨fun h=>(by rw [h] at hr;cases hr),fun j hj=>?_⟩
  by_cases hji:j=i
  .subst hji;exact (hy.yieldsIf (S:=fun _=>True)).wpOp hi trivial ⟨fun _ h=>h,H⟩
  .have:=ready_mono hj hji
   rw [H.1] at this
   cases this
 |succ fuel ih=>
  intro listed a w hfree hr hy H
  refine ⟨fun h=>(by rw [h] at hr;cases hr),fun j hj=>?_⟩
  by_cases hji:j=i
  .subst hji;exact (hy.yieldsIf (S:=fun _=>True)).wpOp hi trivial ⟨fun _ h=>h,H⟩
  .have h1:=H.2 j (ready_mono hj hji)
   obtain ⟨hjun,oj,hoj,hall⟩:=mem_ready.1 hj
   have hiun:=(mem_ready.1 hr).1
   have hnot:∀ e ∈ oj.after,Region.binds md e=true→e.on≠i:=fun e he hb heq=>by
    have h1:=hall e he hb
    rw [heq] at h1
    rcases Nat.lt_or_ge i listed.size with h'|h'
    .simp [h'] at hiun h1;rw [hiun] at h1;cases h1
    .simp [Array.getElem?_eq_none h'] at h1
   have h2:=wpOp_put hoj (hfree j oj hoj hji hjun hnot) (fun cs b=>hsel i oi cs b hi) (fun cs b=>hsel j oj cs b hoj) hQ hy h1
   have hfree':∀ k ok,ops[k]?=some ok→k≠i→(listed.setIfInBounds j true).getD k true=false→
     (∀ e ∈ ok.after,Region.binds md e=true→e.on≠i)→oi.apart ops ok=true:=fun k ok hk hki hun hno=>by
    refine hfree k ok hk hki ?_ hno
    by_cases hjk:j=k
    .subst hjk;exact hjun
    .rw [getD_set_ne true hjk] at hun;exact hun
   refine wpOp_mono (fun a' w' h3=>⟨h3.2.1,ih (listed.setIfInBounds j true) a' w' hfree' (ready_mono hr (Ne.symm hji)) h3.1 ?_⟩) h2
   rw [Array.setIfInBounds_comm _ _ hji]
   exact h3.2.2
theorem Rz {i:Nat} {oi:Oper} {v:Value} {fuel:Nat} {listed:Array Bool} {a:Act} {w:World} (hi:ops[i]?=some oi)
  (hs:Region.noSelect ops=true) (hf:Region.free md ops listed i=true) (hr:(Region.ready md ops listed).contains i=true)
  (hc:Region.closedB md ops listed=true) (hl:Region.lastB md ops listed ds i=true)
  (hQ:∀ c a w,Q (.panic c) (a.put oi.dst v) w→Q (.panic c) a w) (hy:YieldsIf P ops S oi v a) (hS:S w)
  (h:Bv P md ops Q S ds fuel (listed.setIfInBounds i true) (a.put oi.dst v) w):Bv P md ops Q S ds (fuel+1) listed a w:=
 Rd hi (Region.noSelect_spec hs) hQ ops.size fuel listed a w (Region.free_spec hi hf) (Region.closedB_spec hc)
  (fun d hm hun=>by have:=List.all_eq_true.1 hl d hm;rw [hun] at this;simpa using this) (by simpa using hr) hy hS h
theorem Ty {rs:List Nat} {fuel:Nat} {listed:Array Bool} {a:Act} {w:World} (hr:Region.ready md ops listed=rs) (hne:rs≠[])
  (h:∀ i ∈ rs,wpOp P ops Q i (fun a' w'=>(i ∉ ds→S w→S w')∧Bv P md ops Q S ds fuel (listed.setIfInBounds i true) a' w') a w):Bv P md ops Q S ds (fuel+1) listed a w:=
 ⟨fun h0=>absurd (hr▸h0) hne,hr▸h⟩
theorem Sa {listed:Array Bool} {a:Act} {w:World} (hr:Region.ready md ops listed=[]) (h:Q .normal a w) :
  ∀ fuel,Bv P md ops Q S ds fuel listed a w
 |0=>⟨hr,h⟩
 |_+1=>⟨fun _=>h,by rw [hr];simp⟩
theorem Rx {id:Nat} {a:Act} {w:World} (hm:P.follows .mixedOrders=true)
  (h:Bv P .any ops Q S ds ops.size (Array.replicate ops.size false) a {w with drawn:=w.drawn+1}):(Code.region id ops true).wp P Q a w:=
 wp_region_any hm (Nr _ _ _ _ h)
end
section
variable {P:Program} {ops:Array Oper} {Q:Exit→Act→World→Prop} {md:Region.Mode} {S:World→Prop} {ds:List Nat}
def AllReadyL (P:Program) (md:Region.Mode) (ops:Array Oper) (Q:Exit→Act→World→Prop) (S:World→Prop) (ds:List Nat) (fuel:Nat) (listed:Array Bool) (a:Act) (w:World) (rs:List Nat):Prop:=
 ∀ i ∈ rs,wpOp P ops Q i (fun a' w'=>(i ∉ ds→S w→S w')∧Bv P md ops Q S ds fuel (listed.setIfInBounds i true) a' w') a w
theorem AllReadyL.nil {fuel:Nat} {listed:Array Bool} {a:Act} {w:World}:AllReadyL P md ops Q S ds fuel listed a w []:=fun _ h=>by cases h
theorem AllReadyL.cons {fuel:Nat} {listed:Array Bool} {a:Act} {w:World} {i:Nat} {o:Oper} {rs:List Nat} (ho:ops[i]?=some o) (hd:i ∉ ds)
  (h:∀ K':Act→World→Prop,Shut (∀ a w,S w→(S w→Bv P md ops Q S ds fuel (listed.setIfInBounds i true) a w)→K' a w)→if Region.wanted o (yielded ops a.tmps)=true then Oper.wp P o a w K' Q else K' (a.put o.dst undef) w)
  (hs:AllReadyL P md ops Q S ds fuel listed a w rs):AllReadyL P md ops Q S ds fuel listed a w (i::rs):=fun j hj=>by
 rcases List.mem_cons.1 hj with rfl|hj
 .exact wpOp_step ho (fun K' hK=>h K' (fun a w hS hW=>hK a w ⟨fun _ _=>hS,hW hS⟩))
 .exact hs j hj
theorem Mf {rs:List Nat} {fuel:Nat} {listed:Array Bool} {a:Act} {w:World} (hr:Region.ready md ops listed=rs) (hne:rs≠[])
  (h:AllReadyL P md ops Q S ds fuel listed a w rs):Bv P md ops Q S ds (fuel+1) listed a w:=Ty hr hne h
theorem qA {id n:Nat} {a:Act} {w:World} (l:Array Bool) (hm:P.follows .mixedOrders=true) (hn:ops.size=n) (hl:Array.replicate n false=l) (hS:S w.drew)
  (h:S w.drew→Bv P .any ops Q S ds n l a w.drew):(Code.region id ops true).wp P Q a w:=by
 subst hn
 subst hl
 exact Rx hm (h hS)
def Yh (md:Region.Mode) (ops:Array Oper) (ds:List Nat) (l l':Array Bool) (i:Nat):Bool:=
 Region.noSelect ops && Region.free md ops l i && (Region.ready md ops l).contains i && Region.closedB md ops l && Region.lastB md ops l ds i && (l.setIfInBounds i true==l')
theorem oY {i:Nat} {N:Option Tmp} {oi:Oper} {v:Value} {fuel:Nat} {l:Array Bool} {a:Act} {w:World} (l':Array Bool) (hi:ops[i]?=some oi) (hN:oi.dst=N) (hc:Yh md ops ds l l' i=true)
  (hQ:∀ c a w,Q (.panic c) (a.put oi.dst v) w→Q (.panic c) a w) (hy:YieldsIf P ops S oi v a) (hS:S w) {a':Act} (ha:a.put N v=a')
  (h:Bv P md ops Q S ds fuel l' a' w):Bv P md ops Q S ds (fuel+1) l a w:=by
 subst ha
 subst hN
 simp only [Yh,Bool.and_eq_true,beq_iff_eq] at hc
 obtain ⟨⟨⟨⟨⟨h1,h2⟩,h3⟩,h4⟩,h5⟩,h6⟩:=hc
 subst h6
 exact Rz hi h1 h2 h3 h4 h5 hQ hy hS h
def oM (md:Region.Mode) (ops:Array Oper) (l l':Array Bool) (i:Nat):Bool:=
 Region.noSelect ops && Region.free md ops l i && (Region.ready md ops l).contains i && (l.setIfInBounds i true==l')
theorem tK {i:Nat} {N:Option Tmp} {oi:Oper} {v:Value} {fuel:Nat} {l:Array Bool} {a:Act} {w:World} (l':Array Bool) (hi:ops[i]?=some oi) (hN:oi.dst=N) (hc:oM md ops l l' i=true)
  (hQ:∀ c a w,Q (.panic c) (a.put oi.dst v) w→Q (.panic c) a w) (hy:Yields P ops oi v a) {a':Act} (ha:a.put N v=a')
  (h:Bv P md ops Q S ds fuel l' a' w):Bv P md ops Q S ds (fuel+1) l a w:=by
 subst ha
 subst hN
 simp only [oM,Bool.and_eq_true,beq_iff_eq] at hc
 obtain ⟨⟨⟨h1,h2⟩,h3⟩,h6⟩:=hc
 subst h6
 exact Tx hi (Region.noSelect_spec h1) hQ fuel l a w (Region.free_spec hi h2) (by simpa using h3) hy h
def Wf (md:Region.Mode) (ops:Array Oper) (l l':Array Bool) (i:Nat):Bool:=(Region.ready md ops l==[i]) && (l.setIfInBounds i true==l')
theorem tM {i:Nat} {N:Option Tmp} {oi:Oper} {fuel:Nat} {l:Array Bool} {a:Act} {w:World} (l':Array Bool) (hi:ops[i]?=some oi) (hN:oi.dst=N) (hc:Wf md ops l l' i=true) (hd:i ∉ ds)
  (h:∀ K:Act→World→Prop,Shut (∀ a' w',S w'→(S w'→Bv P md ops Q S ds fuel l' a' w')→K a' w')→if Region.wanted oi (yielded ops a.tmps)=true then Oper.wp P oi a w K Q else K (a.put N undef) w) :
  Bv P md ops Q S ds (fuel+1) l a w:=by
 subst hN
 simp only [Wf,Bool.and_eq_true,beq_iff_eq] at hc
 obtain ⟨h1,h2⟩:=hc
 subst h2
 exact Mf h1 Zs (AllReadyL.cons hi hd (fun K hK=>h K hK) AllReadyL.nil)
theorem uT {l:Array Bool} {a:Act} {w:World} {n:Nat} (hr:(Region.ready md ops l==[])=true) (h:Q .normal a w):Bv P md ops Q S ds n l a w:=Sa (by simpa using hr) h n
theorem wQ {i j:Nat} {Ni Nj:Option Tmp} {oi oj:Oper} {fuel:Nat} {l:Array Bool} {a:Act} {w:World} (li lj:Array Bool) (hi:ops[i]?=some oi) (hj:ops[j]?=some oj) (hNi:oi.dst=Ni) (hNj:oj.dst=Nj)
  (hc:(Region.ready md ops l==[i,j] && l.setIfInBounds i true==li && l.setIfInBounds j true==lj)=true) (hdi:i ∉ ds) (hdj:j ∉ ds)
  (h1:∀ K:Act→World→Prop,Shut (∀ a' w',S w'→(S w'→Bv P md ops Q S ds fuel li a' w')→K a' w')→if Region.wanted oi (yielded ops a.tmps)=true then Oper.wp P oi a w K Q else K (a.put Ni undef) w)
  (h2:∀ K:Act→World→Prop,Shut (∀ a' w',S w'→(S w'→Bv P md ops Q S ds fuel lj a' w')→K a' w')→if Region.wanted oj (yielded ops a.tmps)=true then Oper.wp P oj a w K Q else K (a.put Nj undef) w) :
  Bv P md ops Q S ds (fuel+1) l a w:=by
 subst hNi
 subst hNj
 simp only [Bool.and_eq_true,beq_iff_eq] at hc
 obtain ⟨⟨h3,h4⟩,h5⟩:=hc
 subst h4
 subst h5
 exact Mf h3 Zs (AllReadyL.cons hi hdi (fun K hK=>h1 K hK) (AllReadyL.cons hj hdj (fun K hK=>h2 K hK) AllReadyL.nil))
def cZ:Act→List (Tmp×Value)→Act
 |a,[]=>a
 |a,(n,v)::r=>cZ (a.put (some n) v) r
theorem wO {σ:Type} {fuel:Nat} {l:Array Bool} {a:Act} {w:World} (fuel':Nat) (l':Array Bool) (ns:σ→List (Tmp×Value)) (F:σ→World→Prop)
  (hcont:∀ s w',F s w'→Bv P md ops Q S ds fuel' l' (cZ a (ns s)) w')
  (h:(∀ s w',F s w'→Bv P md ops Q S ds fuel' l' (cZ a (ns s)) w')→Bv P md ops Q S ds fuel l a w):Bv P md ops Q S ds fuel l a w:=h hcont
theorem tQ {fuel:Nat} {l:Array Bool} {a a':Act} {w:World} (ha:a=a') (h:Bv P md ops Q S ds fuel l a' w):Bv P md ops Q S ds fuel l a w:=by
 subst ha
 exact h
theorem uW {oi:Oper} {N:Option Tmp} {a:Act} {w:World} {K:Act→World→Prop} (f:FuncId) (args:Array Value) (hw:Region.wanted oi (yielded ops a.tmps)=true) (hN:oi.dst=N) (hrun:(execOp a.eval oi).run P w=.ok (.enter f args) w)
  (h:Calls P f args w fun e w'=>∃ v,e=.returned v∧K (a.put N v) w'):if Region.wanted oi (yielded ops a.tmps)=true then Oper.wp P oi a w K Q else K (a.put N undef) w:=by
 rw [if_pos hw]
 subst hN
 unfold Oper.wp
 rw [hrun,Oper.upon_enter]
 refine h.mono fun e w'' hh=>?_
 obtain ⟨v,rfl,hk⟩:=hh
 exact hk
theorem fS {f : FuncId} {fn : Func} (hf : P.funcs[f]? = some fn) (hname : (fn.name == "runtime.NumGoroutine") = false) (hb : fn.body.isSome = true) (args : Array Value) (w : World) : (callFunc f args).run P w = .ok (.enter f args) w := by
 have h1 : fn.name ≠ "runtime.NumGoroutine" := by simpa using hname
 obtain ⟨c,hc⟩:=Option.isSome_iff_exists.1 hb
 simp [callFunc,hf,h1,hc]
theorem uH {oi : Oper} {N : Option Tmp} {a : Act} {w : World} {K : Act → World → Prop} {f : FuncId} {fn : Func} {as9 : Array Operand} {ts : Array TypeId} (hf : P.funcs[f]? = some fn) (hname : (fn.name == "runtime.NumGoroutine") = false) (hb : fn.body.isSome = true) (args : Array Value)
  (hw:Region.wanted oi (yielded ops a.tmps)=true) (hN:oi.dst=N) (hop:oi.op=.call {callee:=.value (.func f),args:=as9,argTypes:=ts}) (hargs:as9.map a.eval=args)
  (h:Calls P f args w fun e w'=>∃ v,e=.returned v∧K (a.put N v) w'):if Region.wanted oi (yielded ops a.tmps)=true then Oper.wp P oi a w K Q else K (a.put N undef) w:=by
 refine uW f args hw hN ?_ h
 have he:=fS hf hname hb args w
 unfold execOp
 simp [hop,resolve,Deferred.ofValue,invoke,Act.eval,hargs,he]
theorem Bk {rest : List Oper} {oi : Oper} {a : Act} {w : World} (N : Option Tmp) (hd : oi.dst = N) (hg : oi.guard = none) {f : FuncId} {fn : Func} {as9 : Array Operand} {ts : Array TypeId} (hf : P.funcs[f]? = some fn) (hname : (fn.name == "runtime.NumGoroutine") = false) (hb : fn.body.isSome = true) (args : Array Value)
  (hop:oi.op=.call {callee:=.value (.func f),args:=as9,argTypes:=ts}) (hargs:as9.map a.eval=args)
  (h:Calls P f args w fun e w'=>∃ v,e=.returned v∧wpList P ops Q rest (a.put N v) w'):wpList P ops Q (oi::rest) a w:=by
 refine wpList_plain hg fun K hK=>?_
 have he:=fS hf hname hb args w
 have hrun:(execOp a.eval oi).run P w=.ok (.enter f args) w:=by
  unfold execOp
  simp [hop,resolve,Deferred.ofValue,invoke,Act.eval,hargs,he]
 unfold Oper.wp
 rw [hrun,Oper.upon_enter]
 refine h.mono fun e w'' hh=>?_
 obtain ⟨v,rfl,hk⟩:=hh
 subst hd
 exact hK _ _ hk
theorem tF {oi:Oper} {a:Act} {w w1:World} {K:Act→World→Prop} (hw:Region.wanted oi (yielded ops a.tmps)=true) (hN:oi.dst=none) (hrun:(execOp a.eval oi).run P w=.ok .skip w1)
  (h:K a w1):if Region.wanted oi (yielded ops a.tmps)=true then Oper.wp P oi a w K Q else K (a.put none undef) w:=by
 rw [if_pos hw]
 unfold Oper.wp
 rw [hrun]
 show K (a.put oi.dst undef) w1
 rw [hN]
 exact h
theorem Ou (n:Int):IntKind.i64.wrap n=Go.RowKit.wrap64 n:=by unfold Go.RowKit.wrap64;exact IntKind.wrap_i64 n
theorem fP (n:Int):IntKind.i32.wrap n=Go.RowKit.wrap32 n:=by unfold Go.RowKit.wrap32;exact IntKind.wrap_i32 n
end
end Go.Proofs.YtlejhikddkdanaaGreatW.PrintLast
namespace Go.Proofs.YtlejhikddkdanaaGreatW.PrintLast
open Go.Proofs.YtlejhikddkdanaaGreatW.PrintWords (Az)
def Ng (md:Region.Mode) (o:Oper):List Nat:=(o.after.toList.filter (fun e=>Region.binds md e)).map (fun e=>e.on)
def Xu (md:Region.Mode) (ops:Array Oper) (i:Nat) (oi:Oper):List Nat:=(List.range ops.size).filter fun j=>!(j==i) && match ops[j]? with
 |some oj=>!(oj.after.any (fun e=>Region.binds md e && e.on==i) ||oi.apart ops oj)
 |none=>false
def Kn (md:Region.Mode) (ops:Array Oper):Bool×List (List Nat×List Nat):=(Region.noSelect ops,(List.range ops.size).map fun i=>match ops[i]? with
 |some o=>(Ng md o,Xu md ops i o)
 |none=>([],[]))
def Kf (T:List (List Nat×List Nat)) (l:List Bool) (i:Nat):Bool:=!l.getD i true && match T[i]? with
 |some r=>r.1.all (fun j=>l.getD j false)
 |none=>false
def Ps (T:List (List Nat×List Nat)) (l:List Bool):List Nat:=(List.range T.length).filter (Kf T l)
def bI (T:List (List Nat×List Nat)) (l:List Bool) (i:Nat):Bool:=match T[i]? with
 |some r=>r.2.all (fun j=>l.getD j true)
 |none=>false
def Rv (T:List (List Nat×List Nat)) (l:List Bool):Bool:=(List.range T.length).all fun j=>!l.getD j false ||match T[j]? with
 |some r=>r.1.all (fun k=>l.getD k false)
 |none=>true
def Pu (T:List (List Nat×List Nat)) (i:Nat):Nat→Nat→Bool
 |0,_=>false
 |fuel+1,d=>match T[d]? with
  |some r=>r.1.any fun j=>j==i ||Pu T i fuel j
  |none=>false
def fL (T:List (List Nat×List Nat)) (l:List Bool) (ds:List Nat) (i:Nat):Bool:=ds.all fun d=>l.getD d true ||Pu T i T.length d
section
variable {md:Region.Mode} {ops:Array Oper} {T:Bool×List (List Nat×List Nat)} {l l' li lj lk:Array Bool} {ds:List Nat} {i j k:Nat}
theorem gd (l:Array Bool) (j:Nat) (b:Bool):l.getD j b=l.toList.getD j b:=by simp [Array.getD_eq_getD_getElem?,List.getD_eq_getElem?_getD]
theorem Ve (o:Oper) (p:Nat→Bool):o.after.all (fun e=>!Region.binds md e ||p e.on)=(Ng md o).all p:=by
 unfold Ng
 rw [← Array.all_toList]
 induction o.after.toList with
 |nil=>rfl
 |cons e r ih=>
  rw [List.all_cons,ih,List.filter_cons]
  cases h:Region.binds md e<;>simp
theorem gT (o:Oper) (p:Nat→Bool):o.after.any (fun e=>Region.binds md e && p e.on)=(Ng md o).any p:=by
 unfold Ng
 rw [← Array.any_toList]
 induction o.after.toList with
 |nil=>rfl
 |cons e r ih=>
  rw [List.any_cons,ih,List.filter_cons]
  cases h:Region.binds md e<;>simp
theorem Kb:(Kn md ops).2.length=ops.size:=by simp [Kn]
theorem Mz {o:Oper} (h:ops[i]?=some o):(Kn md ops).2[i]?=some (Ng md o,Xu md ops i o):=by
 have hi:=(Array.getElem?_eq_some_iff.1 h).1
 unfold Kn
 rw [List.getElem?_map,List.getElem?_range hi,Option.map_some,h]
theorem Na (h:ops[i]?=none):(Kn md ops).2[i]?=none:=by
 have hi:ops.size≤i:=Array.getElem?_eq_none_iff.1 h
 exact List.getElem?_eq_none (by rw [Kb];exact hi)
theorem cX:Kf (Kn md ops).2 l.toList i=(!l.getD i true && ((ops[i]?).map (·.after.all fun e=>!Region.binds md e ||l.getD e.on false)).getD false):=by
 unfold Kf
 rw [gd]
 cases h:ops[i]? with
 |none=>rw [Na h];rfl
 |some o=>
  rw [Mz h]
  simp only [Option.map_some,Option.getD_some]
  rw [← Ve]
  simp only [gd]
theorem Ok:Region.ready md ops l=Ps (Kn md ops).2 l.toList:=by
 unfold Region.ready Ps
 rw [Kb]
 refine List.filter_congr (fun i _=>?_)
 rw [cX]
theorem fR:Region.free md ops l i=bI (Kn md ops).2 l.toList i:=by
 unfold Region.free bI
 cases h:ops[i]? with
 |none=>rw [Na h]
 |some oi=>
  rw [Mz h]
  simp only [Xu]
  rw [List.all_filter]
  congr 1
  funext j
  rw [gd]
  cases hj:ops[j]? with
  |none=>cases (j==i)<;>cases (l.toList.getD j true)<;>simp
  |some oj=>
   cases (j==i)<;>cases (l.toList.getD j true)<;>cases (oj.after.any (fun e=>Region.binds md e && e.on==i) ||oi.apart ops oj)<;>simp_all
theorem iS:Region.closedB md ops l=Rv (Kn md ops).2 l.toList:=by
 unfold Region.closedB Rv
 rw [Kb]
 congr 1
 funext j
 rw [gd]
 cases h:ops[j]? with
 |none=>rw [Na h]
 |some o=>
  rw [Mz h]
  simp only
  rw [← Ve]
  simp only [gd]
theorem Zb:∀ (fuel d:Nat),Region.reachB md ops i fuel d=Pu (Kn md ops).2 i fuel d
 |0,_=>rfl
 |fuel+1,d=>by
  unfold Region.reachB Pu
  cases h:ops[d]? with
  |none=>rw [Na h]
  |some o=>
   rw [Mz h]
   simp only
   rw [← gT]
   congr 1
   funext e
   rw [Zb fuel]
theorem nV:Region.lastB md ops l ds i=fL (Kn md ops).2 l.toList ds i:=by
 unfold Region.lastB fL
 rw [Kb]
 congr 1
 funext d
 rw [gd,Zb]
theorem Qp (h:Kf T.2 l.toList i=true) (hT:Kn md ops=T):(Region.ready md ops l).contains i=true:=by
 subst hT
 rw [Ok]
 unfold Ps
 rw [List.contains_iff_mem,List.mem_filter,List.mem_range]
 refine ⟨?_,h⟩
 unfold Kf at h
 rw [Bool.and_eq_true] at h
 cases hq:(Kn md ops).2[i]? with
 |none=>rw [hq] at h;simp at h
 |some r=>exact (List.getElem?_eq_some_iff.1 hq).1
theorem Si (h:(l.toList.set i true==l'.toList)=true):(l.setIfInBounds i true==l')=true:=by
 rw [beq_iff_eq] at h ⊢
 apply Array.ext'
 rw [Array.toList_setIfInBounds]
 exact h
def vE (T:Bool×List (List Nat×List Nat)) (l l':List Bool) (i:Nat):Bool:=T.1 && bI T.2 l i && Kf T.2 l i && (l.set i true==l')
theorem wF (hT:Kn md ops=T) (h:vE T l.toList l'.toList i=true):oM md ops l l' i=true:=by
 simp only [vE,Bool.and_eq_true] at h
 obtain ⟨⟨⟨h1,h2⟩,h3⟩,h4⟩:=h
 have h5:=Qp h3 hT
 have h6:=Si h4
 subst hT
 simp only [oM,Bool.and_eq_true]
 exact ⟨⟨⟨h1,by rw [fR];exact h2⟩,h5⟩,h6⟩
def jQ (T:Bool×List (List Nat×List Nat)) (ds:List Nat) (l l':List Bool) (i:Nat):Bool:=T.1 && bI T.2 l i && Kf T.2 l i && Rv T.2 l && fL T.2 l ds i && (l.set i true==l')
theorem mY (hT:Kn md ops=T) (h:jQ T ds l.toList l'.toList i=true):Yh md ops ds l l' i=true:=by
 simp only [jQ,Bool.and_eq_true] at h
 obtain ⟨⟨⟨⟨⟨h1,h2⟩,h3⟩,h4⟩,h5⟩,h6⟩:=h
 have h7:=Qp h3 hT
 have h8:=Si h6
 subst hT
 simp only [Yh,Bool.and_eq_true]
 exact ⟨⟨⟨⟨⟨h1,by rw [fR];exact h2⟩,h7⟩,by rw [iS];exact h4⟩,by rw [nV];exact h5⟩,h8⟩
theorem vU (hT:Kn md ops=T) (h:(Ps T.2 l.toList==[i] && l.toList.set i true==l'.toList)=true):Wf md ops l l' i=true:=by
 simp only [Bool.and_eq_true] at h
 obtain ⟨h1,h2⟩:=h
 subst hT
 simp only [Wf,Bool.and_eq_true]
 exact ⟨by rw [Ok];exact h1,Si h2⟩
theorem vO (hT:Kn md ops=T) (h:(Ps T.2 l.toList==[i,j] && l.toList.set i true==li.toList && l.toList.set j true==lj.toList)=true):(Region.ready md ops l==[i,j] && l.setIfInBounds i true==li && l.setIfInBounds j true==lj)=true:=by
 simp only [Bool.and_eq_true] at h ⊢
 obtain ⟨⟨h1,h2⟩,h3⟩:=h
 subst hT
 exact ⟨⟨by rw [Ok];exact h1,Si h2⟩,Si h3⟩
theorem vN (hT:Kn md ops=T) (h:(Ps T.2 l.toList==[])=true):(Region.ready md ops l==[])=true:=by
 subst hT
 rw [Ok]
 exact h
def upM (B:List Nat) (d:Nat):List Nat→Nat
 |[]=>0
 |n::r=>(2 ^ n |||(if n<d then B.getD n 0 else 0)) |||upM B d r
def Rl (T:List (List Nat×List Nat)) (B:List Nat):Bool:=(List.range T.length).all fun d=>match T[d]? with
 |some r=>(B.getD d 0 |||upM B d r.1)==upM B d r.1
 |none=>false
theorem eY {B:List Nat} {d i:Nat}:∀ {ns:List Nat},(upM B d ns).testBit i=true→∃ n ∈ ns,n=i∨(n<d∧(B.getD n 0).testBit i=true)
 |[],h=>by simp [upM] at h
 |n::r,h=>by
  unfold upM at h
  rw [Nat.testBit_or,Nat.testBit_or,Bool.or_eq_true,Bool.or_eq_true] at h
  rcases h with (h|h)|h
  .rw [Nat.testBit_two_pow] at h
   exact ⟨n,List.mem_cons_self,.inl (by simpa using h)⟩
  .by_cases hn:n<d
   .rw [if_pos hn] at h
    exact ⟨n,List.mem_cons_self,.inr ⟨hn,h⟩⟩
   .rw [if_neg hn] at h
    simp at h
  .obtain ⟨m,hm,h2⟩:=eY h
   exact ⟨m,List.mem_cons_of_mem _ hm,h2⟩
theorem Uz {T:List (List Nat×List Nat)} {B:List Nat} (hB:Rl T B=true):∀ (fuel d:Nat),d<fuel→d<T.length→(B.getD d 0).testBit i=true→Pu T i fuel d=true
 |0,d,h,_,_=>Zo
 |fuel+1,d,h,hd,hb=>by
  have h1:=List.all_eq_true.1 hB d (List.mem_range.2 hd)
  cases hr:T[d]? with
  |none=>rw [hr] at h1;simp at h1
  |some r=>
   rw [hr] at h1
   simp only [beq_iff_eq] at h1
   have h2:(upM B d r.1).testBit i=true:=by rw [← h1,Nat.testBit_or,hb,Bool.true_or]
   obtain ⟨n,hn,h3⟩:=eY h2
   unfold Pu
   rw [hr]
   simp only
   rw [List.any_eq_true]
   refine ⟨n,hn,?_⟩
   rcases h3 with rfl|⟨h4,h5⟩
   .simp
   .rw [Uz hB fuel n Zo Zo h5,Bool.or_true]
def pI (T:List (List Nat×List Nat)) (B:List Nat) (l:List Bool) (ds:List Nat) (i:Nat):Bool:=ds.all fun d=>l.getD d true ||(decide (d<T.length) && (B.getD d 0).testBit i)
def oZ (T:Bool×List (List Nat×List Nat)) (B ds:List Nat) (l l':List Bool) (i:Nat):Bool:=T.1 && bI T.2 l i && Kf T.2 l i && Rv T.2 l && pI T.2 B l ds i && (l.set i true==l')
theorem sX {B:List Nat} (hT:Kn md ops=T) (hB:Rl T.2 B=true) (h:oZ T B ds l.toList l'.toList i=true):Yh md ops ds l l' i=true:=by
 refine mY hT ?_
 simp only [oZ,jQ,Bool.and_eq_true] at h ⊢
 obtain ⟨⟨⟨⟨⟨h1,h2⟩,h3⟩,h4⟩,h5⟩,h6⟩:=h
 refine ⟨⟨⟨⟨⟨h1,h2⟩,h3⟩,h4⟩,?_⟩,h6⟩
 unfold pI at h5
 unfold fL
 rw [List.all_eq_true] at h5 ⊢
 intro d hd
 have h7:=h5 d hd
 rw [Bool.or_eq_true,Bool.and_eq_true,decide_eq_true_eq] at h7
 rcases h7 with h7|⟨h8,h9⟩
 .rw [h7,Bool.true_or]
 .rw [Uz hB _ d h8 h8 h9,Bool.or_true]
theorem sR {P:Program} {Q:Exit→Act→World→Prop} {S:World→Prop} {n:Nat} {a:Act} {w:World} {B:List Nat} (hT:Kn md ops=T) (hB:Rl T.2 B=true) (h:Az (Kn md ops=T)→Az (Rl T.2 B=true)→Bv P md ops Q S ds n l a w):Bv P md ops Q S ds n l a w:=h ⟨hT⟩ ⟨hB⟩
end
def Nu:Code→Nat→Option (Array Oper)
 |.region id ops _,k=>if id==k then some ops else none
 |.seq a b,k=>match Nu a k with
  |some o=>some o
  |none=>Nu b k
 |.cond _ a b,k=>match Nu a k with
  |some o=>some o
  |none=>Nu b k
 |.block _ c,k=>Nu c k
 |.loop c,k=>Nu c k
 |.scope c,k=>Nu c k
 |.rangeFunc _ _ a b,k=>match Nu a k with
  |some o=>some o
  |none=>Nu b k
 |_,_=>none
def wN (f:Func) (k:Nat):Array Oper:=((f.body.bind fun c=>Nu c k)).getD #[]
end Go.Proofs.YtlejhikddkdanaaGreatW.PrintLast
namespace Go.Proofs.YtlejhikddkdanaaGreatW.PrintLast
section
variable {P:Program} {ops:Array Oper} {Q:Exit→Act→World→Prop} {md:Region.Mode} {S:World→Prop} {ds:List Nat} {T:Bool×List (List Nat×List Nat)}
end
section
variable {P:Program} {ops:Array Oper} {Q:Exit→Act→World→Prop} {md:Region.Mode} {T:Bool×List (List Nat×List Nat)} {B O:List Nat} {b:Nat→Bool} {i j n:Nat}
end
end Go.Proofs.YtlejhikddkdanaaGreatW.PrintLast
namespace Go.Proofs.YtlejhikddkdanaaGreatW.PrintWords
open Go.RowKit
namespace Kd
section
variable {α:Type} {d:Kd α} {e base g o n cap:Nat} {ok okp:Nat→Prop} {w W:World} {v:Value} {xs:List α}
end
section
variable {α:Type} {enc:α→Value} {h1:∀ x,(enc x).oneCell'=true} {e base g o n cap:Nat} {ok:Nat→Prop} {W:World} {xs:List α}
end
end Kd
namespace Kd
section
variable {α β:Type} {d:Kd α} {d':Kd β} {e e':Nat} {w w1 W:World} {base b:Nat} {ok ok' okv oku:Nat→Prop} {u v:Value} {xs:List α} {ys:List β}
end
section
variable {α β:Type} {d:Kd α} {d':Kd β} {e e' g:Nat} {w w1 W:World} {base b:Nat} {ok ok' okv oku:Nat→Prop} {u v:Value} {xs:List α} {ys:List β}
end
section
variable {P:Program} {ops:Array Oper} {rest:List Oper} {o:Oper} {a:Act} {Q:Exit→Act→World→Prop} {Kc:Act→World→Prop} {α:Type}
end
section
variable {α β:Type} {d:Kd α} {e e' g n cap:Nat} {w w1 W:World} {base:Nat} {ok ok' oki okp:Nat→Prop} {u v:Value} {xs:List α} {i:Int} {c:List Value}
end
section
variable {P:Program} {ops:Array Oper} {rest:List Oper} {o:Oper} {a:Act} {Q:Exit→Act→World→Prop} {α:Type}
end
end Kd
section
variable {P:Program}
end
namespace Kd
section
variable {P:Program} {ops:Array Oper} {rest:List Oper} {o:Oper} {a:Act} {Q:Exit→Act→World→Prop} {Kc:Act→World→Prop} {α:Type}
end
section
variable {α:Type} {d:Kd α} {e:Nat} {w:World} {base:Nat} {ok:Nat→Prop} {v:Value} {xs:List α}
end
section
variable {P:Program} {ops:Array Oper} {rest:List Oper} {o:Oper} {a:Act} {Q:Exit→Act→World→Prop} {Kc:Act→World→Prop} {α:Type}
end
end Kd
namespace Kd
section
variable {α:Type} {d:Kd α} {e base g n c:Nat} {ok:Nat→Prop} {w w0 W:World} {A:Option Addr} {xs:List α}
end
end Kd
def Kept (w W:World) (S:Nat→Prop):Prop:=w.heap.size≤W.heap.size∧∀ i,i<w.heap.size→¬ S i→W.heap[i]?=w.heap[i]?
section
variable {w W W2:World} {S S2 S':Nat→Prop}
theorem Kept.refl (w:World) (S:Nat→Prop):Kept w w S:=⟨Nat.le_refl _,fun _ _ _=>rfl⟩
theorem Kept.of_below (h:Below w.heap.size w W) (S:Nat→Prop):Kept w W S:=⟨h.size,fun i hi _=>h.block i hi⟩
theorem Kept.then_ (h:Kept w W S) (k:Kept W W2 S2) (hs:∀ k,S2 k→S k∨w.heap.size≤k):Kept w W2 S:=
 ⟨Nat.le_trans h.1 k.1,fun i hi hn=>(k.2 i (Nat.lt_of_lt_of_le hi h.1) (fun h2=>(hs i h2).elim hn (fun h3=>Zo))).trans (h.2 i hi hn)⟩
theorem Kept.of_grown {row:Option Nat} (hg:W.grownBy W2 row) (h:Kept w W S) (hr:∀ k,row=some k→S k∨w.heap.size≤k):Kept w W2 S:=
 h.then_ (S2:=fun k=>row=some k) ⟨hg.size,fun i hi hn=>hg.block i hi (fun he=>hn he.symm)⟩ hr
theorem Kept.below (h:Kept w W S) (hb:Below W.heap.size W W2):Kept w W2 S:=h.then_ (Kept.of_below hb (fun _=>False)) (fun _ hk=>hk.elim)
theorem Kept.drew (h:Kept w W S):Kept w W.drew S:=h
theorem Kept.drewN (h:Kept w W S) (m:Nat):Kept w (W.drewN m) S:=h
theorem Kept.setCell (h:Kept w W S) {p:Addr} (hp:S p.block∨w.heap.size≤p.block) (u:Value):Kept w (W.setCell p u) S:=
 h.then_ (S2:=fun k=>k=p.block) ⟨by simp [World.setCell],fun i _ hn=>Below.heap_setCell W p u i hn⟩ (fun k hk=>by rw [hk];exact hp)
end
namespace Kd
section
variable {α:Type} {d:Kd α} {e base n c:Nat} {ok oki S S2:Nat→Prop} {w w0 W W1 W2:World} {v:Value} {A:Option Addr} {xs:List α} {i:Int} {cs:List Value}
end
end Kd
namespace Foot
variable {P Q:World→Prop} {W W1:World} {ok ok':Nat→Prop}
end Foot
namespace Kd
section
variable {α β:Type} {d:Kd α} {e base n n' cc g N:Nat} {ok ok' okp S:Nat→Prop} {w w0 w1 W W1:World} {A A':Option Addr} {u v v1:Value} {xs:List α} {xs':List β} {d':Kd β} {x:α} {c:List Value}
end
end Kd
namespace Kd
section
variable {α:Type} {d:Kd α} {e base n cc g:Nat} {ok ok' okp S:Nat→Prop} {w w1 W W1:World} {A:Option Addr} {u v v1:Value} {xs:List α} {x:α} {c:List Value}
end
end Kd
namespace Kd
section
variable {α:Type} {d:Kd α} {W:World} {g n:Nat} {S ok:Nat→Prop} {A:Option Addr} {ad:Addr} {xs:List α}
end
end Kd
section
variable {w w' u:World} {m B g:Nat} {o:Obj} {row:Option Nat} {S:Nat→Prop} {a:Addr} {v:Value}
end
namespace Kd
section
variable {α:Type} {d:Kd α} {e base n m:Nat} {ok:Nat→Prop} {w w':World} {v:Value} {A:Option Addr} {xs:List α}
end
end Kd
end Go.Proofs.YtlejhikddkdanaaGreatW.PrintWords
namespace Go.Proofs.YtlejhikddkdanaaGreatW.PrintWords
open Go.RowKit
theorem Kd.R_flat {α:Type} {d:Kd α} {e base:Nat} {ok ok':Nat→Prop} {w:World} {v:Value} {xs:List α} (hd:∀ {ok1 ok2:Nat→Prop} {x:α} {cs:List Value},d.M w base ok1 x cs→d.M w base ok2 x cs) (h:d.R e w base ok v xs) (hok:∀ k,v.ownBlock=some k→ok k→ok' k):d.R e w base ok' v xs:=by
 obtain ⟨h0,inner,hown,hr⟩:=h
 exact ⟨fun k hk=>hok k hk (h0 k hk),inner,hown,hr.imp_ (fun _ _ hm=>hd hm)⟩
end Go.Proofs.YtlejhikddkdanaaGreatW.PrintWords
namespace Go.Proofs.YtlejhikddkdanaaGreatW.PrintLast
section
variable {ops:Array Oper} {a:Act} {o og:Oper} {g:Nat} {t:Tmp} {u:Bool}
end
end Go.Proofs.YtlejhikddkdanaaGreatW.PrintLast
namespace Go.Proofs.YtlejhikddkdanaaGreatW.PrintWords
open Go.RowKit
namespace Kd
section
variable {α:Type} {d:Kd α} {e base n cap g:Nat} {ok ok' okp:Nat→Prop} {w w1 W:World} {v v1:Value} {xs ys:List α}
end
section
variable {P:Program} {ops:Array Oper} {rest:List Oper} {o:Oper} {a:Act} {Q:Exit→Act→World→Prop} {Kc:Act→World→Prop} {α:Type}
end
end Kd
end Go.Proofs.YtlejhikddkdanaaGreatW.PrintWords
namespace Go.Proofs.YtlejhikddkdanaaGreatW.PrintWords
theorem Reps.one {α:Type} {R:α→List Value→Prop} {ps:List α} {cs:List Value} {p:α} {v:Value} (hp:R p [v]) (h:Reps R 1 ps cs):Reps R 1 (p::ps) (v::cs):=by
 refine ⟨by simp [h.1],fun j q hq=>?_⟩
 cases j with
 |zero=>
  simp only [List.getElem?_cons_zero,Option.some.injEq] at hq
  subst hq
  simpa using hp
 |succ j=>
  simp only [List.getElem?_cons_succ] at hq
  have h1:=h.2 j q hq
  simpa [Nat.mul_one] using h1
theorem Reps.front {α:Type} {R:α→List Value→Prop} {size:Nat} {ps:List α} {cs c all:List Value} {p:α} (hp:R p c) (hc:c.length=size) (h:Reps R size ps cs) (ha:c++cs=all):Reps R size (p::ps) all:=by
 subst ha
 refine ⟨by rw [List.length_append,hc,h.1,List.length_cons,Nat.succ_mul,Nat.add_comm],fun j q hq=>?_⟩
 cases j with
 |zero=>
  simp only [List.getElem?_cons_zero,Option.some.injEq] at hq
  subst hq
  rw [Nat.zero_mul,List.drop_zero,List.take_append_of_le_length Zo,List.take_of_length_le Zo]
  exact hp
 |succ j=>
  simp only [List.getElem?_cons_succ] at hq
  have h1:=h.2 j q hq
  rw [Nat.succ_mul,List.drop_append,List.drop_of_length_le (by rw [hc];exact Nat.le_add_left _ _),List.nil_append,hc,Nat.add_sub_cancel]
  exact h1
theorem Reps.c2 {α:Type} {R:α→List Value→Prop} {ps:List α} {cs:List Value} {p:α} {va vb:Value} (hp:R p [va,vb]) (h:Reps R 2 ps cs):Reps R 2 (p::ps) (va::vb::cs):=Reps.front hp rfl h rfl
theorem Reps.c3 {α:Type} {R:α→List Value→Prop} {ps:List α} {cs:List Value} {p:α} {va vb vc:Value} (hp:R p [va,vb,vc]) (h:Reps R 3 ps cs):Reps R 3 (p::ps) (va::vb::vc::cs):=Reps.front hp rfl h rfl
end Go.Proofs.YtlejhikddkdanaaGreatW.PrintWords
namespace Go.Proofs.YtlejhikddkdanaaGreatW.PrintMore
open Go.RowKit Go.Proofs.YtlejhikddkdanaaGreatW.PrintWords
namespace Kd
open Go.Proofs.YtlejhikddkdanaaGreatW.PrintWords.Kd
end Kd
namespace Kd
open Go.Proofs.YtlejhikddkdanaaGreatW.PrintWords.Kd
section
variable {α:Type} {d:Kd α} {e base g N:Nat} {ok:Nat→Prop} {W w1:World} {u v:Value} {xs:List α}
end
end Kd
theorem Cs (k k':IntKind) (x y:Int):Builtin.max2 (.int k x) (.int k' y)=pure (.int k (if x<y then y else x)):=by simp only [Builtin.max2,gt_iff_lt]
theorem Cq (k k':IntKind) (x y:Int):Builtin.min2 (.int k x) (.int k' y)=pure (.int k (if y<x then y else x)):=by simp only [Builtin.min2]
theorem De (ats:Array TypeId) (ty:TypeId) (a b:Value):Builtin.max_ ats ty #[a,b]=(Builtin.max2 a b >>= fun s=>pure s):=by simp only [Builtin.max_,List.foldlM_cons,List.foldlM_nil]
theorem Dd (ats:Array TypeId) (ty:TypeId) (a b:Value):Builtin.min_ ats ty #[a,b]=(Builtin.min2 a b >>= fun s=>pure s):=by simp only [Builtin.min_,List.foldlM_cons,List.foldlM_nil]
theorem Cj (ats:Array TypeId) (ty:TypeId) (a b c:Value):Builtin.max_ ats ty #[a,b,c]=(Builtin.max2 a b >>= fun s=>Builtin.max2 s c >>= fun s=>pure s):=by simp only [Builtin.max_,List.foldlM_cons,List.foldlM_nil]
theorem Ci (ats:Array TypeId) (ty:TypeId) (a b c:Value):Builtin.min_ ats ty #[a,b,c]=(Builtin.min2 a b >>= fun s=>Builtin.min2 s c >>= fun s=>pure s):=by simp only [Builtin.min_,List.foldlM_cons,List.foldlM_nil]
theorem Cr (ats:Array TypeId) (ty:TypeId) (a b c d:Value):Builtin.max_ ats ty #[a,b,c,d]=(Builtin.max2 a b >>= fun s=>Builtin.max2 s c >>= fun s=>Builtin.max2 s d >>= fun s=>pure s):=by simp only [Builtin.max_,List.foldlM_cons,List.foldlM_nil]
theorem Cp (ats:Array TypeId) (ty:TypeId) (a b c d:Value):Builtin.min_ ats ty #[a,b,c,d]=(Builtin.min2 a b >>= fun s=>Builtin.min2 s c >>= fun s=>Builtin.min2 s d >>= fun s=>pure s):=by simp only [Builtin.min_,List.foldlM_cons,List.foldlM_nil]
end Go.Proofs.YtlejhikddkdanaaGreatW.PrintMore
namespace Go.Proofs.YtlejhikddkdanaaGreatW.PrintWords
open Go.RowKit
section
variable {P:Program} {ops:Array Oper} {rest:List Oper} {o:Oper} {a:Act} {Q:Exit→Act→World→Prop} {W:World}
theorem Ai {f:FuncId} {as9:Array Operand} {ts:Array TypeId} (_ho:o.op=.call {callee:=.value (.func f),args:=as9,argTypes:=ts}) (h:wpList P ops Q (o::rest) a W):wpList P ops Q (o::rest) a W:=h
theorem Gt {b:Builtin} {xs:Array Operand} {ts:Array TypeId} (_ho:o.op=.call {callee:=.builtin b,args:=xs,argTypes:=ts}) (h:wpList P ops Q (o::rest) a W):wpList P ops Q (o::rest) a W:=h
end
def mx (a b:Int):Int:=if a<b then b else a
def mn (a b:Int):Int:=if b<a then b else a
def shl (k:IntKind) (x y:Int):Int:=k.wrap (x*2 ^ min y.toNat k.bits)
def shr (k:IntKind) (x y:Int):Int:=x / 2 ^ min y.toNat k.bits
theorem gG {k:IntKind} {x y j:Int} (h:shl k x y=j) (hy:y≤k.bits):k.wrap (x*2 ^ y.toNat)=j:=by rw [← h];unfold shl;rw [Nat.min_eq_left Zo]
theorem gF {k:IntKind} {x y j:Int} (h:shr k x y=j) (hy:y≤k.bits):x / 2 ^ y.toNat=j:=by rw [← h];unfold shr;rw [Nat.min_eq_left Zo]
theorem rN (w:World) (n:Nat):w.drewN n=w.drewN n:=rfl
namespace Kd
section
variable {α:Type} {d:Kd α} {e base:Nat} {ok:Nat→Prop} {W w1:World} {v:Value} {xs:List α}
end
section
variable {α:Type} {d:Kd α} {e base g n cap:Nat} {ok oki okp:Nat→Prop} {W:World} {xs:List α} {i:Int} {c:List Value}
end
section
variable {α:Type} {d:Kd α} {e base b b' g N:Nat} {ok ok1:Nat→Prop} {W W2 w1:World} {u v:Value} {xs ys:List α} {S:Nat→Prop}
end
end Kd
end Go.Proofs.YtlejhikddkdanaaGreatW.PrintWords
namespace Go.Proofs.YtlejhikddkdanaaGreatW.PrintWords
open Go.RowKit
namespace Kd
section
variable {α β:Type} {d:Kd α} {e base base' n m c g N' lo hi:Nat} {ok ok' S:Nat→Prop} {w W w1:World} {A:Option Addr} {ad:Addr} {u v v1:Value} {xs:List α}
theorem R_newM {M:Nat→Prop} (h:d.R e w1 W.heap.size ok v xs) (hle:w.heap.size≤W.heap.size) (hM:∀ k,w.heap.size≤k→M k):d.R e w1 W.heap.size (fun k=>M k∧ok k) v xs:=R_mono (Me h) (fun k hk=>⟨hM k (Nat.le_trans hle hk.2.1),hk.1⟩)
end
end Kd
end Go.Proofs.YtlejhikddkdanaaGreatW.PrintWords
namespace Go.Proofs.YtlejhikddkdanaaGreat.PTopSame
open RowKit YtlejhikddkdanaaGreatW.PrintWords YtlejhikddkdanaaGreatW.PrintLast YtlejhikddkdanaaGreatW.PrintMore
section
attribute [local go_sem] Cs Cq De Dd Cj Ci Cr Cp
theorem info3:(Tryz.prog.info? 3).map (fun i=>(i.zero,i.size,i.bytes))=some (some (.int .i64 0),1,8):=by kernel_rfl
theorem info5:(Tryz.prog.info? 5).map (fun i=>(i.zero,i.size,i.bytes))=some (some (.int .u8 0),1,1):=by kernel_rfl
theorem Kt:(Tryz.prog.info? 66).map (fun i=>(i.zero,i.size,i.bytes))=some (some (.agg #[(.int .u32 0),(.int .u32 0)]),2,8):=by kernel_rfl
theorem info82:(Tryz.prog.info? 82).map (fun i=>(i.zero,i.size,i.bytes))=some (some (.int .u64 0),1,8):=by kernel_rfl
structure S145 where
 f0:Int
 f1:Int
 f2:Int
def sS:S145:=⟨(0:Int),(0:Int),(0:Int)⟩
def k145:Kd S145:=Kd.iso (Kd.pair (Kd.int .i64) (Kd.pair (Kd.int .i64) (Kd.int .i64))) (fun x:S145=>(x.f0,x.f1,x.f2))
theorem iI {w:World} {x:S145} {cs:List Value} (h:k145.K w x cs):cs=[.int .i64 x.f0,.int .i64 x.f1,.int .i64 x.f2]:=by
 obtain ⟨_,_,rfl,rfl,⟨_,_,rfl,rfl,rfl⟩⟩:=h
 exact rfl
theorem Xn (w:World) (x:S145) :k145.K w x [.int .i64 x.f0,.int .i64 x.f1,.int .i64 x.f2]:=⟨[.int .i64 x.f0],[.int .i64 x.f1,.int .i64 x.f2],rfl,rfl,⟨[.int .i64 x.f1],[.int .i64 x.f2],rfl,rfl,rfl⟩⟩
theorem Ff (w:World) (base:Nat) (ok:Nat→Prop) (x:S145) :k145.M w base ok x [.int .i64 x.f0,.int .i64 x.f1,.int .i64 x.f2]:=⟨[.int .i64 x.f0],[.int .i64 x.f1,.int .i64 x.f2],rfl,rfl,⟨[.int .i64 x.f1],[.int .i64 x.f2],rfl,rfl,rfl⟩⟩
def Dn (xs:List S145) (i:Int):S145:=xs.getD i.toNat sS
theorem Xx {w:World} {A:Option Addr} {n:Nat} {xs:List S145} (h:Kd.C k145 w A n xs) (i:Int) (h0:0≤i) (h1:i<n):∃ ad,A=some ad∧w.cell? (ad.add (i.toNat*3))=some (.int .i64 (Dn xs i).f0)∧w.cell? ⟨(ad.add (i.toNat*3)).block,(ad.add (i.toNat*3)).off+1,none⟩=some (.int .i64 (Dn xs i).f1)∧w.cell? ⟨(ad.add (i.toNat*3)).block,(ad.add (i.toNat*3)).off+2,none⟩=some (.int .i64 (Dn xs i).f2):=by
 obtain ⟨ad,c,e,_,hK,hc0⟩:=Kd.C_get h sS i h0 h1
 have hc:∀ j u,c[j]?=some u→w.cell? (ad.add (i.toNat*3+j))=some u:=hc0
 obtain rfl:=iI hK
 exact ⟨ad,e,hc 0 _ rfl,by rw [← Lj _ _ 1 Zo];exact hc 1 _ rfl,by rw [← Lj _ _ 2 Zo];exact hc 2 _ rfl⟩
structure S29 where
 f0:Int
 f1:Int
 f2:Int
def z29:S29:=⟨(0:Int),(0:Int),(0:Int)⟩
def k29:Kd S29:=Kd.iso (Kd.pair (Kd.int .i64) (Kd.pair (Kd.int .u32) (Kd.int .u32))) (fun x:S29=>(x.f0,x.f1,x.f2))
theorem lM {w:World} {x:S29} {cs:List Value} (h:k29.K w x cs):cs=[.int .i64 x.f0,.int .u32 x.f1,.int .u32 x.f2]:=by
 obtain ⟨_,_,rfl,rfl,⟨_,_,rfl,rfl,rfl⟩⟩:=h
 exact rfl
theorem rH (w:World) (x:S29) :k29.K w x [.int .i64 x.f0,.int .u32 x.f1,.int .u32 x.f2]:=⟨[.int .i64 x.f0],[.int .u32 x.f1,.int .u32 x.f2],rfl,rfl,⟨[.int .u32 x.f1],[.int .u32 x.f2],rfl,rfl,rfl⟩⟩
def Kp (xs:List S29) (i:Int):S29:=xs.getD i.toNat z29
theorem mG {w:World} {A:Option Addr} {n:Nat} {xs:List S29} (h:Kd.C k29 w A n xs) (i:Int) (h0:0≤i) (h1:i<n):∃ ad,A=some ad∧w.cell? (ad.add (i.toNat*3))=some (.int .i64 (Kp xs i).f0)∧w.cell? ⟨(ad.add (i.toNat*3)).block,(ad.add (i.toNat*3)).off+1,none⟩=some (.int .u32 (Kp xs i).f1)∧w.cell? ⟨(ad.add (i.toNat*3)).block,(ad.add (i.toNat*3)).off+2,none⟩=some (.int .u32 (Kp xs i).f2):=by
 obtain ⟨ad,c,e,_,hK,hc0⟩:=Kd.C_get h z29 i h0 h1
 have hc:∀ j u,c[j]?=some u→w.cell? (ad.add (i.toNat*3+j))=some u:=hc0
 obtain rfl:=lM hK
 exact ⟨ad,e,hc 0 _ rfl,by rw [← Lj _ _ 1 Zo];exact hc 1 _ rfl,by rw [← Lj _ _ 2 Zo];exact hc 2 _ rfl⟩
structure S66 where
 f0:Int
 f1:Int
def z66:S66:=⟨(0:Int),(0:Int)⟩
def k66:Kd S66:=Kd.iso (Kd.pair (Kd.int .u32) (Kd.int .u32)) (fun x:S66=>(x.f0,x.f1))
theorem lJ {w:World} {x:S66} {cs:List Value} (h:k66.K w x cs):cs=[.int .u32 x.f0,.int .u32 x.f1]:=by
 obtain ⟨_,_,rfl,rfl,rfl⟩:=h
 exact rfl
theorem iH {w:World} {base:Nat} {ok:Nat→Prop} {x:S66} {cs:List Value} (h:k66.M w base ok x cs):cs=[.int .u32 x.f0,.int .u32 x.f1]:=by
 obtain ⟨_,_,rfl,rfl,rfl⟩:=h
 exact rfl
theorem Je (w:World) (base:Nat) (ok:Nat→Prop) (x:S66) :k66.M w base ok x [.int .u32 x.f0,.int .u32 x.f1]:=⟨[.int .u32 x.f0],[.int .u32 x.f1],rfl,rfl,rfl⟩
def Ax (xs:List S66) (i:Int):S66:=xs.getD i.toNat z66
theorem Jy {w:World} {A:Option Addr} {n:Nat} {xs:List S66} (h:Kd.C k66 w A n xs) (i:Int) (h0:0≤i) (h1:i<n):∃ ad,A=some ad∧w.cell? (ad.add (i.toNat*2))=some (.int .u32 (Ax xs i).f0)∧w.cell? ⟨(ad.add (i.toNat*2)).block,(ad.add (i.toNat*2)).off+1,none⟩=some (.int .u32 (Ax xs i).f1):=by
 obtain ⟨ad,c,e,_,hK,hc0⟩:=Kd.C_get h z66 i h0 h1
 have hc:∀ j u,c[j]?=some u→w.cell? (ad.add (i.toNat*2+j))=some u:=hc0
 obtain rfl:=lJ hK
 exact ⟨ad,e,hc 0 _ rfl,by rw [← Lj _ _ 1 Zo];exact hc 1 _ rfl⟩
theorem uS (d:Nat) (w:World) (x0 y0 x1 y1 x2 y2 x3 y3 x4 y4 x5 y5 x6 y6:Int) :
  (Op.equalIn (d+2) 23 (.agg #[.int .i64 x0,.int .i64 x1,.int .i64 x2,.int .i64 x3,.int .i64 x4,.int .i64 x5,.int .i64 x6]) (.agg #[.int .i64 y0,.int .i64 y1,.int .i64 y2,.int .i64 y3,.int .i64 y4,.int .i64 y5,.int .i64 y6])).run Tryz.prog w=.ok (x0==y0 && (x1==y1 && (x2==y2 && (x3==y3 && (x4==y4 && (x5==y5 && (x6==y6))))))) w:=by
 refine Tm Tryz.underlying23 (by kernel_rfl) ?_
 refine Ec (by rfl) (by go_simp;rfl) (by go_simp;rfl) (by go_simp) ?_
 refine Ec (by rfl) (by go_simp;rfl) (by go_simp;rfl) (by go_simp) ?_
 refine Ec (by rfl) (by go_simp;rfl) (by go_simp;rfl) (by go_simp) ?_
 refine Ec (by rfl) (by go_simp;rfl) (by go_simp;rfl) (by go_simp) ?_
 refine Ec (by rfl) (by go_simp;rfl) (by go_simp;rfl) (by go_simp) ?_
 refine Ec (by rfl) (by go_simp;rfl) (by go_simp;rfl) (by go_simp) ?_
 exact Mt (by rfl) (by go_simp;rfl) (by go_simp;rfl) (by go_simp)
theorem uQ (d:Nat) (w:World) (x0 y0 x1 y1 x2 y2 x3 y3 x4 y4 x5 y5 x6 y6 x7 y7 x8 y8 x9 y9 x10 y10 x11 y11 x12 y12 x13 y13 x14 y14:Int) :
  (Op.equalIn (d+3) 85 (.agg #[.int .i64 x0,.int .i64 x1,.int .i64 x2,.int .i64 x3,.int .i64 x4,.int .i64 x5,.int .i64 x6,.int .i64 x7,.int .i64 x8,.int .i64 x9,.int .i64 x10,.int .i64 x11,.int .i64 x12,.int .i64 x13,.int .i64 x14]) (.agg #[.int .i64 y0,.int .i64 y1,.int .i64 y2,.int .i64 y3,.int .i64 y4,.int .i64 y5,.int .i64 y6,.int .i64 y7,.int .i64 y8,.int .i64 y9,.int .i64 y10,.int .i64 y11,.int .i64 y12,.int .i64 y13,.int .i64 y14])).run Tryz.prog w=.ok ((x0==y0 && (x1==y1 && (x2==y2 && (x3==y3 && (x4==y4 && (x5==y5 && (x6==y6))))))) && (x7==y7 && (x8==y8 && (x9==y9 && (x10==y10 && (x11==y11 && (x12==y12 && (x13==y13 && (x14==y14))))))))) w:=by
 refine Tm Tryz.underlying85 (by kernel_rfl) ?_
 refine Ec (by rfl) (by go_simp) (by go_simp) (uS (d+0) w _ _ _ _ _ _ _ _ _ _ _ _ _ _) ?_
 refine Ec (by rfl) (by go_simp;rfl) (by go_simp;rfl) (by go_simp) ?_
 refine Ec (by rfl) (by go_simp;rfl) (by go_simp;rfl) (by go_simp) ?_
 refine Ec (by rfl) (by go_simp;rfl) (by go_simp;rfl) (by go_simp) ?_
 refine Ec (by rfl) (by go_simp;rfl) (by go_simp;rfl) (by go_simp) ?_
 refine Ec (by rfl) (by go_simp;rfl) (by go_simp;rfl) (by go_simp) ?_
 refine Ec (by rfl) (by go_simp;rfl) (by go_simp;rfl) (by go_simp) ?_
 refine Ec (by rfl) (by go_simp;rfl) (by go_simp;rfl) (by go_simp) ?_
 exact Mt (by rfl) (by go_simp;rfl) (by go_simp;rfl) (by go_simp)
theorem uR (d:Nat) (w:World) (x0 y0 x1 y1:Int) :
  (Op.equalIn (d+2) 66 (.agg #[.int .u32 x0,.int .u32 x1]) (.agg #[.int .u32 y0,.int .u32 y1])).run Tryz.prog w=.ok (x0==y0 && (x1==y1)) w:=by
 refine Tm Tryz.underlying66 (by kernel_rfl) ?_
 refine Ec (by rfl) (by go_simp;rfl) (by go_simp;rfl) (by go_simp) ?_
 exact Mt (by rfl) (by go_simp;rfl) (by go_simp;rfl) (by go_simp)
end
end Go.Proofs.YtlejhikddkdanaaGreat.PTopSame
namespace Go.Proofs.YtlejhikddkdanaaGreat.Mdl
inductive Loc where
 |gl (i:Int)
 |haz (thread slot:Int)
 |link (nd:Int)
 |nd (nd field:Int)
 |tr (place:Int)
 deriving DecidableEq
structure Cf where
 algo:Int
 th:Int
 ns:Int
 lv:Int
 batch:Int
 probes:Int
 scan:Int
 bytes:List Int
def Cf.sl (c:Cf):Int:=if c.algo=0 then 2 else 2*c.lv+2
def Cf.wI (c:Cf):Int:=if c.algo=0 then 3 else 5+c.lv
def Cf.sE (c:Cf):Int:=if c.algo=0 then 0 else 2
def Cf.pl (c:Cf):Int:=if c.algo=0 then (2 ^ c.lv.toNat:Nat) else 0
def Cf.hZ (_:Cf):Int:=8
def Cf.lK (c:Cf):Int:=c.hZ+c.th*c.sl
def Cf.nA (c:Cf):Int:=c.lK+c.ns
def Cf.tA (c:Cf):Int:=c.nA+c.ns*c.wI
def Cf.size (c:Cf):Int:=c.tA+c.pl
def Cf.has (c:Cf):Loc→Bool
 |.gl i=>decide (0≤i∧i<8)
 |.haz t s=>decide (0≤t∧t<c.th∧0≤s∧s<c.sl)
 |.link n=>decide (1≤n∧n≤c.ns)
 |.nd n f=>decide (1≤n∧n≤c.ns∧0≤f∧f<c.wI)
 |.tr p=>decide (0≤p∧p<c.pl)
def Cf.addr (c:Cf):Loc→Int
 |.gl i=>i
 |.haz t s=>c.hZ+t*c.sl+s
 |.link n=>c.lK+n-1
 |.nd n f=>c.nA+(n-1)*c.wI+f
 |.tr p=>c.tA+p
def Cf.lO (c:Cf) (a:Int):Loc:=
 if a<c.hZ then .gl a
 else if a<c.lK then .haz ((a-c.hZ) / c.sl) ((a-c.hZ) % c.sl)
 else if a<c.nA then .link (a-c.lK+1)
 else if a<c.tA then .nd ((a-c.nA) / c.wI+1) ((a-c.nA) % c.wI)
 else .tr (a-c.tA)
structure Fr where
 fn:Nat
 pc:Nat
 r0:Int:=0
 r1:Int:=0
 r2:Int:=0
 r3:Int:=0
 r4:Int:=0
 r5:Int:=0
 r6:Int:=0
 r7:Int:=0
 r8:Int:=0
 r9:Int:=0
inductive Ev where
 |touch (nd:Int)
 |took (nd:Int)
 |gone (nd:Int)
 |freed (nd:Int)
structure St where
 mm:Loc→Int
 us:Nat
 ret0:Int
 ret1:Int
 ret2:Int
 pred:Int→Int
 succ:Int→Int
 wrd:Int→Int
 rt:List Int
 found:List Int
 moved:Bool
def upd {α:Type} [DecidableEq α] (m:α→Int) (a:α) (v:Int):α→Int:=fun x=>if x=a then v else m x
def ptr (w:Int):Int:=(w / 2) % 65536
def mark (w:Int):Bool:=w % 2==1
def ver (w:Int):Int:=w / 131072
def pack (p:Int) (m:Bool) (v:Int):Int:=v*131072+p*2+(if m then 1 else 0)
def next (w p:Int) (m:Bool):Int:=pack (p % 65536) m ((ver w+1) % 140737488355328)
structure Out where
 st:St
 frs:List Fr
 evs:List Ev
 aT:Bool
namespace St
def put (s:St) (l:Loc) (v:Int):St:={s with mm:=upd s.mm l v}
def told (s:St) (a b d:Int):St:={s with ret0:=a,ret1:=b,ret2:=d}
end St
def Cu:Loc→List Ev
 |.nd n _=>[.touch n]
 |_=>[]
def ok (s:St) (l:List Fr):Option Out:=some ⟨s,l,[],false⟩
def Ao (c:Cf) (x:Loc) (s:St) (l:List Fr):Option Out:=if c.has x then some ⟨s,l,Cu x,true⟩ else none
def Iw (c:Cf) (x:Loc) (s:St) (l:List Fr) (e:Ev):Option Out:=if c.has x then some ⟨s,l,Cu x++[e],true⟩ else none
def Mg (c:Cf) (x y:Loc) (s:St) (l:List Fr):Option Out:=if c.has x then (if c.has y then some ⟨s,l,Cu x++Cu y,true⟩ else none) else none
def alloc (c:Cf) (s:St) (f:Fr) (fs:List Fr):Option Out:=
 match f.pc with
 |0=>
  if ptr (s.mm (.gl 0))=0 then Ao c (.gl 0) (s.told 0 0 0) fs
  else Ao c (.gl 0) s ({f with r0:=s.mm (.gl 0),pc:=1}::fs)
 |1=>Ao c (.link (ptr f.r0)) s ({f with r1:=s.mm (.link (ptr f.r0)),pc:=2}::fs)
 |_=>
  if s.mm (.gl 0)=f.r0 then Iw c (.gl 0) ((s.put (.gl 0) (next f.r0 f.r1 false)).told (ptr f.r0) 0 0) fs (.took (ptr f.r0))
  else Ao c (.gl 0) s ({f with pc:=0}::fs)
def Rm (c:Cf) (s:St) (f:Fr) (fs:List Fr):Option Out:=
 match f.pc with
 |0=>Ao c (.gl 0) s ({f with r1:=s.mm (.gl 0),pc:=1}::fs)
 |1=>Ao c (.link f.r0) (s.put (.link f.r0) (ptr f.r1)) ({f with pc:=2}::fs)
 |_=>
  if 65536≤f.r0 then none
  else if s.mm (.gl 0)=f.r1 then Iw c (.gl 0) ((s.put (.gl 0) (next f.r1 f.r0 false)).told f.r0 0 0) fs (.freed f.r0)
  else Ao c (.gl 0) s ({f with pc:=0}::fs)
def Rw (c:Cf) (s:St) (f:Fr) (fs:List Fr):Option Out:=
 match f.fn with
 |1=>alloc c s f fs
 |2=>Rm c s f fs
 |_=>none
def Rn (c:Cf) (tid:Int) (s:St) (f:Fr) (fs:List Fr):Option Out:=
 let x:=c.lO f.r1
 match f.pc with
 |0=>if ptr (s.mm x)=0 then Ao c x (s.told (s.mm x) 0 0) fs else Ao c x s ({f with r2:=s.mm x,pc:=1}::fs)
 |1=>Ao c (.haz tid f.r0) (s.put (.haz tid f.r0) (ptr f.r2)) ({f with pc:=2}::fs)
 |_=>
  if s.mm x=f.r2∨ptr (s.mm x)=0 then Ao c x (s.told (s.mm x) 0 0) fs
  else Ao c x s ({f with r2:=s.mm x,pc:=1}::fs)
def mT (c:Cf) (tid:Int) (s:St) (f:Fr) (fs:List Fr):Option Out:=
 if (f.pc:Int)≥c.sl then ok (s.told 0 0 0) fs
 else Ao c (.haz tid f.pc) (s.put (.haz tid f.pc) 0) ({f with pc:=f.pc+1}::fs)
def We (c:Cf) (s:St) (f:Fr) (fs:List Fr):Option Out:=
 let s1:={s with rt:=s.rt++[f.r0]}.told 0 0 0
 if s.rt.length<1000∧f.r0<65536 then
  if ((s.rt.length:Int)+1)≥c.scan then some ⟨s1,{fn:=6,pc:=0}::fs,[.gone f.r0],false⟩
  else some ⟨s1,fs,[.gone f.r0],false⟩
 else none
def i64 (x:Int):Int:=if x<9223372036854775808 then x else x-18446744073709551616
def El (s:St) (f:Fr) (fs:List Fr):Option Out:=
 match s.found with
 |[]=>ok (s.told 0 0 0) fs
 |n::r=>if 0≤n∧n<65536 then ok {s with found:=r,moved:=true} ({fn:=2,pc:=0,r0:=n}::f::fs) else none
def scan (c:Cf) (s:St) (f:Fr) (fs:List Fr):Option Out:=
 let all:=c.sl*c.th
 let fnd:=if f.pc=0 then [] else s.found
 if (f.pc:Int)<all then
  let x:=Loc.haz ((f.pc:Int) / c.sl) ((f.pc:Int) % c.sl)
  if f.pc=0∨(s.moved=false∧s.found.length<1000) then Ao c x {s with found:=fnd++[i64 (s.mm x)],moved:=false} ({f with pc:=f.pc+1}::fs) else none
 else if (f.pc:Int)=all then
  if s.rt.length<1000∧s.found.length<1000 then
   El {s with found:=s.rt.filter (fun n=>!fnd.contains n),rt:=s.rt.filter (fun n=>fnd.contains n),moved:=false} {f with pc:=f.pc+1} fs
  else none
 else El s f fs
def Ew (c:Cf) (tid:Int) (s:St) (f:Fr) (fs:List Fr):Option Out:=
 match f.fn with
 |3=>Rn c tid s f fs
 |4=>mT c tid s f fs
 |5=>We c s f fs
 |6=>scan c s f fs
 |_=>Rw c s f fs
def take (c:Cf) (s:St):Int:=c.bytes.getD s.us 0
def Dz (most:Nat) (b:Int):Nat→Int
 |0=>most
 |k+1=>if (b / (2 ^ (most-(k+1)):Nat)) % 2=0 then (most-(k+1):Nat)+1 else Dz most b k
def Cd (d:Int):Int:=if d<1∨d>20 then 0 else (2 ^ (d-1).toNat:Nat)
def lev (n:Int):Nat:=n.toNat.log2
def up (n l:Int):Int:=if l<0∨(lev n:Int)<l then 0 else n / (2 ^ ((lev n:Int)-l).toNat:Nat)
def lV:Int:=1099511627776
def call (s:St) (f:Fr) (fs:List Fr) (pc:Nat) (g:Fr):Option Out:=ok s (g::{f with pc:=pc}::fs)
def fin (_:St) (f:Fr) (fs:List Fr) (kind key val:Int):List Fr:={fn:=4,pc:=0}::{f with r7:=kind,r8:=key,r9:=val,pc:=90}::fs
def aI (c:Cf) (s:St) (f:Fr) (fs:List Fr):Option Out:=
 match f.pc with
 |0=>if c.has (.tr f.r0) then call s f fs 1 {fn:=3,pc:=0,r0:=1,r1:=c.addr (.tr f.r0)} else none
 |_=>
  if ptr s.ret0=0 then ok (s.told s.ret0 lV 0) fs
  else Ao c (.nd (ptr s.ret0) 0) (s.told s.ret0 (s.mm (.nd (ptr s.ret0) 0)) 0) fs
def Hg (x:Int):Int:=x / 256
def Oa (x:Int):Int:=x % 256
def Hc (c:Cf) (s:St) (f:Fr) (fs:List Fr):Option Out:=
 let lo:=Hg f.r6
 let hi:=Oa f.r6
 let place:=up f.r5 lo
 let anew:List Fr:={f with r3:=0,pc:=4}::fs
 let inside:Bool:=decide (1≤f.r5∧f.r5≤1048576∧f.r6<65536)
 match f.pc with
 |0=>call s f fs 1 {fn:=1,pc:=0}
 |1=>
  if s.ret0≠0 then ok s ({f with r2:=s.ret0,pc:=2}::fs)
  else if f.r3=0∧s.rt.length>0 then call s {f with r2:=s.ret0,r3:=1} fs 0 {fn:=6,pc:=0}
  else ok s (fin s {f with r2:=s.ret0} fs 1 0 0)
 |2=>Ao c (.nd f.r2 0) (s.put (.nd f.r2 0) f.r0) ({f with pc:=3}::fs)
 |3=>Ao c (.nd f.r2 1) (s.put (.nd f.r2 1) f.r1) ({f with r3:=0,pc:=4}::fs)
 |4=>
  let d:=s.mm (.gl 2)
  if d<1∨d>20∨s.us≥1000000 then none else
  Ao c (.gl 2) {s with us:=s.us+1} ({f with r4:=d,r5:=Cd d+take c s % Cd d,pc:=5}::fs)
 |5=>call s f fs 6 {fn:=10,pc:=0,r0:=f.r5}
 |6=>
  if f.r4<1∨f.r4>20∨f.r3≥1000000 then none
  else if s.ret1≥f.r0 then ok s ({f with r6:=f.r4-1,pc:=8}::fs)
  else ok s ({f with r3:=f.r3+1,pc:=if f.r3+1≥c.probes then 7 else 4}::fs)
 |7=>
  if f.r4≥1000000 then none
  else if f.r4≥c.lv then ok s ({fn:=5,pc:=0,r0:=f.r2}::fin s f fs 1 0 0)
  else if s.mm (.gl 2)=f.r4 then Ao c (.gl 2) (s.put (.gl 2) (f.r4+1)) anew
  else Ao c (.gl 2) s anew
 |8=>if inside=false then none else if lo≥hi then ok s ({f with pc:=10}::fs) else call s f fs 9 {fn:=10,pc:=0,r0:=up f.r5 ((lo+hi) / 2)}
 |9=>if inside=false then none else ok s ({f with r6:=if lo≥hi then lo*256+hi else if s.ret1≥f.r0 then lo*256+(lo+hi) / 2 else ((lo+hi) / 2+1)*256+hi,pc:=8}::fs)
 |10=>if inside=false then none else call s f fs 11 {fn:=10,pc:=0,r0:=place}
 |11=>
  if inside=false then none
  else if s.ret1<f.r0 then ok s anew
  else Ao c (.nd f.r2 2) (s.put (.nd f.r2 2) (ptr s.ret0)) ({f with r3:=s.ret0,pc:=if place=1 then 12 else 13}::fs)
 |12=>
  if inside=false then none
  else if s.mm (.tr 1)=f.r3 then Ao c (.tr 1) (s.put (.tr 1) (next f.r3 f.r2 (mark f.r3))) (fin s f fs 0 0 0)
  else Ao c (.tr 1) s anew
 |13=>if inside=false then none else call s f fs 14 {fn:=10,pc:=0,r0:=place / 2}
 |14=>
  if inside=false then none
  else if s.ret1>f.r0 then ok s anew
  else if s.mm (.tr place)=f.r3∧s.mm (.tr (place / 2))=s.ret0 then
   Mg c (.tr place) (.tr (place / 2)) (s.put (.tr place) (next f.r3 f.r2 (mark f.r3))) (fin s f fs 0 0 0)
  else Mg c (.tr place) (.tr (place / 2)) s anew
 |_=>none
def Hx (c:Cf) (s:St) (f:Fr) (fs:List Fr):Option Out:=
 let n:=ptr f.r0
 match f.pc with
 |0=>if c.has (.tr 1) then call s f fs 1 {fn:=3,pc:=0,r0:=0,r1:=c.addr (.tr 1)} else none
 |1=>
  if mark s.ret0 then call s {f with r0:=s.ret0} fs 0 {fn:=14,pc:=0,r0:=1}
  else if ptr s.ret0=0 then ok s (fin s {f with r0:=s.ret0} fs 3 0 0)
  else ok s ({f with r0:=s.ret0,pc:=2}::fs)
 |2=>Ao c (.nd n 0) s ({f with r1:=s.mm (.nd n 0),pc:=3}::fs)
 |3=>
  let v:=s.mm (.nd n 1)
  if f.fn=13 then Ao c (.nd n 1) s (fin s {f with r2:=v} fs 2 f.r1 v) else Ao c (.nd n 1) s ({f with r2:=v,pc:=4}::fs)
 |4=>Ao c (.nd n 2) s ({f with r3:=s.mm (.nd n 2),pc:=5}::fs)
 |5=>
  if s.mm (.tr 1)=f.r0 then Ao c (.tr 1) (s.put (.tr 1) (next f.r0 f.r3 true)) ({fn:=14,pc:=0,r0:=1}::{f with pc:=6}::fs)
  else Ao c (.tr 1) s ({f with pc:=0}::fs)
 |6=>call s f fs 7 {fn:=5,pc:=0,r0:=n}
 |7=>ok s (fin s f fs 2 f.r1 f.r2)
 |_=>none
def Nv (c:Cf) (s:St) (f:Fr) (fs:List Fr):Option Out:=
 if s.mm (.tr f.r0)=f.r1 then Ao c (.tr f.r0) ((s.put (.tr f.r0) (next f.r1 (ptr f.r1) false)).told 0 0 0) fs
 else Ao c (.tr f.r0) s ({f with pc:=0}::fs)
def Kg (c:Cf) (s:St) (f:Fr) (fs:List Fr) (low place:Int):Option Out:=
 if s.mm (.tr f.r0)=f.r1∧s.mm (.tr place)=low then
  Mg c (.tr f.r0) (.tr place) ((s.put (.tr f.r0) (next f.r1 (ptr low) false)).put (.tr place) (next low (ptr f.r1) true)) ({f with r0:=place,pc:=0}::fs)
 else Mg c (.tr f.r0) (.tr place) s ({f with pc:=0}::fs)
def Hl (c:Cf) (s:St) (f:Fr) (fs:List Fr):Option Out:=
 let left:=2*f.r0
 match f.pc with
 |0=>call s f fs 1 {fn:=10,pc:=0,r0:=f.r0}
 |1=>if mark s.ret0 then ok s ({f with r1:=s.ret0,r2:=s.ret1,pc:=2}::fs) else ok (s.told 0 0 0) fs
 |2=>Ao c (.gl 2) s ({f with pc:=if f.r0≥1∧f.r0≤1048576∧f.r0<Cd (s.mm (.gl 2)) then 4 else 3}::fs)
 |3=>Nv c s f fs
 |4=>if f.r0≥65536 then none else call s f fs 5 {fn:=10,pc:=0,r0:=left}
 |5=>
  if f.r0≥65536 then none else
  let g:={f with r3:=s.ret0,r4:=s.ret1}
  if mark s.ret0 then call s g fs 0 {fn:=14,pc:=0,r0:=left} else call s g fs 6 {fn:=10,pc:=0,r0:=left+1}
 |6=>
  if f.r0≥65536 then none else
  let g:={f with r5:=s.ret0,r6:=s.ret1}
  if mark s.ret0 then call s g fs 0 {fn:=14,pc:=0,r0:=left+1} else ok s ({g with pc:=7}::fs)
 |7=>
  if f.r0<1∨f.r0≥65536 then none
  else if f.r4≤f.r6∧f.r4<f.r2 then Kg c s f fs f.r3 left
  else if f.r6<f.r4∧f.r6<f.r2 then Kg c s f fs f.r5 (left+1)
  else Nv c s f fs
 |_=>none
def Gd (c:Cf) (tid:Int) (s:St) (f:Fr) (fs:List Fr):Option Out:=
 if f.pc=90∧11≤f.fn∧f.fn≤13 then ok (s.told f.r7 f.r8 f.r9) fs else
 match f.fn with
 |10=>aI c s f fs
 |11=>Hc c s f fs
 |12=>Hx c s f fs
 |13=>Hx c s f fs
 |14=>Hl c s f fs
 |_=>Ew c tid s f fs
def Jh (s:St) (f:Fr):St:=
 let s1:={s with pred:=upd s.pred f.r1 f.r2,wrd:=upd s.wrd f.r1 f.r3,succ:=upd s.succ f.r1 (ptr f.r3)}
 if f.r1=0 then s1.told 0 0 0 else s1
def Ie (f:Fr) (fs:List Fr):List Fr:=if f.r1=0 then fs else {f with r1:=f.r1-1,pc:=1}::fs
def Cf.row (c:Cf) (i:Int):Bool:=decide (0≤i∧i<c.lv)
def Ki (c:Cf) (x:Loc) (s:St) (f:Fr) (fs:List Fr) (w:Int):Option Out:=
 if mark w then Ao c x s ({f with r3:=w,pc:=8}::fs)
 else if ptr w=2 then (if c.row f.r1 then Ao c x (Jh s {f with r3:=w}) (Ie {f with r3:=w} fs) else none)
 else Ao c x s ({f with r3:=w,pc:=3}::fs)
def Jg (c:Cf) (tid:Int) (s:St) (f:Fr) (fs:List Fr):Option Out:=
 let lk:=Loc.nd f.r2 (5+f.r1)
 let curr:=ptr f.r3
 match f.pc with
 |0=>ok s ({f with r2:=1,r1:=c.lv-1,pc:=1}::fs)
 |1=>Ao c (.haz tid (2*f.r1)) (s.put (.haz tid (2*f.r1)) f.r2) ({f with pc:=2}::fs)
 |2=>Ki c lk s f fs (s.mm lk)
 |3=>Ao c (.haz tid (2*f.r1+1)) (s.put (.haz tid (2*f.r1+1)) curr) ({f with pc:=4}::fs)
 |4=>if s.mm lk≠f.r3 then Ki c lk s f fs (s.mm lk) else Ao c lk s ({f with pc:=5}::fs)
 |5=>
  let x:=Loc.nd curr (5+f.r1)
  Ao c x s ({f with r4:=s.mm x,pc:=if mark (s.mm x) then 6 else 7}::fs)
 |6=>
  let w:=next f.r3 (ptr f.r4) false
  if s.mm lk=f.r3 then Ki c lk (s.put lk w) f fs w else Ao c lk s ({f with pc:=2}::fs)
 |7=>
  let x:=Loc.nd curr 0
  if s.mm x≥f.r0 then (if c.row f.r1 then Ao c x (Jh s f) (Ie f fs) else none)
  else Ao c x s ({f with r2:=curr,pc:=1}::fs)
 |8=>Ao c (.nd f.r2 4) s ({f with pc:=0}::fs)
 |_=>none
def Qf (c:Cf) (tid:Int) (s:St) (f:Fr) (fs:List Fr):Option Out:=
 match f.fn with
 |20=>Jg c tid s f fs
 |_=>Ew c tid s f fs
def u32 (x:Int):Int:=x % 4294967296
def u64 (x:Int):Int:=x % 18446744073709551616
def order (key ticket:Int):Int:=u32 key*4294967296+u32 ticket
def Ml (c:Cf) (s:St) (f:Fr) (fs:List Fr) (nd:Int) (more last:Nat) (o:Int):Option Out:=
 let x:=Loc.nd nd 2
 let s1:=s.put x (u64 (s.mm x-1))
 if s.mm x=1 then Ao c x s1 ({fn:=20,pc:=0,r0:=o}::{f with pc:=more}::fs)
 else Ao c x s1 ({f with pc:=last}::fs)
def drawn (c:Cf) (s:St):Int:=Dz c.lv.toNat (take c s) c.lv.toNat
def Kx (c:Cf) (s:St) (f:Fr) (fs:List Fr):Option Out:=
 match f.pc with
 |0=>call s f fs 1 {fn:=1,pc:=0}
 |1=>
  if s.ret0≠0 then ok s ({f with r2:=s.ret0,pc:=2}::fs)
  else if f.r5=0∧s.rt.length>0 then call s {f with r2:=s.ret0,r5:=1} fs 0 {fn:=6,pc:=0}
  else ok s (fin s {f with r2:=s.ret0} fs 1 0 0)
 |_=>
  let t:=s.mm (.gl 3)
  if s.us≥1000000 then none else
  Ao c (.gl 3) {s.put (.gl 3) (u64 (t+1)) with us:=s.us+1} ({f with r4:=order f.r0 t,r3:=drawn c s,pc:=3}::fs)
def Lu (c:Cf) (s:St) (f:Fr) (fs:List Fr) (k v:Int):Option Out:=
 Ao c (.nd f.r2 k) (s.put (.nd f.r2 k) v) ({f with pc:=f.pc+1}::fs)
def Fs (c:Cf) (s:St) (f:Fr) (fs:List Fr):Option Out:=
 let n:=f.r2
 let own:=Loc.nd n (5+f.r5)
 let there:=Loc.nd (s.pred f.r5) (5+f.r5)
 match f.pc with
 |0=>Kx c s f fs
 |1=>Kx c s f fs
 |2=>Kx c s f fs
 |3=>Lu c s f fs 0 f.r4
 |4=>Lu c s f fs 1 (u32 f.r1*2)
 |5=>Lu c s f fs 2 2
 |6=>Lu c s f fs 3 f.r3
 |7=>Lu c s f fs 4 0
 |8=>call s {f with r5:=0} fs 9 {fn:=20,pc:=0,r0:=f.r4}
 |9=>Ao c own s ({f with r6:=s.mm own,pc:=10}::fs)
 |10=>
  if c.row f.r5 then Ao c own (s.put own (next f.r6 (s.succ f.r5) false)) ({f with r5:=f.r5+1,pc:=if f.r5+1≥f.r3 then 11 else 9}::fs)
  else none
 |11=>
  let x:=Loc.nd (s.pred 0) 5
  if s.mm x=s.wrd 0 then Ao c x (s.put x (next (s.wrd 0) n false)) ({f with r5:=1,pc:=12}::fs)
  else Ao c x s ({f with r5:=1,pc:=8}::fs)
 |12=>
  if f.r5≥f.r3 then ok s ({f with pc:=15}::fs)
  else if c.row f.r5 then Ao c own s ({f with r6:=s.mm own,pc:=if mark (s.mm own) then 15 else if ptr (s.mm own)≠s.succ f.r5 then 13 else 14}::fs)
  else none
 |13=>
  if c.row f.r5 then
   (if s.mm own=f.r6 then Ao c own (s.put own (next f.r6 (s.succ f.r5) false)) ({f with pc:=12}::fs) else Ao c own s ({f with pc:=12}::fs))
  else none
 |14=>
  if c.row f.r5 then
   if s.mm there=s.wrd f.r5 then Ao c there (s.put there (next (s.wrd f.r5) n false)) ({f with r5:=f.r5+1,pc:=12}::fs)
   else Ao c there s ({fn:=20,pc:=0,r0:=f.r4}::{f with pc:=12}::fs)
  else none
 |15=>Ml c s f fs n 17 16 f.r4
 |17=>call s f fs 16 {fn:=5,pc:=0,r0:=n}
 |_=>ok s (fin s f fs 0 0 0)
def Ux (s:St) (f:Fr) (fs:List Fr):List Fr:=fin s f fs 2 (f.r2 / 4294967296 % 4294967296) (f.r3 / 2 % 4294967296)
def Ey (c:Cf) (s:St) (f:Fr) (fs:List Fr):Option Out:=
 let n:=f.r1
 let x:=Loc.nd n (4+f.r4)
 match f.pc with
 |0=>if c.has (.nd 1 5) then call s {f with r6:=0} fs 1 {fn:=3,pc:=0,r0:=c.sl-2,r1:=c.addr (.nd 1 5)} else none
 |1=>
  let g:={f with r0:=s.ret0,r1:=ptr s.ret0}
  if ptr s.ret0=2 then ok s (fin s g fs 3 0 0) else ok s ({g with pc:=2}::fs)
 |2=>Ao c (.nd n 1) s ({f with r3:=s.mm (.nd n 1),pc:=if mark (s.mm (.nd n 1)) then 6 else 3}::fs)
 |3=>
  let g:={f with r2:=s.mm (.nd n 0)}
  if f.fn=23 then Ao c (.nd n 0) s (Ux s g fs) else Ao c (.nd n 0) s ({g with pc:=4}::fs)
 |4=>
  if s.mm (.nd n 1)=f.r3 then Ao c (.nd n 1) (s.put (.nd n 1) (f.r3+1-f.r3 % 2)) ({f with r6:=1,pc:=5}::fs)
  else Ao c (.nd n 1) s ({f with pc:=0}::fs)
 |5=>Ao c (.nd n 4) (s.put (.nd n 4) 1) ({f with pc:=6}::fs)
 |6=>Ao c (.nd n 3) s ({f with r4:=s.mm (.nd n 3),pc:=7}::fs)
 |7=>
  if f.r4=0 then ok s ({f with pc:=if f.r6=1 then 11 else 9}::fs)
  else if mark (s.mm x) then Ao c x s ({f with r5:=s.mm x,r4:=f.r4-1,pc:=7}::fs)
  else Ao c x s ({f with r5:=s.mm x,pc:=8}::fs)
 |8=>
  if f.r4<1 then none
  else if s.mm x=f.r5 then Ao c x (s.put x (next f.r5 (ptr f.r5) true)) ({f with r4:=f.r4-1,pc:=7}::fs)
  else Ao c x s ({f with pc:=7}::fs)
 |9=>Ao c (.nd n 5) s ({f with r5:=s.mm (.nd n 5),pc:=10}::fs)
 |10=>
  if s.mm (.nd 1 5)=f.r0 then Ao c (.nd 1 5) (s.put (.nd 1 5) (next f.r0 (ptr f.r5) false)) ({f with pc:=0}::fs)
  else Ao c (.nd 1 5) s ({f with pc:=0}::fs)
 |11=>Ml c s f fs n 12 13 f.r2
 |12=>call s f fs 13 {fn:=5,pc:=0,r0:=n}
 |_=>ok s (Ux s f fs)
def Er (c:Cf) (tid:Int) (s:St) (f:Fr) (fs:List Fr):Option Out:=
 if f.fn<21∨23<f.fn then Qf c tid s f fs
 else if f.pc=90 then ok (s.told f.r7 f.r8 f.r9) fs
 else if f.fn=21 then Fs c s f fs
 else Ey c s f fs
def Nk (s:St) (f:Fr):St:=
 let s1:={s with pred:=upd s.pred f.r2 f.r3,wrd:=upd s.wrd f.r2 f.r4,succ:=upd s.succ f.r2 (ptr f.r4)}
 if f.r2=0 then s1.told f.r5 0 0 else s1
def Le (f:Fr) (fs:List Fr):List Fr:=if f.r2=0 then fs else {f with r2:=f.r2-1,pc:=1}::fs
def aY (f:Fr) (fs:List Fr):List Fr:={f with r3:=ptr f.r4,pc:=1}::fs
def Gp (c:Cf) (tid:Int) (s:St) (f:Fr) (fs:List Fr):Option Out:=
 let nx:=ptr f.r4
 match f.pc with
 |0=>Ao c (.gl 1) s ({f with r1:=s.mm (.gl 1),r3:=1,r5:=0,r2:=c.lv-1,pc:=1}::fs)
 |1=>Ao c (.haz tid (2*f.r2)) (s.put (.haz tid (2*f.r2)) f.r3) ({f with pc:=2}::fs)
 |2=>
  let x:=Loc.nd f.r3 (5+f.r2)
  let g:={f with r4:=s.mm x,pc:=3}
  if ptr (s.mm x)=2 then (if c.row f.r2 then Ao c x (Nk s g) (Le g fs) else none) else Ao c x s (g::fs)
 |3=>Ao c (.haz tid (2*f.r2+1)) (s.put (.haz tid (2*f.r2+1)) nx) ({f with pc:=4}::fs)
 |4=>
  if c.row f.r2=false then none
  else if s.mm (.gl 1)≠f.r1 then Ao c (.gl 1) s ({f with pc:=0}::fs)
  else if f.r2=0∧mark f.r4=true then Ao c (.gl 1) s (aY {f with r5:=nx} fs)
  else Ao c (.gl 1) s ({f with pc:=if f.r2>0 then 5 else 6}::fs)
 |5=>
  let x:=Loc.nd nx 5
  if mark (s.mm x) then Ao c x s (aY f fs) else Ao c x s ({f with pc:=6}::fs)
 |_=>
  let x:=Loc.nd nx 0
  if s.mm x<f.r0 then Ao c x s (aY f fs)
  else if c.row f.r2 then Ao c x (Nk s f) (Le f fs)
  else none
def Ld (c:Cf) (tid:Int) (s:St) (f:Fr) (fs:List Fr):Option Out:=
 match f.fn with
 |30=>Gp c tid s f fs
 |_=>Ew c tid s f fs
def Gl (c:Cf) (k:Int):Int:=c.sl-1-k % 2
def lF (c:Cf) (s:St) (f:Fr) (fs:List Fr):Option Out:=
 match f.pc with
 |0=>Ao c (.gl 1) (s.put (.gl 1) (u64 (s.mm (.gl 1)+1))) ({f with pc:=1}::fs)
 |1=>
  if f.r0=f.r1 then ok (s.told 0 0 0) fs
  else Ao c (.nd f.r0 5) s ({f with r2:=ptr (s.mm (.nd f.r0 5)),pc:=2}::fs)
 |_=>call s {f with r0:=f.r2} fs 1 {fn:=5,pc:=0,r0:=f.r0}
def aZ (f:Fr) (fs:List Fr):List Fr:={f with r2:=f.r2-1,pc:=1}::fs
def Oq (c:Cf) (tid:Int) (s:St) (f:Fr) (fs:List Fr):Option Out:=
 let hd:=Loc.nd 1 (5+f.r2)
 match f.pc with
 |0=>Ao c (.gl 1) s ({f with r1:=s.mm (.gl 1),r2:=c.lv-1,pc:=1}::fs)
 |1=>
  let g:={f with r3:=s.mm hd,r4:=ptr (s.mm hd),pc:=2}
  if f.r2=0 then ok (s.told 0 0 0) fs
  else if ptr (s.mm hd)=2 then Ao c hd s (aZ g fs)
  else Ao c hd s (g::fs)
 |2=>if f.r5≥1000000 then none else Ao c (.haz tid (Gl c f.r5)) (s.put (.haz tid (Gl c f.r5)) f.r4) ({f with r5:=f.r5+1,pc:=3}::fs)
 |3=>Ao c (.gl 1) s ({f with pc:=if s.mm (.gl 1)≠f.r1 then 0 else 4}::fs)
 |4=>
  let x:=Loc.nd f.r4 5
  if f.r2<1∨f.r2≥65536 then none
  else if f.r4=f.r0 then ok s ({f with pc:=5}::fs)
  else if mark (s.mm x) then Ao c x s ({f with pc:=5}::fs)
  else if f.r4=ptr f.r3 then Ao c x s (aZ f fs)
  else Ao c x s ({f with pc:=6}::fs)
 |5=>
  let x:=Loc.nd f.r4 (5+f.r2)
  Ao c x s ({f with r4:=ptr (s.mm x),pc:=if ptr (s.mm x)=2 then 6 else 2}::fs)
 |_=>
  if f.r2<1∨f.r2≥65536 then none
  else if s.mm hd=f.r3 then Ao c hd (s.put hd (next f.r3 f.r4 false)) (aZ f fs) else Ao c hd s ({f with pc:=1}::fs)
def Ge (c:Cf) (s:St) (f:Fr) (fs:List Fr):Option Out:=
 let n:=f.r2
 let own:=Loc.nd n (5+f.r5)
 let there:=Loc.nd (s.pred f.r5) (5+f.r5)
 match f.pc with
 |0=>Kx c s f fs
 |1=>Kx c s f fs
 |2=>Kx c s f fs
 |3=>Lu c s f fs 0 f.r4
 |4=>Lu c s f fs 1 f.r1
 |5=>Lu c s f fs 2 1
 |6=>Lu c s f fs 3 f.r3
 |7=>call s f fs 8 {fn:=30,pc:=0,r0:=f.r4}
 |8=>Ao c (.nd n 5) s ({f with r7:=s.ret0,r6:=s.mm (.nd n 5),pc:=9}::fs)
 |9=>Ao c (.nd n 5) (s.put (.nd n 5) (next f.r6 (s.succ 0) false)) ({f with pc:=10}::fs)
 |10=>
  let x:=Loc.nd (s.pred 0) 5
  if s.mm x=s.wrd 0 then Ao c x (s.put x (next (s.wrd 0) n false)) ({f with r5:=1,pc:=11}::fs)
  else Ao c x s ({f with r5:=1,pc:=7}::fs)
 |11=>
  if f.r5≥f.r3 then ok s ({f with pc:=17}::fs)
  else Ao c (.nd n 5) s ({f with pc:=if mark (s.mm (.nd n 5)) then 17 else 12}::fs)
 |12=>
  let x:=Loc.nd (s.succ f.r5) 5
  if c.row f.r5 then
   if s.succ f.r5=2 then ok s ({f with pc:=13}::fs)
   else if s.succ f.r5=f.r7 then ok s ({f with pc:=17}::fs)
   else Ao c x s ({f with pc:=if mark (s.mm x) then 17 else 13}::fs)
  else none
 |13=>Ao c own s ({f with r6:=s.mm own,pc:=14}::fs)
 |14=>if c.row f.r5 then Ao c own (s.put own (next f.r6 (s.succ f.r5) false)) ({f with pc:=15}::fs) else none
 |15=>
  if c.row f.r5 then
   if s.mm there=s.wrd f.r5 then Ao c there (s.put there (next (s.wrd f.r5) n false)) ({f with r5:=f.r5+1,pc:=11}::fs)
   else Ao c there s ({fn:=30,pc:=0,r0:=f.r4}::{f with pc:=16}::fs)
  else none
 |16=>ok s ({f with r7:=s.ret0,pc:=if s.succ 0≠n then 17 else 11}::fs)
 |17=>Ao c (.nd n 2) (s.put (.nd n 2) 0) ({f with pc:=18}::fs)
 |_=>ok s (fin s f fs 0 0 0)
def Gq (c:Cf) (tid:Int) (s:St) (f:Fr) (fs:List Fr):Option Out:=
 let nx:=ptr f.r5
 match f.pc with
 |0=>Ao c (.gl 1) s ({f with r0:=s.mm (.gl 1),r2:=1,r3:=0,r4:=0,pc:=1}::fs)
 |1=>Ao c (.nd 1 5) s ({f with r1:=s.mm (.nd 1 5),r5:=s.mm (.nd 1 5),pc:=2}::fs)
 |2=>if nx=2 then ok s (fin s f fs 3 0 0) else ok s ({f with pc:=3}::fs)
 |3=>if f.r3≥1000000 then none else Ao c (.haz tid (Gl c f.r3)) (s.put (.haz tid (Gl c f.r3)) nx) ({f with r3:=f.r3+1,pc:=4}::fs)
 |4=>Ao c (.gl 1) s ({f with pc:=if s.mm (.gl 1)≠f.r0 then 0 else 5}::fs)
 |5=>
  if f.r2≠1∧f.r4=0 then Ao c (.nd f.r2 2) s ({f with r4:=if s.mm (.nd f.r2 2)=1 then f.r2 else f.r4,pc:=6}::fs)
  else ok s ({f with pc:=6}::fs)
 |6=>if mark f.r5 then ok s ({f with r2:=nx,pc:=7}::fs) else ok s ({f with pc:=if f.fn=33 then 9 else 8}::fs)
 |7=>Ao c (.nd f.r2 5) s ({f with r5:=s.mm (.nd f.r2 5),pc:=2}::fs)
 |8=>
  let x:=Loc.nd f.r2 5
  if f.r3<1 then none
  else if s.mm x=f.r5 then Ao c x (s.put x (next f.r5 nx true)) ({f with pc:=9}::fs)
  else Ao c x s ({f with r3:=f.r3-1,pc:=7}::fs)
 |9=>Ao c (.nd nx 1) s ({f with r6:=s.mm (.nd nx 1),pc:=10}::fs)
 |10=>
  Ao c (.nd nx 0) s ({f with r8:=s.mm (.nd nx 0) / 4294967296 % 4294967296,r4:=if f.r4=0 then nx else f.r4,pc:=if f.fn=33∨f.r3<c.batch then 14 else 11}::fs)
 |11=>
  if s.mm (.nd 1 5)=f.r1 then Ao c (.nd 1 5) (s.put (.nd 1 5) (next f.r1 f.r4 true)) ({f with pc:=12}::fs)
  else Ao c (.nd 1 5) s ({f with pc:=14}::fs)
 |12=>call s f fs 13 {fn:=36,pc:=0}
 |13=>call s f fs 14 {fn:=35,pc:=0,r0:=ptr f.r1,r1:=f.r4}
 |_=>ok s (fin s f fs 2 f.r8 f.r6)
def Ef (c:Cf) (tid:Int) (s:St) (f:Fr) (fs:List Fr):Option Out:=
 if f.fn<31∨36<f.fn then Ld c tid s f fs
 else if f.pc=90 then ok (s.told f.r7 f.r8 f.r9) fs
 else match f.fn with
 |31=>Ge c s f fs
 |34=>none
 |35=>lF c s f fs
 |36=>Oq c tid s f fs
 |_=>Gq c tid s f fs
def bit (c:Cf) (tid:Int) (s:St) (l:List Fr):Option Out:=
 match l with
 |[]=>none
 |f::fs=>if c.algo=0 then Gd c tid s f fs else if c.algo=1 then Er c tid s f fs else Ef c tid s f fs
def first (c:Cf) (op key val:Int):Fr:={fn:=(if c.algo=0 then 11 else if c.algo=1 then 21 else 31)+op.toNat,pc:=0,r0:=key,r1:=val}
end Go.Proofs.YtlejhikddkdanaaGreat.Mdl
