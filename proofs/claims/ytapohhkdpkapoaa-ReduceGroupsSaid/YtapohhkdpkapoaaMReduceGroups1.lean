/- ReduceGroups: walks, tables, laws. -/
import Derived.WalkKit
import Derived.Maps.AppendAt
import Derived.Deep.AppendLies
import Derived.KernelRfl
import Derived.Laws.OwnMore
import Derived.Great.BuildSlice
import Derived.Orders
import Derived.Laws.StructEq
import Derived.ChangeKeysEq
import Derived.Defers
import Derived.Laws.BytesString
import Derived.RangeFuncNested
import Derived.RangeFuncBound
import Derived.RangeFuncCalls
import Derived.RangeFuncLeaves
import Derived.OrdersIn
import Derived.LoopNIn
import Derived.ArgAppend
import Derived.Lib.AppendZeros
import Derived.Maps.OwnOps
import Derived.Maps.Views
import Derived.WideMake
import Derived.Test.YtapohhkdpkapoaaProg
import Derived.ProofKit
import Derived.OpenShut
import Derived.ChangeOld
import Derived.Deep.Slices
import Derived.Lib.SmallJoins
import Derived.JoinedOf
import Derived.JoinedAt
import Derived.Below
import Derived.Test.YtapohhkdpkapoaaRows
set_option linter.unusedVariables false
set_option linter.unusedSimpArgs false
set_option maxHeartbeats 4000000
set_option maxRecDepth 100000
namespace Go.Proofs.Ytapohhkdpkapoaa
open Go.RowKit
structure Chg (K:List Nat) (w w':World):Prop where
 os:w'.os=w.os
 tape:w'.tape=w.tape
 output:w'.output=w.output
 size:w.heap.size ≤ w'.heap.size
 block:∀ k,k < w.heap.size→k ∉ K→w'.heap[k]?=w.heap[k]?
theorem Chg.refl (K:List Nat) (w:World):Chg K w w:=⟨rfl,rfl,rfl,Nat.le_refl _,fun _ _ _=>rfl⟩
theorem Chg.alloc (K:List Nat) (w:World) (o:Obj):Chg K w (w.alloc o):=⟨rfl,rfl,rfl,by simp,fun i h _=>heap_alloc_old w o h⟩
theorem Chg.drew {K:List Nat} {w w':World} (h:Chg K w w'):Chg K w w'.drew:=⟨h.os,h.tape,h.output,h.size,h.block⟩
theorem Chg.grown {w w':World} {row:Option Nat} {K:List Nat} (h:w.grownBy w' row) (hr:∀ k,row=some k→k ∈ K):Chg K w w':=
 ⟨h.os,h.tape,h.output,h.size,fun k hk hn=>h.block k hk (fun e=>hn (hr k e.symm))⟩
theorem Chg.mono {K K':List Nat} {w w':World} (h:Chg K w w') (hs:∀ k,k ∈ K→k ∈ K'):Chg K' w w':=⟨h.os,h.tape,h.output,h.size,fun k hk hn=>h.block k hk (fun e=>hn (hs k e))⟩
theorem Chg.trans {K K':List Nat} {a b c:World} (h:Chg K a b) (k:Chg K' b c) (hs:∀ j,j ∈ K'→j ∈ K ∨ a.heap.size ≤ j):Chg K a c:=
 ⟨k.os.trans h.os,k.tape.trans h.tape,k.output.trans h.output,Nat.le_trans h.size k.size,fun i hi hn=>(k.block i (Nat.lt_of_lt_of_le hi h.size) (fun e=>by
  rcases hs i e with h1 | h1
  ·exact hn h1
  ·omega)).trans (h.block i hi hn)⟩
structure Ext (E E':Nat→Prop) (w w':World):Prop where
 size:w.heap.size ≤ w'.heap.size
 same:∀ b,b < w.heap.size→¬ E b→(∃ o u,w.cell? ⟨b,o,none⟩=some u)→w'.heap[b]?=w.heap[b]?
 excl:∀ b,b < w.heap.size→E' b→E b
structure R (α:Type) where
 sz:Nat
 rep:(Nat→Prop)→World→Value→α→Prop
 pos:0 < sz
 size:∀ {E w v x},rep E w v x→v.cells.size=sz
 one:∀ {E w v x},rep E w v x→∀ u,u ∈ v.cells.toList→u.oneCell'=true
 mono:∀ {E E' w w' v x},Ext E E' w w'→rep E w v x→rep E' w' v x
def rI (k:IntKind):R Int where
 sz:=1
 rep:=fun _ _ v x=>v=.int k x
 pos:=by decide
 size:=by rintro _ _ _ _ rfl; rfl
 one:=by rintro _ _ _ _ rfl u hu; simp [Value.cells] at hu; subst hu; rfl
 mono:=fun _ h=>h
def rB:R Bool where
 sz:=1
 rep:=fun _ _ v x=>v=.bool x
 pos:=by decide
 size:=by rintro _ _ _ _ rfl; rfl
 one:=by rintro _ _ _ _ rfl u hu; simp [Value.cells] at hu; subst hu; rfl
 mono:=fun _ h=>h
def flat (vs:List Value):List Value:=(vs.map fun v=>v.cells.toList).flatten
def All {α:Type} (r:R α) (E:Nat→Prop) (w:World) (vs:List Value) (xs:List α):Prop:=vs.length=xs.length∧∀ (k:Nat) (v:Value) (x:α),vs[k]?=some v→xs[k]?=some x→r.rep E w v x
theorem All.mono {α:Type} {r:R α} {E E':Nat→Prop} {w w':World} {vs:List Value} {xs:List α} (h:Ext E E' w w') (a:All r E w vs xs):All r E' w' vs xs:=
 ⟨a.1,fun k v x hv hx=>r.mono h (a.2 k v x hv hx)⟩
theorem All.nil {α:Type} (r:R α) (E:Nat→Prop) (w:World):All r E w [] []:=⟨rfl,fun k v x hv _=>by simp at hv⟩
theorem All.append {α:Type} {r:R α} {E:Nat→Prop} {w:World} {vs us:List Value} {xs ys:List α} (a:All r E w vs xs) (b:All r E w us ys):All r E w (vs ++ us) (xs ++ ys):=by
 refine ⟨by simp [a.1,b.1],fun k v x hv hx=>?_⟩
 by_cases hk:k < vs.length
 ·rw [List.getElem?_append_left hk] at hv
  rw [List.getElem?_append_left (by rw [← a.1]; exact hk)] at hx
  exact a.2 k v x hv hx
 ·rw [List.getElem?_append_right (by omega)] at hv
  rw [List.getElem?_append_right (by rw [← a.1]; omega)] at hx
  rw [← a.1] at hx
  exact b.2 _ v x hv hx
theorem All.one {α:Type} {r:R α} {E:Nat→Prop} {w:World} {v:Value} {x:α} (h:r.rep E w v x):All r E w [v] [x]:=by
 refine ⟨rfl,fun k v' x' hv hx=>?_⟩
 match k,hv,hx with
 | 0,hv,hx=>simp at hv hx; subst hv hx; exact h
 | k + 1,hv,_=>simp at hv
theorem All.cells {α:Type} {r:R α} {E:Nat→Prop} {w:World} {vs:List Value} {xs:List α} (a:All r E w vs xs):∀ v,v ∈ vs→v.cells.size=r.sz∧∀ u,u ∈ v.cells.toList→u.oneCell'=true:=by
 intro v hv
 obtain ⟨k,hk,rfl⟩:=List.getElem_of_mem hv
 have h1:vs[k]?=some vs[k]:=List.getElem?_eq_getElem hk
 have h2:xs[k]?=some (xs[k]'(by rw [← a.1]; exact hk)):=List.getElem?_eq_getElem _
 exact ⟨r.size (a.2 k _ _ h1 h2),r.one (a.2 k _ _ h1 h2)⟩
theorem flat_append (vs us:List Value):flat (vs ++ us)=flat vs ++ flat us:=by simp [flat]
theorem flat_length {sz:Nat} {vs:List Value} (h:∀ v,v ∈ vs→v.cells.size=sz):(flat vs).length=vs.length * sz:=by
 induction vs with
 | nil=>simp [flat]
 | cons v vs ih=>
  have h1:=h v (by simp)
  have h2:=ih (fun u hu=>h u (by simp [hu]))
  simp only [flat,List.map_cons,List.flatten_cons,List.length_append,Array.length_toList] at h2 ⊢
  rw [h1,h2,List.length_cons,Nat.add_mul,Nat.one_mul,Nat.add_comm]
theorem flat_get {sz:Nat} {vs:List Value} (h:∀ v,v ∈ vs→v.cells.size=sz) {k j:Nat} {v:Value} (hv:vs[k]?=some v) (hj:j < sz):(flat vs)[k * sz + j]?=v.cells.toList[j]?:=by
 induction vs generalizing k with
 | nil=>simp at hv
 | cons u vs ih=>
  have h1:=h u (by simp)
  have h2:=fun v hv=>h v (List.mem_cons_of_mem u hv)
  cases k with
  | zero=>
   simp at hv; subst hv
   simp only [flat,List.map_cons,List.flatten_cons,Nat.zero_mul,Nat.zero_add]
   rw [List.getElem?_append_left (by simpa [h1] using hj)]
  | succ k=>
   simp at hv
   have:=ih h2 hv
   simp only [flat,List.map_cons,List.flatten_cons] at this ⊢
   rw [List.getElem?_append_right (by simp [h1,Nat.add_mul]; omega),← this]
   congr 1
   simp [h1,Nat.add_mul]
   omega
theorem flat_one {vs:List Value} (h:∀ v,v ∈ vs→∀ u,u ∈ v.cells.toList→u.oneCell'=true):∀ u,u ∈ flat vs→u.oneCell'=true:=by
 intro u hu
 simp only [flat,List.mem_flatten,List.mem_map] at hu
 obtain ⟨l,⟨v,hv,rfl⟩,hl⟩:=hu
 exact h v hv u hl
def rL {α:Type} (r:R α):R (List α) where
 sz:=1
 rep:=fun E w v xs=>∃ a c vs,v=.slice a xs.length c∧xs.length ≤ c∧xs.length ≤ 9223372036854775807∧All r E w vs xs ∧
  ∀ k u,(flat vs)[k]?=some u→∃ b off,a=some ⟨b,off,none⟩∧¬ E b∧b < w.heap.size∧w.cell? ⟨b,off + k,none⟩=some u
 pos:=by decide
 size:=by rintro _ _ _ _ ⟨a,c,vs,rfl,_⟩; rfl
 one:=by rintro _ _ _ _ ⟨a,c,vs,rfl,_⟩ u hu; simp [Value.cells] at hu; subst hu; rfl
 mono:=by
  rintro E E' w w' v xs h ⟨a,c,vs,hv,hc,hm,ha,hcells⟩
  refine ⟨a,c,vs,hv,hc,hm,ha.mono h,fun k u hu=>?_⟩
  obtain ⟨b,off,h1,h2,h3,h4⟩:=hcells k u hu
  refine ⟨b,off,h1,fun e=>h2 (h.excl b h3 e),Nat.lt_of_lt_of_le h3 h.size,?_⟩
  rw [World.cell?_of_block (w:=w) (h.same b h3 h2 ⟨_,_,h4⟩)]
  exact h4
structure Fact where
 p:(Nat→Prop)→World→Prop
 mono:∀ {E E' w w'},Ext E E' w w'→p E w→p E' w'
def fRep {α:Type} (r:R α) (v:Value) (x:α):Fact:=⟨fun E w=>r.rep E w v x,fun h k=>r.mono h k⟩
structure Ent where
 keys:List Nat
 p:(Nat→Prop)→World→Prop
 mono:∀ {E E' w w'},Ext E E' w w'→(∀ b,b ∈ keys→w'.heap[b]?=w.heap[b]?)→p E w→p E' w'
 lt:∀ {E w},p E w→∀ b,b ∈ keys→b < w.heap.size
def eBox (b:Nat) (T:TypeId) (vs:List Value):Ent where
 keys:=[b]
 p:=fun _ w=>w.heap[b]?=some (.cells vs.toArray T (0,0))
 mono:=fun _ hs h=>by rw [hs b (by simp)]; exact h
 lt:=fun h k hk=>by
  simp at hk; subst hk
  exact (Array.getElem?_eq_some_iff.1 h).1
def vkeys:Value→List Nat
 | .slice (some a) _ _=>[a.block]
 | _=>[]
def eRow {α:Type} (r:R α) (T:TypeId) (v:Value) (xs:List α):Ent where
 keys:=vkeys v
 p:=fun E w=>∃ vs,All r E w vs xs∧xs.length ≤ 68719476736∧w.ownsRow 0 T r.sz v xs.length (flat vs)
 mono:=by
  rintro E E' w w' h hs ⟨vs,ha,hm,hl,ho⟩
  refine ⟨vs,ha.mono h,hm,hl,?_⟩
  rcases ho with ho | ⟨g,cap,cur,hv,hg,hh,hr⟩
  ·exact .inl ho
  ·subst hv
   exact .inr ⟨g,cap,cur,rfl,hg,by rw [hs g (by simp [vkeys])]; exact hh,hr⟩
 lt:=by
  rintro E w ⟨vs,ha,_,hl,ho⟩ b hb
  rcases ho with ⟨ho,_⟩ | ⟨g,cap,cur,hv,hg,hh,hr⟩
  ·subst ho; simp [vkeys] at hb
  ·subst hv
   simp [vkeys] at hb; subst hb
   exact (Array.getElem?_eq_some_iff.1 hh).1
def keysL (L:List Ent):List Nat:=(L.map (·.keys)).flatten
theorem keysL_append (A B:List Ent):keysL (A ++ B)=keysL A ++ keysL B:=by simp [keysL]
theorem keysL_mem {L:List Ent} {b:Nat}:b ∈ keysL L ↔ ∃ e,e ∈ L∧b ∈ e.keys:=by
 simp only [keysL,List.mem_flatten,List.mem_map]
 exact ⟨fun ⟨l,⟨e,h1,h2⟩,h3⟩=>⟨e,h1,h2 ▸ h3⟩,fun ⟨e,h1,h2⟩=>⟨_,⟨e,h1,rfl⟩,h2⟩⟩
def tot (E:Nat→Prop) (L:List Ent) (b:Nat):Prop:=E b ∨ b ∈ keysL L
structure St0 (E:Nat→Prop) (M:List Nat) (w0 w:World) (L:List Ent) (D:List Fact):Prop where
 chg:Chg M w0 w
 ent:∀ e,e ∈ L→e.p (tot E L) w
 fact:∀ d,d ∈ D→d.p (tot E L) w
 nodup:(keysL L).Nodup
 key:∀ b,b ∈ keysL L→(w0.heap.size ≤ b ∨ b ∈ M)∧¬ E b
 bnd:∀ b,E b→b < w0.heap.size
theorem St0.lt {E:Nat→Prop} {M:List Nat} {w0 w:World} {L:List Ent} {D:List Fact} (S:St0 E M w0 w L D):∀ b,b ∈ keysL L→b < w.heap.size:=by
 intro b hb
 obtain ⟨e,he,hk⟩:=keysL_mem.1 hb
 exact e.lt (S.ent e he) b hk
theorem St0.upd {E:Nat→Prop} {M:List Nat} {w0 w w':World} {B Rs:List Ent} {D:List Fact} (S:St0 E M w0 w (B ++ Rs) D) (hk:Chg (keysL B) w w') (B':List Ent) (D':List Fact)
 (h:St0 (tot E Rs) (keysL B) w w' B' D'):St0 E M w0 w' (B' ++ Rs) (D' ++ D):=by
 have hlt:=S.lt
 have hnd:=S.nodup
 rw [keysL_append,List.nodup_append] at hnd
 obtain ⟨_,n2,n3⟩:=hnd
 have hE:∀ b,tot (tot E Rs) B' b ↔ tot E (B' ++ Rs) b:=by
  intro b
  simp only [tot,keysL_append,List.mem_append]
  constructor
  ·rintro ((h | h) | h)
   ·exact .inl h
   ·exact .inr (.inr h)
   ·exact .inr (.inl h)
  ·rintro (h | h | h)
   ·exact .inl (.inl h)
   ·exact .inr h
   ·exact .inl (.inr h)
 have hEq:tot (tot E Rs) B'=tot E (B' ++ Rs):=funext fun b=>propext (hE b)
 have hext:Ext (tot E (B ++ Rs)) (tot E (B' ++ Rs)) w w':=by
  refine ⟨hk.size,fun b hb hn _=>hk.block b hb (fun e=>hn (.inr (by rw [keysL_append]; exact List.mem_append_left _ e))),fun b hb he=>?_⟩
  rcases he with he | he
  ·exact .inl he
  ·rw [keysL_append,List.mem_append] at he
   rcases he with he | he
   ·rcases (h.key b he).1 with h1 | h1
    ·omega
    ·exact .inr (by rw [keysL_append]; exact List.mem_append_left _ h1)
   ·exact .inr (by rw [keysL_append]; exact List.mem_append_right _ he)
 refine ⟨?_,?_,?_,?_,?_,S.bnd⟩
 ·refine S.chg.trans hk (fun j hj=>?_)
  rcases (S.key j (by rw [keysL_append]; exact List.mem_append_left _ hj)).1 with h1 | h1
  ·exact .inr h1
  ·exact .inl h1
 ·intro e he
  rcases List.mem_append.1 he with he | he
  ·rw [← hEq]; exact h.ent e he
  ·refine e.mono hext (fun b hb=>?_) (S.ent e (List.mem_append_right _ he))
   have hb2:b ∈ keysL Rs:=keysL_mem.2 ⟨e,he,hb⟩
   exact hk.block b (hlt b (by rw [keysL_append]; exact List.mem_append_right _ hb2)) (fun h1=>n3 b h1 b hb2 rfl)
 ·intro d hd
  rcases List.mem_append.1 hd with hd | hd
  ·rw [← hEq]; exact h.fact d hd
  ·exact d.mono hext (S.fact d hd)
 ·rw [keysL_append,List.nodup_append]
  refine ⟨h.nodup,n2,fun b hb c hc e=>?_⟩
  subst e
  exact (h.key b hb).2 (.inr hc)
 ·intro b hb
  rw [keysL_append,List.mem_append] at hb
  rcases hb with hb | hb
  ·refine ⟨?_,fun e=>(h.key b hb).2 (.inl e)⟩
   rcases (h.key b hb).1 with h1 | h1
   ·exact .inl (Nat.le_trans S.chg.size h1)
   ·exact (S.key b (by rw [keysL_append]; exact List.mem_append_left _ h1)).1
  ·exact S.key b (by rw [keysL_append]; exact List.mem_append_right _ hb)
theorem St0.sub {E:Nat→Prop} {M:List Nat} {w0 w:World} {L L':List Ent} {D D':List Fact} (S:St0 E M w0 w L D) (hL:∀ e,e ∈ L'→e ∈ L) (hn:(keysL L').Nodup) (hD:∀ d,d ∈ D'→d ∈ D):St0 E M w0 w L' D':=by
 have hk:∀ b,b ∈ keysL L'→b ∈ keysL L:=fun b hb=>by
  obtain ⟨e,he,h⟩:=keysL_mem.1 hb
  exact keysL_mem.2 ⟨e,hL e he,h⟩
 have hext:Ext (tot E L) (tot E L') w w:=⟨Nat.le_refl _,fun _ _ _ _=>rfl,fun b _ h=>h.imp id (hk b)⟩
 exact ⟨S.chg,fun e he=>e.mono hext (fun _ _=>rfl) (S.ent e (hL e he)),fun d hd=>d.mono hext (S.fact d (hD d hd)),hn,fun b hb=>S.key b (hk b hb),S.bnd⟩
theorem nodup_sub {L L':List Ent} (h:L'.Sublist L) (hn:(keysL L).Nodup):(keysL L').Nodup:=by
 have hs:(keysL L').Sublist (keysL L):=by
  clear hn
  induction h with
  | slnil=>exact List.Sublist.refl _
  | cons e _ ih=>exact ih.trans (by simp [keysL])
  | cons_cons e _ ih=>simpa [keysL] using ih
 exact hn.sublist hs
theorem keysL_perm {L L':List Ent} (h:L'.Perm L) (hn:(keysL L).Nodup):(keysL L').Nodup:=by
 unfold keysL at *
 exact (List.Perm.flatten (h.map _)).nodup_iff.2 hn
theorem St0.perm {E:Nat→Prop} {M:List Nat} {w0 w:World} {L L':List Ent} {D:List Fact} (S:St0 E M w0 w L D) (h:L'.Perm L):St0 E M w0 w L' D:=
 S.sub (fun _ he=>h.mem_iff.1 he) (keysL_perm h S.nodup) (fun _ h=>h)
theorem St0.drew {E:Nat→Prop} {M:List Nat} {w0 w:World} {L:List Ent} {D:List Fact} (S:St0 E M w0 w L D):St0 E M w0 w.drew L D:=by
 have hext:Ext (tot E L) (tot E L) w w.drew:=⟨Nat.le_refl _,fun _ _ _ _=>rfl,fun b _ h=>h⟩
 exact ⟨S.chg.drew,fun e he=>e.mono hext (fun _ _=>rfl) (S.ent e he),fun d hd=>d.mono hext (S.fact d hd),S.nodup,S.key,S.bnd⟩
theorem St0.enter {E:Nat→Prop} {w:World} {B:List Ent} {D:List Fact} {M:List Nat} {w0:World} {Rs:List Ent} {D0:List Fact} (S:St0 E M w0 w (B ++ Rs) D0) (hD:∀ d,d ∈ D→d ∈ D0):St0 (tot E Rs) (keysL B) w w B D:=by
 have hnd:=S.nodup
 rw [keysL_append,List.nodup_append] at hnd
 obtain ⟨n1,n2,n3⟩:=hnd
 have hEq:tot (tot E Rs) B=tot E (B ++ Rs):=by
  funext b
  simp only [tot,keysL_append,List.mem_append]
  exact propext ⟨fun h=>by rcases h with (h | h) | h; exact .inl h; exact .inr (.inr h); exact .inr (.inl h),fun h=>by rcases h with h | h | h; exact .inl (.inl h); exact .inr h; exact .inl (.inr h)⟩
 refine ⟨Chg.refl _ _,fun e he=>by rw [hEq]; exact S.ent e (List.mem_append_left _ he),fun d hd=>by rw [hEq]; exact S.fact d (hD d hd),n1,fun b hb=>⟨.inr hb,fun h=>?_⟩,fun b hb=>?_⟩
 ·rcases h with h | h
  ·exact (S.key b (by rw [keysL_append]; exact List.mem_append_left _ hb)).2 h
  ·exact n3 b hb b h rfl
 ·rcases hb with hb | hb
  ·exact Nat.lt_of_lt_of_le (S.bnd b hb) S.chg.size
  ·exact S.lt b (by rw [keysL_append]; exact List.mem_append_right _ hb)
def look:List (Nat × Value)→Nat→Option Value
 | [],_=>none
 | (d,v) :: F,t=>if d=t then some v else look F t
structure Frm (dq:List Deferred) (n:Nat) (a:Act) (F:List (Nat × Value)):Prop where
 defers:a.defers=dq
 size:a.tmps.size=n
 get:∀ t v,look F t=some v→a.tmps[t]?=some v
theorem Frm.put {dq:List Deferred} {n:Nat} {a:Act} {F:List (Nat × Value)} (h:Frm dq n a F) {d:Nat} (hd:d < n) (v:Value):Frm dq n (a.put (some d) v) ((d,v) :: F):=by
 refine ⟨h.defers,by simp [Act.put,h.size],fun t u ht=>?_⟩
 simp only [look] at ht
 show (a.tmps.setIfInBounds d v)[t]?=some u
 rw [Array.getElem?_setIfInBounds]
 split at ht
 ·rename_i e
  subst e
  rw [if_pos rfl,if_pos (by rw [h.size]; exact hd)]
  exact ht
 ·rename_i e
  rw [if_neg e]
  exact h.get t u ht
def lookO (F:List (Nat × Value)):Operand→Option Value
 | .tmp t=>look F t
 | .const v=>some v
 | .global g=>some (.pointer (some ⟨g,0,none⟩))
 | .func f=>some (.func (.func f) #[] #[])
theorem Frm.eval {dq:List Deferred} {n:Nat} {a:Act} {F:List (Nat × Value)} (h:Frm dq n a F) {x:Operand} {v:Value} (hx:lookO F x=some v):a.eval x=v:=by
 cases x with
 | tmp t=>simp only [lookO] at hx; simp [Act.eval,Array.getD_eq_getD_getElem?,h.get t v hx]
 | const u=>simpa [lookO,Act.eval] using hx
 | global g=>simpa [lookO,Act.eval] using hx
 | func f=>simpa [lookO,Act.eval] using hx
theorem Frm.sub {dq:List Deferred} {n:Nat} {a:Act} {F F':List (Nat × Value)} (h:Frm dq n a F) (hs:F'.map (fun q=>look F q.1)=F'.map (fun q=>some q.2)):Frm dq n a F':=by
 refine ⟨h.defers,h.size,fun t v ht=>h.get t v ?_⟩
 induction F' with
 | nil=>simp [look] at ht
 | cons q F' ih=>
  simp only [List.map_cons,List.cons.injEq] at hs
  simp only [look] at ht
  split at ht
  ·rename_i e
   rw [← e,hs.1]
   exact ht
  ·exact ih hs.2 ht
structure St (dq:List Deferred) (E:Nat→Prop) (M:List Nat) (w0:World) (n:Nat) (a:Act) (w:World) (F:List (Nat × Value)) (L:List Ent) (D:List Fact):Prop where
 frm:Frm dq n a F
 mem:St0 E M w0 w L D
theorem getList_mem {α:Type} {l l':List α} {is:List Nat} (h:is.map (fun i=>l[i]?)=l'.map some):∀ x,x ∈ l'→x ∈ l:=by
 induction l' generalizing is with
 | nil=>intro x hx; simp at hx
 | cons y l' ih=>
  cases is with
  | nil=>simp at h
  | cons i is=>
   simp only [List.map_cons,List.cons.injEq] at h
   intro x hx
   rcases List.mem_cons.1 hx with rfl | hx
   ·exact List.mem_of_getElem? h.1
   ·exact ih h.2 x hx
theorem getList_perm {l:List Ent} {is:List Nat} {l':List Ent} (hn:is.Nodup) (h:is.map (fun i=>l[i]?)=l'.map some) (hk:(keysL l).Nodup):(keysL l').Nodup:=by
 have hkey:∀ (i j:Nat) (e f:Ent) (b:Nat),l[i]?=some e→l[j]?=some f→b ∈ e.keys→b ∈ f.keys→i=j:=by
  clear h hn
  induction l with
  | nil=>intro i j e f b hi; simp at hi
  | cons x l ih=>
   unfold keysL at hk ih
   simp only [List.map_cons,List.flatten_cons,List.nodup_append] at hk
   intro i j e f b hi hj h1 h2
   cases i with
   | zero=>
    simp at hi; subst hi
    cases j with
    | zero=>rfl
    | succ j=>
     simp at hj
     exact absurd rfl (hk.2.2 b h1 b (by simp only [List.mem_flatten,List.mem_map]; exact ⟨_,⟨f,List.mem_of_getElem? hj,rfl⟩,h2⟩))
   | succ i=>
    simp at hi
    cases j with
    | zero=>
     simp at hj; subst hj
     exact absurd rfl (hk.2.2 b h2 b (by simp only [List.mem_flatten,List.mem_map]; exact ⟨_,⟨e,List.mem_of_getElem? hi,rfl⟩,h1⟩))
    | succ j=>
     simp at hj
     rw [ih hk.2.1 i j e f b hi hj h1 h2]
 have hself:∀ (i:Nat) (e:Ent),l[i]?=some e→e.keys.Nodup:=by
  intro i e hi
  exact hk.sublist (by
   unfold keysL
   have hm:=List.mem_of_getElem? hi
   clear hi hk h hkey hn
   induction l with
   | nil=>simp at hm
   | cons x l ih=>
    rcases List.mem_cons.1 hm with rfl | hm
    ·simp
    ·exact (ih hm).trans (by simp))
 clear hk
 induction l' generalizing is with
 | nil=>simp [keysL]
 | cons e l' ih=>
  cases is with
  | nil=>simp at h
  | cons i is=>
   simp only [List.map_cons,List.cons.injEq] at h
   rw [List.nodup_cons] at hn
   have h2:=ih hn.2 h.2
   unfold keysL at h2 ⊢
   simp only [List.map_cons,List.flatten_cons,List.nodup_append]
   refine ⟨hself i e h.1,h2,fun b hb c hc he=>?_⟩
   subst he
   simp only [List.mem_flatten,List.mem_map] at hc
   obtain ⟨k,⟨f,hf,rfl⟩,hbf⟩:=hc
   -- f stands at a place j of is
   have:∃ j,j ∈ is∧l[j]?=some f:=by
    have h3:=h.2
    clear ih h2 h hkey hself hn
    induction l' generalizing is with
    | nil=>simp at hf
    | cons y l' ih=>
     cases is with
     | nil=>simp at h3
     | cons j is=>
      simp only [List.map_cons,List.cons.injEq] at h3
      rcases List.mem_cons.1 hf with rfl | hf
      ·exact ⟨j,by simp,h3.1⟩
      ·obtain ⟨j',h4,h5⟩:=ih is hf h3.2
       exact ⟨j',List.mem_cons_of_mem _ h4,h5⟩
   obtain ⟨j,hj,hl⟩:=this
   have:=hkey i j e f b h.1 hl hb hbf
   subst this
   exact hn.1 hj
theorem St0.sel {E:Nat→Prop} {M:List Nat} {w0 w:World} {L L':List Ent} {D D':List Fact} (S:St0 E M w0 w L D) (is js:List Nat) (hn:is.Nodup)
 (hL:is.map (fun i=>L[i]?)=L'.map some) (hD:js.map (fun i=>D[i]?)=D'.map some):St0 E M w0 w L' D':=
 S.sub (getList_mem hL) (getList_perm hn hL S.nodup) (getList_mem hD)
theorem St.fix {dq:List Deferred} {E:Nat→Prop} {M:List Nat} {w0:World} {n:Nat} {a:Act} {w:World} {F F':List (Nat × Value)} {L L':List Ent} {D D':List Fact} (S:St dq E M w0 n a w F L D) (is js:List Nat) (hn:is.Nodup)
 (hF:F'.map (fun q=>look F q.1)=F'.map (fun q=>some q.2)) (hL:is.map (fun i=>L[i]?)=L'.map some) (hD:js.map (fun i=>D[i]?)=D'.map some):St dq E M w0 n a w F' L' D':=
 ⟨S.frm.sub hF,S.mem.sel is js hn hL hD⟩
section
variable {P : Program} {dq : List Deferred} {E : Nat → Prop} {M : List Nat} {w0 : World} {n : Nat} {a : Act} {w : World} {F : List (Nat × Value)} {L : List Ent} {D : List Fact}
theorem sEnter {f:FuncId} {fn:Func} {c:Code} {args:List Value} {Rt:Ending→World→Prop} (m:Nat) (hf:P.funcs[f]?=some fn) (hb:fn.body=some c) (hm:fn.ntmps=m) (ha:args.length ≤ m) (S:St0 E M w0 w L D)
 (h:∀ a,St [] E M w0 m a w ((List.range args.length).zip args) L D→c.wp P (bodyPost P fn Rt) a w):Calls P f args.toArray w Rt:=by
 refine calls_of_wp hf hb (h _ ⟨⟨rfl,?_,?_⟩,S⟩)
 ·simp [hm]; omega
 ·intro t v ht
  have key:∀ (l:List Value) (k:Nat),look ((List.range' k l.length).zip l) t=some v→k ≤ t∧l[t - k]?=some v:=by
   intro l
   induction l with
   | nil=>intro k h; simp [look] at h
   | cons u l ih=>
    intro k h
    simp only [List.length_cons,List.range'_succ,List.zip_cons_cons,look] at h
    split at h
    ·rename_i e; subst e; simpa using h
    ·rename_i e
     have:=ih (k + 1) h
     refine ⟨by omega,?_⟩
     rw [show t - k=(t - (k + 1)) + 1 by omega]
     simpa using this.2
  rw [List.range_eq_range'] at ht
  have:=(key args 0 ht).2
  simp at this
  have hlt:t < args.length:=(List.getElem?_eq_some_iff.1 this).1
  rw [Array.getElem?_append_left (by simpa using hlt)]
  simpa using this
theorem wN {ops:Array Oper} {o:Oper} (h:o.guard=none):∀ a,Frm dq n a F→Region.wanted o (yielded ops a.tmps)=true:=fun _ _=>by simp [Region.wanted,h]
theorem wG {ops:Array Oper} {o:Oper} {c:Bool} (j:Nat) (want:Bool) (d:Nat) (hg:o.guard=some (j,want)) (hd:(ops[j]?).bind (·.dst)=some d) (hl:look F d=some (.bool c)) (hc:c=want) :
 ∀ a,Frm dq n a F→Region.wanted o (yielded ops a.tmps)=true:=fun a h=>by
 subst hc
 simp [Region.wanted,hg,yielded,hd,h.get d _ hl]
theorem sSkip {ops:Array Oper} {rest:List Oper} {o:Oper} {Q:Exit→Act→World→Prop} {c:Bool} (j:Nat) (want:Bool) (d:Nat) (t:Nat) (S:St dq E M w0 n a w F L D) (hg:o.guard=some (j,want)) (hd:(ops[j]?).bind (·.dst)=some d)
 (hl:look F d=some (.bool c)) (hc:c=!want) (ht:o.dst=some t) (hn:t < n) (k:∀ a,St dq E M w0 n a w ((t,undef) :: F) L D→wpList P ops Q rest a w):wpList P ops Q (o :: rest) a w:=by
 subst hc
 refine wpList_skip (by simp [Region.wanted,hg,yielded,hd,S.frm.get d _ hl]) ?_
 rw [ht]
 exact k _ ⟨S.frm.put hn _,S.mem⟩
theorem sSkipU {ops:Array Oper} {rest:List Oper} {o:Oper} {Q:Exit→Act→World→Prop} (j:Nat) (want:Bool) (d:Nat) (t:Nat) (S:St dq E M w0 n a w F L D) (hg:o.guard=some (j,want)) (hd:(ops[j]?).bind (·.dst)=some d)
 (hl:look F d=some undef) (ht:o.dst=some t) (hn:t < n) (k:∀ a,St dq E M w0 n a w ((t,undef) :: F) L D→wpList P ops Q rest a w):wpList P ops Q (o :: rest) a w:=by
 refine wpList_skip (by simp [Region.wanted,hg,yielded,hd,S.frm.get d _ hl,undef]) ?_
 rw [ht]
 exact k _ ⟨S.frm.put hn _,S.mem⟩
theorem sVal {ops:Array Oper} {rest:List Oper} {o:Oper} {Q:Exit→Act→World→Prop} {v:Value} {w':World} {L':List Ent} {D':List Fact} {d:Nat} (S:St dq E M w0 n a w F L D)
 (hw:∀ a,Frm dq n a F→Region.wanted o (yielded ops a.tmps)=true) (hd:o.dst=some d) (hn:d < n)
 (hrun:(execOp a.eval o).run P w=.ok (.value v) w') (hm:St0 E M w0 w' L' D')
 (k:∀ a,St dq E M w0 n a w' ((d,v) :: F) L' D'→wpList P ops Q rest a w'):wpList P ops Q (o :: rest) a w:=by
 refine wpList_step fun K hK=>?_
 rw [if_pos (hw a S.frm)]
 unfold Oper.wp
 rw [hrun]
 show K (a.put o.dst v) w'
 rw [hd]
 exact hK _ _ (k _ ⟨S.frm.put hn _,hm⟩)
theorem sUnit {ops:Array Oper} {rest:List Oper} {o:Oper} {Q:Exit→Act→World→Prop} {w':World} {L':List Ent} {D':List Fact} (S:St dq E M w0 n a w F L D)
 (hw:∀ a,Frm dq n a F→Region.wanted o (yielded ops a.tmps)=true) (hd:o.dst=none)
 (hrun:(execOp a.eval o).run P w=.ok .skip w') (hm:St0 E M w0 w' L' D')
 (k:∀ a,St dq E M w0 n a w' F L' D'→wpList P ops Q rest a w'):wpList P ops Q (o :: rest) a w:=by
 refine wpList_step fun K hK=>?_
 rw [if_pos (hw a S.frm)]
 unfold Oper.wp
 rw [hrun]
 show K (a.put o.dst undef) w'
 rw [hd]
 exact hK _ _ (k _ ⟨S.frm,hm⟩)
theorem sMove {ops:Array Oper} {rest:List Oper} {o:Oper} {Q:Exit→Act→World→Prop} {x:Operand} {d:Nat} (v:Value) (S:St dq E M w0 n a w F L D)
 (hw:∀ a,Frm dq n a F→Region.wanted o (yielded ops a.tmps)=true) (ho:o.op=.move x ∨ o.op=.assign x) (hx:lookO F x=some v) (hd:o.dst=some d) (hn:d < n)
 (k:∀ a,St dq E M w0 n a w ((d,v) :: F) L D→wpList P ops Q rest a w):wpList P ops Q (o :: rest) a w:=by
 have he:=S.frm.eval hx
 refine sVal S hw hd hn ?_ S.mem k
 rcases ho with ho | ho <;> simp [execOp,ho,he,pure]
theorem sPickT {ops:Array Oper} {rest:List Oper} {o:Oper} {Q:Exit→Act→World→Prop} {c x y:Operand} {b:Bool} {d:Nat} (v:Value) (S:St dq E M w0 n a w F L D)
 (hw:∀ a,Frm dq n a F→Region.wanted o (yielded ops a.tmps)=true) (ho:o.op=.pick c x y) (hc:lookO F c=some (.bool b)) (hb:b=true) (hx:lookO F x=some v) (hd:o.dst=some d) (hn:d < n)
 (k:∀ a,St dq E M w0 n a w ((d,v) :: F) L D→wpList P ops Q rest a w):wpList P ops Q (o :: rest) a w:=by
 subst hb
 have he:=S.frm.eval hx
 have hec:=S.frm.eval hc
 exact sVal S hw hd hn (by simp [execOp,ho,he,hec,asBool,pure,bind,Sem.bind]) S.mem k
theorem sPickF {ops:Array Oper} {rest:List Oper} {o:Oper} {Q:Exit→Act→World→Prop} {c x y:Operand} {b:Bool} {d:Nat} (v:Value) (S:St dq E M w0 n a w F L D)
 (hw:∀ a,Frm dq n a F→Region.wanted o (yielded ops a.tmps)=true) (ho:o.op=.pick c x y) (hc:lookO F c=some (.bool b)) (hb:b=false) (hy:lookO F y=some v) (hd:o.dst=some d) (hn:d < n)
 (k:∀ a,St dq E M w0 n a w ((d,v) :: F) L D→wpList P ops Q rest a w):wpList P ops Q (o :: rest) a w:=by
 subst hb
 have he:=S.frm.eval hy
 have hec:=S.frm.eval hc
 exact sVal S hw hd hn (by simp [execOp,ho,he,hec,asBool,pure,bind,Sem.bind]) S.mem k
theorem sBin {ops:Array Oper} {rest:List Oper} {o:Oper} {Q:Exit→Act→World→Prop} {op:BinOp} {t u:TypeId} {x y:Operand} {vx vy:Value} {d:Nat} (v:Value) (S:St dq E M w0 n a w F L D)
 (hw:∀ a,Frm dq n a F→Region.wanted o (yielded ops a.tmps)=true) (ho:o.op=.binOp op t x y u) (hx:lookO F x=some vx) (hy:lookO F y=some vy)
 (hb:∀ w,(eqGuard op t x y vx vy).run P w=.ok () w∧(binOp op t vx vy).run P w=.ok v w) (hd:o.dst=some d) (hn:d < n)
 (k:∀ a,St dq E M w0 n a w ((d,v) :: F) L D→wpList P ops Q rest a w):wpList P ops Q (o :: rest) a w:=by
 have hex:=S.frm.eval hx
 have hey:=S.frm.eval hy
 refine sVal S hw hd hn ?_ S.mem k
 simp only [execOp,ho,hex,hey,Sem.run_bind,(hb w).1,(hb w).2,Result.andThen_ok,Sem.run_pure]
end
def iterO {σ τ:Type} (B:σ→Option (σ ⊕ τ)):Nat→σ→Option τ
 | 0,_=>none
 | n + 1,s=>(B s).bind fun c=>match c with | .inl s'=>iterO B n s' | .inr t=>some t
theorem iterO_mono {σ τ:Type} {B:σ→Option (σ ⊕ τ)} {n:Nat} {s:σ} {t:τ} (h:iterO B n s=some t):iterO B (n + 1) s=some t:=by
 induction n generalizing s with
 | zero=>simp [iterO] at h
 | succ n ih=>
  unfold iterO at h ⊢
  cases hb:B s with
  | none=>rw [hb] at h; simp at h
  | some c=>
   rw [hb] at h
   cases c with
   | inl s'=>simp only [Option.bind_some] at h ⊢; exact ih h
   | inr u=>simpa using h
theorem iterO_le {σ τ:Type} {B:σ→Option (σ ⊕ τ)} {n m:Nat} {s:σ} {t:τ} (h:iterO B n s=some t) (hm:n ≤ m):iterO B m s=some t:=by
 induction hm with
 | refl=>exact h
 | step _ ih=>exact iterO_mono ih
open Classical in
noncomputable def whileO {σ τ:Type} (B:σ→Option (σ ⊕ τ)) (s:σ):Option τ:=
 if h:∃ t n,iterO B n s=some t then some h.choose else none
theorem whileO_of {σ τ:Type} {B:σ→Option (σ ⊕ τ)} {s:σ} {t:τ} {n:Nat} (h:iterO B n s=some t):whileO B s=some t:=by
 have hx:∃ t n,iterO B n s=some t:=⟨t,n,h⟩
 unfold whileO
 rw [dif_pos hx]
 obtain ⟨m,hm⟩:=hx.choose_spec
 have h1:=iterO_le h (Nat.le_max_left n m)
 have h2:=iterO_le hm (Nat.le_max_right n m)
 rw [h1] at h2
 exact h2.symm
theorem whileO_some {σ τ:Type} {B:σ→Option (σ ⊕ τ)} {s:σ} {t:τ} (h:whileO B s=some t):∃ n,iterO B n s=some t:=by
 unfold whileO at h
 split at h
 ·rename_i hx
  have:=hx.choose_spec
  simp only [Option.some.injEq] at h
  rw [h] at this
  exact this
 ·cases h
theorem whileO_step {σ τ:Type} {B:σ→Option (σ ⊕ τ)} {s s':σ} (h:B s=some (.inl s')):whileO B s=whileO B s':=by
 have hi:∀ n,iterO B (n + 1) s=iterO B n s':=fun n=>by rw [iterO,h]; rfl
 cases hx:whileO B s' with
 | some t=>
  obtain ⟨n,hn⟩:=whileO_some hx
  exact whileO_of (n:=n + 1) (by rw [hi]; exact hn)
 | none=>
  cases hy:whileO B s with
  | none=>rfl
  | some t=>
   obtain ⟨n,hn⟩:=whileO_some hy
   cases n with
   | zero=>simp [iterO] at hn
   | succ n=>rw [hi] at hn; rw [whileO_of hn] at hx; cases hx
theorem whileO_done {σ τ:Type} {B:σ→Option (σ ⊕ τ)} {s:σ} {t:τ} (h:B s=some (.inr t)):whileO B s=some t:=
 whileO_of (n:=1) (by rw [iterO,h]; rfl)
theorem bindSome {α β:Type} {x:Option α} {f:α→Option β} {r:β} (h:x.bind f=some r):∃ y,x=some y∧f y=some r:=by
 cases x with
 | none=>simp at h
 | some y=>exact ⟨y,rfl,by simpa using h⟩
theorem iteSome {α:Type} {c:Bool} {x y:Option α} {r:α} (h:(if c=true then x else y)=some r):(c=true∧x=some r) ∨ (c=false∧y=some r):=by
 cases c
 ·exact .inr ⟨rfl,by simpa using h⟩
 ·exact .inl ⟨rfl,by simpa using h⟩
section
variable {P : Program} {dq : List Deferred} {E : Nat → Prop} {M : List Nat} {w0 : World} {n : Nat} {a : Act} {w : World} {F : List (Nat × Value)} {L : List Ent} {D : List Fact} {Q : Exit → Act → World → Prop}
theorem sSeq {x y:Code} (h:∀ K:Act→World→Prop,(∀ a w,y.wp P Q a w→K a w)→x.wp P (Exit.then K Q) a w):(Code.seq x y).wp P Q a w:=wp_seq_k h
theorem sCut {x y:Code} (I:Act→World→Prop) (h1:x.wp P (Exit.then I Q) a w) (h2:∀ a w,I a w→y.wp P Q a w):(Code.seq x y).wp P Q a w:=
 wp_seq (wp_mono h1 fun e a w hq=>by
  cases e with
  | normal=>exact h2 a w hq
  | _=>exact hq)
theorem sRegion {id:Nat} {l:List Oper} (h:wpList P l.toArray Q l a w):(Code.region id l.toArray false).wp P Q a w:=wp_region_lit h
theorem sCondT {c:Operand} {b:Bool} {x y:Code} (S:St dq E M w0 n a w F L D) (hc:lookO F c=some (.bool b)) (hb:b=true) (h:x.wp P Q a w):(Code.cond c x y).wp P Q a w:=
 wp_cond_true (by rw [S.frm.eval hc,hb]) h
theorem sCondF {c:Operand} {b:Bool} {x y:Code} (S:St dq E M w0 n a w F L D) (hc:lookO F c=some (.bool b)) (hb:b=false) (h:y.wp P Q a w):(Code.cond c x y).wp P Q a w:=
 wp_cond_false (by rw [S.frm.eval hc,hb]) h
theorem sLoop {σ τ:Type} {c:Code} {B:σ→Option (σ ⊕ τ)} {s:σ} {t:τ} (hw:whileO B s=some t) (I:σ→Act→World→Prop) (h0:I s a w)
 (round:∀ s a w r,I s a w→B s=some r→(∀ u,r=.inr u→u=t)→c.wp P (Exit.then (fun a' w'=>∃ s',r=.inl s'∧I s' a' w') Q) a w):(Code.loop c).wp P Q a w:=by
 obtain ⟨m,hm⟩:=whileO_some hw
 clear hw
 intro b k cs
 have key:∀ m s a w,iterO B m s=some t→I s a w →
  ∃ e a' w',Q e a' w'∧Arrives P (lone (b.at a (.code c :: .inLoop c :: k)) cs w) b k cs e a' w':=by
  intro m
  induction m with
  | zero=>intro s a w hm; simp [iterO] at hm
  | succ m ih=>
   intro s a w hm hI
   rw [iterO] at hm
   obtain ⟨r,hr,hm⟩:=bindSome hm
   obtain ⟨e,a₁,w₁,hq,harr⟩:=round s a w r hI hr (by rintro u rfl; simpa using hm) b (.inLoop c :: k) cs
   cases e with
   | normal=>
    obtain ⟨s',rfl,hI'⟩:=hq
    obtain ⟨e₂,a₂,w₂,hq₂,harr₂⟩:=ih s' a₁ w₁ hm hI'
    exact ⟨e₂,a₂,w₂,hq₂,.of_steps (Steps.trans harr (.one step_inLoop)) harr₂⟩
   | exit id=>exact ⟨_,a₁,w₁,hq,.pass (x:=.inLoop c) rfl (fun _ _=>.inl (by simp)) harr⟩
   | goto l=>exact ⟨_,a₁,w₁,hq,.pass (x:=.inLoop c) rfl (fun _ _=>.inl (by simp)) harr⟩
   | ret=>exact ⟨_,a₁,w₁,hq,.pass (x:=.inLoop c) rfl (fun _ _=>.inl (by simp)) harr⟩
   | panic ch=>exact ⟨_,a₁,w₁,hq,.pass (x:=.inLoop c) rfl (fun _ _=>.inl (by simp)) harr⟩
   | outgrown=>exact ⟨_,a₁,w₁,hq,.pass (x:=.inLoop c) rfl (fun _ _=>.inl (by simp)) harr⟩
 obtain ⟨e,a',w',hq,harr⟩:=key m s a w hm h0
 exact ⟨e,a',w',hq,.of_steps (.one step_loop) harr⟩
theorem sRet {fn:Func} {Rt:Ending→World→Prop} (v:Value) (S:St [] E M w0 n a w F L D) (hr:(results fn a.tmps).run P w=.ok v w) (h:Rt (.returned v) w):bodyPost P fn Rt .ret a w:=⟨S.frm.defers,v,hr,h⟩
theorem sEnd {fn:Func} {Rt:Ending→World→Prop} (v:Value) (S:St [] E M w0 n a w F L D) (hr:(results fn a.tmps).run P w=.ok v w) (h:Rt (.returned v) w):bodyPost P fn Rt .normal a w:=⟨S.frm.defers,v,hr,h⟩
def w64 (x:Int):Int:=IntKind.i64.wrap x
theorem w64_id {x:Int} (h:-9223372036854775808 ≤ x∧x ≤ 9223372036854775807):w64 x=x:=by
 simp [w64,IntKind.wrap,IntKind.bits,IntKind.signed]
 omega
theorem bAdd (t u:TypeId) (p q:Operand) (x y:Int):∀ w,(eqGuard .add t p q (.int .i64 x) (.int .i64 y)).run P w=.ok () w∧(binOp .add u (.int .i64 x) (.int .i64 y)).run P w=.ok (.int .i64 (w64 (x + y))) w:=fun w=>⟨rfl,rfl⟩
theorem bSub (t u:TypeId) (p q:Operand) (x y:Int):∀ w,(eqGuard .sub t p q (.int .i64 x) (.int .i64 y)).run P w=.ok () w∧(binOp .sub u (.int .i64 x) (.int .i64 y)).run P w=.ok (.int .i64 (w64 (x - y))) w:=fun w=>⟨rfl,rfl⟩
theorem bMul (t u:TypeId) (p q:Operand) (x y:Int):∀ w,(eqGuard .mul t p q (.int .i64 x) (.int .i64 y)).run P w=.ok () w∧(binOp .mul u (.int .i64 x) (.int .i64 y)).run P w=.ok (.int .i64 (w64 (x * y))) w:=fun w=>⟨rfl,rfl⟩
theorem bEq (t u:TypeId) (p q:Operand) (k:IntKind) (x y:Int):∀ w,(eqGuard .eql t p q (.int k x) (.int k y)).run P w=.ok () w∧(binOp .eql u (.int k x) (.int k y)).run P w=.ok (.bool (x == y)) w:=fun w=>⟨rfl,by simp [binOp,Op.intCmp]⟩
theorem bNe (t u:TypeId) (p q:Operand) (k:IntKind) (x y:Int):∀ w,(eqGuard .neq t p q (.int k x) (.int k y)).run P w=.ok () w∧(binOp .neq u (.int k x) (.int k y)).run P w=.ok (.bool (x != y)) w:=fun w=>⟨rfl,by simp [binOp,Op.intCmp]⟩
theorem bLt (t u:TypeId) (p q:Operand) (k:IntKind) (x y:Int):∀ w,(eqGuard .lss t p q (.int k x) (.int k y)).run P w=.ok () w∧(binOp .lss u (.int k x) (.int k y)).run P w=.ok (.bool (decide (x < y))) w:=fun w=>⟨rfl,by simp [binOp,Op.intCmp]⟩
theorem bLe (t u:TypeId) (p q:Operand) (k:IntKind) (x y:Int):∀ w,(eqGuard .leq t p q (.int k x) (.int k y)).run P w=.ok () w∧(binOp .leq u (.int k x) (.int k y)).run P w=.ok (.bool (decide (x ≤ y))) w:=fun w=>⟨rfl,by simp [binOp,Op.intCmp]⟩
theorem bGt (t u:TypeId) (p q:Operand) (k:IntKind) (x y:Int):∀ w,(eqGuard .gtr t p q (.int k x) (.int k y)).run P w=.ok () w∧(binOp .gtr u (.int k x) (.int k y)).run P w=.ok (.bool (decide (y < x))) w:=fun w=>⟨rfl,by simp [binOp,Op.intCmp]⟩
theorem bGe (t u:TypeId) (p q:Operand) (k:IntKind) (x y:Int):∀ w,(eqGuard .geq t p q (.int k x) (.int k y)).run P w=.ok () w∧(binOp .geq u (.int k x) (.int k y)).run P w=.ok (.bool (decide (y ≤ x))) w:=fun w=>⟨rfl,by simp [binOp,Op.intCmp]⟩
theorem run_equalIn_bool (d:Nat) {u:TypeId} (hu:P.underlying u=some .bool) (x y:Bool) (w:World):(Op.equalIn (d + 1) u (.bool x) (.bool y)).run P w=.ok (x == y) w:=by
 simp [Op.equalIn,run_underlying hu]
theorem bNeB (t u:TypeId) (p q:Operand) (hu:P.underlying u=some .bool) (x y:Bool):∀ w,(eqGuard .neq t p q (.bool x) (.bool y)).run P w=.ok () w∧(binOp .neq u (.bool x) (.bool y)).run P w=.ok (.bool (x != y)) w:=fun w=>⟨rfl,by
 simp only [binOp]
 simp [Op.equal,Op.maxDepth,run_equalIn_bool 9999 hu,bne]⟩
theorem sNot {ops:Array Oper} {rest:List Oper} {o:Oper} {t:TypeId} {x:Operand} {b:Bool} {d:Nat} (S:St dq E M w0 n a w F L D)
 (hw:∀ a,Frm dq n a F→Region.wanted o (yielded ops a.tmps)=true) (ho:o.op=.unOp .not t x) (hx:lookO F x=some (.bool b)) (hd:o.dst=some d) (hn:d < n)
 (k:∀ a,St dq E M w0 n a w ((d,.bool (!b)) :: F) L D→wpList P ops Q rest a w):wpList P ops Q (o :: rest) a w:=by
 have he:=S.frm.eval hx
 exact sVal S hw hd hn (by simp [execOp,ho,he,Op.unary]) S.mem k
theorem sExtract {ops:Array Oper} {rest:List Oper} {o:Oper} {i:Nat} {x:Operand} {vs:List Value} {d:Nat} (v:Value) (S:St dq E M w0 n a w F L D)
 (hw:∀ a,Frm dq n a F→Region.wanted o (yielded ops a.tmps)=true) (ho:o.op=.extract x i) (hx:lookO F x=some (.tuple vs.toArray)) (hv:vs[i]?=some v) (hd:o.dst=some d) (hn:d < n)
 (k:∀ a,St dq E M w0 n a w ((d,v) :: F) L D→wpList P ops Q rest a w):wpList P ops Q (o :: rest) a w:=by
 have he:=S.frm.eval hx
 exact sVal S hw hd hn (by simp [execOp,ho,he,Instr.extract,hv]) S.mem k
theorem sLen {ops:Array Oper} {rest:List Oper} {o:Oper} {e t:TypeId} {x:Operand} {ad:Option Addr} {m c:Nat} {d:Nat} (S:St dq E M w0 n a w F L D)
 (hw:∀ a,Frm dq n a F→Region.wanted o (yielded ops a.tmps)=true) (ho:o.op=.call { callee:=.builtin .len,args:=#[x],argTypes:=#[t] }) (ht:P.underlying t=some (.slice e)) (hx:lookO F x=some (.slice ad m c)) (hd:o.dst=some d) (hn:d < n)
 (k:∀ a,St dq E M w0 n a w ((d,.int .i64 (m:Int)) :: F) L D→wpList P ops Q rest a w):wpList P ops Q (o :: rest) a w:=by
 have he:=S.frm.eval hx
 exact sVal S hw hd hn (by simp [execOp,ho,he,resolve,invoke,builtin,Builtin.len_,run_underlying ht,goInt]) S.mem k
end
end Go.Proofs.Ytapohhkdpkapoaa
namespace Go.Proofs.Ytapohhkdpkapoaa
open Go.RowKit
def idxO {α:Type} (xs:List α) (i:Int):Option α:=if 0 ≤ i then xs[i.toNat]? else none
theorem idxO_some {α:Type} {xs:List α} {i:Int} {x:α} (h:idxO xs i=some x):0 ≤ i∧i.toNat < xs.length∧xs[i.toNat]?=some x:=by
 unfold idxO at h
 split at h
 ·exact ⟨by assumption,(List.getElem?_eq_some_iff.1 h).1,h⟩
 ·cases h
def setO {α:Type} (xs:List α) (i:Int) (y:α):Option (List α):=if 0 ≤ i∧i.toNat < xs.length then some (xs.set i.toNat y) else none
theorem setO_some {α:Type} {xs ys:List α} {i:Int} {y:α} (h:setO xs i y=some ys):0 ≤ i∧i.toNat < xs.length∧ys=xs.set i.toNat y:=by
 unfold setO at h
 split at h
 ·rename_i g; cases h; exact ⟨g.1,g.2,rfl⟩
 ·cases h
def lim:Nat:=68719476736
def appO {α:Type} (xs ys:List α):Option (List α):=if xs.length + ys.length ≤ lim then some (xs ++ ys) else none
theorem appO_some {α:Type} {xs ys zs:List α} (h:appO xs ys=some zs):xs.length + ys.length ≤ 68719476736∧zs=xs ++ ys:=by
 unfold appO lim at h
 split at h
 ·rename_i g; cases h; exact ⟨g,rfl⟩
 ·cases h
def makeO {α:Type} (m:Int) (z:α):Option (List α):=if 0 ≤ m∧m.toNat ≤ lim then some (List.replicate m.toNat z) else none
theorem makeO_some {α:Type} {m:Int} {z:α} {xs:List α} (h:makeO m z=some xs):∃ k:Nat,m=k∧k ≤ 68719476736∧xs=List.replicate k z:=by
 unfold makeO lim at h
 split at h
 ·rename_i g; cases h; exact ⟨m.toNat,by omega,g.2,rfl⟩
 ·cases h
def sliceO {α:Type} (xs:List α) (lo hi:Int):Option (List α):=if 0 ≤ lo∧lo ≤ hi∧hi ≤ (xs.length:Int) then some ((xs.take hi.toNat).drop lo.toNat) else none
theorem sliceO_some {α:Type} {xs ys:List α} {lo hi:Int} (h:sliceO xs lo hi=some ys):∃ l k:Nat,lo=l∧hi=k∧l ≤ k∧k ≤ xs.length∧ys=(xs.take k).drop l:=by
 unfold sliceO at h
 split at h
 ·rename_i g; cases h; exact ⟨lo.toNat,hi.toNat,by omega,by omega,by omega,by omega,rfl⟩
 ·cases h
def fPtr {α:Type} (r:R α) (q:Value) (x:α):Fact where
 p:=fun E w=>∃ b off v,q=.pointer (some ⟨b,off,none⟩)∧¬ E b∧b < w.heap.size∧r.rep E w v x∧∀ j u,v.cells.toList[j]?=some u→w.cell? ⟨b,off + j,none⟩=some u
 mono:=by
  rintro E E' w w' h ⟨b,off,v,hq,hE,hb,hr,hc⟩
  refine ⟨b,off,v,hq,fun e=>hE (h.excl b hb e),Nat.lt_of_lt_of_le hb h.size,r.mono h hr,fun j u hu=>?_⟩
  rw [World.cell?_of_block (w:=w) (h.same b hb hE ⟨_,_,hc j u hu⟩)]
  exact hc j u hu
section
variable {P : Program} {dq : List Deferred} {E : Nat → Prop} {M : List Nat} {w0 : World} {n : Nat} {a : Act} {w : World} {F : List (Nat × Value)} {L : List Ent} {D : List Fact} {Q : Exit → Act → World → Prop}
variable {ops : Array Oper} {rest : List Oper} {o : Oper} {d : Nat}
theorem add_addr (b off k:Nat):(⟨b,off,none⟩:Addr).add k=⟨b,off + k,none⟩:=by
 unfold Addr.add; split <;> simp_all
theorem Ent.allocated {e:Ent} (w:World) (E':Nat→Prop) (S:St0 E M w0 w L D) (he:e ∈ L) (hE:∀ b,b < w.heap.size→E' b→tot E L b) (o:Obj):e.p E' (w.alloc o):=
 e.mono ⟨by simp,fun b hb _ _=>heap_alloc_old w o hb,hE⟩ (fun b hb=>heap_alloc_old w o (S.lt b (keysL_mem.2 ⟨e,he,hb⟩))) (S.ent e he)
theorem St0.new (S:St0 E M w0 w L D) (o:Obj) (e:Ent) (hk:e.keys=[w.heap.size]) (hp:e.p (tot E (e :: L)) (w.alloc o)):St0 E M w0 (w.alloc o) (e :: L) D:=by
 have hb:∀ b,b < w.heap.size→tot E (e :: L) b→tot E L b:=by
  intro b hb h
  rcases h with h | h
  ·exact .inl h
  ·refine .inr ?_
   simp only [keysL,List.map_cons,List.flatten_cons,hk,List.mem_append,List.mem_singleton] at h
   rcases h with h | h
   ·omega
   ·exact h
 refine ⟨S.chg.trans (Chg.alloc M w o) (fun j hj=>.inl hj),?_,?_,?_,?_,S.bnd⟩
 ·intro x hx
  rcases List.mem_cons.1 hx with rfl | hx
  ·exact hp
  ·exact Ent.allocated w _ S hx hb o
 ·intro x hx
  exact x.mono ⟨by simp,fun b hb _ _=>heap_alloc_old w o hb,hb⟩ (S.fact x hx)
 ·simp only [keysL,List.map_cons,List.flatten_cons,hk,List.singleton_append,List.nodup_cons]
  exact ⟨fun h=>absurd (S.lt _ h) (by omega),S.nodup⟩
 ·intro b hx
  simp only [keysL,List.map_cons,List.flatten_cons,hk,List.mem_append,List.mem_singleton] at hx
  rcases hx with rfl | hx
  ·exact ⟨.inl S.chg.size,fun h=>absurd (S.bnd _ h) (by have:=S.chg.size; omega)⟩
  ·exact S.key b hx
theorem St0.at {i:Nat} {e:Ent} (S:St0 E M w0 w L D) (h:L[i]?=some e):e.p (tot E L) w:=S.ent e (List.mem_of_getElem? h)
theorem St0.know {i:Nat} {e:Fact} (S:St0 E M w0 w L D) (h:D[i]?=some e):e.p (tot E L) w:=S.fact e (List.mem_of_getElem? h)
theorem St0.learn (S:St0 E M w0 w L D) (e:Fact) (h:e.p (tot E L) w):St0 E M w0 w L (e :: D):=
 ⟨S.chg,S.ent,fun x hx=>by rcases List.mem_cons.1 hx with rfl | hx; exact h; exact S.fact x hx,S.nodup,S.key,S.bnd⟩
theorem erase_perm {α:Type} {l:List α} {i:Nat} {x:α} (h:l[i]?=some x):(x :: l.eraseIdx i).Perm l:=by
 induction l generalizing i with
 | nil=>simp at h
 | cons y l ih=>
  cases i with
  | zero=>simp at h; subst h; exact List.Perm.refl _
  | succ i=>
   simp at h
   exact (List.Perm.swap y x _).trans ((ih h).cons y)
theorem St0.put {i:Nat} {e:Ent} {w':World} (S:St0 E M w0 w L D) (hi:L[i]?=some e) (e':Ent) (hc:Chg e.keys w w') (hk:∀ b,b ∈ e'.keys→b ∈ e.keys ∨ w.heap.size ≤ b) (hn:e'.keys.Nodup)
 (hp:e'.p (tot E (e' :: L.eraseIdx i)) w'):St0 E M w0 w' (e' :: L.eraseIdx i) D:=by
 have hperm:(e :: L.eraseIdx i).Perm L:=erase_perm hi
 have S1:=S.perm hperm
 have hE:tot (tot E (L.eraseIdx i)) [e']=tot E (e' :: L.eraseIdx i):=by
  funext b
  simp only [tot,keysL,List.map_cons,List.flatten_cons,List.map_nil,List.flatten_nil,List.append_nil,List.mem_append]
  exact propext ⟨fun h=>by rcases h with (h | h) | h; exact .inl h; exact .inr (.inr h); exact .inr (.inl h),fun h=>by rcases h with h | h | h; exact .inl (.inl h); exact .inr h; exact .inl (.inr h)⟩
 have S2:=St0.enter (B:=[e]) (Rs:=L.eraseIdx i) (D:=[]) S1 (by simp)
 have key:keysL [e]=e.keys:=by simp [keysL]
 have h:=St0.upd (B:=[e]) (Rs:=L.eraseIdx i) S1 (by rw [key]; exact hc) [e'] [] ⟨by rw [key]; exact hc,by intro x hx; simp at hx; subst hx; rw [hE]; exact hp,by simp,by simpa [keysL] using hn,by
  intro b hb
  have hb':b ∈ e'.keys:=by simpa [keysL] using hb
  refine ⟨?_,fun h=>?_⟩
  ·rcases hk b hb' with h | h
   ·exact .inr (by rw [key]; exact h)
   ·exact .inl h
  ·rcases hk b hb' with h1 | h1
   ·exact (S2.key b (by rw [key]; exact h1)).2 h
   ·exact absurd (S2.bnd b h) (by omega),S2.bnd⟩
 simpa using h
theorem sBox {t:TypeId} {x:Operand} {v:Value} (S:St dq E M w0 n a w F L D)
 (hw:∀ a,Frm dq n a F→Region.wanted o (yielded ops a.tmps)=true) (ho:o.op=.box t x) (hx:lookO F x=some v) (cs:List Value) (hcs:v.cells=cs.toArray) (hd:o.dst=some d) (hn:d < n)
 (k:∀ a p w,St dq E M w0 n a w ((d,.pointer (some ⟨p,0,none⟩)) :: F) (eBox p t cs :: L) D→wpList P ops Q rest a w):wpList P ops Q (o :: rest) a w:=by
 have he:=S.frm.eval hx
 refine sVal S hw hd hn (w':=w.alloc (.cells cs.toArray t)) (v:=.pointer (some ⟨w.heap.size,0,none⟩)) ?_ (S.mem.new _ (eBox w.heap.size t cs) rfl ?_) (fun a=>k a w.heap.size _)
 ·simp [execOp,ho,he,Instr.box,newVar,newRow,hcs]
 ·exact heap_alloc_new w _
theorem sAlloc {t:TypeId} (z:Value) (S:St dq E M w0 n a w F L D)
 (hw:∀ a,Frm dq n a F→Region.wanted o (yielded ops a.tmps)=true) (ho:o.op=.alloc t) (hz:(P.info? t).map (·.zero)=some (some z)) (cs:List Value) (hcs:z.cells=cs.toArray) (hd:o.dst=some d) (hn:d < n)
 (k:∀ a p w,St dq E M w0 n a w ((d,.pointer (some ⟨p,0,none⟩)) :: F) (eBox p t cs :: L) D→wpList P ops Q rest a w):wpList P ops Q (o :: rest) a w:=by
 refine sVal S hw hd hn (w':=w.alloc (.cells cs.toArray t)) (v:=.pointer (some ⟨w.heap.size,0,none⟩)) ?_ (S.mem.new _ (eBox w.heap.size t cs) rfl ?_) (fun a=>k a w.heap.size _)
 ·cases hi:P.info? t with
  | none=>simp [hi] at hz
  | some i=>
   simp [hi] at hz
   simp [execOp,ho,Instr.alloc,zeroValue,typeInfo,hi,hz,newVar,newRow,hcs]
 ·exact heap_alloc_new w _
end
def aggB (P:Program) (t:TypeId):Option Bool:=(P.underlying t).map fun d=>match d with | .struct _ | .array _ _=>true | _=>false
def cellsB (P:Program) (t:TypeId):Option Nat:=(P.info? t).map (·.size)
def fieldB (P:Program) (s:TypeId) (f:Nat):Option Nat:=match P.underlying s with
 | some (.struct fs)=>(fs[f]?).bind fun fl=>match P.info? fl.type with | some i=>if i.size=0 then none else some fl.offset | none=>none
 | _=>none
def over (vs:List Value) (off:Nat) (cs:List Value):List Value:=vs.take off ++ cs ++ vs.drop (off + cs.length)
def Scal {α:Type} (r:R α):Prop:=∀ E w v x,r.rep E w v x→v.cells=#[v]
def Aggr {α:Type} (r:R α):Prop:=∀ E w v x,r.rep E w v x→∃ cs,v=.agg cs
theorem scal_I (k:IntKind):Scal (rI k):=by rintro _ _ _ _ rfl; rfl
theorem scal_L {α:Type} (r:R α):Scal (rL r):=by rintro _ _ _ _ ⟨_,_,_,rfl,_⟩; rfl
def OwnP (sz:Nat) (v q:Value) (j:Nat):Prop:=∃ g m c,v=.slice (some ⟨g,0,none⟩) m c∧q=.pointer (some ⟨g,j * sz,none⟩)
section
variable {P : Program} {dq : List Deferred} {E : Nat → Prop} {M : List Nat} {w0 : World} {n : Nat} {a : Act} {w : World} {F : List (Nat × Value)} {L : List Ent} {D : List Fact} {Q : Exit → Act → World → Prop}
variable {ops : Array Oper} {rest : List Oper} {o : Oper} {d : Nat}
theorem run_isAgg {t:TypeId} {b:Bool} (h:aggB P t=some b) (w:World):(isAgg t).run P w=.ok b w:=by
 unfold aggB at h
 cases hu:P.underlying t with
 | none=>simp [hu] at h
 | some dd=>
  simp only [hu,Option.map_some,Option.some.injEq] at h
  subst h
  cases dd <;> simp [isAgg,run_underlying hu]
theorem run_sizeOf' {t:TypeId} {m:Nat} (h:cellsB P t=some m) (w:World):(sizeOf t).run P w=.ok m w:=by
 unfold cellsB at h
 cases hu:P.info? t with
 | none=>simp [hu] at h
 | some dd=>
  simp only [hu,Option.map_some,Option.some.injEq] at h
  subst h
  simp [sizeOf,typeInfo,hu]
theorem run_fieldAt {s:TypeId} {f k:Nat} (h:fieldB P s f=some k) (b off:Nat) (w:World):(Instr.fieldAt s (.pointer (some ⟨b,off,none⟩)) f).run P w=.ok (.pointer (some ⟨b,off + k,none⟩)) w:=by
 unfold fieldB at h
 split at h
 ·rename_i fs hu
  cases hf:fs[f]? with
  | none=>simp [hf] at h
  | some fl=>
   simp only [hf,Option.bind_some] at h
   cases hi:P.info? fl.type with
   | none=>simp [hi] at h
   | some i=>
    simp only [hi] at h
    split at h
    ·cases h
    ·rename_i hs
     cases h
     simp [Instr.fieldAt,run_underlying hu,hf,Instr.sureAddr,fieldPlace,sizeOf,typeInfo,hi,hs,add_addr]
 ·cases h
theorem sField {s:TypeId} {x:Operand} {f b off:Nat} (k off':Nat) (S:St dq E M w0 n a w F L D)
 (hw:∀ a,Frm dq n a F→Region.wanted o (yielded ops a.tmps)=true) (ho:o.op=.fieldAddr s x f) (hx:lookO F x=some (.pointer (some ⟨b,off,none⟩))) (hf:fieldB P s f=some k) (hoff:off + k=off') (hd:o.dst=some d) (hn:d < n)
 (K:∀ a,St dq E M w0 n a w ((d,.pointer (some ⟨b,off',none⟩)) :: F) L D→wpList P ops Q rest a w):wpList P ops Q (o :: rest) a w:=by
 subst hoff
 have he:=S.frm.eval hx
 exact sVal S hw hd hn (by simp only [execOp,ho,he,Sem.run_bind,run_fieldAt hf,Result.andThen_ok,Sem.run_pure]) S.mem K
theorem sLoad1 {t T:TypeId} {q:Operand} {p off:Nat} {vs:List Value} (i:Nat) (v:Value) (S:St dq E M w0 n a w F L D)
 (hw:∀ a,Frm dq n a F→Region.wanted o (yielded ops a.tmps)=true) (ho:o.op=.load t q) (hq:lookO F q=some (.pointer (some ⟨p,off,none⟩))) (ht:aggB P t=some false) (hL:L[i]?=some (eBox p T vs)) (hv:vs[off]?=some v) (hd:o.dst=some d) (hn:d < n)
 (k:∀ a,St dq E M w0 n a w ((d,v) :: F) L D→wpList P ops Q rest a w):wpList P ops Q (o :: rest) a w:=by
 have he:=S.frm.eval hq
 have hb:w.heap[p]?=some (.cells vs.toArray T (0,0)):=S.mem.at hL
 have hc:w.cell? ⟨p,off,none⟩=some v:=by simp [World.cell?,hb,hv]
 exact sVal S hw hd hn (by simp [execOp,ho,he,Instr.loadAt,Instr.sureAddr,loadVar,run_isAgg ht,hc]) S.mem k
theorem run_loadVar_agg {t:TypeId} {b off:Nat} (cs:List Value) (ht:aggB P t=some true) (hm:cellsB P t=some cs.length) (w:World) (hc:∀ j u,cs[j]?=some u→w.cell? ⟨b,off + j,none⟩=some u) :
 (loadVar t ⟨b,off,none⟩).run P w=.ok (.agg cs.toArray) w:=by
 have h:=run_loadCells_list (P:=P) w ⟨b,off,none⟩ cs (fun j u hu=>by rw [add_addr]; exact hc j u hu)
 simp [loadVar,run_isAgg ht,run_sizeOf' hm,h]
theorem sLoadN {t T:TypeId} {q:Operand} {p off:Nat} {vs:List Value} (i:Nat) (cs:List Value) (S:St dq E M w0 n a w F L D)
 (hw:∀ a,Frm dq n a F→Region.wanted o (yielded ops a.tmps)=true) (ho:o.op=.load t q) (hq:lookO F q=some (.pointer (some ⟨p,off,none⟩))) (ht:aggB P t=some true) (hL:L[i]?=some (eBox p T vs)) (hm:cellsB P t=some cs.length)
 (hcs:(vs.drop off).take cs.length=cs) (hd:o.dst=some d) (hn:d < n)
 (k:∀ a,St dq E M w0 n a w ((d,.agg cs.toArray) :: F) L D→wpList P ops Q rest a w):wpList P ops Q (o :: rest) a w:=by
 have he:=S.frm.eval hq
 have hb:w.heap[p]?=some (.cells vs.toArray T (0,0)):=S.mem.at hL
 have hc:∀ j u,cs[j]?=some u→w.cell? ⟨p,off + j,none⟩=some u:=by
  intro j u hu
  have hj:j < cs.length:=(List.getElem?_eq_some_iff.1 hu).1
  rw [← hcs,List.getElem?_take,if_pos hj,List.getElem?_drop] at hu
  simp [World.cell?,hb,hu]
 exact sVal S hw hd hn (by simp [execOp,ho,he,Instr.loadAt,Instr.sureAddr,run_loadVar_agg cs ht hm w hc]) S.mem k
theorem sStore {t T:TypeId} {q x:Operand} {p off:Nat} {vs:List Value} {v:Value} (i:Nat) (cs:List Value) (S:St dq E M w0 n a w F L D)
 (hw:∀ a,Frm dq n a F→Region.wanted o (yielded ops a.tmps)=true) (ho:o.op=.store t q x) (hq:lookO F q=some (.pointer (some ⟨p,off,none⟩))) (hx:lookO F x=some v) (hcs:v.cells=cs.toArray) (hL:L[i]?=some (eBox p T vs)) (hm:cellsB P t=some cs.length)
 (h1:cs.all (·.oneCell')=true) (hl:off + cs.length ≤ vs.length) (hd:o.dst=none)
 (k:∀ a w,St dq E M w0 n a w F (eBox p T (over vs off cs) :: L.eraseIdx i) D→wpList P ops Q rest a w):wpList P ops Q (o :: rest) a w:=by
 have he:=S.frm.eval hq
 have hex:=S.frm.eval hx
 have hb:w.heap[p]?=some (.cells vs.toArray T (0,0)):=S.mem.at hL
 have hst:=run_storeCells_at (P:=P) p off T cs 0 vs.toArray w hb (by simpa using hl) (by simpa using h1)
 simp only [Nat.add_zero] at hst
 refine sUnit S hw hd (w':=w.setRow p (over vs off cs).toArray) ?_ (S.mem.put hL (eBox p T (over vs off cs)) ⟨rfl,rfl,rfl,by simp [World.setRow],fun k _ hk=>setRow_other w p k _ (fun e=>hk (by simp [eBox,e]))⟩ (fun b hb=>.inl hb) (by simp [eBox]) ?_) (fun a=>k a _)
 ·simp [execOp,ho,he,hex,Instr.storeAt,Instr.sureAddr,storeVar,run_sizeOf' hm,hcs,hst,over]
 ·exact setRow_heap w p _ _ T _ hb
theorem row_slice {α:Type} {r:R α} {T:TypeId} {v:Value} {xs:List α} {E:Nat→Prop} {w:World} (h:(eRow r T v xs).p E w):∃ ad c,v=.slice ad xs.length c:=by
 obtain ⟨vs,_,_,_,ho⟩:=h
 rcases ho with ⟨ho,h0⟩ | ⟨g,cap,cur,hv,_⟩
 ·exact ⟨none,0,by rw [ho,h0]⟩
 ·exact ⟨_,_,hv⟩
theorem run_indexAt {t e:TypeId} {sz:Nat} (ht:P.underlying t=some (.slice e)) (hs:cellsB P e=some sz) {b off m c:Nat} {k:IntKind} {j:Int} (h0:0 ≤ j) (h1:j.toNat < m) (w:World) :
 (Instr.indexAt t (.slice (some ⟨b,off,none⟩) m c) (.int k j)).run P w=.ok (.pointer (some ⟨b,off + j.toNat * sz,none⟩)) w:=by
 have h2:j < (m:Int):=by omega
 simp [Instr.indexAt,run_underlying ht,asIntOf,h0,h2,run_sizeOf' hs,add_addr]
theorem rL_at {α:Type} {r:R α} {E:Nat→Prop} {w:World} {v:Value} {xs:List α} (h:(rL r).rep E w v xs) {j:Nat} {x:α} (hx:xs[j]?=some x) :
 ∃ b off c u,v=.slice (some ⟨b,off,none⟩) xs.length c∧¬ E b∧b < w.heap.size∧r.rep E w u x∧∀ i z,u.cells.toList[i]?=some z→w.cell? ⟨b,off + j * r.sz + i,none⟩=some z:=by
 obtain ⟨ad,c,vs,hv,_,_,ha,hcells⟩:=h
 have hj:j < vs.length:=by rw [ha.1]; exact (List.getElem?_eq_some_iff.1 hx).1
 have hu:vs[j]?=some vs[j]:=List.getElem?_eq_getElem hj
 have hrep:=ha.2 j _ x hu hx
 have hsz:=r.size hrep
 have hget:∀ i,i < r.sz→(flat vs)[j * r.sz + i]?=vs[j].cells.toList[i]?:=fun i hi=>flat_get (fun v hv=>(ha.cells v hv).1) hu hi
 have h0:=hcells (j * r.sz + 0) (vs[j].cells.toList[0]'(by rw [Array.length_toList,hsz]; exact r.pos)) (by rw [hget 0 r.pos]; exact List.getElem?_eq_getElem _)
 obtain ⟨b,off,rfl,hE,hb,_⟩:=h0
 refine ⟨b,off,c,vs[j],hv,hE,hb,hrep,fun i z hz=>?_⟩
 have hi:i < r.sz:=by rw [← hsz,← Array.length_toList]; exact (List.getElem?_eq_some_iff.1 hz).1
 obtain ⟨b',off',h1,_,_,h4⟩:=hcells (j * r.sz + i) z (by rw [hget i hi]; exact hz)
 cases h1
 rw [Nat.add_assoc]
 exact h4
theorem row_at {α:Type} {r:R α} {T:TypeId} {v:Value} {xs:List α} {E:Nat→Prop} {w:World} (h:(eRow r T v xs).p E w) {j:Nat} {x:α} (hx:xs[j]?=some x) :
 ∃ g c u,v=.slice (some ⟨g,0,none⟩) xs.length c∧r.rep E w u x∧∀ i z,u.cells.toList[i]?=some z→w.cell? ⟨g,j * r.sz + i,none⟩=some z:=by
 obtain ⟨vs,ha,_,hown⟩:=h
 have hlx:=(List.getElem?_eq_some_iff.1 hx).1
 have hj:j < vs.length:=by rw [ha.1]; exact hlx
 have hu:vs[j]?=some vs[j]:=List.getElem?_eq_getElem hj
 have hrep:=ha.2 j _ x hu hx
 have hsz:=r.size hrep
 rcases hown.2 with ⟨_,h0⟩ | ⟨g,cap,cur,rfl,_⟩
 ·omega
 ·refine ⟨g,cap,vs[j],rfl,hrep,fun i z hz=>?_⟩
  have hi:i < r.sz:=by rw [← hsz,← Array.length_toList]; exact (List.getElem?_eq_some_iff.1 hz).1
  have hlt:j * r.sz + i < xs.length * r.sz:=by
   have:(j + 1) * r.sz ≤ xs.length * r.sz:=Nat.mul_le_mul_right _ hlx
   rw [Nat.add_mul,Nat.one_mul] at this
   omega
  rw [hown.cellAt _ hlt,flat_get (fun v hv=>(ha.cells v hv).1) hu hi]
  exact hz
end
section
variable {P : Program} {dq : List Deferred} {E : Nat → Prop} {M : List Nat} {w0 : World} {n : Nat} {a : Act} {w : World} {F : List (Nat × Value)} {L : List Ent} {D : List Fact} {Q : Exit → Act → World → Prop}
variable {ops : Array Oper} {rest : List Oper} {o : Oper} {d : Nat}
theorem All.set {α:Type} {r:R α} {E:Nat→Prop} {w:World} {vs:List Value} {xs:List α} (a:All r E w vs xs) (j:Nat) {u:Value} {y:α} (h:r.rep E w u y):All r E w (vs.set j u) (xs.set j y):=by
 refine ⟨by simp [a.1],fun k v x hv hx=>?_⟩
 rw [List.getElem?_set] at hv hx
 split at hv
 ·rename_i e
  rw [if_pos e] at hx
  split at hv
  ·split at hx
   ·cases hv; cases hx; exact h
   ·cases hx
  ·cases hv
 ·rename_i e
  rw [if_neg e] at hx
  exact a.2 k v x hv hx
theorem over_get {l:List Value} {off:Nat} {cs:List Value} (h:off + cs.length ≤ l.length) (k:Nat):(over l off cs)[k]?=if off ≤ k∧k < off + cs.length then cs[k - off]? else l[k]?:=by
 have e1:(List.take off l).length=off:=by simp; omega
 unfold over
 rw [List.append_assoc]
 by_cases h1:k < off
 ·rw [List.getElem?_append_left (by omega),if_neg (by omega),List.getElem?_take,if_pos h1]
 ·rw [List.getElem?_append_right (by omega),e1]
  by_cases h2:k < off + cs.length
  ·rw [if_pos ⟨by omega,h2⟩,List.getElem?_append_left (by omega)]
  ·rw [if_neg (by omega),List.getElem?_append_right (by omega),List.getElem?_drop]
   congr 1
   omega
theorem over_length {l:List Value} {off:Nat} {cs:List Value} (h:off + cs.length ≤ l.length):(over l off cs).length=l.length:=by
 simp [over]; omega
theorem over_append (A B:List Value) (k:Nat) (cs:List Value):over (A ++ B) (A.length + k) cs=A ++ over B k cs:=by
 unfold over
 rw [List.take_length_add_append,Nat.add_assoc,List.drop_length_add_append]
 simp
theorem flat_set {sz:Nat} {vs:List Value} (h:∀ v,v ∈ vs→v.cells.size=sz) {j:Nat} (hj:j < vs.length) {u:Value} (hu:u.cells.size=sz):flat (vs.set j u)=over (flat vs) (j * sz) u.cells.toList:=by
 induction vs generalizing j with
 | nil=>simp at hj
 | cons v vs ih=>
  have h1:=h v (by simp)
  have h2:=fun v hv=>h v (List.mem_cons_of_mem _ hv)
  have hl:v.cells.toList.length=sz:=by simp [h1]
  cases j with
  | zero=>
   simp only [List.set_cons_zero,flat,List.map_cons,List.flatten_cons,over,Nat.zero_mul,List.take_zero,List.nil_append,Nat.zero_add,Array.length_toList,hu]
   rw [← hl,List.drop_left]
  | succ j=>
   have:=ih h2 (by simpa using hj)
   have e1:(j + 1) * sz=v.cells.toList.length + j * sz:=by rw [hl,Nat.add_mul,Nat.one_mul,Nat.add_comm]
   simp only [List.set_cons_succ,flat,List.map_cons,List.flatten_cons] at this ⊢
   rw [this,e1,over_append]
end
section
variable {P : Program} {dq : List Deferred} {E : Nat → Prop} {M : List Nat} {w0 : World} {n : Nat} {a : Act} {w : World} {F : List (Nat × Value)} {L : List Ent} {D : List Fact} {Q : Exit → Act → World → Prop}
variable {ops : Array Oper} {rest : List Oper} {o : Oper} {d : Nat}
def Src {α:Type} (r:R α) (E:Nat→Prop) (w:World) (s:Value) (ys:List α):Prop:=
 ∃ ad c us,s=.slice ad ys.length c∧All r E w us ys∧∀ k u,(flat us)[k]?=some u→∃ b off,ad=some ⟨b,off,none⟩∧w.cell? ⟨b,off + k,none⟩=some u
theorem src_R {α:Type} {r:R α} {T:TypeId} {s:Value} {ys:List α} (i:Nat) (S:St0 E M w0 w L D) (h:L[i]?=some (eRow r T s ys)):Src r (tot E L) w s ys:=by
 obtain ⟨us,ha,_,hown⟩:=S.at h
 rcases hown.2 with ⟨h1,h0⟩ | ⟨g,cap,cur,hv,hb,hg,hnc,hcm,hcs,htake⟩
 ·refine ⟨none,0,us,by rw [h1,h0],ha,fun k u hu=>?_⟩
  have:us=[]:=by have:=ha.1; rw [h0] at this; exact List.eq_nil_of_length_eq_zero this
  subst this
  simp [flat] at hu
 ·subst hv
  refine ⟨_,cap,us,rfl,ha,fun k u hu=>⟨g,0,rfl,?_⟩⟩
  have hk:k < ys.length * r.sz:=by
   have:=(List.getElem?_eq_some_iff.1 hu).1
   rw [flat_length (fun v hv=>(ha.cells v hv).1),ha.1] at this
   exact this
  rw [Nat.zero_add,hown.cellAt k hk]
  exact hu
theorem sApp {α:Type} {r:R α} {T t:TypeId} {xs ys zs:List α} {s x:Operand} {v u:Value} (i:Nat) (z:Value) (bytes:Nat) (S:St dq E M w0 n a w F L D)
 (hw:∀ a,Frm dq n a F→Region.wanted o (yielded ops a.tmps)=true) (ho:o.op=.call { callee:=.builtin .append,args:=#[s,x],argTypes:=#[t,t] })
 (ht:P.underlying t=some (.slice T)) (hinfo:(P.info? T).map (fun i=>(i.zero,i.size,i.bytes))=some (some z,r.sz,bytes)) (hz:z.cells.size=r.sz) (hby:bytes ≤ 2048)
 (hs:lookO F s=some v) (hx:lookO F x=some u) (hL:L[i]?=some (eRow r T v xs)) (hsrc:Src r (tot E L) w u ys) (hap:appO xs ys=some zs) (hd:o.dst=some d) (hn:d < n)
 (k:∀ a w ad c,St dq E M w0 n a w ((d,.slice ad zs.length c) :: F) (eRow r T (.slice ad zs.length c) zs :: L.eraseIdx i) D→wpList P ops Q rest a w):wpList P ops Q (o :: rest) a w:=by
 obtain ⟨hlim,rfl⟩:=appO_some hap
 obtain ⟨vs,ha,_,hown⟩:=S.mem.at hL
 obtain ⟨ad,c,us,rfl,hus,hcell⟩:=hsrc
 have hes:=S.frm.eval hs
 have hex:=S.frm.eval hx
 obtain ⟨ie,hi,hzi,hsize,hbytes⟩:=info_parts hinfo
 have hsmall:(xs.length + ys.length) * bytes ≤ 140737488355328:=Nat.le_trans (Nat.mul_le_mul hlim hby) (by decide)
 have hfl:(flat us).length=ys.length * r.sz:=by rw [flat_length (fun v hv=>(hus.cells v hv).1),hus.1]
 have hone:∀ c,c ∈ flat us→c.oneCell'=true:=flat_one (fun v hv=>(hus.cells v hv).2)
 have hmain:∃ v' w',(Builtin.append_ #[t,t] o.type #[v,.slice ad ys.length c]).run P w=.ok v' w'∧w'.ownsRow 0 T r.sz v' (xs.length + ys.length) (flat vs ++ flat us)∧w.grownBy w' v.ownBlock ∧
  (v'.ownBlock=v.ownBlock ∨ v'.ownBlock=some w.heap.size):=by
  cases ad with
  | some b=>
   obtain ⟨v',w',h1,h2,h3,_,h5⟩:=run_append_own_at (P:=P) w 0 t o.type T ie z r.sz bytes ht hi hzi hsize hbytes hz r.pos v xs.length (flat vs) hown b ys.length c (flat us) hfl (fun j u hu=>by
    obtain ⟨b',off,e1,h4⟩:=hcell j u hu
    cases e1
    rw [add_addr]; exact h4) hone (by unfold maxLen; omega) hsmall (Nat.zero_le _)
   exact ⟨v',w',h1,h2,h3,h5⟩
  | none=>
   have hm:ys.length=0:=by
    rcases Nat.eq_zero_or_pos ys.length with h | h
    ·exact h
    ·have:0 < (flat us).length:=by rw [hfl]; exact Nat.mul_pos h r.pos
     obtain ⟨b,off,e,_⟩:=hcell 0 _ (List.getElem?_eq_getElem this)
     cases e
   have hu0:flat us=[]:=List.eq_nil_of_length_eq_zero (by rw [hfl,hm,Nat.zero_mul])
   rw [hm,hu0]
   refine ⟨v,w,?_,by simpa using hown,World.grownBy.refl _ _,.inl rfl⟩
   rcases hown.2 with ⟨rfl,h0⟩ | ⟨g,cap,cur,rfl,hbg,hg,hnc,hcm,hcs,htake⟩
   ·simp [Builtin.append_,run_underlying ht,sizeOf,typeInfo,hi,Builtin.lenOf,Builtin.firstCells]
   ·simp [Builtin.append_,run_underlying ht,sizeOf,typeInfo,hi,Builtin.lenOf,Builtin.firstCells,hnc,storeCells]
 obtain ⟨v',w',hr,h2,h3,h4⟩:=hmain
 obtain ⟨ad',c',rfl⟩:∃ ad' c',v'=.slice ad' (xs ++ ys).length c':=by
  rcases h2.2 with ⟨rfl,h0⟩ | ⟨g,cap,cur,rfl,_⟩
  ·exact ⟨none,0,by rw [List.length_append,h0]⟩
  ·exact ⟨_,_,by rw [List.length_append]⟩
 have hvk:∀ k,v.ownBlock=some k→k ∈ (eRow r T v xs).keys:=by
  intro k hk
  cases v <;> simp [Value.ownBlock] at hk
  rename_i a1 _ _
  cases a1 with
  | none=>simp at hk
  | some a1=>simp at hk; simp [eRow,vkeys,hk]
 have hchg:Chg (eRow r T v xs).keys w w':=Chg.grown h3 hvk
 have hkeys:∀ b,b ∈ (eRow r T (.slice ad' (xs ++ ys).length c') (xs ++ ys)).keys→b ∈ (eRow r T v xs).keys ∨ w.heap.size ≤ b:=by
  intro b hb
  cases ad' with
  | none=>simp [eRow,vkeys] at hb
  | some a1=>
   simp [eRow,vkeys] at hb
   subst hb
   rcases h4 with h4 | h4
   ·exact .inl (hvk _ (by rw [← h4]; rfl))
   ·simp [Value.ownBlock] at h4; exact .inr (by omega)
 have hext:Ext (tot E L) (tot E (eRow r T (.slice ad' (xs ++ ys).length c') (xs ++ ys) :: L.eraseIdx i)) w w':=by
  refine ⟨hchg.size,fun b hb hn _=>hchg.block b hb (fun e=>hn (.inr (keysL_mem.2 ⟨_,List.mem_of_getElem? hL,e⟩))),fun b hb h=>?_⟩
  rcases h with h | h
  ·exact .inl h
  ·obtain ⟨e,h5,h6⟩:=keysL_mem.1 h
   rcases List.mem_cons.1 h5 with rfl | h5
   ·rcases hkeys b h6 with h7 | h7
    ·exact .inr (keysL_mem.2 ⟨_,List.mem_of_getElem? hL,h7⟩)
    ·omega
   ·exact .inr (keysL_mem.2 ⟨e,List.mem_of_mem_eraseIdx h5,h6⟩)
 refine sVal S hw hd hn (w':=w') (v:=.slice ad' (xs ++ ys).length c') ?_ (S.mem.put hL (eRow r T (.slice ad' (xs ++ ys).length c') (xs ++ ys)) hchg hkeys (by cases ad' <;> simp [eRow,vkeys]) ?_) (fun a=>k a _ ad' c')
 ·unfold execOp
  simp only [ho,resolve,invoke,builtin,Sem.run_bind,Sem.run_pure,Result.andThen_ok,List.map_toArray,List.map_cons,List.map_nil,hes,hex,hr]
 ·refine ⟨vs ++ us,(ha.mono hext).append (hus.mono hext),by rw [List.length_append]; exact hlim,?_⟩
  rw [flat_append,List.length_append]
  rw [List.length_append] at h2
  exact h2
theorem St.nilRow {α:Type} (r:R α) (T:TypeId) (S:St dq E M w0 n a w F L D):St dq E M w0 n a w F (eRow r T (.slice none 0 0) ([]:List α) :: L) D:=by
 have hk:keysL (eRow r T (.slice none 0 0) ([]:List α) :: L)=keysL L:=by simp [keysL,eRow,vkeys]
 have hE:tot E (eRow r T (.slice none 0 0) ([]:List α) :: L)=tot E L:=by unfold tot; rw [hk]
 refine ⟨S.frm,S.mem.chg,fun e he=>?_,fun x hx=>by rw [hE]; exact S.mem.fact x hx,by rw [hk]; exact S.mem.nodup,by rw [hk]; exact S.mem.key,S.mem.bnd⟩
 rcases List.mem_cons.1 he with rfl | he
 ·exact ⟨[],All.nil _ _ _,by simp,World.ownsRow_nil w 0 T r.sz⟩
 ·rw [hE]; exact S.mem.ent e he
theorem St0.shutR {α:Type} {r:R α} {T:TypeId} {v:Value} {xs:List α} (i:Nat) (S:St0 E M w0 w L D) (hi:L[i]?=some (eRow r T v xs)):St0 E M w0 w (L.eraseIdx i) (fRep (rL r) v xs :: D):=by
 have hperm:=erase_perm hi
 have hn:=keysL_perm hperm S.nodup
 have S1:=S.sub (L':=L.eraseIdx i) (D':=D) (fun e he=>List.mem_of_mem_eraseIdx he) (nodup_sub (List.eraseIdx_sublist _ _) S.nodup) (fun _ h=>h)
 obtain ⟨us,ha,hl,hown⟩:=S.at hi
 have hext:Ext (tot E L) (tot E (L.eraseIdx i)) w w:=⟨Nat.le_refl _,fun _ _ _ _=>rfl,fun b _ h=>h.imp id (fun h=>by
  obtain ⟨e,h1,h2⟩:=keysL_mem.1 h
  exact keysL_mem.2 ⟨e,List.mem_of_mem_eraseIdx h1,h2⟩)⟩
 refine S1.learn _ ?_
 obtain ⟨ad,c,us',hs,ha',hc⟩:=src_R i S hi
 rcases hown.2 with ⟨h1,h0⟩ | ⟨g,cap,cur,hv,hb,hg,hnc,hcm,hcs,htake⟩
 ·refine ⟨ad,c,us',hs,?_,by omega,ha'.mono hext,fun k u hu=>?_⟩
  ·rw [h0]; exact Nat.zero_le _
  ·obtain ⟨b,off,e1,_⟩:=hc k u hu
   rw [h1,e1] at hs
   cases hs
 ·refine ⟨ad,c,us',hs,?_,by omega,ha'.mono hext,fun k u hu=>?_⟩
  ·rw [hv] at hs; cases hs; exact hnc
  ·obtain ⟨b,off,e1,h4⟩:=hc k u hu
   rw [hv,e1] at hs
   cases hs
   refine ⟨g,0,e1,?_,(Array.getElem?_eq_some_iff.1 hg).1,h4⟩
   have hmem:g ∈ (eRow r T v xs).keys:=by simp [eRow,vkeys,hv]
   intro h
   rcases h with h | h
   ·exact (S.key g (keysL_mem.2 ⟨_,List.mem_of_getElem? hi,hmem⟩)).2 h
   ·simp only [keysL,List.map_cons,List.flatten_cons,List.nodup_append] at hn
    exact hn.2.2 g hmem g h rfl
theorem St.shutR {α:Type} {r:R α} {T:TypeId} {v:Value} {xs:List α} (i:Nat) (S:St dq E M w0 n a w F L D) (hi:L[i]?=some (eRow r T v xs)):St dq E M w0 n a w F (L.eraseIdx i) (fRep (rL r) v xs :: D):=⟨S.frm,S.mem.shutR i hi⟩
theorem flat_made {z:Value} {s:Nat} (hs:z.cells.size=s) (q:Nat):flat (List.replicate q z)=(madeCells z.cells (q * s)).toList:=by
 have h0:(List.range s).map (fun k=>z.cells[k % z.cells.size]!)=z.cells.toList:=by
  subst hs
  refine List.ext_getElem (by simp) fun k h1 h2=>?_
  have hk:k < z.cells.size:=by simpa using h1
  simp [Nat.mod_eq_of_lt hk,hk]
 induction q with
 | zero=>simp [flat,madeCells]
 | succ q ih=>
  have e:(madeCells z.cells ((q + 1) * s)).toList=z.cells.toList ++ (madeCells z.cells (q * s)).toList:=by
   simp only [madeCells,Array.toList_map,Array.toList_range]
   rw [show (q + 1) * s=s + q * s by rw [Nat.add_mul]; omega,List.range_add,List.map_append,h0,List.map_map]
   congr 1
   apply List.map_congr_left
   intro k _
   simp [← hs]
  rw [e,← ih]
  simp [flat,List.replicate_succ]
theorem sMakeG {α:Type} {r:R α} {T t:TypeId} {l c:Operand} {xs:List α} {m:Int} (z:Value) (zx:α) (bytes:Nat) (S:St dq E M w0 n a w F L D)
 (hw:∀ a,Frm dq n a F→Region.wanted o (yielded ops a.tmps)=true) (ho:o.op=.makeSlice t l c) (ht:P.underlying t=some (.slice T)) (hinfo:(P.info? T).map (fun i=>(i.zero,i.size,i.bytes))=some (some z,r.sz,bytes)) (hby:bytes ≤ 2048) (hzx:∀ E w,r.rep E w z zx)
 (hl:lookO F l=some (.int .i64 m)) (hc:lookO F c=some (.int .i64 m)) (hm:makeO m zx=some xs) (hd:o.dst=some d) (hn:d < n)
 (k:∀ a w ad c,St dq E M w0 n a w ((d,.slice ad xs.length c) :: F) (eRow r T (.slice ad xs.length c) xs :: L) D→wpList P ops Q rest a w):wpList P ops Q (o :: rest) a w:=by
 obtain ⟨q,rfl,hq,rfl⟩:=makeO_some hm
 have hel:=S.frm.eval hl
 have hec:=S.frm.eval hc
 obtain ⟨ie,hi,hzi,hsize,hbytes⟩:=info_parts hinfo
 obtain ⟨w',hr,h2,h3⟩:=run_make_full (P:=P) w 0 t T ie z r.sz ht hi hzi hsize .i64 .i64 q (by rw [hbytes]; exact Nat.le_trans (Nat.mul_le_mul hby hq) (by decide)) (by unfold maxLen; omega) (Nat.zero_le _)
 have hfl:flat (List.replicate q z)=(madeCells z.cells (q * r.sz)).toList:=flat_made (r.size (hzx (fun _=>False) w)) q
 rw [← hfl] at h2
 have hAll:∀ E w,All r E w (List.replicate q z) (List.replicate q zx):=fun E w=>⟨by simp,fun k v x hv hx=>by
  rw [List.getElem?_replicate] at hv hx
  split at hv
  ·rename_i hk
   rw [if_pos hk] at hx
   cases hv; cases hx; exact hzx E w
  ·cases hv⟩
 have hgr:Chg [] w w':=Chg.grown h3 (by simp)
 have hsz:w'.heap.size > w.heap.size:=by
  rcases h2.2 with ⟨h,_⟩ | ⟨g,cap,cur,h,_,hg,_⟩
  ·cases h
  ·cases h; exact (Array.getElem?_eq_some_iff.1 hg).1
 have hE:tot (tot E L) [eRow r T (.slice (some ⟨w.heap.size,0,none⟩) q q) (List.replicate q zx)]=tot E (eRow r T (.slice (some ⟨w.heap.size,0,none⟩) q q) (List.replicate q zx) :: L):=by
  funext b
  simp only [tot,keysL,List.map_cons,List.flatten_cons,List.map_nil,List.flatten_nil,List.append_nil,List.mem_append]
  exact propext ⟨fun h=>by rcases h with (h | h) | h; exact .inl h; exact .inr (.inr h); exact .inr (.inl h),fun h=>by rcases h with h | h | h; exact .inl (.inl h); exact .inr h; exact .inl (.inr h)⟩
 have S':St0 E M w0 w' (eRow r T (.slice (some ⟨w.heap.size,0,none⟩) q q) (List.replicate q zx) :: L) D:=by
  have:=St0.upd (B:=[]) (Rs:=L) S.mem (by simpa [keysL] using hgr) [eRow r T (.slice (some ⟨w.heap.size,0,none⟩) q q) (List.replicate q zx)] [] ⟨by simpa [keysL] using hgr,by
   intro e he
   simp at he; subst he
   exact ⟨List.replicate q z,hAll _ _,by simpa using hq,by simpa using h2⟩,by simp,by simp [keysL,eRow,vkeys],by
    intro b hb
    simp [keysL,eRow,vkeys] at hb
    subst hb
    refine ⟨.inl (Nat.le_refl _),fun h=>?_⟩
    rcases h with h | h
    ·exact absurd (S.mem.bnd _ h) (by have:=S.mem.chg.size; omega)
    ·exact absurd (S.mem.lt _ h) (by omega),by
    intro b hb
    rcases hb with h | h
    ·exact Nat.lt_of_lt_of_le (S.mem.bnd b h) S.mem.chg.size
    ·exact S.mem.lt b h⟩
  simpa using this
 refine sVal S hw hd hn (w':=w') (v:=.slice (some ⟨w.heap.size,0,none⟩) q q) ?_ S' (fun a Sa=>k a w' (some ⟨w.heap.size,0,none⟩) q (by simpa using Sa))
 simp only [execOp,ho,hel,hec,Sem.run_bind,hr,Result.andThen_ok,Sem.run_pure]
theorem sMake {α:Type} {r:R α} {T t:TypeId} {l c:Operand} {xs:List α} {m:Int} (z:Value) (zx:α) (bytes:Nat) (S:St dq E M w0 n a w F L D)
 (hw:∀ a,Frm dq n a F→Region.wanted o (yielded ops a.tmps)=true) (ho:o.op=.makeSlice t l c) (ht:P.underlying t=some (.slice T)) (hinfo:(P.info? T).map (fun i=>(i.zero,i.size,i.bytes))=some (some z,r.sz,bytes)) (hz:z.cells=#[z]) (hby:bytes ≤ 2048) (hzx:∀ E w,r.rep E w z zx)
 (hl:lookO F l=some (.int .i64 m)) (hc:lookO F c=some (.int .i64 m)) (hm:makeO m zx=some xs) (hd:o.dst=some d) (hn:d < n)
 (k:∀ a w ad c,St dq E M w0 n a w ((d,.slice ad xs.length c) :: F) (eRow r T (.slice ad xs.length c) xs :: L) D→wpList P ops Q rest a w):wpList P ops Q (o :: rest) a w:=
 sMakeG z zx bytes S hw ho ht hinfo hby hzx hl hc hm hd hn k
theorem sNewRow {α:Type} {r:R α} {T:TypeId} {xs:List α} (m:Nat) (us:List Value) (cs:List Value) (S:St dq E M w0 n a w F L D)
 (hw:∀ a,Frm dq n a F→Region.wanted o (yielded ops a.tmps)=true) (hrun:∀ (a:Act),Frm dq n a F→(execOp a.eval o).run P w=.ok (.value (.slice (some ⟨w.heap.size,0,none⟩) m m)) (w.alloc (.cells cs.toArray T)))
 (hxs:xs.length=m) (hus:∀ E' w',Ext (tot E L) E' w w'→All r E' w' us xs) (hcs:flat us=cs) (hm:m ≤ 68719476736) (hd:o.dst=some d) (hn:d < n)
 (k:∀ a w ad c,St dq E M w0 n a w ((d,.slice ad xs.length c) :: F) (eRow r T (.slice ad xs.length c) xs :: L) D→wpList P ops Q rest a w):wpList P ops Q (o :: rest) a w:=by
 subst hxs
 have hext:Ext (tot E L) (tot E (eRow r T (.slice (some ⟨w.heap.size,0,none⟩) xs.length xs.length) xs :: L)) w (w.alloc (.cells cs.toArray T)):=by
  refine ⟨by simp,fun b hb _ _=>heap_alloc_old w _ hb,fun b hb h=>?_⟩
  rcases h with h | h
  ·exact .inl h
  ·refine .inr ?_
   simp only [keysL,List.map_cons,List.flatten_cons,eRow,vkeys,List.mem_append,List.mem_singleton] at h
   rcases h with h | h
   ·omega
   ·exact h
 have hA:=hus _ _ hext
 refine sVal S hw hd hn (hrun a S.frm) (S.mem.new _ (eRow r T (.slice (some ⟨w.heap.size,0,none⟩) xs.length xs.length) xs) rfl ?_) (fun a=>k a _ _ _)
 refine ⟨us,hA,hm,?_⟩
 have hfl:=flat_length (fun v hv=>(hA.cells v hv).1)
 rw [hA.1] at hfl
 rw [hcs] at hfl ⊢
 have:=World.ownsRow_lit (base:=0) (e:=T) (size:=r.sz) w cs.toArray xs.length (Nat.zero_le _) (by unfold maxLen; omega) (by simpa using hfl)
 simpa using this
end
section
variable {P : Program} {dq : List Deferred} {E : Nat → Prop} {M : List Nat} {w0 : World} {n : Nat} {a : Act} {w : World} {F : List (Nat × Value)} {L : List Ent} {D : List Fact} {Q : Exit → Act → World → Prop}
variable {ops : Array Oper} {rest : List Oper} {o : Oper} {d : Nat}
def Ret {X:Type} (E:Nat→Prop) (M:List Nat) (w0:World) (val:X→Value) (B:X→List Ent) (D:X→List Fact) (e:Ending) (w:World):Prop:=
 ∃ x,e=.returned (val x)∧St0 E M w0 w (B x) (D x)
theorem callee {f : FuncId} {fn : Func} (hf : P.funcs[f]? = some fn) (h1 : (fn.name == "runtime.NumGoroutine") = false) (h2 : fn.body.isNone = false) (vs : Array Value) (w : World) : (callFunc f vs).run P w = .ok (.enter f vs) w := by
 have h1' : ¬ fn.name = "runtime.NumGoroutine" := by simpa using h1
 have h2':¬ fn.body=none:=fun e=>by rw [e] at h2; cases h2
 simp [callFunc,hf,h1',h2']
theorem lookO_map {args:List Operand} {vs:List Value} (hf:Frm dq n a F) (h:args.map (lookO F)=vs.map some):args.map a.eval=vs:=by
 induction args generalizing vs with
 | nil=>cases vs with | nil=>rfl | cons _ _=>simp at h
 | cons x args ih=>
  cases vs with
  | nil=>simp at h
  | cons v vs=>
   simp only [List.map_cons,List.cons.injEq] at h ⊢
   exact ⟨hf.eval h.1,ih h.2⟩
theorem wp_call {f:FuncId} {args:List Operand} {ts:Array TypeId} {vs:List Value} {X:Type} {E':Nat→Prop} {M':List Nat} {val:X→Value} {B':X→List Ent} {D':X→List Fact} {K:Act→World→Prop} (ho:o.op=.call { callee:=.value (.func f),args:=args.toArray,argTypes:=ts })
 (hcallee:∀ vs w,(callFunc f vs).run P w=.ok (.enter f vs) w) (hvs:args.map a.eval=vs) (hc:Calls P f vs.toArray w (Ret E' M' w val B' D')) (k:∀ x w',St0 E' M' w w' (B' x) (D' x)→K (a.put o.dst (val x)) w'):o.wp P a w K Q:=by
 subst hvs
 unfold Oper.wp
 have hrun:(execOp a.eval o).run P w=.ok (.enter f (args.map a.eval).toArray) w:=by
  have he:a.eval (.func f)=.func (.func f) #[] #[]:=rfl
  unfold execOp
  simp only [ho,resolve,he,Deferred.ofValue,Sem.run_bind,Sem.run_pure,Result.andThen_ok,invoke]
  simp [hcallee]
 rw [hrun]
 exact hc.mono fun e w' hr=>by
  obtain ⟨x,rfl,hs⟩:=hr
  exact k x w' hs
theorem sCall {X:Type} {f:FuncId} {args:List Operand} {ts:Array TypeId} {vs:List Value} {val:X→Value} {B':X→List Ent} {D':X→List Fact} (B Rs:List Ent) (Dc:List Fact) (is js:List Nat) (S:St dq E M w0 n a w F L D)
 (hw:∀ a,Frm dq n a F→Region.wanted o (yielded ops a.tmps)=true) (ho:o.op=.call { callee:=.value (.func f),args:=args.toArray,argTypes:=ts })
 (hcallee:∀ vs w,(callFunc f vs).run P w=.ok (.enter f vs) w) (hvs:args.map (lookO F)=vs.map some)
 (hnd:is.Nodup) (hL:is.map (fun i=>L[i]?)=(B ++ Rs).map some) (hDc:js.map (fun i=>D[i]?)=Dc.map some)
 (hc:∀ (E':Nat→Prop) w,St0 E' (keysL B) w w B Dc→Calls P f vs.toArray w (Ret E' (keysL B) w val B' D')) (hd:o.dst=some d) (hn:d < n)
 (k:∀ x a w',St dq E M w0 n a w' ((d,val x) :: F) (B' x ++ Rs) (D' x ++ D)→wpList P ops Q rest a w'):wpList P ops Q (o :: rest) a w:=by
 refine wpList_step fun K hK=>?_
 rw [if_pos (hw a S.frm)]
 have S1:St0 E M w0 w (B ++ Rs) D:=S.mem.sub (getList_mem hL) (getList_perm hnd hL S.mem.nodup) (fun _ h=>h)
 have S2:=S1.enter (D:=Dc) (getList_mem hDc)
 refine wp_call ho hcallee (lookO_map S.frm hvs) (hc _ w S2) fun x w' hs=>?_
 rw [hd]
 exact hK _ _ (k x _ w' ⟨S.frm.put hn _,S1.upd hs.chg (B' x) (D' x) hs⟩)
theorem St0.quiet {Dc:List Fact} (S:St0 E M w0 w L D) (js:List Nat) (hDc:js.map (fun i=>D[i]?)=Dc.map some):∃ E1,St0 E1 [] w w [] Dc:=
 ⟨tot E L,by have:=S.enter (B:=[]) (Rs:=L) (D:=Dc) (by simpa using getList_mem hDc); simpa [keysL] using this⟩
theorem St0.calm {w':World} (S:St0 E M w0 w L D) (h:Chg [] w w'):St0 E M w0 w' L D:=by
 have:=St0.upd (B:=[]) (Rs:=L) S (by simpa [keysL] using h) [] [] ⟨by simpa [keysL] using h,by simp,by simp,by simp [keysL],by simp [keysL],by
  intro b hb
  rcases hb with h | h
  ·exact Nat.lt_of_lt_of_le (S.bnd b h) S.chg.size
  ·exact S.lt b h⟩
 simpa using this
theorem sCallQ {X:Type} {f:FuncId} {args:List Operand} {ts:Array TypeId} {vs:List Value} {val:X→Value} {Dc:List Fact} (S:St dq E M w0 n a w F L D)
 (hw:∀ a,Frm dq n a F→Region.wanted o (yielded ops a.tmps)=true) (ho:o.op=.call { callee:=.value (.func f),args:=args.toArray,argTypes:=ts })
 (hcallee:∀ vs w,(callFunc f vs).run P w=.ok (.enter f vs) w) (hvs:args.map (lookO F)=vs.map some) (hpre:∃ E1,St0 E1 [] w w [] Dc)
 (hc:∀ (E':Nat→Prop) w,St0 E' [] w w [] Dc→Calls P f vs.toArray w (Ret E' [] w val (fun _=>[]) (fun _=>[]))) (hd:o.dst=some d) (hn:d < n)
 (k:∀ x a w',St dq E M w0 n a w' ((d,val x) :: F) L D→wpList P ops Q rest a w'):wpList P ops Q (o :: rest) a w:=by
 refine wpList_step fun K hK=>?_
 rw [if_pos (hw a S.frm)]
 obtain ⟨E1,h1⟩:=hpre
 refine wp_call ho hcallee (lookO_map S.frm hvs) (hc _ w h1) fun x w' hs=>?_
 rw [hd]
 exact hK _ _ (k x _ w' ⟨S.frm.put hn _,S.mem.calm hs.chg⟩)
theorem sBuild {t:TypeId} {parts:List (Nat × Operand)} (vs:List (Nat × Value)) (cs:List Value) (S:St dq E M w0 n a w F L D)
 (hw:∀ a,Frm dq n a F→Region.wanted o (yielded ops a.tmps)=true) (ho:o.op=.build t parts.toArray) (hvs:parts.map (fun q=>(q.1,lookO F q.2))=vs.map (fun q=>(q.1,some q.2))) (hb:P.built t vs=some cs.toArray) (hd:o.dst=some d) (hn:d < n)
 (k:∀ a,St dq E M w0 n a w ((d,.agg cs.toArray) :: F) L D→wpList P ops Q rest a w):wpList P ops Q (o :: rest) a w:=by
 have hev:parts.map (fun q=>(q.1,a.eval q.2))=vs:=by
  clear hb ho
  induction parts generalizing vs with
  | nil=>cases vs with | nil=>rfl | cons _ _=>simp at hvs
  | cons x parts ih=>
   cases vs with
   | nil=>simp at hvs
   | cons v vs=>
    simp only [List.map_cons,List.cons.injEq,Prod.mk.injEq] at hvs ⊢
    refine ⟨?_,ih vs hvs.2⟩
    rw [hvs.1.1,S.frm.eval hvs.1.2]
 have hrun:=run_build (P:=P) w t vs.toArray cs.toArray (by simpa using hb)
 refine sVal S hw hd hn ?_ S.mem k
 unfold execOp
 simp only [ho,List.map_toArray,hev,Sem.run_bind,hrun,Result.andThen_ok,Sem.run_pure]
theorem sLit {α:Type} {r:R α} {T t:TypeId} {xs:List α} {parts:List (Nat × Operand)} (vs:List (Nat × Value)) (m:Nat) (us:List Value) (cs:List Value) (z:Value) (bytes:Nat) (S:St dq E M w0 n a w F L D)
 (hw:∀ a,Frm dq n a F→Region.wanted o (yielded ops a.tmps)=true) (ho:o.op=.buildSlice t m parts.toArray) (hvs:parts.map (fun q=>(q.1,lookO F q.2))=vs.map (fun q=>(q.1,some q.2))) (ht:P.underlying t=some (.slice T)) (hinfo:(P.info? T).map (fun i=>(i.zero,i.size,i.bytes))=some (some z,r.sz,bytes))
 (hsmall:m * r.sz ≤ 16777216) (hpos:0 < m) (hfill:Instr.fill (fun i=>some (i * r.sz,r.sz)) ((Array.range (m * r.sz)).map (z.cells[· % z.cells.size]!)) vs=some cs.toArray)
 (hxs:xs.length=m) (hus:∀ E' w',Ext (tot E L) E' w w'→All r E' w' us xs) (hcs:flat us=cs) (hd:o.dst=some d) (hn:d < n)
 (k:∀ a w ad c,St dq E M w0 n a w ((d,.slice ad xs.length c) :: F) (eRow r T (.slice ad xs.length c) xs :: L) D→wpList P ops Q rest a w):wpList P ops Q (o :: rest) a w:=by
 obtain ⟨ie,hi,hzi,hsize,hbytes⟩:=info_parts hinfo
 refine sNewRow m us cs S hw (fun a hF=>?_) hxs hus hcs (Nat.le_trans (Nat.le_mul_of_pos_right m r.pos) (Nat.le_trans hsmall (by decide))) hd hn k
 have hev:parts.map (fun q=>(q.1,a.eval q.2))=vs:=by
  clear hfill ho
  induction parts generalizing vs with
  | nil=>cases vs with | nil=>rfl | cons _ _=>simp at hvs
  | cons x parts ih=>
   cases vs with
   | nil=>simp at hvs
   | cons v vs=>
    simp only [List.map_cons,List.cons.injEq,Prod.mk.injEq] at hvs ⊢
    refine ⟨?_,ih vs hvs.2⟩
    rw [hvs.1.1,hF.eval hvs.1.2]
 have hrun:=run_buildSlice (P:=P) w t T m vs.toArray cs.toArray ie z ht hi hzi (by rw [hsize]; omega) (by rw [hsize]; exact Nat.pos_iff_ne_zero.1 (Nat.mul_pos hpos r.pos)) (by rw [hsize]; simpa using hfill)
 unfold execOp
 simp only [ho,List.map_toArray,hev,Sem.run_bind,hrun,Result.andThen_ok,Sem.run_pure]
theorem sLit0 {α:Type} (r:R α) {T t:TypeId} (S:St dq E M w0 n a w F L D)
 (hw:∀ a,Frm dq n a F→Region.wanted o (yielded ops a.tmps)=true) (ho:o.op=.buildSlice t 0 #[]) (ht:P.underlying t=some (.slice T)) (hm:cellsB P T=some r.sz) (hd:o.dst=some d) (hn:d < n)
 (k:∀ a w ad c,St dq E M w0 n a w ((d,.slice ad 0 c) :: F) (eRow r T (.slice ad 0 c) ([]:List α) :: L) D→wpList P ops Q rest a w):wpList P ops Q (o :: rest) a w:=by
 refine sNewRow (r:=r) (xs:=[]) (T:=T) 0 [] [] S hw (fun a hF=>?_) rfl (fun _ _ _=>All.nil _ _ _) rfl (by omega) hd hn k
 unfold execOp
 have h0:Array.range 0=#[]:=rfl
 simp [ho,Instr.buildSlice,run_underlying ht,run_sizeOf' hm,Instr.fill,newRow,h0]
theorem run_sliceAt {t e:TypeId} {sz:Nat} (ht:P.underlying t=some (.slice e)) (hs:cellsB P e=some sz) (ad:Option Addr) (m c l k:Nat) (lo hi:Option Value) (hlo:lo=some (.int .i64 (l:Int)) ∨ lo=none∧l=0) (hhi:hi=some (.int .i64 (k:Int)) ∨ hi=none∧k=m) (h1:l ≤ k) (h2:k ≤ m) (h3:m ≤ c) (w:World) :
 (Instr.sliceAt t (.slice ad m c) lo hi none).run P w=.ok (.slice (if c=l then ad else ad.map (·.add (l * sz))) (k - l) (c - l)) w:=by
 have hk:k ≤ c:=by omega
 have hl:l ≤ m:=by omega
 have hlc:l ≤ c:=by omega
 rcases hlo with rfl | ⟨rfl,rfl⟩ <;> rcases hhi with rfl | ⟨rfl,rfl⟩ <;>
  simp [Instr.sliceAt,run_underlying ht,Instr.slice,Instr.sliceBounds,Instr.sliceBound,asIntOf,run_sizeOf' hs, *]
theorem sSlice {α:Type} {r:R α} {t e:TypeId} {x:Operand} {lo hi:Option Operand} {v:Value} {xs ys:List α} {vlo vhi:Option Value} {lo' hi':Int} (i:Nat) (S:St dq E M w0 n a w F L D)
 (hw:∀ a,Frm dq n a F→Region.wanted o (yielded ops a.tmps)=true) (ho:o.op=.slice t x lo hi none) (ht:P.underlying t=some (.slice e)) (hs:cellsB P e=some r.sz) (hx:lookO F x=some v) (hD:D[i]?=some (fRep (rL r) v xs))
 (hlo:lo.map (lookO F)=vlo.map some) (hhi:hi.map (lookO F)=vhi.map some) (hl:vlo=some (.int .i64 lo') ∨ vlo=none∧lo'=0) (hh:vhi=some (.int .i64 hi') ∨ vhi=none∧hi'=(xs.length:Int)) (hsl:sliceO xs lo' hi'=some ys) (hd:o.dst=some d) (hn:d < n)
 (k:∀ a ad c,St dq E M w0 n a w ((d,.slice ad ys.length c) :: F) L (fRep (rL r) (.slice ad ys.length c) ys :: D)→wpList P ops Q rest a w):wpList P ops Q (o :: rest) a w:=by
 obtain ⟨l,q,rfl,rfl,h1,h2,rfl⟩:=sliceO_some hsl
 obtain ⟨ad,c,vs,rfl,hc,hm,ha,hcell⟩:=S.mem.know hD
 have hex:=S.frm.eval hx
 have elo:lo.map a.eval=vlo:=by
  cases lo with
  | none=>cases vlo with | none=>rfl | some _=>simp at hlo
  | some y=>cases vlo with | none=>simp at hlo | some u=>simp at hlo; simp [S.frm.eval hlo]
 have ehi:hi.map a.eval=vhi:=by
  cases hi with
  | none=>cases vhi with | none=>rfl | some _=>simp at hhi
  | some y=>cases vhi with | none=>simp at hhi | some u=>simp at hhi; simp [S.frm.eval hhi]
 have hrun:=run_sliceAt (P:=P) ht hs ad xs.length c l q vlo vhi (by rcases hl with h | ⟨h,h'⟩; exact .inl h; exact .inr ⟨h,by omega⟩) (by rcases hh with h | ⟨h,h'⟩; exact .inl h; exact .inr ⟨h,by omega⟩) h1 h2 hc w
 have hlen:((xs.take q).drop l).length=q - l:=by simp; omega
 rw [← hlen] at hrun
 refine sVal S hw hd hn (w':=w) ?_ (S.mem.learn (fRep (rL r) (.slice (if c=l then ad else ad.map (·.add (l * r.sz))) ((xs.take q).drop l).length (c - l)) ((xs.take q).drop l)) ?_) (fun a=>k a _ _)
 ·unfold execOp
  simp only [ho,hex,elo,ehi,Option.map_none,Sem.run_bind,hrun,Result.andThen_ok,Sem.run_pure]
 ·have hA:All r (tot E L) w ((vs.take q).drop l) ((xs.take q).drop l):=by
   refine ⟨by simp [ha.1],fun j v x hv hx2=>?_⟩
   rw [List.getElem?_drop,List.getElem?_take] at hv hx2
   split at hv
   ·rename_i hj; rw [if_pos hj] at hx2; exact ha.2 _ v x hv hx2
   ·cases hv
  refine ⟨_,_,(vs.take q).drop l,rfl,by rw [hlen]; omega,by rw [hlen]; omega,hA,fun j u hu=>?_⟩
  have hsz:=fun v hv=>(ha.cells v hv).1
  have hlt:=(List.getElem?_eq_some_iff.1 hu).1
  have hfl:=flat_length (fun v hv=>(hA.cells v hv).1)
  rw [hfl] at hlt
  have hjl:((vs.take q).drop l).length=q - l:=by rw [hA.1,hlen]
  rw [hjl] at hlt
  have hjq:0 < q - l:=by
   rcases Nat.eq_zero_or_pos (q - l) with h | h
   ·rw [h] at hlt; simp at hlt
   ·exact h
  have hcl:¬ c=l:=by omega
  rw [if_neg hcl]
  -- the cell in the whole row
  have hu2:(flat vs)[l * r.sz + j]?=some u:=by
   have e1:vs=(vs.take l) ++ ((vs.take q).drop l) ++ vs.drop q:=by
    have:vs.take l=(vs.take q).take l:=by rw [List.take_take]; congr 1; omega
    rw [this,List.take_append_drop,List.take_append_drop]
   rw [e1,flat_append,flat_append,List.append_assoc,List.getElem?_append_right (by rw [flat_length (fun v hv=>hsz v (List.mem_of_mem_take hv)),List.length_take]; exact Nat.le_trans (Nat.mul_le_mul_right _ (Nat.min_le_left _ _)) (Nat.le_add_right _ _))]
   rw [flat_length (fun v hv=>hsz v (List.mem_of_mem_take hv)),List.length_take,Nat.min_eq_left (by rw [ha.1]; omega),Nat.add_sub_cancel_left]
   rw [List.getElem?_append_left (by rw [hfl,hjl]; exact hlt)]
   exact hu
  obtain ⟨b,off,rfl,h3,h4,h5⟩:=hcell _ _ hu2
  refine ⟨b,off + l * r.sz,by simp [add_addr],h3,h4,by rw [Nat.add_assoc]; exact h5⟩
def rvRun (tmps:Array Value):ResultVar→Sem Value
 | .tmp t=>pure (tmps.getD t undef)
 | .cell c t=>do loadVar t (← asAddr (tmps.getD c undef))
theorem rvT {t:Nat} {v:Value} (S:St dq E M w0 n a w F L D) (h:look F t=some v):(rvRun a.tmps (.tmp t)).run P w=.ok v w:=by
 simp [rvRun,Array.getD_eq_getD_getElem?,S.frm.get _ _ h]
theorem rvN {c:Nat} {t T:TypeId} {p:Nat} (i:Nat) (cs:List Value) (S:St dq E M w0 n a w F L D) (h:look F c=some (.pointer (some ⟨p,0,none⟩))) (ht:aggB P t=some true) (hL:L[i]?=some (eBox p T cs)) (hm:cellsB P t=some cs.length):(rvRun a.tmps (.cell c t)).run P w=.ok (.agg cs.toArray) w:=by
 have hb:w.heap[p]?=some (.cells cs.toArray T (0,0)):=S.mem.at hL
 have hc:∀ j u,cs[j]?=some u→w.cell? ⟨p,0 + j,none⟩=some u:=by
  intro j u hu
  simp [World.cell?,hb,hu]
 simp [rvRun,Array.getD_eq_getD_getElem?,S.frm.get _ _ h,asAddr,run_loadVar_agg cs ht hm w hc]
theorem results_eq (fn:Func) (tmps:Array Value):results fn tmps=(do let vs ← fn.results.mapM (rvRun tmps); pure (if h:vs.size=1 then vs[0] else .tuple vs)):=by
 unfold results
 congr 2
theorem rsl0 {fn:Func} (hres:fn.results=#[]):(results fn a.tmps).run P w=.ok (.tuple #[]) w:=by
 simp [results_eq,hres]
theorem rsl1 {fn:Func} {r1:ResultVar} {v1:Value} (hres:fn.results=#[r1]) (h1:(rvRun a.tmps r1).run P w=.ok v1 w):(results fn a.tmps).run P w=.ok v1 w:=by
 simp [results_eq,hres,h1]
theorem rsl2 {fn:Func} {r1 r2:ResultVar} {v1 v2:Value} (hres:fn.results=#[r1,r2]) (h1:(rvRun a.tmps r1).run P w=.ok v1 w) (h2:(rvRun a.tmps r2).run P w=.ok v2 w):(results fn a.tmps).run P w=.ok (.tuple #[v1,v2]) w:=by
 simp [results_eq,hres,h1,h2]
theorem rsl3 {fn:Func} {r1 r2 r3:ResultVar} {v1 v2 v3:Value} (hres:fn.results=#[r1,r2,r3]) (h1:(rvRun a.tmps r1).run P w=.ok v1 w) (h2:(rvRun a.tmps r2).run P w=.ok v2 w) (h3:(rvRun a.tmps r3).run P w=.ok v3 w):(results fn a.tmps).run P w=.ok (.tuple #[v1,v2,v3]) w:=by
 simp [results_eq,hres,h1,h2,h3]
end
section
variable {P : Program} (dq : List Deferred) (E : Nat → Prop) (M : List Nat) (w0 : World) (n : Nat) (ops : Array Oper) (A : List (List Nat)) (F0 : List (Nat × Value)) (nf : List Nat)
def doneB (X:Array Bool) (i:Nat):Bool:=X.getD i false
def Clo (X:Array Bool):Prop:=X.size=ops.size∧∀ (i:Nat) (o:Oper),ops[i]?=some o→doneB X i=true→∀ e,e ∈ o.after→Region.binds .any e=true→doneB X e.on=true
def ancOk:Bool:=(List.range ops.size).all fun i=>((ops[i]?).map fun o=>
 (o.after.all fun e=>!Region.binds .any e || decide (e.on < i)) && (A.getD i []).all fun j=>o.after.any fun e=>Region.binds .any e && (e.on == j || (A.getD e.on []).contains j)).getD true
def Agr (X:Array Bool) (a:Act) (W:List (Nat × Nat × Value)):Prop:=
 a.defers=dq∧a.tmps.size=n∧(∀ i d v,(i,d,v) ∈ W→doneB X i=true→a.tmps[d]?=some v) ∧
 (∀ t v,look F0 t=some v→(∀ (i:Nat) (o:Oper),ops[i]?=some o→o.dst=some t→doneB X i=false)→a.tmps[t]?=some v)
def Node (P:Program) (Q:Exit→Act→World→Prop) (Y:List Nat) (W:List (Nat × Nat × Value)) (L:List Ent) (D:List Fact):Prop:=
 ∀ fuel X a w,Clo ops X→(∀ j,j ∈ nf→doneB X j=decide (j ∈ Y))→Agr dq n ops F0 X a W→St0 E M w0 w L D→X.count false ≤ fuel→wpAny P .any ops Q fuel X a w
def Srcs (i:Nat) (W:List (Nat × Nat × Value)) (Fi:List (Nat × Value)):Prop:=
 ∀ q,q ∈ Fi→(∃ j,j ∈ A.getD i []∧(j,q.1,q.2) ∈ W) ∨ (look F0 q.1=some q.2∧∀ (k:Nat) (o:Oper),ops[k]?=some o→o.dst=some q.1→k=i ∨ i ∈ A.getD k [])
def Fin (W:List (Nat × Nat × Value)) (Fi:List (Nat × Value)):Prop:=
 ∀ q,q ∈ Fi→(∃ j,j < ops.size∧(j,q.1,q.2) ∈ W) ∨ (look F0 q.1=some q.2∧∀ (k:Nat) (o:Oper),ops[k]?=some o→o.dst=some q.1→False)
def FixOk (P:Program) (W:List (Nat × Nat × Value)) (L:List Ent) (D:List Fact) (i:Nat):Prop:=
 ∃ o d v Fi,ops[i]?=some o∧o.dst=some d∧(i,d,v) ∈ W∧Srcs ops A F0 i W Fi ∧
  ∀ G a w,St dq E M w0 n a w (Fi ++ G) L D→wpList P ops (fun e a' w'=>e=.normal∧St dq E M w0 n a' w' ((d,v) :: (Fi ++ G)) L D) [o] a w
def NonOk (P:Program) (Q:Exit→Act→World→Prop) (Y:List Nat) (W:List (Nat × Nat × Value)) (L:List Ent) (D:List Fact) (i:Nat):Prop:=
 ∃ o Fi,ops[i]?=some o∧Srcs ops A F0 i W Fi ∧
  ∀ G a w,St dq E M w0 n a w (Fi ++ G) L D→wpList P ops (fun e a' w'=>e=.normal∧∃ L' D',
   (∃ d v W2,o.dst=some d∧St dq E M w0 n a' w' ((d,v) :: (Fi ++ G)) L' D'∧(∀ z,z ∈ W2→i ∈ A.getD z.1 [])∧Node dq E M w0 n ops F0 nf P Q (i :: Y) (W2 ++ (i,d,v) :: W) L' D') ∨
   (∃ W2,o.dst=none∧St dq E M w0 n a' w' (Fi ++ G) L' D'∧(∀ z,z ∈ W2→i ∈ A.getD z.1 [])∧Node dq E M w0 n ops F0 nf P Q (i :: Y) (W2 ++ W) L' D')) [o] a w
variable {dq E M w0 n ops A F0 nf}
theorem anc_done (hA:ancOk ops A=true) {X:Array Bool} (hX:Clo ops X):∀ i o,ops[i]?=some o→(∀ e,e ∈ o.after→Region.binds .any e=true→doneB X e.on=true)→∀ j,j ∈ A.getD i []→doneB X j=true:=by
 intro i
 induction i using Nat.strongRecOn with
 | _ i ih=>
  intro o ho hd j hj
  have hi:i < ops.size:=(Array.getElem?_eq_some_iff.1 ho).1
  have h:=List.all_eq_true.1 hA i (List.mem_range.2 hi)
  simp only [ho,Option.map_some,Option.getD_some,Bool.and_eq_true] at h
  have h2:=List.all_eq_true.1 h.2 j hj
  obtain ⟨e,he,hb⟩:=Array.any_eq_true'.1 h2
  simp only [Bool.and_eq_true,Bool.or_eq_true] at hb
  have hlt:e.on < i:=by
   have:=Array.all_eq_true'.1 h.1 e he
   simpa [hb.1] using this
  have hde:=hd e he hb.1
  rcases hb.2 with hb2 | hb2
  ·rw [← eq_of_beq hb2]; exact hde
  ·have hlt2:e.on < ops.size:=by omega
   exact ih e.on hlt ops[e.on] (Array.getElem?_eq_getElem hlt2) (fun e' he' hb'=>hX.2 e.on _ (Array.getElem?_eq_getElem hlt2) hde e' he' hb') j (List.contains_iff_mem.1 hb2)
theorem ready_spec {X:Array Bool} {i:Nat} (h:i ∈ Region.ready .any ops X):∃ o,ops[i]?=some o∧X.getD i true=false∧∀ e,e ∈ o.after→Region.binds .any e=true→doneB X e.on=true:=by
 simp only [Region.ready,List.mem_filter,List.mem_range,Bool.and_eq_true] at h
 obtain ⟨h1,h2,h3⟩:=h
 refine ⟨ops[i],Array.getElem?_eq_getElem h1,by simpa using h2,fun e he hb=>?_⟩
 simp only [Array.getElem?_eq_getElem h1,Option.map_some,Option.getD_some] at h3
 have:=Array.all_eq_true'.1 h3 e he
 simpa [hb,doneB] using this
theorem ready_nil (hA:ancOk ops A=true) {X:Array Bool} (hX:Clo ops X) (h:Region.ready .any ops X=[]):∀ i,i < ops.size→doneB X i=true:=by
 intro i
 induction i using Nat.strongRecOn with
 | _ i ih=>
  intro hi
  cases hd:doneB X i with
  | true=>rfl
  | false=>
   have hall:=List.all_eq_true.1 hA i (List.mem_range.2 hi)
   simp only [Array.getElem?_eq_getElem hi,Option.map_some,Option.getD_some,Bool.and_eq_true] at hall
   have hmem:i ∈ Region.ready .any ops X:=by
    simp only [Region.ready,List.mem_filter,List.mem_range,Bool.and_eq_true,Array.getElem?_eq_getElem hi,Option.map_some,Option.getD_some]
    refine ⟨hi,?_,?_⟩
    ·have:i < X.size:=by rw [hX.1]; exact hi
     simp [doneB,Array.getD,this] at hd ⊢
     exact hd
    ·refine Array.all_eq_true'.2 fun e he=>?_
     have h1:=Array.all_eq_true'.1 hall.1 e he
     cases hb:Region.binds .any e with
     | false=>rfl
     | true=>
      simp only [hb,Bool.not_true,Bool.false_or,decide_eq_true_eq] at h1
      have:=ih e.on h1 (by omega)
      simpa [doneB] using this
   rw [h] at hmem
   cases hmem
theorem count_set {X:Array Bool} {i:Nat} (h:X.getD i true=false):(X.setIfInBounds i true).count false + 1=X.count false:=by
 have hi:i < X.size:=by
  rcases Nat.lt_or_ge i X.size with h1 | h1
  ·exact h1
  ·simp [Array.getD,Nat.not_lt.2 h1] at h
 have hx:X[i]=false:=by simpa [Array.getD,hi] using h
 have hpos:0 < X.count false:=Array.count_pos_iff.2 (hx ▸ Array.getElem_mem hi)
 rw [Array.setIfInBounds_def,dif_pos hi,Array.count_set hi]
 simp [hx]
 omega
theorem done_set {X:Array Bool} {i:Nat} (hi:i < X.size) (j:Nat):doneB (X.setIfInBounds i true) j=(decide (i=j) || doneB X j):=by
 unfold doneB
 simp only [Array.getD_eq_getD_getElem?,Array.getElem?_setIfInBounds]
 by_cases h:i=j
 ·subst h; simp [hi]
 ·simp [h]
def AllFrom (p:Nat→Prop) (k:Nat):Nat→Prop
 | 0=>True
 | m + 1=>p k∧AllFrom p (k + 1) m
theorem AllFrom.cons {p:Nat→Prop} {k m:Nat} (h:p k) (g:AllFrom p (k + 1) m):AllFrom p k (m + 1):=⟨h,g⟩
theorem AllFrom.get {p:Nat→Prop} {k m:Nat} (h:AllFrom p k m):∀ i,k ≤ i→i < k + m→p i:=by
 induction m generalizing k with
 | zero=>intro i h1 h2; omega
 | succ m ih=>
  intro i h1 h2
  by_cases e:i=k
  ·subst e; exact h.1
  ·exact ih h.2 i (by omega) (by omega)
def snap (n:Nat) (a:Act):List (Nat × Value):=(List.range n).map fun t=>(t,a.tmps.getD t undef)
theorem look_app (F G:List (Nat × Value)) (t:Nat):look (F ++ G) t=(look F t).orElse fun _=>look G t:=by
 induction F with
 | nil=>simp [look]
 | cons q F ih=>
  simp only [List.cons_append,look]
  split
  ·simp
  ·exact ih
theorem look_mem {F:List (Nat × Value)} {t:Nat} {v:Value} (h:look F t=some v):(t,v) ∈ F:=by
 induction F with
 | nil=>simp [look] at h
 | cons q F ih=>
  simp only [look] at h
  split at h
  ·rename_i e
   cases h
   subst e
   exact List.mem_cons_self
  ·exact List.mem_cons_of_mem _ (ih h)
theorem look_snap {n:Nat} {a:Act} (hn:a.tmps.size=n) {t:Nat} (ht:t < n):look (snap n a) t=a.tmps[t]?:=by
 have key:∀ (m k:Nat),k ≤ t→t < k + m→look ((List.range' k m).map fun t=>(t,a.tmps.getD t undef)) t=some (a.tmps.getD t undef):=by
  intro m
  induction m with
  | zero=>intro k h1 h2; omega
  | succ m ih=>
   intro k h1 h2
   simp only [List.range'_succ,List.map_cons,look]
   split
   ·rename_i e; subst e; rfl
   ·exact ih (k + 1) (by omega) (by omega)
 unfold snap
 rw [List.range_eq_range',key n 0 (Nat.zero_le _) (by omega)]
 simp [Array.getD_eq_getD_getElem?,hn,ht]
theorem frm_snap {a:Act} {Fi:List (Nat × Value)} (hd:a.defers=dq) (hn:a.tmps.size=n) (h:∀ q,q ∈ Fi→a.tmps[q.1]?=some q.2):Frm dq n a (Fi ++ snap n a):=by
 refine ⟨hd,hn,fun t v ht=>?_⟩
 rw [look_app] at ht
 cases hl:look Fi t with
 | some u=>
  rw [hl] at ht
  simp at ht
  subst ht
  exact h _ (look_mem hl)
 | none=>
  rw [hl] at ht
  simp only [Option.orElse_none] at ht
  have hm:=look_mem ht
  simp only [snap,List.mem_map,List.mem_range] at hm
  obtain ⟨t',h1,h2⟩:=hm
  cases h2
  rw [← look_snap hn h1]
  exact ht
theorem look_all {a:Act} {Fi:List (Nat × Value)} (hn:a.tmps.size=n) (h:∀ q,q ∈ Fi→a.tmps[q.1]?=some q.2) {t:Nat} {v:Value} (ht:a.tmps[t]?=some v):look (Fi ++ snap n a) t=some v:=by
 rw [look_app]
 cases hl:look Fi t with
 | some u=>
  have:=h _ (look_mem hl)
  rw [ht] at this
  simpa using this.symm
 | none=>
  have hlt:t < n:=by rw [← hn]; exact (Array.getElem?_eq_some_iff.1 ht).1
  simp only [Option.orElse_none]
  rw [look_snap hn hlt,ht]
theorem wp_change {o:Oper} {a:Act} {w:World} {K K':Act→World→Prop} {Q Q':Exit→Act→World→Prop} (h:∀ a w,K a w→K' a w) (hp:∀ c a w,¬ Q (.panic c) a w) (hl:¬ LetsOut Q) (hh:o.wp P a w K Q):o.wp P a w K' Q':=by
 unfold Oper.wp at *
 generalize (execOp a.eval o).run P w=r at *
 cases r with
 | ok n w'=>
  cases n <;> simp only [Oper.upon] at hh ⊢ <;>
   first
    | exact h _ _ hh
    | exact Calls.mono hh (fun e w'' he=>by cases e <;> first | exact h _ _ he | exact absurd he (hp _ _ _) | exact absurd he hl)
    | exact Rows.mono hh (fun _ _ he=>h _ _ he)
 | halt x w'=>cases x <;> simp only [Oper.upon] at hh ⊢ <;> first | exact hh | exact absurd hh (hp _ _ _)
theorem wpOp_of {o:Oper} {i:Nat} {a:Act} {w:World} {R:Act→World→Prop} {K:Act→World→Prop} {Q:Exit→Act→World→Prop} (ho:ops[i]?=some o) (h:wpList P ops (fun e a w=>e=.normal∧R a w) [o] a w) (hR:∀ a w,R a w→K a w):wpOp P ops Q i K a w:=by
 have hl:¬ LetsOut (fun e a w=>e=Exit.normal∧R a w):=by rintro ⟨a,w,h,_⟩; cases h
 have hp:∀ c a w,¬ ((Exit.panic c)=Exit.normal∧R a w):=by rintro c a w ⟨h,_⟩; cases h
 unfold wpOp
 simp only [ho]
 unfold wpList at h
 split
 ·rename_i hw
  rw [if_pos hw] at h
  rcases h with h | ⟨_,h⟩
  ·exact .inl (wp_change (fun a w h=>hR a w h.2) hp hl h)
  ·exact absurd h hl
 ·rename_i hw
  rw [if_neg hw] at h
  exact hR _ _ h.2
theorem node_of {Q:Exit→Act→World→Prop} {Y:List Nat} {W:List (Nat × Nat × Value)} {L:List Ent} {D:List Fact} (hA:ancOk ops A=true) (hnf:∀ j,j ∈ nf→j < ops.size) (hW:∀ (i d:Nat) v,(i,d,v) ∈ W→∃ o,ops[i]?=some o∧o.dst=some d)
 (huniq:∀ (i j:Nat) (o p:Oper) (d:Nat),ops[i]?=some o→ops[j]?=some p→o.dst=some d→p.dst=some d→i=j) (hWf:∀ (i d:Nat) v u,(i,d,v) ∈ W→(i,d,u) ∈ W→v=u) (hWn:∀ (i d:Nat) v,(i,d,v) ∈ W→i ∈ nf→i ∈ Y)
 (hall:AllFrom (fun i=>(i ∈ nf∧(i ∈ Y ∨ (∃ k,k ∈ A.getD i []∧k ∈ nf∧k ∉ Y) ∨ NonOk dq E M w0 n ops A F0 nf P Q Y W L D i)) ∨ (i ∉ nf∧((∃ y,y ∈ Y∧y ∈ nf∧i ∈ A.getD y []) ∨ (∃ k,k ∈ A.getD i []∧k ∈ nf∧k ∉ Y) ∨ FixOk dq E M w0 n ops A F0 P W L D i))) 0 ops.size)
 (Ff:List (Nat × Value)) (hf:Fin ops F0 W Ff) (hend:(∀ j,j ∈ nf→j ∈ Y)→∀ a w,St dq E M w0 n a w Ff L D→Q .normal a w):Node dq E M w0 n ops F0 nf P Q Y W L D:=by
 have hfin:∀ X a w,Clo ops X→(∀ j,j ∈ nf→doneB X j=decide (j ∈ Y))→Agr dq n ops F0 X a W→St0 E M w0 w L D→(∀ i,i < ops.size→doneB X i=true)→Q .normal a w:=by
  intro X a w hX hN hg hS hdone
  refine hend (fun j hj=>?_) a w ⟨⟨hg.1,hg.2.1,fun t v ht=>?_⟩,hS⟩
  ·have:=hN j hj
   rw [hdone j (hnf j hj)] at this
   exact of_decide_eq_true this.symm
  ·rcases hf _ (look_mem ht) with ⟨j,h1,h2⟩ | ⟨h1,h2⟩
   ·exact hg.2.2.1 j t v h2 (hdone j h1)
   ·exact hg.2.2.2 t v h1 (fun k o ho hd=>(h2 k o ho hd).elim)
 intro fuel
 induction fuel with
 | zero=>
  intro X a w hX hN hg hS hc
  have hdone:∀ i,i < ops.size→doneB X i=true:=by
   intro i hi
   cases h:doneB X i with
   | true=>rfl
   | false=>
    have hi':i < X.size:=by rw [hX.1]; exact hi
    have:X[i]=false:=by simpa [doneB,Array.getD,hi'] using h
    have hpos:0 < X.count false:=Array.count_pos_iff.2 (this ▸ Array.getElem_mem hi')
    omega
  have hr:Region.ready .any ops X=[]:=by
   cases h:Region.ready .any ops X with
   | nil=>rfl
   | cons i l=>
    obtain ⟨o,ho,h1,_⟩:=ready_spec (ops:=ops) (X:=X) (i:=i) (by rw [h]; exact List.mem_cons_self)
    have hi:i < ops.size:=(Array.getElem?_eq_some_iff.1 ho).1
    have h2:=hdone i hi
    have hi':i < X.size:=by rw [hX.1]; exact hi
    simp [doneB,Array.getD,hi'] at h1 h2
    rw [h1] at h2; cases h2
  exact ⟨hr,hfin X a w hX hN hg hS hdone⟩
 | succ fuel ih=>
  intro X a w hX hN hg hS hc
  refine ⟨fun hr=>hfin X a w hX hN hg hS (ready_nil hA hX hr),fun i hi=>?_⟩
  obtain ⟨o,ho,hx,hdeps⟩:=ready_spec hi
  have hlt:i < ops.size:=(Array.getElem?_eq_some_iff.1 ho).1
  have hltX:i < X.size:=by rw [hX.1]; exact hlt
  have hnd:doneB X i=false:=by simpa [doneB,Array.getD,hltX] using hx
  have hanc:=anc_done hA hX i o ho hdeps
  have hset:=done_set (X:=X) hltX
  have hX':Clo ops (X.setIfInBounds i true):=by
   refine ⟨by simp [hX.1],fun k p hp hk e he hb=>?_⟩
   rw [hset] at hk ⊢
   by_cases hik:i=k
   ·subst hik
    rw [ho] at hp; cases hp
    rw [hdeps e he hb]; simp
   ·simp [hik] at hk
    rw [hX.2 k p hp hk e he hb]; simp
  have hc':(X.setIfInBounds i true).count false ≤ fuel:=by have:=count_set hx; omega
  have hv:∀ Fi,Srcs ops A F0 i W Fi→∀ q,q ∈ Fi→a.tmps[q.1]?=some q.2:=by
   intro Fi hs q hq
   rcases hs q hq with ⟨j,h1,h2⟩ | ⟨h1,h2⟩
   ·exact hg.2.2.1 j _ _ h2 (hanc j h1)
   ·refine hg.2.2.2 _ _ h1 (fun k p hp hd=>?_)
    rcases h2 k p hp hd with rfl | h3
    ·exact hnd
    ·cases hk:doneB X k with
     | false=>rfl
     | true=>
      have:=anc_done hA hX k p hp (fun e he hb=>hX.2 k p hp hk e he hb) i h3
      rw [hnd] at this; cases this
  -- what stays behind the step
  have hstay:∀ Fi a' F' w',(∀ q,q ∈ Fi→a.tmps[q.1]?=some q.2)→St dq E M w0 n a' w' (F' ++ (Fi ++ snap n a)) L D ∨ True→True:=fun _ _ _ _ _ _=>trivial
  clear hstay
  have hold:∀ (i2 d2:Nat) (v2:Value),(i2,d2,v2) ∈ W→i2 ≠ i→doneB (X.setIfInBounds i true) i2=true→a.tmps[d2]?=some v2∧o.dst ≠ some d2:=by
   intro i2 d2 v2 hm hne hd2
   rw [hset] at hd2
   have hd3:doneB X i2=true:=by simpa [Ne.symm hne] using hd2
   refine ⟨hg.2.2.1 _ _ _ hm hd3,fun hod=>?_⟩
   obtain ⟨p,hp,hpd⟩:=hW _ _ _ hm
   exact hne (huniq i2 i p o d2 hp ho hpd hod)
  have hbase:∀ (t:Nat) (v:Value),look F0 t=some v→(∀ (k:Nat) (p:Oper),ops[k]?=some p→p.dst=some t→doneB (X.setIfInBounds i true) k=false)→a.tmps[t]?=some v∧o.dst ≠ some t:=by
   intro t v hl hk
   refine ⟨hg.2.2.2 t v hl (fun k p hp hpd=>?_),fun hod=>?_⟩
   ·have:=hk k p hp hpd
    rw [hset] at this
    simp at this
    exact this.2
   ·have:=hk i o ho hod
    rw [hset] at this
    simp at this
  rcases hall.get i (Nat.zero_le _) (by omega) with ⟨hin,h⟩ | ⟨hin,h⟩
  ·have hiY:i ∉ Y:=fun hy=>by
    have:=hN i hin
    rw [hnd] at this
    simp [hy] at this
   rcases h with h | ⟨k,h1,h2,h3⟩ | h
   ·exact absurd h hiY
   ·have:=hN k h2
    rw [hanc k h1] at this
    simp [h3] at this
   ·obtain ⟨o',Fi,ho',hs,hstep⟩:=h
    rw [ho] at ho'; cases ho'
    have hval:=hv Fi hs
    refine wpOp_of ho (hstep (snap n a) a w ⟨frm_snap hg.1 hg.2.1 hval,hS⟩) fun a' w' hr=>?_
    obtain ⟨L',D',hr⟩:=hr
    have hN':∀ j,j ∈ nf→doneB (X.setIfInBounds i true) j=decide (j ∈ i :: Y):=by
     intro j hj
     rw [hset,hN j hj]
     by_cases e:i=j
     ·subst e; simp
     ·have:¬ j=i:=fun h=>e h.symm
      simp [e,this]
    have hW2:∀ (W2:List (Nat × Nat × Value)),(∀ z,z ∈ W2→i ∈ A.getD z.1 [])→∀ (i2 d2:Nat) (v2:Value),(i2,d2,v2) ∈ W2→doneB (X.setIfInBounds i true) i2=true→False:=by
     intro W2 hz i2 d2 v2 hm hd2
     have hi2:=hz _ hm
     rw [hset] at hd2
     by_cases e:i=i2
     ·have h9:=hanc i (by rw [e] at hi2 ⊢; exact hi2)
      rw [hnd] at h9; cases h9
     ·have hd3:doneB X i2=true:=by simpa [e] using hd2
      have h8:i2 < ops.size:=by
       rcases Nat.lt_or_ge i2 X.size with h | h
       ·rw [← hX.1]; exact h
       ·simp [doneB,Array.getD,Nat.not_lt.2 h] at hd3
      have h9:=anc_done hA hX i2 ops[i2] (Array.getElem?_eq_getElem h8) (fun e he hb=>hX.2 i2 _ (Array.getElem?_eq_getElem h8) hd3 e he hb) i hi2
      rw [hnd] at h9; cases h9
    rcases hr with ⟨d,v,W2,hod,hSt,hz,hNode⟩ | ⟨W2,hod,hSt,hz,hNode⟩
    ·refine hNode fuel _ a' w' hX' hN' ⟨hSt.frm.defers,hSt.frm.size,fun i2 d2 v2 hm hd2=>?_,fun t u hl hk=>?_⟩ hSt.mem hc'
     ·rcases List.mem_append.1 hm with hm0 | hm1
      ·exact (hW2 W2 hz _ _ _ hm0 hd2).elim
      rcases List.mem_cons.1 hm1 with hm2 | hm2
      ·cases hm2
       exact hSt.frm.get d v (by simp [look])
      ·have hne:i2 ≠ i:=fun e=>hiY (hWn _ _ _ (e ▸ hm2) hin)
       obtain ⟨h1,h2⟩:=hold i2 d2 v2 hm2 hne hd2
       refine hSt.frm.get d2 v2 ?_
       simp only [look]
       rw [if_neg (fun e=>h2 (by rw [hod,e]))]
       exact look_all hg.2.1 hval h1
     ·obtain ⟨h1,h2⟩:=hbase t u hl hk
      refine hSt.frm.get t u ?_
      simp only [look]
      rw [if_neg (fun e=>h2 (by rw [hod,e]))]
      exact look_all hg.2.1 hval h1
    ·refine hNode fuel _ a' w' hX' hN' ⟨hSt.frm.defers,hSt.frm.size,fun i2 d2 v2 hm hd2=>?_,fun t u hl hk=>?_⟩ hSt.mem hc'
     ·rcases List.mem_append.1 hm with hm0 | hm
      ·exact (hW2 W2 hz _ _ _ hm0 hd2).elim
      have hne:i2 ≠ i:=fun e=>hiY (hWn _ _ _ (e ▸ hm) hin)
      exact hSt.frm.get d2 v2 (look_all hg.2.1 hval (hold i2 d2 v2 hm hne hd2).1)
     ·exact hSt.frm.get t u (look_all hg.2.1 hval (hbase t u hl hk).1)
  ·rcases h with ⟨y,h1,h2,h3⟩ | ⟨k,h1,h2,h3⟩ | h
   ·-- done already
    have hy:doneB X y=true:=by rw [hN y h2]; simpa using h1
    obtain ⟨p,hp⟩:∃ p,ops[y]?=some p:=⟨_,Array.getElem?_eq_getElem (hnf y h2)⟩
    have:=anc_done hA hX y p hp (fun e he hb=>hX.2 y p hp hy e he hb) i h3
    rw [hnd] at this; cases this
   ·have:=hN k h2
    rw [hanc k h1] at this
    simp [h3] at this
   ·obtain ⟨o',d,v,Fi,ho',hod,hmem,hs,hstep⟩:=h
    rw [ho] at ho'; cases ho'
    have hval:=hv Fi hs
    refine wpOp_of ho (hstep (snap n a) a w ⟨frm_snap hg.1 hg.2.1 hval,hS⟩) fun a' w' hSt=>?_
    have hN':∀ j,j ∈ nf→doneB (X.setIfInBounds i true) j=decide (j ∈ Y):=by
     intro j hj
     rw [hset,← hN j hj]
     have:¬ i=j:=fun e=>hin (e ▸ hj)
     simp [this]
    refine ih _ a' w' hX' hN' ⟨hSt.frm.defers,hSt.frm.size,fun i2 d2 v2 hm hd2=>?_,fun t u hl hk=>?_⟩ hSt.mem hc'
    ·by_cases hne:i2=i
     ·subst hne
      obtain ⟨p,hp,hpd⟩:=hW _ _ _ hm
      rw [ho] at hp; cases hp
      rw [hod] at hpd; cases hpd
      rw [hWf _ _ _ _ hm hmem]
      exact hSt.frm.get d v (by simp [look])
     ·obtain ⟨h1,h2⟩:=hold i2 d2 v2 hm hne hd2
      refine hSt.frm.get d2 v2 ?_
      simp only [look]
      rw [if_neg (fun e=>h2 (by rw [hod,e]))]
      exact look_all hg.2.1 hval h1
    ·obtain ⟨h1,h2⟩:=hbase t u hl hk
     refine hSt.frm.get t u ?_
     simp only [look]
     rw [if_neg (fun e=>h2 (by rw [hod,e]))]
     exact look_all hg.2.1 hval h1
theorem sDraw {id:Nat} {l:List Oper} {Q:Exit→Act→World→Prop} {a:Act} {w:World} {L:List Ent} {D:List Fact} {W:List (Nat × Nat × Value)} (hm:P.follows .mixedOrders=true) (S:St dq E M w0 n a w F0 L D)
 (h:Node dq E M w0 n l.toArray F0 nf P Q [] W L D):(Code.region id l.toArray true).wp P Q a w:=by
 refine wp_region_any hm ?_
 refine h _ _ a _ ⟨by simp,fun i o ho hd=>?_⟩ (fun j hj=>?_) ⟨S.frm.defers,S.frm.size,fun i d v hm hd=>?_,fun t v hl _=>S.frm.get t v hl⟩ S.mem.drew ?_
 ·simp [doneB,Array.getD] at hd
 ·simp [doneB,Array.getD]
 ·simp [doneB,Array.getD] at hd
 ·simp
def srcOne (F0:List (Nat × Value)) (W:List (Nat × Nat × Value)) (t:Nat):Option Nat→Option (Nat × Value)
 | some k=>(W[k]?).map (·.2)
 | none=>(look F0 t).map (t,·)
def srcB1 (F0:List (Nat × Value)) (W:List (Nat × Nat × Value)) (cert:List (Option Nat)) (Fi:List (Nat × Value)):List (Option (Nat × Value)):=
 (cert.zip Fi).map fun c=>srcOne F0 W c.2.1 c.1
def srcB2 (ops:Array Oper) (A:List (List Nat)) (i:Nat) (ixs:List Nat) (cert:List (Option Nat)) (ts:List Nat):Bool:=
 (cert.zip ts).all fun c=>match c.1 with
  | some k=>((ixs[k]?).map fun j=>(A.getD i []).contains j).getD false
  | none=>(List.range ops.size).all fun k=>((ops[k]?).map fun o=>(match o.dst with | some d=>Nat.beq d c.2 | none=>false)).getD false == false || k == i || (A.getD k []).contains i
def finB2 (ops:Array Oper) (ixs:List Nat) (cert:List (Option Nat)) (ts:List Nat):Bool:=
 (cert.zip ts).all fun c=>match c.1 with
  | some k=>((ixs[k]?).map fun j=>decide (j < ops.size)).getD false
  | none=>(List.range ops.size).all fun k=>((ops[k]?).map fun o=>(match o.dst with | some d=>Nat.beq d c.2 | none=>false)).getD false == false
theorem zip_mem {α β:Type} {cs:List α} {bs:List β} (hl:cs.length=bs.length) {b:β} (hb:b ∈ bs):∃ a,(a,b) ∈ cs.zip bs:=by
 induction bs generalizing cs with
 | nil=>simp at hb
 | cons y bs ih=>
  cases cs with
  | nil=>simp at hl
  | cons x cs=>
   rcases List.mem_cons.1 hb with rfl | hb
   ·exact ⟨x,by simp⟩
   ·obtain ⟨a,ha⟩:=ih (by simpa using hl) hb
    exact ⟨a,by simp [ha]⟩
theorem zip_map {α:Type} {cs:List α} {Fi:List (Nat × Value)} {a:α} {q:Nat × Value} (h:(a,q) ∈ cs.zip Fi):(a,q.1) ∈ cs.zip (Fi.map (·.1)):=by
 induction Fi generalizing cs with
 | nil=>simp at h
 | cons y Fi ih=>
  cases cs with
  | nil=>simp at h
  | cons x cs=>
   simp only [List.zip_cons_cons,List.mem_cons,List.map_cons] at h ⊢
   rcases h with h | h
   ·cases h; exact .inl rfl
   ·exact .inr (ih h)
theorem src_get {F0:List (Nat × Value)} {W:List (Nat × Nat × Value)} {cert:List (Option Nat)} {Fi:List (Nat × Value)} (h1:srcB1 F0 W cert Fi=Fi.map some) {c:Option Nat} {q:Nat × Value} (h:(c,q) ∈ cert.zip Fi) :
 srcOne F0 W q.1 c=some q:=by
 unfold srcB1 at h1
 induction Fi generalizing cert with
 | nil=>simp at h
 | cons y Fi ih=>
  cases cert with
  | nil=>simp at h
  | cons x cert=>
   simp only [List.zip_cons_cons,List.map_cons,List.cons.injEq,List.mem_cons] at h1 h
   rcases h with h | h
   ·cases h; exact h1.1
   ·exact ih h1.2 h
theorem writer_none {o:Oper} {t:Nat} (h:(match o.dst with | some d=>Nat.beq d t | none=>false)=false):o.dst ≠ some t:=fun e=>by
 rw [e] at h
 simp at h
theorem srcs_of {i:Nat} {W:List (Nat × Nat × Value)} {Fi:List (Nat × Value)} (cert:List (Option Nat)) (hl:cert.length=Fi.length) (h1:srcB1 F0 W cert Fi=Fi.map some) (h2:srcB2 ops A i (W.map (·.1)) cert (Fi.map (·.1))=true):Srcs ops A F0 i W Fi:=by
 intro q hq
 obtain ⟨c,hc⟩:=zip_mem hl hq
 have h3:=src_get h1 hc
 have h4:=List.all_eq_true.1 h2 _ (zip_map hc)
 cases c with
 | some k=>
  simp only [srcOne] at h3 h4
  cases hk:W[k]? with
  | none=>rw [hk] at h3; cases h3
  | some z=>
   rw [hk] at h3
   simp only [Option.map_some,Option.some.injEq] at h3
   simp only [List.getElem?_map,hk,Option.map_some,Option.getD_some] at h4
   refine .inl ⟨z.1,List.contains_iff_mem.1 h4,?_⟩
   rw [← h3]
   exact List.mem_of_getElem? hk
 | none=>
  simp only [srcOne] at h3 h4
  refine .inr ⟨?_,fun k o ho hd=>?_⟩
  ·cases hl:look F0 q.1 with
   | none=>rw [hl] at h3; cases h3
   | some v=>rw [hl] at h3; simp at h3; rw [← h3]
  ·have hk:k < ops.size:=(Array.getElem?_eq_some_iff.1 ho).1
   have:=List.all_eq_true.1 h4 k (List.mem_range.2 hk)
   simp only [ho,Option.map_some,Option.getD_some,Bool.or_eq_true,beq_iff_eq] at this
   rcases this with (h | h) | h
   ·exact absurd hd (writer_none h)
   ·exact .inl h
   ·exact .inr (List.contains_iff_mem.1 h)
theorem fin_of {W:List (Nat × Nat × Value)} {Fi:List (Nat × Value)} (cert:List (Option Nat)) (hl:cert.length=Fi.length) (h1:srcB1 F0 W cert Fi=Fi.map some) (h2:finB2 ops (W.map (·.1)) cert (Fi.map (·.1))=true):Fin ops F0 W Fi:=by
 intro q hq
 obtain ⟨c,hc⟩:=zip_mem hl hq
 have h3:=src_get h1 hc
 have h4:=List.all_eq_true.1 h2 _ (zip_map hc)
 cases c with
 | some k=>
  simp only [srcOne] at h3 h4
  cases hk:W[k]? with
  | none=>rw [hk] at h3; cases h3
  | some z=>
   rw [hk] at h3
   simp only [Option.map_some,Option.some.injEq] at h3
   simp only [List.getElem?_map,hk,Option.map_some,Option.getD_some,decide_eq_true_eq] at h4
   refine .inl ⟨z.1,h4,?_⟩
   rw [← h3]
   exact List.mem_of_getElem? hk
 | none=>
  simp only [srcOne] at h3 h4
  refine .inr ⟨?_,fun k o ho hd=>?_⟩
  ·cases hl:look F0 q.1 with
   | none=>rw [hl] at h3; cases h3
   | some v=>rw [hl] at h3; simp at h3; rw [← h3]
  ·have hk:k < ops.size:=(Array.getElem?_eq_some_iff.1 ho).1
   have:=List.all_eq_true.1 h4 k (List.mem_range.2 hk)
   simp only [ho,Option.map_some,Option.getD_some,beq_iff_eq] at this
   exact absurd hd (writer_none this)
def uniqB (ops:Array Oper):Bool:=(List.range ops.size).all fun i=>(List.range i).all fun j=>match (ops[i]?).bind (·.dst),(ops[j]?).bind (·.dst) with | some d,some e=>!Nat.beq d e | _,_=>true
theorem uniq_lt (h:uniqB ops=true) {i j:Nat} {o p:Oper} {d:Nat} (hij:j < i) (ho:ops[i]?=some o) (hp:ops[j]?=some p) (hd:o.dst=some d) (he:p.dst=some d):False:=by
 have hi:i < ops.size:=(Array.getElem?_eq_some_iff.1 ho).1
 have h1:=List.all_eq_true.1 (List.all_eq_true.1 h i (List.mem_range.2 hi)) j (List.mem_range.2 hij)
 simp [ho,hp,hd,he] at h1
section
variable {nf Y : List Nat} {A : List (List Nat)} {X Z : Nat → Prop}
theorem aY (k m:Nat) (h:k ∈ nf∧k ∈ Y) (g:AllFrom (fun i=>(i ∈ nf∧(i ∈ Y ∨ (∃ k,k ∈ A.getD i []∧k ∈ nf∧k ∉ Y) ∨ X i)) ∨ (i ∉ nf∧((∃ y,y ∈ Y∧y ∈ nf∧i ∈ A.getD y []) ∨ (∃ k,k ∈ A.getD i []∧k ∈ nf∧k ∉ Y) ∨ Z i))) (k + 1) m) :
 AllFrom (fun i=>(i ∈ nf∧(i ∈ Y ∨ (∃ k,k ∈ A.getD i []∧k ∈ nf∧k ∉ Y) ∨ X i)) ∨ (i ∉ nf∧((∃ y,y ∈ Y∧y ∈ nf∧i ∈ A.getD y []) ∨ (∃ k,k ∈ A.getD i []∧k ∈ nf∧k ∉ Y) ∨ Z i))) k (m + 1):=⟨.inl ⟨h.1,.inl h.2⟩,g⟩
theorem aB (k m b:Nat) (h:k ∈ nf∧b ∈ A.getD k []∧b ∈ nf∧b ∉ Y) (g:AllFrom (fun i=>(i ∈ nf∧(i ∈ Y ∨ (∃ k,k ∈ A.getD i []∧k ∈ nf∧k ∉ Y) ∨ X i)) ∨ (i ∉ nf∧((∃ y,y ∈ Y∧y ∈ nf∧i ∈ A.getD y []) ∨ (∃ k,k ∈ A.getD i []∧k ∈ nf∧k ∉ Y) ∨ Z i))) (k + 1) m) :
 AllFrom (fun i=>(i ∈ nf∧(i ∈ Y ∨ (∃ k,k ∈ A.getD i []∧k ∈ nf∧k ∉ Y) ∨ X i)) ∨ (i ∉ nf∧((∃ y,y ∈ Y∧y ∈ nf∧i ∈ A.getD y []) ∨ (∃ k,k ∈ A.getD i []∧k ∈ nf∧k ∉ Y) ∨ Z i))) k (m + 1):=⟨.inl ⟨h.1,.inr (.inl ⟨b,h.2.1,h.2.2.1,h.2.2.2⟩)⟩,g⟩
theorem aN (k m:Nat) (h:k ∈ nf) (x:X k) (g:AllFrom (fun i=>(i ∈ nf∧(i ∈ Y ∨ (∃ k,k ∈ A.getD i []∧k ∈ nf∧k ∉ Y) ∨ X i)) ∨ (i ∉ nf∧((∃ y,y ∈ Y∧y ∈ nf∧i ∈ A.getD y []) ∨ (∃ k,k ∈ A.getD i []∧k ∈ nf∧k ∉ Y) ∨ Z i))) (k + 1) m) :
 AllFrom (fun i=>(i ∈ nf∧(i ∈ Y ∨ (∃ k,k ∈ A.getD i []∧k ∈ nf∧k ∉ Y) ∨ X i)) ∨ (i ∉ nf∧((∃ y,y ∈ Y∧y ∈ nf∧i ∈ A.getD y []) ∨ (∃ k,k ∈ A.getD i []∧k ∈ nf∧k ∉ Y) ∨ Z i))) k (m + 1):=⟨.inl ⟨h,.inr (.inr x)⟩,g⟩
theorem aD (k m y:Nat) (h:k ∉ nf∧y ∈ Y∧y ∈ nf∧k ∈ A.getD y []) (g:AllFrom (fun i=>(i ∈ nf∧(i ∈ Y ∨ (∃ k,k ∈ A.getD i []∧k ∈ nf∧k ∉ Y) ∨ X i)) ∨ (i ∉ nf∧((∃ y,y ∈ Y∧y ∈ nf∧i ∈ A.getD y []) ∨ (∃ k,k ∈ A.getD i []∧k ∈ nf∧k ∉ Y) ∨ Z i))) (k + 1) m) :
 AllFrom (fun i=>(i ∈ nf∧(i ∈ Y ∨ (∃ k,k ∈ A.getD i []∧k ∈ nf∧k ∉ Y) ∨ X i)) ∨ (i ∉ nf∧((∃ y,y ∈ Y∧y ∈ nf∧i ∈ A.getD y []) ∨ (∃ k,k ∈ A.getD i []∧k ∈ nf∧k ∉ Y) ∨ Z i))) k (m + 1):=⟨.inr ⟨h.1,.inl ⟨y,h.2.1,h.2.2.1,h.2.2.2⟩⟩,g⟩
theorem aE (k m b:Nat) (h:k ∉ nf∧b ∈ A.getD k []∧b ∈ nf∧b ∉ Y) (g:AllFrom (fun i=>(i ∈ nf∧(i ∈ Y ∨ (∃ k,k ∈ A.getD i []∧k ∈ nf∧k ∉ Y) ∨ X i)) ∨ (i ∉ nf∧((∃ y,y ∈ Y∧y ∈ nf∧i ∈ A.getD y []) ∨ (∃ k,k ∈ A.getD i []∧k ∈ nf∧k ∉ Y) ∨ Z i))) (k + 1) m) :
 AllFrom (fun i=>(i ∈ nf∧(i ∈ Y ∨ (∃ k,k ∈ A.getD i []∧k ∈ nf∧k ∉ Y) ∨ X i)) ∨ (i ∉ nf∧((∃ y,y ∈ Y∧y ∈ nf∧i ∈ A.getD y []) ∨ (∃ k,k ∈ A.getD i []∧k ∈ nf∧k ∉ Y) ∨ Z i))) k (m + 1):=⟨.inr ⟨h.1,.inr (.inl ⟨b,h.2.1,h.2.2.1,h.2.2.2⟩)⟩,g⟩
theorem aF (k m:Nat) (h:k ∉ nf) (x:Z k) (g:AllFrom (fun i=>(i ∈ nf∧(i ∈ Y ∨ (∃ k,k ∈ A.getD i []∧k ∈ nf∧k ∉ Y) ∨ X i)) ∨ (i ∉ nf∧((∃ y,y ∈ Y∧y ∈ nf∧i ∈ A.getD y []) ∨ (∃ k,k ∈ A.getD i []∧k ∈ nf∧k ∉ Y) ∨ Z i))) (k + 1) m) :
 AllFrom (fun i=>(i ∈ nf∧(i ∈ Y ∨ (∃ k,k ∈ A.getD i []∧k ∈ nf∧k ∉ Y) ∨ X i)) ∨ (i ∉ nf∧((∃ y,y ∈ Y∧y ∈ nf∧i ∈ A.getD y []) ∨ (∃ k,k ∈ A.getD i []∧k ∈ nf∧k ∉ Y) ∨ Z i))) k (m + 1):=⟨.inr ⟨h,.inr (.inr x)⟩,g⟩
end
theorem node_by {Q:Exit→Act→World→Prop} {Y:List Nat} {W:List (Nat × Nat × Value)} {L:List Ent} {D:List Fact} (N:Nat) (hN:ops.size=N) (hA:ancOk ops A=true) (hu:uniqB ops=true) (hnf:(nf.all fun j=>decide (j < ops.size))=true)
 (hW:W.map (fun q=>(ops[q.1]?).bind (·.dst))=W.map (fun q=>some q.2.1)) (ix:List Nat) (hix:W.map (·.1)=ix) (hWi':ix.Nodup) (hWn':(ix.all fun i=>!nf.contains i || Y.contains i)=true)
 (hall:AllFrom (fun i=>(i ∈ nf∧(i ∈ Y ∨ (∃ k,k ∈ A.getD i []∧k ∈ nf∧k ∉ Y) ∨ NonOk dq E M w0 n ops A F0 nf P Q Y W L D i)) ∨ (i ∉ nf∧((∃ y,y ∈ Y∧y ∈ nf∧i ∈ A.getD y []) ∨ (∃ k,k ∈ A.getD i []∧k ∈ nf∧k ∉ Y) ∨ FixOk dq E M w0 n ops A F0 P W L D i))) 0 N)
 (Ff:List (Nat × Value)) (hf:Fin ops F0 W Ff) (hend:(∀ j,j ∈ nf→j ∈ Y)→∀ a w,St dq E M w0 n a w Ff L D→Q .normal a w):Node dq E M w0 n ops F0 nf P Q Y W L D:=by
 subst hN
 have hWi:(W.map (·.1)).Nodup:=by rw [hix]; exact hWi'
 have hWn:((W.map (·.1)).all fun i=>!nf.contains i || Y.contains i)=true:=by rw [hix]; exact hWn'
 clear hWi' hWn' hix
 refine node_of hA (fun j hj=>by simpa using List.all_eq_true.1 hnf j hj) (fun i d v hm=>?_) (fun i j o p d ho hp hd he=>?_) (fun i d v u h1 h2=>?_) (fun i d v hm hin=>?_) hall Ff hf hend
 ·have:(ops[i]?).bind (·.dst)=some d:=by
   clear hWi hWn hall hf
   induction W with
   | nil=>cases hm
   | cons z W ih=>
    simp only [List.map_cons,List.cons.injEq] at hW
    rcases List.mem_cons.1 hm with rfl | hm
    ·exact hW.1
    ·exact ih hW.2 hm
  cases ho:ops[i]? with
  | none=>rw [ho] at this; cases this
  | some o=>rw [ho] at this; exact ⟨o,rfl,this⟩
 ·rcases Nat.lt_trichotomy i j with h | h | h
  ·exact (uniq_lt hu h hp ho he hd).elim
  ·exact h
  ·exact (uniq_lt hu h ho hp hd he).elim
 ·clear hW hWn hall hf
  induction W with
  | nil=>cases h1
  | cons z W ih=>
   simp only [List.map_cons,List.nodup_cons] at hWi
   rcases List.mem_cons.1 h1 with e1 | h1 <;> rcases List.mem_cons.1 h2 with e2 | h2
   ·rw [← e1] at e2; cases e2; rfl
   ·exact absurd (List.mem_map.2 ⟨_,h2,by rw [← e1]⟩) hWi.1
   ·exact absurd (List.mem_map.2 ⟨_,h1,by rw [← e2]⟩) hWi.1
   ·exact ih hWi.2 h1 h2
 ·have:=List.all_eq_true.1 hWn i (List.mem_map.2 ⟨_,hm,rfl⟩)
  simpa [hin] using this
theorem fI {W:List (Nat × Nat × Value)} {L:List Ent} {D:List Fact} {i:Nat} {o:Oper} (d:Nat) (v:Value) (Fi:List (Nat × Value)) (ix:Nat) (cert:List (Option Nat)) (ho:ops[i]?=some o) (hd:o.dst=some d) (hW:W[ix]?=some (i,d,v)) (hl:cert.length=Fi.length)
 (h1:srcB1 F0 W cert Fi=Fi.map some) (h2:srcB2 ops A i (W.map (·.1)) cert (Fi.map (·.1))=true)
 (k:∀ G a w,St dq E M w0 n a w (Fi ++ G) L D→wpList P ops (fun e a' w'=>e=.normal∧St dq E M w0 n a' w' ((d,v) :: (Fi ++ G)) L D) [o] a w):FixOk dq E M w0 n ops A F0 P W L D i:=
 ⟨o,d,v,Fi,ho,hd,List.mem_of_getElem? hW,srcs_of cert hl h1 h2,k⟩
theorem hz_of {i:Nat} {W2:List (Nat × Nat × Value)} (h:((W2.map (·.1)).all fun k=>(A.getD k []).contains i)=true):∀ z,z ∈ W2→i ∈ A.getD z.1 []:=fun z hz=>
 List.contains_iff_mem.1 (List.all_eq_true.1 h z.1 (List.mem_map.2 ⟨z,hz,rfl⟩))
end
def fHold (q:Value) (cs:List Value):Fact where
 p:=fun E w=>∃ b off,q=.pointer (some ⟨b,off,none⟩)∧¬ E b∧b < w.heap.size∧∀ j u,cs[j]?=some u→w.cell? ⟨b,off + j,none⟩=some u
 mono:=by
  rintro E E' w w' h ⟨b,off,hq,hE,hb,hc⟩
  refine ⟨b,off,hq,fun e=>hE (h.excl b hb e),Nat.lt_of_lt_of_le hb h.size,fun j u hu=>?_⟩
  rw [World.cell?_of_block (w:=w) (h.same b hb hE ⟨_,_,hc j u hu⟩)]
  exact hc j u hu
def IdxV (P:Program) (t:TypeId) (v:Value) (j:Int) (q:Value):Prop:=∀ k w,(Instr.indexAt t v (.int k j)).run P w=.ok q w
theorem All.cons {α:Type} {r:R α} {E:Nat→Prop} {w:World} {v:Value} {x:α} {vs:List Value} {xs:List α} (h:r.rep E w v x) (a:All r E w vs xs):All r E w (v :: vs) (x :: xs):=
 All.append (All.one h) a
section
variable {P : Program} {dq : List Deferred} {E : Nat → Prop} {M : List Nat} {w0 : World} {n : Nat} {a : Act} {w : World} {F : List (Nat × Value)} {L : List Ent} {D : List Fact} {Q : Exit → Act → World → Prop}
variable {ops : Array Oper} {rest : List Oper} {o : Oper} {d : Nat}
theorem St.learn (S:St dq E M w0 n a w F L D) (e:Fact) (h:e.p (tot E L) w):St dq E M w0 n a w F L (e :: D):=⟨S.frm,S.mem.learn e h⟩
theorem pIdx {α:Type} {r:R α} {xs:List α} {x:α} {v:Value} {j:Int} (t e i:Nat) (S:St dq E M w0 n a w F L D) (ht:P.underlying t=some (.slice e)) (hs:cellsB P e=some r.sz) (hD:D[i]?=some (fRep (rL r) v xs)) (hx:idxO xs j=some x) :
 ∃ q,IdxV P t v j q∧St dq E M w0 n a w F L (fPtr r q x :: D):=by
 obtain ⟨h0,h1,h2⟩:=idxO_some hx
 obtain ⟨b,off,c,u,rfl,hE,hb,hrep,hcell⟩:=rL_at (S.mem.know hD) h2
 exact ⟨_,fun k w=>run_indexAt ht hs h0 h1 w,S.learn _ ⟨b,_,u,rfl,hE,hb,hrep,hcell⟩⟩
theorem pIdxR {α:Type} {r:R α} {T:TypeId} {xs:List α} {x:α} {v:Value} {j:Int} (t e i:Nat) (S:St dq E M w0 n a w F L D) (ht:P.underlying t=some (.slice e)) (hs:cellsB P e=some r.sz) (hL:L[i]?=some (eRow r T v xs)) (hx:idxO xs j=some x) :
 ∃ q,IdxV P t v j q∧OwnP r.sz v q j.toNat:=by
 obtain ⟨h0,h1,h2⟩:=idxO_some hx
 obtain ⟨g,c,u,rfl,_,_⟩:=row_at (S.mem.at hL) h2
 refine ⟨_,fun k w=>?_,⟨g,_,c,rfl,rfl⟩⟩
 have:=run_indexAt (P:=P) ht hs (b:=g) (off:=0) (c:=c) (k:=k) h0 h1 w
 simpa using this
theorem pLoad {α:Type} {r:R α} {q:Value} {x:α} (i:Nat) (S:St dq E M w0 n a w F L D) (hD:D[i]?=some (fPtr r q x)) :
 ∃ u,St dq E M w0 n a w F L (fHold q u.cells.toList :: fRep r u x :: D):=by
 obtain ⟨b,off,v,hq,h1,h2,h3,h4⟩:=S.mem.know hD
 exact ⟨v,(S.learn (fRep r v x) h3).learn (fHold q v.cells.toList) ⟨b,off,hq,h1,h2,h4⟩⟩
theorem sIdxV {t:TypeId} {s ix:Operand} {v q:Value} {k:IntKind} {j:Int} (S:St dq E M w0 n a w F L D)
 (hw:∀ a,Frm dq n a F→Region.wanted o (yielded ops a.tmps)=true) (ho:o.op=.indexAddr t s ix) (hv:lookO F s=some v) (hj:lookO F ix=some (.int k j)) (hq:IdxV P t v j q) (hd:o.dst=some d) (hn:d < n)
 (K:∀ a,St dq E M w0 n a w ((d,q) :: F) L D→wpList P ops Q rest a w):wpList P ops Q (o :: rest) a w:=by
 have he:=S.frm.eval hv
 have hej:=S.frm.eval hj
 exact sVal S hw hd hn (by simp only [execOp,ho,he,hej,Sem.run_bind,hq k w,Result.andThen_ok,Sem.run_pure]) S.mem K
theorem sLoadV1 {t:TypeId} {q:Operand} {vq:Value} (i:Nat) (v:Value) (S:St dq E M w0 n a w F L D)
 (hw:∀ a,Frm dq n a F→Region.wanted o (yielded ops a.tmps)=true) (ho:o.op=.load t q) (hq:lookO F q=some vq) (hD:D[i]?=some (fHold vq [v])) (ht:aggB P t=some false) (hd:o.dst=some d) (hn:d < n)
 (k:∀ a,St dq E M w0 n a w ((d,v) :: F) L D→wpList P ops Q rest a w):wpList P ops Q (o :: rest) a w:=by
 obtain ⟨b,off,rfl,h1,h2,h3⟩:=S.mem.know hD
 have he:=S.frm.eval hq
 have hc:w.cell? ⟨b,off,none⟩=some v:=h3 0 v rfl
 exact sVal S hw hd hn (by simp [execOp,ho,he,Instr.loadAt,Instr.sureAddr,loadVar,run_isAgg ht,hc]) S.mem k
theorem sLoadR {α:Type} {r:R α} {T:TypeId} {xs:List α} {x:α} {t:TypeId} {q:Operand} {v vq:Value} {j:Int} (i:Nat) (u:Value) (S:St dq E M w0 n a w F L D) (hp:OwnP r.sz v vq j.toNat)
 (hw:∀ a,Frm dq n a F→Region.wanted o (yielded ops a.tmps)=true) (ho:o.op=.load t q) (hq:lookO F q=some vq) (hL:L[i]?=some (eRow r T v xs)) (hx:idxO xs j=some x) (hu:∀ E w v,r.rep E w v x→v=u) (hr:Scal r) (ht:aggB P t=some false) (hd:o.dst=some d) (hn:d < n)
 (k:∀ a,St dq E M w0 n a w ((d,u) :: F) L D→wpList P ops Q rest a w):wpList P ops Q (o :: rest) a w:=by
 obtain ⟨h0,h1,h2⟩:=idxO_some hx
 obtain ⟨g,c,u',rfl,hrep,hcell⟩:=row_at (S.mem.at hL) h2
 obtain rfl:=hu _ _ _ hrep
 obtain ⟨g',m',c',e1,rfl⟩:=hp
 cases e1
 have he:=S.frm.eval hq
 have hc:w.cell? ⟨g,j.toNat * r.sz,none⟩=some u':=hcell 0 u' (by rw [hr _ _ _ _ hrep]; rfl)
 exact sVal S hw hd hn (by simp [execOp,ho,he,Instr.loadAt,Instr.sureAddr,loadVar,run_isAgg ht,hc]) S.mem k
theorem sMin2 {ts:Array TypeId} {x y:Operand} {p q:Int} (S:St dq E M w0 n a w F L D)
 (hw:∀ a,Frm dq n a F→Region.wanted o (yielded ops a.tmps)=true) (ho:o.op=.call { callee:=.builtin .min,args:=#[x,y],argTypes:=ts }) (hx:lookO F x=some (.int .i64 p)) (hy:lookO F y=some (.int .i64 q)) (hd:o.dst=some d) (hn:d < n)
 (k:∀ a,St dq E M w0 n a w ((d,.int .i64 (if q < p then q else p)) :: F) L D→wpList P ops Q rest a w):wpList P ops Q (o :: rest) a w:=by
 have hex:=S.frm.eval hx
 have hey:=S.frm.eval hy
 exact sVal S hw hd hn (by simp [execOp,ho,hex,hey,resolve,invoke,builtin,Builtin.min_,Builtin.min2]) S.mem k
theorem sMax2 {ts:Array TypeId} {x y:Operand} {p q:Int} (S:St dq E M w0 n a w F L D)
 (hw:∀ a,Frm dq n a F→Region.wanted o (yielded ops a.tmps)=true) (ho:o.op=.call { callee:=.builtin .max,args:=#[x,y],argTypes:=ts }) (hx:lookO F x=some (.int .i64 p)) (hy:lookO F y=some (.int .i64 q)) (hd:o.dst=some d) (hn:d < n)
 (k:∀ a,St dq E M w0 n a w ((d,.int .i64 (if p < q then q else p)) :: F) L D→wpList P ops Q rest a w):wpList P ops Q (o :: rest) a w:=by
 have hex:=S.frm.eval hx
 have hey:=S.frm.eval hy
 exact sVal S hw hd hn (by simp [execOp,ho,hex,hey,resolve,invoke,builtin,Builtin.max_,Builtin.max2]) S.mem k
theorem xThen {K:Act→World→Prop} {i:Nat} (h:Q (.exit i) a w):Exit.then K Q (.exit i) a w:=h
theorem xHit {i:Nat} (h:Q .normal a w):Exit.inBlock i Q (.exit i) a w:=by simp only [Exit.inBlock,if_true]; exact h
theorem leafL (h:Q .normal a w):wpList P ops Q [] a w:=h
theorem leafT {K:Act→World→Prop} (h:K a w):Exit.then K Q .normal a w:=h
theorem leafB {i:Nat} (h:Q .normal a w):Exit.inBlock i Q .normal a w:=h
theorem rThen {K:Act→World→Prop} (h:Q .ret a w):Exit.then K Q .ret a w:=h
theorem rBlock {i:Nat} (h:Q .ret a w):Exit.inBlock i Q .ret a w:=h
theorem rL_nil {α:Type} (r:R α) (E:Nat→Prop) (w:World):(rL r).rep E w (.slice none 0 0) ([]:List α):=
 ⟨none,0,[],rfl,Nat.le_refl _,by simp,All.nil _ _ _,fun k u hu=>by simp [flat] at hu⟩
end
section
variable {P : Program} {dq : List Deferred} {E : Nat → Prop} {M : List Nat} {w0 : World} {n : Nat} {a : Act} {w : World} {F : List (Nat × Value)} {L : List Ent} {D : List Fact} {Q : Exit → Act → World → Prop}
variable {ops : Array Oper} {rest : List Oper} {o : Oper} {d : Nat}
end
section
variable {P : Program} {dq : List Deferred} {E : Nat → Prop} {M : List Nat} {w0 : World} {n : Nat} {a : Act} {w : World} {F : List (Nat × Value)} {L : List Ent} {D : List Fact} {Q : Exit → Act → World → Prop}
variable {ops : Array Oper} {rest : List Oper} {o : Oper} {d : Nat}
theorem St0.shutB {α:Type} {r:R α} {T:TypeId} {b:Nat} {cs:List Value} (i:Nat) (v:Value) (x:α) (S:St0 E M w0 w L D) (hi:L[i]?=some (eBox b T cs)) (hv:v.cells.toList=cs) (hr:r.rep (tot E L) w v x):St0 E M w0 w (L.eraseIdx i) (fPtr r (.pointer (some ⟨b,0,none⟩)) x :: D):=by
 have hperm:=erase_perm hi
 have hn:=keysL_perm hperm S.nodup
 have S1:=S.sub (L':=L.eraseIdx i) (D':=D) (fun e he=>List.mem_of_mem_eraseIdx he) (nodup_sub (List.eraseIdx_sublist _ _) S.nodup) (fun _ h=>h)
 have hb:w.heap[b]?=some (.cells cs.toArray T (0,0)):=S.at hi
 have hext:Ext (tot E L) (tot E (L.eraseIdx i)) w w:=⟨Nat.le_refl _,fun _ _ _ _=>rfl,fun b _ h=>h.imp id (fun h=>by
  obtain ⟨e,h1,h2⟩:=keysL_mem.1 h
  exact keysL_mem.2 ⟨e,List.mem_of_mem_eraseIdx h1,h2⟩)⟩
 have hmem:b ∈ (eBox b T cs).keys:=by simp [eBox]
 refine S1.learn (fPtr r (.pointer (some ⟨b,0,none⟩)) x) ⟨b,0,v,rfl,fun h=>?_,(Array.getElem?_eq_some_iff.1 hb).1,r.mono hext hr,fun j u hu=>?_⟩
 ·rcases h with h | h
  ·exact (S.key b (keysL_mem.2 ⟨_,List.mem_of_getElem? hi,hmem⟩)).2 h
  ·simp only [keysL,List.map_cons,List.flatten_cons,List.nodup_append] at hn
   exact hn.2.2 b hmem b h rfl
 ·rw [hv] at hu
  simp [World.cell?,hb,hu]
theorem row_v {α:Type} {r:R α} {T:TypeId} {ad:Option Addr} {m c:Nat} {ys:List α} {E:Nat→Prop} {w:World} (h:(eRow r T (.slice ad m c) ys).p E w):Value.slice ad m c=.slice ad ys.length c:=by
 obtain ⟨ad',c',h1⟩:=row_slice h
 cases h1
 rfl
theorem St.shutB {α:Type} {r:R α} {T:TypeId} {b:Nat} {cs:List Value} (i:Nat) (v:Value) (x:α) (S:St dq E M w0 n a w F L D) (hi:L[i]?=some (eBox b T cs)) (hv:v.cells.toList=cs) (hr:r.rep (tot E L) w v x):St dq E M w0 n a w F (L.eraseIdx i) (fPtr r (.pointer (some ⟨b,0,none⟩)) x :: D):=⟨S.frm,S.mem.shutB i v x hi hv hr⟩
theorem St0.hold {i:Nat} {e:Ent} (S:St0 E M w0 w L D) (h:L[i]?=some e):e.p (tot E L) w:=S.ent e (List.mem_of_getElem? h)
def keepO {α:Type} (xs ys:List α):Option (List α):=if ys.length=xs.length then some ys else none
theorem nilCheck_ok {x:Operand} {q:Addr} (S:St dq E M w0 n a w F L D)
 (hw:∀ a,Frm dq n a F→Region.wanted o (yielded ops a.tmps)=true) (ho:o.op=.nilCheck x) (hx:lookO F x=some (.pointer (some q))) (hd:o.dst=some d) (hn:d < n)
 (k:∀ a,St dq E M w0 n a w ((d,.pointer (some q)) :: F) L D→wpList P ops Q rest a w):wpList P ops Q (o :: rest) a w:=by
 have he:=S.frm.eval hx
 exact sVal S hw hd hn (by simp [execOp,ho,he]) S.mem k
end
section
variable {P : Program} {dq : List Deferred} {E : Nat → Prop} {M : List Nat} {w0 : World} {n : Nat} {a : Act} {w : World} {F : List (Nat × Value)} {L : List Ent} {D : List Fact} {Q : Exit → Act → World → Prop}
variable {ops : Array Oper} {rest : List Oper} {o : Oper} {d : Nat}
end
section
variable {P : Program}
end
section
variable {P : Program} {dq : List Deferred} {E : Nat → Prop} {M : List Nat} {w0 : World} {n : Nat} {a : Act} {w : World} {F : List (Nat × Value)} {L : List Ent} {D : List Fact} {Q : Exit → Act → World → Prop} {l : Option Nat}
def IsC (w:World) (b:Nat):Prop:=∃ cs T m,w.heap[b]?=some (.cells cs T m)
theorem isC_of_cell {w:World} {b:Nat} (h:∃ o u,w.cell? ⟨b,o,none⟩=some u):IsC w b:=by
 obtain ⟨o,u,h⟩:=h
 unfold World.cell? at h
 cases hb:w.heap[b]? with
 | none=>simp [hb] at h
 | some x=>cases x <;> simp [hb] at h <;> exact ⟨_,_,_,hb⟩
theorem St0.kept {w':World} {m:Nat} (S:St0 E M w0 w L D) (hm:w0.heap.size ≤ m) (ho:w'.os=w.os) (ht:w'.tape=w.tape) (hu:w'.output=w.output) (hs:w.heap.size ≤ w'.heap.size)
 (hb:∀ b,b < w.heap.size→(IsC w b ∨ b < m)→w'.heap[b]?=w.heap[b]?) (hL:∀ e,e ∈ L→∀ b,b ∈ e.keys→IsC w b ∨ b < m):St0 E M w0 w' L D:=by
 have hext:Ext (tot E L) (tot E L) w w':=⟨hs,fun b h1 _ h3=>hb b h1 (.inl (isC_of_cell h3)),fun b _ h=>h⟩
 refine ⟨⟨ho.trans S.chg.os,ht.trans S.chg.tape,hu.trans S.chg.output,Nat.le_trans S.chg.size hs,fun k hk hn=>?_⟩,fun e he=>e.mono hext (fun b h=>hb b (S.lt b (keysL_mem.2 ⟨e,he,h⟩)) (hL e he b h)) (S.ent e he),fun d hd=>d.mono hext (S.fact d hd),S.nodup,S.key,S.bnd⟩
 rw [hb k (Nat.lt_of_lt_of_le hk S.chg.size) (.inr (by omega))]
 exact S.chg.block k hk hn
end
section
variable {P : Program}
structure Turn (O O':Nat→Prop) (w w':World):Prop where
 os:w'.os=w.os
 tape:w'.tape=w.tape
 output:w'.output=w.output
 size:w.heap.size ≤ w'.heap.size
 same:∀ b,b < w.heap.size→¬ O b→IsC w b→w'.heap[b]?=w.heap[b]?
 excl:∀ b,b < w.heap.size→O' b→O b
theorem Turn.refl (O:Nat→Prop) (w:World):Turn O O w w:=⟨rfl,rfl,rfl,Nat.le_refl _,fun _ _ _ _=>rfl,fun _ _ h=>h⟩
theorem Turn.trans {O O' O'':Nat→Prop} {a b c:World} (h:Turn O O' a b) (k:Turn O' O'' b c):Turn O O'' a c:=by
 refine ⟨k.os.trans h.os,k.tape.trans h.tape,k.output.trans h.output,Nat.le_trans h.size k.size,fun i hi hn hc=>?_,fun i hi ho=>h.excl i hi (k.excl i (Nat.lt_of_lt_of_le hi h.size) ho)⟩
 have e:=h.same i hi hn hc
 have hc2:IsC b i:=by obtain ⟨cs,T,m,h1⟩:=hc; exact ⟨cs,T,m,by rw [e]; exact h1⟩
 rw [k.same i (Nat.lt_of_lt_of_le hi h.size) (fun ho=>hn (h.excl i hi ho)) hc2,e]
theorem St0.turn {O O':Nat→Prop} {w w':World} {D:List Fact} (S:St0 O [] w w [] D) (h:Turn O O' w w') (hb:∀ b,O' b→b < w'.heap.size):St0 O' [] w' w' [] D:=by
 have hext:Ext (tot O []) (tot O' []) w w':=by
  refine ⟨h.size,fun b h1 h2 h3=>h.same b h1 (fun ho=>h2 (.inl ho)) (isC_of_cell h3),fun b h1 h2=>?_⟩
  rcases h2 with h2 | h2
  ·exact .inl (h.excl b h1 h2)
  ·simp [keysL] at h2
 exact ⟨Chg.refl _ _,fun e he=>(by cases he),fun d hd=>d.mono hext (S.fact d hd),by simp [keysL],fun b hb=>(by simp [keysL] at hb),hb⟩
end
section
variable {P : Program} {dq : List Deferred} {E : Nat → Prop} {M : List Nat} {w0 : World} {n : Nat} {a : Act} {w : World} {F : List (Nat × Value)} {L : List Ent} {D : List Fact} {Q : Exit → Act → World → Prop} {l : Option Nat}
end
section
variable {P : Program}
def mark (b:Nat):Deferred:={ target:=.collected b,args:=#[] }
end
section
variable {P : Program}
structure ItC {σ τ X:Type} (P:Program) (l:Nat) (FX:X→Array Value→Fact) (B:σ→X→Option (σ ⊕ τ)) (J:σ→(Nat→Prop)→World→Prop) (Jx:τ→World→Prop):Prop where
 jm:∀ s O A B,J s O A→Chg [] A B→J s O B
 xm:∀ t A B,Jx t A→Chg [] A B→Jx t B
 bd:∀ s O A,J s O A→∀ b,O b→b < A.heap.size
 yl:∀ s x vs b O W1,B s x=some b→(FX x vs).p O W1→J s O W1→YieldAt Fence.wide 0 P l vs W1 fun e W'=>
  (e=.returned (.bool true)∧∃ s' O',b=.inl s'∧J s' O' W'∧Turn O O' W1 W') ∨ (e=.returned (.bool false)∧∃ t,b=.inr t∧Jx t W')
variable {dq : List Deferred} {E : Nat → Prop} {M : List Nat} {w0 : World} {n : Nat} {a : Act} {w : World} {F : List (Nat × Value)} {L : List Ent} {D : List Fact} {Q : Exit → Act → World → Prop}
end
def iv (x:Int):Value:=.int .i64 x
theorem lb {a b:Nat} (h:Nat.ble (a + 1) b=true):a < b:=Nat.le_of_ble_eq_true h
def Upd {α β:Type} (r:R α) (s:R β) (k:Nat) (x:α) (z:β) (y:α):Prop:=∀ E w v u,r.rep E w v x→s.rep E w u z→∃ v',r.rep E w v' y∧v'.cells.toList=over v.cells.toList k u.cells.toList∧k + s.sz ≤ r.sz
theorem over_over {cur vc uc:List Value} {o k:Nat} (h:∀ j,j < vc.length→cur[o + j]?=vc[j]?) (hk:k + uc.length ≤ vc.length) (hl:o + vc.length ≤ cur.length):over cur o (over vc k uc)=over cur (o + k) uc:=by
 apply List.ext_getElem?
 intro m
 have hlen:=over_length (l:=vc) (off:=k) (cs:=uc) hk
 rw [over_get (l:=cur) (off:=o) (cs:=over vc k uc) (by rw [hlen]; exact hl),over_get (l:=cur) (off:=o + k) (cs:=uc) (by omega),hlen]
 by_cases h1:o ≤ m∧m < o + vc.length
 ·rw [if_pos h1,over_get hk]
  by_cases h2:k ≤ m - o∧m - o < k + uc.length
  ·rw [if_pos h2,if_pos (by omega)]; congr 1; omega
  ·rw [if_neg h2,if_neg (by omega),← h (m - o) (by omega)]; congr 1; omega
 ·rw [if_neg h1,if_neg (by omega)]
section
variable {P : Program} {dq : List Deferred} {E : Nat → Prop} {M : List Nat} {w0 : World} {n : Nat} {a : Act} {w : World} {F : List (Nat × Value)} {L : List Ent} {D : List Fact} {Q : Exit → Act → World → Prop}
variable {ops : Array Oper} {rest : List Oper} {o : Oper} {d : Nat}
end
section
variable {P : Program} {dq : List Deferred} {E : Nat → Prop} {M : List Nat} {w0 : World} {n : Nat} {a : Act} {w : World} {F : List (Nat × Value)} {L : List Ent} {D : List Fact} {Q : Exit → Act → World → Prop}
variable {ops : Array Oper} {rest : List Oper} {o : Oper} {d : Nat}
theorem sMm {x:Operand} {v:Value} (S:St dq E M w0 n a w F L D) (hg:o.guard=none) (ho:o.op=.move x) (hx:lookO F x=some v) (hd:o.dst=some d) (hn:Nat.ble (d + 1) n=true) (k:∀ a,St dq E M w0 n a w ((d,v) :: F) L D→wpList P ops Q rest a w):wpList P ops Q (o :: rest) a w:=sMove v S (wN hg) (.inl ho) hx hd (lb hn) k
theorem sMa {x:Operand} {v:Value} (S:St dq E M w0 n a w F L D) (hg:o.guard=none) (ho:o.op=.assign x) (hx:lookO F x=some v) (hd:o.dst=some d) (hn:Nat.ble (d + 1) n=true) (k:∀ a,St dq E M w0 n a w ((d,v) :: F) L D→wpList P ops Q rest a w):wpList P ops Q (o :: rest) a w:=sMove v S (wN hg) (.inr ho) hx hd (lb hn) k
theorem fM {A:List (List Nat)} {F0:List (Nat × Value)} {W:List (Nat × Nat × Value)} {i t:Nat} {v:Value} (ix:Nat) (c:Option Nat) (ho:ops[i]?=some o) (hd:o.dst=some d) (hW:W[ix]?=some (i,d,v)) (hg:o.guard=none) (hx:o.op=.move (.tmp t) ∨ o.op=.assign (.tmp t)) (h1:srcB1 F0 W [c] [(t,v)]=[some (t,v)]) (h2:srcB2 ops A i (W.map (·.1)) [c] [t]=true) (hn:Nat.ble (d + 1) n=true):FixOk dq E M w0 n ops A F0 P W L D i:=
 fI d v [(t,v)] ix [c] ho hd hW rfl h1 h2 fun _ _ _ S=>sMove v S (wN hg) hx (by simp [lookO,look]) hd (lb hn) fun _ S=>⟨rfl,S⟩
theorem lT {K:Act→World→Prop} (h:K a w):wpList P ops (Exit.then K Q) [] a w:=leafL (leafT h)
theorem sSk {c:Bool} {j d t:Nat} {want:Bool} (S:St dq E M w0 n a w F L D) (hg:o.guard=some (j,want)) (hd:(ops[j]?).bind (·.dst)=some d) (hl:look F d=some (.bool c)) (hc:c=!want) (ht:o.dst=some t) (hn:Nat.ble (t + 1) n=true) (k:∀ a,St dq E M w0 n a w ((t,undef) :: F) L D→wpList P ops Q rest a w):wpList P ops Q (o :: rest) a w:=sSkip j want d t S hg hd hl hc ht (lb hn) k
def skB (j d n:Nat) (want:Bool) (os:List Oper):Bool:=os.all fun o=>decide (o.guard=some (j,want)) && match o.dst with
 | some t=>!(t == d) && Nat.ble (t + 1) n
 | none=>false
def skF:List Oper→List (Nat × Value)→List (Nat × Value)
 | [],F=>F
 | o :: os,F=>skF os ((o.dst.getD 0,undef) :: F)
theorem sSkA {c:Bool} {j d:Nat} {want:Bool} (hd:(ops[j]?).bind (·.dst)=some d) (hc:c=!want) (rest:List Oper):∀ (os:List Oper) (F:List (Nat × Value)) (a:Act) (_:St dq E M w0 n a w F L D) (_:look F d=some (.bool c)) (_:skB j d n want os=true) (_:∀ a,St dq E M w0 n a w (skF os F) L D→wpList P ops Q rest a w),wpList P ops Q (os ++ rest) a w:=by
 intro os
 induction os with
 | nil=>intro F a S _ _ k; exact k a S
 | cons o os ih=>
  intro F a S hl hb k
  simp only [skB,List.all_cons,Bool.and_eq_true,decide_eq_true_eq] at hb
  obtain ⟨⟨hg,ht⟩,hr⟩:=hb
  cases hdst:o.dst with
  | none=>rw [hdst] at ht; cases ht
  | some t=>
   rw [hdst] at ht
   simp only [Bool.and_eq_true,Bool.not_eq_true',beq_eq_false_iff_ne] at ht
   refine sSkip j want d t S hg hd hl hc hdst (lb ht.2) fun a S=>ih _ a S ?_ hr ?_
   ·simp [look,ht.1,hl]
   ·intro a S
    refine k a ?_
    simp only [skF,hdst,Option.getD_some]
    exact S
theorem sSkN {c:Bool} {l:List Oper} (m j:Nat) (want:Bool) (d:Nat) (S:St dq E M w0 n a w F L D) (hd:(ops[j]?).bind (·.dst)=some d) (hl:look F d=some (.bool c)) (hc:c=!want) (hb:skB j d n want (l.take m)=true) (k:∀ a,St dq E M w0 n a w (skF (l.take m) F) L D→wpList P ops Q (l.drop m) a w):wpList P ops Q l a w:=by
 have h:=sSkA hd hc (l.drop m) (l.take m) F a S hl hb k
 rwa [List.take_append_drop] at h
theorem fJ {A:List (List Nat)} {F0:List (Nat × Value)} {W:List (Nat × Nat × Value)} {i:Nat} {v:Value} (Fi:List (Nat × Value)) (ix:Nat) (cert:List (Option Nat))
 (k:∀ G a w,St dq E M w0 n a w (Fi ++ G) L D→wpList P ops (fun e a' w'=>e=.normal∧St dq E M w0 n a' w' ((d,v) :: (Fi ++ G)) L D) [o] a w)
 (ho:ops[i]?=some o:=by rfl) (hd:o.dst=some d:=by rfl) (hW:W[ix]?=some (i,d,v):=by rfl) (hl:cert.length=Fi.length:=by rfl) (h1:srcB1 F0 W cert Fi=Fi.map some:=by rfl) (h2:srcB2 ops A i (W.map (·.1)) cert (Fi.map (·.1))=true:=by rfl):FixOk dq E M w0 n ops A F0 P W L D i:=fI d v Fi ix cert ho hd hW hl h1 h2 k
theorem sM {x:Operand} {v:Value} (S:St dq E M w0 n a w F L D) (k:∀ a,St dq E M w0 n a w ((d,v) :: F) L D→wpList P ops Q rest a w) (hg:o.guard=none:=by rfl) (ho:o.op=.move x:=by rfl) (hx:lookO F x=some v:=by rfl) (hd:o.dst=some d:=by rfl) (hn:Nat.ble (d + 1) n=true:=by rfl):wpList P ops Q (o :: rest) a w:=sMove v S (wN hg) (.inl ho) hx hd (lb hn) k
theorem sN {x:Operand} {v:Value} (S:St dq E M w0 n a w F L D) (k:∀ a,St dq E M w0 n a w ((d,v) :: F) L D→wpList P ops Q rest a w) (hg:o.guard=none:=by rfl) (ho:o.op=.assign x:=by rfl) (hx:lookO F x=some v:=by rfl) (hd:o.dst=some d:=by rfl) (hn:Nat.ble (d + 1) n=true:=by rfl):wpList P ops Q (o :: rest) a w:=sMove v S (wN hg) (.inr ho) hx hd (lb hn) k
theorem sCq {f:FuncId} {args:List Operand} {ts:Array TypeId} {Dc:List Fact} (vs:List Value) (v:Value) (S:St dq E M w0 n a w F L D) (hcallee:∀ vs w,(callFunc f vs).run P w=.ok (.enter f vs) w) (hpre:∃ E1,St0 E1 [] w w [] Dc)
 (hc:∀ (E':Nat→Prop) w,St0 E' [] w w [] Dc→Calls P f vs.toArray w (Ret (X:=Unit) E' [] w (fun _=>v) (fun _=>[]) (fun _=>[]))) (k:∀ a w',St dq E M w0 n a w' ((d,v) :: F) L D→wpList P ops Q rest a w')
 (hg:o.guard=none:=by rfl) (ho:o.op=.call { callee:=.value (.func f),args:=args.toArray,argTypes:=ts }:=by rfl) (hvs:args.map (lookO F)=vs.map some:=by rfl) (hd:o.dst=some d:=by rfl) (hn:Nat.ble (d + 1) n=true:=by rfl):wpList P ops Q (o :: rest) a w:=
 sCallQ (X:=Unit) (val:=fun _=>v) S (wN hg) ho hcallee hvs hpre hc hd (lb hn) fun _ a w S=>k a w S
end
section
theorem y {α:Type _} {a:α}:a=a:=rfl
theorem bS {α β:Type} {x:Option α} {f:α→Option β} {r:β} (h:x.bind f=some r):∃ y,x=some y∧f y=some r:=bindSome h
theorem iS {α:Type} {c:Bool} {x y:Option α} {r:α} (h:(if c=true then x else y)=some r):(c=true∧x=some r) ∨ (c=false∧y=some r):=iteSome h
theorem tS {α:Type} {a b:α} (h:some a=some b):a=b:=Option.some.inj h
end
section
end
section
variable {nf Y : List Nat} {A : List (List Nat)} {X Z : Nat → Prop}
theorem fY {k m:Nat} (g:AllFrom (fun i=>(i ∈ nf∧(i ∈ Y ∨ (∃ k,k ∈ A.getD i []∧k ∈ nf∧k ∉ Y) ∨ X i)) ∨ (i ∉ nf∧((∃ y,y ∈ Y∧y ∈ nf∧i ∈ A.getD y []) ∨ (∃ k,k ∈ A.getD i []∧k ∈ nf∧k ∉ Y) ∨ Z i))) (k + 1) m) (h:k ∈ nf∧k ∈ Y:=by decide):AllFrom (fun i=>(i ∈ nf∧(i ∈ Y ∨ (∃ k,k ∈ A.getD i []∧k ∈ nf∧k ∉ Y) ∨ X i)) ∨ (i ∉ nf∧((∃ y,y ∈ Y∧y ∈ nf∧i ∈ A.getD y []) ∨ (∃ k,k ∈ A.getD i []∧k ∈ nf∧k ∉ Y) ∨ Z i))) k (m + 1):=aY k m h g
theorem fN {k m:Nat} (x:X k) (g:AllFrom (fun i=>(i ∈ nf∧(i ∈ Y ∨ (∃ k,k ∈ A.getD i []∧k ∈ nf∧k ∉ Y) ∨ X i)) ∨ (i ∉ nf∧((∃ y,y ∈ Y∧y ∈ nf∧i ∈ A.getD y []) ∨ (∃ k,k ∈ A.getD i []∧k ∈ nf∧k ∉ Y) ∨ Z i))) (k + 1) m) (h:k ∈ nf:=by decide):AllFrom (fun i=>(i ∈ nf∧(i ∈ Y ∨ (∃ k,k ∈ A.getD i []∧k ∈ nf∧k ∉ Y) ∨ X i)) ∨ (i ∉ nf∧((∃ y,y ∈ Y∧y ∈ nf∧i ∈ A.getD y []) ∨ (∃ k,k ∈ A.getD i []∧k ∈ nf∧k ∉ Y) ∨ Z i))) k (m + 1):=aN k m h x g
theorem fD {k m:Nat} (y:Nat) (g:AllFrom (fun i=>(i ∈ nf∧(i ∈ Y ∨ (∃ k,k ∈ A.getD i []∧k ∈ nf∧k ∉ Y) ∨ X i)) ∨ (i ∉ nf∧((∃ y,y ∈ Y∧y ∈ nf∧i ∈ A.getD y []) ∨ (∃ k,k ∈ A.getD i []∧k ∈ nf∧k ∉ Y) ∨ Z i))) (k + 1) m) (h:k ∉ nf∧y ∈ Y∧y ∈ nf∧k ∈ A.getD y []:=by decide):AllFrom (fun i=>(i ∈ nf∧(i ∈ Y ∨ (∃ k,k ∈ A.getD i []∧k ∈ nf∧k ∉ Y) ∨ X i)) ∨ (i ∉ nf∧((∃ y,y ∈ Y∧y ∈ nf∧i ∈ A.getD y []) ∨ (∃ k,k ∈ A.getD i []∧k ∈ nf∧k ∉ Y) ∨ Z i))) k (m + 1):=aD k m y h g
theorem fE {k m:Nat} (b:Nat) (g:AllFrom (fun i=>(i ∈ nf∧(i ∈ Y ∨ (∃ k,k ∈ A.getD i []∧k ∈ nf∧k ∉ Y) ∨ X i)) ∨ (i ∉ nf∧((∃ y,y ∈ Y∧y ∈ nf∧i ∈ A.getD y []) ∨ (∃ k,k ∈ A.getD i []∧k ∈ nf∧k ∉ Y) ∨ Z i))) (k + 1) m) (h:k ∉ nf∧b ∈ A.getD k []∧b ∈ nf∧b ∉ Y:=by decide):AllFrom (fun i=>(i ∈ nf∧(i ∈ Y ∨ (∃ k,k ∈ A.getD i []∧k ∈ nf∧k ∉ Y) ∨ X i)) ∨ (i ∉ nf∧((∃ y,y ∈ Y∧y ∈ nf∧i ∈ A.getD y []) ∨ (∃ k,k ∈ A.getD i []∧k ∈ nf∧k ∉ Y) ∨ Z i))) k (m + 1):=aE k m b h g
theorem fF {k m:Nat} (x:Z k) (g:AllFrom (fun i=>(i ∈ nf∧(i ∈ Y ∨ (∃ k,k ∈ A.getD i []∧k ∈ nf∧k ∉ Y) ∨ X i)) ∨ (i ∉ nf∧((∃ y,y ∈ Y∧y ∈ nf∧i ∈ A.getD y []) ∨ (∃ k,k ∈ A.getD i []∧k ∈ nf∧k ∉ Y) ∨ Z i))) (k + 1) m) (h:k ∉ nf:=by decide):AllFrom (fun i=>(i ∈ nf∧(i ∈ Y ∨ (∃ k,k ∈ A.getD i []∧k ∈ nf∧k ∉ Y) ∨ X i)) ∨ (i ∉ nf∧((∃ y,y ∈ Y∧y ∈ nf∧i ∈ A.getD y []) ∨ (∃ k,k ∈ A.getD i []∧k ∈ nf∧k ∉ Y) ∨ Z i))) k (m + 1):=aF k m h x g
end
section
variable {P : Program} {dq : List Deferred} {E : Nat → Prop} {M : List Nat} {w0 : World} {n : Nat} {a : Act} {w : World} {F : List (Nat × Value)} {L : List Ent} {D : List Fact} {Q : Exit → Act → World → Prop}
end
theorem All.take {α:Type} {r:R α} {E:Nat→Prop} {w:World} {vs:List Value} {xs:List α} (a:All r E w vs xs) (k:Nat):All r E w (vs.take k) (xs.take k):=by
 refine ⟨by simp [a.1],fun j v x hv hx=>?_⟩
 rw [List.getElem?_take] at hv hx
 split at hv
 ·rename_i h
  rw [if_pos h] at hx
  exact a.2 j v x hv hx
 ·cases hv
theorem All.drop {α:Type} {r:R α} {E:Nat→Prop} {w:World} {vs:List Value} {xs:List α} (a:All r E w vs xs) (k:Nat):All r E w (vs.drop k) (xs.drop k):=by
 refine ⟨by simp [a.1],fun j v x hv hx=>?_⟩
 rw [List.getElem?_drop] at hv hx
 exact a.2 _ v x hv hx
theorem flat_split {sz:Nat} {vs:List Value} (h:∀ v,v ∈ vs→v.cells.size=sz) (k:Nat) (hk:k ≤ vs.length):flat vs=flat (vs.take k) ++ flat (vs.drop k)∧(flat (vs.take k)).length=k * sz:=by
 refine ⟨by rw [← flat_append,List.take_append_drop],?_⟩
 rw [flat_length (fun v hv=>h v (List.mem_of_mem_take hv)),List.length_take,Nat.min_eq_left hk]
section
variable {P : Program} {dq : List Deferred} {E : Nat → Prop} {M : List Nat} {w0 : World} {n : Nat} {a : Act} {w : World} {F : List (Nat × Value)} {L : List Ent} {D : List Fact} {Q : Exit → Act → World → Prop}
variable {ops : Array Oper} {rest : List Oper} {o : Oper} {d : Nat}
def eHole {α:Type} (r:R α) (T:TypeId) (v:Value) (xs:List α) (p:Nat) (u:Value):Ent where
 keys:=vkeys v
 p:=fun E w=>∃ vs,All r E w vs xs∧xs.length ≤ 68719476736∧p < xs.length * r.sz∧w.ownsRow 0 T r.sz v xs.length (over (flat vs) p [u])
 mono:=by
  rintro E E' w w' h hs ⟨vs,ha,hm,hp,hl,ho⟩
  refine ⟨vs,ha.mono h,hm,hp,hl,?_⟩
  rcases ho with ho | ⟨g,cap,cur,hv,hg,hh,hr⟩
  ·exact .inl ho
  ·subst hv
   exact .inr ⟨g,cap,cur,rfl,hg,by rw [hs g (by simp [vkeys])]; exact hh,hr⟩
 lt:=by
  rintro E w ⟨vs,ha,_,_,hl,ho⟩ b hb
  rcases ho with ⟨ho,_⟩ | ⟨g,cap,cur,hv,hg,hh,hr⟩
  ·subst ho; simp [vkeys] at hb
  ·subst hv
   simp [vkeys] at hb; subst hb
   exact (Array.getElem?_eq_some_iff.1 hh).1
theorem St0.closeH {α β:Type} {r:R α} {s:R β} {T:TypeId} {xs ys:List α} {x y:α} {z:β} {v u:Value} {j:Int} (i kf:Nat) (S:St0 E M w0 w L D) (hL:L[i]?=some (eHole r T v xs (j.toNat * r.sz + kf) u)) (hu0:(fRep s u z).p (tot E L) w) (hc:u.cells.toList=[u]) (hk:kf < r.sz) (hix:idxO xs j=some x) (hup:Upd r s kf x z y) (hs:setO xs j y=some ys) :
 St0 E M w0 w (eRow r T v ys :: L.eraseIdx i) D:=by
 obtain ⟨h0,h1,rfl⟩:=setO_some hs
 obtain ⟨_,_,hxj⟩:=idxO_some hix
 obtain ⟨vs,ha,hlen,hp,hown⟩:=S.at hL
 have hj:j.toNat < vs.length:=by rw [ha.1]; exact h1
 have hvj:vs[j.toNat]?=some vs[j.toNat]:=List.getElem?_eq_getElem hj
 have hrep:=ha.2 _ _ _ hvj hxj
 have hsv:=r.size hrep
 obtain ⟨v',hu,hcl,hle0⟩:=hup _ _ _ _ hrep hu0
 have hsz:=r.size hu
 have hfl:=flat_length (fun v hv=>(ha.cells v hv).1)
 rw [ha.1] at hfl
 have hle:(j.toNat + 1) * r.sz ≤ xs.length * r.sz:=Nat.mul_le_mul_right _ h1
 rw [Nat.add_mul,Nat.one_mul] at hle
 have heq:over (flat vs) (j.toNat * r.sz + kf) [u]=over (flat vs) (j.toNat * r.sz) v'.cells.toList:=by
  rw [hcl,hc]
  refine (over_over (fun b hb=>?_) (by simp [hsv]; omega) (by simp [hsv,hfl]; omega)).symm
  have hb2:b < r.sz:=by simpa [hsv] using hb
  exact flat_get (fun v hv=>(ha.cells v hv).1) hvj hb2
 have hext:Ext (tot E L) (tot E (eRow r T v (xs.set j.toNat y) :: L.eraseIdx i)) w w:=by
  refine ⟨Nat.le_refl _,fun _ _ _ _=>rfl,fun b hb h=>?_⟩
  rcases h with h | h
  ·exact .inl h
  ·obtain ⟨e,h2,h3⟩:=keysL_mem.1 h
   rcases List.mem_cons.1 h2 with rfl | h2
   ·exact .inr (keysL_mem.2 ⟨_,List.mem_of_getElem? hL,h3⟩)
   ·exact .inr (keysL_mem.2 ⟨e,List.mem_of_mem_eraseIdx h2,h3⟩)
 refine S.put hL (eRow r T v (xs.set j.toNat y)) (Chg.refl _ _) (fun b hb=>.inl hb) ?_ ?_
 ·cases v <;> simp [eRow,vkeys]
  rename_i a _ _
  cases a <;> simp
 ·refine ⟨vs.set j.toNat v',(ha.mono hext).set _ (r.mono hext hu),by simpa using hlen,?_⟩
  rw [flat_set (fun v hv=>(ha.cells v hv).1) hj hsz,← heq,List.length_set]
  exact hown
theorem St.closeH {α β:Type} {r:R α} {s:R β} {T:TypeId} {xs ys:List α} {x y:α} {z:β} {v u:Value} {j:Int} (i kf:Nat) (S:St dq E M w0 n a w F L D) (hL:L[i]?=some (eHole r T v xs (j.toNat * r.sz + kf) u)) (hu0:(fRep s u z).p (tot E L) w) (hc:u.cells.toList=[u]) (hk:kf < r.sz) (hix:idxO xs j=some x) (hup:Upd r s kf x z y) (hs:setO xs j y=some ys) :
 St dq E M w0 n a w F (eRow r T v ys :: L.eraseIdx i) D:=⟨S.frm,S.mem.closeH i kf hL hu0 hc hk hix hup hs⟩
end
section
variable {P : Program} {dq : List Deferred} {E : Nat → Prop} {M : List Nat} {w0 : World} {n : Nat} {a : Act} {w : World} {F : List (Nat × Value)} {L : List Ent} {D : List Fact} {Q : Exit → Act → World → Prop}
variable {ops : Array Oper} {rest : List Oper} {o : Oper} {d : Nat}
end
section
variable {P : Program} {dq : List Deferred} {E : Nat → Prop} {M : List Nat} {w0 : World} {n : Nat} {a : Act} {w : World} {F : List (Nat × Value)} {L : List Ent} {D : List Fact} {Q : Exit → Act → World → Prop}
variable {ops : Array Oper} {rest : List Oper} {o : Oper} {d : Nat}
theorem sSliceT {α:Type} {r:R α} {T t e:TypeId} {x:Operand} {lo hi:Option Operand} {ad:Option Addr} {c:Nat} {xs ys:List α} {vlo vhi:Option Value} {hi':Int} (i:Nat) (S:St dq E M w0 n a w F L D)
 (hw:∀ a,Frm dq n a F→Region.wanted o (yielded ops a.tmps)=true) (ho:o.op=.slice t x lo hi none) (ht:P.underlying t=some (.slice e)) (hs:cellsB P e=some r.sz) (hx:lookO F x=some (.slice ad xs.length c)) (hL:L[i]?=some (eRow r T (.slice ad xs.length c) xs))
 (hlo:lo.map (lookO F)=vlo.map some) (hhi:hi.map (lookO F)=vhi.map some) (hl:vlo=some (.int .i64 0) ∨ vlo=none) (hh:vhi=some (.int .i64 hi') ∨ vhi=none∧hi'=(xs.length:Int)) (hsl:sliceO xs 0 hi'=some ys) (hd:o.dst=some d) (hn:d < n)
 (k:∀ a,St dq E M w0 n a w ((d,.slice ad ys.length c) :: F) (eRow r T (.slice ad ys.length c) ys :: L.eraseIdx i) D→wpList P ops Q rest a w):wpList P ops Q (o :: rest) a w:=by
 obtain ⟨l,q,hl0,rfl,h1,h2,rfl⟩:=sliceO_some hsl
 obtain rfl:l=0:=by omega
 have hex:=S.frm.eval hx
 have elo:lo.map a.eval=vlo:=by
  cases lo with
  | none=>cases vlo with | none=>rfl | some _=>simp at hlo
  | some y=>cases vlo with | none=>simp at hlo | some u=>simp at hlo; simp [S.frm.eval hlo]
 have ehi:hi.map a.eval=vhi:=by
  cases hi with
  | none=>cases vhi with | none=>rfl | some _=>simp at hhi
  | some y=>cases vhi with | none=>simp at hhi | some u=>simp at hhi; simp [S.frm.eval hhi]
 obtain ⟨vs,ha,hlen,hown⟩:=S.mem.at hL
 have hc:xs.length ≤ c:=by
  rcases hown.2 with ⟨h,h0⟩ | ⟨g,cap,cur,h,_,_,hnc,_⟩
  ·simp only [Value.slice.injEq] at h; omega
  ·simp only [Value.slice.injEq] at h; omega
 have hrun:=run_sliceAt (P:=P) ht hs ad xs.length c 0 q vlo vhi (by rcases hl with h | h; exact .inl h; exact .inr ⟨h,rfl⟩) (by rcases hh with h | ⟨h,h'⟩; exact .inl h; exact .inr ⟨h,by omega⟩) h1 h2 hc w
 have had:(if c=0 then ad else ad.map (·.add (0 * r.sz)))=ad:=by
  split
  ·rfl
  ·rcases hown.2 with ⟨h,h0⟩ | ⟨g,cap,cur,h,_⟩
   ·simp only [Value.slice.injEq] at h; rw [h.1]; rfl
   ·simp only [Value.slice.injEq] at h; rw [h.1]; simp [add_addr]
 have hl2:((xs.take q).drop 0).length=q:=by simp; omega
 rw [had,Nat.sub_zero,Nat.sub_zero] at hrun
 have hkeys:∀ b,b ∈ (eRow r T (.slice ad ((xs.take q).drop 0).length c) ((xs.take q).drop 0)).keys→b ∈ (eRow r T (.slice ad xs.length c) xs).keys ∨ w.heap.size ≤ b:=by
  intro b hb
  left
  cases ad with
  | none=>simp [eRow,vkeys] at hb
  | some a1=>simpa [eRow,vkeys] using hb
 have hext:Ext (tot E L) (tot E (eRow r T (.slice ad ((xs.take q).drop 0).length c) ((xs.take q).drop 0) :: L.eraseIdx i)) w w:=by
  refine ⟨Nat.le_refl _,fun _ _ _ _=>rfl,fun b hb h=>?_⟩
  rcases h with h | h
  ·exact .inl h
  ·obtain ⟨e,h5,h6⟩:=keysL_mem.1 h
   rcases List.mem_cons.1 h5 with rfl | h5
   ·rcases hkeys b h6 with h7 | h7
    ·exact .inr (keysL_mem.2 ⟨_,List.mem_of_getElem? hL,h7⟩)
    ·omega
   ·exact .inr (keysL_mem.2 ⟨e,List.mem_of_mem_eraseIdx h5,h6⟩)
 refine sVal S hw hd hn (w':=w) (v:=.slice ad ((xs.take q).drop 0).length c) ?_ (S.mem.put hL (eRow r T (.slice ad ((xs.take q).drop 0).length c) ((xs.take q).drop 0)) (Chg.refl _ _) hkeys (by cases ad <;> simp [eRow,vkeys]) ?_) (fun a=>k a)
 ·rw [hl2]
  unfold execOp
  simp only [ho,hex,elo,ehi,Option.map_none,Sem.run_bind,hrun,Result.andThen_ok,Sem.run_pure]
 ·have hA:All r (tot E (eRow r T (.slice ad ((xs.take q).drop 0).length c) ((xs.take q).drop 0) :: L.eraseIdx i)) w ((vs.take q).drop 0) ((xs.take q).drop 0):=((ha.mono hext).take q).drop 0
  refine ⟨(vs.take q).drop 0,hA,by rw [hl2]; omega,?_⟩
  rw [hl2]
  have hfs:=flat_split (fun v hv=>(ha.cells v hv).1) q (by rw [ha.1]; omega)
  refine ⟨?_,?_⟩
  ·rw [List.drop_zero,hfs.2]
  ·rcases hown.2 with ⟨h,h0⟩ | ⟨g,cap,cur,h,hgb,hg,hnc,hcm,hcs,htake⟩
   ·simp only [Value.slice.injEq] at h
    exact .inl ⟨by rw [h.1,h.2.2,show q=0 by omega],by omega⟩
   ·simp only [Value.slice.injEq] at h
    obtain ⟨rfl,_,rfl⟩:=h
    refine .inr ⟨g,c,cur,rfl,hgb,hg,by omega,hcm,hcs,?_⟩
    have hle:q * r.sz ≤ xs.length * r.sz:=Nat.mul_le_mul_right _ h2
    rw [List.drop_zero,show cur.toList.take (q * r.sz)=(cur.toList.take (xs.length * r.sz)).take (q * r.sz) by rw [List.take_take,Nat.min_eq_left hle],htake,hfs.1,← hfs.2,List.take_left]
end
section
variable {P : Program} {dq : List Deferred} {E : Nat → Prop} {M : List Nat} {w0 : World} {n : Nat} {a : Act} {w : World} {F : List (Nat × Value)} {L : List Ent} {D : List Fact} {Q : Exit → Act → World → Prop}
variable {ops : Array Oper} {rest : List Oper} {o : Oper} {d : Nat}
end
section
variable {P : Program} {dq : List Deferred} {E : Nat → Prop} {M : List Nat} {w0 : World} {n : Nat} {a : Act} {w : World} {F : List (Nat × Value)} {L : List Ent} {D : List Fact} {Q : Exit → Act → World → Prop}
variable {ops : Array Oper} {rest : List Oper} {o : Oper} {d : Nat}
end
section
variable {P : Program} {dq : List Deferred} {E : Nat → Prop} {M : List Nat} {w0 : World} {n : Nat} {a : Act} {w : World} {F : List (Nat × Value)} {L : List Ent} {D : List Fact} {Q : Exit → Act → World → Prop}
variable {ops : Array Oper} {rest : List Oper} {o : Oper} {d : Nat}
theorem run_equalIn_nil (d:Nat) {u e:TypeId} (hu:P.underlying u=some (.slice e)) (ad:Option Addr) (m c:Nat) (w:World):(Op.equalIn (d + 1) u (.slice ad m c) (.slice none 0 0)).run P w=.ok ad.isNone w:=by
 cases ad <;> simp [Op.equalIn,run_underlying hu]
theorem bEqNil (t u:TypeId) (p q:Operand) {e:TypeId} (hu:P.underlying u=some (.slice e)) (ad:Option Addr) (m c:Nat):∀ w,(eqGuard .eql t p q (.slice ad m c) (.slice none 0 0)).run P w=.ok () w∧(binOp .eql u (.slice ad m c) (.slice none 0 0)).run P w=.ok (.bool ad.isNone) w:=fun w=>⟨rfl,by
 simp only [binOp]
 simp [Op.equal,Op.maxDepth,run_equalIn_nil 9999 hu]⟩
theorem nil_cases (ad:Option Addr):ad.isNone=true ∨ ad.isNone=false:=by cases ad <;> simp
theorem rL_isNil {α:Type} {r:R α} {E:Nat→Prop} {w:World} {ad:Option Addr} {c:Nat} {xs:List α} (h:(rL r).rep E w (.slice ad xs.length c) xs) (hn:ad.isNone=true):xs=[]:=by
 obtain ⟨ad0,c0,vs,hv,hc,hm,ha,hcell⟩:=h
 obtain ⟨rfl,rfl⟩:ad=ad0∧c=c0:=by simpa using hv
 cases ad with
 | some _=>simp at hn
 | none=>
  cases xs with
  | nil=>rfl
  | cons x xs=>
   have hfl:=flat_length (fun v hv=>(ha.cells v hv).1)
   have hpos:0 < (flat vs).length:=by rw [hfl,ha.1]; exact Nat.mul_pos (by simp) r.pos
   obtain ⟨_,_,h,_⟩:=hcell 0 _ (List.getElem?_eq_getElem hpos)
   cases h
theorem eRow_isNil {α:Type} {r:R α} {T:TypeId} {E:Nat→Prop} {w:World} {ad:Option Addr} {c:Nat} {xs:List α} (h:(eRow r T (.slice ad xs.length c) xs).p E w) (hn:ad.isNone=true):xs=[]:=by
 obtain ⟨vs,ha,hm,hl,ho⟩:=h
 rcases ho with ⟨_,h0⟩ | ⟨g,cap,cur,hv,_⟩
 ·exact List.eq_nil_of_length_eq_zero h0
 ·cases hv; simp at hn
end
def OwnsII (P:Program) (K:TypeId) (w:World) (b n:Nat) (m:Int→Int):Prop:=
 ∃ D:DataW Unit,Go.Maps.IsMap D∧w.ownsMap P K (plainElem P K) b n D∧∀ k,D.atKey (.int .i64 k) (.lit (.int .i64 0))=.lit (.int .i64 (m k))
theorem OwnsII.made (P:Program) (K:TypeId) (w:World):OwnsII P K (w.alloc (.map #[] 0)) w.heap.size 0 (fun _=>0):=
 ⟨.map [],Go.Maps.isMap_empty,World.ownsMap_made _ _ _ _,fun k=>rfl⟩
theorem OwnsII.lt {P:Program} {K:TypeId} {w:World} {b n:Nat} {m:Int→Int} (h:OwnsII P K w b n m):b < w.heap.size:=by
 obtain ⟨D,_,h2,_⟩:=h
 exact h2.lt
theorem OwnsII.block {P:Program} {K:TypeId} {w w':World} {b n:Nat} {m:Int→Int} (h:OwnsII P K w b n m) (hb:w'.heap[b]?=w.heap[b]?):OwnsII P K w' b n m:=by
 obtain ⟨D,h1,⟨es,clock,h2,r⟩,h3⟩:=h
 exact ⟨D,h1,⟨es,clock,hb.trans h2,r⟩,h3⟩
def lkM (M:List (Int × Int)) (k:Int):Int:=(M.lookup k).getD 0
def inI (k:Int):Bool:=decide (-9223372036854775808 ≤ k) && decide (k ≤ 9223372036854775807)
theorem inI_of {k:Int} (h:inI k=true):-9223372036854775808 ≤ k∧k ≤ 9223372036854775807:=by
 unfold inI at h
 simp only [Bool.and_eq_true,decide_eq_true_eq] at h
 exact h
def lkO (M:List (Int × Int)) (k:Int):Option Int:=if inI k=true then some (lkM M k) else none
def updM (M:List (Int × Int)) (k v:Int):Option (List (Int × Int)):=if inI k=true∧inI v=true∧M.length ≤ lim then some ((k,v) :: M) else none
theorem lkM_cons (M:List (Int × Int)) (k v j:Int):lkM ((k,v) :: M) j=if j=k then v else lkM M j:=by
 unfold lkM
 rw [List.lookup_cons]
 by_cases h:j=k
 ·subst h; simp
 ·rw [if_neg h,show (j == k)=false by simpa using h]
def eMap (P:Program) (K:TypeId) (b:Nat) (M:List (Int × Int)):Ent where
 keys:=[b]
 p:=fun _ w=>OwnsII P K w b M.length (lkM M)
 mono:=fun _ hs h=>h.block (hs b (by simp))
 lt:=fun h k hk=>by simp at hk; subst hk; exact h.lt
section
variable {P : Program} {dq : List Deferred} {E : Nat → Prop} {M0 : List Nat} {w0 : World} {n : Nat} {a : Act} {w : World} {F : List (Nat × Value)} {L : List Ent} {D : List Fact} {Q : Exit → Act → World → Prop}
variable {ops : Array Oper} {rest : List Oper} {o : Oper} {d : Nat}
theorem sMakeMap {t:TypeId} (K:TypeId) (S:St dq E M0 w0 n a w F L D)
 (hw:∀ a,Frm dq n a F→Region.wanted o (yielded ops a.tmps)=true) (ho:o.op=.makeMap t none) (hd:o.dst=some d) (hn:d < n)
 (k:∀ a b w,St dq E M0 w0 n a w ((d,.map (some b)) :: F) (eMap P K b [] :: L) D→wpList P ops Q rest a w):wpList P ops Q (o :: rest) a w:=by
 refine sVal S hw hd hn (w':=w.alloc (.map #[] 0)) (v:=.map (some w.heap.size)) ?_ (S.mem.new _ (eMap P K w.heap.size []) rfl (OwnsII.made P K w)) (fun a=>k a _ _)
 simp only [execOp,ho,Option.map_none,Sem.run_bind,run_makeMap_plain,Result.andThen_ok,Sem.run_pure]
theorem sLookup {t K:TypeId} {mo x:Operand} {b:Nat} {M:List (Int × Int)} {key v:Int} (i:Nat) (S:St dq E M0 w0 n a w F L D)
 (hg:o.guard=none) (ho:o.op=.lookup t mo x false) (ht:P.underlying t=some (.map K K)) (hk:P.underlying K=some (.int .i64)) (hz:(P.info? K).map (fun i=>i.zero)=some (some (.int .i64 0)))
 (hm:lookO F mo=some (.map (some b))) (hx:lookO F x=some (.int .i64 key)) (hL:L[i]?=some (eMap P K b M)) (hl:lkO M key=some v) (hd:o.dst=some d) (hn:d < n)
 (k:∀ a,St dq E M0 w0 n a w ((d,.int .i64 v) :: F) L D→wpList P ops Q rest a w):wpList P ops Q (o :: rest) a w:=by
 unfold lkO at hl
 split at hl
 ·rename_i hi
  obtain ⟨D',h1,h2,h3⟩:=S.mem.at hL
  have hzz:(zeroValue K).run P w=.ok (.int .i64 0) w:=by
   cases hinf:P.info? K with
   | none=>rw [hinf] at hz; cases hz
   | some i=>
    rw [hinf] at hz
    have hz:i.zero=some (.int .i64 0):=by simpa using hz
    simp [zeroValue,typeInfo,hinf,hz]
  refine wpList_lookup_own_int w hg mo x t ho K K .i64 (Go.Maps.int_keyed hk) ht hk hzz b _ D' (S.frm.eval hm) h2 (.int .i64 key) (.int .i64 key) (S.frm.eval hx) (Go.Maps.keyOf_int_mk hk (WalkArith.wf_i64 (inI_of hi))) ?_
  intro c hat _
  rw [h3] at hat
  cases hat
  rw [Option.some.inj hl,hd]
  exact k _ ⟨S.frm.put hn _,S.mem⟩
 ·cases hl
theorem sMapUpd {t K:TypeId} {mo x y:Operand} {b:Nat} {M M':List (Int × Int)} {key val:Int} (i:Nat) (S:St dq E M0 w0 n a w F L D)
 (hg:o.guard=none) (ho:o.op=.mapUpdate t mo x y) (ht:P.underlying t=some (.map K K)) (hk:P.underlying K=some (.int .i64))
 (hm:lookO F mo=some (.map (some b))) (hx:lookO F x=some (.int .i64 key)) (hy:lookO F y=some (.int .i64 val)) (hL:L[i]?=some (eMap P K b M)) (hl:updM M key val=some M') (hd:o.dst=none)
 (k:∀ a w,St dq E M0 w0 n a w F (eMap P K b M' :: L.eraseIdx i) D→wpList P ops Q rest a w):wpList P ops Q (o :: rest) a w:=by
 unfold updM lim at hl
 split at hl
 ·rename_i hi
  obtain ⟨hi1,hi2,hi3⟩:=hi
  obtain rfl:=Option.some.inj hl
  obtain ⟨D',h1,h2,h3⟩:=S.mem.at hL
  refine wpList_mapUpdate_own w hg mo x y t ho K K (Go.Maps.int_keyed hk) ht _ b _ D' (S.frm.eval hm) h2 (by unfold maxLen; omega) (.int .i64 key) (.int .i64 val) (.int .i64 key) (S.frm.eval hx) (S.frm.eval hy) (Go.Maps.keyOf_int_mk hk (WalkArith.wf_i64 (inI_of hi1))) (.lit (.int .i64 val)) [] (plainElem_int hk (WalkArith.wf_i64 (inI_of hi2))) ?_
  intro w' r1 r2
  rw [hd]
  have hchg:Chg [b] w w':=Chg.grown r2 (by intro k hk; cases hk; simp)
  refine k _ w' ⟨S.frm,S.mem.put hL (eMap P K b ((key,val) :: M)) hchg (fun c hc=>.inl hc) (by simp [eMap]) ⟨_,h1.put _ _,r1,fun j=>?_⟩⟩
  rw [lkM_cons]
  by_cases e:j=key
  ·subst e
   rw [if_pos rfl,Go.Maps.atKey_put_same h1 (by simp [WideAt.IsKeyLit])]
  ·rw [if_neg e,Go.Maps.atKey_put_other (by simpa using e),h3]
 ·cases hl
end
def rLz {α:Type} (r:R α):R (List α) where
 sz:=1
 rep:=fun E w v xs=>(rL r).rep E w v xs∧(xs=[]→v=.slice none 0 0)
 pos:=by decide
 size:=fun h=>(rL r).size h.1
 one:=fun h=>(rL r).one h.1
 mono:=fun h k=>⟨(rL r).mono h k.1,k.2⟩
theorem rLz_nil {α:Type} (r:R α) (E:Nat→Prop) (w:World):(rLz r).rep E w (.slice none 0 0) []:=⟨rL_nil r E w,fun _=>rfl⟩
def neO {α:Type} (xs:List α):Option Unit:=match xs with
 | []=>none
 | _ :: _=>some ()
theorem rLz_of {α:Type} {r:R α} {E:Nat→Prop} {w:World} {v:Value} {xs:List α} {u:Unit} (h:(rL r).rep E w v xs) (hn:neO xs=some u):(rLz r).rep E w v xs:=by
 refine ⟨h,fun e=>?_⟩
 subst e; cases hn
theorem rLz_is {α:Type} {r:R α} {E:Nat→Prop} {w:World} {ad:Option Addr} {c:Nat} {xs:List α} (h:(rLz r).rep E w (.slice ad xs.length c) xs):ad.isNone=xs.isEmpty:=by
 cases xs with
 | nil=>
  have:=h.2 rfl
  simp at this
  rw [this.1]; rfl
 | cons x xs=>
  cases ad with
  | none=>have:=rL_isNil h.1 rfl; cases this
  | some _=>rfl
section
variable {P : Program}
theorem bEqNilZ (t u:TypeId) (p q:Operand) {e:TypeId} (hu:P.underlying u=some (.slice e)) (ad:Option Addr) (m c:Nat) {b:Bool} (h:ad.isNone=b):∀ w,(eqGuard .eql t p q (.slice ad m c) (.slice none 0 0)).run P w=.ok () w∧(binOp .eql u (.slice ad m c) (.slice none 0 0)).run P w=.ok (.bool b) w:=by
 subst h; exact bEqNil t u p q hu ad m c
end
section
variable {P : Program} {dq : List Deferred} {E : Nat → Prop} {M : List Nat} {w0 : World} {n : Nat} {ops : Array Oper} {F0 : List (Nat × Value)} {nf : List Nat} {Q : Exit → Act → World → Prop} {Y Y' : List Nat} {W W' : List (Nat × Nat × Value)} {L L' : List Ent} {D D' : List Fact}
end
structure api_Grid where
 W:Int
 H:Int
 Bits:(List Bool)
def r_api_Grid:R api_Grid where
 sz:=3
 rep:=fun E w v x=>∃ v0,v=.agg #[.int .i64 x.W,.int .i64 x.H,v0]∧(rL rB).rep E w v0 x.Bits
 pos:=by decide
 size:=by rintro _ _ _ _ ⟨v0,rfl,h0⟩; rfl
 one:=by
  rintro _ _ _ _ ⟨v0,rfl,h0⟩ u hu
  simp [Value.cells] at hu
  rcases hu with rfl | rfl | rfl
  ·rfl
  ·rfl
  ·exact (rL rB).one h0 _ (by rw [scal_L _ _ _ _ _ h0]; simp)
 mono:=by
  rintro _ _ _ _ _ _ h ⟨v0,e,h0⟩
  exact ⟨v0,e,(rL rB).mono h h0⟩
theorem aggr_api_Grid:Aggr r_api_Grid:=by rintro _ _ _ _ ⟨v0,rfl,h0⟩; exact ⟨_,rfl⟩
structure reduce_search where
 g:api_Grid
 k:Int
 l:(List Int)
 best:(List Int)
 least:Int
theorem callee9:∀ vs w,(callFunc 9 vs).run Try.prog w=.ok (.enter 9 vs) w:=callee Try.func9 rfl rfl
theorem callee12:∀ vs w,(callFunc 12 vs).run Try.prog w=.ok (.enter 12 vs) w:=callee Try.func12 rfl rfl
theorem callee16:∀ vs w,(callFunc 16 vs).run Try.prog w=.ok (.enter 16 vs) w:=callee Try.func16 rfl rfl
theorem callee17:∀ vs w,(callFunc 17 vs).run Try.prog w=.ok (.enter 17 vs) w:=callee Try.func17 rfl rfl
theorem callee18:∀ vs w,(callFunc 18 vs).run Try.prog w=.ok (.enter 18 vs) w:=callee Try.func18 rfl rfl
theorem callee19:∀ vs w,(callFunc 19 vs).run Try.prog w=.ok (.enter 19 vs) w:=callee Try.func19 rfl rfl
theorem callee20:∀ vs w,(callFunc 20 vs).run Try.prog w=.ok (.enter 20 vs) w:=callee Try.func20 rfl rfl
theorem callee21:∀ vs w,(callFunc 21 vs).run Try.prog w=.ok (.enter 21 vs) w:=callee Try.func21 rfl rfl
theorem callee22:∀ vs w,(callFunc 22 vs).run Try.prog w=.ok (.enter 22 vs) w:=callee Try.func22 rfl rfl
theorem callee23:∀ vs w,(callFunc 23 vs).run Try.prog w=.ok (.enter 23 vs) w:=callee Try.func23 rfl rfl
theorem callee24:∀ vs w,(callFunc 24 vs).run Try.prog w=.ok (.enter 24 vs) w:=callee Try.func24 rfl rfl
theorem callee25:∀ vs w,(callFunc 25 vs).run Try.prog w=.ok (.enter 25 vs) w:=callee Try.func25 rfl rfl
theorem callee32:∀ vs w,(callFunc 32 vs).run Try.prog w=.ok (.enter 32 vs) w:=callee Try.func32 rfl rfl
theorem callee33:∀ vs w,(callFunc 33 vs).run Try.prog w=.ok (.enter 33 vs) w:=callee Try.func33 rfl rfl
theorem callee34:∀ vs w,(callFunc 34 vs).run Try.prog w=.ok (.enter 34 vs) w:=callee Try.func34 rfl rfl
theorem callee35:∀ vs w,(callFunc 35 vs).run Try.prog w=.ok (.enter 35 vs) w:=callee Try.func35 rfl rfl
theorem callee36:∀ vs w,(callFunc 36 vs).run Try.prog w=.ok (.enter 36 vs) w:=callee Try.func36 rfl rfl
theorem callee37:∀ vs w,(callFunc 37 vs).run Try.prog w=.ok (.enter 37 vs) w:=callee Try.func37 rfl rfl
theorem callee40:∀ vs w,(callFunc 40 vs).run Try.prog w=.ok (.enter 40 vs) w:=callee Try.func40 rfl rfl
theorem callee41:∀ vs w,(callFunc 41 vs).run Try.prog w=.ok (.enter 41 vs) w:=callee Try.func41 rfl rfl
theorem callee42:∀ vs w,(callFunc 42 vs).run Try.prog w=.ok (.enter 42 vs) w:=callee Try.func42 rfl rfl
theorem callee47:∀ vs w,(callFunc 47 vs).run Try.prog w=.ok (.enter 47 vs) w:=callee Try.func47 rfl rfl
theorem callee49:∀ vs w,(callFunc 49 vs).run Try.prog w=.ok (.enter 49 vs) w:=callee Try.func49 rfl rfl
theorem callee50:∀ vs w,(callFunc 50 vs).run Try.prog w=.ok (.enter 50 vs) w:=callee Try.func50 rfl rfl
open Go.ChangeShapes Go.WideShapes Go.ChangeAt Go.Joins
def InK (k:IntKind) (x:Int):Prop:=(Lit.int k x).wf=true
def Wl {α:Type} (p:α→Prop) (xs:List α):Prop:=xs.length ≤ 9223372036854775807∧∀ x,x ∈ xs→p x
def OpC {α:Type} (P:Program) (t:TypeId) (r:R α) (p:α→Prop):Prop:=
 ∀ (H:Type) (enc:TypeId × Value→H) (w:World) (base:Nat) (spare:Nat→Bool) (held:Bool) (fuel:Nat) (cs:List Value) (x:DataW H × List MemPlace),
  DataW.trod enc P w base spare held fuel t cs=some x→∃ v y,v.cells.toList=cs∧r.rep (fun _=>False) w v y∧p y
section
variable {P : Program}
theorem op_int {t:TypeId} (k:IntKind) (ht:P.underlying t=some (.int k)):OpC P t (rI k) (InK k):=fun H enc w base spare held fuel cs x h=>by
 obtain ⟨n,rfl,_,hw⟩:=DataW.trod_int ht h
 exact ⟨_,n,rfl,rfl,hw⟩
theorem op_bool {t:TypeId} (ht:P.underlying t=some .bool):OpC P t rB (fun _=>True):=fun H enc w base spare held fuel cs x h=>by
 obtain ⟨n,rfl,_⟩:=DataW.trod_bool ht h
 exact ⟨_,n,rfl,rfl,trivial⟩
theorem choose_list {α:Type} {n:Nat} {p:Nat→α→Prop} (h:∀ i,i < n→∃ x,p i x):∃ l:List α,l.length=n∧∀ i x,l[i]?=some x→p i x:=by
 induction n with
 | zero=>exact ⟨[],rfl,fun i x hi=>by simp at hi⟩
 | succ n ih=>
  obtain ⟨l,hl,hp⟩:=ih fun i hi=>h i (by omega)
  obtain ⟨x,hx⟩:=h n (by omega)
  refine ⟨l ++ [x],by simp [hl],fun i y hi=>?_⟩
  by_cases e:i < l.length
  ·rw [List.getElem?_append_left e] at hi; exact hp i y hi
  ·rw [List.getElem?_append_right (by omega)] at hi
   have:i - l.length=0:=by
    have:=(List.getElem?_eq_some_iff.1 hi).1
    simp at this; omega
   rw [this] at hi
   simp at hi; subst hi
   have:i=n:=by omega
   subst this; exact hx
theorem op_slice {α:Type} {t e:TypeId} {r:R α} {p:α→Prop} (ht:P.underlying t=some (.slice e)) (hc:P.cellsOf e=r.sz) (he:OpC P e r p):OpC P t (rL r) (Wl p):=fun H enc w base spare held fuel cs x h=>by
 rcases Go.Deep.open_slice ht h with ⟨rfl,_⟩ | ⟨a,len,cap,m,n,D,Pl,rfl,_,hl,hm,hmm,_,hx⟩
 ·exact ⟨_,[],rfl,rL_nil _ _ _,by simp,fun x hx=>by simp at hx⟩
 ·have hlm:len ≤ m:=by rw [hmm]; split <;> omega
  obtain ⟨b,off,spot⟩:=a
  have hcell:∀ i,i < len→∃ vy:Value × α,(∀ j,j < r.sz→w.cell? ((⟨b,off,spot⟩:Addr).add (i * r.sz + j))=vy.1.cells.toList[j]?)∧r.rep (fun _=>False) w vy.1 vy.2∧p vy.2:=fun i hi=>by
   obtain ⟨cs,h1,h2⟩:=hx i (by omega)
   obtain ⟨_,h3,h4⟩:=World.cells?_some h1
   obtain ⟨v,y,h5,h6,h7⟩:=he _ _ _ _ _ _ _ _ _ h2
   refine ⟨(v,y),fun j hj=>?_,h6,h7⟩
   have:=h4 j (by rw [hc]; exact hj)
   rw [Addr.add_add,hc] at this
   rw [this,h5]
  obtain ⟨l,hll,hlp⟩:=choose_list hcell
  subst hll
  have hA:All r (fun _=>False) w (l.map (·.1)) (l.map (·.2)):=⟨by simp,fun k v x hv hx=>by
   rw [List.getElem?_map] at hv hx
   cases hk:l[k]? with
   | none=>rw [hk] at hv; cases hv
   | some q=>rw [hk] at hv hx; simp at hv hx; subst hv hx; exact (hlp k q hk).2.1⟩
  refine ⟨.slice (some ⟨b,off,spot⟩) l.length cap,l.map (·.2),rfl,?_,by simp [maxLen] at hm ⊢; omega,fun x hx=>?_⟩
  ·refine ⟨some ⟨b,off,spot⟩,cap,l.map (·.1),by simp,by simpa using hl,by simp [maxLen] at hm ⊢; omega,hA,fun k u hu=>?_⟩
   have hsz:=fun v hv=>(hA.cells v hv).1
   have hk:=(List.getElem?_eq_some_iff.1 hu).1
   rw [flat_length hsz] at hk
   simp only [List.length_map] at hk
   have hi:k / r.sz < l.length:=Nat.div_lt_of_lt_mul (by rw [Nat.mul_comm]; exact hk)
   have hj:=Nat.mod_lt k r.pos
   have hq:l[k / r.sz]?=some l[k / r.sz]:=List.getElem?_eq_getElem hi
   have h1:=(hlp _ _ hq).1 (k % r.sz) hj
   have h2:=flat_get hsz (k:=k / r.sz) (v:=l[k / r.sz].1) (by rw [List.getElem?_map,hq]; rfl) hj
   rw [Nat.mul_comm,Nat.div_add_mod] at h1 h2
   rw [hu] at h2
   rw [← h2] at h1
   have hspot:spot=none:=by
    have h0:0 < l.length:=Nat.lt_of_le_of_lt (Nat.zero_le _) hi
    have hq0:l[0]?=some l[0]:=List.getElem?_eq_getElem h0
    have h3:=(hlp 0 _ hq0).1 0 r.pos
    have hs0:=r.size (hlp 0 _ hq0).2.1
    rw [List.getElem?_eq_getElem (by rw [Array.length_toList,hs0]; exact r.pos)] at h3
    simpa [Addr.add] using World.cell?_spot h3
   subst hspot
   rw [add_addr] at h1
   exact ⟨b,off,rfl,not_false,World.block_lt_of_cell? w _ h1,h1⟩
  ·obtain ⟨q,hq,rfl⟩:=List.mem_map.1 hx
   obtain ⟨k,hk,rfl⟩:=List.getElem_of_mem hq
   exact (hlp k _ (List.getElem?_eq_getElem hk)).2.2
theorem top_slice {α:Type} {H:Type} {enc:TypeId × Value→H} {w:World} {base b0:Nat} {spare:Nat→Bool} {held:Bool} {rr:Reach} {v:Value} {d:DataW H} {p:List MemPlace} {t e:TypeId} {r:R α} {q:List α→Prop} (ht:P.underlying t=some (.slice e)) (ho:OpC P t (rL r) q)
 (hv:Value.okWide P w rr b0 t v) (h:DataW.Trod enc P w base spare held t v d p):∃ y,(rL r).rep (fun _=>False) w v y∧q y:=by
 obtain ⟨a,n,c,rfl⟩:=okWide_slice ht hv
 obtain ⟨fuel,hf⟩:=h
 obtain ⟨v,y,h1,h2,h3⟩:=ho _ _ _ _ _ _ _ _ _ hf
 have hs:=scal_L _ _ _ _ _ h2
 rw [hs] at h1
 simp [Value.cells] at h1
 subst h1
 exact ⟨y,h2,h3⟩
theorem top_agg {α:Type} {H:Type} {enc:TypeId × Value→H} {w:World} {base b0:Nat} {spare:Nat→Bool} {held:Bool} {rr:Reach} {v:Value} {d:DataW H} {p:List MemPlace} {t:TypeId} {fs:Array Field} {r:R α} {q:α→Prop} (ht:P.underlying t=some (.struct fs)) (hr:Aggr r) (ho:OpC P t r q)
 (hv:Value.okWide P w rr b0 t v) (h:DataW.Trod enc P w base spare held t v d p):∃ y,r.rep (fun _=>False) w v y∧q y:=by
 obtain ⟨cs,rfl,hsz⟩:=okWide_struct ht hv
 obtain ⟨fuel,hf⟩:=h
 obtain ⟨v,y,h1,h2,h3⟩:=ho _ _ _ _ _ _ _ _ _ hf
 obtain ⟨ds,rfl⟩:=hr _ _ _ _ h2
 simp [Value.cells] at h1
 subst h1
 exact ⟨y,h2,h3⟩
theorem St0.start {w:World} {D:List Fact} (h:∀ d,d ∈ D→d.p (fun _=>False) w):St0 (fun _=>False) [] w w [] D:=by
 have hE:tot (fun _=>False) []=(fun _=>False):=by funext b; simp [tot,keysL]
 exact ⟨Chg.refl _ _,by simp,fun d hd=>by rw [hE]; exact h d hd,by simp [keysL],by simp [keysL],fun _ h=>h.elim⟩
theorem Chg.below {w w':World} (h:Chg [] w w'):Below w.heap.size w w':=⟨h.os,h.tape,h.output,h.size,fun k hk=>h.block k hk (by simp)⟩
theorem len3 {α:Type} {l:List α} (h:l.length=3):∃ a b c,l=[a,b,c]:=by match l,h with | [a,b,c],_=>exact ⟨a,b,c,rfl⟩
end
theorem fld {α:Type} {x:Option α} {ys:List α} {i:Nat} (h:x=ys[i]?) (hi:i < ys.length):∃ z,x=some z:=⟨ys[i],by rw [h]; exact List.getElem?_eq_getElem hi⟩
end Go.Proofs.Ytapohhkdpkapoaa
namespace Go.Proofs.Ytapohhkdpkapoaa
open Go.RowKit
open Go.ChangeShapes Go.WideShapes Go.ChangeAt Go.Joins
def wf_api_Grid (x:api_Grid):Prop:=(InK .i64) x.W∧(InK .i64) x.H∧(Wl (fun _=>True)) x.Bits
theorem op_api_Grid:OpC Try.prog 24 r_api_Grid wf_api_Grid:=fun H enc w base spare held fuel cs x h=>by
 obtain ⟨ys,m,_,_,hl,hy,hf⟩:=DataW.trod_struct Try.underlying24 h
 obtain ⟨c0,c1,c2,rfl⟩:=len3 (hl.trans (by kernel_rfl))
 obtain ⟨z0,f0⟩:=fld (hf 0 _ rfl) (by rw [hy]; decide)
 obtain ⟨u0,y0,k0,r0,w0⟩:=(op_int .i64 Try.underlying3) _ _ _ _ _ _ _ _ _ f0
 replace k0:u0.cells.toList=[c0]:=k0.trans (by kernel_rfl)
 obtain rfl:u0=.int .i64 y0:=r0
 obtain rfl:Value.int .i64 y0=c0:=by simpa [Value.cells] using k0
 obtain ⟨z1,f1⟩:=fld (hf 1 _ rfl) (by rw [hy]; decide)
 obtain ⟨u1,y1,k1,r1,w1⟩:=(op_int .i64 Try.underlying3) _ _ _ _ _ _ _ _ _ f1
 replace k1:u1.cells.toList=[c1]:=k1.trans (by kernel_rfl)
 obtain rfl:u1=.int .i64 y1:=r1
 obtain rfl:Value.int .i64 y1=c1:=by simpa [Value.cells] using k1
 obtain ⟨z2,f2⟩:=fld (hf 2 _ rfl) (by rw [hy]; decide)
 obtain ⟨u2,y2,k2,r2,w2⟩:=(op_slice (r:=rB) Try.underlying22 (by kernel_rfl) (op_bool Try.underlying4)) _ _ _ _ _ _ _ _ _ f2
 replace k2:u2.cells.toList=[c2]:=k2.trans (by kernel_rfl)
 rw [scal_L _ _ _ _ _ r2] at k2
 obtain rfl:u2=c2:=by simpa using k2
 exact ⟨_,⟨y0,y1,y2⟩,rfl,⟨_,rfl,r2⟩,⟨w0,w1,w2⟩⟩
end Go.Proofs.Ytapohhkdpkapoaa
namespace Go.Proofs.Ytapohhkdpkapoaa
open Go.RowKit
theorem w64_of {x:Int} (h0:-9223372036854775808 ≤ x) (h1:x ≤ 9223372036854775807):w64 x=x:=w64_id ⟨h0,h1⟩
theorem w64_succ {k:Nat} (h:k < 9223372036854775807):w64 ((k:Int) + 1)=((k + 1:Nat):Int):=by
 rw [w64_of (by omega) (by omega)]; omega
theorem idxO_nat {α:Type} {xs:List α} {k:Nat} (h:k < xs.length):idxO xs (k:Int)=some xs[k]:=by
 simp [idxO,h]
theorem idxO_of {α:Type} {xs:List α} {i:Int} {k:Nat} (hi:i=(k:Int)) (h:k < xs.length):idxO xs i=some xs[k]:=by subst hi; exact idxO_nat h
theorem setO_nat {α:Type} {xs:List α} {k:Nat} {y:α} (h:k < xs.length):setO xs (k:Int) y=some (xs.set k y):=by
 simp [setO,h]
theorem appO_of {α:Type} {xs ys:List α} (h:xs.length + ys.length ≤ 68719476736):appO xs ys=some (xs ++ ys):=by
 simp [appO,lim,h]
theorem makeO_of {α:Type} {n:Int} {z:α} {k:Nat} (h:n=(k:Int)) (hk:k ≤ 68719476736):makeO n z=some (List.replicate k z):=by
 subst h; simp [makeO,lim,hk]
theorem sliceO_of {α:Type} {xs:List α} {lo hi:Int} {l k:Nat} (h1:lo=l) (h2:hi=k) (h3:l ≤ k) (h4:k ≤ xs.length):sliceO xs lo hi=some ((xs.take k).drop l):=by
 subst h1 h2; simp [sliceO,h3,h4]
theorem map_cong {α:Type} {n:Nat} {f g:Nat→α} (h:∀ k,k < n→f k=g k):(List.range n).map f=(List.range n).map g:=
 List.map_congr_left fun k hk=>h k (List.mem_range.1 hk)
theorem dT {p:Prop} [Decidable p] (h:p):decide p=true:=decide_eq_true h
theorem dF {p:Prop} [Decidable p] (h:¬ p):decide p=false:=decide_eq_false h
theorem bT {a b:Int} (h:a=b):(a == b)=true:=by simp [h]
theorem bF {a b:Int} (h:¬ a=b):(a == b)=false:=by simp [h]
theorem nT {a b:Int} (h:¬ a=b):(a != b)=true:=by simp [h]
theorem nF {a b:Int} (h:a=b):(a != b)=false:=by simp [h]
def Fill {α:Type} (n:Nat) (f:Nat→α) (k:Nat) (s:List α):Prop:=s.length=n∧∀ j,j < k→s[j]?=some (f j)
theorem Fill.zero {α:Type} (n:Nat) (f:Nat→α) (z:α):Fill n f 0 (List.replicate n z):=⟨by simp,fun j hj=>absurd hj (Nat.not_lt_zero j)⟩
theorem Fill.set {α:Type} {n:Nat} {f:Nat→α} {k:Nat} {s:List α} (h:Fill n f k s) (hk:k < n):Fill n f (k + 1) (s.set k (f k)):=by
 refine ⟨by simp [h.1],fun j hj=>?_⟩
 by_cases e:j=k
 ·subst e; simp [h.1,hk]
 ·rw [List.getElem?_set_ne (fun h=>e h.symm)]; exact h.2 j (by omega)
theorem Fill.all {α:Type} {n:Nat} {f:Nat→α} {s:List α} (h:Fill n f n s):s=(List.range n).map f:=by
 apply List.ext_getElem?
 intro j
 by_cases hj:j < n
 ·rw [h.2 j hj]; simp [hj]
 ·rw [List.getElem?_eq_none (by rw [h.1]; omega),List.getElem?_eq_none (by simp; omega)]
theorem mul_bd {u v a b:Int} (u0:0 ≤ u) (u1:u ≤ a) (v0:0 ≤ v) (v1:v ≤ b):0 ≤ u * v∧u * v ≤ a * b:=
 ⟨Int.mul_nonneg u0 v0,Int.mul_le_mul u1 v1 v0 (by omega)⟩
theorem loop_seq {S τ:Type} {B:S→Option (S ⊕ τ)} (c:Nat→S) (n:Nat) {t:τ} (h:∀ k,k < n→B (c k)=some (.inl (c (k + 1)))) (hn:B (c n)=some (.inr t)):whileO B (c 0)=some t:=by
 have key:∀ j k,j + k=n→whileO B (c k)=some t:=by
  intro j
  induction j with
  | zero=>
   intro k hk
   obtain rfl:k=n:=by omega
   exact whileO_done hn
  | succ j ih=>
   intro k hk
   rw [whileO_step (h k (by omega))]
   exact ih _ (by omega)
 exact key n 0 (by omega)
theorem loop_seqf {S τ:Type} {B:S→Option (S ⊕ τ)} (c:Nat→S) (n:Nat) (g:Nat→Bool) {bad t:τ} (h:∀ k,k < n→(∀ j,j < k→g j=true)→B (c k)=some (if g k=true then .inl (c (k + 1)) else .inr bad)) (hn:(∀ j,j < n→g j=true)→B (c n)=some (.inr t)) :
 whileO B (c 0)=some (if (List.range n).all g=true then t else bad):=by
 have key:∀ j k,j + k=n→(∀ i,i < k→g i=true)→whileO B (c k)=some (if (List.range n).all g=true then t else bad):=by
  intro j
  induction j with
  | zero=>
   intro k hk hI
   obtain rfl:k=n:=by omega
   rw [whileO_done (hn hI),if_pos (List.all_eq_true.2 fun i hi=>hI i (List.mem_range.1 hi))]
  | succ j ih=>
   intro k hk hI
   have hb:=h k (by omega) hI
   cases hg:g k with
   | true=>
    rw [hg,if_pos rfl] at hb
    rw [whileO_step hb]
    refine ih _ (by omega) fun i hi=>?_
    by_cases e:i=k
    ·rw [e]; exact hg
    ·exact hI i (by omega)
   | false=>
    rw [hg,if_neg (by decide)] at hb
    rw [whileO_done hb,if_neg]
    intro ha
    have:=List.all_eq_true.1 ha k (List.mem_range.2 (by omega))
    rw [hg] at this; cases this
 exact key n 0 (by omega) fun i hi=>absurd hi (Nat.not_lt_zero i)
theorem loop_list {α τ:Type} {B:Int→Option (Int ⊕ τ)} (l:List α) (f:α→Option τ) (good:τ)
 (h:∀ k (hk:k < l.length),B (k:Int)=some (match f l[k] with | none=>.inl ((k + 1:Nat):Int) | some t=>.inr t)) (hn:B (l.length:Int)=some (.inr good)):whileO B 0=some ((l.findSome? f).getD good):=by
 have key:∀ j k,j + k=l.length→whileO B (k:Int)=some (((l.drop k).findSome? f).getD good):=by
  intro j
  induction j with
  | zero=>
   intro k hk
   obtain rfl:k=l.length:=by omega
   rw [whileO_done hn,List.drop_length]
   rfl
  | succ j ih=>
   intro k hk
   have hk2:k < l.length:=by omega
   have hb:=h k hk2
   rw [List.drop_eq_getElem_cons hk2,List.findSome?_cons]
   cases hf:f l[k] with
   | none=>
    rw [hf] at hb
    rw [whileO_step hb]
    exact ih _ (by omega)
   | some t=>
    rw [hf] at hb
    rw [whileO_done hb]
    rfl
 have:=key l.length 0 (by omega)
 simpa using this
theorem loop_idx {α τ:Type} {B:Int→Option (Int ⊕ τ)} (l:List α) (p:α→Bool) (hit:Nat→τ) (good:τ)
 (h:∀ k (hk:k < l.length),B (k:Int)=some (if p l[k]=true then .inr (hit k) else .inl ((k + 1:Nat):Int))) (hn:B (l.length:Int)=some (.inr good)):whileO B 0=some (if l.findIdx p < l.length then hit (l.findIdx p) else good):=by
 have key:∀ j k,j + k=l.length→k ≤ l.findIdx p→whileO B (k:Int)=some (if l.findIdx p < l.length then hit (l.findIdx p) else good):=by
  intro j
  induction j with
  | zero=>
   intro k hk hI
   obtain rfl:k=l.length:=by omega
   rw [whileO_done hn,if_neg (by omega)]
  | succ j ih=>
   intro k hk hI
   have hk2:k < l.length:=by omega
   have hb:=h k hk2
   cases hp:p l[k] with
   | true=>
    rw [hp,if_pos rfl] at hb
    have e:l.findIdx p=k:=by
     rcases Nat.lt_or_ge k (l.findIdx p) with h1 | h1
     ·have:=List.not_of_lt_findIdx h1
      rw [hp] at this; cases this
     ·omega
    rw [whileO_done hb,e,if_pos hk2]
   | false=>
    rw [hp,if_neg (by decide)] at hb
    rw [whileO_step hb]
    refine ih _ (by omega) ?_
    rcases Nat.eq_or_lt_of_le hI with h1 | h1
    ·have h2:l.findIdx p < l.length:=by omega
     have h3:p (l[l.findIdx p]'h2)=true:=List.findIdx_getElem
     have h4:l[l.findIdx p]'h2=l[k]:=by congr 1; exact h1.symm
     rw [h4,hp] at h3; cases h3
    ·exact h1
 exact key l.length 0 (by omega) (Nat.zero_le _)
theorem loop_eql {α τ:Type} [DecidableEq α] {B:Int→Option (Int ⊕ τ)} (a b:List α) (hl:a.length=b.length) (good bad:τ)
 (h:∀ k (hk:k < a.length),B (k:Int)=some (if a[k]=b[k]'(by omega) then .inl ((k + 1:Nat):Int) else .inr bad)) (hn:B (a.length:Int)=some (.inr good)):whileO B 0=some (if a=b then good else bad):=by
 have:=loop_seqf (B:=B) (fun k=>(k:Int)) a.length (fun k=>decide (a[k]?=b[k]?)) (bad:=bad) (t:=good) (fun k hk _=>by
  rw [h k hk]
  by_cases e:a[k]=b[k]'(by omega)
  ·rw [if_pos e,if_pos]; exact decide_eq_true (by rw [List.getElem?_eq_getElem hk,List.getElem?_eq_getElem (by omega),e])
  ·rw [if_neg e,if_neg]; intro hc; have:=of_decide_eq_true hc; rw [List.getElem?_eq_getElem hk,List.getElem?_eq_getElem (by omega)] at this; exact e (Option.some.inj this)) (fun _=>hn)
 have h0:(((0:Nat):Int))=0:=rfl
 rw [h0] at this
 rw [this]
 congr 1
 by_cases e:a=b
 ·subst e; rw [if_pos rfl,if_pos]; simp
 ·rw [if_neg e,if_neg]
  intro hc
  refine e (List.ext_getElem? fun j=>?_)
  by_cases hj:j < a.length
  ·exact of_decide_eq_true (List.all_eq_true.1 hc j (List.mem_range.2 hj))
  ·rw [List.getElem?_eq_none (by omega),List.getElem?_eq_none (by omega)]
theorem wmul {a b:Nat} (h:a * b ≤ 9223372036854775807):w64 ((a:Int) * (b:Int))=((a * b:Nat):Int):=by
 rw [← Int.natCast_mul]; exact w64_of (by omega) (by omega)
theorem wadd {a b:Nat} (h:a + b ≤ 9223372036854775807):w64 ((a:Int) + (b:Int))=((a + b:Nat):Int):=by
 rw [← Int.natCast_add]; exact w64_of (by omega) (by omega)
theorem pl_lt {w h x y:Nat} (hx:x < w) (hy:y < h):y * w + x < w * h:=by
 have:=Nat.mul_le_mul_right w (show y + 1 ≤ h by omega)
 rw [Nat.add_mul,Nat.one_mul,Nat.mul_comm h w] at this
 omega
theorem pl_mod {w x y:Nat} (hx:x < w):(y * w + x) % w=x:=by rw [Nat.mul_comm,Nat.mul_add_mod,Nat.mod_eq_of_lt hx]
theorem pl_div {w x y:Nat} (hx:x < w):(y * w + x) / w=y:=by
 rw [Nat.mul_comm,Nat.mul_add_div (by omega),Nat.div_eq_of_lt hx,Nat.add_zero]
theorem pl_of (t w:Nat):(t / w) * w + t % w=t:=by rw [Nat.mul_comm]; exact Nat.div_add_mod t w
theorem pl_divlt {t w h:Nat} (ht:t < w * h):t / w < h:=Nat.div_lt_of_lt_mul ht
theorem pl_modlt {t w:Nat} (hw:0 < w):t % w < w:=Nat.mod_lt _ hw
def glf {α:Type} (f:Nat→Nat→α) (w n:Nat):List α:=(List.range n).map fun t=>f (t % w) (t / w)
def gl {α:Type} (f:Nat→Nat→α) (w h:Nat):List α:=glf f w (w * h)
theorem gl_len {α:Type} (f:Nat→Nat→α) (w h:Nat):(gl f w h).length=w * h:=by simp [gl,glf]
theorem glf_succ {α:Type} (f:Nat→Nat→α) (w n:Nat):glf f w (n + 1)=glf f w n ++ [f (n % w) (n / w)]:=by simp [glf,List.range_succ]
theorem gl_get {α:Type} (f:Nat→Nat→α) (w h:Nat) (d:α) (x y:Nat) (hx:x < w) (hy:y < h):(gl f w h).getD (y * w + x) d=f x y:=by
 have:=pl_lt hx hy
 simp only [gl,glf,List.getD_eq_getElem?_getD,List.getElem?_map,List.getElem?_range this,Option.map_some,Option.getD_some,pl_mod hx,pl_div hx]
theorem loop_allL {α τ:Type} {B:Int→Option (Int ⊕ τ)} (l:List α) (p:α→Bool) (good bad:τ)
 (h:∀ k (hk:k < l.length),B (k:Int)=some (if p l[k]=true then .inl ((k + 1:Nat):Int) else .inr bad)) (hn:B (l.length:Int)=some (.inr good)):whileO B 0=some (if l.all p=true then good else bad):=by
 have h1:=loop_list l (fun x=>if p x=true then none else some bad) good (fun k hk=>by
  rw [h k hk]
  by_cases hp:p l[k]=true
  ·rw [if_pos hp,if_pos hp]
  ·rw [if_neg hp,if_neg hp]) hn
 rw [h1]
 congr 1
 clear h h1 hn
 induction l with
 | nil=>rfl
 | cons x l ih=>
  rw [List.findSome?_cons,List.all_cons]
  cases hp:p x with
  | true=>rw [if_pos rfl,Bool.true_and]; exact ih
  | false=>rw [if_neg (by decide),Bool.false_and,if_neg (by decide)]; rfl
noncomputable def F_grid_Check (p0:api_Grid):Option Int:=
 if decide (64 < (if p0.W < p0.H then p0.H else p0.W)) then
  some 4
 else
  Option.bind (α:=Bool) (
   if decide ((if p0.H < p0.W then p0.H else p0.W) < 1) then
    some true
   else
    some ((p0.Bits.length:Int) != (w64 (p0.W * p0.H)))) fun a0=>
  if a0 then
   some 8
  else
   some 0
theorem c_grid_Check (E:Nat→Prop) (w0:World) (p0:api_Grid) (v0:Value) (r:Int) (h:F_grid_Check p0=some r) (S:St0 E [] w0 w0 [] [fRep r_api_Grid (v0) p0]) :
 Calls Try.prog 35 #[v0] w0 (Ret (X:=Unit) E [] w0 (fun _=>.int .i64 r) (fun _=>[]) (fun _=>[])):=by
 unfold F_grid_Check at h
 obtain ⟨u1,rfl,aa⟩:=S.know (i:=0) (e:=fRep r_api_Grid (v0) p0) y
 have S:=S.learn (fRep (rL rB) u1 p0.Bits) aa
 obtain ⟨a3,a4,_,rfl,_⟩:=aa
 refine sEnter (args:=[.agg #[iv p0.W,iv p0.H,.slice a3 p0.Bits.length a4]]) 28 Try.func35 y y (by simp) S (fun a S=>?_)
 refine sSeq (fun K5 ab=>sRegion (sBox (v:=.agg #[iv p0.W,iv p0.H,.slice a3 p0.Bits.length a4]) S (wN y) y y [iv p0.W,iv p0.H,.slice a3 p0.Bits.length a4] y y (lb y) fun a b6 w S=>sN S fun a S=>?_))
 refine lT (ab _ _ (sSeq (fun K7 ac=>wp_block ?_)))
 refine sSeq (fun K8 ae=>sRegion (sField (b:=b6) (off:=0) 0 0 S (wN y) y y y y y (lb y) fun a S=>sLoad1 0 (iv p0.W) S (wN y) y y y y y y (lb y) fun a S=>sField (b:=b6) (off:=0) 1 1 S (wN y) y y y y y (lb y) fun a S=>sLoad1 0 (iv p0.H) S (wN y) y y y y y y (lb y) fun a S=>sMax2 (p:=p0.W) (q:=p0.H) S (wN y) y y y y (lb y) fun a S=>sBin _ S (wN y) y y y (bGt _ _ _ _ .i64 (if p0.W < p0.H then p0.H else p0.W) 64) y (lb y) fun a S=>sN S fun a S=>?_))
 refine lT (ae _ _ ?_)
 rcases iS h with ⟨a5,h⟩ | ⟨a5,h⟩
 ·refine sCondT S y a5 (sSeq (fun ah a6=>sRegion (sN S fun a S=>?_)))
  refine lT (a6 _ _ ?_)
  obtain rfl:=tS h
  exact wp_ret (rBlock (rThen (sRet (iv 4) S (rsl1 y (rvT (t:=2) (v:=iv 4) S y)) ⟨(),y,S.mem.sel [] [] (by decide) y y⟩)))
 refine sCondF S y a5 ?_
 obtain ⟨af,h,ag⟩:=bS h
 refine sCut (fun a w=>∃ a7,a7=af∧St [] E [] w0 28 a w [(10,.bool a7)] [] []) ?_ (fun a w hI=>?_)
 rotate_left
 ·obtain ⟨a7,rfl,S⟩:=hI
  have h:=ag
  try dsimp only at h
  rcases iS h with ⟨a2,h⟩ | ⟨a2,h⟩
  ·refine sCondT S y a2 (sSeq (fun ai a8=>sRegion (sN S fun a S=>?_)))
   refine lT (a8 _ _ ?_)
   obtain rfl:=tS h
   exact wp_ret (rBlock (rThen (sRet (iv 8) S (rsl1 y (rvT (t:=2) (v:=iv 8) S y)) ⟨(),y,S.mem.sel [] [] (by decide) y y⟩)))
  refine sCondF S y a2 (wp_skip (leafB (leafT (ac _ _ ?_))))
  refine sSeq (fun aj a9=>sRegion (sN S fun a S=>?_))
  refine lT (a9 _ _ ?_)
  obtain rfl:=tS h
  exact wp_ret (sRet (iv 0) S (rsl1 y (rvT (t:=2) (v:=iv 0) S y)) ⟨(),y,S.mem.sel [] [] (by decide) y y⟩)
 refine sRegion (sField (b:=b6) (off:=0) 0 0 S (wN y) y y y y y (lb y) fun a S=>sLoad1 0 (iv p0.W) S (wN y) y y y y y y (lb y) fun a S=>sField (b:=b6) (off:=0) 1 1 S (wN y) y y y y y (lb y) fun a S=>sLoad1 0 (iv p0.H) S (wN y) y y y y y y (lb y) fun a S=>sMin2 (p:=p0.W) (q:=p0.H) S (wN y) y y y y (lb y) fun a S=>sBin _ S (wN y) y y y (bLt _ _ _ _ .i64 (if p0.H < p0.W then p0.H else p0.W) 1) y (lb y) fun a S=>sM S fun a S=>?_)
 rcases iS h with ⟨a0,h⟩ | ⟨a0,h⟩
 ·refine sSkN 9 6 false 17 S y y a0 y fun a S=>sPickT (.bool true) S (wN y) y y a0 y y (lb y) fun a S=>sN S fun a S=>?_
  exact lT (⟨true,Option.some.inj h,S.fix [] [] (by decide) y y y⟩)
 refine sField (b:=b6) (off:=0) 2 2 S (wG 6 false 17 y y y a0) y y y y y (lb y) fun a S=>sLoad1 0 (.slice a3 p0.Bits.length a4) S (wG 6 false 17 y y y a0) y y y y y y (lb y) fun a S=>sLen S (wG 6 false 17 y y y a0) y Try.underlying22 y y (lb y) fun a S=>sField (b:=b6) (off:=0) 0 0 S (wG 6 false 17 y y y a0) y y y y y (lb y) fun a S=>sLoad1 0 (iv p0.W) S (wG 6 false 17 y y y a0) y y y y y y (lb y) fun a S=>sField (b:=b6) (off:=0) 1 1 S (wG 6 false 17 y y y a0) y y y y y (lb y) fun a S=>sLoad1 0 (iv p0.H) S (wG 6 false 17 y y y a0) y y y y y y (lb y) fun a S=>sBin _ S (wG 6 false 17 y y y a0) y y y (bMul _ _ _ _ p0.W p0.H) y (lb y) fun a S=>sBin _ S (wG 6 false 17 y y y a0) y y y (bNe _ _ _ _ .i64 (p0.Bits.length:Int) (w64 (p0.W * p0.H))) y (lb y) fun a S=>sPickF (.bool ((p0.Bits.length:Int) != (w64 (p0.W * p0.H)))) S (wN y) y y a0 y y (lb y) fun a S=>sN S fun a S=>?_
 exact lT (⟨(p0.Bits.length:Int) != (w64 (p0.W * p0.H)),Option.some.inj h,S.fix [] [] (by decide) y y y⟩)
noncomputable def thread_check_l1 (a2:(List Int)):Int→Option (Int ⊕ (Int ⊕ Unit)):=fun s0=>match s0 with
 | a0=>
  if decide (a0 < (a2.length:Int)) then
   (idxO a2 a0).bind fun a3=>
   Option.bind (α:=Bool) (
    if decide (a3 < 0) then
     some true
    else
     some (decide (400 ≤ a3))) fun a4=>
   if a4 then
    some (.inr (.inl 8))
   else
    some (.inl (w64 (a0 + 1)))
  else
   some (.inr (.inr ()))
noncomputable def thread_check_l2 (p0:(List (List Int))):Int→Option (Int ⊕ (Int ⊕ Unit)):=fun s0=>match s0 with
 | s7=>
  if decide (s7 < (p0.length:Int)) then
   Option.bind (α:=Unit ⊕ Int) (
    (idxO p0 s7).bind fun a0=>
    if decide (400 < (a0.length:Int)) then
     some (.inr 4)
    else
     (whileO (thread_check_l1 a0) 0).bind fun z0=>match z0 with
      | .inl z=>
       some (.inr z)
      | .inr _=>
       some (.inl ())) fun z0=>match z0 with
    | .inl _=>
     some (.inl (w64 (s7 + 1)))
    | .inr z=>
     some (.inr (.inl z))
  else
   some (.inr (.inr ()))
noncomputable def F_thread_check (p0:(List (List Int))):Option Int:=
 Option.bind (α:=Unit ⊕ Int) (
  (whileO (thread_check_l2 p0) 0).bind fun z0=>match z0 with
   | .inl z=>
    some (.inr z)
   | .inr _=>
    some (.inl ())) fun z0=>match z0 with
  | .inl _=>
   some 0
  | .inr z=>
   some z
theorem c_thread_check (E:Nat→Prop) (w0:World) (p0:(List (List Int))) (v0:Value) (r:Int) (h:F_thread_check p0=some r) (S:St0 E [] w0 w0 [] [fRep (rL (rL (rI .i64))) (v0) p0]) :
 Calls Try.prog 47 #[v0] w0 (Ret (X:=Unit) E [] w0 (fun _=>.int .i64 r) (fun _=>[]) (fun _=>[])):=by
 unfold F_thread_check at h
 obtain ⟨a5,a6,_,rfl,_⟩:=S.know (i:=0) (e:=fRep (rL (rL (rI .i64))) (v0) p0) y
 refine sEnter (args:=[.slice a5 p0.length a6]) 30 Try.func47 y y (by simp) S (fun a S=>?_)
 refine sSeq (fun K3 aK=>sRegion (sN S fun a S=>?_))
 refine lT (aK _ _ ?_)
 obtain ⟨t4,h,g5⟩:=bS h
 refine sCut (fun a w=>.inl ()=t4∧St [] E [] w0 30 a w [] [] []) ?_ (fun a w hI=>?_)
 rotate_left
 ·obtain ⟨rfl,S⟩:=hI
  have h:=g5
  try dsimp only at h
  refine sSeq (fun aR af=>sRegion (sN S fun a S=>?_))
  refine lT (af _ _ ?_)
  obtain rfl:=tS h
  exact wp_ret (sRet (iv 0) S (rsl1 y (rvT (t:=2) (v:=iv 0) S y)) ⟨(),y,S.mem.sel [] [] (by decide) y y⟩)
 refine sSeq (fun K6 aL=>sRegion (sM S fun a S=>?_))
 refine sLen S (wN y) y Try.underlying79 y y (lb y) fun a S=>sM S fun a S=>?_
 refine lT (aL _ _ (wp_block ?_))
 obtain ⟨aS,hl,g9⟩:=bS h
 refine sLoop hl (fun s0 a w=>match s0 with | s7=>St [] E [] w0 30 a w [(7,.slice a5 p0.length a6),(8,iv (p0.length:Int)),(9,iv s7)] [] [fRep (rL (rL (rI .i64))) (.slice a5 p0.length a6) p0]) (S.fix [] [0] (by decide) y y y) ?_
 clear hl h
 intro s7 a w c0 hI h ag
 unfold thread_check_l2 at h
 dsimp only at h hI
 have S:=hI
 refine sSeq (fun aT ah=>sRegion (sBin _ S (wN y) y y y (bLt _ _ _ _ .i64 s7 (p0.length:Int)) y (lb y) fun a S=>lT (ah _ _ (sSeq (fun aU ai=>?_)))))
 rcases iS h with ⟨a8,h⟩ | ⟨a8,h⟩
 rotate_left
 ·refine sCondF S y a8 ?_
  obtain rfl:=tS h
  obtain rfl:=ag _ y
  have h:=g9
  try dsimp only at h
  exact wp_exit (xThen (xThen (xHit (leafT (⟨Option.some.inj h,S.fix [] [] (by decide) y y y⟩)))))
 refine sCondT S y a8 (wp_skip (leafT (ai _ _ ?_)))
 obtain ⟨aM,h,aj⟩:=bS h
 refine sCut (fun a w=>.inl ()=aM∧St [] E [] w0 30 a w [(7,.slice a5 p0.length a6),(8,iv (p0.length:Int)),(9,iv s7)] [] [fRep (rL (rL (rI .i64))) (.slice a5 p0.length a6) p0]) ?_ (fun a w hI=>?_)
 rotate_left
 ·obtain ⟨rfl,S⟩:=hI
  have h:=aj
  try dsimp only at h
  refine sRegion (sBin _ S (wN y) y y y (bAdd _ _ _ _ s7 1) y (lb y) fun a S=>sM S fun a S=>?_)
  exact lT (⟨w64 (s7 + 1),(Option.some.inj h).symm,(S.fix [] [0] (by decide) y y y)⟩)
 refine wp_block ?_
 refine sSeq (fun aV ak=>sRegion ?_)
 obtain ⟨a0,al,h⟩:=bS h
 obtain ⟨aG,am,S⟩:=pIdx (P:=Try.prog) (r:=(rL (rI .i64))) (v:=.slice a5 p0.length a6) (xs:=p0) (j:=s7) 79 25 0 S Try.underlying79 y y al
 refine sIdxV S (wN y) y y y am y (lb y) fun a S=>?_
 obtain ⟨aO,S⟩:=pLoad (r:=(rL (rI .i64))) (q:=aG) (x:=a0) 0 S y
 obtain ⟨a2,a3,_,rfl,_⟩:=S.mem.know (i:=1) (e:=fRep (rL (rI .i64)) (aO) a0) y
 refine sLoadV1 (vq:=aG) 0 (.slice a2 a0.length a3) S (wN y) y y y y y (lb y) fun a S=>sN S fun a S=>?_
 refine lT (ak _ _ (sSeq (fun aW ao=>sSeq (fun aX ap=>sRegion (sM S fun a S=>?_)))))
 refine sLen S (wN y) y Try.underlying25 y y (lb y) fun a S=>sBin _ S (wN y) y y y (bGt _ _ _ _ .i64 (a0.length:Int) 400) y (lb y) fun a S=>lT (ap _ _ ?_)
 rcases iS h with ⟨a9,h⟩ | ⟨a9,h⟩
 ·refine sCondT S y a9 (sSeq (fun aZ aq=>sRegion (sN S fun a S=>?_)))
  refine lT (aq _ _ ?_)
  obtain rfl:=tS h
  have h:=aj
  try dsimp only at h
  obtain rfl:=tS h
  obtain rfl:=ag _ y
  have h:=g9
  try dsimp only at h
  obtain rfl:=tS h
  have h:=g5
  try dsimp only at h
  obtain rfl:=tS h
  exact wp_ret (rThen (rBlock (rThen (rThen (rBlock (rThen (sRet (iv 4) S (rsl1 y (rvT (t:=2) (v:=iv 4) S y)) ⟨(),y,S.mem.sel [] [] (by decide) y y⟩)))))))
 refine sCondF S y a9 (wp_skip (leafT (ao _ _ ?_)))
 refine sSeq (fun b1 ar=>sRegion (sM S fun a S=>?_))
 refine sLen S (wN y) y Try.underlying25 y y (lb y) fun a S=>sM S fun a S=>?_
 refine lT (ar _ _ (wp_block ?_))
 obtain ⟨b3,hl,aH⟩:=bS h
 refine sLoop hl (fun s0 a w=>match s0 with | aa=>St [] E [] w0 30 a w [(7,.slice a5 p0.length a6),(8,iv (p0.length:Int)),(9,iv s7),(16,.slice a2 a0.length a3),(17,iv (a0.length:Int)),(18,iv aa)] [] [fRep (rL (rL (rI .i64))) (.slice a5 p0.length a6) p0,fRep (rL (rI .i64)) (.slice a2 a0.length a3) a0]) (S.fix [] [3,1] (by decide) y y y) ?_
 clear hl h
 intro aa a w c0 hI h ae
 unfold thread_check_l1 at h
 dsimp only at h hI
 have S:=hI
 refine sSeq (fun b4 au=>sRegion (sBin _ S (wN y) y y y (bLt _ _ _ _ .i64 aa (a0.length:Int)) y (lb y) fun a S=>lT (au _ _ (sSeq (fun b5 av=>?_)))))
 rcases iS h with ⟨ab,h⟩ | ⟨ab,h⟩
 rotate_left
 ·refine sCondF S y ab ?_
  obtain rfl:=tS h
  obtain rfl:=ae _ y
  have h:=aH
  try dsimp only at h
  exact wp_exit (xThen (xThen (xHit (leafB (leafT (⟨Option.some.inj h,S.fix [] [0] (by decide) y y y⟩))))))
 refine sCondT S y ab (wp_skip (leafT (av _ _ ?_)))
 refine sSeq (fun ba aw=>wp_block ?_)
 refine sSeq (fun bb ax=>sRegion ?_)
 obtain ⟨a7,ay,h⟩:=bS h
 obtain ⟨aI,az,S⟩:=pIdx (P:=Try.prog) (r:=(rI .i64)) (v:=.slice a2 a0.length a3) (xs:=a0) (j:=aa) 25 3 1 S Try.underlying25 y y ay
 refine sIdxV S (wN y) y y y az y (lb y) fun a S=>?_
 obtain ⟨aJ,S⟩:=pLoad (r:=(rI .i64)) (q:=aI) (x:=a7) 0 S y
 obtain rfl:aJ=iv a7:=S.mem.know (i:=1) (e:=fRep (rI .i64) (aJ) a7) y
 refine sLoadV1 (vq:=aI) 0 (iv a7) S (wN y) y y y y y (lb y) fun a S=>sN S fun a S=>?_
 refine lT (ax _ _ ?_)
 obtain ⟨aP,h,aQ⟩:=bS h
 refine sCut (fun a w=>∃ aA,aA=aP∧St [] E [] w0 30 a w [(7,.slice a5 p0.length a6),(8,iv (p0.length:Int)),(9,iv s7),(16,.slice a2 a0.length a3),(17,iv (a0.length:Int)),(18,iv aa),(27,.bool aA)] [] [fRep (rL (rL (rI .i64))) (.slice a5 p0.length a6) p0,fRep (rL (rI .i64)) (.slice a2 a0.length a3) a0]) ?_ (fun a w hI=>?_)
 ·refine sRegion (sM S fun a S=>?_)
  refine sBin _ S (wN y) y y y (bLt _ _ _ _ .i64 a7 0) y (lb y) fun a S=>sM S fun a S=>?_
  rcases iS h with ⟨a4,h⟩ | ⟨a4,h⟩
  ·refine sSkN 2 2 false 24 S y y a4 y fun a S=>sPickT (.bool true) S (wN y) y y a4 y y (lb y) fun a S=>?_
   exact lT (⟨true,Option.some.inj h,S.fix [] [3,4] (by decide) y y y⟩)
  refine sMove (iv a7) S (wG 2 false 24 y y y a4) (.inl y) y y (lb y) fun a S=>sBin _ S (wG 2 false 24 y y y a4) y y y (bGe _ _ _ _ .i64 a7 400) y (lb y) fun a S=>sPickF (.bool (decide (400 ≤ a7))) S (wN y) y y a4 y y (lb y) fun a S=>?_
  exact lT (⟨decide (400 ≤ a7),Option.some.inj h,S.fix [] [3,4] (by decide) y y y⟩)
 obtain ⟨aA,rfl,S⟩:=hI
 have h:=aQ
 try dsimp only at h
 rcases iS h with ⟨ac,h⟩ | ⟨ac,h⟩
 rotate_left
 ·refine sCondF S y ac (wp_skip (leafB (leafT (aw _ _ ?_))))
  refine sRegion (sBin _ S (wN y) y y y (bAdd _ _ _ _ aa 1) y (lb y) fun a S=>sM S fun a S=>?_)
  exact lT (⟨w64 (aa + 1),(Option.some.inj h).symm,(S.fix [] [0,1] (by decide) y y y)⟩)
 refine sCondT S y ac (sSeq (fun bc aC=>sRegion (sN S fun a S=>?_)))
 refine lT (aC _ _ ?_)
 obtain rfl:=tS h
 obtain rfl:=ae _ y
 have h:=aH
 try dsimp only at h
 obtain rfl:=tS h
 have h:=aj
 try dsimp only at h
 obtain rfl:=tS h
 obtain rfl:=ag _ y
 have h:=g9
 try dsimp only at h
 obtain rfl:=tS h
 have h:=g5
 try dsimp only at h
 obtain rfl:=tS h
 exact wp_ret (rBlock (rThen (rThen (rBlock (rBlock (rThen (rThen (rBlock (rThen (sRet (iv 8) S (rsl1 y (rvT (t:=2) (v:=iv 8) S y)) ⟨(),y,S.mem.sel [] [] (by decide) y y⟩))))))))))
noncomputable def F_thread_Check (p0:(List Int)):Option Int:=
 (F_thread_check [p0]).bind fun r7=>
 some r7
theorem c_thread_Check (E:Nat→Prop) (w0:World) (p0:(List Int)) (v0:Value) (r:Int) (h:F_thread_Check p0=some r) (S:St0 E [] w0 w0 [] [fRep (rL (rI .i64)) (v0) p0]) :
 Calls Try.prog 36 #[v0] w0 (Ret (X:=Unit) E [] w0 (fun _=>.int .i64 r) (fun _=>[]) (fun _=>[])):=by
 unfold F_thread_Check at h
 obtain ⟨a0,a2,_,rfl,_⟩:=S.know (i:=0) (e:=fRep (rL (rI .i64)) (v0) p0) y
 refine sEnter (args:=[.slice a0 p0.length a2]) 6 Try.func36 y y (by simp) S (fun a S=>?_)
 refine sSeq (fun K3 a5=>sRegion (sN S fun a S=>?_))
 refine lT (a5 _ _ (sSeq (fun K4 a6=>sRegion (sM S fun a S=>?_))))
 refine sLit (r:=(rL (rI .i64))) (T:=25) (xs:=[p0]) [(0,.slice a0 p0.length a2)] 1 [.slice a0 p0.length a2] [.slice a0 p0.length a2] (.slice none 0 0) 24 S (wN y) y y Try.underlying79 y (by decide) (by decide) (by kernel_rfl) y (fun E1 w1 hE=>All.cons ((rL (rI .i64)).mono hE (S.mem.know (i:=0) (e:=fRep (rL (rI .i64)) (.slice a0 p0.length a2) p0) y)) (All.nil _ _ _)) y y (lb y) fun a w a3 a4 S=>?_
 obtain ⟨r7,a7,h⟩:=bS h
 have S1:=S.mem
 have S1:=S1.shutR (r:=(rL (rI .i64))) (T:=25) (v:=.slice a3 [p0].length a4) (xs:=[p0]) 0 y
 refine sCq [.slice a3 [p0].length a4] (iv r7) S callee47 (S1.quiet [0] y) (fun E1 w1 S1=>c_thread_check E1 w1 [p0] (.slice a3 [p0].length a4) r7 a7 S1) fun a w S=>?_
 refine sN S fun a S=>?_
 refine lT (a6 _ _ ?_)
 obtain rfl:=tS h
 exact wp_ret (sRet (iv r7) S (rsl1 y (rvT (t:=2) (v:=iv r7) S y)) ⟨(),y,S.mem.sel [] [] (by decide) y y⟩)
noncomputable def reduce_Change_l1 (a5:List Bool) (p1:(List Int)):(Int × List (Int × Int))→Option ((Int × List (Int × Int)) ⊕ List (Int × Int)):=fun s0=>match s0 with
 | (a0,a2)=>
  if decide (a0 < (a5.length:Int)) then
   Option.bind (α:=List (Int × Int)) (
    (idxO a5 a0).bind fun a8=>
    if a8 then
     (idxO p1 a0).bind fun a6=>
     (lkO a2 a6).bind fun a9=>
     (updM a2 a6 (w64 (a9 + 1))).bind fun aa=>
     some aa
    else
     (idxO p1 a0).bind fun a7=>
     (lkO a2 a7).bind fun a3=>
     (updM a2 a7 (w64 (a3 - 1))).bind fun a4=>
     some a4) fun ab=>
   some (.inl (w64 (a0 + 1),ab))
  else
   some (.inr a2)
noncomputable def reduce_Change_l2 (aa:List Bool) (p1:(List Int)) (ab:List (Int × Int)):(Int × Int × List Bool)→Option ((Int × Int × List Bool) ⊕ (Int × List Bool)):=fun s0=>match s0 with
 | (a2,a0,a3)=>
  if decide (a0 < (aa.length:Int)) then
   Option.bind (α:=(Int × List Bool)) (
    (idxO aa a0).bind fun a6=>
    (idxO p1 a0).bind fun a7=>
    (lkO ab a7).bind fun a4=>
    (appO a3 [decide (0 < a4)]).bind fun a5=>
    if (decide (0 < a4)) != a6 then
     some (w64 (a2 + 1),a5)
    else
     some (a2,a5)) fun (a8,a9)=>
   some (.inl (a8,w64 (a0 + 1),a9))
  else
   some (.inr (a2,a3))
noncomputable def reduce_Change_l3 (p0:api_Grid) (p1:(List Int)):(Int × Int × List Bool)→Option ((Int × Int × List Bool) ⊕ (Int × List Bool)):=fun s0=>match s0 with
 | (a4,a0,a5)=>
  if decide (a0 < p0.H) then
   Option.bind (α:=(Int × List Bool)) (
    (sliceO p0.Bits (w64 (a0 * p0.W)) (w64 ((w64 (a0 + 1)) * p0.W))).bind fun a6=>
    Option.bind (α:=List (Int × Int)) (
     (whileO (reduce_Change_l1 a6 p1) (0,([]:List (Int × Int)))).bind fun a7=>
      some a7) fun a8=>
    (whileO (reduce_Change_l2 a6 p1 a8) (a4,0,a5)).bind fun (a2,a3)=>
     some (a2,a3)) fun (a9,aa)=>
   some (.inl (a9,w64 (a0 + 1),aa))
  else
   some (.inr (a4,a5))
noncomputable def F_reduce_Change (p0:api_Grid) (p1:(List Int)):Option (api_Grid × Int × Int):=
 (F_grid_Check p0).bind fun a0=>
 if a0 != 0 then
  some ((api_Grid.mk 0 0 ([]:(List Bool))),0,a0)
 else
  (F_thread_Check p1).bind fun a2=>
  if a2 != 0 then
   some ((api_Grid.mk 0 0 ([]:(List Bool))),0,a2)
  else
   if (p1.length:Int) != p0.W then
    some ((api_Grid.mk 0 0 ([]:(List Bool))),0,26)
   else
    Option.bind (α:=(Int × List Bool)) (
     (whileO (reduce_Change_l3 p0 p1) (0,0,([]:List Bool))).bind fun (a3,a4)=>
      some (a3,a4)) fun (a5,a6)=>
    some ((api_Grid.mk p0.W p0.H a6),a5,0)
def c_reduce_Change_val (r:(api_Grid × Int × Int)) (x:Value):Value:=.tuple #[x,.int .i64 r.2.1,.int .i64 r.2.2]
def c_reduce_Change_D (r:(api_Grid × Int × Int)) (x:Value):List Fact:=[fRep r_api_Grid x r.1]
theorem c_reduce_Change (E:Nat→Prop) (w0:World) (p0:api_Grid) (v0:Value) (p1:(List Int)) (v1:Value) (r:(api_Grid × Int × Int)) (h:F_reduce_Change p0 p1=some r) (S:St0 E [] w0 w0 [] [fRep r_api_Grid (v0) p0,fRep (rL (rI .i64)) (v1) p1]) :
 Calls Try.prog 12 #[v0,v1] w0 (Ret (X:=Value) E [] w0 (c_reduce_Change_val r) (fun _=>[]) (c_reduce_Change_D r)):=by
 unfold F_reduce_Change at h
 obtain ⟨u1,rfl,cv⟩:=S.know (i:=0) (e:=fRep r_api_Grid (v0) p0) y
 have S:=S.learn (fRep (rL rB) u1 p0.Bits) cv
 obtain ⟨a6,a7,_,rfl,_⟩:=cv
 obtain ⟨ae,af,_,rfl,_⟩:=S.know (i:=2) (e:=fRep (rL (rI .i64)) (v1) p1) y
 refine sEnter (args:=[.agg #[iv p0.W,iv p0.H,.slice a6 p0.Bits.length a7],.slice ae p1.length af]) 111 Try.func12 y y (by simp) S (fun a S=>?_)
 refine sSeq (fun K7 cC=>sRegion (sBox (v:=.agg #[iv p0.W,iv p0.H,.slice a6 p0.Bits.length a7]) S (wN y) y y [iv p0.W,iv p0.H,.slice a6 p0.Bits.length a7] y y (lb y) fun a b8 w S=>sAlloc (.agg #[iv 0,iv 0,.slice none 0 0]) S (wN y) y y [iv 0,iv 0,.slice none 0 0] y y (lb y) fun a b9 w S=>sN S fun a S=>?_))
 refine sN S fun a S=>?_
 refine lT (cC _ _ (sSeq (fun cW bH=>sSeq (fun cX bI=>sRegion (sLoadN (p:=b8) (off:=0) (T:=24) (vs:=[iv p0.W,iv p0.H,.slice a6 p0.Bits.length a7]) 1 [iv p0.W,iv p0.H,.slice a6 p0.Bits.length a7] S (wN y) y y y y y y y (lb y) fun a S=>?_)))))
 obtain ⟨aW,bJ,h⟩:=bS h
 have S1:=S.mem
 refine sCq [.agg #[iv p0.W,iv p0.H,.slice a6 p0.Bits.length a7]] (iv aW) S callee35 (S1.quiet [1] y) (fun E1 w1 S1=>c_grid_Check E1 w1 p0 (.agg #[iv p0.W,iv p0.H,.slice a6 p0.Bits.length a7]) aW bJ S1) fun a w S=>?_
 refine sN S fun a S=>?_
 refine lT (bI _ _ (sSeq (fun cY bK=>sRegion (sM S fun a S=>?_))))
 refine sBin _ S (wN y) y y y (bNe _ _ _ _ .i64 aW 0) y (lb y) fun a S=>lT (bK _ _ ?_)
 rcases iS h with ⟨aJ,h⟩ | ⟨aJ,h⟩
 ·refine sCondT S y aJ (sSeq (fun cZ bL=>sRegion (sBuild [] [iv 0,iv 0,.slice none 0 0] S (wN y) y y y y (lb y) fun a S=>sM S fun a S=>?_)))
  refine sStore (p:=b9) (off:=0) (T:=24) (vs:=[iv 0,iv 0,.slice none 0 0]) (v:=.agg #[iv 0,iv 0,.slice none 0 0]) 0 [iv 0,iv 0,.slice none 0 0] S (wN y) y y y y y y y (by simp) y fun a w S=>sN S fun a S=>?_
  refine sN S fun a S=>?_
  refine lT (bL _ _ ?_)
  obtain rfl:=tS h
  have S:=S.learn (fRep (rL rB) (.slice none 0 0) ([]:(List Bool))) (rL_nil _ _ _)
  have S:=S.learn (fRep r_api_Grid (.agg #[iv 0,iv 0,.slice none 0 0]) (api_Grid.mk 0 0 ([]:(List Bool)))) ⟨_,y,S.mem.know (i:=0) (e:=fRep (rL rB) (.slice none 0 0) ([]:(List Bool))) y⟩
  exact wp_ret (rThen (sRet (.tuple #[.agg #[iv 0,iv 0,.slice none 0 0],iv 0,iv aW]) S (rsl3 y (rvN (c:=4) (t:=24) (T:=24) (p:=b9) 0 [iv 0,iv 0,.slice none 0 0] S y y y y) (rvT (t:=5) (v:=iv 0) S y) (rvT (t:=6) (v:=iv aW) S y)) ⟨(.agg #[iv 0,iv 0,.slice none 0 0]),y,S.mem.sel [] [0] (by decide) y y⟩))
 refine sCondF S y aJ (wp_skip (leafT (bH _ _ ?_)))
 refine sSeq (fun d3 bM=>sSeq (fun d4 bN=>sRegion (sM S fun a S=>?_)))
 obtain ⟨aX,bO,h⟩:=bS h
 have S1:=S.mem
 refine sCq [.slice ae p1.length af] (iv aX) S callee36 (S1.quiet [2] y) (fun E1 w1 S1=>c_thread_Check E1 w1 p1 (.slice ae p1.length af) aX bO S1) fun a w S=>?_
 refine sN S fun a S=>?_
 refine lT (bN _ _ (sSeq (fun d5 bP=>sRegion (sM S fun a S=>?_))))
 refine sBin _ S (wN y) y y y (bNe _ _ _ _ .i64 aX 0) y (lb y) fun a S=>lT (bP _ _ ?_)
 rcases iS h with ⟨aK,h⟩ | ⟨aK,h⟩
 ·refine sCondT S y aK (sSeq (fun d6 bQ=>sRegion (sBuild [] [iv 0,iv 0,.slice none 0 0] S (wN y) y y y y (lb y) fun a S=>sM S fun a S=>?_)))
  refine sStore (p:=b9) (off:=0) (T:=24) (vs:=[iv 0,iv 0,.slice none 0 0]) (v:=.agg #[iv 0,iv 0,.slice none 0 0]) 0 [iv 0,iv 0,.slice none 0 0] S (wN y) y y y y y y y (by simp) y fun a w S=>sN S fun a S=>?_
  refine sN S fun a S=>?_
  refine lT (bQ _ _ ?_)
  obtain rfl:=tS h
  have S:=S.learn (fRep (rL rB) (.slice none 0 0) ([]:(List Bool))) (rL_nil _ _ _)
  have S:=S.learn (fRep r_api_Grid (.agg #[iv 0,iv 0,.slice none 0 0]) (api_Grid.mk 0 0 ([]:(List Bool)))) ⟨_,y,S.mem.know (i:=0) (e:=fRep (rL rB) (.slice none 0 0) ([]:(List Bool))) y⟩
  exact wp_ret (rThen (sRet (.tuple #[.agg #[iv 0,iv 0,.slice none 0 0],iv 0,iv aX]) S (rsl3 y (rvN (c:=4) (t:=24) (T:=24) (p:=b9) 0 [iv 0,iv 0,.slice none 0 0] S y y y y) (rvT (t:=5) (v:=iv 0) S y) (rvT (t:=6) (v:=iv aX) S y)) ⟨(.agg #[iv 0,iv 0,.slice none 0 0]),y,S.mem.sel [] [0] (by decide) y y⟩))
 refine sCondF S y aK (wp_skip (leafT (bM _ _ ?_)))
 refine sSeq (fun d7 bR=>sSeq (fun d8 bU=>sRegion (sM S fun a S=>?_)))
 refine sLen S (wN y) y Try.underlying25 y y (lb y) fun a S=>sField (b:=b8) (off:=0) 0 0 S (wN y) y y y y y (lb y) fun a S=>sLoad1 1 (iv p0.W) S (wN y) y y y y y y (lb y) fun a S=>sBin _ S (wN y) y y y (bNe _ _ _ _ .i64 (p1.length:Int) p0.W) y (lb y) fun a S=>lT (bU _ _ ?_)
 rcases iS h with ⟨aL,h⟩ | ⟨aL,h⟩
 ·refine sCondT S y aL (sSeq (fun d9 bV=>sRegion (sBuild [] [iv 0,iv 0,.slice none 0 0] S (wN y) y y y y (lb y) fun a S=>sStore (p:=b9) (off:=0) (T:=24) (vs:=[iv 0,iv 0,.slice none 0 0]) (v:=.agg #[iv 0,iv 0,.slice none 0 0]) 0 [iv 0,iv 0,.slice none 0 0] S (wN y) y y y y y y y (by simp) y fun a w S=>sN S fun a S=>?_)))
  refine sN S fun a S=>?_
  refine lT (bV _ _ ?_)
  obtain rfl:=tS h
  have S:=S.learn (fRep (rL rB) (.slice none 0 0) ([]:(List Bool))) (rL_nil _ _ _)
  have S:=S.learn (fRep r_api_Grid (.agg #[iv 0,iv 0,.slice none 0 0]) (api_Grid.mk 0 0 ([]:(List Bool)))) ⟨_,y,S.mem.know (i:=0) (e:=fRep (rL rB) (.slice none 0 0) ([]:(List Bool))) y⟩
  exact wp_ret (rThen (sRet (.tuple #[.agg #[iv 0,iv 0,.slice none 0 0],iv 0,iv 26]) S (rsl3 y (rvN (c:=4) (t:=24) (T:=24) (p:=b9) 0 [iv 0,iv 0,.slice none 0 0] S y y y y) (rvT (t:=5) (v:=iv 0) S y) (rvT (t:=6) (v:=iv 26) S y)) ⟨(.agg #[iv 0,iv 0,.slice none 0 0]),y,S.mem.sel [] [0] (by decide) y y⟩))
 refine sCondF S y aL (wp_skip (leafT (bR _ _ ?_)))
 refine sSeq (fun da bW=>sRegion (sField (b:=b8) (off:=0) 0 0 S (wN y) y y y y y (lb y) fun a S=>sLoad1 1 (iv p0.W) S (wN y) y y y y y y (lb y) fun a S=>sField (b:=b8) (off:=0) 1 1 S (wN y) y y y y y (lb y) fun a S=>sLoad1 1 (iv p0.H) S (wN y) y y y y y y (lb y) fun a S=>sBuild [(0,iv p0.W),(1,iv p0.H)] [iv p0.W,iv p0.H,.slice none 0 0] S (wN y) y y y y (lb y) fun a S=>sAlloc (.agg #[iv 0,iv 0,.slice none 0 0]) S (wN y) y y [iv 0,iv 0,.slice none 0 0] y y (lb y) fun a ac w S=>sStore (p:=ac) (off:=0) (T:=24) (vs:=[iv 0,iv 0,.slice none 0 0]) (v:=.agg #[iv p0.W,iv p0.H,.slice none 0 0]) 0 [iv p0.W,iv p0.H,.slice none 0 0] S (wN y) y y y y y y y (by simp) y fun a w S=>lT (bW _ _ ?_)))
 obtain ⟨cD,h,cE⟩:=bS h
 refine sCut (fun a w=>∃ aZ,∃ ah,(aZ,ah)=cD∧∃ a3,∃ a4,St [] E [] w0 111 a w [(4,.pointer (some ⟨b9,0,none⟩)),(5,iv aZ),(9,.pointer (some ⟨ac,0,none⟩))] [eBox b9 24 [iv 0,iv 0,.slice none 0 0],eBox ac 24 [iv p0.W,iv p0.H,.slice a3 ah.length a4],eRow rB 4 (.slice a3 ah.length a4) ah] []) ?_ (fun a w hI=>?_)
 rotate_left
 ·obtain ⟨aZ,ah,rfl,a3,a4,S⟩:=hI
  have h:=cE
  try dsimp only at h
  refine sSeq (fun cF b1=>sRegion (sLoadN (p:=ac) (off:=0) (T:=24) (vs:=[iv p0.W,iv p0.H,.slice a3 ah.length a4]) 1 [iv p0.W,iv p0.H,.slice a3 ah.length a4] S (wN y) y y y y y y y (lb y) fun a S=>sM S fun a S=>?_))
  refine sStore (p:=b9) (off:=0) (T:=24) (vs:=[iv 0,iv 0,.slice none 0 0]) (v:=.agg #[iv p0.W,iv p0.H,.slice a3 ah.length a4]) 0 [iv p0.W,iv p0.H,.slice a3 ah.length a4] S (wN y) y y y y y y y (by simp) y fun a w S=>sN S fun a S=>?_
  refine sN S fun a S=>?_
  refine lT (b1 _ _ ?_)
  obtain rfl:=tS h
  have S:=S.shutR (r:=rB) (T:=4) (v:=.slice a3 ah.length a4) (xs:=ah) 2 y
  have S:=S.learn (fRep r_api_Grid (.agg #[iv p0.W,iv p0.H,.slice a3 ah.length a4]) (api_Grid.mk p0.W p0.H ah)) ⟨_,y,S.mem.know (i:=0) (e:=fRep (rL rB) (.slice a3 ah.length a4) ah) y⟩
  exact wp_ret (sRet (.tuple #[.agg #[iv p0.W,iv p0.H,.slice a3 ah.length a4],iv aZ,iv 0]) S (rsl3 y (rvN (c:=4) (t:=24) (T:=24) (p:=b9) 0 [iv p0.W,iv p0.H,.slice a3 ah.length a4] S y y y y) (rvT (t:=5) (v:=iv aZ) S y) (rvT (t:=6) (v:=iv 0) S y)) ⟨(.agg #[iv p0.W,iv p0.H,.slice a3 ah.length a4]),y,S.mem.sel [] [0] (by decide) y y⟩)
 refine sSeq (fun db bX=>sRegion (sField (b:=b8) (off:=0) 1 1 S (wN y) y y y y y (lb y) fun a S=>sLoad1 2 (iv p0.H) S (wN y) y y y y y y (lb y) fun a S=>sM S fun a S=>?_))
 refine lT (bX _ _ (wp_block ?_))
 have S:=S.nilRow rB 4 (α:=Bool)
 obtain ⟨dc,hl,cG⟩:=bS h
 refine sLoop hl (fun s0 a w=>match s0 with | (aR,ai,am)=>∃ a8,∃ a9,St [] E [] w0 111 a w [(1,.slice ae p1.length af),(2,.pointer (some ⟨b8,0,none⟩)),(4,.pointer (some ⟨b9,0,none⟩)),(5,iv aR),(9,.pointer (some ⟨ac,0,none⟩)),(42,iv p0.H),(43,iv ai)] [eBox b8 24 [iv p0.W,iv p0.H,.slice a6 p0.Bits.length a7],eBox b9 24 [iv 0,iv 0,.slice none 0 0],eBox ac 24 [iv p0.W,iv p0.H,.slice a8 am.length a9],eRow rB 4 (.slice a8 am.length a9) am] [fRep (rL (rI .i64)) (.slice ae p1.length af) p1,fRep (rL rB) (.slice a6 p0.Bits.length a7) p0.Bits]) ⟨none,0,S.fix [3,2,1,0] [2,0] (by decide) y y y⟩ ?_
 clear hl h
 intro s0 a w c0 hI h bY
 obtain ⟨aR,ai,am⟩:=s0
 unfold reduce_Change_l3 at h
 dsimp only at h hI
 obtain ⟨a8,a9,S⟩:=hI
 refine sSeq (fun de bZ=>sRegion (sBin _ S (wN y) y y y (bLt _ _ _ _ .i64 ai p0.H) y (lb y) fun a S=>lT (bZ _ _ (sSeq (fun df c7=>?_)))))
 rcases iS h with ⟨aM,h⟩ | ⟨aM,h⟩
 rotate_left
 ·refine sCondF S y aM ?_
  obtain rfl:=tS h
  obtain rfl:=bY _ y
  have h:=cG
  try dsimp only at h
  exact wp_exit (xThen (xThen (xHit (leafT (⟨aR,am,Option.some.inj h,a8,a9,S.fix [1,2,3] [] (by decide) y y y⟩)))))
 refine sCondT S y aM (wp_skip (leafT (c7 _ _ ?_)))
 obtain ⟨cH,h,cI⟩:=bS h
 refine sCut (fun a w=>∃ bD,∃ aS,(bD,aS)=cH∧∃ aA,∃ aC,St [] E [] w0 111 a w [(1,.slice ae p1.length af),(2,.pointer (some ⟨b8,0,none⟩)),(4,.pointer (some ⟨b9,0,none⟩)),(5,iv bD),(9,.pointer (some ⟨ac,0,none⟩)),(42,iv p0.H),(43,iv ai)] [eBox b8 24 [iv p0.W,iv p0.H,.slice a6 p0.Bits.length a7],eBox b9 24 [iv 0,iv 0,.slice none 0 0],eBox ac 24 [iv p0.W,iv p0.H,.slice aA aS.length aC],eRow rB 4 (.slice aA aS.length aC) aS] [fRep (rL (rI .i64)) (.slice ae p1.length af) p1,fRep (rL rB) (.slice a6 p0.Bits.length a7) p0.Bits]) ?_ (fun a w hI=>?_)
 rotate_left
 ·obtain ⟨bD,aS,rfl,aA,aC,S⟩:=hI
  have h:=cI
  try dsimp only at h
  refine sRegion (sBin _ S (wN y) y y y (bAdd _ _ _ _ ai 1) y (lb y) fun a S=>sM S fun a S=>?_)
  exact lT (⟨(bD,w64 (ai + 1),aS),(Option.some.inj h).symm,⟨aA,aC,S.fix [0,1,2,3] [0,1] (by decide) y y y⟩⟩)
 refine wp_block ?_
 refine sSeq (fun dg c8=>sRegion (sM S fun a S=>?_))
 refine sN S fun a S=>?_
 refine lT (c8 _ _ (sSeq (fun dh c9=>sRegion (sField (b:=b8) (off:=0) 2 2 S (wN y) y y y y y (lb y) fun a S=>sLoad1 0 (.slice a6 p0.Bits.length a7) S (wN y) y y y y y y (lb y) fun a S=>sM S fun a S=>?_))))
 refine sField (b:=b8) (off:=0) 0 0 S (wN y) y y y y y (lb y) fun a S=>sLoad1 0 (iv p0.W) S (wN y) y y y y y y (lb y) fun a S=>sBin _ S (wN y) y y y (bMul _ _ _ _ ai p0.W) y (lb y) fun a S=>sM S fun a S=>?_
 refine sBin _ S (wN y) y y y (bAdd _ _ _ _ ai 1) y (lb y) fun a S=>sField (b:=b8) (off:=0) 0 0 S (wN y) y y y y y (lb y) fun a S=>sLoad1 0 (iv p0.W) S (wN y) y y y y y y (lb y) fun a S=>sBin _ S (wN y) y y y (bMul _ _ _ _ (w64 (ai + 1)) p0.W) y (lb y) fun a S=>?_
 obtain ⟨a5,ca,h⟩:=bS h
 refine sSlice (r:=rB) (v:=.slice a6 p0.Bits.length a7) (xs:=p0.Bits) (vlo:=(some (.int .i64 (w64 (ai * p0.W))))) (vhi:=(some (.int .i64 (w64 ((w64 (ai + 1)) * p0.W))))) (lo':=w64 (ai * p0.W)) (hi':=w64 ((w64 (ai + 1)) * p0.W)) 1 S (wN y) y Try.underlying22 y y y y y (.inl y) (.inl y) ca y (lb y) fun a a0 a2 S=>?_
 refine sN S fun a S=>?_
 refine lT (c9 _ _ (sSeq (fun di cc=>sRegion (sMakeMap 3 S (wN y) y y (lb y) fun a al w S=>?_))))
 refine sN S fun a S=>?_
 refine lT (cc _ _ ?_)
 obtain ⟨cJ,h,cK⟩:=bS h
 refine sCut (fun a w=>∃ aT,aT=cJ∧St [] E [] w0 111 a w [(1,.slice ae p1.length af),(2,.pointer (some ⟨b8,0,none⟩)),(4,.pointer (some ⟨b9,0,none⟩)),(5,iv aR),(9,.pointer (some ⟨ac,0,none⟩)),(11,.slice a0 a5.length a2),(12,.map (some al)),(42,iv p0.H),(43,iv ai)] [eBox b8 24 [iv p0.W,iv p0.H,.slice a6 p0.Bits.length a7],eBox b9 24 [iv 0,iv 0,.slice none 0 0],eBox ac 24 [iv p0.W,iv p0.H,.slice a8 am.length a9],eMap Try.prog 3 al aT,eRow rB 4 (.slice a8 am.length a9) am] [fRep (rL (rI .i64)) (.slice ae p1.length af) p1,fRep (rL rB) (.slice a0 a5.length a2) a5,fRep (rL rB) (.slice a6 p0.Bits.length a7) p0.Bits]) ?_ (fun a w hI=>?_)
 ·refine sSeq (fun dj cd=>sRegion (sM S fun a S=>?_))
  refine sLen S (wN y) y Try.underlying22 y y (lb y) fun a S=>sM S fun a S=>?_
  refine lT (cd _ _ (wp_block ?_))
  obtain ⟨dk,hl,cL⟩:=bS h
  refine sLoop hl (fun s0 a w=>match s0 with | (aG,aO)=>St [] E [] w0 111 a w [(1,.slice ae p1.length af),(2,.pointer (some ⟨b8,0,none⟩)),(4,.pointer (some ⟨b9,0,none⟩)),(5,iv aR),(9,.pointer (some ⟨ac,0,none⟩)),(11,.slice a0 a5.length a2),(12,.map (some al)),(42,iv p0.H),(43,iv ai),(59,.slice a0 a5.length a2),(60,iv (a5.length:Int)),(61,iv aG)] [eBox b8 24 [iv p0.W,iv p0.H,.slice a6 p0.Bits.length a7],eBox b9 24 [iv 0,iv 0,.slice none 0 0],eBox ac 24 [iv p0.W,iv p0.H,.slice a8 am.length a9],eMap Try.prog 3 al aO,eRow rB 4 (.slice a8 am.length a9) am] [fRep (rL (rI .i64)) (.slice ae p1.length af) p1,fRep (rL rB) (.slice a0 a5.length a2) a5,fRep (rL rB) (.slice a6 p0.Bits.length a7) p0.Bits]) (S.fix [1,2,3,0,4] [1,0,2] (by decide) y y y) ?_
  clear hl h
  intro s0 a w c0 hI h ce
  obtain ⟨aG,aO⟩:=s0
  unfold reduce_Change_l1 at h
  dsimp only at h hI
  have S:=hI
  refine sSeq (fun dl cg=>sRegion (sBin _ S (wN y) y y y (bLt _ _ _ _ .i64 aG (a5.length:Int)) y (lb y) fun a S=>lT (cg _ _ (sSeq (fun dm ci=>?_)))))
  rcases iS h with ⟨aP,h⟩ | ⟨aP,h⟩
  rotate_left
  ·refine sCondF S y aP ?_
   obtain rfl:=tS h
   obtain rfl:=ce _ y
   have h:=cL
   try dsimp only at h
   exact wp_exit (xThen (xThen (xHit (leafT (⟨aO,Option.some.inj h,S.fix [0,1,2,3,4] [0,1,2] (by decide) y y y⟩)))))
  refine sCondT S y aP (wp_skip (leafT (ci _ _ ?_)))
  obtain ⟨cM,h,cN⟩:=bS h
  refine sCut (fun a w=>∃ bE,bE=cM∧St [] E [] w0 111 a w [(1,.slice ae p1.length af),(2,.pointer (some ⟨b8,0,none⟩)),(4,.pointer (some ⟨b9,0,none⟩)),(5,iv aR),(9,.pointer (some ⟨ac,0,none⟩)),(11,.slice a0 a5.length a2),(12,.map (some al)),(42,iv p0.H),(43,iv ai),(59,.slice a0 a5.length a2),(60,iv (a5.length:Int)),(61,iv aG)] [eBox b8 24 [iv p0.W,iv p0.H,.slice a6 p0.Bits.length a7],eBox b9 24 [iv 0,iv 0,.slice none 0 0],eBox ac 24 [iv p0.W,iv p0.H,.slice a8 am.length a9],eMap Try.prog 3 al bE,eRow rB 4 (.slice a8 am.length a9) am] [fRep (rL (rI .i64)) (.slice ae p1.length af) p1,fRep (rL rB) (.slice a0 a5.length a2) a5,fRep (rL rB) (.slice a6 p0.Bits.length a7) p0.Bits]) ?_ (fun a w hI=>?_)
  rotate_left
  ·obtain ⟨bE,rfl,S⟩:=hI
   have h:=cN
   try dsimp only at h
   refine sRegion (sBin _ S (wN y) y y y (bAdd _ _ _ _ aG 1) y (lb y) fun a S=>sM S fun a S=>?_)
   exact lT (⟨(w64 (aG + 1),bE),(Option.some.inj h).symm,(S.fix [0,1,2,3,4] [0,1,2] (by decide) y y y)⟩)
  refine wp_block ?_
  refine sSeq (fun dn cj=>sRegion (sM S fun a S=>?_))
  obtain ⟨bG,ck,h⟩:=bS h
  obtain ⟨cw,cl,S⟩:=pIdx (P:=Try.prog) (r:=rB) (v:=.slice a0 a5.length a2) (xs:=a5) (j:=aG) 22 4 1 S Try.underlying22 y y ck
  refine sIdxV S (wN y) y y y cl y (lb y) fun a S=>?_
  obtain ⟨cx,S⟩:=pLoad (r:=rB) (q:=cw) (x:=bG) 0 S y
  obtain rfl:cx=.bool bG:=S.mem.know (i:=1) (e:=fRep rB (cx) bG) y
  refine sLoadV1 (vq:=cw) 0 (.bool bG) S (wN y) y y y y y (lb y) fun a S=>sN S fun a S=>?_
  refine sN S fun a S=>?_
  refine lT (cj _ _ (sSeq (fun dp cm=>sRegion (sM S fun a S=>?_))))
  refine lT (cm _ _ ?_)
  rcases iS h with ⟨aQ,h⟩ | ⟨aQ,h⟩
  ·refine sCondT S y aQ (sRegion (sM S fun a S=>?_))
   refine sM S fun a S=>?_
   refine sM S fun a S=>?_
   obtain ⟨aU,cn,h⟩:=bS h
   obtain ⟨cy,co,S⟩:=pIdx (P:=Try.prog) (r:=(rI .i64)) (v:=.slice ae p1.length af) (xs:=p1) (j:=aG) 25 3 3 S Try.underlying25 y y cn
   refine sIdxV S (wN y) y y y co y (lb y) fun a S=>?_
   obtain ⟨cz,S⟩:=pLoad (r:=(rI .i64)) (q:=cy) (x:=aU) 0 S y
   obtain rfl:cz=iv aU:=S.mem.know (i:=1) (e:=fRep (rI .i64) (cz) aU) y
   refine sLoadV1 (vq:=cy) 0 (iv aU) S (wN y) y y y y y (lb y) fun a S=>?_
   obtain ⟨cA,cp,h⟩:=bS h
   refine sLookup (K:=3) (b:=al) (M:=aO) (key:=aU) 3 S y y Try.underlying65 Try.underlying3 y y y y cp y (lb y) fun a S=>?_
   refine sBin _ S (wN y) y y y (bAdd _ _ _ _ cA 1) y (lb y) fun a S=>?_
   obtain ⟨cB,cq,h⟩:=bS h
   refine sMapUpd (K:=3) (b:=al) (M:=aO) (M':=cB) (key:=aU) (val:=w64 (cA + 1)) 3 S y y Try.underlying65 Try.underlying3 y y y y cq y fun a w S=>?_
   exact leafL (leafB (leafT (⟨cB,Option.some.inj h,S.fix [1,2,3,0,4] [6,7,8] (by decide) y y y⟩)))
  refine sCondF S y aQ (sRegion (sM S fun a S=>?_))
  refine sM S fun a S=>?_
  refine sM S fun a S=>?_
  obtain ⟨aV,b3,h⟩:=bS h
  obtain ⟨b4,b5,S⟩:=pIdx (P:=Try.prog) (r:=(rI .i64)) (v:=.slice ae p1.length af) (xs:=p1) (j:=aG) 25 3 3 S Try.underlying25 y y b3
  refine sIdxV S (wN y) y y y b5 y (lb y) fun a S=>?_
  obtain ⟨ba,S⟩:=pLoad (r:=(rI .i64)) (q:=b4) (x:=aV) 0 S y
  obtain rfl:ba=iv aV:=S.mem.know (i:=1) (e:=fRep (rI .i64) (ba) aV) y
  refine sLoadV1 (vq:=b4) 0 (iv aV) S (wN y) y y y y y (lb y) fun a S=>?_
  obtain ⟨bb,bc,h⟩:=bS h
  refine sLookup (K:=3) (b:=al) (M:=aO) (key:=aV) 3 S y y Try.underlying65 Try.underlying3 y y y y bc y (lb y) fun a S=>?_
  refine sBin _ S (wN y) y y y (bSub _ _ _ _ bb 1) y (lb y) fun a S=>?_
  obtain ⟨bf,bg,h⟩:=bS h
  refine sMapUpd (K:=3) (b:=al) (M:=aO) (M':=bf) (key:=aV) (val:=w64 (bb - 1)) 3 S y y Try.underlying65 Try.underlying3 y y y y bg y fun a w S=>?_
  exact leafL (leafB (leafT (⟨bf,Option.some.inj h,S.fix [1,2,3,0,4] [6,7,8] (by decide) y y y⟩)))
 obtain ⟨aT,rfl,S⟩:=hI
 have h:=cK
 try dsimp only at h
 refine sSeq (fun cO bh=>sRegion (sM S fun a S=>?_))
 refine sLen S (wN y) y Try.underlying22 y y (lb y) fun a S=>sM S fun a S=>?_
 refine lT (bh _ _ (wp_block ?_))
 obtain ⟨cP,hl,cr⟩:=bS h
 refine sLoop hl (fun s0 a w=>match s0 with | (au,aj,ag)=>∃ aa,∃ ab,St [] E [] w0 111 a w [(1,.slice ae p1.length af),(2,.pointer (some ⟨b8,0,none⟩)),(4,.pointer (some ⟨b9,0,none⟩)),(5,iv au),(9,.pointer (some ⟨ac,0,none⟩)),(12,.map (some al)),(42,iv p0.H),(43,iv ai),(82,.slice a0 a5.length a2),(83,iv (a5.length:Int)),(84,iv aj)] [eBox b8 24 [iv p0.W,iv p0.H,.slice a6 p0.Bits.length a7],eBox b9 24 [iv 0,iv 0,.slice none 0 0],eBox ac 24 [iv p0.W,iv p0.H,.slice aa ag.length ab],eMap Try.prog 3 al aT,eRow rB 4 (.slice aa ag.length ab) ag] [fRep (rL (rI .i64)) (.slice ae p1.length af) p1,fRep (rL rB) (.slice a0 a5.length a2) a5,fRep (rL rB) (.slice a6 p0.Bits.length a7) p0.Bits]) ⟨a8,a9,S.fix [0,1,2,3,4] [0,1,2] (by decide) y y y⟩ ?_
 clear hl h
 intro s0 a w c0 hI h bi
 obtain ⟨au,aj,ag⟩:=s0
 unfold reduce_Change_l2 at h
 dsimp only at h hI
 obtain ⟨aa,ab,S⟩:=hI
 refine sSeq (fun cQ bj=>sRegion (sBin _ S (wN y) y y y (bLt _ _ _ _ .i64 aj (a5.length:Int)) y (lb y) fun a S=>lT (bj _ _ (sSeq (fun cR bk=>?_)))))
 rcases iS h with ⟨aw,h⟩ | ⟨aw,h⟩
 rotate_left
 ·refine sCondF S y aw ?_
  obtain rfl:=tS h
  obtain rfl:=bi _ y
  have h:=cr
  try dsimp only at h
  exact wp_exit (xThen (xThen (xHit (leafB (leafT (⟨au,ag,Option.some.inj h,aa,ab,S.fix [0,1,2,4] [0,2] (by decide) y y y⟩))))))
 refine sCondT S y aw (wp_skip (leafT (bk _ _ ?_)))
 obtain ⟨ct,h,cu⟩:=bS h
 refine sCut (fun a w=>∃ aH,∃ av,(aH,av)=ct∧∃ ao,∃ ap,St [] E [] w0 111 a w [(1,.slice ae p1.length af),(2,.pointer (some ⟨b8,0,none⟩)),(4,.pointer (some ⟨b9,0,none⟩)),(5,iv aH),(9,.pointer (some ⟨ac,0,none⟩)),(12,.map (some al)),(42,iv p0.H),(43,iv ai),(82,.slice a0 a5.length a2),(83,iv (a5.length:Int)),(84,iv aj)] [eBox b8 24 [iv p0.W,iv p0.H,.slice a6 p0.Bits.length a7],eBox b9 24 [iv 0,iv 0,.slice none 0 0],eBox ac 24 [iv p0.W,iv p0.H,.slice ao av.length ap],eMap Try.prog 3 al aT,eRow rB 4 (.slice ao av.length ap) av] [fRep (rL (rI .i64)) (.slice ae p1.length af) p1,fRep (rL rB) (.slice a0 a5.length a2) a5,fRep (rL rB) (.slice a6 p0.Bits.length a7) p0.Bits]) ?_ (fun a w hI=>?_)
 rotate_left
 ·obtain ⟨aH,av,rfl,ao,ap,S⟩:=hI
  have h:=cu
  try dsimp only at h
  refine sRegion (sBin _ S (wN y) y y y (bAdd _ _ _ _ aj 1) y (lb y) fun a S=>sM S fun a S=>?_)
  exact lT (⟨(aH,w64 (aj + 1),av),(Option.some.inj h).symm,⟨ao,ap,S.fix [0,1,2,3,4] [0,1,2] (by decide) y y y⟩⟩)
 refine wp_block ?_
 refine sSeq (fun cS bl=>sRegion (sM S fun a S=>?_))
 obtain ⟨ax,bm,h⟩:=bS h
 obtain ⟨bn,bo,S⟩:=pIdx (P:=Try.prog) (r:=rB) (v:=.slice a0 a5.length a2) (xs:=a5) (j:=aj) 22 4 1 S Try.underlying22 y y bm
 refine sIdxV S (wN y) y y y bo y (lb y) fun a S=>?_
 obtain ⟨bp,S⟩:=pLoad (r:=rB) (q:=bn) (x:=ax) 0 S y
 obtain rfl:bp=.bool ax:=S.mem.know (i:=1) (e:=fRep rB (bp) ax) y
 refine sLoadV1 (vq:=bn) 0 (.bool ax) S (wN y) y y y y y (lb y) fun a S=>sN S fun a S=>?_
 refine sN S fun a S=>?_
 refine lT (bl _ _ (sSeq (fun cT bq=>sRegion (sM S fun a S=>?_))))
 refine sM S fun a S=>?_
 refine sM S fun a S=>?_
 obtain ⟨ay,br,h⟩:=bS h
 obtain ⟨bt,bu,S⟩:=pIdx (P:=Try.prog) (r:=(rI .i64)) (v:=.slice ae p1.length af) (xs:=p1) (j:=aj) 25 3 3 S Try.underlying25 y y br
 refine sIdxV S (wN y) y y y bu y (lb y) fun a S=>?_
 obtain ⟨bv,S⟩:=pLoad (r:=(rI .i64)) (q:=bt) (x:=ay) 0 S y
 obtain rfl:bv=iv ay:=S.mem.know (i:=1) (e:=fRep (rI .i64) (bv) ay) y
 refine sLoadV1 (vq:=bt) 0 (iv ay) S (wN y) y y y y y (lb y) fun a S=>?_
 obtain ⟨ak,bw,h⟩:=bS h
 refine sLookup (K:=3) (b:=al) (M:=aT) (key:=ay) 3 S y y Try.underlying65 Try.underlying3 y y y y bw y (lb y) fun a S=>?_
 refine sBin _ S (wN y) y y y (bGt _ _ _ _ .i64 ak 0) y (lb y) fun a S=>sN S fun a S=>?_
 refine lT (bq _ _ (sSeq (fun cU bx=>sRegion (sField (b:=ac) (off:=0) 2 2 S (wN y) y y y y y (lb y) fun a S=>sLoad1 2 (.slice aa ag.length ab) S (wN y) y y y y y y (lb y) fun a S=>sM S fun a S=>?_))))
 refine sLit (r:=rB) (T:=4) (xs:=[decide (0 < ak)]) [(0,.bool (decide (0 < ak)))] 1 [.bool (decide (0 < ak))] [.bool (decide (0 < ak))] (.bool false) 1 S (wN y) y y Try.underlying22 y (by decide) (by decide) (by kernel_rfl) y (fun E1 w1 hE=>All.cons y (All.nil _ _ _)) y y (lb y) fun a w bz bA S=>?_
 obtain ⟨aI,bB,h⟩:=bS h
 refine sApp (r:=rB) (T:=4) (xs:=ag) (ys:=[decide (0 < ak)]) (v:=.slice aa ag.length ab) (u:=.slice bz [decide (0 < ak)].length bA) 5 (.bool false) 1 S (wN y) y Try.underlying22 y y (by decide) y y y (src_R (T:=4) 0 S.mem y) bB y (lb y) fun a w aq ar S=>sField (b:=ac) (off:=0) 2 2 S (wN y) y y y y y (lb y) fun a S=>sStore (p:=ac) (off:=2) (T:=24) (vs:=[iv p0.W,iv p0.H,.slice aa ag.length ab]) (v:=.slice aq aI.length ar) 4 [.slice aq aI.length ar] S (wN y) y y y y y y y (by simp) y fun a w S=>lT (bx _ _ (sSeq (fun cV bC=>sRegion (sM S fun a S=>?_))))
 refine sM S fun a S=>?_
 refine sBin _ S (wN y) y y y (bNeB _ _ _ _ Try.underlying4 (decide (0 < ak)) ax) y (lb y) fun a S=>lT (bC _ _ ?_)
 rcases iS h with ⟨az,h⟩ | ⟨az,h⟩
 rotate_left
 ·refine sCondF S y az ?_
  exact wp_skip (leafB (leafT (⟨au,aI,Option.some.inj h,aq,ar,S.fix [3,4,0,5,1] [6,7,8] (by decide) y y y⟩)))
 refine sCondT S y az (sRegion (sM S fun a S=>?_))
 refine sBin _ S (wN y) y y y (bAdd _ _ _ _ au 1) y (lb y) fun a S=>sN S fun a S=>?_
 exact leafL (leafB (leafT (⟨w64 (au + 1),aI,Option.some.inj h,aq,ar,S.fix [3,4,0,5,1] [6,7,8] (by decide) y y y⟩)))
end Go.Proofs.Ytapohhkdpkapoaa
