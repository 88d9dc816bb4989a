/- TopShape: walks, tables, laws. -/
import Derived.WalkKit
import Derived.Maps.AppendAt
import Derived.Deep.AppendLies
import Derived.KernelRfl
import Derived.Laws.OwnMore
import Derived.Great.BuildSlice
import Derived.Orders
import Derived.Laws.StructEq
import Derived.ChangeKeysEq
import Derived.Defers
import Derived.Laws.BytesString
import Derived.RangeFuncNested
import Derived.RangeFuncBound
import Derived.RangeFuncCalls
import Derived.RangeFuncLeaves
import Derived.OrdersIn
import Derived.LoopNIn
import Derived.ArgAppend
import Derived.Lib.AppendZeros
import Derived.Test.YtnfjcalmangncaaProg
import Derived.ProofKit
import Derived.OpenShut
import Derived.ChangeOld
import Derived.Deep.Slices
import Derived.Lib.SmallJoins
import Derived.JoinedOf
import Derived.JoinedAt
import Derived.Below
import Derived.Test.YtnfjcalmangncaaRows
set_option linter.unusedVariables false
set_option linter.unusedSimpArgs false
set_option maxHeartbeats 4000000
set_option maxRecDepth 100000
namespace Go.Proofs.Ytnfjcalmangncaa
open Go.RowKit
structure Chg (K:List Nat) (w w':World):Prop where
 os:w'.os=w.os
 tape:w'.tape=w.tape
 output:w'.output=w.output
 size:w.heap.size ≤ w'.heap.size
 block:∀ k,k < w.heap.size→k ∉ K→w'.heap[k]?=w.heap[k]?
theorem Chg.refl (K:List Nat) (w:World):Chg K w w:=⟨rfl,rfl,rfl,Nat.le_refl _,fun _ _ _=>rfl⟩
theorem Chg.alloc (K:List Nat) (w:World) (o:Obj):Chg K w (w.alloc o):=⟨rfl,rfl,rfl,by simp,fun i h _=>heap_alloc_old w o h⟩
theorem Chg.drew {K:List Nat} {w w':World} (h:Chg K w w'):Chg K w w'.drew:=⟨h.os,h.tape,h.output,h.size,h.block⟩
theorem Chg.grown {w w':World} {row:Option Nat} {K:List Nat} (h:w.grownBy w' row) (hr:∀ k,row=some k→k ∈ K):Chg K w w':=
 ⟨h.os,h.tape,h.output,h.size,fun k hk hn=>h.block k hk (fun e=>hn (hr k e.symm))⟩
theorem Chg.mono {K K':List Nat} {w w':World} (h:Chg K w w') (hs:∀ k,k ∈ K→k ∈ K'):Chg K' w w':=⟨h.os,h.tape,h.output,h.size,fun k hk hn=>h.block k hk (fun e=>hn (hs k e))⟩
theorem Chg.trans {K K':List Nat} {a b c:World} (h:Chg K a b) (k:Chg K' b c) (hs:∀ j,j ∈ K'→j ∈ K ∨ a.heap.size ≤ j):Chg K a c:=
 ⟨k.os.trans h.os,k.tape.trans h.tape,k.output.trans h.output,Nat.le_trans h.size k.size,fun i hi hn=>(k.block i (Nat.lt_of_lt_of_le hi h.size) (fun e=>by
  rcases hs i e with h1 | h1
  ·exact hn h1
  ·omega)).trans (h.block i hi hn)⟩
structure Ext (E E':Nat→Prop) (w w':World):Prop where
 size:w.heap.size ≤ w'.heap.size
 same:∀ b,b < w.heap.size→¬ E b→(∃ o u,w.cell? ⟨b,o,none⟩=some u)→w'.heap[b]?=w.heap[b]?
 excl:∀ b,b < w.heap.size→E' b→E b
structure R (α:Type) where
 sz:Nat
 rep:(Nat→Prop)→World→Value→α→Prop
 pos:0 < sz
 size:∀ {E w v x},rep E w v x→v.cells.size=sz
 one:∀ {E w v x},rep E w v x→∀ u,u ∈ v.cells.toList→u.oneCell'=true
 mono:∀ {E E' w w' v x},Ext E E' w w'→rep E w v x→rep E' w' v x
def rI (k:IntKind):R Int where
 sz:=1
 rep:=fun _ _ v x=>v=.int k x
 pos:=by decide
 size:=by rintro _ _ _ _ rfl; rfl
 one:=by rintro _ _ _ _ rfl u hu; simp [Value.cells] at hu; subst hu; rfl
 mono:=fun _ h=>h
def rB:R Bool where
 sz:=1
 rep:=fun _ _ v x=>v=.bool x
 pos:=by decide
 size:=by rintro _ _ _ _ rfl; rfl
 one:=by rintro _ _ _ _ rfl u hu; simp [Value.cells] at hu; subst hu; rfl
 mono:=fun _ h=>h
def flat (vs:List Value):List Value:=(vs.map fun v=>v.cells.toList).flatten
def All {α:Type} (r:R α) (E:Nat→Prop) (w:World) (vs:List Value) (xs:List α):Prop:=vs.length=xs.length∧∀ (k:Nat) (v:Value) (x:α),vs[k]?=some v→xs[k]?=some x→r.rep E w v x
theorem All.mono {α:Type} {r:R α} {E E':Nat→Prop} {w w':World} {vs:List Value} {xs:List α} (h:Ext E E' w w') (a:All r E w vs xs):All r E' w' vs xs:=
 ⟨a.1,fun k v x hv hx=>r.mono h (a.2 k v x hv hx)⟩
theorem All.nil {α:Type} (r:R α) (E:Nat→Prop) (w:World):All r E w [] []:=⟨rfl,fun k v x hv _=>by simp at hv⟩
theorem All.append {α:Type} {r:R α} {E:Nat→Prop} {w:World} {vs us:List Value} {xs ys:List α} (a:All r E w vs xs) (b:All r E w us ys):All r E w (vs ++ us) (xs ++ ys):=by
 refine ⟨by simp [a.1,b.1],fun k v x hv hx=>?_⟩
 by_cases hk:k < vs.length
 ·rw [List.getElem?_append_left hk] at hv
  rw [List.getElem?_append_left (by rw [← a.1]; exact hk)] at hx
  exact a.2 k v x hv hx
 ·rw [List.getElem?_append_right (by omega)] at hv
  rw [List.getElem?_append_right (by rw [← a.1]; omega)] at hx
  rw [← a.1] at hx
  exact b.2 _ v x hv hx
theorem All.one {α:Type} {r:R α} {E:Nat→Prop} {w:World} {v:Value} {x:α} (h:r.rep E w v x):All r E w [v] [x]:=by
 refine ⟨rfl,fun k v' x' hv hx=>?_⟩
 match k,hv,hx with
 | 0,hv,hx=>simp at hv hx; subst hv hx; exact h
 | k + 1,hv,_=>simp at hv
theorem All.cells {α:Type} {r:R α} {E:Nat→Prop} {w:World} {vs:List Value} {xs:List α} (a:All r E w vs xs):∀ v,v ∈ vs→v.cells.size=r.sz∧∀ u,u ∈ v.cells.toList→u.oneCell'=true:=by
 intro v hv
 obtain ⟨k,hk,rfl⟩:=List.getElem_of_mem hv
 have h1:vs[k]?=some vs[k]:=List.getElem?_eq_getElem hk
 have h2:xs[k]?=some (xs[k]'(by rw [← a.1]; exact hk)):=List.getElem?_eq_getElem _
 exact ⟨r.size (a.2 k _ _ h1 h2),r.one (a.2 k _ _ h1 h2)⟩
theorem flat_append (vs us:List Value):flat (vs ++ us)=flat vs ++ flat us:=by simp [flat]
theorem flat_length {sz:Nat} {vs:List Value} (h:∀ v,v ∈ vs→v.cells.size=sz):(flat vs).length=vs.length * sz:=by
 induction vs with
 | nil=>simp [flat]
 | cons v vs ih=>
  have h1:=h v (by simp)
  have h2:=ih (fun u hu=>h u (by simp [hu]))
  simp only [flat,List.map_cons,List.flatten_cons,List.length_append,Array.length_toList] at h2 ⊢
  rw [h1,h2,List.length_cons,Nat.add_mul,Nat.one_mul,Nat.add_comm]
theorem flat_get {sz:Nat} {vs:List Value} (h:∀ v,v ∈ vs→v.cells.size=sz) {k j:Nat} {v:Value} (hv:vs[k]?=some v) (hj:j < sz):(flat vs)[k * sz + j]?=v.cells.toList[j]?:=by
 induction vs generalizing k with
 | nil=>simp at hv
 | cons u vs ih=>
  have h1:=h u (by simp)
  have h2:=fun v hv=>h v (List.mem_cons_of_mem u hv)
  cases k with
  | zero=>
   simp at hv; subst hv
   simp only [flat,List.map_cons,List.flatten_cons,Nat.zero_mul,Nat.zero_add]
   rw [List.getElem?_append_left (by simpa [h1] using hj)]
  | succ k=>
   simp at hv
   have:=ih h2 hv
   simp only [flat,List.map_cons,List.flatten_cons] at this ⊢
   rw [List.getElem?_append_right (by simp [h1,Nat.add_mul]; omega),← this]
   congr 1
   simp [h1,Nat.add_mul]
   omega
theorem flat_one {vs:List Value} (h:∀ v,v ∈ vs→∀ u,u ∈ v.cells.toList→u.oneCell'=true):∀ u,u ∈ flat vs→u.oneCell'=true:=by
 intro u hu
 simp only [flat,List.mem_flatten,List.mem_map] at hu
 obtain ⟨l,⟨v,hv,rfl⟩,hl⟩:=hu
 exact h v hv u hl
def rL {α:Type} (r:R α):R (List α) where
 sz:=1
 rep:=fun E w v xs=>∃ a c vs,v=.slice a xs.length c∧xs.length ≤ c∧xs.length ≤ 9223372036854775807∧All r E w vs xs ∧
  ∀ k u,(flat vs)[k]?=some u→∃ b off,a=some ⟨b,off,none⟩∧¬ E b∧b < w.heap.size∧w.cell? ⟨b,off + k,none⟩=some u
 pos:=by decide
 size:=by rintro _ _ _ _ ⟨a,c,vs,rfl,_⟩; rfl
 one:=by rintro _ _ _ _ ⟨a,c,vs,rfl,_⟩ u hu; simp [Value.cells] at hu; subst hu; rfl
 mono:=by
  rintro E E' w w' v xs h ⟨a,c,vs,hv,hc,hm,ha,hcells⟩
  refine ⟨a,c,vs,hv,hc,hm,ha.mono h,fun k u hu=>?_⟩
  obtain ⟨b,off,h1,h2,h3,h4⟩:=hcells k u hu
  refine ⟨b,off,h1,fun e=>h2 (h.excl b h3 e),Nat.lt_of_lt_of_le h3 h.size,?_⟩
  rw [World.cell?_of_block (w:=w) (h.same b h3 h2 ⟨_,_,h4⟩)]
  exact h4
structure Fact where
 p:(Nat→Prop)→World→Prop
 mono:∀ {E E' w w'},Ext E E' w w'→p E w→p E' w'
def fRep {α:Type} (r:R α) (v:Value) (x:α):Fact:=⟨fun E w=>r.rep E w v x,fun h k=>r.mono h k⟩
structure Ent where
 keys:List Nat
 p:(Nat→Prop)→World→Prop
 mono:∀ {E E' w w'},Ext E E' w w'→(∀ b,b ∈ keys→w'.heap[b]?=w.heap[b]?)→p E w→p E' w'
 lt:∀ {E w},p E w→∀ b,b ∈ keys→b < w.heap.size
def eBox (b:Nat) (T:TypeId) (vs:List Value):Ent where
 keys:=[b]
 p:=fun _ w=>w.heap[b]?=some (.cells vs.toArray T (0,0))
 mono:=fun _ hs h=>by rw [hs b (by simp)]; exact h
 lt:=fun h k hk=>by
  simp at hk; subst hk
  exact (Array.getElem?_eq_some_iff.1 h).1
def vkeys:Value→List Nat
 | .slice (some a) _ _=>[a.block]
 | _=>[]
def eRow {α:Type} (r:R α) (T:TypeId) (v:Value) (xs:List α):Ent where
 keys:=vkeys v
 p:=fun E w=>∃ vs,All r E w vs xs∧xs.length ≤ 68719476736∧w.ownsRow 0 T r.sz v xs.length (flat vs)
 mono:=by
  rintro E E' w w' h hs ⟨vs,ha,hm,hl,ho⟩
  refine ⟨vs,ha.mono h,hm,hl,?_⟩
  rcases ho with ho | ⟨g,cap,cur,hv,hg,hh,hr⟩
  ·exact .inl ho
  ·subst hv
   exact .inr ⟨g,cap,cur,rfl,hg,by rw [hs g (by simp [vkeys])]; exact hh,hr⟩
 lt:=by
  rintro E w ⟨vs,ha,_,hl,ho⟩ b hb
  rcases ho with ⟨ho,_⟩ | ⟨g,cap,cur,hv,hg,hh,hr⟩
  ·subst ho; simp [vkeys] at hb
  ·subst hv
   simp [vkeys] at hb; subst hb
   exact (Array.getElem?_eq_some_iff.1 hh).1
def keysL (L:List Ent):List Nat:=(L.map (·.keys)).flatten
theorem keysL_append (A B:List Ent):keysL (A ++ B)=keysL A ++ keysL B:=by simp [keysL]
theorem keysL_mem {L:List Ent} {b:Nat}:b ∈ keysL L ↔ ∃ e,e ∈ L∧b ∈ e.keys:=by
 simp only [keysL,List.mem_flatten,List.mem_map]
 exact ⟨fun ⟨l,⟨e,h1,h2⟩,h3⟩=>⟨e,h1,h2 ▸ h3⟩,fun ⟨e,h1,h2⟩=>⟨_,⟨e,h1,rfl⟩,h2⟩⟩
def tot (E:Nat→Prop) (L:List Ent) (b:Nat):Prop:=E b ∨ b ∈ keysL L
structure St0 (E:Nat→Prop) (M:List Nat) (w0 w:World) (L:List Ent) (D:List Fact):Prop where
 chg:Chg M w0 w
 ent:∀ e,e ∈ L→e.p (tot E L) w
 fact:∀ d,d ∈ D→d.p (tot E L) w
 nodup:(keysL L).Nodup
 key:∀ b,b ∈ keysL L→(w0.heap.size ≤ b ∨ b ∈ M)∧¬ E b
 bnd:∀ b,E b→b < w0.heap.size
theorem St0.lt {E:Nat→Prop} {M:List Nat} {w0 w:World} {L:List Ent} {D:List Fact} (S:St0 E M w0 w L D):∀ b,b ∈ keysL L→b < w.heap.size:=by
 intro b hb
 obtain ⟨e,he,hk⟩:=keysL_mem.1 hb
 exact e.lt (S.ent e he) b hk
theorem St0.upd {E:Nat→Prop} {M:List Nat} {w0 w w':World} {B Rs:List Ent} {D:List Fact} (S:St0 E M w0 w (B ++ Rs) D) (hk:Chg (keysL B) w w') (B':List Ent) (D':List Fact)
 (h:St0 (tot E Rs) (keysL B) w w' B' D'):St0 E M w0 w' (B' ++ Rs) (D' ++ D):=by
 have hlt:=S.lt
 have hnd:=S.nodup
 rw [keysL_append,List.nodup_append] at hnd
 obtain ⟨_,n2,n3⟩:=hnd
 have hE:∀ b,tot (tot E Rs) B' b ↔ tot E (B' ++ Rs) b:=by
  intro b
  simp only [tot,keysL_append,List.mem_append]
  constructor
  ·rintro ((h | h) | h)
   ·exact .inl h
   ·exact .inr (.inr h)
   ·exact .inr (.inl h)
  ·rintro (h | h | h)
   ·exact .inl (.inl h)
   ·exact .inr h
   ·exact .inl (.inr h)
 have hEq:tot (tot E Rs) B'=tot E (B' ++ Rs):=funext fun b=>propext (hE b)
 have hext:Ext (tot E (B ++ Rs)) (tot E (B' ++ Rs)) w w':=by
  refine ⟨hk.size,fun b hb hn _=>hk.block b hb (fun e=>hn (.inr (by rw [keysL_append]; exact List.mem_append_left _ e))),fun b hb he=>?_⟩
  rcases he with he | he
  ·exact .inl he
  ·rw [keysL_append,List.mem_append] at he
   rcases he with he | he
   ·rcases (h.key b he).1 with h1 | h1
    ·omega
    ·exact .inr (by rw [keysL_append]; exact List.mem_append_left _ h1)
   ·exact .inr (by rw [keysL_append]; exact List.mem_append_right _ he)
 refine ⟨?_,?_,?_,?_,?_,S.bnd⟩
 ·refine S.chg.trans hk (fun j hj=>?_)
  rcases (S.key j (by rw [keysL_append]; exact List.mem_append_left _ hj)).1 with h1 | h1
  ·exact .inr h1
  ·exact .inl h1
 ·intro e he
  rcases List.mem_append.1 he with he | he
  ·rw [← hEq]; exact h.ent e he
  ·refine e.mono hext (fun b hb=>?_) (S.ent e (List.mem_append_right _ he))
   have hb2:b ∈ keysL Rs:=keysL_mem.2 ⟨e,he,hb⟩
   exact hk.block b (hlt b (by rw [keysL_append]; exact List.mem_append_right _ hb2)) (fun h1=>n3 b h1 b hb2 rfl)
 ·intro d hd
  rcases List.mem_append.1 hd with hd | hd
  ·rw [← hEq]; exact h.fact d hd
  ·exact d.mono hext (S.fact d hd)
 ·rw [keysL_append,List.nodup_append]
  refine ⟨h.nodup,n2,fun b hb c hc e=>?_⟩
  subst e
  exact (h.key b hb).2 (.inr hc)
 ·intro b hb
  rw [keysL_append,List.mem_append] at hb
  rcases hb with hb | hb
  ·refine ⟨?_,fun e=>(h.key b hb).2 (.inl e)⟩
   rcases (h.key b hb).1 with h1 | h1
   ·exact .inl (Nat.le_trans S.chg.size h1)
   ·exact (S.key b (by rw [keysL_append]; exact List.mem_append_left _ h1)).1
  ·exact S.key b (by rw [keysL_append]; exact List.mem_append_right _ hb)
theorem St0.sub {E:Nat→Prop} {M:List Nat} {w0 w:World} {L L':List Ent} {D D':List Fact} (S:St0 E M w0 w L D) (hL:∀ e,e ∈ L'→e ∈ L) (hn:(keysL L').Nodup) (hD:∀ d,d ∈ D'→d ∈ D):St0 E M w0 w L' D':=by
 have hk:∀ b,b ∈ keysL L'→b ∈ keysL L:=fun b hb=>by
  obtain ⟨e,he,h⟩:=keysL_mem.1 hb
  exact keysL_mem.2 ⟨e,hL e he,h⟩
 have hext:Ext (tot E L) (tot E L') w w:=⟨Nat.le_refl _,fun _ _ _ _=>rfl,fun b _ h=>h.imp id (hk b)⟩
 exact ⟨S.chg,fun e he=>e.mono hext (fun _ _=>rfl) (S.ent e (hL e he)),fun d hd=>d.mono hext (S.fact d (hD d hd)),hn,fun b hb=>S.key b (hk b hb),S.bnd⟩
theorem nodup_sub {L L':List Ent} (h:L'.Sublist L) (hn:(keysL L).Nodup):(keysL L').Nodup:=by
 have hs:(keysL L').Sublist (keysL L):=by
  clear hn
  induction h with
  | slnil=>exact List.Sublist.refl _
  | cons e _ ih=>exact ih.trans (by simp [keysL])
  | cons_cons e _ ih=>simpa [keysL] using ih
 exact hn.sublist hs
theorem keysL_perm {L L':List Ent} (h:L'.Perm L) (hn:(keysL L).Nodup):(keysL L').Nodup:=by
 unfold keysL at *
 exact (List.Perm.flatten (h.map _)).nodup_iff.2 hn
theorem St0.perm {E:Nat→Prop} {M:List Nat} {w0 w:World} {L L':List Ent} {D:List Fact} (S:St0 E M w0 w L D) (h:L'.Perm L):St0 E M w0 w L' D:=
 S.sub (fun _ he=>h.mem_iff.1 he) (keysL_perm h S.nodup) (fun _ h=>h)
theorem St0.drew {E:Nat→Prop} {M:List Nat} {w0 w:World} {L:List Ent} {D:List Fact} (S:St0 E M w0 w L D):St0 E M w0 w.drew L D:=by
 have hext:Ext (tot E L) (tot E L) w w.drew:=⟨Nat.le_refl _,fun _ _ _ _=>rfl,fun b _ h=>h⟩
 exact ⟨S.chg.drew,fun e he=>e.mono hext (fun _ _=>rfl) (S.ent e he),fun d hd=>d.mono hext (S.fact d hd),S.nodup,S.key,S.bnd⟩
theorem St0.enter {E:Nat→Prop} {w:World} {B:List Ent} {D:List Fact} {M:List Nat} {w0:World} {Rs:List Ent} {D0:List Fact} (S:St0 E M w0 w (B ++ Rs) D0) (hD:∀ d,d ∈ D→d ∈ D0):St0 (tot E Rs) (keysL B) w w B D:=by
 have hnd:=S.nodup
 rw [keysL_append,List.nodup_append] at hnd
 obtain ⟨n1,n2,n3⟩:=hnd
 have hEq:tot (tot E Rs) B=tot E (B ++ Rs):=by
  funext b
  simp only [tot,keysL_append,List.mem_append]
  exact propext ⟨fun h=>by rcases h with (h | h) | h; exact .inl h; exact .inr (.inr h); exact .inr (.inl h),fun h=>by rcases h with h | h | h; exact .inl (.inl h); exact .inr h; exact .inl (.inr h)⟩
 refine ⟨Chg.refl _ _,fun e he=>by rw [hEq]; exact S.ent e (List.mem_append_left _ he),fun d hd=>by rw [hEq]; exact S.fact d (hD d hd),n1,fun b hb=>⟨.inr hb,fun h=>?_⟩,fun b hb=>?_⟩
 ·rcases h with h | h
  ·exact (S.key b (by rw [keysL_append]; exact List.mem_append_left _ hb)).2 h
  ·exact n3 b hb b h rfl
 ·rcases hb with hb | hb
  ·exact Nat.lt_of_lt_of_le (S.bnd b hb) S.chg.size
  ·exact S.lt b (by rw [keysL_append]; exact List.mem_append_right _ hb)
def look:List (Nat × Value)→Nat→Option Value
 | [],_=>none
 | (d,v) :: F,t=>if d=t then some v else look F t
structure Frm (dq:List Deferred) (n:Nat) (a:Act) (F:List (Nat × Value)):Prop where
 defers:a.defers=dq
 size:a.tmps.size=n
 get:∀ t v,look F t=some v→a.tmps[t]?=some v
theorem Frm.put {dq:List Deferred} {n:Nat} {a:Act} {F:List (Nat × Value)} (h:Frm dq n a F) {d:Nat} (hd:d < n) (v:Value):Frm dq n (a.put (some d) v) ((d,v) :: F):=by
 refine ⟨h.defers,by simp [Act.put,h.size],fun t u ht=>?_⟩
 simp only [look] at ht
 show (a.tmps.setIfInBounds d v)[t]?=some u
 rw [Array.getElem?_setIfInBounds]
 split at ht
 ·rename_i e
  subst e
  rw [if_pos rfl,if_pos (by rw [h.size]; exact hd)]
  exact ht
 ·rename_i e
  rw [if_neg e]
  exact h.get t u ht
def lookO (F:List (Nat × Value)):Operand→Option Value
 | .tmp t=>look F t
 | .const v=>some v
 | .global g=>some (.pointer (some ⟨g,0,none⟩))
 | .func f=>some (.func (.func f) #[] #[])
theorem Frm.eval {dq:List Deferred} {n:Nat} {a:Act} {F:List (Nat × Value)} (h:Frm dq n a F) {x:Operand} {v:Value} (hx:lookO F x=some v):a.eval x=v:=by
 cases x with
 | tmp t=>simp only [lookO] at hx; simp [Act.eval,Array.getD_eq_getD_getElem?,h.get t v hx]
 | const u=>simpa [lookO,Act.eval] using hx
 | global g=>simpa [lookO,Act.eval] using hx
 | func f=>simpa [lookO,Act.eval] using hx
theorem Frm.sub {dq:List Deferred} {n:Nat} {a:Act} {F F':List (Nat × Value)} (h:Frm dq n a F) (hs:F'.map (fun q=>look F q.1)=F'.map (fun q=>some q.2)):Frm dq n a F':=by
 refine ⟨h.defers,h.size,fun t v ht=>h.get t v ?_⟩
 induction F' with
 | nil=>simp [look] at ht
 | cons q F' ih=>
  simp only [List.map_cons,List.cons.injEq] at hs
  simp only [look] at ht
  split at ht
  ·rename_i e
   rw [← e,hs.1]
   exact ht
  ·exact ih hs.2 ht
structure St (dq:List Deferred) (E:Nat→Prop) (M:List Nat) (w0:World) (n:Nat) (a:Act) (w:World) (F:List (Nat × Value)) (L:List Ent) (D:List Fact):Prop where
 frm:Frm dq n a F
 mem:St0 E M w0 w L D
theorem getList_mem {α:Type} {l l':List α} {is:List Nat} (h:is.map (fun i=>l[i]?)=l'.map some):∀ x,x ∈ l'→x ∈ l:=by
 induction l' generalizing is with
 | nil=>intro x hx; simp at hx
 | cons y l' ih=>
  cases is with
  | nil=>simp at h
  | cons i is=>
   simp only [List.map_cons,List.cons.injEq] at h
   intro x hx
   rcases List.mem_cons.1 hx with rfl | hx
   ·exact List.mem_of_getElem? h.1
   ·exact ih h.2 x hx
theorem getList_perm {l:List Ent} {is:List Nat} {l':List Ent} (hn:is.Nodup) (h:is.map (fun i=>l[i]?)=l'.map some) (hk:(keysL l).Nodup):(keysL l').Nodup:=by
 have hkey:∀ (i j:Nat) (e f:Ent) (b:Nat),l[i]?=some e→l[j]?=some f→b ∈ e.keys→b ∈ f.keys→i=j:=by
  clear h hn
  induction l with
  | nil=>intro i j e f b hi; simp at hi
  | cons x l ih=>
   unfold keysL at hk ih
   simp only [List.map_cons,List.flatten_cons,List.nodup_append] at hk
   intro i j e f b hi hj h1 h2
   cases i with
   | zero=>
    simp at hi; subst hi
    cases j with
    | zero=>rfl
    | succ j=>
     simp at hj
     exact absurd rfl (hk.2.2 b h1 b (by simp only [List.mem_flatten,List.mem_map]; exact ⟨_,⟨f,List.mem_of_getElem? hj,rfl⟩,h2⟩))
   | succ i=>
    simp at hi
    cases j with
    | zero=>
     simp at hj; subst hj
     exact absurd rfl (hk.2.2 b h2 b (by simp only [List.mem_flatten,List.mem_map]; exact ⟨_,⟨e,List.mem_of_getElem? hi,rfl⟩,h1⟩))
    | succ j=>
     simp at hj
     rw [ih hk.2.1 i j e f b hi hj h1 h2]
 have hself:∀ (i:Nat) (e:Ent),l[i]?=some e→e.keys.Nodup:=by
  intro i e hi
  exact hk.sublist (by
   unfold keysL
   have hm:=List.mem_of_getElem? hi
   clear hi hk h hkey hn
   induction l with
   | nil=>simp at hm
   | cons x l ih=>
    rcases List.mem_cons.1 hm with rfl | hm
    ·simp
    ·exact (ih hm).trans (by simp))
 clear hk
 induction l' generalizing is with
 | nil=>simp [keysL]
 | cons e l' ih=>
  cases is with
  | nil=>simp at h
  | cons i is=>
   simp only [List.map_cons,List.cons.injEq] at h
   rw [List.nodup_cons] at hn
   have h2:=ih hn.2 h.2
   unfold keysL at h2 ⊢
   simp only [List.map_cons,List.flatten_cons,List.nodup_append]
   refine ⟨hself i e h.1,h2,fun b hb c hc he=>?_⟩
   subst he
   simp only [List.mem_flatten,List.mem_map] at hc
   obtain ⟨k,⟨f,hf,rfl⟩,hbf⟩:=hc
   -- f stands at a place j of is
   have:∃ j,j ∈ is∧l[j]?=some f:=by
    have h3:=h.2
    clear ih h2 h hkey hself hn
    induction l' generalizing is with
    | nil=>simp at hf
    | cons y l' ih=>
     cases is with
     | nil=>simp at h3
     | cons j is=>
      simp only [List.map_cons,List.cons.injEq] at h3
      rcases List.mem_cons.1 hf with rfl | hf
      ·exact ⟨j,by simp,h3.1⟩
      ·obtain ⟨j',h4,h5⟩:=ih is hf h3.2
       exact ⟨j',List.mem_cons_of_mem _ h4,h5⟩
   obtain ⟨j,hj,hl⟩:=this
   have:=hkey i j e f b h.1 hl hb hbf
   subst this
   exact hn.1 hj
theorem St0.sel {E:Nat→Prop} {M:List Nat} {w0 w:World} {L L':List Ent} {D D':List Fact} (S:St0 E M w0 w L D) (is js:List Nat) (hn:is.Nodup)
 (hL:is.map (fun i=>L[i]?)=L'.map some) (hD:js.map (fun i=>D[i]?)=D'.map some):St0 E M w0 w L' D':=
 S.sub (getList_mem hL) (getList_perm hn hL S.nodup) (getList_mem hD)
theorem St.fix {dq:List Deferred} {E:Nat→Prop} {M:List Nat} {w0:World} {n:Nat} {a:Act} {w:World} {F F':List (Nat × Value)} {L L':List Ent} {D D':List Fact} (S:St dq E M w0 n a w F L D) (is js:List Nat) (hn:is.Nodup)
 (hF:F'.map (fun q=>look F q.1)=F'.map (fun q=>some q.2)) (hL:is.map (fun i=>L[i]?)=L'.map some) (hD:js.map (fun i=>D[i]?)=D'.map some):St dq E M w0 n a w F' L' D':=
 ⟨S.frm.sub hF,S.mem.sel is js hn hL hD⟩
section
variable {P : Program} {dq : List Deferred} {E : Nat → Prop} {M : List Nat} {w0 : World} {n : Nat} {a : Act} {w : World} {F : List (Nat × Value)} {L : List Ent} {D : List Fact}
theorem sEnter {f:FuncId} {fn:Func} {c:Code} {args:List Value} {Rt:Ending→World→Prop} (m:Nat) (hf:P.funcs[f]?=some fn) (hb:fn.body=some c) (hm:fn.ntmps=m) (ha:args.length ≤ m) (S:St0 E M w0 w L D)
 (h:∀ a,St [] E M w0 m a w ((List.range args.length).zip args) L D→c.wp P (bodyPost P fn Rt) a w):Calls P f args.toArray w Rt:=by
 refine calls_of_wp hf hb (h _ ⟨⟨rfl,?_,?_⟩,S⟩)
 ·simp [hm]; omega
 ·intro t v ht
  have key:∀ (l:List Value) (k:Nat),look ((List.range' k l.length).zip l) t=some v→k ≤ t∧l[t - k]?=some v:=by
   intro l
   induction l with
   | nil=>intro k h; simp [look] at h
   | cons u l ih=>
    intro k h
    simp only [List.length_cons,List.range'_succ,List.zip_cons_cons,look] at h
    split at h
    ·rename_i e; subst e; simpa using h
    ·rename_i e
     have:=ih (k + 1) h
     refine ⟨by omega,?_⟩
     rw [show t - k=(t - (k + 1)) + 1 by omega]
     simpa using this.2
  rw [List.range_eq_range'] at ht
  have:=(key args 0 ht).2
  simp at this
  have hlt:t < args.length:=(List.getElem?_eq_some_iff.1 this).1
  rw [Array.getElem?_append_left (by simpa using hlt)]
  simpa using this
theorem wN {ops:Array Oper} {o:Oper} (h:o.guard=none):∀ a,Frm dq n a F→Region.wanted o (yielded ops a.tmps)=true:=fun _ _=>by simp [Region.wanted,h]
theorem wG {ops:Array Oper} {o:Oper} {c:Bool} (j:Nat) (want:Bool) (d:Nat) (hg:o.guard=some (j,want)) (hd:(ops[j]?).bind (·.dst)=some d) (hl:look F d=some (.bool c)) (hc:c=want) :
 ∀ a,Frm dq n a F→Region.wanted o (yielded ops a.tmps)=true:=fun a h=>by
 subst hc
 simp [Region.wanted,hg,yielded,hd,h.get d _ hl]
theorem sSkip {ops:Array Oper} {rest:List Oper} {o:Oper} {Q:Exit→Act→World→Prop} {c:Bool} (j:Nat) (want:Bool) (d:Nat) (t:Nat) (S:St dq E M w0 n a w F L D) (hg:o.guard=some (j,want)) (hd:(ops[j]?).bind (·.dst)=some d)
 (hl:look F d=some (.bool c)) (hc:c=!want) (ht:o.dst=some t) (hn:t < n) (k:∀ a,St dq E M w0 n a w ((t,undef) :: F) L D→wpList P ops Q rest a w):wpList P ops Q (o :: rest) a w:=by
 subst hc
 refine wpList_skip (by simp [Region.wanted,hg,yielded,hd,S.frm.get d _ hl]) ?_
 rw [ht]
 exact k _ ⟨S.frm.put hn _,S.mem⟩
theorem sSkipU {ops:Array Oper} {rest:List Oper} {o:Oper} {Q:Exit→Act→World→Prop} (j:Nat) (want:Bool) (d:Nat) (t:Nat) (S:St dq E M w0 n a w F L D) (hg:o.guard=some (j,want)) (hd:(ops[j]?).bind (·.dst)=some d)
 (hl:look F d=some undef) (ht:o.dst=some t) (hn:t < n) (k:∀ a,St dq E M w0 n a w ((t,undef) :: F) L D→wpList P ops Q rest a w):wpList P ops Q (o :: rest) a w:=by
 refine wpList_skip (by simp [Region.wanted,hg,yielded,hd,S.frm.get d _ hl,undef]) ?_
 rw [ht]
 exact k _ ⟨S.frm.put hn _,S.mem⟩
theorem sVal {ops:Array Oper} {rest:List Oper} {o:Oper} {Q:Exit→Act→World→Prop} {v:Value} {w':World} {L':List Ent} {D':List Fact} {d:Nat} (S:St dq E M w0 n a w F L D)
 (hw:∀ a,Frm dq n a F→Region.wanted o (yielded ops a.tmps)=true) (hd:o.dst=some d) (hn:d < n)
 (hrun:(execOp a.eval o).run P w=.ok (.value v) w') (hm:St0 E M w0 w' L' D')
 (k:∀ a,St dq E M w0 n a w' ((d,v) :: F) L' D'→wpList P ops Q rest a w'):wpList P ops Q (o :: rest) a w:=by
 refine wpList_step fun K hK=>?_
 rw [if_pos (hw a S.frm)]
 unfold Oper.wp
 rw [hrun]
 show K (a.put o.dst v) w'
 rw [hd]
 exact hK _ _ (k _ ⟨S.frm.put hn _,hm⟩)
theorem sUnit {ops:Array Oper} {rest:List Oper} {o:Oper} {Q:Exit→Act→World→Prop} {w':World} {L':List Ent} {D':List Fact} (S:St dq E M w0 n a w F L D)
 (hw:∀ a,Frm dq n a F→Region.wanted o (yielded ops a.tmps)=true) (hd:o.dst=none)
 (hrun:(execOp a.eval o).run P w=.ok .skip w') (hm:St0 E M w0 w' L' D')
 (k:∀ a,St dq E M w0 n a w' F L' D'→wpList P ops Q rest a w'):wpList P ops Q (o :: rest) a w:=by
 refine wpList_step fun K hK=>?_
 rw [if_pos (hw a S.frm)]
 unfold Oper.wp
 rw [hrun]
 show K (a.put o.dst undef) w'
 rw [hd]
 exact hK _ _ (k _ ⟨S.frm,hm⟩)
theorem sMove {ops:Array Oper} {rest:List Oper} {o:Oper} {Q:Exit→Act→World→Prop} {x:Operand} {d:Nat} (v:Value) (S:St dq E M w0 n a w F L D)
 (hw:∀ a,Frm dq n a F→Region.wanted o (yielded ops a.tmps)=true) (ho:o.op=.move x ∨ o.op=.assign x) (hx:lookO F x=some v) (hd:o.dst=some d) (hn:d < n)
 (k:∀ a,St dq E M w0 n a w ((d,v) :: F) L D→wpList P ops Q rest a w):wpList P ops Q (o :: rest) a w:=by
 have he:=S.frm.eval hx
 refine sVal S hw hd hn ?_ S.mem k
 rcases ho with ho | ho <;> simp [execOp,ho,he,pure]
theorem sPickT {ops:Array Oper} {rest:List Oper} {o:Oper} {Q:Exit→Act→World→Prop} {c x y:Operand} {b:Bool} {d:Nat} (v:Value) (S:St dq E M w0 n a w F L D)
 (hw:∀ a,Frm dq n a F→Region.wanted o (yielded ops a.tmps)=true) (ho:o.op=.pick c x y) (hc:lookO F c=some (.bool b)) (hb:b=true) (hx:lookO F x=some v) (hd:o.dst=some d) (hn:d < n)
 (k:∀ a,St dq E M w0 n a w ((d,v) :: F) L D→wpList P ops Q rest a w):wpList P ops Q (o :: rest) a w:=by
 subst hb
 have he:=S.frm.eval hx
 have hec:=S.frm.eval hc
 exact sVal S hw hd hn (by simp [execOp,ho,he,hec,asBool,pure,bind,Sem.bind]) S.mem k
theorem sPickF {ops:Array Oper} {rest:List Oper} {o:Oper} {Q:Exit→Act→World→Prop} {c x y:Operand} {b:Bool} {d:Nat} (v:Value) (S:St dq E M w0 n a w F L D)
 (hw:∀ a,Frm dq n a F→Region.wanted o (yielded ops a.tmps)=true) (ho:o.op=.pick c x y) (hc:lookO F c=some (.bool b)) (hb:b=false) (hy:lookO F y=some v) (hd:o.dst=some d) (hn:d < n)
 (k:∀ a,St dq E M w0 n a w ((d,v) :: F) L D→wpList P ops Q rest a w):wpList P ops Q (o :: rest) a w:=by
 subst hb
 have he:=S.frm.eval hy
 have hec:=S.frm.eval hc
 exact sVal S hw hd hn (by simp [execOp,ho,he,hec,asBool,pure,bind,Sem.bind]) S.mem k
theorem sBin {ops:Array Oper} {rest:List Oper} {o:Oper} {Q:Exit→Act→World→Prop} {op:BinOp} {t u:TypeId} {x y:Operand} {vx vy:Value} {d:Nat} (v:Value) (S:St dq E M w0 n a w F L D)
 (hw:∀ a,Frm dq n a F→Region.wanted o (yielded ops a.tmps)=true) (ho:o.op=.binOp op t x y u) (hx:lookO F x=some vx) (hy:lookO F y=some vy)
 (hb:∀ w,(eqGuard op t x y vx vy).run P w=.ok () w∧(binOp op t vx vy).run P w=.ok v w) (hd:o.dst=some d) (hn:d < n)
 (k:∀ a,St dq E M w0 n a w ((d,v) :: F) L D→wpList P ops Q rest a w):wpList P ops Q (o :: rest) a w:=by
 have hex:=S.frm.eval hx
 have hey:=S.frm.eval hy
 refine sVal S hw hd hn ?_ S.mem k
 simp only [execOp,ho,hex,hey,Sem.run_bind,(hb w).1,(hb w).2,Result.andThen_ok,Sem.run_pure]
end
def iterO {σ τ:Type} (B:σ→Option (σ ⊕ τ)):Nat→σ→Option τ
 | 0,_=>none
 | n + 1,s=>(B s).bind fun c=>match c with | .inl s'=>iterO B n s' | .inr t=>some t
theorem iterO_mono {σ τ:Type} {B:σ→Option (σ ⊕ τ)} {n:Nat} {s:σ} {t:τ} (h:iterO B n s=some t):iterO B (n + 1) s=some t:=by
 induction n generalizing s with
 | zero=>simp [iterO] at h
 | succ n ih=>
  unfold iterO at h ⊢
  cases hb:B s with
  | none=>rw [hb] at h; simp at h
  | some c=>
   rw [hb] at h
   cases c with
   | inl s'=>simp only [Option.bind_some] at h ⊢; exact ih h
   | inr u=>simpa using h
theorem iterO_le {σ τ:Type} {B:σ→Option (σ ⊕ τ)} {n m:Nat} {s:σ} {t:τ} (h:iterO B n s=some t) (hm:n ≤ m):iterO B m s=some t:=by
 induction hm with
 | refl=>exact h
 | step _ ih=>exact iterO_mono ih
open Classical in
noncomputable def whileO {σ τ:Type} (B:σ→Option (σ ⊕ τ)) (s:σ):Option τ:=
 if h:∃ t n,iterO B n s=some t then some h.choose else none
theorem whileO_of {σ τ:Type} {B:σ→Option (σ ⊕ τ)} {s:σ} {t:τ} {n:Nat} (h:iterO B n s=some t):whileO B s=some t:=by
 have hx:∃ t n,iterO B n s=some t:=⟨t,n,h⟩
 unfold whileO
 rw [dif_pos hx]
 obtain ⟨m,hm⟩:=hx.choose_spec
 have h1:=iterO_le h (Nat.le_max_left n m)
 have h2:=iterO_le hm (Nat.le_max_right n m)
 rw [h1] at h2
 exact h2.symm
theorem whileO_some {σ τ:Type} {B:σ→Option (σ ⊕ τ)} {s:σ} {t:τ} (h:whileO B s=some t):∃ n,iterO B n s=some t:=by
 unfold whileO at h
 split at h
 ·rename_i hx
  have:=hx.choose_spec
  simp only [Option.some.injEq] at h
  rw [h] at this
  exact this
 ·cases h
theorem whileO_step {σ τ:Type} {B:σ→Option (σ ⊕ τ)} {s s':σ} (h:B s=some (.inl s')):whileO B s=whileO B s':=by
 have hi:∀ n,iterO B (n + 1) s=iterO B n s':=fun n=>by rw [iterO,h]; rfl
 cases hx:whileO B s' with
 | some t=>
  obtain ⟨n,hn⟩:=whileO_some hx
  exact whileO_of (n:=n + 1) (by rw [hi]; exact hn)
 | none=>
  cases hy:whileO B s with
  | none=>rfl
  | some t=>
   obtain ⟨n,hn⟩:=whileO_some hy
   cases n with
   | zero=>simp [iterO] at hn
   | succ n=>rw [hi] at hn; rw [whileO_of hn] at hx; cases hx
theorem whileO_done {σ τ:Type} {B:σ→Option (σ ⊕ τ)} {s:σ} {t:τ} (h:B s=some (.inr t)):whileO B s=some t:=
 whileO_of (n:=1) (by rw [iterO,h]; rfl)
theorem whileO_inv {σ τ:Type} {B:σ→Option (σ ⊕ τ)} (I:σ→Prop) (μ:σ→Nat) (Pt:τ→Prop) {s:σ} (h0:I s)
 (hr:∀ s,I s→(∃ s',B s=some (.inl s')∧I s'∧μ s' < μ s) ∨ (∃ t,B s=some (.inr t)∧Pt t)):∃ t,whileO B s=some t∧Pt t:=by
 have key:∀ n s,μ s=n→I s→∃ t,whileO B s=some t∧Pt t:=by
  intro n
  induction n using Nat.strongRecOn with
  | _ n ih=>
   intro s hn hI
   rcases hr s hI with ⟨s',h1,h2,h3⟩ | ⟨t,h1,h2⟩
   ·rw [whileO_step h1]
    exact ih _ (hn ▸ h3) _ rfl h2
   ·exact ⟨t,whileO_done h1,h2⟩
 exact key _ s rfl h0
theorem bindSome {α β:Type} {x:Option α} {f:α→Option β} {r:β} (h:x.bind f=some r):∃ y,x=some y∧f y=some r:=by
 cases x with
 | none=>simp at h
 | some y=>exact ⟨y,rfl,by simpa using h⟩
theorem iteSome {α:Type} {c:Bool} {x y:Option α} {r:α} (h:(if c=true then x else y)=some r):(c=true∧x=some r) ∨ (c=false∧y=some r):=by
 cases c
 ·exact .inr ⟨rfl,by simpa using h⟩
 ·exact .inl ⟨rfl,by simpa using h⟩
section
variable {P : Program} {dq : List Deferred} {E : Nat → Prop} {M : List Nat} {w0 : World} {n : Nat} {a : Act} {w : World} {F : List (Nat × Value)} {L : List Ent} {D : List Fact} {Q : Exit → Act → World → Prop}
theorem sSeq {x y:Code} (h:∀ K:Act→World→Prop,(∀ a w,y.wp P Q a w→K a w)→x.wp P (Exit.then K Q) a w):(Code.seq x y).wp P Q a w:=wp_seq_k h
theorem sCut {x y:Code} (I:Act→World→Prop) (h1:x.wp P (Exit.then I Q) a w) (h2:∀ a w,I a w→y.wp P Q a w):(Code.seq x y).wp P Q a w:=
 wp_seq (wp_mono h1 fun e a w hq=>by
  cases e with
  | normal=>exact h2 a w hq
  | _=>exact hq)
theorem sRegion {id:Nat} {l:List Oper} (h:wpList P l.toArray Q l a w):(Code.region id l.toArray false).wp P Q a w:=wp_region_lit h
theorem sCondT {c:Operand} {b:Bool} {x y:Code} (S:St dq E M w0 n a w F L D) (hc:lookO F c=some (.bool b)) (hb:b=true) (h:x.wp P Q a w):(Code.cond c x y).wp P Q a w:=
 wp_cond_true (by rw [S.frm.eval hc,hb]) h
theorem sCondF {c:Operand} {b:Bool} {x y:Code} (S:St dq E M w0 n a w F L D) (hc:lookO F c=some (.bool b)) (hb:b=false) (h:y.wp P Q a w):(Code.cond c x y).wp P Q a w:=
 wp_cond_false (by rw [S.frm.eval hc,hb]) h
theorem sLoop {σ τ:Type} {c:Code} {B:σ→Option (σ ⊕ τ)} {s:σ} {t:τ} (hw:whileO B s=some t) (I:σ→Act→World→Prop) (h0:I s a w)
 (round:∀ s a w r,I s a w→B s=some r→(∀ u,r=.inr u→u=t)→c.wp P (Exit.then (fun a' w'=>∃ s',r=.inl s'∧I s' a' w') Q) a w):(Code.loop c).wp P Q a w:=by
 obtain ⟨m,hm⟩:=whileO_some hw
 clear hw
 intro b k cs
 have key:∀ m s a w,iterO B m s=some t→I s a w →
  ∃ e a' w',Q e a' w'∧Arrives P (lone (b.at a (.code c :: .inLoop c :: k)) cs w) b k cs e a' w':=by
  intro m
  induction m with
  | zero=>intro s a w hm; simp [iterO] at hm
  | succ m ih=>
   intro s a w hm hI
   rw [iterO] at hm
   obtain ⟨r,hr,hm⟩:=bindSome hm
   obtain ⟨e,a₁,w₁,hq,harr⟩:=round s a w r hI hr (by rintro u rfl; simpa using hm) b (.inLoop c :: k) cs
   cases e with
   | normal=>
    obtain ⟨s',rfl,hI'⟩:=hq
    obtain ⟨e₂,a₂,w₂,hq₂,harr₂⟩:=ih s' a₁ w₁ hm hI'
    exact ⟨e₂,a₂,w₂,hq₂,.of_steps (Steps.trans harr (.one step_inLoop)) harr₂⟩
   | exit id=>exact ⟨_,a₁,w₁,hq,.pass (x:=.inLoop c) rfl (fun _ _=>.inl (by simp)) harr⟩
   | goto l=>exact ⟨_,a₁,w₁,hq,.pass (x:=.inLoop c) rfl (fun _ _=>.inl (by simp)) harr⟩
   | ret=>exact ⟨_,a₁,w₁,hq,.pass (x:=.inLoop c) rfl (fun _ _=>.inl (by simp)) harr⟩
   | panic ch=>exact ⟨_,a₁,w₁,hq,.pass (x:=.inLoop c) rfl (fun _ _=>.inl (by simp)) harr⟩
   | outgrown=>exact ⟨_,a₁,w₁,hq,.pass (x:=.inLoop c) rfl (fun _ _=>.inl (by simp)) harr⟩
 obtain ⟨e,a',w',hq,harr⟩:=key m s a w hm h0
 exact ⟨e,a',w',hq,.of_steps (.one step_loop) harr⟩
theorem sRet {fn:Func} {Rt:Ending→World→Prop} (v:Value) (S:St [] E M w0 n a w F L D) (hr:(results fn a.tmps).run P w=.ok v w) (h:Rt (.returned v) w):bodyPost P fn Rt .ret a w:=⟨S.frm.defers,v,hr,h⟩
theorem sEnd {fn:Func} {Rt:Ending→World→Prop} (v:Value) (S:St [] E M w0 n a w F L D) (hr:(results fn a.tmps).run P w=.ok v w) (h:Rt (.returned v) w):bodyPost P fn Rt .normal a w:=⟨S.frm.defers,v,hr,h⟩
theorem res0 {fn:Func} (hres:fn.results=#[]):(results fn a.tmps).run P w=.ok (.tuple #[]) w:=by
 simp [results,hres]
def w64 (x:Int):Int:=IntKind.i64.wrap x
theorem w64_id {x:Int} (h:-9223372036854775808 ≤ x∧x ≤ 9223372036854775807):w64 x=x:=by
 simp [w64,IntKind.wrap,IntKind.bits,IntKind.signed]
 omega
def quoI (x y:Int):Option Int:=if y=0 then none else some (w64 (x.tdiv y))
def remI (x y:Int):Option Int:=if y=0 then none else some (x.tmod y)
theorem bAdd (t u:TypeId) (p q:Operand) (x y:Int):∀ w,(eqGuard .add t p q (.int .i64 x) (.int .i64 y)).run P w=.ok () w∧(binOp .add u (.int .i64 x) (.int .i64 y)).run P w=.ok (.int .i64 (w64 (x + y))) w:=fun w=>⟨rfl,rfl⟩
theorem bSub (t u:TypeId) (p q:Operand) (x y:Int):∀ w,(eqGuard .sub t p q (.int .i64 x) (.int .i64 y)).run P w=.ok () w∧(binOp .sub u (.int .i64 x) (.int .i64 y)).run P w=.ok (.int .i64 (w64 (x - y))) w:=fun w=>⟨rfl,rfl⟩
theorem bMul (t u:TypeId) (p q:Operand) (x y:Int):∀ w,(eqGuard .mul t p q (.int .i64 x) (.int .i64 y)).run P w=.ok () w∧(binOp .mul u (.int .i64 x) (.int .i64 y)).run P w=.ok (.int .i64 (w64 (x * y))) w:=fun w=>⟨rfl,rfl⟩
theorem bQuo (t u:TypeId) (p q:Operand) {x y z:Int} (h:quoI x y=some z):∀ w,(eqGuard .quo t p q (.int .i64 x) (.int .i64 y)).run P w=.ok () w∧(binOp .quo u (.int .i64 x) (.int .i64 y)).run P w=.ok (.int .i64 z) w:=fun w=>by
 unfold quoI at h
 split at h
 ·cases h
 ·rename_i hy
  cases h
  refine ⟨rfl,?_⟩
  simp [binOp,Op.intDiv,hy,w64]
theorem bRem (t u:TypeId) (p q:Operand) {x y z:Int} (h:remI x y=some z):∀ w,(eqGuard .rem t p q (.int .i64 x) (.int .i64 y)).run P w=.ok () w∧(binOp .rem u (.int .i64 x) (.int .i64 y)).run P w=.ok (.int .i64 z) w:=fun w=>by
 unfold remI at h
 split at h
 ·cases h
 ·rename_i hy
  cases h
  refine ⟨rfl,?_⟩
  simp [binOp,Op.intDiv,hy]
theorem bEq (t u:TypeId) (p q:Operand) (k:IntKind) (x y:Int):∀ w,(eqGuard .eql t p q (.int k x) (.int k y)).run P w=.ok () w∧(binOp .eql u (.int k x) (.int k y)).run P w=.ok (.bool (x == y)) w:=fun w=>⟨rfl,by simp [binOp,Op.intCmp]⟩
theorem bNe (t u:TypeId) (p q:Operand) (k:IntKind) (x y:Int):∀ w,(eqGuard .neq t p q (.int k x) (.int k y)).run P w=.ok () w∧(binOp .neq u (.int k x) (.int k y)).run P w=.ok (.bool (x != y)) w:=fun w=>⟨rfl,by simp [binOp,Op.intCmp]⟩
theorem bLt (t u:TypeId) (p q:Operand) (k:IntKind) (x y:Int):∀ w,(eqGuard .lss t p q (.int k x) (.int k y)).run P w=.ok () w∧(binOp .lss u (.int k x) (.int k y)).run P w=.ok (.bool (decide (x < y))) w:=fun w=>⟨rfl,by simp [binOp,Op.intCmp]⟩
theorem bLe (t u:TypeId) (p q:Operand) (k:IntKind) (x y:Int):∀ w,(eqGuard .leq t p q (.int k x) (.int k y)).run P w=.ok () w∧(binOp .leq u (.int k x) (.int k y)).run P w=.ok (.bool (decide (x ≤ y))) w:=fun w=>⟨rfl,by simp [binOp,Op.intCmp]⟩
theorem bGt (t u:TypeId) (p q:Operand) (k:IntKind) (x y:Int):∀ w,(eqGuard .gtr t p q (.int k x) (.int k y)).run P w=.ok () w∧(binOp .gtr u (.int k x) (.int k y)).run P w=.ok (.bool (decide (y < x))) w:=fun w=>⟨rfl,by simp [binOp,Op.intCmp]⟩
theorem bGe (t u:TypeId) (p q:Operand) (k:IntKind) (x y:Int):∀ w,(eqGuard .geq t p q (.int k x) (.int k y)).run P w=.ok () w∧(binOp .geq u (.int k x) (.int k y)).run P w=.ok (.bool (decide (y ≤ x))) w:=fun w=>⟨rfl,by simp [binOp,Op.intCmp]⟩
theorem run_equalIn_bool (d:Nat) {u:TypeId} (hu:P.underlying u=some .bool) (x y:Bool) (w:World):(Op.equalIn (d + 1) u (.bool x) (.bool y)).run P w=.ok (x == y) w:=by
 simp [Op.equalIn,run_underlying hu]
theorem bNeB (t u:TypeId) (p q:Operand) (hu:P.underlying u=some .bool) (x y:Bool):∀ w,(eqGuard .neq t p q (.bool x) (.bool y)).run P w=.ok () w∧(binOp .neq u (.bool x) (.bool y)).run P w=.ok (.bool (x != y)) w:=fun w=>⟨rfl,by
 simp only [binOp]
 simp [Op.equal,Op.maxDepth,run_equalIn_bool 9999 hu,bne]⟩
theorem sNot {ops:Array Oper} {rest:List Oper} {o:Oper} {t:TypeId} {x:Operand} {b:Bool} {d:Nat} (S:St dq E M w0 n a w F L D)
 (hw:∀ a,Frm dq n a F→Region.wanted o (yielded ops a.tmps)=true) (ho:o.op=.unOp .not t x) (hx:lookO F x=some (.bool b)) (hd:o.dst=some d) (hn:d < n)
 (k:∀ a,St dq E M w0 n a w ((d,.bool (!b)) :: F) L D→wpList P ops Q rest a w):wpList P ops Q (o :: rest) a w:=by
 have he:=S.frm.eval hx
 exact sVal S hw hd hn (by simp [execOp,ho,he,Op.unary]) S.mem k
theorem sNeg {ops:Array Oper} {rest:List Oper} {o:Oper} {t:TypeId} {x:Operand} {b:Int} {d:Nat} (S:St dq E M w0 n a w F L D)
 (hw:∀ a,Frm dq n a F→Region.wanted o (yielded ops a.tmps)=true) (ho:o.op=.unOp .neg t x) (hx:lookO F x=some (.int .i64 b)) (hd:o.dst=some d) (hn:d < n)
 (k:∀ a,St dq E M w0 n a w ((d,.int .i64 (w64 (0 - b))) :: F) L D→wpList P ops Q rest a w):wpList P ops Q (o :: rest) a w:=by
 have he:=S.frm.eval hx
 exact sVal S hw hd hn (by simp [execOp,ho,he,Op.unary,Op.intArith,w64]) S.mem k
theorem sConv {ops:Array Oper} {rest:List Oper} {o:Oper} {t u:TypeId} {k k2:IntKind} {ds:TypeDesc} {x:Operand} {b:Int} {d:Nat} (S:St dq E M w0 n a w F L D)
 (hw:∀ a,Frm dq n a F→Region.wanted o (yielded ops a.tmps)=true) (ho:o.op=.convert t u x) (ht:P.underlying t=some ds) (hu:P.underlying u=some (.int k2)) (hx:lookO F x=some (.int k b)) (hd:o.dst=some d) (hn:d < n)
 (K:∀ a,St dq E M w0 n a w ((d,.int k2 (k2.wrap b)) :: F) L D→wpList P ops Q rest a w):wpList P ops Q (o :: rest) a w:=by
 have he:=S.frm.eval hx
 exact sVal S hw hd hn (by simp [execOp,ho,he,convert,run_underlying ht,run_underlying hu,Conv.intToInt]) S.mem K
theorem sExtract {ops:Array Oper} {rest:List Oper} {o:Oper} {i:Nat} {x:Operand} {vs:List Value} {d:Nat} (v:Value) (S:St dq E M w0 n a w F L D)
 (hw:∀ a,Frm dq n a F→Region.wanted o (yielded ops a.tmps)=true) (ho:o.op=.extract x i) (hx:lookO F x=some (.tuple vs.toArray)) (hv:vs[i]?=some v) (hd:o.dst=some d) (hn:d < n)
 (k:∀ a,St dq E M w0 n a w ((d,v) :: F) L D→wpList P ops Q rest a w):wpList P ops Q (o :: rest) a w:=by
 have he:=S.frm.eval hx
 exact sVal S hw hd hn (by simp [execOp,ho,he,Instr.extract,hv]) S.mem k
theorem sLen {ops:Array Oper} {rest:List Oper} {o:Oper} {e t:TypeId} {x:Operand} {ad:Option Addr} {m c:Nat} {d:Nat} (S:St dq E M w0 n a w F L D)
 (hw:∀ a,Frm dq n a F→Region.wanted o (yielded ops a.tmps)=true) (ho:o.op=.call { callee:=.builtin .len,args:=#[x],argTypes:=#[t] }) (ht:P.underlying t=some (.slice e)) (hx:lookO F x=some (.slice ad m c)) (hd:o.dst=some d) (hn:d < n)
 (k:∀ a,St dq E M w0 n a w ((d,.int .i64 (m:Int)) :: F) L D→wpList P ops Q rest a w):wpList P ops Q (o :: rest) a w:=by
 have he:=S.frm.eval hx
 exact sVal S hw hd hn (by simp [execOp,ho,he,resolve,invoke,builtin,Builtin.len_,run_underlying ht,goInt]) S.mem k
end
end Go.Proofs.Ytnfjcalmangncaa
namespace Go.Proofs.Ytnfjcalmangncaa
open Go.RowKit
def idxO {α:Type} (xs:List α) (i:Int):Option α:=if 0 ≤ i then xs[i.toNat]? else none
theorem idxO_some {α:Type} {xs:List α} {i:Int} {x:α} (h:idxO xs i=some x):0 ≤ i∧i.toNat < xs.length∧xs[i.toNat]?=some x:=by
 unfold idxO at h
 split at h
 ·exact ⟨by assumption,(List.getElem?_eq_some_iff.1 h).1,h⟩
 ·cases h
def setO {α:Type} (xs:List α) (i:Int) (y:α):Option (List α):=if 0 ≤ i∧i.toNat < xs.length then some (xs.set i.toNat y) else none
theorem setO_some {α:Type} {xs ys:List α} {i:Int} {y:α} (h:setO xs i y=some ys):0 ≤ i∧i.toNat < xs.length∧ys=xs.set i.toNat y:=by
 unfold setO at h
 split at h
 ·rename_i g; cases h; exact ⟨g.1,g.2,rfl⟩
 ·cases h
def lim:Nat:=68719476736
def appO {α:Type} (xs ys:List α):Option (List α):=if xs.length + ys.length ≤ lim then some (xs ++ ys) else none
theorem appO_some {α:Type} {xs ys zs:List α} (h:appO xs ys=some zs):xs.length + ys.length ≤ 68719476736∧zs=xs ++ ys:=by
 unfold appO lim at h
 split at h
 ·rename_i g; cases h; exact ⟨g,rfl⟩
 ·cases h
def makeO {α:Type} (m:Int) (z:α):Option (List α):=if 0 ≤ m∧m.toNat ≤ lim then some (List.replicate m.toNat z) else none
theorem makeO_some {α:Type} {m:Int} {z:α} {xs:List α} (h:makeO m z=some xs):∃ k:Nat,m=k∧k ≤ 68719476736∧xs=List.replicate k z:=by
 unfold makeO lim at h
 split at h
 ·rename_i g; cases h; exact ⟨m.toNat,by omega,g.2,rfl⟩
 ·cases h
def capO (m:Int):Option Unit:=if 0 ≤ m∧m.toNat ≤ lim then some () else none
theorem capO_some {m:Int} {u:Unit} (h:capO m=some u):∃ k:Nat,m=k∧k ≤ 68719476736:=by
 unfold capO lim at h
 split at h
 ·rename_i g; exact ⟨m.toNat,by omega,g.2⟩
 ·cases h
def sliceO {α:Type} (xs:List α) (lo hi:Int):Option (List α):=if 0 ≤ lo∧lo ≤ hi∧hi ≤ (xs.length:Int) then some ((xs.take hi.toNat).drop lo.toNat) else none
theorem sliceO_some {α:Type} {xs ys:List α} {lo hi:Int} (h:sliceO xs lo hi=some ys):∃ l k:Nat,lo=l∧hi=k∧l ≤ k∧k ≤ xs.length∧ys=(xs.take k).drop l:=by
 unfold sliceO at h
 split at h
 ·rename_i g; cases h; exact ⟨lo.toNat,hi.toNat,by omega,by omega,by omega,by omega,rfl⟩
 ·cases h
def fPtr {α:Type} (r:R α) (q:Value) (x:α):Fact where
 p:=fun E w=>∃ b off v,q=.pointer (some ⟨b,off,none⟩)∧¬ E b∧b < w.heap.size∧r.rep E w v x∧∀ j u,v.cells.toList[j]?=some u→w.cell? ⟨b,off + j,none⟩=some u
 mono:=by
  rintro E E' w w' h ⟨b,off,v,hq,hE,hb,hr,hc⟩
  refine ⟨b,off,v,hq,fun e=>hE (h.excl b hb e),Nat.lt_of_lt_of_le hb h.size,r.mono h hr,fun j u hu=>?_⟩
  rw [World.cell?_of_block (w:=w) (h.same b hb hE ⟨_,_,hc j u hu⟩)]
  exact hc j u hu
section
variable {P : Program} {dq : List Deferred} {E : Nat → Prop} {M : List Nat} {w0 : World} {n : Nat} {a : Act} {w : World} {F : List (Nat × Value)} {L : List Ent} {D : List Fact} {Q : Exit → Act → World → Prop}
variable {ops : Array Oper} {rest : List Oper} {o : Oper} {d : Nat}
theorem add_addr (b off k:Nat):(⟨b,off,none⟩:Addr).add k=⟨b,off + k,none⟩:=by
 unfold Addr.add; split <;> simp_all
theorem Ent.allocated {e:Ent} (w:World) (E':Nat→Prop) (S:St0 E M w0 w L D) (he:e ∈ L) (hE:∀ b,b < w.heap.size→E' b→tot E L b) (o:Obj):e.p E' (w.alloc o):=
 e.mono ⟨by simp,fun b hb _ _=>heap_alloc_old w o hb,hE⟩ (fun b hb=>heap_alloc_old w o (S.lt b (keysL_mem.2 ⟨e,he,hb⟩))) (S.ent e he)
theorem St0.new (S:St0 E M w0 w L D) (o:Obj) (e:Ent) (hk:e.keys=[w.heap.size]) (hp:e.p (tot E (e :: L)) (w.alloc o)):St0 E M w0 (w.alloc o) (e :: L) D:=by
 have hb:∀ b,b < w.heap.size→tot E (e :: L) b→tot E L b:=by
  intro b hb h
  rcases h with h | h
  ·exact .inl h
  ·refine .inr ?_
   simp only [keysL,List.map_cons,List.flatten_cons,hk,List.mem_append,List.mem_singleton] at h
   rcases h with h | h
   ·omega
   ·exact h
 refine ⟨S.chg.trans (Chg.alloc M w o) (fun j hj=>.inl hj),?_,?_,?_,?_,S.bnd⟩
 ·intro x hx
  rcases List.mem_cons.1 hx with rfl | hx
  ·exact hp
  ·exact Ent.allocated w _ S hx hb o
 ·intro x hx
  exact x.mono ⟨by simp,fun b hb _ _=>heap_alloc_old w o hb,hb⟩ (S.fact x hx)
 ·simp only [keysL,List.map_cons,List.flatten_cons,hk,List.singleton_append,List.nodup_cons]
  exact ⟨fun h=>absurd (S.lt _ h) (by omega),S.nodup⟩
 ·intro b hx
  simp only [keysL,List.map_cons,List.flatten_cons,hk,List.mem_append,List.mem_singleton] at hx
  rcases hx with rfl | hx
  ·exact ⟨.inl S.chg.size,fun h=>absurd (S.bnd _ h) (by have:=S.chg.size; omega)⟩
  ·exact S.key b hx
theorem St0.at {i:Nat} {e:Ent} (S:St0 E M w0 w L D) (h:L[i]?=some e):e.p (tot E L) w:=S.ent e (List.mem_of_getElem? h)
theorem St0.know {i:Nat} {e:Fact} (S:St0 E M w0 w L D) (h:D[i]?=some e):e.p (tot E L) w:=S.fact e (List.mem_of_getElem? h)
theorem St0.learn (S:St0 E M w0 w L D) (e:Fact) (h:e.p (tot E L) w):St0 E M w0 w L (e :: D):=
 ⟨S.chg,S.ent,fun x hx=>by rcases List.mem_cons.1 hx with rfl | hx; exact h; exact S.fact x hx,S.nodup,S.key,S.bnd⟩
theorem erase_perm {α:Type} {l:List α} {i:Nat} {x:α} (h:l[i]?=some x):(x :: l.eraseIdx i).Perm l:=by
 induction l generalizing i with
 | nil=>simp at h
 | cons y l ih=>
  cases i with
  | zero=>simp at h; subst h; exact List.Perm.refl _
  | succ i=>
   simp at h
   exact (List.Perm.swap y x _).trans ((ih h).cons y)
theorem St0.put {i:Nat} {e:Ent} {w':World} (S:St0 E M w0 w L D) (hi:L[i]?=some e) (e':Ent) (hc:Chg e.keys w w') (hk:∀ b,b ∈ e'.keys→b ∈ e.keys ∨ w.heap.size ≤ b) (hn:e'.keys.Nodup)
 (hp:e'.p (tot E (e' :: L.eraseIdx i)) w'):St0 E M w0 w' (e' :: L.eraseIdx i) D:=by
 have hperm:(e :: L.eraseIdx i).Perm L:=erase_perm hi
 have S1:=S.perm hperm
 have hE:tot (tot E (L.eraseIdx i)) [e']=tot E (e' :: L.eraseIdx i):=by
  funext b
  simp only [tot,keysL,List.map_cons,List.flatten_cons,List.map_nil,List.flatten_nil,List.append_nil,List.mem_append]
  exact propext ⟨fun h=>by rcases h with (h | h) | h; exact .inl h; exact .inr (.inr h); exact .inr (.inl h),fun h=>by rcases h with h | h | h; exact .inl (.inl h); exact .inr h; exact .inl (.inr h)⟩
 have S2:=St0.enter (B:=[e]) (Rs:=L.eraseIdx i) (D:=[]) S1 (by simp)
 have key:keysL [e]=e.keys:=by simp [keysL]
 have h:=St0.upd (B:=[e]) (Rs:=L.eraseIdx i) S1 (by rw [key]; exact hc) [e'] [] ⟨by rw [key]; exact hc,by intro x hx; simp at hx; subst hx; rw [hE]; exact hp,by simp,by simpa [keysL] using hn,by
  intro b hb
  have hb':b ∈ e'.keys:=by simpa [keysL] using hb
  refine ⟨?_,fun h=>?_⟩
  ·rcases hk b hb' with h | h
   ·exact .inr (by rw [key]; exact h)
   ·exact .inl h
  ·rcases hk b hb' with h1 | h1
   ·exact (S2.key b (by rw [key]; exact h1)).2 h
   ·exact absurd (S2.bnd b h) (by omega),S2.bnd⟩
 simpa using h
theorem sBox {t:TypeId} {x:Operand} {v:Value} (S:St dq E M w0 n a w F L D)
 (hw:∀ a,Frm dq n a F→Region.wanted o (yielded ops a.tmps)=true) (ho:o.op=.box t x) (hx:lookO F x=some v) (cs:List Value) (hcs:v.cells=cs.toArray) (hd:o.dst=some d) (hn:d < n)
 (k:∀ a p w,St dq E M w0 n a w ((d,.pointer (some ⟨p,0,none⟩)) :: F) (eBox p t cs :: L) D→wpList P ops Q rest a w):wpList P ops Q (o :: rest) a w:=by
 have he:=S.frm.eval hx
 refine sVal S hw hd hn (w':=w.alloc (.cells cs.toArray t)) (v:=.pointer (some ⟨w.heap.size,0,none⟩)) ?_ (S.mem.new _ (eBox w.heap.size t cs) rfl ?_) (fun a=>k a w.heap.size _)
 ·simp [execOp,ho,he,Instr.box,newVar,newRow,hcs]
 ·exact heap_alloc_new w _
theorem sAlloc {t:TypeId} (z:Value) (S:St dq E M w0 n a w F L D)
 (hw:∀ a,Frm dq n a F→Region.wanted o (yielded ops a.tmps)=true) (ho:o.op=.alloc t) (hz:(P.info? t).map (·.zero)=some (some z)) (cs:List Value) (hcs:z.cells=cs.toArray) (hd:o.dst=some d) (hn:d < n)
 (k:∀ a p w,St dq E M w0 n a w ((d,.pointer (some ⟨p,0,none⟩)) :: F) (eBox p t cs :: L) D→wpList P ops Q rest a w):wpList P ops Q (o :: rest) a w:=by
 refine sVal S hw hd hn (w':=w.alloc (.cells cs.toArray t)) (v:=.pointer (some ⟨w.heap.size,0,none⟩)) ?_ (S.mem.new _ (eBox w.heap.size t cs) rfl ?_) (fun a=>k a w.heap.size _)
 ·cases hi:P.info? t with
  | none=>simp [hi] at hz
  | some i=>
   simp [hi] at hz
   simp [execOp,ho,Instr.alloc,zeroValue,typeInfo,hi,hz,newVar,newRow,hcs]
 ·exact heap_alloc_new w _
end
def aggB (P:Program) (t:TypeId):Option Bool:=(P.underlying t).map fun d=>match d with | .struct _ | .array _ _=>true | _=>false
def cellsB (P:Program) (t:TypeId):Option Nat:=(P.info? t).map (·.size)
def fieldB (P:Program) (s:TypeId) (f:Nat):Option Nat:=match P.underlying s with
 | some (.struct fs)=>(fs[f]?).bind fun fl=>match P.info? fl.type with | some i=>if i.size=0 then none else some fl.offset | none=>none
 | _=>none
def over (vs:List Value) (off:Nat) (cs:List Value):List Value:=vs.take off ++ cs ++ vs.drop (off + cs.length)
def Scal {α:Type} (r:R α):Prop:=∀ E w v x,r.rep E w v x→v.cells=#[v]
def Aggr {α:Type} (r:R α):Prop:=∀ E w v x,r.rep E w v x→∃ cs,v=.agg cs
theorem scal_I (k:IntKind):Scal (rI k):=by rintro _ _ _ _ rfl; rfl
theorem scal_L {α:Type} (r:R α):Scal (rL r):=by rintro _ _ _ _ ⟨_,_,_,rfl,_⟩; rfl
def Comp {α β:Type} (r:R α) (s:R β) (o:Nat) (f:α→β):Prop:=∀ E w v x,r.rep E w v x→∃ u,s.rep E w u (f x)∧∀ (j:Nat) (c:Value),u.cells.toList[j]?=some c→v.cells.toList[o + j]?=some c
def OwnP (sz:Nat) (v q:Value) (j:Nat):Prop:=∃ g m c,v=.slice (some ⟨g,0,none⟩) m c∧q=.pointer (some ⟨g,j * sz,none⟩)
section
variable {P : Program} {dq : List Deferred} {E : Nat → Prop} {M : List Nat} {w0 : World} {n : Nat} {a : Act} {w : World} {F : List (Nat × Value)} {L : List Ent} {D : List Fact} {Q : Exit → Act → World → Prop}
variable {ops : Array Oper} {rest : List Oper} {o : Oper} {d : Nat}
theorem run_isAgg {t:TypeId} {b:Bool} (h:aggB P t=some b) (w:World):(isAgg t).run P w=.ok b w:=by
 unfold aggB at h
 cases hu:P.underlying t with
 | none=>simp [hu] at h
 | some dd=>
  simp only [hu,Option.map_some,Option.some.injEq] at h
  subst h
  cases dd <;> simp [isAgg,run_underlying hu]
theorem run_sizeOf' {t:TypeId} {m:Nat} (h:cellsB P t=some m) (w:World):(sizeOf t).run P w=.ok m w:=by
 unfold cellsB at h
 cases hu:P.info? t with
 | none=>simp [hu] at h
 | some dd=>
  simp only [hu,Option.map_some,Option.some.injEq] at h
  subst h
  simp [sizeOf,typeInfo,hu]
theorem run_fieldAt {s:TypeId} {f k:Nat} (h:fieldB P s f=some k) (b off:Nat) (w:World):(Instr.fieldAt s (.pointer (some ⟨b,off,none⟩)) f).run P w=.ok (.pointer (some ⟨b,off + k,none⟩)) w:=by
 unfold fieldB at h
 split at h
 ·rename_i fs hu
  cases hf:fs[f]? with
  | none=>simp [hf] at h
  | some fl=>
   simp only [hf,Option.bind_some] at h
   cases hi:P.info? fl.type with
   | none=>simp [hi] at h
   | some i=>
    simp only [hi] at h
    split at h
    ·cases h
    ·rename_i hs
     cases h
     simp [Instr.fieldAt,run_underlying hu,hf,Instr.sureAddr,fieldPlace,sizeOf,typeInfo,hi,hs,add_addr]
 ·cases h
theorem sField {s:TypeId} {x:Operand} {f b off:Nat} (k off':Nat) (S:St dq E M w0 n a w F L D)
 (hw:∀ a,Frm dq n a F→Region.wanted o (yielded ops a.tmps)=true) (ho:o.op=.fieldAddr s x f) (hx:lookO F x=some (.pointer (some ⟨b,off,none⟩))) (hf:fieldB P s f=some k) (hoff:off + k=off') (hd:o.dst=some d) (hn:d < n)
 (K:∀ a,St dq E M w0 n a w ((d,.pointer (some ⟨b,off',none⟩)) :: F) L D→wpList P ops Q rest a w):wpList P ops Q (o :: rest) a w:=by
 subst hoff
 have he:=S.frm.eval hx
 exact sVal S hw hd hn (by simp only [execOp,ho,he,Sem.run_bind,run_fieldAt hf,Result.andThen_ok,Sem.run_pure]) S.mem K
theorem sLoad1 {t T:TypeId} {q:Operand} {p off:Nat} {vs:List Value} (i:Nat) (v:Value) (S:St dq E M w0 n a w F L D)
 (hw:∀ a,Frm dq n a F→Region.wanted o (yielded ops a.tmps)=true) (ho:o.op=.load t q) (hq:lookO F q=some (.pointer (some ⟨p,off,none⟩))) (ht:aggB P t=some false) (hL:L[i]?=some (eBox p T vs)) (hv:vs[off]?=some v) (hd:o.dst=some d) (hn:d < n)
 (k:∀ a,St dq E M w0 n a w ((d,v) :: F) L D→wpList P ops Q rest a w):wpList P ops Q (o :: rest) a w:=by
 have he:=S.frm.eval hq
 have hb:w.heap[p]?=some (.cells vs.toArray T (0,0)):=S.mem.at hL
 have hc:w.cell? ⟨p,off,none⟩=some v:=by simp [World.cell?,hb,hv]
 exact sVal S hw hd hn (by simp [execOp,ho,he,Instr.loadAt,Instr.sureAddr,loadVar,run_isAgg ht,hc]) S.mem k
theorem run_loadVar_agg {t:TypeId} {b off:Nat} (cs:List Value) (ht:aggB P t=some true) (hm:cellsB P t=some cs.length) (w:World) (hc:∀ j u,cs[j]?=some u→w.cell? ⟨b,off + j,none⟩=some u) :
 (loadVar t ⟨b,off,none⟩).run P w=.ok (.agg cs.toArray) w:=by
 have h:=run_loadCells_list (P:=P) w ⟨b,off,none⟩ cs (fun j u hu=>by rw [add_addr]; exact hc j u hu)
 simp [loadVar,run_isAgg ht,run_sizeOf' hm,h]
theorem sLoadN {t T:TypeId} {q:Operand} {p off:Nat} {vs:List Value} (i:Nat) (cs:List Value) (S:St dq E M w0 n a w F L D)
 (hw:∀ a,Frm dq n a F→Region.wanted o (yielded ops a.tmps)=true) (ho:o.op=.load t q) (hq:lookO F q=some (.pointer (some ⟨p,off,none⟩))) (ht:aggB P t=some true) (hL:L[i]?=some (eBox p T vs)) (hm:cellsB P t=some cs.length)
 (hcs:(vs.drop off).take cs.length=cs) (hd:o.dst=some d) (hn:d < n)
 (k:∀ a,St dq E M w0 n a w ((d,.agg cs.toArray) :: F) L D→wpList P ops Q rest a w):wpList P ops Q (o :: rest) a w:=by
 have he:=S.frm.eval hq
 have hb:w.heap[p]?=some (.cells vs.toArray T (0,0)):=S.mem.at hL
 have hc:∀ j u,cs[j]?=some u→w.cell? ⟨p,off + j,none⟩=some u:=by
  intro j u hu
  have hj:j < cs.length:=(List.getElem?_eq_some_iff.1 hu).1
  rw [← hcs,List.getElem?_take,if_pos hj,List.getElem?_drop] at hu
  simp [World.cell?,hb,hu]
 exact sVal S hw hd hn (by simp [execOp,ho,he,Instr.loadAt,Instr.sureAddr,run_loadVar_agg cs ht hm w hc]) S.mem k
theorem sStore {t T:TypeId} {q x:Operand} {p off:Nat} {vs:List Value} {v:Value} (i:Nat) (cs:List Value) (S:St dq E M w0 n a w F L D)
 (hw:∀ a,Frm dq n a F→Region.wanted o (yielded ops a.tmps)=true) (ho:o.op=.store t q x) (hq:lookO F q=some (.pointer (some ⟨p,off,none⟩))) (hx:lookO F x=some v) (hcs:v.cells=cs.toArray) (hL:L[i]?=some (eBox p T vs)) (hm:cellsB P t=some cs.length)
 (h1:cs.all (·.oneCell')=true) (hl:off + cs.length ≤ vs.length) (hd:o.dst=none)
 (k:∀ a w,St dq E M w0 n a w F (eBox p T (over vs off cs) :: L.eraseIdx i) D→wpList P ops Q rest a w):wpList P ops Q (o :: rest) a w:=by
 have he:=S.frm.eval hq
 have hex:=S.frm.eval hx
 have hb:w.heap[p]?=some (.cells vs.toArray T (0,0)):=S.mem.at hL
 have hst:=run_storeCells_at (P:=P) p off T cs 0 vs.toArray w hb (by simpa using hl) (by simpa using h1)
 simp only [Nat.add_zero] at hst
 refine sUnit S hw hd (w':=w.setRow p (over vs off cs).toArray) ?_ (S.mem.put hL (eBox p T (over vs off cs)) ⟨rfl,rfl,rfl,by simp [World.setRow],fun k _ hk=>setRow_other w p k _ (fun e=>hk (by simp [eBox,e]))⟩ (fun b hb=>.inl hb) (by simp [eBox]) ?_) (fun a=>k a _)
 ·simp [execOp,ho,he,hex,Instr.storeAt,Instr.sureAddr,storeVar,run_sizeOf' hm,hcs,hst,over]
 ·exact setRow_heap w p _ _ T _ hb
theorem run_indexAt {t e:TypeId} {sz:Nat} (ht:P.underlying t=some (.slice e)) (hs:cellsB P e=some sz) {b off m c:Nat} {k:IntKind} {j:Int} (h0:0 ≤ j) (h1:j.toNat < m) (w:World) :
 (Instr.indexAt t (.slice (some ⟨b,off,none⟩) m c) (.int k j)).run P w=.ok (.pointer (some ⟨b,off + j.toNat * sz,none⟩)) w:=by
 have h2:j < (m:Int):=by omega
 simp [Instr.indexAt,run_underlying ht,asIntOf,h0,h2,run_sizeOf' hs,add_addr]
theorem rL_at {α:Type} {r:R α} {E:Nat→Prop} {w:World} {v:Value} {xs:List α} (h:(rL r).rep E w v xs) {j:Nat} {x:α} (hx:xs[j]?=some x) :
 ∃ b off c u,v=.slice (some ⟨b,off,none⟩) xs.length c∧¬ E b∧b < w.heap.size∧r.rep E w u x∧∀ i z,u.cells.toList[i]?=some z→w.cell? ⟨b,off + j * r.sz + i,none⟩=some z:=by
 obtain ⟨ad,c,vs,hv,_,_,ha,hcells⟩:=h
 have hj:j < vs.length:=by rw [ha.1]; exact (List.getElem?_eq_some_iff.1 hx).1
 have hu:vs[j]?=some vs[j]:=List.getElem?_eq_getElem hj
 have hrep:=ha.2 j _ x hu hx
 have hsz:=r.size hrep
 have hget:∀ i,i < r.sz→(flat vs)[j * r.sz + i]?=vs[j].cells.toList[i]?:=fun i hi=>flat_get (fun v hv=>(ha.cells v hv).1) hu hi
 have h0:=hcells (j * r.sz + 0) (vs[j].cells.toList[0]'(by rw [Array.length_toList,hsz]; exact r.pos)) (by rw [hget 0 r.pos]; exact List.getElem?_eq_getElem _)
 obtain ⟨b,off,rfl,hE,hb,_⟩:=h0
 refine ⟨b,off,c,vs[j],hv,hE,hb,hrep,fun i z hz=>?_⟩
 have hi:i < r.sz:=by rw [← hsz,← Array.length_toList]; exact (List.getElem?_eq_some_iff.1 hz).1
 obtain ⟨b',off',h1,_,_,h4⟩:=hcells (j * r.sz + i) z (by rw [hget i hi]; exact hz)
 cases h1
 rw [Nat.add_assoc]
 exact h4
theorem row_at {α:Type} {r:R α} {T:TypeId} {v:Value} {xs:List α} {E:Nat→Prop} {w:World} (h:(eRow r T v xs).p E w) {j:Nat} {x:α} (hx:xs[j]?=some x) :
 ∃ g c u,v=.slice (some ⟨g,0,none⟩) xs.length c∧r.rep E w u x∧∀ i z,u.cells.toList[i]?=some z→w.cell? ⟨g,j * r.sz + i,none⟩=some z:=by
 obtain ⟨vs,ha,_,hown⟩:=h
 have hlx:=(List.getElem?_eq_some_iff.1 hx).1
 have hj:j < vs.length:=by rw [ha.1]; exact hlx
 have hu:vs[j]?=some vs[j]:=List.getElem?_eq_getElem hj
 have hrep:=ha.2 j _ x hu hx
 have hsz:=r.size hrep
 rcases hown.2 with ⟨_,h0⟩ | ⟨g,cap,cur,rfl,_⟩
 ·omega
 ·refine ⟨g,cap,vs[j],rfl,hrep,fun i z hz=>?_⟩
  have hi:i < r.sz:=by rw [← hsz,← Array.length_toList]; exact (List.getElem?_eq_some_iff.1 hz).1
  have hlt:j * r.sz + i < xs.length * r.sz:=by
   have:(j + 1) * r.sz ≤ xs.length * r.sz:=Nat.mul_le_mul_right _ hlx
   rw [Nat.add_mul,Nat.one_mul] at this
   omega
  rw [hown.cellAt _ hlt,flat_get (fun v hv=>(ha.cells v hv).1) hu hi]
  exact hz
end
section
variable {P : Program} {dq : List Deferred} {E : Nat → Prop} {M : List Nat} {w0 : World} {n : Nat} {a : Act} {w : World} {F : List (Nat × Value)} {L : List Ent} {D : List Fact} {Q : Exit → Act → World → Prop}
variable {ops : Array Oper} {rest : List Oper} {o : Oper} {d : Nat}
theorem All.set {α:Type} {r:R α} {E:Nat→Prop} {w:World} {vs:List Value} {xs:List α} (a:All r E w vs xs) (j:Nat) {u:Value} {y:α} (h:r.rep E w u y):All r E w (vs.set j u) (xs.set j y):=by
 refine ⟨by simp [a.1],fun k v x hv hx=>?_⟩
 rw [List.getElem?_set] at hv hx
 split at hv
 ·rename_i e
  rw [if_pos e] at hx
  split at hv
  ·split at hx
   ·cases hv; cases hx; exact h
   ·cases hx
  ·cases hv
 ·rename_i e
  rw [if_neg e] at hx
  exact a.2 k v x hv hx
theorem over_get {l:List Value} {off:Nat} {cs:List Value} (h:off + cs.length ≤ l.length) (k:Nat):(over l off cs)[k]?=if off ≤ k∧k < off + cs.length then cs[k - off]? else l[k]?:=by
 have e1:(List.take off l).length=off:=by simp; omega
 unfold over
 rw [List.append_assoc]
 by_cases h1:k < off
 ·rw [List.getElem?_append_left (by omega),if_neg (by omega),List.getElem?_take,if_pos h1]
 ·rw [List.getElem?_append_right (by omega),e1]
  by_cases h2:k < off + cs.length
  ·rw [if_pos ⟨by omega,h2⟩,List.getElem?_append_left (by omega)]
  ·rw [if_neg (by omega),List.getElem?_append_right (by omega),List.getElem?_drop]
   congr 1
   omega
theorem over_length {l:List Value} {off:Nat} {cs:List Value} (h:off + cs.length ≤ l.length):(over l off cs).length=l.length:=by
 simp [over]; omega
theorem over_take {l:List Value} {off m:Nat} {cs:List Value} (h:off + cs.length ≤ m) (hm:m ≤ l.length):(over l off cs).take m=over (l.take m) off cs:=by
 apply List.ext_getElem?
 intro k
 rw [List.getElem?_take,over_get (by omega),over_get (by simp; omega),List.getElem?_take]
 by_cases h1:k < m
 ·simp [h1]
 ·rw [if_neg h1,if_neg (by omega),if_neg h1]
theorem over_append (A B:List Value) (k:Nat) (cs:List Value):over (A ++ B) (A.length + k) cs=A ++ over B k cs:=by
 unfold over
 rw [List.take_length_add_append,Nat.add_assoc,List.drop_length_add_append]
 simp
theorem flat_set {sz:Nat} {vs:List Value} (h:∀ v,v ∈ vs→v.cells.size=sz) {j:Nat} (hj:j < vs.length) {u:Value} (hu:u.cells.size=sz):flat (vs.set j u)=over (flat vs) (j * sz) u.cells.toList:=by
 induction vs generalizing j with
 | nil=>simp at hj
 | cons v vs ih=>
  have h1:=h v (by simp)
  have h2:=fun v hv=>h v (List.mem_cons_of_mem _ hv)
  have hl:v.cells.toList.length=sz:=by simp [h1]
  cases j with
  | zero=>
   simp only [List.set_cons_zero,flat,List.map_cons,List.flatten_cons,over,Nat.zero_mul,List.take_zero,List.nil_append,Nat.zero_add,Array.length_toList,hu]
   rw [← hl,List.drop_left]
  | succ j=>
   have:=ih h2 (by simpa using hj)
   have e1:(j + 1) * sz=v.cells.toList.length + j * sz:=by rw [hl,Nat.add_mul,Nat.one_mul,Nat.add_comm]
   simp only [List.set_cons_succ,flat,List.map_cons,List.flatten_cons] at this ⊢
   rw [this,e1,over_append]
theorem run_storeVar {t T:TypeId} {g off:Nat} {cur:Array Value} {u:Value} (hm:cellsB P t=some u.cells.size) (h1:∀ c,c ∈ u.cells.toList→c.oneCell'=true) (hg:w.heap[g]?=some (.cells cur T (0,0))) (hl:off + u.cells.size ≤ cur.size) :
 (storeVar t ⟨g,off,none⟩ u).run P w=.ok () (w.setRow g (over cur.toList off u.cells.toList).toArray):=by
 have hst:=run_storeCells_at (P:=P) g off T u.cells.toList 0 cur w hg (by simpa using hl) h1
 simp only [Nat.add_zero] at hst
 simp [storeVar,run_sizeOf' hm,hst,over]
theorem sStoreR {α:Type} {r:R α} {T:TypeId} {xs ys:List α} {y:α} {t:TypeId} {q x:Operand} {v vq u:Value} {j:Int} (i:Nat) (S:St dq E M w0 n a w F L D) (hp:OwnP r.sz v vq j.toNat)
 (hw:∀ a,Frm dq n a F→Region.wanted o (yielded ops a.tmps)=true) (ho:o.op=.store t q x) (hq:lookO F q=some vq) (hx:lookO F x=some u) (hL:L[i]?=some (eRow r T v xs)) (hu:(fRep r u y).p (tot E L) w) (hs:setO xs j y=some ys) (hm:cellsB P t=some r.sz) (hd:o.dst=none)
 (k:∀ a w,St dq E M w0 n a w F (eRow r T v ys :: L.eraseIdx i) D→wpList P ops Q rest a w):wpList P ops Q (o :: rest) a w:=by
 obtain ⟨h0,h1,rfl⟩:=setO_some hs
 obtain ⟨vs,ha,hlen,hown⟩:=S.mem.at hL
 obtain ⟨g,m,c,rfl,rfl⟩:=hp
 have he:=S.frm.eval hq
 have hex:=S.frm.eval hx
 have hsz:=r.size hu
 have hown1:=hown
 rcases hown.2 with ⟨h,_⟩ | ⟨g',cap,cur,h,hb,hg,hnc,hcm,hcs,htake⟩
 ·cases h
 obtain ⟨rfl,rfl,rfl⟩:g=g'∧m=xs.length∧c=cap:=by simpa using h
 have hle:(j.toNat + 1) * r.sz ≤ xs.length * r.sz:=Nat.mul_le_mul_right _ h1
 have hle2:xs.length * r.sz ≤ c * r.sz:=Nat.mul_le_mul_right _ hnc
 rw [Nat.add_mul,Nat.one_mul] at hle
 have hst:=run_storeVar (P:=P) (t:=t) (off:=j.toNat * r.sz) (by rw [hsz]; exact hm) (r.one hu) hg (by rw [hsz,hcs]; omega)
 have hchg:Chg (eRow r T (.slice (some ⟨g,0,none⟩) xs.length c) xs).keys w (w.setRow g (over cur.toList (j.toNat * r.sz) u.cells.toList).toArray):=⟨rfl,rfl,rfl,by simp [World.setRow],fun k _ hk=>setRow_other w g k _ (fun e=>hk (by simp [eRow,vkeys,e]))⟩
 have hext:Ext (tot E L) (tot E (eRow r T (.slice (some ⟨g,0,none⟩) xs.length c) (xs.set j.toNat y) :: L.eraseIdx i)) w (w.setRow g (over cur.toList (j.toNat * r.sz) u.cells.toList).toArray):=by
  refine ⟨hchg.size,fun b hb hn _=>hchg.block b hb (fun e=>hn (.inr (keysL_mem.2 ⟨_,List.mem_of_getElem? hL,e⟩))),fun b hb h=>?_⟩
  rcases h with h | h
  ·exact .inl h
  ·obtain ⟨e,h2,h3⟩:=keysL_mem.1 h
   rcases List.mem_cons.1 h2 with rfl | h2
   ·exact .inr (keysL_mem.2 ⟨_,List.mem_of_getElem? hL,h3⟩)
   ·exact .inr (keysL_mem.2 ⟨e,List.mem_of_mem_eraseIdx h2,h3⟩)
 refine sUnit S hw hd (w':=w.setRow g (over cur.toList (j.toNat * r.sz) u.cells.toList).toArray) ?_ (S.mem.put hL (eRow r T (.slice (some ⟨g,0,none⟩) xs.length c) (xs.set j.toNat y)) hchg (fun b hb=>.inl hb) (by simp [eRow,vkeys]) ?_) (fun a=>k a _)
 ·simp only [execOp,ho,he,hex,Instr.storeAt,Instr.sureAddr,Sem.run_bind,Sem.run_pure,Result.andThen_ok,hst]
 ·refine ⟨vs.set j.toNat u,(ha.mono hext).set _ (r.mono hext hu),by simpa using hlen,?_⟩
  have hj:j.toNat < vs.length:=by rw [ha.1]; exact h1
  rw [flat_set (fun v hv=>(ha.cells v hv).1) hj hsz]
  have hfl:=flat_length (fun v hv=>(ha.cells v hv).1)
  rw [ha.1] at hfl
  refine ⟨?_,.inr ⟨g,c,(over cur.toList (j.toNat * r.sz) u.cells.toList).toArray,by simp,Nat.zero_le _,setRow_heap w g cur _ T _ hg,by simpa using hnc,hcm,?_,?_⟩⟩
  ·rw [over_length (by rw [hfl]; simp [hsz]; omega),hfl]; simp
  ·simp only [List.size_toArray]; rw [over_length (by simp [hsz,hcs]; omega)]; simpa using hcs
  ·simp only [List.length_set]
   rw [over_take (by simp [hsz]; omega) (by simp [hcs]; omega),htake]
end
section
variable {P : Program} {dq : List Deferred} {E : Nat → Prop} {M : List Nat} {w0 : World} {n : Nat} {a : Act} {w : World} {F : List (Nat × Value)} {L : List Ent} {D : List Fact} {Q : Exit → Act → World → Prop}
variable {ops : Array Oper} {rest : List Oper} {o : Oper} {d : Nat}
def Src {α:Type} (r:R α) (E:Nat→Prop) (w:World) (s:Value) (ys:List α):Prop:=
 ∃ ad c us,s=.slice ad ys.length c∧All r E w us ys∧∀ k u,(flat us)[k]?=some u→∃ b off,ad=some ⟨b,off,none⟩∧w.cell? ⟨b,off + k,none⟩=some u
theorem src_D {α:Type} {r:R α} {s:Value} {ys:List α} (i:Nat) (S:St0 E M w0 w L D) (h:D[i]?=some (fRep (rL r) s ys)):Src r (tot E L) w s ys:=by
 obtain ⟨ad,c,us,hs,_,_,ha,hc⟩:=S.know h
 exact ⟨ad,c,us,hs,ha,fun k u hu=>by obtain ⟨b,off,h1,_,_,h4⟩:=hc k u hu; exact ⟨b,off,h1,h4⟩⟩
theorem src_R {α:Type} {r:R α} {T:TypeId} {s:Value} {ys:List α} (i:Nat) (S:St0 E M w0 w L D) (h:L[i]?=some (eRow r T s ys)):Src r (tot E L) w s ys:=by
 obtain ⟨us,ha,_,hown⟩:=S.at h
 rcases hown.2 with ⟨h1,h0⟩ | ⟨g,cap,cur,hv,hb,hg,hnc,hcm,hcs,htake⟩
 ·refine ⟨none,0,us,by rw [h1,h0],ha,fun k u hu=>?_⟩
  have:us=[]:=by have:=ha.1; rw [h0] at this; exact List.eq_nil_of_length_eq_zero this
  subst this
  simp [flat] at hu
 ·subst hv
  refine ⟨_,cap,us,rfl,ha,fun k u hu=>⟨g,0,rfl,?_⟩⟩
  have hk:k < ys.length * r.sz:=by
   have:=(List.getElem?_eq_some_iff.1 hu).1
   rw [flat_length (fun v hv=>(ha.cells v hv).1),ha.1] at this
   exact this
  rw [Nat.zero_add,hown.cellAt k hk]
  exact hu
theorem sApp {α:Type} {r:R α} {T t:TypeId} {xs ys zs:List α} {s x:Operand} {v u:Value} (i:Nat) (z:Value) (bytes:Nat) (S:St dq E M w0 n a w F L D)
 (hw:∀ a,Frm dq n a F→Region.wanted o (yielded ops a.tmps)=true) (ho:o.op=.call { callee:=.builtin .append,args:=#[s,x],argTypes:=#[t,t] })
 (ht:P.underlying t=some (.slice T)) (hinfo:(P.info? T).map (fun i=>(i.zero,i.size,i.bytes))=some (some z,r.sz,bytes)) (hz:z.cells.size=r.sz) (hby:bytes ≤ 2048)
 (hs:lookO F s=some v) (hx:lookO F x=some u) (hL:L[i]?=some (eRow r T v xs)) (hsrc:Src r (tot E L) w u ys) (hap:appO xs ys=some zs) (hd:o.dst=some d) (hn:d < n)
 (k:∀ a w ad c,St dq E M w0 n a w ((d,.slice ad zs.length c) :: F) (eRow r T (.slice ad zs.length c) zs :: L.eraseIdx i) D→wpList P ops Q rest a w):wpList P ops Q (o :: rest) a w:=by
 obtain ⟨hlim,rfl⟩:=appO_some hap
 obtain ⟨vs,ha,_,hown⟩:=S.mem.at hL
 obtain ⟨ad,c,us,rfl,hus,hcell⟩:=hsrc
 have hes:=S.frm.eval hs
 have hex:=S.frm.eval hx
 obtain ⟨ie,hi,hzi,hsize,hbytes⟩:=info_parts hinfo
 have hsmall:(xs.length + ys.length) * bytes ≤ 140737488355328:=Nat.le_trans (Nat.mul_le_mul hlim hby) (by decide)
 have hfl:(flat us).length=ys.length * r.sz:=by rw [flat_length (fun v hv=>(hus.cells v hv).1),hus.1]
 have hone:∀ c,c ∈ flat us→c.oneCell'=true:=flat_one (fun v hv=>(hus.cells v hv).2)
 have hmain:∃ v' w',(Builtin.append_ #[t,t] o.type #[v,.slice ad ys.length c]).run P w=.ok v' w'∧w'.ownsRow 0 T r.sz v' (xs.length + ys.length) (flat vs ++ flat us)∧w.grownBy w' v.ownBlock ∧
  (v'.ownBlock=v.ownBlock ∨ v'.ownBlock=some w.heap.size):=by
  cases ad with
  | some b=>
   obtain ⟨v',w',h1,h2,h3,_,h5⟩:=run_append_own_at (P:=P) w 0 t o.type T ie z r.sz bytes ht hi hzi hsize hbytes hz r.pos v xs.length (flat vs) hown b ys.length c (flat us) hfl (fun j u hu=>by
    obtain ⟨b',off,e1,h4⟩:=hcell j u hu
    cases e1
    rw [add_addr]; exact h4) hone (by unfold maxLen; omega) hsmall (Nat.zero_le _)
   exact ⟨v',w',h1,h2,h3,h5⟩
  | none=>
   have hm:ys.length=0:=by
    rcases Nat.eq_zero_or_pos ys.length with h | h
    ·exact h
    ·have:0 < (flat us).length:=by rw [hfl]; exact Nat.mul_pos h r.pos
     obtain ⟨b,off,e,_⟩:=hcell 0 _ (List.getElem?_eq_getElem this)
     cases e
   have hu0:flat us=[]:=List.eq_nil_of_length_eq_zero (by rw [hfl,hm,Nat.zero_mul])
   rw [hm,hu0]
   refine ⟨v,w,?_,by simpa using hown,World.grownBy.refl _ _,.inl rfl⟩
   rcases hown.2 with ⟨rfl,h0⟩ | ⟨g,cap,cur,rfl,hbg,hg,hnc,hcm,hcs,htake⟩
   ·simp [Builtin.append_,run_underlying ht,sizeOf,typeInfo,hi,Builtin.lenOf,Builtin.firstCells]
   ·simp [Builtin.append_,run_underlying ht,sizeOf,typeInfo,hi,Builtin.lenOf,Builtin.firstCells,hnc,storeCells]
 obtain ⟨v',w',hr,h2,h3,h4⟩:=hmain
 obtain ⟨ad',c',rfl⟩:∃ ad' c',v'=.slice ad' (xs ++ ys).length c':=by
  rcases h2.2 with ⟨rfl,h0⟩ | ⟨g,cap,cur,rfl,_⟩
  ·exact ⟨none,0,by rw [List.length_append,h0]⟩
  ·exact ⟨_,_,by rw [List.length_append]⟩
 have hvk:∀ k,v.ownBlock=some k→k ∈ (eRow r T v xs).keys:=by
  intro k hk
  cases v <;> simp [Value.ownBlock] at hk
  rename_i a1 _ _
  cases a1 with
  | none=>simp at hk
  | some a1=>simp at hk; simp [eRow,vkeys,hk]
 have hchg:Chg (eRow r T v xs).keys w w':=Chg.grown h3 hvk
 have hkeys:∀ b,b ∈ (eRow r T (.slice ad' (xs ++ ys).length c') (xs ++ ys)).keys→b ∈ (eRow r T v xs).keys ∨ w.heap.size ≤ b:=by
  intro b hb
  cases ad' with
  | none=>simp [eRow,vkeys] at hb
  | some a1=>
   simp [eRow,vkeys] at hb
   subst hb
   rcases h4 with h4 | h4
   ·exact .inl (hvk _ (by rw [← h4]; rfl))
   ·simp [Value.ownBlock] at h4; exact .inr (by omega)
 have hext:Ext (tot E L) (tot E (eRow r T (.slice ad' (xs ++ ys).length c') (xs ++ ys) :: L.eraseIdx i)) w w':=by
  refine ⟨hchg.size,fun b hb hn _=>hchg.block b hb (fun e=>hn (.inr (keysL_mem.2 ⟨_,List.mem_of_getElem? hL,e⟩))),fun b hb h=>?_⟩
  rcases h with h | h
  ·exact .inl h
  ·obtain ⟨e,h5,h6⟩:=keysL_mem.1 h
   rcases List.mem_cons.1 h5 with rfl | h5
   ·rcases hkeys b h6 with h7 | h7
    ·exact .inr (keysL_mem.2 ⟨_,List.mem_of_getElem? hL,h7⟩)
    ·omega
   ·exact .inr (keysL_mem.2 ⟨e,List.mem_of_mem_eraseIdx h5,h6⟩)
 refine sVal S hw hd hn (w':=w') (v:=.slice ad' (xs ++ ys).length c') ?_ (S.mem.put hL (eRow r T (.slice ad' (xs ++ ys).length c') (xs ++ ys)) hchg hkeys (by cases ad' <;> simp [eRow,vkeys]) ?_) (fun a=>k a _ ad' c')
 ·unfold execOp
  simp only [ho,resolve,invoke,builtin,Sem.run_bind,Sem.run_pure,Result.andThen_ok,List.map_toArray,List.map_cons,List.map_nil,hes,hex,hr]
 ·refine ⟨vs ++ us,(ha.mono hext).append (hus.mono hext),by rw [List.length_append]; exact hlim,?_⟩
  rw [flat_append,List.length_append]
  rw [List.length_append] at h2
  exact h2
theorem St.nilRow {α:Type} (r:R α) (T:TypeId) (S:St dq E M w0 n a w F L D):St dq E M w0 n a w F (eRow r T (.slice none 0 0) ([]:List α) :: L) D:=by
 have hk:keysL (eRow r T (.slice none 0 0) ([]:List α) :: L)=keysL L:=by simp [keysL,eRow,vkeys]
 have hE:tot E (eRow r T (.slice none 0 0) ([]:List α) :: L)=tot E L:=by unfold tot; rw [hk]
 refine ⟨S.frm,S.mem.chg,fun e he=>?_,fun x hx=>by rw [hE]; exact S.mem.fact x hx,by rw [hk]; exact S.mem.nodup,by rw [hk]; exact S.mem.key,S.mem.bnd⟩
 rcases List.mem_cons.1 he with rfl | he
 ·exact ⟨[],All.nil _ _ _,by simp,World.ownsRow_nil w 0 T r.sz⟩
 ·rw [hE]; exact S.mem.ent e he
theorem St0.shutR {α:Type} {r:R α} {T:TypeId} {v:Value} {xs:List α} (i:Nat) (S:St0 E M w0 w L D) (hi:L[i]?=some (eRow r T v xs)):St0 E M w0 w (L.eraseIdx i) (fRep (rL r) v xs :: D):=by
 have hperm:=erase_perm hi
 have hn:=keysL_perm hperm S.nodup
 have S1:=S.sub (L':=L.eraseIdx i) (D':=D) (fun e he=>List.mem_of_mem_eraseIdx he) (nodup_sub (List.eraseIdx_sublist _ _) S.nodup) (fun _ h=>h)
 obtain ⟨us,ha,hl,hown⟩:=S.at hi
 have hext:Ext (tot E L) (tot E (L.eraseIdx i)) w w:=⟨Nat.le_refl _,fun _ _ _ _=>rfl,fun b _ h=>h.imp id (fun h=>by
  obtain ⟨e,h1,h2⟩:=keysL_mem.1 h
  exact keysL_mem.2 ⟨e,List.mem_of_mem_eraseIdx h1,h2⟩)⟩
 refine S1.learn _ ?_
 obtain ⟨ad,c,us',hs,ha',hc⟩:=src_R i S hi
 rcases hown.2 with ⟨h1,h0⟩ | ⟨g,cap,cur,hv,hb,hg,hnc,hcm,hcs,htake⟩
 ·refine ⟨ad,c,us',hs,?_,by omega,ha'.mono hext,fun k u hu=>?_⟩
  ·rw [h0]; exact Nat.zero_le _
  ·obtain ⟨b,off,e1,_⟩:=hc k u hu
   rw [h1,e1] at hs
   cases hs
 ·refine ⟨ad,c,us',hs,?_,by omega,ha'.mono hext,fun k u hu=>?_⟩
  ·rw [hv] at hs; cases hs; exact hnc
  ·obtain ⟨b,off,e1,h4⟩:=hc k u hu
   rw [hv,e1] at hs
   cases hs
   refine ⟨g,0,e1,?_,(Array.getElem?_eq_some_iff.1 hg).1,h4⟩
   have hmem:g ∈ (eRow r T v xs).keys:=by simp [eRow,vkeys,hv]
   intro h
   rcases h with h | h
   ·exact (S.key g (keysL_mem.2 ⟨_,List.mem_of_getElem? hi,hmem⟩)).2 h
   ·simp only [keysL,List.map_cons,List.flatten_cons,List.nodup_append] at hn
    exact hn.2.2 g hmem g h rfl
theorem St.shutR {α:Type} {r:R α} {T:TypeId} {v:Value} {xs:List α} (i:Nat) (S:St dq E M w0 n a w F L D) (hi:L[i]?=some (eRow r T v xs)):St dq E M w0 n a w F (L.eraseIdx i) (fRep (rL r) v xs :: D):=⟨S.frm,S.mem.shutR i hi⟩
theorem flat_made {z:Value} {s:Nat} (hs:z.cells.size=s) (q:Nat):flat (List.replicate q z)=(madeCells z.cells (q * s)).toList:=by
 have h0:(List.range s).map (fun k=>z.cells[k % z.cells.size]!)=z.cells.toList:=by
  subst hs
  refine List.ext_getElem (by simp) fun k h1 h2=>?_
  have hk:k < z.cells.size:=by simpa using h1
  simp [Nat.mod_eq_of_lt hk,hk]
 induction q with
 | zero=>simp [flat,madeCells]
 | succ q ih=>
  have e:(madeCells z.cells ((q + 1) * s)).toList=z.cells.toList ++ (madeCells z.cells (q * s)).toList:=by
   simp only [madeCells,Array.toList_map,Array.toList_range]
   rw [show (q + 1) * s=s + q * s by rw [Nat.add_mul]; omega,List.range_add,List.map_append,h0,List.map_map]
   congr 1
   apply List.map_congr_left
   intro k _
   simp [← hs]
  rw [e,← ih]
  simp [flat,List.replicate_succ]
theorem sMakeG {α:Type} {r:R α} {T t:TypeId} {l c:Operand} {xs:List α} {m:Int} (z:Value) (zx:α) (bytes:Nat) (S:St dq E M w0 n a w F L D)
 (hw:∀ a,Frm dq n a F→Region.wanted o (yielded ops a.tmps)=true) (ho:o.op=.makeSlice t l c) (ht:P.underlying t=some (.slice T)) (hinfo:(P.info? T).map (fun i=>(i.zero,i.size,i.bytes))=some (some z,r.sz,bytes)) (hby:bytes ≤ 2048) (hzx:∀ E w,r.rep E w z zx)
 (hl:lookO F l=some (.int .i64 m)) (hc:lookO F c=some (.int .i64 m)) (hm:makeO m zx=some xs) (hd:o.dst=some d) (hn:d < n)
 (k:∀ a w ad c,St dq E M w0 n a w ((d,.slice ad xs.length c) :: F) (eRow r T (.slice ad xs.length c) xs :: L) D→wpList P ops Q rest a w):wpList P ops Q (o :: rest) a w:=by
 obtain ⟨q,rfl,hq,rfl⟩:=makeO_some hm
 have hel:=S.frm.eval hl
 have hec:=S.frm.eval hc
 obtain ⟨ie,hi,hzi,hsize,hbytes⟩:=info_parts hinfo
 obtain ⟨w',hr,h2,h3⟩:=run_make_full (P:=P) w 0 t T ie z r.sz ht hi hzi hsize .i64 .i64 q (by rw [hbytes]; exact Nat.le_trans (Nat.mul_le_mul hby hq) (by decide)) (by unfold maxLen; omega) (Nat.zero_le _)
 have hfl:flat (List.replicate q z)=(madeCells z.cells (q * r.sz)).toList:=flat_made (r.size (hzx (fun _=>False) w)) q
 rw [← hfl] at h2
 have hAll:∀ E w,All r E w (List.replicate q z) (List.replicate q zx):=fun E w=>⟨by simp,fun k v x hv hx=>by
  rw [List.getElem?_replicate] at hv hx
  split at hv
  ·rename_i hk
   rw [if_pos hk] at hx
   cases hv; cases hx; exact hzx E w
  ·cases hv⟩
 have hgr:Chg [] w w':=Chg.grown h3 (by simp)
 have hsz:w'.heap.size > w.heap.size:=by
  rcases h2.2 with ⟨h,_⟩ | ⟨g,cap,cur,h,_,hg,_⟩
  ·cases h
  ·cases h; exact (Array.getElem?_eq_some_iff.1 hg).1
 have hE:tot (tot E L) [eRow r T (.slice (some ⟨w.heap.size,0,none⟩) q q) (List.replicate q zx)]=tot E (eRow r T (.slice (some ⟨w.heap.size,0,none⟩) q q) (List.replicate q zx) :: L):=by
  funext b
  simp only [tot,keysL,List.map_cons,List.flatten_cons,List.map_nil,List.flatten_nil,List.append_nil,List.mem_append]
  exact propext ⟨fun h=>by rcases h with (h | h) | h; exact .inl h; exact .inr (.inr h); exact .inr (.inl h),fun h=>by rcases h with h | h | h; exact .inl (.inl h); exact .inr h; exact .inl (.inr h)⟩
 have S':St0 E M w0 w' (eRow r T (.slice (some ⟨w.heap.size,0,none⟩) q q) (List.replicate q zx) :: L) D:=by
  have:=St0.upd (B:=[]) (Rs:=L) S.mem (by simpa [keysL] using hgr) [eRow r T (.slice (some ⟨w.heap.size,0,none⟩) q q) (List.replicate q zx)] [] ⟨by simpa [keysL] using hgr,by
   intro e he
   simp at he; subst he
   exact ⟨List.replicate q z,hAll _ _,by simpa using hq,by simpa using h2⟩,by simp,by simp [keysL,eRow,vkeys],by
    intro b hb
    simp [keysL,eRow,vkeys] at hb
    subst hb
    refine ⟨.inl (Nat.le_refl _),fun h=>?_⟩
    rcases h with h | h
    ·exact absurd (S.mem.bnd _ h) (by have:=S.mem.chg.size; omega)
    ·exact absurd (S.mem.lt _ h) (by omega),by
    intro b hb
    rcases hb with h | h
    ·exact Nat.lt_of_lt_of_le (S.mem.bnd b h) S.mem.chg.size
    ·exact S.mem.lt b h⟩
  simpa using this
 refine sVal S hw hd hn (w':=w') (v:=.slice (some ⟨w.heap.size,0,none⟩) q q) ?_ S' (fun a Sa=>k a w' (some ⟨w.heap.size,0,none⟩) q (by simpa using Sa))
 simp only [execOp,ho,hel,hec,Sem.run_bind,hr,Result.andThen_ok,Sem.run_pure]
theorem sMake {α:Type} {r:R α} {T t:TypeId} {l c:Operand} {xs:List α} {m:Int} (z:Value) (zx:α) (bytes:Nat) (S:St dq E M w0 n a w F L D)
 (hw:∀ a,Frm dq n a F→Region.wanted o (yielded ops a.tmps)=true) (ho:o.op=.makeSlice t l c) (ht:P.underlying t=some (.slice T)) (hinfo:(P.info? T).map (fun i=>(i.zero,i.size,i.bytes))=some (some z,r.sz,bytes)) (hz:z.cells=#[z]) (hby:bytes ≤ 2048) (hzx:∀ E w,r.rep E w z zx)
 (hl:lookO F l=some (.int .i64 m)) (hc:lookO F c=some (.int .i64 m)) (hm:makeO m zx=some xs) (hd:o.dst=some d) (hn:d < n)
 (k:∀ a w ad c,St dq E M w0 n a w ((d,.slice ad xs.length c) :: F) (eRow r T (.slice ad xs.length c) xs :: L) D→wpList P ops Q rest a w):wpList P ops Q (o :: rest) a w:=
 sMakeG z zx bytes S hw ho ht hinfo hby hzx hl hc hm hd hn k
theorem sNewRow {α:Type} {r:R α} {T:TypeId} {xs:List α} (m:Nat) (us:List Value) (cs:List Value) (S:St dq E M w0 n a w F L D)
 (hw:∀ a,Frm dq n a F→Region.wanted o (yielded ops a.tmps)=true) (hrun:∀ (a:Act),Frm dq n a F→(execOp a.eval o).run P w=.ok (.value (.slice (some ⟨w.heap.size,0,none⟩) m m)) (w.alloc (.cells cs.toArray T)))
 (hxs:xs.length=m) (hus:∀ E' w',Ext (tot E L) E' w w'→All r E' w' us xs) (hcs:flat us=cs) (hm:m ≤ 68719476736) (hd:o.dst=some d) (hn:d < n)
 (k:∀ a w ad c,St dq E M w0 n a w ((d,.slice ad xs.length c) :: F) (eRow r T (.slice ad xs.length c) xs :: L) D→wpList P ops Q rest a w):wpList P ops Q (o :: rest) a w:=by
 subst hxs
 have hext:Ext (tot E L) (tot E (eRow r T (.slice (some ⟨w.heap.size,0,none⟩) xs.length xs.length) xs :: L)) w (w.alloc (.cells cs.toArray T)):=by
  refine ⟨by simp,fun b hb _ _=>heap_alloc_old w _ hb,fun b hb h=>?_⟩
  rcases h with h | h
  ·exact .inl h
  ·refine .inr ?_
   simp only [keysL,List.map_cons,List.flatten_cons,eRow,vkeys,List.mem_append,List.mem_singleton] at h
   rcases h with h | h
   ·omega
   ·exact h
 have hA:=hus _ _ hext
 refine sVal S hw hd hn (hrun a S.frm) (S.mem.new _ (eRow r T (.slice (some ⟨w.heap.size,0,none⟩) xs.length xs.length) xs) rfl ?_) (fun a=>k a _ _ _)
 refine ⟨us,hA,hm,?_⟩
 have hfl:=flat_length (fun v hv=>(hA.cells v hv).1)
 rw [hA.1] at hfl
 rw [hcs] at hfl ⊢
 have:=World.ownsRow_lit (base:=0) (e:=T) (size:=r.sz) w cs.toArray xs.length (Nat.zero_le _) (by unfold maxLen; omega) (by simpa using hfl)
 simpa using this
end
section
variable {P : Program} {dq : List Deferred} {E : Nat → Prop} {M : List Nat} {w0 : World} {n : Nat} {a : Act} {w : World} {F : List (Nat × Value)} {L : List Ent} {D : List Fact} {Q : Exit → Act → World → Prop}
variable {ops : Array Oper} {rest : List Oper} {o : Oper} {d : Nat}
def Ret {X:Type} (E:Nat→Prop) (M:List Nat) (w0:World) (val:X→Value) (B:X→List Ent) (D:X→List Fact) (e:Ending) (w:World):Prop:=
 ∃ x,e=.returned (val x)∧St0 E M w0 w (B x) (D x)
theorem callee {f : FuncId} {fn : Func} (hf : P.funcs[f]? = some fn) (h1 : (fn.name == "runtime.NumGoroutine") = false) (h2 : fn.body.isNone = false) (vs : Array Value) (w : World) : (callFunc f vs).run P w = .ok (.enter f vs) w := by
 have h1' : ¬ fn.name = "runtime.NumGoroutine" := by simpa using h1
 have h2':¬ fn.body=none:=fun e=>by rw [e] at h2; cases h2
 simp [callFunc,hf,h1',h2']
theorem lookO_map {args:List Operand} {vs:List Value} (hf:Frm dq n a F) (h:args.map (lookO F)=vs.map some):args.map a.eval=vs:=by
 induction args generalizing vs with
 | nil=>cases vs with | nil=>rfl | cons _ _=>simp at h
 | cons x args ih=>
  cases vs with
  | nil=>simp at h
  | cons v vs=>
   simp only [List.map_cons,List.cons.injEq] at h ⊢
   exact ⟨hf.eval h.1,ih h.2⟩
theorem wp_call {f:FuncId} {args:List Operand} {ts:Array TypeId} {vs:List Value} {X:Type} {E':Nat→Prop} {M':List Nat} {val:X→Value} {B':X→List Ent} {D':X→List Fact} {K:Act→World→Prop} (ho:o.op=.call { callee:=.value (.func f),args:=args.toArray,argTypes:=ts })
 (hcallee:∀ vs w,(callFunc f vs).run P w=.ok (.enter f vs) w) (hvs:args.map a.eval=vs) (hc:Calls P f vs.toArray w (Ret E' M' w val B' D')) (k:∀ x w',St0 E' M' w w' (B' x) (D' x)→K (a.put o.dst (val x)) w'):o.wp P a w K Q:=by
 subst hvs
 unfold Oper.wp
 have hrun:(execOp a.eval o).run P w=.ok (.enter f (args.map a.eval).toArray) w:=by
  have he:a.eval (.func f)=.func (.func f) #[] #[]:=rfl
  unfold execOp
  simp only [ho,resolve,he,Deferred.ofValue,Sem.run_bind,Sem.run_pure,Result.andThen_ok,invoke]
  simp [hcallee]
 rw [hrun]
 exact hc.mono fun e w' hr=>by
  obtain ⟨x,rfl,hs⟩:=hr
  exact k x w' hs
theorem sCall {X:Type} {f:FuncId} {args:List Operand} {ts:Array TypeId} {vs:List Value} {val:X→Value} {B':X→List Ent} {D':X→List Fact} (B Rs:List Ent) (Dc:List Fact) (is js:List Nat) (S:St dq E M w0 n a w F L D)
 (hw:∀ a,Frm dq n a F→Region.wanted o (yielded ops a.tmps)=true) (ho:o.op=.call { callee:=.value (.func f),args:=args.toArray,argTypes:=ts })
 (hcallee:∀ vs w,(callFunc f vs).run P w=.ok (.enter f vs) w) (hvs:args.map (lookO F)=vs.map some)
 (hnd:is.Nodup) (hL:is.map (fun i=>L[i]?)=(B ++ Rs).map some) (hDc:js.map (fun i=>D[i]?)=Dc.map some)
 (hc:∀ (E':Nat→Prop) w,St0 E' (keysL B) w w B Dc→Calls P f vs.toArray w (Ret E' (keysL B) w val B' D')) (hd:o.dst=some d) (hn:d < n)
 (k:∀ x a w',St dq E M w0 n a w' ((d,val x) :: F) (B' x ++ Rs) (D' x ++ D)→wpList P ops Q rest a w'):wpList P ops Q (o :: rest) a w:=by
 refine wpList_step fun K hK=>?_
 rw [if_pos (hw a S.frm)]
 have S1:St0 E M w0 w (B ++ Rs) D:=S.mem.sub (getList_mem hL) (getList_perm hnd hL S.mem.nodup) (fun _ h=>h)
 have S2:=S1.enter (D:=Dc) (getList_mem hDc)
 refine wp_call ho hcallee (lookO_map S.frm hvs) (hc _ w S2) fun x w' hs=>?_
 rw [hd]
 exact hK _ _ (k x _ w' ⟨S.frm.put hn _,S1.upd hs.chg (B' x) (D' x) hs⟩)
theorem St0.quiet {Dc:List Fact} (S:St0 E M w0 w L D) (js:List Nat) (hDc:js.map (fun i=>D[i]?)=Dc.map some):∃ E1,St0 E1 [] w w [] Dc:=
 ⟨tot E L,by have:=S.enter (B:=[]) (Rs:=L) (D:=Dc) (by simpa using getList_mem hDc); simpa [keysL] using this⟩
theorem St0.calm {w':World} (S:St0 E M w0 w L D) (h:Chg [] w w'):St0 E M w0 w' L D:=by
 have:=St0.upd (B:=[]) (Rs:=L) S (by simpa [keysL] using h) [] [] ⟨by simpa [keysL] using h,by simp,by simp,by simp [keysL],by simp [keysL],by
  intro b hb
  rcases hb with h | h
  ·exact Nat.lt_of_lt_of_le (S.bnd b h) S.chg.size
  ·exact S.lt b h⟩
 simpa using this
theorem sCallQ {X:Type} {f:FuncId} {args:List Operand} {ts:Array TypeId} {vs:List Value} {val:X→Value} {Dc:List Fact} (S:St dq E M w0 n a w F L D)
 (hw:∀ a,Frm dq n a F→Region.wanted o (yielded ops a.tmps)=true) (ho:o.op=.call { callee:=.value (.func f),args:=args.toArray,argTypes:=ts })
 (hcallee:∀ vs w,(callFunc f vs).run P w=.ok (.enter f vs) w) (hvs:args.map (lookO F)=vs.map some) (hpre:∃ E1,St0 E1 [] w w [] Dc)
 (hc:∀ (E':Nat→Prop) w,St0 E' [] w w [] Dc→Calls P f vs.toArray w (Ret E' [] w val (fun _=>[]) (fun _=>[]))) (hd:o.dst=some d) (hn:d < n)
 (k:∀ x a w',St dq E M w0 n a w' ((d,val x) :: F) L D→wpList P ops Q rest a w'):wpList P ops Q (o :: rest) a w:=by
 refine wpList_step fun K hK=>?_
 rw [if_pos (hw a S.frm)]
 obtain ⟨E1,h1⟩:=hpre
 refine wp_call ho hcallee (lookO_map S.frm hvs) (hc _ w h1) fun x w' hs=>?_
 rw [hd]
 exact hK _ _ (k x _ w' ⟨S.frm.put hn _,S.mem.calm hs.chg⟩)
theorem sBuild {t:TypeId} {parts:List (Nat × Operand)} (vs:List (Nat × Value)) (cs:List Value) (S:St dq E M w0 n a w F L D)
 (hw:∀ a,Frm dq n a F→Region.wanted o (yielded ops a.tmps)=true) (ho:o.op=.build t parts.toArray) (hvs:parts.map (fun q=>(q.1,lookO F q.2))=vs.map (fun q=>(q.1,some q.2))) (hb:P.built t vs=some cs.toArray) (hd:o.dst=some d) (hn:d < n)
 (k:∀ a,St dq E M w0 n a w ((d,.agg cs.toArray) :: F) L D→wpList P ops Q rest a w):wpList P ops Q (o :: rest) a w:=by
 have hev:parts.map (fun q=>(q.1,a.eval q.2))=vs:=by
  clear hb ho
  induction parts generalizing vs with
  | nil=>cases vs with | nil=>rfl | cons _ _=>simp at hvs
  | cons x parts ih=>
   cases vs with
   | nil=>simp at hvs
   | cons v vs=>
    simp only [List.map_cons,List.cons.injEq,Prod.mk.injEq] at hvs ⊢
    refine ⟨?_,ih vs hvs.2⟩
    rw [hvs.1.1,S.frm.eval hvs.1.2]
 have hrun:=run_build (P:=P) w t vs.toArray cs.toArray (by simpa using hb)
 refine sVal S hw hd hn ?_ S.mem k
 unfold execOp
 simp only [ho,List.map_toArray,hev,Sem.run_bind,hrun,Result.andThen_ok,Sem.run_pure]
theorem sLit {α:Type} {r:R α} {T t:TypeId} {xs:List α} {parts:List (Nat × Operand)} (vs:List (Nat × Value)) (m:Nat) (us:List Value) (cs:List Value) (z:Value) (bytes:Nat) (S:St dq E M w0 n a w F L D)
 (hw:∀ a,Frm dq n a F→Region.wanted o (yielded ops a.tmps)=true) (ho:o.op=.buildSlice t m parts.toArray) (hvs:parts.map (fun q=>(q.1,lookO F q.2))=vs.map (fun q=>(q.1,some q.2))) (ht:P.underlying t=some (.slice T)) (hinfo:(P.info? T).map (fun i=>(i.zero,i.size,i.bytes))=some (some z,r.sz,bytes))
 (hsmall:m * r.sz ≤ 16777216) (hpos:0 < m) (hfill:Instr.fill (fun i=>some (i * r.sz,r.sz)) ((Array.range (m * r.sz)).map (z.cells[· % z.cells.size]!)) vs=some cs.toArray)
 (hxs:xs.length=m) (hus:∀ E' w',Ext (tot E L) E' w w'→All r E' w' us xs) (hcs:flat us=cs) (hd:o.dst=some d) (hn:d < n)
 (k:∀ a w ad c,St dq E M w0 n a w ((d,.slice ad xs.length c) :: F) (eRow r T (.slice ad xs.length c) xs :: L) D→wpList P ops Q rest a w):wpList P ops Q (o :: rest) a w:=by
 obtain ⟨ie,hi,hzi,hsize,hbytes⟩:=info_parts hinfo
 refine sNewRow m us cs S hw (fun a hF=>?_) hxs hus hcs (Nat.le_trans (Nat.le_mul_of_pos_right m r.pos) (Nat.le_trans hsmall (by decide))) hd hn k
 have hev:parts.map (fun q=>(q.1,a.eval q.2))=vs:=by
  clear hfill ho
  induction parts generalizing vs with
  | nil=>cases vs with | nil=>rfl | cons _ _=>simp at hvs
  | cons x parts ih=>
   cases vs with
   | nil=>simp at hvs
   | cons v vs=>
    simp only [List.map_cons,List.cons.injEq,Prod.mk.injEq] at hvs ⊢
    refine ⟨?_,ih vs hvs.2⟩
    rw [hvs.1.1,hF.eval hvs.1.2]
 have hrun:=run_buildSlice (P:=P) w t T m vs.toArray cs.toArray ie z ht hi hzi (by rw [hsize]; omega) (by rw [hsize]; exact Nat.pos_iff_ne_zero.1 (Nat.mul_pos hpos r.pos)) (by rw [hsize]; simpa using hfill)
 unfold execOp
 simp only [ho,List.map_toArray,hev,Sem.run_bind,hrun,Result.andThen_ok,Sem.run_pure]
theorem sMake0 {α:Type} (r:R α) {T t:TypeId} {l c:Operand} {m:Int} {u:Unit} (z:Value) (bytes:Nat) (S:St dq E M w0 n a w F L D)
 (hw:∀ a,Frm dq n a F→Region.wanted o (yielded ops a.tmps)=true) (ho:o.op=.makeSlice t l c) (ht:P.underlying t=some (.slice T)) (hinfo:(P.info? T).map (fun i=>(i.zero,i.size,i.bytes))=some (some z,r.sz,bytes)) (hby:bytes ≤ 2048)
 (hl:lookO F l=some (.int .i64 0)) (hc:lookO F c=some (.int .i64 m)) (hm:capO m=some u) (hd:o.dst=some d) (hn:d < n)
 (k:∀ a w ad c,St dq E M w0 n a w ((d,.slice ad 0 c) :: F) (eRow r T (.slice ad 0 c) ([]:List α) :: L) D→wpList P ops Q rest a w):wpList P ops Q (o :: rest) a w:=by
 obtain ⟨q,rfl,hq⟩:=capO_some hm
 have hel:=S.frm.eval hl
 have hec:=S.frm.eval hc
 obtain ⟨ie,hi,hzi,hsize,hbytes⟩:=info_parts hinfo
 obtain ⟨w',hr,h2,h3⟩:=run_make_own (P:=P) w 0 t T ie z r.sz ht hi hzi hsize .i64 .i64 q (by rw [hbytes]; exact Nat.le_trans (Nat.mul_le_mul hby hq) (by decide)) (by unfold maxLen; omega) (Nat.zero_le _)
 have hgr:Chg [] w w':=Chg.grown h3 (by simp)
 have hE:tot (tot E L) [eRow r T (.slice (some ⟨w.heap.size,0,none⟩) 0 q) ([]:List α)]=tot E (eRow r T (.slice (some ⟨w.heap.size,0,none⟩) 0 q) ([]:List α) :: L):=by
  funext b
  simp only [tot,keysL,List.map_cons,List.flatten_cons,List.map_nil,List.flatten_nil,List.append_nil,List.mem_append]
  exact propext ⟨fun h=>by rcases h with (h | h) | h; exact .inl h; exact .inr (.inr h); exact .inr (.inl h),fun h=>by rcases h with h | h | h; exact .inl (.inl h); exact .inr h; exact .inl (.inr h)⟩
 have S':St0 E M w0 w' (eRow r T (.slice (some ⟨w.heap.size,0,none⟩) 0 q) ([]:List α) :: L) D:=by
  have:=St0.upd (B:=[]) (Rs:=L) S.mem (by simpa [keysL] using hgr) [eRow r T (.slice (some ⟨w.heap.size,0,none⟩) 0 q) ([]:List α)] [] ⟨by simpa [keysL] using hgr,by
   intro e he
   simp at he; subst he
   exact ⟨[],All.nil _ _ _,by simp,by simpa [flat] using h2⟩,by simp,by simp [keysL,eRow,vkeys],by
    intro b hb
    simp [keysL,eRow,vkeys] at hb
    subst hb
    refine ⟨.inl (Nat.le_refl _),fun h=>?_⟩
    rcases h with h | h
    ·exact absurd (S.mem.bnd _ h) (by have:=S.mem.chg.size; omega)
    ·exact absurd (S.mem.lt _ h) (by omega),by
    intro b hb
    rcases hb with h | h
    ·exact Nat.lt_of_lt_of_le (S.mem.bnd b h) S.mem.chg.size
    ·exact S.mem.lt b h⟩
  simpa using this
 refine sVal S hw hd hn (w':=w') (v:=.slice (some ⟨w.heap.size,0,none⟩) 0 q) ?_ S' (fun a Sa=>k a w' (some ⟨w.heap.size,0,none⟩) q Sa)
 simp only [execOp,ho,hel,hec,Sem.run_bind,hr,Result.andThen_ok,Sem.run_pure]
theorem run_sliceAt {t e:TypeId} {sz:Nat} (ht:P.underlying t=some (.slice e)) (hs:cellsB P e=some sz) (ad:Option Addr) (m c l k:Nat) (lo hi:Option Value) (hlo:lo=some (.int .i64 (l:Int)) ∨ lo=none∧l=0) (hhi:hi=some (.int .i64 (k:Int)) ∨ hi=none∧k=m) (h1:l ≤ k) (h2:k ≤ m) (h3:m ≤ c) (w:World) :
 (Instr.sliceAt t (.slice ad m c) lo hi none).run P w=.ok (.slice (if c=l then ad else ad.map (·.add (l * sz))) (k - l) (c - l)) w:=by
 have hk:k ≤ c:=by omega
 have hl:l ≤ m:=by omega
 have hlc:l ≤ c:=by omega
 rcases hlo with rfl | ⟨rfl,rfl⟩ <;> rcases hhi with rfl | ⟨rfl,rfl⟩ <;>
  simp [Instr.sliceAt,run_underlying ht,Instr.slice,Instr.sliceBounds,Instr.sliceBound,asIntOf,run_sizeOf' hs, *]
theorem sSlice {α:Type} {r:R α} {t e:TypeId} {x:Operand} {lo hi:Option Operand} {v:Value} {xs ys:List α} {vlo vhi:Option Value} {lo' hi':Int} (i:Nat) (S:St dq E M w0 n a w F L D)
 (hw:∀ a,Frm dq n a F→Region.wanted o (yielded ops a.tmps)=true) (ho:o.op=.slice t x lo hi none) (ht:P.underlying t=some (.slice e)) (hs:cellsB P e=some r.sz) (hx:lookO F x=some v) (hD:D[i]?=some (fRep (rL r) v xs))
 (hlo:lo.map (lookO F)=vlo.map some) (hhi:hi.map (lookO F)=vhi.map some) (hl:vlo=some (.int .i64 lo') ∨ vlo=none∧lo'=0) (hh:vhi=some (.int .i64 hi') ∨ vhi=none∧hi'=(xs.length:Int)) (hsl:sliceO xs lo' hi'=some ys) (hd:o.dst=some d) (hn:d < n)
 (k:∀ a ad c,St dq E M w0 n a w ((d,.slice ad ys.length c) :: F) L (fRep (rL r) (.slice ad ys.length c) ys :: D)→wpList P ops Q rest a w):wpList P ops Q (o :: rest) a w:=by
 obtain ⟨l,q,rfl,rfl,h1,h2,rfl⟩:=sliceO_some hsl
 obtain ⟨ad,c,vs,rfl,hc,hm,ha,hcell⟩:=S.mem.know hD
 have hex:=S.frm.eval hx
 have elo:lo.map a.eval=vlo:=by
  cases lo with
  | none=>cases vlo with | none=>rfl | some _=>simp at hlo
  | some y=>cases vlo with | none=>simp at hlo | some u=>simp at hlo; simp [S.frm.eval hlo]
 have ehi:hi.map a.eval=vhi:=by
  cases hi with
  | none=>cases vhi with | none=>rfl | some _=>simp at hhi
  | some y=>cases vhi with | none=>simp at hhi | some u=>simp at hhi; simp [S.frm.eval hhi]
 have hrun:=run_sliceAt (P:=P) ht hs ad xs.length c l q vlo vhi (by rcases hl with h | ⟨h,h'⟩; exact .inl h; exact .inr ⟨h,by omega⟩) (by rcases hh with h | ⟨h,h'⟩; exact .inl h; exact .inr ⟨h,by omega⟩) h1 h2 hc w
 have hlen:((xs.take q).drop l).length=q - l:=by simp; omega
 rw [← hlen] at hrun
 refine sVal S hw hd hn (w':=w) ?_ (S.mem.learn (fRep (rL r) (.slice (if c=l then ad else ad.map (·.add (l * r.sz))) ((xs.take q).drop l).length (c - l)) ((xs.take q).drop l)) ?_) (fun a=>k a _ _)
 ·unfold execOp
  simp only [ho,hex,elo,ehi,Option.map_none,Sem.run_bind,hrun,Result.andThen_ok,Sem.run_pure]
 ·have hA:All r (tot E L) w ((vs.take q).drop l) ((xs.take q).drop l):=by
   refine ⟨by simp [ha.1],fun j v x hv hx2=>?_⟩
   rw [List.getElem?_drop,List.getElem?_take] at hv hx2
   split at hv
   ·rename_i hj; rw [if_pos hj] at hx2; exact ha.2 _ v x hv hx2
   ·cases hv
  refine ⟨_,_,(vs.take q).drop l,rfl,by rw [hlen]; omega,by rw [hlen]; omega,hA,fun j u hu=>?_⟩
  have hsz:=fun v hv=>(ha.cells v hv).1
  have hlt:=(List.getElem?_eq_some_iff.1 hu).1
  have hfl:=flat_length (fun v hv=>(hA.cells v hv).1)
  rw [hfl] at hlt
  have hjl:((vs.take q).drop l).length=q - l:=by rw [hA.1,hlen]
  rw [hjl] at hlt
  have hjq:0 < q - l:=by
   rcases Nat.eq_zero_or_pos (q - l) with h | h
   ·rw [h] at hlt; simp at hlt
   ·exact h
  have hcl:¬ c=l:=by omega
  rw [if_neg hcl]
  -- the cell in the whole row
  have hu2:(flat vs)[l * r.sz + j]?=some u:=by
   have e1:vs=(vs.take l) ++ ((vs.take q).drop l) ++ vs.drop q:=by
    have:vs.take l=(vs.take q).take l:=by rw [List.take_take]; congr 1; omega
    rw [this,List.take_append_drop,List.take_append_drop]
   rw [e1,flat_append,flat_append,List.append_assoc,List.getElem?_append_right (by rw [flat_length (fun v hv=>hsz v (List.mem_of_mem_take hv)),List.length_take]; exact Nat.le_trans (Nat.mul_le_mul_right _ (Nat.min_le_left _ _)) (Nat.le_add_right _ _))]
   rw [flat_length (fun v hv=>hsz v (List.mem_of_mem_take hv)),List.length_take,Nat.min_eq_left (by rw [ha.1]; omega),Nat.add_sub_cancel_left]
   rw [List.getElem?_append_left (by rw [hfl,hjl]; exact hlt)]
   exact hu
  obtain ⟨b,off,rfl,h3,h4,h5⟩:=hcell _ _ hu2
  refine ⟨b,off + l * r.sz,by simp [add_addr],h3,h4,by rw [Nat.add_assoc]; exact h5⟩
def rvRun (tmps:Array Value):ResultVar→Sem Value
 | .tmp t=>pure (tmps.getD t undef)
 | .cell c t=>do loadVar t (← asAddr (tmps.getD c undef))
theorem rvT {t:Nat} {v:Value} (S:St dq E M w0 n a w F L D) (h:look F t=some v):(rvRun a.tmps (.tmp t)).run P w=.ok v w:=by
 simp [rvRun,Array.getD_eq_getD_getElem?,S.frm.get _ _ h]
theorem rvN {c:Nat} {t T:TypeId} {p:Nat} (i:Nat) (cs:List Value) (S:St dq E M w0 n a w F L D) (h:look F c=some (.pointer (some ⟨p,0,none⟩))) (ht:aggB P t=some true) (hL:L[i]?=some (eBox p T cs)) (hm:cellsB P t=some cs.length):(rvRun a.tmps (.cell c t)).run P w=.ok (.agg cs.toArray) w:=by
 have hb:w.heap[p]?=some (.cells cs.toArray T (0,0)):=S.mem.at hL
 have hc:∀ j u,cs[j]?=some u→w.cell? ⟨p,0 + j,none⟩=some u:=by
  intro j u hu
  simp [World.cell?,hb,hu]
 simp [rvRun,Array.getD_eq_getD_getElem?,S.frm.get _ _ h,asAddr,run_loadVar_agg cs ht hm w hc]
theorem rv1 {c:Nat} {t T:TypeId} {p:Nat} (i:Nat) (v:Value) (S:St dq E M w0 n a w F L D) (h:look F c=some (.pointer (some ⟨p,0,none⟩))) (ht:aggB P t=some false) (hL:L[i]?=some (eBox p T [v])):(rvRun a.tmps (.cell c t)).run P w=.ok v w:=by
 have hb:w.heap[p]?=some (.cells [v].toArray T (0,0)):=S.mem.at hL
 have hc:w.cell? ⟨p,0,none⟩=some v:=by simp [World.cell?,hb]
 simp [rvRun,Array.getD_eq_getD_getElem?,S.frm.get _ _ h,asAddr,loadVar,run_isAgg ht,hc]
theorem results_eq (fn:Func) (tmps:Array Value):results fn tmps=(do let vs ← fn.results.mapM (rvRun tmps); pure (if h:vs.size=1 then vs[0] else .tuple vs)):=by
 unfold results
 congr 2
theorem rsl1 {fn:Func} {r1:ResultVar} {v1:Value} (hres:fn.results=#[r1]) (h1:(rvRun a.tmps r1).run P w=.ok v1 w):(results fn a.tmps).run P w=.ok v1 w:=by
 simp [results_eq,hres,h1]
theorem rsl2 {fn:Func} {r1 r2:ResultVar} {v1 v2:Value} (hres:fn.results=#[r1,r2]) (h1:(rvRun a.tmps r1).run P w=.ok v1 w) (h2:(rvRun a.tmps r2).run P w=.ok v2 w):(results fn a.tmps).run P w=.ok (.tuple #[v1,v2]) w:=by
 simp [results_eq,hres,h1,h2]
theorem rsl3 {fn:Func} {r1 r2 r3:ResultVar} {v1 v2 v3:Value} (hres:fn.results=#[r1,r2,r3]) (h1:(rvRun a.tmps r1).run P w=.ok v1 w) (h2:(rvRun a.tmps r2).run P w=.ok v2 w) (h3:(rvRun a.tmps r3).run P w=.ok v3 w):(results fn a.tmps).run P w=.ok (.tuple #[v1,v2,v3]) w:=by
 simp [results_eq,hres,h1,h2,h3]
end
section
variable {P : Program} (dq : List Deferred) (E : Nat → Prop) (M : List Nat) (w0 : World) (n : Nat) (ops : Array Oper) (A : List (List Nat)) (F0 : List (Nat × Value)) (nf : List Nat)
def doneB (X:Array Bool) (i:Nat):Bool:=X.getD i false
def Clo (X:Array Bool):Prop:=X.size=ops.size∧∀ (i:Nat) (o:Oper),ops[i]?=some o→doneB X i=true→∀ e,e ∈ o.after→Region.binds .any e=true→doneB X e.on=true
def ancOk:Bool:=(List.range ops.size).all fun i=>((ops[i]?).map fun o=>
 (o.after.all fun e=>!Region.binds .any e || decide (e.on < i)) && (A.getD i []).all fun j=>o.after.any fun e=>Region.binds .any e && (e.on == j || (A.getD e.on []).contains j)).getD true
def Agr (X:Array Bool) (a:Act) (W:List (Nat × Nat × Value)):Prop:=
 a.defers=dq∧a.tmps.size=n∧(∀ i d v,(i,d,v) ∈ W→doneB X i=true→a.tmps[d]?=some v) ∧
 (∀ t v,look F0 t=some v→(∀ (i:Nat) (o:Oper),ops[i]?=some o→o.dst=some t→doneB X i=false)→a.tmps[t]?=some v)
def Node (P:Program) (Q:Exit→Act→World→Prop) (Y:List Nat) (W:List (Nat × Nat × Value)) (L:List Ent) (D:List Fact):Prop:=
 ∀ fuel X a w,Clo ops X→(∀ j,j ∈ nf→doneB X j=decide (j ∈ Y))→Agr dq n ops F0 X a W→St0 E M w0 w L D→X.count false ≤ fuel→wpAny P .any ops Q fuel X a w
def Srcs (i:Nat) (W:List (Nat × Nat × Value)) (Fi:List (Nat × Value)):Prop:=
 ∀ q,q ∈ Fi→(∃ j,j ∈ A.getD i []∧(j,q.1,q.2) ∈ W) ∨ (look F0 q.1=some q.2∧∀ (k:Nat) (o:Oper),ops[k]?=some o→o.dst=some q.1→k=i ∨ i ∈ A.getD k [])
def Fin (W:List (Nat × Nat × Value)) (Fi:List (Nat × Value)):Prop:=
 ∀ q,q ∈ Fi→(∃ j,j < ops.size∧(j,q.1,q.2) ∈ W) ∨ (look F0 q.1=some q.2∧∀ (k:Nat) (o:Oper),ops[k]?=some o→o.dst=some q.1→False)
def FixOk (P:Program) (W:List (Nat × Nat × Value)) (L:List Ent) (D:List Fact) (i:Nat):Prop:=
 ∃ o d v Fi,ops[i]?=some o∧o.dst=some d∧(i,d,v) ∈ W∧Srcs ops A F0 i W Fi ∧
  ∀ G a w,St dq E M w0 n a w (Fi ++ G) L D→wpList P ops (fun e a' w'=>e=.normal∧St dq E M w0 n a' w' ((d,v) :: (Fi ++ G)) L D) [o] a w
def NonOk (P:Program) (Q:Exit→Act→World→Prop) (Y:List Nat) (W:List (Nat × Nat × Value)) (L:List Ent) (D:List Fact) (i:Nat):Prop:=
 ∃ o Fi,ops[i]?=some o∧Srcs ops A F0 i W Fi ∧
  ∀ G a w,St dq E M w0 n a w (Fi ++ G) L D→wpList P ops (fun e a' w'=>e=.normal∧∃ L' D',
   (∃ d v W2,o.dst=some d∧St dq E M w0 n a' w' ((d,v) :: (Fi ++ G)) L' D'∧(∀ z,z ∈ W2→i ∈ A.getD z.1 [])∧Node dq E M w0 n ops F0 nf P Q (i :: Y) (W2 ++ (i,d,v) :: W) L' D') ∨
   (∃ W2,o.dst=none∧St dq E M w0 n a' w' (Fi ++ G) L' D'∧(∀ z,z ∈ W2→i ∈ A.getD z.1 [])∧Node dq E M w0 n ops F0 nf P Q (i :: Y) (W2 ++ W) L' D')) [o] a w
variable {dq E M w0 n ops A F0 nf}
theorem anc_done (hA:ancOk ops A=true) {X:Array Bool} (hX:Clo ops X):∀ i o,ops[i]?=some o→(∀ e,e ∈ o.after→Region.binds .any e=true→doneB X e.on=true)→∀ j,j ∈ A.getD i []→doneB X j=true:=by
 intro i
 induction i using Nat.strongRecOn with
 | _ i ih=>
  intro o ho hd j hj
  have hi:i < ops.size:=(Array.getElem?_eq_some_iff.1 ho).1
  have h:=List.all_eq_true.1 hA i (List.mem_range.2 hi)
  simp only [ho,Option.map_some,Option.getD_some,Bool.and_eq_true] at h
  have h2:=List.all_eq_true.1 h.2 j hj
  obtain ⟨e,he,hb⟩:=Array.any_eq_true'.1 h2
  simp only [Bool.and_eq_true,Bool.or_eq_true] at hb
  have hlt:e.on < i:=by
   have:=Array.all_eq_true'.1 h.1 e he
   simpa [hb.1] using this
  have hde:=hd e he hb.1
  rcases hb.2 with hb2 | hb2
  ·rw [← eq_of_beq hb2]; exact hde
  ·have hlt2:e.on < ops.size:=by omega
   exact ih e.on hlt ops[e.on] (Array.getElem?_eq_getElem hlt2) (fun e' he' hb'=>hX.2 e.on _ (Array.getElem?_eq_getElem hlt2) hde e' he' hb') j (List.contains_iff_mem.1 hb2)
theorem ready_spec {X:Array Bool} {i:Nat} (h:i ∈ Region.ready .any ops X):∃ o,ops[i]?=some o∧X.getD i true=false∧∀ e,e ∈ o.after→Region.binds .any e=true→doneB X e.on=true:=by
 simp only [Region.ready,List.mem_filter,List.mem_range,Bool.and_eq_true] at h
 obtain ⟨h1,h2,h3⟩:=h
 refine ⟨ops[i],Array.getElem?_eq_getElem h1,by simpa using h2,fun e he hb=>?_⟩
 simp only [Array.getElem?_eq_getElem h1,Option.map_some,Option.getD_some] at h3
 have:=Array.all_eq_true'.1 h3 e he
 simpa [hb,doneB] using this
theorem ready_nil (hA:ancOk ops A=true) {X:Array Bool} (hX:Clo ops X) (h:Region.ready .any ops X=[]):∀ i,i < ops.size→doneB X i=true:=by
 intro i
 induction i using Nat.strongRecOn with
 | _ i ih=>
  intro hi
  cases hd:doneB X i with
  | true=>rfl
  | false=>
   have hall:=List.all_eq_true.1 hA i (List.mem_range.2 hi)
   simp only [Array.getElem?_eq_getElem hi,Option.map_some,Option.getD_some,Bool.and_eq_true] at hall
   have hmem:i ∈ Region.ready .any ops X:=by
    simp only [Region.ready,List.mem_filter,List.mem_range,Bool.and_eq_true,Array.getElem?_eq_getElem hi,Option.map_some,Option.getD_some]
    refine ⟨hi,?_,?_⟩
    ·have:i < X.size:=by rw [hX.1]; exact hi
     simp [doneB,Array.getD,this] at hd ⊢
     exact hd
    ·refine Array.all_eq_true'.2 fun e he=>?_
     have h1:=Array.all_eq_true'.1 hall.1 e he
     cases hb:Region.binds .any e with
     | false=>rfl
     | true=>
      simp only [hb,Bool.not_true,Bool.false_or,decide_eq_true_eq] at h1
      have:=ih e.on h1 (by omega)
      simpa [doneB] using this
   rw [h] at hmem
   cases hmem
theorem count_set {X:Array Bool} {i:Nat} (h:X.getD i true=false):(X.setIfInBounds i true).count false + 1=X.count false:=by
 have hi:i < X.size:=by
  rcases Nat.lt_or_ge i X.size with h1 | h1
  ·exact h1
  ·simp [Array.getD,Nat.not_lt.2 h1] at h
 have hx:X[i]=false:=by simpa [Array.getD,hi] using h
 have hpos:0 < X.count false:=Array.count_pos_iff.2 (hx ▸ Array.getElem_mem hi)
 rw [Array.setIfInBounds_def,dif_pos hi,Array.count_set hi]
 simp [hx]
 omega
theorem done_set {X:Array Bool} {i:Nat} (hi:i < X.size) (j:Nat):doneB (X.setIfInBounds i true) j=(decide (i=j) || doneB X j):=by
 unfold doneB
 simp only [Array.getD_eq_getD_getElem?,Array.getElem?_setIfInBounds]
 by_cases h:i=j
 ·subst h; simp [hi]
 ·simp [h]
def AllFrom (p:Nat→Prop) (k:Nat):Nat→Prop
 | 0=>True
 | m + 1=>p k∧AllFrom p (k + 1) m
theorem AllFrom.cons {p:Nat→Prop} {k m:Nat} (h:p k) (g:AllFrom p (k + 1) m):AllFrom p k (m + 1):=⟨h,g⟩
theorem AllFrom.get {p:Nat→Prop} {k m:Nat} (h:AllFrom p k m):∀ i,k ≤ i→i < k + m→p i:=by
 induction m generalizing k with
 | zero=>intro i h1 h2; omega
 | succ m ih=>
  intro i h1 h2
  by_cases e:i=k
  ·subst e; exact h.1
  ·exact ih h.2 i (by omega) (by omega)
def snap (n:Nat) (a:Act):List (Nat × Value):=(List.range n).map fun t=>(t,a.tmps.getD t undef)
theorem look_app (F G:List (Nat × Value)) (t:Nat):look (F ++ G) t=(look F t).orElse fun _=>look G t:=by
 induction F with
 | nil=>simp [look]
 | cons q F ih=>
  simp only [List.cons_append,look]
  split
  ·simp
  ·exact ih
theorem look_mem {F:List (Nat × Value)} {t:Nat} {v:Value} (h:look F t=some v):(t,v) ∈ F:=by
 induction F with
 | nil=>simp [look] at h
 | cons q F ih=>
  simp only [look] at h
  split at h
  ·rename_i e
   cases h
   subst e
   exact List.mem_cons_self
  ·exact List.mem_cons_of_mem _ (ih h)
theorem look_snap {n:Nat} {a:Act} (hn:a.tmps.size=n) {t:Nat} (ht:t < n):look (snap n a) t=a.tmps[t]?:=by
 have key:∀ (m k:Nat),k ≤ t→t < k + m→look ((List.range' k m).map fun t=>(t,a.tmps.getD t undef)) t=some (a.tmps.getD t undef):=by
  intro m
  induction m with
  | zero=>intro k h1 h2; omega
  | succ m ih=>
   intro k h1 h2
   simp only [List.range'_succ,List.map_cons,look]
   split
   ·rename_i e; subst e; rfl
   ·exact ih (k + 1) (by omega) (by omega)
 unfold snap
 rw [List.range_eq_range',key n 0 (Nat.zero_le _) (by omega)]
 simp [Array.getD_eq_getD_getElem?,hn,ht]
theorem frm_snap {a:Act} {Fi:List (Nat × Value)} (hd:a.defers=dq) (hn:a.tmps.size=n) (h:∀ q,q ∈ Fi→a.tmps[q.1]?=some q.2):Frm dq n a (Fi ++ snap n a):=by
 refine ⟨hd,hn,fun t v ht=>?_⟩
 rw [look_app] at ht
 cases hl:look Fi t with
 | some u=>
  rw [hl] at ht
  simp at ht
  subst ht
  exact h _ (look_mem hl)
 | none=>
  rw [hl] at ht
  simp only [Option.orElse_none] at ht
  have hm:=look_mem ht
  simp only [snap,List.mem_map,List.mem_range] at hm
  obtain ⟨t',h1,h2⟩:=hm
  cases h2
  rw [← look_snap hn h1]
  exact ht
theorem look_all {a:Act} {Fi:List (Nat × Value)} (hn:a.tmps.size=n) (h:∀ q,q ∈ Fi→a.tmps[q.1]?=some q.2) {t:Nat} {v:Value} (ht:a.tmps[t]?=some v):look (Fi ++ snap n a) t=some v:=by
 rw [look_app]
 cases hl:look Fi t with
 | some u=>
  have:=h _ (look_mem hl)
  rw [ht] at this
  simpa using this.symm
 | none=>
  have hlt:t < n:=by rw [← hn]; exact (Array.getElem?_eq_some_iff.1 ht).1
  simp only [Option.orElse_none]
  rw [look_snap hn hlt,ht]
theorem wp_change {o:Oper} {a:Act} {w:World} {K K':Act→World→Prop} {Q Q':Exit→Act→World→Prop} (h:∀ a w,K a w→K' a w) (hp:∀ c a w,¬ Q (.panic c) a w) (hl:¬ LetsOut Q) (hh:o.wp P a w K Q):o.wp P a w K' Q':=by
 unfold Oper.wp at *
 generalize (execOp a.eval o).run P w=r at *
 cases r with
 | ok n w'=>
  cases n <;> simp only [Oper.upon] at hh ⊢ <;>
   first
    | exact h _ _ hh
    | exact Calls.mono hh (fun e w'' he=>by cases e <;> first | exact h _ _ he | exact absurd he (hp _ _ _) | exact absurd he hl)
    | exact Rows.mono hh (fun _ _ he=>h _ _ he)
 | halt x w'=>cases x <;> simp only [Oper.upon] at hh ⊢ <;> first | exact hh | exact absurd hh (hp _ _ _)
theorem wpOp_of {o:Oper} {i:Nat} {a:Act} {w:World} {R:Act→World→Prop} {K:Act→World→Prop} {Q:Exit→Act→World→Prop} (ho:ops[i]?=some o) (h:wpList P ops (fun e a w=>e=.normal∧R a w) [o] a w) (hR:∀ a w,R a w→K a w):wpOp P ops Q i K a w:=by
 have hl:¬ LetsOut (fun e a w=>e=Exit.normal∧R a w):=by rintro ⟨a,w,h,_⟩; cases h
 have hp:∀ c a w,¬ ((Exit.panic c)=Exit.normal∧R a w):=by rintro c a w ⟨h,_⟩; cases h
 unfold wpOp
 simp only [ho]
 unfold wpList at h
 split
 ·rename_i hw
  rw [if_pos hw] at h
  rcases h with h | ⟨_,h⟩
  ·exact .inl (wp_change (fun a w h=>hR a w h.2) hp hl h)
  ·exact absurd h hl
 ·rename_i hw
  rw [if_neg hw] at h
  exact hR _ _ h.2
theorem node_of {Q:Exit→Act→World→Prop} {Y:List Nat} {W:List (Nat × Nat × Value)} {L:List Ent} {D:List Fact} (hA:ancOk ops A=true) (hnf:∀ j,j ∈ nf→j < ops.size) (hW:∀ (i d:Nat) v,(i,d,v) ∈ W→∃ o,ops[i]?=some o∧o.dst=some d)
 (huniq:∀ (i j:Nat) (o p:Oper) (d:Nat),ops[i]?=some o→ops[j]?=some p→o.dst=some d→p.dst=some d→i=j) (hWf:∀ (i d:Nat) v u,(i,d,v) ∈ W→(i,d,u) ∈ W→v=u) (hWn:∀ (i d:Nat) v,(i,d,v) ∈ W→i ∈ nf→i ∈ Y)
 (hall:AllFrom (fun i=>(i ∈ nf∧(i ∈ Y ∨ (∃ k,k ∈ A.getD i []∧k ∈ nf∧k ∉ Y) ∨ NonOk dq E M w0 n ops A F0 nf P Q Y W L D i)) ∨ (i ∉ nf∧((∃ y,y ∈ Y∧y ∈ nf∧i ∈ A.getD y []) ∨ (∃ k,k ∈ A.getD i []∧k ∈ nf∧k ∉ Y) ∨ FixOk dq E M w0 n ops A F0 P W L D i))) 0 ops.size)
 (Ff:List (Nat × Value)) (hf:Fin ops F0 W Ff) (hend:(∀ j,j ∈ nf→j ∈ Y)→∀ a w,St dq E M w0 n a w Ff L D→Q .normal a w):Node dq E M w0 n ops F0 nf P Q Y W L D:=by
 have hfin:∀ X a w,Clo ops X→(∀ j,j ∈ nf→doneB X j=decide (j ∈ Y))→Agr dq n ops F0 X a W→St0 E M w0 w L D→(∀ i,i < ops.size→doneB X i=true)→Q .normal a w:=by
  intro X a w hX hN hg hS hdone
  refine hend (fun j hj=>?_) a w ⟨⟨hg.1,hg.2.1,fun t v ht=>?_⟩,hS⟩
  ·have:=hN j hj
   rw [hdone j (hnf j hj)] at this
   exact of_decide_eq_true this.symm
  ·rcases hf _ (look_mem ht) with ⟨j,h1,h2⟩ | ⟨h1,h2⟩
   ·exact hg.2.2.1 j t v h2 (hdone j h1)
   ·exact hg.2.2.2 t v h1 (fun k o ho hd=>(h2 k o ho hd).elim)
 intro fuel
 induction fuel with
 | zero=>
  intro X a w hX hN hg hS hc
  have hdone:∀ i,i < ops.size→doneB X i=true:=by
   intro i hi
   cases h:doneB X i with
   | true=>rfl
   | false=>
    have hi':i < X.size:=by rw [hX.1]; exact hi
    have:X[i]=false:=by simpa [doneB,Array.getD,hi'] using h
    have hpos:0 < X.count false:=Array.count_pos_iff.2 (this ▸ Array.getElem_mem hi')
    omega
  have hr:Region.ready .any ops X=[]:=by
   cases h:Region.ready .any ops X with
   | nil=>rfl
   | cons i l=>
    obtain ⟨o,ho,h1,_⟩:=ready_spec (ops:=ops) (X:=X) (i:=i) (by rw [h]; exact List.mem_cons_self)
    have hi:i < ops.size:=(Array.getElem?_eq_some_iff.1 ho).1
    have h2:=hdone i hi
    have hi':i < X.size:=by rw [hX.1]; exact hi
    simp [doneB,Array.getD,hi'] at h1 h2
    rw [h1] at h2; cases h2
  exact ⟨hr,hfin X a w hX hN hg hS hdone⟩
 | succ fuel ih=>
  intro X a w hX hN hg hS hc
  refine ⟨fun hr=>hfin X a w hX hN hg hS (ready_nil hA hX hr),fun i hi=>?_⟩
  obtain ⟨o,ho,hx,hdeps⟩:=ready_spec hi
  have hlt:i < ops.size:=(Array.getElem?_eq_some_iff.1 ho).1
  have hltX:i < X.size:=by rw [hX.1]; exact hlt
  have hnd:doneB X i=false:=by simpa [doneB,Array.getD,hltX] using hx
  have hanc:=anc_done hA hX i o ho hdeps
  have hset:=done_set (X:=X) hltX
  have hX':Clo ops (X.setIfInBounds i true):=by
   refine ⟨by simp [hX.1],fun k p hp hk e he hb=>?_⟩
   rw [hset] at hk ⊢
   by_cases hik:i=k
   ·subst hik
    rw [ho] at hp; cases hp
    rw [hdeps e he hb]; simp
   ·simp [hik] at hk
    rw [hX.2 k p hp hk e he hb]; simp
  have hc':(X.setIfInBounds i true).count false ≤ fuel:=by have:=count_set hx; omega
  have hv:∀ Fi,Srcs ops A F0 i W Fi→∀ q,q ∈ Fi→a.tmps[q.1]?=some q.2:=by
   intro Fi hs q hq
   rcases hs q hq with ⟨j,h1,h2⟩ | ⟨h1,h2⟩
   ·exact hg.2.2.1 j _ _ h2 (hanc j h1)
   ·refine hg.2.2.2 _ _ h1 (fun k p hp hd=>?_)
    rcases h2 k p hp hd with rfl | h3
    ·exact hnd
    ·cases hk:doneB X k with
     | false=>rfl
     | true=>
      have:=anc_done hA hX k p hp (fun e he hb=>hX.2 k p hp hk e he hb) i h3
      rw [hnd] at this; cases this
  -- what stays behind the step
  have hstay:∀ Fi a' F' w',(∀ q,q ∈ Fi→a.tmps[q.1]?=some q.2)→St dq E M w0 n a' w' (F' ++ (Fi ++ snap n a)) L D ∨ True→True:=fun _ _ _ _ _ _=>trivial
  clear hstay
  have hold:∀ (i2 d2:Nat) (v2:Value),(i2,d2,v2) ∈ W→i2 ≠ i→doneB (X.setIfInBounds i true) i2=true→a.tmps[d2]?=some v2∧o.dst ≠ some d2:=by
   intro i2 d2 v2 hm hne hd2
   rw [hset] at hd2
   have hd3:doneB X i2=true:=by simpa [Ne.symm hne] using hd2
   refine ⟨hg.2.2.1 _ _ _ hm hd3,fun hod=>?_⟩
   obtain ⟨p,hp,hpd⟩:=hW _ _ _ hm
   exact hne (huniq i2 i p o d2 hp ho hpd hod)
  have hbase:∀ (t:Nat) (v:Value),look F0 t=some v→(∀ (k:Nat) (p:Oper),ops[k]?=some p→p.dst=some t→doneB (X.setIfInBounds i true) k=false)→a.tmps[t]?=some v∧o.dst ≠ some t:=by
   intro t v hl hk
   refine ⟨hg.2.2.2 t v hl (fun k p hp hpd=>?_),fun hod=>?_⟩
   ·have:=hk k p hp hpd
    rw [hset] at this
    simp at this
    exact this.2
   ·have:=hk i o ho hod
    rw [hset] at this
    simp at this
  rcases hall.get i (Nat.zero_le _) (by omega) with ⟨hin,h⟩ | ⟨hin,h⟩
  ·have hiY:i ∉ Y:=fun hy=>by
    have:=hN i hin
    rw [hnd] at this
    simp [hy] at this
   rcases h with h | ⟨k,h1,h2,h3⟩ | h
   ·exact absurd h hiY
   ·have:=hN k h2
    rw [hanc k h1] at this
    simp [h3] at this
   ·obtain ⟨o',Fi,ho',hs,hstep⟩:=h
    rw [ho] at ho'; cases ho'
    have hval:=hv Fi hs
    refine wpOp_of ho (hstep (snap n a) a w ⟨frm_snap hg.1 hg.2.1 hval,hS⟩) fun a' w' hr=>?_
    obtain ⟨L',D',hr⟩:=hr
    have hN':∀ j,j ∈ nf→doneB (X.setIfInBounds i true) j=decide (j ∈ i :: Y):=by
     intro j hj
     rw [hset,hN j hj]
     by_cases e:i=j
     ·subst e; simp
     ·have:¬ j=i:=fun h=>e h.symm
      simp [e,this]
    have hW2:∀ (W2:List (Nat × Nat × Value)),(∀ z,z ∈ W2→i ∈ A.getD z.1 [])→∀ (i2 d2:Nat) (v2:Value),(i2,d2,v2) ∈ W2→doneB (X.setIfInBounds i true) i2=true→False:=by
     intro W2 hz i2 d2 v2 hm hd2
     have hi2:=hz _ hm
     rw [hset] at hd2
     by_cases e:i=i2
     ·have h9:=hanc i (by rw [e] at hi2 ⊢; exact hi2)
      rw [hnd] at h9; cases h9
     ·have hd3:doneB X i2=true:=by simpa [e] using hd2
      have h8:i2 < ops.size:=by
       rcases Nat.lt_or_ge i2 X.size with h | h
       ·rw [← hX.1]; exact h
       ·simp [doneB,Array.getD,Nat.not_lt.2 h] at hd3
      have h9:=anc_done hA hX i2 ops[i2] (Array.getElem?_eq_getElem h8) (fun e he hb=>hX.2 i2 _ (Array.getElem?_eq_getElem h8) hd3 e he hb) i hi2
      rw [hnd] at h9; cases h9
    rcases hr with ⟨d,v,W2,hod,hSt,hz,hNode⟩ | ⟨W2,hod,hSt,hz,hNode⟩
    ·refine hNode fuel _ a' w' hX' hN' ⟨hSt.frm.defers,hSt.frm.size,fun i2 d2 v2 hm hd2=>?_,fun t u hl hk=>?_⟩ hSt.mem hc'
     ·rcases List.mem_append.1 hm with hm0 | hm1
      ·exact (hW2 W2 hz _ _ _ hm0 hd2).elim
      rcases List.mem_cons.1 hm1 with hm2 | hm2
      ·cases hm2
       exact hSt.frm.get d v (by simp [look])
      ·have hne:i2 ≠ i:=fun e=>hiY (hWn _ _ _ (e ▸ hm2) hin)
       obtain ⟨h1,h2⟩:=hold i2 d2 v2 hm2 hne hd2
       refine hSt.frm.get d2 v2 ?_
       simp only [look]
       rw [if_neg (fun e=>h2 (by rw [hod,e]))]
       exact look_all hg.2.1 hval h1
     ·obtain ⟨h1,h2⟩:=hbase t u hl hk
      refine hSt.frm.get t u ?_
      simp only [look]
      rw [if_neg (fun e=>h2 (by rw [hod,e]))]
      exact look_all hg.2.1 hval h1
    ·refine hNode fuel _ a' w' hX' hN' ⟨hSt.frm.defers,hSt.frm.size,fun i2 d2 v2 hm hd2=>?_,fun t u hl hk=>?_⟩ hSt.mem hc'
     ·rcases List.mem_append.1 hm with hm0 | hm
      ·exact (hW2 W2 hz _ _ _ hm0 hd2).elim
      have hne:i2 ≠ i:=fun e=>hiY (hWn _ _ _ (e ▸ hm) hin)
      exact hSt.frm.get d2 v2 (look_all hg.2.1 hval (hold i2 d2 v2 hm hne hd2).1)
     ·exact hSt.frm.get t u (look_all hg.2.1 hval (hbase t u hl hk).1)
  ·rcases h with ⟨y,h1,h2,h3⟩ | ⟨k,h1,h2,h3⟩ | h
   ·-- done already
    have hy:doneB X y=true:=by rw [hN y h2]; simpa using h1
    obtain ⟨p,hp⟩:∃ p,ops[y]?=some p:=⟨_,Array.getElem?_eq_getElem (hnf y h2)⟩
    have:=anc_done hA hX y p hp (fun e he hb=>hX.2 y p hp hy e he hb) i h3
    rw [hnd] at this; cases this
   ·have:=hN k h2
    rw [hanc k h1] at this
    simp [h3] at this
   ·obtain ⟨o',d,v,Fi,ho',hod,hmem,hs,hstep⟩:=h
    rw [ho] at ho'; cases ho'
    have hval:=hv Fi hs
    refine wpOp_of ho (hstep (snap n a) a w ⟨frm_snap hg.1 hg.2.1 hval,hS⟩) fun a' w' hSt=>?_
    have hN':∀ j,j ∈ nf→doneB (X.setIfInBounds i true) j=decide (j ∈ Y):=by
     intro j hj
     rw [hset,← hN j hj]
     have:¬ i=j:=fun e=>hin (e ▸ hj)
     simp [this]
    refine ih _ a' w' hX' hN' ⟨hSt.frm.defers,hSt.frm.size,fun i2 d2 v2 hm hd2=>?_,fun t u hl hk=>?_⟩ hSt.mem hc'
    ·by_cases hne:i2=i
     ·subst hne
      obtain ⟨p,hp,hpd⟩:=hW _ _ _ hm
      rw [ho] at hp; cases hp
      rw [hod] at hpd; cases hpd
      rw [hWf _ _ _ _ hm hmem]
      exact hSt.frm.get d v (by simp [look])
     ·obtain ⟨h1,h2⟩:=hold i2 d2 v2 hm hne hd2
      refine hSt.frm.get d2 v2 ?_
      simp only [look]
      rw [if_neg (fun e=>h2 (by rw [hod,e]))]
      exact look_all hg.2.1 hval h1
    ·obtain ⟨h1,h2⟩:=hbase t u hl hk
     refine hSt.frm.get t u ?_
     simp only [look]
     rw [if_neg (fun e=>h2 (by rw [hod,e]))]
     exact look_all hg.2.1 hval h1
theorem sDraw {id:Nat} {l:List Oper} {Q:Exit→Act→World→Prop} {a:Act} {w:World} {L:List Ent} {D:List Fact} {W:List (Nat × Nat × Value)} (hm:P.follows .mixedOrders=true) (S:St dq E M w0 n a w F0 L D)
 (h:Node dq E M w0 n l.toArray F0 nf P Q [] W L D):(Code.region id l.toArray true).wp P Q a w:=by
 refine wp_region_any hm ?_
 refine h _ _ a _ ⟨by simp,fun i o ho hd=>?_⟩ (fun j hj=>?_) ⟨S.frm.defers,S.frm.size,fun i d v hm hd=>?_,fun t v hl _=>S.frm.get t v hl⟩ S.mem.drew ?_
 ·simp [doneB,Array.getD] at hd
 ·simp [doneB,Array.getD]
 ·simp [doneB,Array.getD] at hd
 ·simp
def srcOne (F0:List (Nat × Value)) (W:List (Nat × Nat × Value)) (t:Nat):Option Nat→Option (Nat × Value)
 | some k=>(W[k]?).map (·.2)
 | none=>(look F0 t).map (t,·)
def srcB1 (F0:List (Nat × Value)) (W:List (Nat × Nat × Value)) (cert:List (Option Nat)) (Fi:List (Nat × Value)):List (Option (Nat × Value)):=
 (cert.zip Fi).map fun c=>srcOne F0 W c.2.1 c.1
def srcB2 (ops:Array Oper) (A:List (List Nat)) (i:Nat) (ixs:List Nat) (cert:List (Option Nat)) (ts:List Nat):Bool:=
 (cert.zip ts).all fun c=>match c.1 with
  | some k=>((ixs[k]?).map fun j=>(A.getD i []).contains j).getD false
  | none=>(List.range ops.size).all fun k=>((ops[k]?).map fun o=>(match o.dst with | some d=>Nat.beq d c.2 | none=>false)).getD false == false || k == i || (A.getD k []).contains i
def finB2 (ops:Array Oper) (ixs:List Nat) (cert:List (Option Nat)) (ts:List Nat):Bool:=
 (cert.zip ts).all fun c=>match c.1 with
  | some k=>((ixs[k]?).map fun j=>decide (j < ops.size)).getD false
  | none=>(List.range ops.size).all fun k=>((ops[k]?).map fun o=>(match o.dst with | some d=>Nat.beq d c.2 | none=>false)).getD false == false
theorem zip_mem {α β:Type} {cs:List α} {bs:List β} (hl:cs.length=bs.length) {b:β} (hb:b ∈ bs):∃ a,(a,b) ∈ cs.zip bs:=by
 induction bs generalizing cs with
 | nil=>simp at hb
 | cons y bs ih=>
  cases cs with
  | nil=>simp at hl
  | cons x cs=>
   rcases List.mem_cons.1 hb with rfl | hb
   ·exact ⟨x,by simp⟩
   ·obtain ⟨a,ha⟩:=ih (by simpa using hl) hb
    exact ⟨a,by simp [ha]⟩
theorem zip_map {α:Type} {cs:List α} {Fi:List (Nat × Value)} {a:α} {q:Nat × Value} (h:(a,q) ∈ cs.zip Fi):(a,q.1) ∈ cs.zip (Fi.map (·.1)):=by
 induction Fi generalizing cs with
 | nil=>simp at h
 | cons y Fi ih=>
  cases cs with
  | nil=>simp at h
  | cons x cs=>
   simp only [List.zip_cons_cons,List.mem_cons,List.map_cons] at h ⊢
   rcases h with h | h
   ·cases h; exact .inl rfl
   ·exact .inr (ih h)
theorem src_get {F0:List (Nat × Value)} {W:List (Nat × Nat × Value)} {cert:List (Option Nat)} {Fi:List (Nat × Value)} (h1:srcB1 F0 W cert Fi=Fi.map some) {c:Option Nat} {q:Nat × Value} (h:(c,q) ∈ cert.zip Fi) :
 srcOne F0 W q.1 c=some q:=by
 unfold srcB1 at h1
 induction Fi generalizing cert with
 | nil=>simp at h
 | cons y Fi ih=>
  cases cert with
  | nil=>simp at h
  | cons x cert=>
   simp only [List.zip_cons_cons,List.map_cons,List.cons.injEq,List.mem_cons] at h1 h
   rcases h with h | h
   ·cases h; exact h1.1
   ·exact ih h1.2 h
theorem writer_none {o:Oper} {t:Nat} (h:(match o.dst with | some d=>Nat.beq d t | none=>false)=false):o.dst ≠ some t:=fun e=>by
 rw [e] at h
 simp at h
theorem srcs_of {i:Nat} {W:List (Nat × Nat × Value)} {Fi:List (Nat × Value)} (cert:List (Option Nat)) (hl:cert.length=Fi.length) (h1:srcB1 F0 W cert Fi=Fi.map some) (h2:srcB2 ops A i (W.map (·.1)) cert (Fi.map (·.1))=true):Srcs ops A F0 i W Fi:=by
 intro q hq
 obtain ⟨c,hc⟩:=zip_mem hl hq
 have h3:=src_get h1 hc
 have h4:=List.all_eq_true.1 h2 _ (zip_map hc)
 cases c with
 | some k=>
  simp only [srcOne] at h3 h4
  cases hk:W[k]? with
  | none=>rw [hk] at h3; cases h3
  | some z=>
   rw [hk] at h3
   simp only [Option.map_some,Option.some.injEq] at h3
   simp only [List.getElem?_map,hk,Option.map_some,Option.getD_some] at h4
   refine .inl ⟨z.1,List.contains_iff_mem.1 h4,?_⟩
   rw [← h3]
   exact List.mem_of_getElem? hk
 | none=>
  simp only [srcOne] at h3 h4
  refine .inr ⟨?_,fun k o ho hd=>?_⟩
  ·cases hl:look F0 q.1 with
   | none=>rw [hl] at h3; cases h3
   | some v=>rw [hl] at h3; simp at h3; rw [← h3]
  ·have hk:k < ops.size:=(Array.getElem?_eq_some_iff.1 ho).1
   have:=List.all_eq_true.1 h4 k (List.mem_range.2 hk)
   simp only [ho,Option.map_some,Option.getD_some,Bool.or_eq_true,beq_iff_eq] at this
   rcases this with (h | h) | h
   ·exact absurd hd (writer_none h)
   ·exact .inl h
   ·exact .inr (List.contains_iff_mem.1 h)
theorem fin_of {W:List (Nat × Nat × Value)} {Fi:List (Nat × Value)} (cert:List (Option Nat)) (hl:cert.length=Fi.length) (h1:srcB1 F0 W cert Fi=Fi.map some) (h2:finB2 ops (W.map (·.1)) cert (Fi.map (·.1))=true):Fin ops F0 W Fi:=by
 intro q hq
 obtain ⟨c,hc⟩:=zip_mem hl hq
 have h3:=src_get h1 hc
 have h4:=List.all_eq_true.1 h2 _ (zip_map hc)
 cases c with
 | some k=>
  simp only [srcOne] at h3 h4
  cases hk:W[k]? with
  | none=>rw [hk] at h3; cases h3
  | some z=>
   rw [hk] at h3
   simp only [Option.map_some,Option.some.injEq] at h3
   simp only [List.getElem?_map,hk,Option.map_some,Option.getD_some,decide_eq_true_eq] at h4
   refine .inl ⟨z.1,h4,?_⟩
   rw [← h3]
   exact List.mem_of_getElem? hk
 | none=>
  simp only [srcOne] at h3 h4
  refine .inr ⟨?_,fun k o ho hd=>?_⟩
  ·cases hl:look F0 q.1 with
   | none=>rw [hl] at h3; cases h3
   | some v=>rw [hl] at h3; simp at h3; rw [← h3]
  ·have hk:k < ops.size:=(Array.getElem?_eq_some_iff.1 ho).1
   have:=List.all_eq_true.1 h4 k (List.mem_range.2 hk)
   simp only [ho,Option.map_some,Option.getD_some,beq_iff_eq] at this
   exact absurd hd (writer_none this)
def uniqB (ops:Array Oper):Bool:=(List.range ops.size).all fun i=>(List.range i).all fun j=>match (ops[i]?).bind (·.dst),(ops[j]?).bind (·.dst) with | some d,some e=>!Nat.beq d e | _,_=>true
theorem uniq_lt (h:uniqB ops=true) {i j:Nat} {o p:Oper} {d:Nat} (hij:j < i) (ho:ops[i]?=some o) (hp:ops[j]?=some p) (hd:o.dst=some d) (he:p.dst=some d):False:=by
 have hi:i < ops.size:=(Array.getElem?_eq_some_iff.1 ho).1
 have h1:=List.all_eq_true.1 (List.all_eq_true.1 h i (List.mem_range.2 hi)) j (List.mem_range.2 hij)
 simp [ho,hp,hd,he] at h1
section
variable {nf Y : List Nat} {A : List (List Nat)} {X Z : Nat → Prop}
theorem aY (k m:Nat) (h:k ∈ nf∧k ∈ Y) (g:AllFrom (fun i=>(i ∈ nf∧(i ∈ Y ∨ (∃ k,k ∈ A.getD i []∧k ∈ nf∧k ∉ Y) ∨ X i)) ∨ (i ∉ nf∧((∃ y,y ∈ Y∧y ∈ nf∧i ∈ A.getD y []) ∨ (∃ k,k ∈ A.getD i []∧k ∈ nf∧k ∉ Y) ∨ Z i))) (k + 1) m) :
 AllFrom (fun i=>(i ∈ nf∧(i ∈ Y ∨ (∃ k,k ∈ A.getD i []∧k ∈ nf∧k ∉ Y) ∨ X i)) ∨ (i ∉ nf∧((∃ y,y ∈ Y∧y ∈ nf∧i ∈ A.getD y []) ∨ (∃ k,k ∈ A.getD i []∧k ∈ nf∧k ∉ Y) ∨ Z i))) k (m + 1):=⟨.inl ⟨h.1,.inl h.2⟩,g⟩
theorem aB (k m b:Nat) (h:k ∈ nf∧b ∈ A.getD k []∧b ∈ nf∧b ∉ Y) (g:AllFrom (fun i=>(i ∈ nf∧(i ∈ Y ∨ (∃ k,k ∈ A.getD i []∧k ∈ nf∧k ∉ Y) ∨ X i)) ∨ (i ∉ nf∧((∃ y,y ∈ Y∧y ∈ nf∧i ∈ A.getD y []) ∨ (∃ k,k ∈ A.getD i []∧k ∈ nf∧k ∉ Y) ∨ Z i))) (k + 1) m) :
 AllFrom (fun i=>(i ∈ nf∧(i ∈ Y ∨ (∃ k,k ∈ A.getD i []∧k ∈ nf∧k ∉ Y) ∨ X i)) ∨ (i ∉ nf∧((∃ y,y ∈ Y∧y ∈ nf∧i ∈ A.getD y []) ∨ (∃ k,k ∈ A.getD i []∧k ∈ nf∧k ∉ Y) ∨ Z i))) k (m + 1):=⟨.inl ⟨h.1,.inr (.inl ⟨b,h.2.1,h.2.2.1,h.2.2.2⟩)⟩,g⟩
theorem aN (k m:Nat) (h:k ∈ nf) (x:X k) (g:AllFrom (fun i=>(i ∈ nf∧(i ∈ Y ∨ (∃ k,k ∈ A.getD i []∧k ∈ nf∧k ∉ Y) ∨ X i)) ∨ (i ∉ nf∧((∃ y,y ∈ Y∧y ∈ nf∧i ∈ A.getD y []) ∨ (∃ k,k ∈ A.getD i []∧k ∈ nf∧k ∉ Y) ∨ Z i))) (k + 1) m) :
 AllFrom (fun i=>(i ∈ nf∧(i ∈ Y ∨ (∃ k,k ∈ A.getD i []∧k ∈ nf∧k ∉ Y) ∨ X i)) ∨ (i ∉ nf∧((∃ y,y ∈ Y∧y ∈ nf∧i ∈ A.getD y []) ∨ (∃ k,k ∈ A.getD i []∧k ∈ nf∧k ∉ Y) ∨ Z i))) k (m + 1):=⟨.inl ⟨h,.inr (.inr x)⟩,g⟩
theorem aD (k m y:Nat) (h:k ∉ nf∧y ∈ Y∧y ∈ nf∧k ∈ A.getD y []) (g:AllFrom (fun i=>(i ∈ nf∧(i ∈ Y ∨ (∃ k,k ∈ A.getD i []∧k ∈ nf∧k ∉ Y) ∨ X i)) ∨ (i ∉ nf∧((∃ y,y ∈ Y∧y ∈ nf∧i ∈ A.getD y []) ∨ (∃ k,k ∈ A.getD i []∧k ∈ nf∧k ∉ Y) ∨ Z i))) (k + 1) m) :
 AllFrom (fun i=>(i ∈ nf∧(i ∈ Y ∨ (∃ k,k ∈ A.getD i []∧k ∈ nf∧k ∉ Y) ∨ X i)) ∨ (i ∉ nf∧((∃ y,y ∈ Y∧y ∈ nf∧i ∈ A.getD y []) ∨ (∃ k,k ∈ A.getD i []∧k ∈ nf∧k ∉ Y) ∨ Z i))) k (m + 1):=⟨.inr ⟨h.1,.inl ⟨y,h.2.1,h.2.2.1,h.2.2.2⟩⟩,g⟩
theorem aE (k m b:Nat) (h:k ∉ nf∧b ∈ A.getD k []∧b ∈ nf∧b ∉ Y) (g:AllFrom (fun i=>(i ∈ nf∧(i ∈ Y ∨ (∃ k,k ∈ A.getD i []∧k ∈ nf∧k ∉ Y) ∨ X i)) ∨ (i ∉ nf∧((∃ y,y ∈ Y∧y ∈ nf∧i ∈ A.getD y []) ∨ (∃ k,k ∈ A.getD i []∧k ∈ nf∧k ∉ Y) ∨ Z i))) (k + 1) m) :
 AllFrom (fun i=>(i ∈ nf∧(i ∈ Y ∨ (∃ k,k ∈ A.getD i []∧k ∈ nf∧k ∉ Y) ∨ X i)) ∨ (i ∉ nf∧((∃ y,y ∈ Y∧y ∈ nf∧i ∈ A.getD y []) ∨ (∃ k,k ∈ A.getD i []∧k ∈ nf∧k ∉ Y) ∨ Z i))) k (m + 1):=⟨.inr ⟨h.1,.inr (.inl ⟨b,h.2.1,h.2.2.1,h.2.2.2⟩)⟩,g⟩
theorem aF (k m:Nat) (h:k ∉ nf) (x:Z k) (g:AllFrom (fun i=>(i ∈ nf∧(i ∈ Y ∨ (∃ k,k ∈ A.getD i []∧k ∈ nf∧k ∉ Y) ∨ X i)) ∨ (i ∉ nf∧((∃ y,y ∈ Y∧y ∈ nf∧i ∈ A.getD y []) ∨ (∃ k,k ∈ A.getD i []∧k ∈ nf∧k ∉ Y) ∨ Z i))) (k + 1) m) :
 AllFrom (fun i=>(i ∈ nf∧(i ∈ Y ∨ (∃ k,k ∈ A.getD i []∧k ∈ nf∧k ∉ Y) ∨ X i)) ∨ (i ∉ nf∧((∃ y,y ∈ Y∧y ∈ nf∧i ∈ A.getD y []) ∨ (∃ k,k ∈ A.getD i []∧k ∈ nf∧k ∉ Y) ∨ Z i))) k (m + 1):=⟨.inr ⟨h,.inr (.inr x)⟩,g⟩
end
theorem node_by {Q:Exit→Act→World→Prop} {Y:List Nat} {W:List (Nat × Nat × Value)} {L:List Ent} {D:List Fact} (N:Nat) (hN:ops.size=N) (hA:ancOk ops A=true) (hu:uniqB ops=true) (hnf:(nf.all fun j=>decide (j < ops.size))=true)
 (hW:W.map (fun q=>(ops[q.1]?).bind (·.dst))=W.map (fun q=>some q.2.1)) (ix:List Nat) (hix:W.map (·.1)=ix) (hWi':ix.Nodup) (hWn':(ix.all fun i=>!nf.contains i || Y.contains i)=true)
 (hall:AllFrom (fun i=>(i ∈ nf∧(i ∈ Y ∨ (∃ k,k ∈ A.getD i []∧k ∈ nf∧k ∉ Y) ∨ NonOk dq E M w0 n ops A F0 nf P Q Y W L D i)) ∨ (i ∉ nf∧((∃ y,y ∈ Y∧y ∈ nf∧i ∈ A.getD y []) ∨ (∃ k,k ∈ A.getD i []∧k ∈ nf∧k ∉ Y) ∨ FixOk dq E M w0 n ops A F0 P W L D i))) 0 N)
 (Ff:List (Nat × Value)) (hf:Fin ops F0 W Ff) (hend:(∀ j,j ∈ nf→j ∈ Y)→∀ a w,St dq E M w0 n a w Ff L D→Q .normal a w):Node dq E M w0 n ops F0 nf P Q Y W L D:=by
 subst hN
 have hWi:(W.map (·.1)).Nodup:=by rw [hix]; exact hWi'
 have hWn:((W.map (·.1)).all fun i=>!nf.contains i || Y.contains i)=true:=by rw [hix]; exact hWn'
 clear hWi' hWn' hix
 refine node_of hA (fun j hj=>by simpa using List.all_eq_true.1 hnf j hj) (fun i d v hm=>?_) (fun i j o p d ho hp hd he=>?_) (fun i d v u h1 h2=>?_) (fun i d v hm hin=>?_) hall Ff hf hend
 ·have:(ops[i]?).bind (·.dst)=some d:=by
   clear hWi hWn hall hf
   induction W with
   | nil=>cases hm
   | cons z W ih=>
    simp only [List.map_cons,List.cons.injEq] at hW
    rcases List.mem_cons.1 hm with rfl | hm
    ·exact hW.1
    ·exact ih hW.2 hm
  cases ho:ops[i]? with
  | none=>rw [ho] at this; cases this
  | some o=>rw [ho] at this; exact ⟨o,rfl,this⟩
 ·rcases Nat.lt_trichotomy i j with h | h | h
  ·exact (uniq_lt hu h hp ho he hd).elim
  ·exact h
  ·exact (uniq_lt hu h ho hp hd he).elim
 ·clear hW hWn hall hf
  induction W with
  | nil=>cases h1
  | cons z W ih=>
   simp only [List.map_cons,List.nodup_cons] at hWi
   rcases List.mem_cons.1 h1 with e1 | h1 <;> rcases List.mem_cons.1 h2 with e2 | h2
   ·rw [← e1] at e2; cases e2; rfl
   ·exact absurd (List.mem_map.2 ⟨_,h2,by rw [← e1]⟩) hWi.1
   ·exact absurd (List.mem_map.2 ⟨_,h1,by rw [← e2]⟩) hWi.1
   ·exact ih hWi.2 h1 h2
 ·have:=List.all_eq_true.1 hWn i (List.mem_map.2 ⟨_,hm,rfl⟩)
  simpa [hin] using this
theorem fI {W:List (Nat × Nat × Value)} {L:List Ent} {D:List Fact} {i:Nat} {o:Oper} (d:Nat) (v:Value) (Fi:List (Nat × Value)) (ix:Nat) (cert:List (Option Nat)) (ho:ops[i]?=some o) (hd:o.dst=some d) (hW:W[ix]?=some (i,d,v)) (hl:cert.length=Fi.length)
 (h1:srcB1 F0 W cert Fi=Fi.map some) (h2:srcB2 ops A i (W.map (·.1)) cert (Fi.map (·.1))=true)
 (k:∀ G a w,St dq E M w0 n a w (Fi ++ G) L D→wpList P ops (fun e a' w'=>e=.normal∧St dq E M w0 n a' w' ((d,v) :: (Fi ++ G)) L D) [o] a w):FixOk dq E M w0 n ops A F0 P W L D i:=
 ⟨o,d,v,Fi,ho,hd,List.mem_of_getElem? hW,srcs_of cert hl h1 h2,k⟩
theorem hz_of {i:Nat} {W2:List (Nat × Nat × Value)} (h:((W2.map (·.1)).all fun k=>(A.getD k []).contains i)=true):∀ z,z ∈ W2→i ∈ A.getD z.1 []:=fun z hz=>
 List.contains_iff_mem.1 (List.all_eq_true.1 h z.1 (List.mem_map.2 ⟨z,hz,rfl⟩))
end
section
variable {P : Program} {dq : List Deferred} {E : Nat → Prop} {M : List Nat} {w0 : World} {n : Nat} {ops : Array Oper} {F0 : List (Nat × Value)} {nf : List Nat} {Q : Exit → Act → World → Prop} {Y Y' : List Nat} {W W' : List (Nat × Nat × Value)} {L L' : List Ent} {D D' : List Fact}
theorem nodeCut (R:(List Nat→List (Nat × Nat × Value)→List Ent→List Fact→Prop)→List (Nat × Nat × Value)→List Ent→List Fact→Prop) (h1:R (Node dq E M w0 n ops F0 nf P Q) W L D)
 (h2:R (Node dq E M w0 n ops F0 nf P Q) W L D→Node dq E M w0 n ops F0 nf P Q Y W L D):Node dq E M w0 n ops F0 nf P Q Y W L D:=h2 h1
theorem nodePerm (h:Node dq E M w0 n ops F0 nf P Q Y W L D) (ks is js:List Nat) (hY:(nf.all fun j=>Y.contains j == Y'.contains j)=true) (hn:is.Nodup)
 (hW:ks.map (fun i=>W'[i]?)=W.map some) (hL:is.map (fun i=>L'[i]?)=L.map some) (hD:js.map (fun i=>D'[i]?)=D.map some):Node dq E M w0 n ops F0 nf P Q Y' W' L' D':=by
 intro fuel X a w hX hN hg hS hc
 refine h fuel X a w hX (fun j hj=>?_) ⟨hg.1,hg.2.1,fun i d v hm hd=>hg.2.2.1 i d v (getList_mem hW _ hm) hd,hg.2.2.2⟩ (hS.sel is js hn hL hD) hc
 rw [hN j hj]
 have:=List.all_eq_true.1 hY j hj
 simp only [beq_iff_eq,List.contains_eq_mem] at this
 exact this.symm
end
def fHold (q:Value) (cs:List Value):Fact where
 p:=fun E w=>∃ b off,q=.pointer (some ⟨b,off,none⟩)∧¬ E b∧b < w.heap.size∧∀ j u,cs[j]?=some u→w.cell? ⟨b,off + j,none⟩=some u
 mono:=by
  rintro E E' w w' h ⟨b,off,hq,hE,hb,hc⟩
  refine ⟨b,off,hq,fun e=>hE (h.excl b hb e),Nat.lt_of_lt_of_le hb h.size,fun j u hu=>?_⟩
  rw [World.cell?_of_block (w:=w) (h.same b hb hE ⟨_,_,hc j u hu⟩)]
  exact hc j u hu
def IdxV (P:Program) (t:TypeId) (v:Value) (j:Int) (q:Value):Prop:=∀ k w,(Instr.indexAt t v (.int k j)).run P w=.ok q w
def FldV (P:Program) (s:TypeId) (f:Nat) (q q':Value):Prop:=∀ w,(Instr.fieldAt s q f).run P w=.ok q' w
theorem setO_v {α:Type} {xs ys:List α} {j:Int} {y:α} (h:setO xs j y=some ys) (ad:Option Addr) (c:Nat):Value.slice ad xs.length c=Value.slice ad ys.length c:=by
 obtain ⟨_,_,rfl⟩:=setO_some h
 simp
theorem All.cons {α:Type} {r:R α} {E:Nat→Prop} {w:World} {v:Value} {x:α} {vs:List Value} {xs:List α} (h:r.rep E w v x) (a:All r E w vs xs):All r E w (v :: vs) (x :: xs):=
 All.append (All.one h) a
section
variable {P : Program} {dq : List Deferred} {E : Nat → Prop} {M : List Nat} {w0 : World} {n : Nat} {a : Act} {w : World} {F : List (Nat × Value)} {L : List Ent} {D : List Fact} {Q : Exit → Act → World → Prop}
variable {ops : Array Oper} {rest : List Oper} {o : Oper} {d : Nat}
theorem St.learn (S:St dq E M w0 n a w F L D) (e:Fact) (h:e.p (tot E L) w):St dq E M w0 n a w F L (e :: D):=⟨S.frm,S.mem.learn e h⟩
theorem pIdx {α:Type} {r:R α} {xs:List α} {x:α} {v:Value} {j:Int} (t e i:Nat) (S:St dq E M w0 n a w F L D) (ht:P.underlying t=some (.slice e)) (hs:cellsB P e=some r.sz) (hD:D[i]?=some (fRep (rL r) v xs)) (hx:idxO xs j=some x) :
 ∃ q,IdxV P t v j q∧St dq E M w0 n a w F L (fPtr r q x :: D):=by
 obtain ⟨h0,h1,h2⟩:=idxO_some hx
 obtain ⟨b,off,c,u,rfl,hE,hb,hrep,hcell⟩:=rL_at (S.mem.know hD) h2
 exact ⟨_,fun k w=>run_indexAt ht hs h0 h1 w,S.learn _ ⟨b,_,u,rfl,hE,hb,hrep,hcell⟩⟩
theorem pIdxR {α:Type} {r:R α} {T:TypeId} {xs:List α} {x:α} {v:Value} {j:Int} (t e i:Nat) (S:St dq E M w0 n a w F L D) (ht:P.underlying t=some (.slice e)) (hs:cellsB P e=some r.sz) (hL:L[i]?=some (eRow r T v xs)) (hx:idxO xs j=some x) :
 ∃ q,IdxV P t v j q∧OwnP r.sz v q j.toNat:=by
 obtain ⟨h0,h1,h2⟩:=idxO_some hx
 obtain ⟨g,c,u,rfl,_,_⟩:=row_at (S.mem.at hL) h2
 refine ⟨_,fun k w=>?_,⟨g,_,c,rfl,rfl⟩⟩
 have:=run_indexAt (P:=P) ht hs (b:=g) (off:=0) (c:=c) (k:=k) h0 h1 w
 simpa using this
theorem pFld {α β:Type} {r:R α} {s2:R β} {g:α→β} {z:α} {q:Value} (s f i k:Nat) (S:St dq E M w0 n a w F L D) (hD:D[i]?=some (fPtr r q z)) (hf:fieldB P s f=some k) (hc:Comp r s2 k g) :
 ∃ q',FldV P s f q q'∧St dq E M w0 n a w F L (fPtr s2 q' (g z) :: D):=by
 obtain ⟨b,off,v,rfl,h1,h2,h3,h4⟩:=S.mem.know hD
 obtain ⟨u,h5,h6⟩:=hc _ _ _ _ h3
 exact ⟨_,fun w=>run_fieldAt hf b off w,S.learn _ ⟨b,off + k,u,rfl,h1,h2,h5,fun j c hj=>by rw [Nat.add_assoc]; exact h4 _ _ (h6 j c hj)⟩⟩
theorem pLoad {α:Type} {r:R α} {q:Value} {x:α} (i:Nat) (S:St dq E M w0 n a w F L D) (hD:D[i]?=some (fPtr r q x)) :
 ∃ u,St dq E M w0 n a w F L (fHold q u.cells.toList :: fRep r u x :: D):=by
 obtain ⟨b,off,v,hq,h1,h2,h3,h4⟩:=S.mem.know hD
 exact ⟨v,(S.learn (fRep r v x) h3).learn (fHold q v.cells.toList) ⟨b,off,hq,h1,h2,h4⟩⟩
theorem sIdxV {t:TypeId} {s ix:Operand} {v q:Value} {k:IntKind} {j:Int} (S:St dq E M w0 n a w F L D)
 (hw:∀ a,Frm dq n a F→Region.wanted o (yielded ops a.tmps)=true) (ho:o.op=.indexAddr t s ix) (hv:lookO F s=some v) (hj:lookO F ix=some (.int k j)) (hq:IdxV P t v j q) (hd:o.dst=some d) (hn:d < n)
 (K:∀ a,St dq E M w0 n a w ((d,q) :: F) L D→wpList P ops Q rest a w):wpList P ops Q (o :: rest) a w:=by
 have he:=S.frm.eval hv
 have hej:=S.frm.eval hj
 exact sVal S hw hd hn (by simp only [execOp,ho,he,hej,Sem.run_bind,hq k w,Result.andThen_ok,Sem.run_pure]) S.mem K
theorem sFldV {s:TypeId} {x:Operand} {f:Nat} {q q':Value} (S:St dq E M w0 n a w F L D)
 (hw:∀ a,Frm dq n a F→Region.wanted o (yielded ops a.tmps)=true) (ho:o.op=.fieldAddr s x f) (hx:lookO F x=some q) (hq:FldV P s f q q') (hd:o.dst=some d) (hn:d < n)
 (K:∀ a,St dq E M w0 n a w ((d,q') :: F) L D→wpList P ops Q rest a w):wpList P ops Q (o :: rest) a w:=by
 have he:=S.frm.eval hx
 exact sVal S hw hd hn (by simp only [execOp,ho,he,Sem.run_bind,hq w,Result.andThen_ok,Sem.run_pure]) S.mem K
theorem sLoadV1 {t:TypeId} {q:Operand} {vq:Value} (i:Nat) (v:Value) (S:St dq E M w0 n a w F L D)
 (hw:∀ a,Frm dq n a F→Region.wanted o (yielded ops a.tmps)=true) (ho:o.op=.load t q) (hq:lookO F q=some vq) (hD:D[i]?=some (fHold vq [v])) (ht:aggB P t=some false) (hd:o.dst=some d) (hn:d < n)
 (k:∀ a,St dq E M w0 n a w ((d,v) :: F) L D→wpList P ops Q rest a w):wpList P ops Q (o :: rest) a w:=by
 obtain ⟨b,off,rfl,h1,h2,h3⟩:=S.mem.know hD
 have he:=S.frm.eval hq
 have hc:w.cell? ⟨b,off,none⟩=some v:=h3 0 v rfl
 exact sVal S hw hd hn (by simp [execOp,ho,he,Instr.loadAt,Instr.sureAddr,loadVar,run_isAgg ht,hc]) S.mem k
theorem sLoadVN {t:TypeId} {q:Operand} {vq:Value} (i:Nat) (cs:List Value) (S:St dq E M w0 n a w F L D)
 (hw:∀ a,Frm dq n a F→Region.wanted o (yielded ops a.tmps)=true) (ho:o.op=.load t q) (hq:lookO F q=some vq) (hD:D[i]?=some (fHold vq cs)) (ht:aggB P t=some true) (hm:cellsB P t=some cs.length) (hd:o.dst=some d) (hn:d < n)
 (k:∀ a,St dq E M w0 n a w ((d,.agg cs.toArray) :: F) L D→wpList P ops Q rest a w):wpList P ops Q (o :: rest) a w:=by
 obtain ⟨b,off,rfl,h1,h2,h3⟩:=S.mem.know hD
 have he:=S.frm.eval hq
 exact sVal S hw hd hn (by simp [execOp,ho,he,Instr.loadAt,Instr.sureAddr,run_loadVar_agg cs ht hm w h3]) S.mem k
theorem sLoadR {α:Type} {r:R α} {T:TypeId} {xs:List α} {x:α} {t:TypeId} {q:Operand} {v vq:Value} {j:Int} (i:Nat) (u:Value) (S:St dq E M w0 n a w F L D) (hp:OwnP r.sz v vq j.toNat)
 (hw:∀ a,Frm dq n a F→Region.wanted o (yielded ops a.tmps)=true) (ho:o.op=.load t q) (hq:lookO F q=some vq) (hL:L[i]?=some (eRow r T v xs)) (hx:idxO xs j=some x) (hu:∀ E w v,r.rep E w v x→v=u) (hr:Scal r) (ht:aggB P t=some false) (hd:o.dst=some d) (hn:d < n)
 (k:∀ a,St dq E M w0 n a w ((d,u) :: F) L D→wpList P ops Q rest a w):wpList P ops Q (o :: rest) a w:=by
 obtain ⟨h0,h1,h2⟩:=idxO_some hx
 obtain ⟨g,c,u',rfl,hrep,hcell⟩:=row_at (S.mem.at hL) h2
 obtain rfl:=hu _ _ _ hrep
 obtain ⟨g',m',c',e1,rfl⟩:=hp
 cases e1
 have he:=S.frm.eval hq
 have hc:w.cell? ⟨g,j.toNat * r.sz,none⟩=some u':=hcell 0 u' (by rw [hr _ _ _ _ hrep]; rfl)
 exact sVal S hw hd hn (by simp [execOp,ho,he,Instr.loadAt,Instr.sureAddr,loadVar,run_isAgg ht,hc]) S.mem k
theorem sMin2 {ts:Array TypeId} {x y:Operand} {p q:Int} (S:St dq E M w0 n a w F L D)
 (hw:∀ a,Frm dq n a F→Region.wanted o (yielded ops a.tmps)=true) (ho:o.op=.call { callee:=.builtin .min,args:=#[x,y],argTypes:=ts }) (hx:lookO F x=some (.int .i64 p)) (hy:lookO F y=some (.int .i64 q)) (hd:o.dst=some d) (hn:d < n)
 (k:∀ a,St dq E M w0 n a w ((d,.int .i64 (if q < p then q else p)) :: F) L D→wpList P ops Q rest a w):wpList P ops Q (o :: rest) a w:=by
 have hex:=S.frm.eval hx
 have hey:=S.frm.eval hy
 exact sVal S hw hd hn (by simp [execOp,ho,hex,hey,resolve,invoke,builtin,Builtin.min_,Builtin.min2]) S.mem k
theorem sMax2 {ts:Array TypeId} {x y:Operand} {p q:Int} (S:St dq E M w0 n a w F L D)
 (hw:∀ a,Frm dq n a F→Region.wanted o (yielded ops a.tmps)=true) (ho:o.op=.call { callee:=.builtin .max,args:=#[x,y],argTypes:=ts }) (hx:lookO F x=some (.int .i64 p)) (hy:lookO F y=some (.int .i64 q)) (hd:o.dst=some d) (hn:d < n)
 (k:∀ a,St dq E M w0 n a w ((d,.int .i64 (if p < q then q else p)) :: F) L D→wpList P ops Q rest a w):wpList P ops Q (o :: rest) a w:=by
 have hex:=S.frm.eval hx
 have hey:=S.frm.eval hy
 exact sVal S hw hd hn (by simp [execOp,ho,hex,hey,resolve,invoke,builtin,Builtin.max_,Builtin.max2]) S.mem k
theorem xThen {K:Act→World→Prop} {i:Nat} (h:Q (.exit i) a w):Exit.then K Q (.exit i) a w:=h
theorem xHit {i:Nat} (h:Q .normal a w):Exit.inBlock i Q (.exit i) a w:=by simp only [Exit.inBlock,if_true]; exact h
theorem leafL (h:Q .normal a w):wpList P ops Q [] a w:=h
theorem leafT {K:Act→World→Prop} (h:K a w):Exit.then K Q .normal a w:=h
theorem leafB {i:Nat} (h:Q .normal a w):Exit.inBlock i Q .normal a w:=h
theorem rThen {K:Act→World→Prop} (h:Q .ret a w):Exit.then K Q .ret a w:=h
theorem rBlock {i:Nat} (h:Q .ret a w):Exit.inBlock i Q .ret a w:=h
theorem rL_nil {α:Type} (r:R α) (E:Nat→Prop) (w:World):(rL r).rep E w (.slice none 0 0) ([]:List α):=
 ⟨none,0,[],rfl,Nat.le_refl _,by simp,All.nil _ _ _,fun k u hu=>by simp [flat] at hu⟩
end
section
variable {P : Program} {dq : List Deferred} {E : Nat → Prop} {M : List Nat} {w0 : World} {n : Nat} {a : Act} {w : World} {F : List (Nat × Value)} {L : List Ent} {D : List Fact} {Q : Exit → Act → World → Prop}
variable {ops : Array Oper} {rest : List Oper} {o : Oper} {d : Nat}
theorem bSubK (t u:TypeId) (p q:Operand) (k:IntKind) (x y:Int):∀ w,(eqGuard .sub t p q (.int k x) (.int k y)).run P w=.ok () w∧(binOp .sub u (.int k x) (.int k y)).run P w=.ok (.int k (k.wrap (x - y))) w:=fun w=>⟨rfl,by simp [binOp,Op.intArith]⟩
theorem sIndexA {α:Type} {t e:TypeId} {x ix:Operand} {xs:List α} {g:α→Value} {k:IntKind} {j:Int} {y:α} (m:Nat) (cs:List Value) (S:St dq E M w0 n a w F L D)
 (hw:∀ a,Frm dq n a F→Region.wanted o (yielded ops a.tmps)=true) (ho:o.op=.index t x ix) (ht:P.underlying t=some (.array m e)) (he:aggB P e=some false) (hs:cellsB P e=some 1) (hx:lookO F x=some (.agg cs.toArray)) (hj:lookO F ix=some (.int k j))
 (hcs:cs=xs.map g) (hm:xs.length=m) (hy:idxO xs j=some y) (hd:o.dst=some d) (hn:d < n)
 (K:∀ a,St dq E M w0 n a w ((d,g y) :: F) L D→wpList P ops Q rest a w):wpList P ops Q (o :: rest) a w:=by
 have h1:=S.frm.eval hx
 have h2:=S.frm.eval hj
 obtain ⟨h0,hlt,hget⟩:=idxO_some hy
 subst hm
 have hlt2:j < (xs.length:Int):=by omega
 have hc:cs[j.toNat]?=some (g y):=by rw [hcs,List.getElem?_map,hget]; rfl
 refine sVal S hw hd hn ?_ S.mem K
 simp [execOp,ho,h1,h2,Instr.index,run_underlying ht,asIntOf,h0,hlt2,part,run_isAgg he,run_sizeOf' hs,hc]
def EqlV (P:Program) (t:TypeId) (x y:Value) (b:Bool):Prop:=∀ w,(Op.equal t x y).run P w=.ok b w
def partP (P:Program) (t:TypeId) (cs:Array Value) (off:Nat):Option Value:=match aggB P t with
 | some true=>(P.info? t).map fun i=>.agg (cs.extract off (off + i.size))
 | some false=>cs[off]?
 | none=>none
theorem run_partP {t:TypeId} {cs:Array Value} {off:Nat} {v:Value} (h:partP P t cs off=some v) (w:World):(part t cs off).run P w=.ok v w:=by
 unfold partP at h
 split at h
 ·rename_i hg
  cases hi:P.info? t with
  | none=>simp [hi] at h
  | some i=>
   simp only [hi,Option.map_some,Option.some.injEq] at h
   subst h
   simp [part,run_isAgg hg,sizeOf,typeInfo,hi]
 ·rename_i hg
  simp [part,run_isAgg hg,h]
 ·cases h
def eqP (P:Program):Nat→TypeId→Value→Value→Option Bool
 | 0,_,_,_=>none
 | d + 1,t,x,y=>match P.underlying t,x,y with
  | some (.int _),.int k a,.int k' b=>if k=k' then some (a == b) else none
  | some .bool,.bool a,.bool b=>some (a == b)
  | some .string,.string a,.string b=>some (a == b)
  | some (.struct fs),.agg xs,.agg ys=>if P.stoodInHeld t then none else
   fs.toList.foldr (fun f acc => if f.name = "_" then acc else
    match partP P f.type xs f.offset,partP P f.type ys f.offset with
    | some a,some b=>(eqP P d f.type a b).bind fun r=>acc.map (r && ·)
    | _,_=>none) (some true)
  | some (.array n e),.agg xs,.agg ys=>match P.info? e with
   | some _=>(List.range n).foldr (fun j acc=>
    match partP P e xs (j * P.cellsOf e),partP P e ys (j * P.cellsOf e) with
    | some a,some b=>(eqP P d e a b).bind fun r=>acc.map (r && ·)
    | _,_=>none) (some true)
   | none=>none
  | _,_,_=>none
theorem run_eqP:∀ (d:Nat) (t:TypeId) (x y:Value) (b:Bool),eqP P d t x y=some b→∀ m w,d ≤ m→(Op.equalIn m t x y).run P w=.ok b w:=by
 intro d
 induction d with
 | zero=>intro t x y b h; simp [eqP] at h
 | succ d ih=>
  intro t x y b h m w hm
  obtain ⟨m,rfl⟩:∃ k,m=k + 1:=⟨m - 1,by omega⟩
  unfold eqP at h
  split at h
  ·rename_i hu
   split at h
   ·rename_i hk; subst hk; cases h; simp [Op.equalIn,run_underlying hu]
   ·cases h
  ·rename_i hu; cases h; simp [Op.equalIn,run_underlying hu]
  ·rename_i hu; cases h; simp [Op.equalIn,run_underlying hu]
  ·rename_i fs xs ys hu
   split at h
   ·cases h
   ·rename_i hp
    have hf:P.fieldsOf t=fs:=by simp [Program.fieldsOf,hu]
    rw [run_equalIn_struct w m t xs ys (by rw [hf]; exact hu) (by simpa using hp),hf]
    generalize fs.toList=l at h
    clear hf hu
    induction l generalizing b with
    | nil=>simp at h; subst h; simp [Op.eqFields]
    | cons f l ihl=>
     simp only [List.foldr_cons] at h
     split at h
     ·rename_i hn
      simp only [Op.eqFields,hn,ne_eq,not_true_eq_false,if_false]
      exact ihl _ h
     ·rename_i hn
      split at h
      ·rename_i va vb ha hb
       cases he:eqP P d f.type va vb with
       | none=>simp [he] at h
       | some r=>
        rw [he] at h
        simp only [Option.bind_some,Option.map_eq_some_iff] at h
        obtain ⟨b',h1,rfl⟩:=h
        have h2:=ihl _ h1
        have h3:=ih f.type va vb r he m w (by omega)
        simp only [Op.eqFields,ne_eq,hn,not_false_eq_true,if_true,Sem.run_bind,run_partP ha,run_partP hb,Result.andThen_ok,h3]
        cases r
        ·simp
        ·simpa using h2
      ·cases h
  ·rename_i n e xs ys hu
   split at h
   ·rename_i i hi
    rw [run_equalIn_array (w:=w) m xs ys hu hi]
    generalize List.range n=l at h
    induction l generalizing b with
    | nil=>simp at h; subst h; simp [Op.eqItems]
    | cons j l ihl=>
     simp only [List.foldr_cons] at h
     split at h
     ·rename_i va vb ha hb
      cases he:eqP P d e va vb with
      | none=>simp [he] at h
      | some r=>
       rw [he] at h
       simp only [Option.bind_some,Option.map_eq_some_iff] at h
       obtain ⟨b',h1,rfl⟩:=h
       have h2:=ihl _ h1
       have h3:=ih e va vb r he m w (by omega)
       simp only [Op.eqItems,Sem.run_bind,run_partP ha,run_partP hb,Result.andThen_ok,h3]
       cases r
       ·simp
       ·simpa using h2
     ·cases h
   ·cases h
  ·cases h
theorem eqlV_of {t:TypeId} {x y:Value} {b:Bool} (h:eqP P 10 t x y=some b):EqlV P t x y b:=fun w=>run_eqP 10 t x y b h 10000 w (by omega)
theorem bNeV (t u:TypeId) (p q:Operand) (cs ds:Array Value) (b:Bool) (hg:P.eqGuardType P.depth t=false) (h:EqlV P u (.agg cs) (.agg ds) b):∀ w,(eqGuard .neq t p q (.agg cs) (.agg ds)).run P w=.ok () w∧(binOp .neq u (.agg cs) (.agg ds)).run P w=.ok (.bool (!b)) w:=fun w=>⟨by simp [eqGuard,hg],by simp only [binOp,Sem.run_bind,h w,Result.andThen_ok,Sem.run_pure]⟩
theorem idxV_arr {t e:TypeId} {m sz:Nat} {b:Nat} {j:Int} (ht:P.underlying t=some (.array m e)) (hs:cellsB P e=some sz) (h0:0 ≤ j) (h1:j < (m:Int)) (off:Nat):IdxV P t (.pointer (some ⟨b,off,none⟩)) j (.pointer (some ⟨b,off + j.toNat * sz,none⟩)):=fun k w=>by
 simp [Instr.indexAt,run_underlying ht,asIntOf,h0,h1,run_sizeOf' hs,add_addr,Instr.sureAddr]
end
section
variable {P : Program} {dq : List Deferred} {E : Nat → Prop} {M : List Nat} {w0 : World} {n : Nat} {a : Act} {w : World} {F : List (Nat × Value)} {L : List Ent} {D : List Fact} {Q : Exit → Act → World → Prop}
variable {ops : Array Oper} {rest : List Oper} {o : Oper} {d : Nat}
theorem St0.shutB {α:Type} {r:R α} {T:TypeId} {b:Nat} {cs:List Value} (i:Nat) (v:Value) (x:α) (S:St0 E M w0 w L D) (hi:L[i]?=some (eBox b T cs)) (hv:v.cells.toList=cs) (hr:r.rep (tot E L) w v x):St0 E M w0 w (L.eraseIdx i) (fPtr r (.pointer (some ⟨b,0,none⟩)) x :: D):=by
 have hperm:=erase_perm hi
 have hn:=keysL_perm hperm S.nodup
 have S1:=S.sub (L':=L.eraseIdx i) (D':=D) (fun e he=>List.mem_of_mem_eraseIdx he) (nodup_sub (List.eraseIdx_sublist _ _) S.nodup) (fun _ h=>h)
 have hb:w.heap[b]?=some (.cells cs.toArray T (0,0)):=S.at hi
 have hext:Ext (tot E L) (tot E (L.eraseIdx i)) w w:=⟨Nat.le_refl _,fun _ _ _ _=>rfl,fun b _ h=>h.imp id (fun h=>by
  obtain ⟨e,h1,h2⟩:=keysL_mem.1 h
  exact keysL_mem.2 ⟨e,List.mem_of_mem_eraseIdx h1,h2⟩)⟩
 have hmem:b ∈ (eBox b T cs).keys:=by simp [eBox]
 refine S1.learn (fPtr r (.pointer (some ⟨b,0,none⟩)) x) ⟨b,0,v,rfl,fun h=>?_,(Array.getElem?_eq_some_iff.1 hb).1,r.mono hext hr,fun j u hu=>?_⟩
 ·rcases h with h | h
  ·exact (S.key b (keysL_mem.2 ⟨_,List.mem_of_getElem? hi,hmem⟩)).2 h
  ·simp only [keysL,List.map_cons,List.flatten_cons,List.nodup_append] at hn
   exact hn.2.2 b hmem b h rfl
 ·rw [hv] at hu
  simp [World.cell?,hb,hu]
theorem sFunc {g:FuncId} {caps:List Operand} {vs:List Value} (S:St dq E M w0 n a w F L D)
 (hw:∀ a,Frm dq n a F→Region.wanted o (yielded ops a.tmps)=true) (ho:o.op=.makeFunc (.func g) #[] caps.toArray) (hvs:caps.map (lookO F)=vs.map some) (hd:o.dst=some d) (hn:d < n)
 (k:∀ a,St dq E M w0 n a w ((d,.func (.func g) #[] vs.toArray) :: F) L D→wpList P ops Q rest a w):wpList P ops Q (o :: rest) a w:=by
 have hev:=lookO_map S.frm hvs
 subst hev
 exact sVal S hw hd hn (by simp [execOp,ho,Instr.makeFunc]) S.mem k
theorem wp_callV {g:FuncId} {fo:Operand} {args:List Operand} {ts:Array TypeId} {vs caps:List Value} {X:Type} {E':Nat→Prop} {M':List Nat} {val:X→Value} {B':X→List Ent} {D':X→List Fact} {K:Act→World→Prop} (ho:o.op=.call { callee:=.value fo,args:=args.toArray,argTypes:=ts })
 (hf:a.eval fo=.func (.func g) #[] caps.toArray) (hcallee:∀ vs w,(callFunc g vs).run P w=.ok (.enter g vs) w) (hvs:args.map a.eval=vs) (hc:Calls P g (vs ++ caps).toArray w (Ret E' M' w val B' D')) (k:∀ x w',St0 E' M' w w' (B' x) (D' x)→K (a.put o.dst (val x)) w'):o.wp P a w K Q:=by
 subst hvs
 unfold Oper.wp
 have hrun:(execOp a.eval o).run P w=.ok (.enter g (args.map a.eval ++ caps).toArray) w:=by
  unfold execOp
  simp only [ho,resolve,hf,Deferred.ofValue,Sem.run_bind,Sem.run_pure,Result.andThen_ok,invoke]
  simp [hcallee]
 rw [hrun]
 exact hc.mono fun e w' hr=>by
  obtain ⟨x,rfl,hs⟩:=hr
  exact k x w' hs
theorem sCallVQ {X:Type} {g:FuncId} {fo:Operand} {args:List Operand} {ts:Array TypeId} {vs caps:List Value} {val:X→Value} {Dc:List Fact} (S:St dq E M w0 n a w F L D)
 (hw:∀ a,Frm dq n a F→Region.wanted o (yielded ops a.tmps)=true) (ho:o.op=.call { callee:=.value fo,args:=args.toArray,argTypes:=ts }) (hf:lookO F fo=some (.func (.func g) #[] caps.toArray))
 (hcallee:∀ vs w,(callFunc g vs).run P w=.ok (.enter g vs) w) (hvs:args.map (lookO F)=vs.map some) (hpre:∃ E1,St0 E1 [] w w [] Dc)
 (hc:∀ (E':Nat→Prop) w,St0 E' [] w w [] Dc→Calls P g (vs ++ caps).toArray w (Ret E' [] w val (fun _=>[]) (fun _=>[]))) (hd:o.dst=some d) (hn:d < n)
 (k:∀ x a w',St dq E M w0 n a w' ((d,val x) :: F) L D→wpList P ops Q rest a w'):wpList P ops Q (o :: rest) a w:=by
 refine wpList_step fun K hK=>?_
 rw [if_pos (hw a S.frm)]
 obtain ⟨E1,h1⟩:=hpre
 refine wp_callV ho (S.frm.eval hf) hcallee (lookO_map S.frm hvs) (hc _ w h1) fun x w' hs=>?_
 rw [hd]
 exact hK _ _ (k x _ w' ⟨S.frm.put hn _,S.mem.calm hs.chg⟩)
theorem St.shutB {α:Type} {r:R α} {T:TypeId} {b:Nat} {cs:List Value} (i:Nat) (v:Value) (x:α) (S:St dq E M w0 n a w F L D) (hi:L[i]?=some (eBox b T cs)) (hv:v.cells.toList=cs) (hr:r.rep (tot E L) w v x):St dq E M w0 n a w F (L.eraseIdx i) (fPtr r (.pointer (some ⟨b,0,none⟩)) x :: D):=⟨S.frm,S.mem.shutB i v x hi hv hr⟩
theorem St0.hold {i:Nat} {e:Ent} (S:St0 E M w0 w L D) (h:L[i]?=some e):e.p (tot E L) w:=S.ent e (List.mem_of_getElem? h)
def min3 (p q r:Int):Int:=if r < (if q < p then q else p) then r else (if q < p then q else p)
def max3 (p q r:Int):Int:=if (if p < q then q else p) < r then r else (if p < q then q else p)
theorem sMin3 {ts:Array TypeId} {x y z:Operand} {p q r:Int} (S:St dq E M w0 n a w F L D)
 (hw:∀ a,Frm dq n a F→Region.wanted o (yielded ops a.tmps)=true) (ho:o.op=.call { callee:=.builtin .min,args:=#[x,y,z],argTypes:=ts }) (hx:lookO F x=some (.int .i64 p)) (hy:lookO F y=some (.int .i64 q)) (hz:lookO F z=some (.int .i64 r)) (hd:o.dst=some d) (hn:d < n)
 (k:∀ a,St dq E M w0 n a w ((d,.int .i64 (min3 p q r)) :: F) L D→wpList P ops Q rest a w):wpList P ops Q (o :: rest) a w:=by
 have hex:=S.frm.eval hx
 have hey:=S.frm.eval hy
 have hez:=S.frm.eval hz
 exact sVal S hw hd hn (by simp [execOp,ho,hex,hey,hez,resolve,invoke,builtin,Builtin.min_,Builtin.min2,min3]) S.mem k
theorem sMax3 {ts:Array TypeId} {x y z:Operand} {p q r:Int} (S:St dq E M w0 n a w F L D)
 (hw:∀ a,Frm dq n a F→Region.wanted o (yielded ops a.tmps)=true) (ho:o.op=.call { callee:=.builtin .max,args:=#[x,y,z],argTypes:=ts }) (hx:lookO F x=some (.int .i64 p)) (hy:lookO F y=some (.int .i64 q)) (hz:lookO F z=some (.int .i64 r)) (hd:o.dst=some d) (hn:d < n)
 (k:∀ a,St dq E M w0 n a w ((d,.int .i64 (max3 p q r)) :: F) L D→wpList P ops Q rest a w):wpList P ops Q (o :: rest) a w:=by
 have hex:=S.frm.eval hx
 have hey:=S.frm.eval hy
 have hez:=S.frm.eval hz
 exact sVal S hw hd hn (by simp [execOp,ho,hex,hey,hez,resolve,invoke,builtin,Builtin.max_,Builtin.max2,max3]) S.mem k
end
section
variable {P : Program} {dq : List Deferred} {E : Nat → Prop} {M : List Nat} {w0 : World} {n : Nat} {a : Act} {w : World} {F : List (Nat × Value)} {L : List Ent} {D : List Fact} {Q : Exit → Act → World → Prop}
variable {ops : Array Oper} {rest : List Oper} {o : Oper} {d : Nat}
theorem enter_frm {fn:Func} {args:List Value} (m:Nat) (hm:fn.ntmps=m) (ha:args.length ≤ m):Frm [] m { tmps:=args.toArray ++ Array.replicate (fn.ntmps - args.toArray.size) undef,defers:=[] } ((List.range args.length).zip args):=by
 refine ⟨rfl,?_,?_⟩
 ·simp [hm]; omega
 ·intro t v ht
  have key:∀ (l:List Value) (k:Nat),look ((List.range' k l.length).zip l) t=some v→k ≤ t∧l[t - k]?=some v:=by
   intro l
   induction l with
   | nil=>intro k h; simp [look] at h
   | cons u l ih=>
    intro k h
    simp only [List.length_cons,List.range'_succ,List.zip_cons_cons,look] at h
    split at h
    ·rename_i e; subst e; simpa using h
    ·rename_i e
     have:=ih (k + 1) h
     refine ⟨by omega,?_⟩
     rw [show t - k=(t - (k + 1)) + 1 by omega]
     simpa using this.2
  rw [List.range_eq_range'] at ht
  have:=(key args 0 ht).2
  simp at this
  have hlt:t < args.length:=(List.getElem?_eq_some_iff.1 this).1
  rw [Array.getElem?_append_left (by simpa using hlt)]
  simpa using this
theorem sFin {fn:Func} {Rt:Ending→World→Prop} (v:Value) (S:St [] E M w0 n a w F L D) (hr:(results fn a.tmps).run P w=.ok v w) (h:Rt (.returned v) w):∃ v,(results fn a.tmps).run P w=.ok v w∧Rt (.returned v) w:=⟨v,hr,h⟩
end
section
variable {P : Program}
def noDefer (o:Oper):Bool:=match o.op with | .defer _=>false | _=>true
theorem noDefer_of {o:Oper} (h:noDefer o=true):∀ c,o.op ≠ .defer c:=by
 intro c e
 simp [noDefer,e] at h
def zf:Option Nat→Fence
 | none=>Fence.wide
 | some l=>Fence.wide.inRound l
theorem zf_fn (l:Option Nat) (f:FuncId):(zf l).fn f:=by cases l <;> trivial
theorem zf_depth (l:Option Nat):(zf l).depth=none:=by cases l <;> rfl
theorem zf_calls {l:Option Nat} {m:Nat} {f:FuncId} {args:Array Value} {w:World} {R:Ending→World→Prop} (h:Calls P f args w R):CallsIn (zf l) m P f args w R:=by
 cases l with
 | none=>exact callsIn_wide.2 h
 | some l=>exact CallsIn.inRound l (callsIn_wide.2 h)
theorem zf_rows {l:Option Nat} {m:Nat} {row:String} {args:Array Value} {w:World} {R:Value→World→Prop} (h:Rows P row args w R):RowsIn (zf l) m P row args w R:=by
 cases l with
 | none=>exact fun c cs _=>let ⟨v,w',r,s⟩:=h c cs; ⟨v,w',r,stepsIn_wide.2 s⟩
 | some l=>exact fun c cs _=>let ⟨v,w',r,s⟩:=h c cs; ⟨v,w',r,stepsIn_wide.2 s⟩
theorem zf_sem (l:Option Nat) (ρ:Operand→Value) (o:Oper) (h:∀ c,o.op ≠ .defer c):Oper.semAt (zf l).round ρ o=execOp ρ o:=by
 cases l with
 | none=>rfl
 | some l=>exact Oper.semAt_some l ρ o h
theorem op_inR {l:Option Nat} {o:Oper} {a:Act} {w:World} {K:Act→World→Prop} {Q:Exit→Act→World→Prop} (hn:noDefer o=true) (h:o.wp P a w K Q):o.wpIn (zf l) 0 P a w K Q:=by
 refine ⟨fun _ _=>zf_fn _ _,?_⟩
 rw [zf_sem l _ _ (noDefer_of hn)]
 unfold Oper.wp at h
 generalize (execOp a.eval o).run P w=r at h
 cases r with
 | ok x w'=>
  cases x <;> simp only [Oper.upon] at h <;> first
   | exact h
   | exact ⟨fun hd=>by simp [zf_depth] at hd,zf_calls h⟩
   | exact ⟨fun hd=>by simp [zf_depth] at hd,zf_rows h⟩
   | exact h.elim
 | halt x w'=>cases x <;> simp only [Oper.upon] at h <;> first | exact h | exact h.elim
theorem list_inR {l:Option Nat} {ops:Array Oper} {Q:Exit→Act→World→Prop} (hq:¬ LetsOut Q):∀ (rest:List Oper),rest.all noDefer=true→∀ a w,wpList P ops Q rest a w→wpListIn (zf l) 0 P ops Q rest a w:=by
 intro rest
 induction rest with
 | nil=>intro _ a w h; exact h
 | cons o rest ih=>
  intro hn a w h
  simp only [List.all_cons,Bool.and_eq_true] at hn
  unfold wpList at h
  unfold wpListIn
  split at h
  ·rename_i hw
   rw [if_pos hw]
   rcases h with h | ⟨_,h⟩
   ·exact Oper.wpIn_mono (fun a w h=>ih hn.2 a w h) (op_inR hn.1 h)
   ·exact absurd h hq
  ·rename_i hw
   rw [if_neg hw]
   exact ⟨fun _ _=>zf_fn _ _,ih hn.2 _ _ h⟩
end
section
variable {P : Program} {dq : List Deferred} {E : Nat → Prop} {M : List Nat} {w0 : World} {n : Nat} {a : Act} {w : World} {F : List (Nat × Value)} {L : List Ent} {D : List Fact} {Q : Exit → Act → World → Prop} {l : Option Nat}
theorem sSeqR {x y:Code} (h:∀ K:Act→World→Prop,(∀ a w,y.wpIn (zf l) 0 P Q a w→K a w)→x.wpIn (zf l) 0 P (Exit.then K Q) a w):(Code.seq x y).wpIn (zf l) 0 P Q a w:=wpIn_seq_k h
theorem sCutR {x y:Code} (I:Act→World→Prop) (h1:x.wpIn (zf l) 0 P (Exit.then I Q) a w) (h2:∀ a w,I a w→y.wpIn (zf l) 0 P Q a w):(Code.seq x y).wpIn (zf l) 0 P Q a w:=
 wpIn_seq (wpIn_mono h1 fun e a w hq=>by
  cases e with
  | normal=>exact h2 _ _ hq
  | exit _=>exact hq
  | goto _=>exact hq
  | ret=>exact hq
  | panic _=>exact hq
  | outgrown=>exact hq)
theorem sRegionR {id:Nat} {ops:List Oper} (hq:¬ LetsOut Q) (hn:ops.all noDefer=true) (h:wpList P ops.toArray Q ops a w):(Code.region id ops.toArray false).wpIn (zf l) 0 P Q a w:=wpIn_region_lit (list_inR hq ops hn a w h)
theorem sCondTR {c:Operand} {b:Bool} {x y:Code} (S:St dq E M w0 n a w F L D) (hc:lookO F c=some (.bool b)) (hb:b=true) (h:x.wpIn (zf l) 0 P Q a w):(Code.cond c x y).wpIn (zf l) 0 P Q a w:=
 wpIn_cond_true (by rw [S.frm.eval hc,hb]) h
theorem sCondFR {c:Operand} {b:Bool} {x y:Code} (S:St dq E M w0 n a w F L D) (hc:lookO F c=some (.bool b)) (hb:b=false) (h:y.wpIn (zf l) 0 P Q a w):(Code.cond c x y).wpIn (zf l) 0 P Q a w:=
 wpIn_cond_false (by rw [S.frm.eval hc,hb]) h
def IsC (w:World) (b:Nat):Prop:=∃ cs T m,w.heap[b]?=some (.cells cs T m)
theorem isC_of_cell {w:World} {b:Nat} (h:∃ o u,w.cell? ⟨b,o,none⟩=some u):IsC w b:=by
 obtain ⟨o,u,h⟩:=h
 unfold World.cell? at h
 cases hb:w.heap[b]? with
 | none=>simp [hb] at h
 | some x=>cases x <;> simp [hb] at h <;> exact ⟨_,_,_,hb⟩
theorem St0.kept {w':World} {m:Nat} (S:St0 E M w0 w L D) (hm:w0.heap.size ≤ m) (ho:w'.os=w.os) (ht:w'.tape=w.tape) (hu:w'.output=w.output) (hs:w.heap.size ≤ w'.heap.size)
 (hb:∀ b,b < w.heap.size→(IsC w b ∨ b < m)→w'.heap[b]?=w.heap[b]?) (hL:∀ e,e ∈ L→∀ b,b ∈ e.keys→IsC w b ∨ b < m):St0 E M w0 w' L D:=by
 have hext:Ext (tot E L) (tot E L) w w':=⟨hs,fun b h1 _ h3=>hb b h1 (.inl (isC_of_cell h3)),fun b _ h=>h⟩
 refine ⟨⟨ho.trans S.chg.os,ht.trans S.chg.tape,hu.trans S.chg.output,Nat.le_trans S.chg.size hs,fun k hk hn=>?_⟩,fun e he=>e.mono hext (fun b h=>hb b (S.lt b (keysL_mem.2 ⟨e,he,h⟩)) (hL e he b h)) (S.ent e he),fun d hd=>d.mono hext (S.fact d hd),S.nodup,S.key,S.bnd⟩
 rw [hb k (Nat.lt_of_lt_of_le hk S.chg.size) (.inr (by omega))]
 exact S.chg.block k hk hn
theorem app_inR {ops:List Oper} (hq:¬ LetsOut Q) (i:Nat) (R:Act→World→Prop) (hn:(ops.take i).all noDefer=true) {opsA:Array Oper} (h:wpList P opsA (fun e a w=>e=.normal∧R a w) (ops.take i) a w) (k:∀ a w,R a w→wpListIn (zf l) 0 P opsA Q (ops.drop i) a w):wpListIn (zf l) 0 P opsA Q ops a w:=by
 have key:∀ (A B:List Oper),A.all noDefer=true→∀ a w,wpList P opsA (fun e a w=>e=.normal∧R a w) A a w→(∀ a w,R a w→wpListIn (zf l) 0 P opsA Q B a w)→wpListIn (zf l) 0 P opsA Q (A ++ B) a w:=by
  intro A B
  induction A with
  | nil=>intro _ a w h k; exact k a w h.2
  | cons o A ih=>
   intro hn a w h k
   simp only [List.all_cons,Bool.and_eq_true] at hn
   unfold wpList at h
   rw [List.cons_append]
   unfold wpListIn
   split at h
   ·rename_i hw
    rw [if_pos hw]
    rcases h with h | ⟨_,a',w',h,_⟩
    ·refine op_inR hn.1 (wp_change (fun a w h=>ih hn.2 a w h k) ?_ ?_ h)
     ·rintro c a w ⟨h,_⟩; cases h
     ·rintro ⟨a,w,h,_⟩; cases h
    ·cases h
   ·rename_i hw
    rw [if_neg hw]
    exact ⟨fun _ _=>zf_fn _ _,ih hn.2 _ _ h k⟩
 have:=key (ops.take i) (ops.drop i) hn a w h k
 rwa [List.take_append_drop] at this
end
section
variable {P : Program}
def foldO {σ X τ:Type} (B:σ→X→Option (σ ⊕ τ)):σ→List X→Option (σ ⊕ τ)
 | s,[]=>some (.inl s)
 | s,x :: xs=>(B s x).bind fun r=>match r with | .inl s'=>foldO B s' xs | .inr t=>some (.inr t)
structure Turn (O O':Nat→Prop) (w w':World):Prop where
 os:w'.os=w.os
 tape:w'.tape=w.tape
 output:w'.output=w.output
 size:w.heap.size ≤ w'.heap.size
 same:∀ b,b < w.heap.size→¬ O b→IsC w b→w'.heap[b]?=w.heap[b]?
 excl:∀ b,b < w.heap.size→O' b→O b
theorem Turn.refl (O:Nat→Prop) (w:World):Turn O O w w:=⟨rfl,rfl,rfl,Nat.le_refl _,fun _ _ _ _=>rfl,fun _ _ h=>h⟩
theorem Turn.trans {O O' O'':Nat→Prop} {a b c:World} (h:Turn O O' a b) (k:Turn O' O'' b c):Turn O O'' a c:=by
 refine ⟨k.os.trans h.os,k.tape.trans h.tape,k.output.trans h.output,Nat.le_trans h.size k.size,fun i hi hn hc=>?_,fun i hi ho=>h.excl i hi (k.excl i (Nat.lt_of_lt_of_le hi h.size) ho)⟩
 have e:=h.same i hi hn hc
 have hc2:IsC b i:=by obtain ⟨cs,T,m,h1⟩:=hc; exact ⟨cs,T,m,by rw [e]; exact h1⟩
 rw [k.same i (Nat.lt_of_lt_of_le hi h.size) (fun ho=>hn (h.excl i hi ho)) hc2,e]
theorem Turn.of_chg {K:List Nat} {O O':Nat→Prop} {w w':World} (h:Chg K w w') (hK:∀ b,b ∈ K→O b) (he:∀ b,b < w.heap.size→O' b→O b):Turn O O' w w':=
 ⟨h.os,h.tape,h.output,h.size,fun b hb hn _=>h.block b hb (fun hk=>hn (hK b hk)),he⟩
theorem Turn.putObj {O:Nat→Prop} {w:World} {l:Nat} {o:Obj} (o':Obj) (hl:w.heap[l]?=some o) (ho:o.isCells=false):Turn O O w (w.putObj l o'):=by
 have hg:=grownBy_putObj' w l o'
 refine ⟨hg.os,hg.tape,hg.output,hg.size,fun b hb _ hc=>hg.block b hb (fun e=>?_),fun _ _ h=>h⟩
 obtain ⟨cs,T,m,h1⟩:=hc
 cases e
 rw [hl] at h1
 cases h1
 simp [Obj.isCells] at ho
theorem St0.turn {O O':Nat→Prop} {w w':World} {D:List Fact} (S:St0 O [] w w [] D) (h:Turn O O' w w') (hb:∀ b,O' b→b < w'.heap.size):St0 O' [] w' w' [] D:=by
 have hext:Ext (tot O []) (tot O' []) w w':=by
  refine ⟨h.size,fun b h1 h2 h3=>h.same b h1 (fun ho=>h2 (.inl ho)) (isC_of_cell h3),fun b h1 h2=>?_⟩
  rcases h2 with h2 | h2
  ·exact .inl (h.excl b h1 h2)
  ·simp [keysL] at h2
 exact ⟨Chg.refl _ _,fun e he=>(by cases he),fun d hd=>d.mono hext (S.fact d hd),by simp [keysL],fun b hb=>(by simp [keysL] at hb),hb⟩
end
section
variable {P : Program} {dq : List Deferred} {E : Nat → Prop} {M : List Nat} {w0 : World} {n : Nat} {a : Act} {w : World} {F : List (Nat × Value)} {L : List Ent} {D : List Fact} {Q : Exit → Act → World → Prop} {l : Option Nat}
theorem sYield {ops:Array Oper} {rest:List Oper} {o:Oper} {d:Nat} {y:Nat} {fo:Operand} {args:List Operand} {ts:Array TypeId} {vs:List Value} {T U:World→Prop} (S:St [] E M w0 n a w F L D)
 (hw:∀ a,Frm [] n a F→Region.wanted o (yielded ops a.tmps)=true) (ho:o.op=.call { callee:=.value fo,args:=args.toArray,argTypes:=ts }) (hf:lookO F fo=some (.func (.yield y) #[] #[])) (hvs:args.map (lookO F)=vs.map some) (hd:o.dst=some d) (hn:d < n)
 (hY:YieldAt Fence.wide 0 P y vs.toArray w fun e W'=>(e=.returned (.bool true)∧T W') ∨ (e=.returned (.bool false)∧U W'))
 (kT:∀ a' w',Frm [] n a' ((d,.bool true) :: F)→T w'→wpListIn (zf none) 0 P ops Q rest a' w') (kF:∀ a' w',Frm [] n a' ((d,.bool false) :: F)→U w'→wpListIn (zf none) 0 P ops Q rest a' w'):wpListIn (zf none) 0 P ops Q (o :: rest) a w:=by
 obtain ⟨fn,tmps,assign,body,hy,hR⟩:=hY
 unfold wpListIn
 rw [if_pos (hw a S.frm)]
 refine ⟨fun _ _=>trivial,?_⟩
 have hev:=lookO_map S.frm hvs
 have hrun:(execOp a.eval o).run P w=.ok (.round y fn tmps assign body) w:=by
  unfold execOp
  simp only [ho,resolve,S.frm.eval hf,Deferred.ofValue,Sem.run_bind,Sem.run_pure,Result.andThen_ok,invoke]
  simpa [hev] using hy
 show o.uponIn _ 0 P a _ Q ((execOp a.eval o).run P w)
 rw [hrun,Oper.uponIn_round]
 refine ⟨fun h=>by simp [zf,Fence.wide] at h,hR.mono fun e w' he=>?_⟩
 rcases he with ⟨rfl,h⟩ | ⟨rfl,h⟩
 ·show wpListIn _ _ _ _ _ _ (a.put o.dst _) w'
  rw [hd]
  exact kT _ _ (S.frm.put hn _) h
 ·show wpListIn _ _ _ _ _ _ (a.put o.dst _) w'
  rw [hd]
  exact kF _ _ (S.frm.put hn _) h
end
section
variable {P : Program}
theorem lo_then {K:Act→World→Prop} {Q:Exit→Act→World→Prop} (h:¬ LetsOut Q):¬ LetsOut (Exit.then K Q):=fun ⟨a,w,q⟩=>h ⟨a,w,q⟩
theorem lo_block {id:Nat} {Q:Exit→Act→World→Prop} (h:¬ LetsOut Q):¬ LetsOut (Exit.inBlock id Q):=fun ⟨a,w,q⟩=>h ⟨a,w,q⟩
def fA2 {α β:Type} (r:R α) (q:R β) (x:α × β) (vs:Array Value):Fact:=⟨fun E w=>∃ v u,vs=#[v,u]∧r.rep E w v x.1∧q.rep E w u x.2,fun h ⟨v,u,e,k1,k2⟩=>⟨v,u,e,r.mono h k1,q.mono h k2⟩⟩
def eDef (b:Nat):Ent where
 keys:=[b]
 p:=fun _ w=>w.heap[b]?=some (.deferred (some []))
 mono:=fun _ hs h=>by rw [hs b (by simp)]; exact h
 lt:=fun h k hk=>by
  simp at hk; subst hk
  exact (Array.getElem?_eq_some_iff.1 h).1
def mark (b:Nat):Deferred:={ target:=.collected b,args:=#[] }
def SeqF (P:Program) (gf:Nat) (lb:Array Value) {X:Type} (FX:X→Array Value→Fact) (I:∀ (σ τ:Type),(σ→X→Option (σ ⊕ τ))→σ→Option (σ ⊕ τ)) (Dc:List Fact):Prop:=
 ∀ (σ τ:Type) (B:σ→X→Option (σ ⊕ τ)) (s0:σ) (r:σ ⊕ τ),I σ τ B s0=some r →
 ∀ (l:Nat) (J:σ→(Nat→Prop)→World→Prop) (Jx:τ→World→Prop) (O:Nat→Prop) (W:World),
  (∀ s O A B,J s O A→Chg [] A B→J s O B)→(∀ t A B,Jx t A→Chg [] A B→Jx t B)→(∀ s O A,J s O A→∀ b,O b→b < A.heap.size)→St0 O [] W W [] Dc →
  (∀ s x vs b O W1,B s x=some b→(FX x vs).p O W1→J s O W1→YieldAt Fence.wide 0 P l vs W1 fun e W'=>
   (e=.returned (.bool true)∧∃ s' O',b=.inl s'∧J s' O' W'∧Turn O O' W1 W') ∨ (e=.returned (.bool false)∧∃ t,b=.inr t∧Jx t W')) →
  J s0 O W→CallsIn Fence.wide 1 P gf (#[.func (.yield l) #[] #[]] ++ lb) W fun e W'=>(∃ v,e=.returned v)∧((∃ s O',r=.inl s∧J s O' W') ∨ ∃ t,r=.inr t∧Jx t W')
theorem St0.putL {E:Nat→Prop} {M:List Nat} {w0 w:World} {L:List Ent} {D:List Fact} (S:St0 E M w0 w L D) {l:Nat} {o:Obj} (o':Obj) (hl:w.heap[l]?=some o) (ho:o.isCells=false) (hm:w0.heap.size ≤ l) (hk:l ∉ keysL L):St0 E M w0 (w.putObj l o') L D:=by
 have hg:=grownBy_putObj' w l o'
 have hsame:∀ b,b < w.heap.size→b ≠ l→(w.putObj l o').heap[b]?=w.heap[b]?:=fun b hb hn=>hg.block b hb (fun e=>hn (by cases e; rfl))
 have hext:Ext (tot E L) (tot E L) w (w.putObj l o'):=by
  refine ⟨hg.size,fun b h1 _ h3=>hsame b h1 (fun e=>?_),fun b _ h=>h⟩
  subst e
  obtain ⟨cs,T,m,h1⟩:=isC_of_cell h3
  rw [hl] at h1
  cases h1
  simp [Obj.isCells] at ho
 refine ⟨S.chg.trans (K':=[l]) (Chg.grown hg (fun k e=>by cases e; simp)) (fun j hj=>?_),fun e he=>e.mono hext (fun b h=>hsame b (S.lt b (keysL_mem.2 ⟨e,he,h⟩)) (fun e'=>hk (e' ▸ keysL_mem.2 ⟨e,he,h⟩))) (S.ent e he),fun d hd=>d.mono hext (S.fact d hd),S.nodup,S.key,S.bnd⟩
 simp at hj
 subst hj
 exact .inr hm
def roundU {σ τ:Type} (E:Nat→Prop) (n:Nat) (IL:σ→List Ent→List Fact→Prop) (IX:τ→Code→List Ent→List Fact→Prop) (b:σ ⊕ τ) (K:List Nat) (W:World):Exit→Act→World→Prop
 | .normal,a,W'=>∃ s' L' D' F',b=.inl s'∧IL s' L' D'∧St [] E K W n a W' F' L' D'
 | .ret,a,W'=>∃ t L' D' F',b=.inr t∧IX t .ret L' D'∧St [] E K W n a W' F' L' D'
 | .exit id,a,W'=>∃ t L' D' F',b=.inr t∧IX t (.exit id) L' D'∧St [] E K W n a W' F' L' D'
 | _,_,_=>False
theorem roundU_out {σ τ:Type} {E:Nat→Prop} {n:Nat} {IL:σ→List Ent→List Fact→Prop} {IX:τ→Code→List Ent→List Fact→Prop} {b:σ ⊕ τ} {K:List Nat} {W:World}:¬ LetsOut (roundU E n IL IX b K W):=fun ⟨_,_,h⟩=>h
def roundK {σ τ:Type} (P:Program) (l:Nat) (body:Code) (E:Nat→Prop) (n:Nat) (IL:σ→List Ent→List Fact→Prop) (IX:τ→Code→List Ent→List Fact→Prop) (b:σ ⊕ τ) (K:List Nat) (W:World) (a:Act) (W':World):Prop:=
 ∃ La Da Fa,St [] E K W n a W' Fa La Da∧∀ K' a Wb,K'=keysL La→St [] E K' Wb n a Wb Fa La Da→body.wpIn (zf (some l)) 0 P (roundU E n IL IX b K' Wb) a Wb
theorem sRange {σ τ X:Type} {g:Operand} {ps:Array Tmp} {assign body:Code} {Q:Exit→Act→World→Prop} {dq:List Deferred} {E:Nat→Prop} {M:List Nat} {w0 w:World} {n:Nat} {a:Act} {F:List (Nat × Value)} {L:List Ent} {D:List Fact} {gf:Nat} {lb:List Value}
 {FX:X→Array Value→Fact} {I:∀ (σ τ:Type),(σ→X→Option (σ ⊕ τ))→σ→Option (σ ⊕ τ)} {Dc:List Fact} {B:σ→X→Option (σ ⊕ τ)} {s0:σ} {r:σ ⊕ τ}
 (IL:σ→List Ent→List Fact→Prop) (IX:τ→Code→List Ent→List Fact→Prop) (js:List Nat) (S:St dq E M w0 n a w F L D) (h:I σ τ B s0=some r) (hg:lookO F g=some (.func (.func gf) #[] lb.toArray)) (eg:∀ args w,(callFunc gf args).run P w=.ok (.enter gf args) w)
 (hseq:SeqF P gf lb.toArray FX I Dc) (hDc:js.map (fun i=>D[i]?)=Dc.map some) (hps:∀ x vs E w,(FX x vs).p E w→vs.size=ps.size) (h0:IL s0 L D)
 (hround:∀ (E:Nat→Prop) (l:Nat) (s:σ) (x:X) (vs:Array Value) (b:σ ⊕ τ) (L:List Ent) (D:List Fact) (K:List Nat) (W:World),K=keysL L→IL s L D→B s x=some b→St0 E K W W L (FX x vs :: D) →
  assign.wpIn (zf (some l)) 0 P (Exit.then (roundK P l body E n IL IX b K W) (fun _ _ _=>False)) { tmps:=(ps.zip vs).foldl (fun t (p,v)=>t.setIfInBounds p v) a.tmps,defers:=[] } W)
 (hdone:∀ (Dk:Nat) (s:σ) (L:List Ent) (D:List Fact) (a:Act) (W:World),r=.inl s→IL s L D→St (mark Dk :: dq) E M w0 n a W F (L ++ [eDef Dk]) D→Q .normal a W)
 (hstop:∀ (Dk:Nat) (c:Code) (t:τ) (L:List Ent) (D:List Fact) (a:Act) (W:World),r=.inr t→IX t c L D→St (mark Dk :: dq) E M w0 n a W F (L ++ [eDef Dk]) D→c.wp P Q a W) :
 (Code.rangeFunc g ps assign body).wp P Q a w:=by
 refine (wpIn_wide (n:=2)).1 (wpIn_rangeFunc fun fn hfn=>?_)
 let rc:LoopState→Option Code→Loop:=fun st pe=>{ state:=st,pending:=pe,fn,tmps:=a.tmps,params:=ps,assign,body,defers:=w.heap.size }
 obtain ⟨W1,hW1⟩:∃ W1,(w.alloc (.deferred (some []))).alloc (.loop (rc .ready none))=W1:=⟨_,rfl⟩
 obtain ⟨Dk,hDk⟩:∃ Dk,w.heap.size=Dk:=⟨_,rfl⟩
 have hL1:W1.heap[Dk + 1]?=some (.loop (rc .ready none)):=by
  have:=World.alloc_heap_new (w.alloc (.deferred (some []))) (.loop (rc .ready none))
  rw [World.size_alloc,hW1,hDk] at this
  exact this
 have hK1:W1.heap[Dk]?=some (.deferred (some [])):=by
  have:=World.alloc_heap_new w (.deferred (some []))
  rw [← hW1,← hDk]
  exact (Below.heap_alloc _ _ _ (by simp)).trans this
 have hz1:Dk + 2=W1.heap.size:=by rw [← hW1,← hDk]; simp
 have hc1:Chg [] w W1:=by
  rw [← hW1]
  exact (Chg.alloc [] w _).trans (Chg.alloc [] _ _) (fun j hj=>by cases hj)
 have hw0:w0.heap.size ≤ Dk:=hDk ▸ S.mem.chg.size
 -- the deferred block is owned from here on
 have hS1:St0 E M w0 W1 (L ++ [eDef Dk]) D:=by
  have hT:∀ b,b < w.heap.size→tot E (L ++ [eDef Dk]) b→tot E L b:=by
   intro b hb h
   rcases h with h | h
   ·exact .inl h
   ·rw [keysL_append,List.mem_append] at h
    rcases h with h | h
    ·exact .inr h
    ·simp [keysL,eDef] at h; omega
  have hext:Ext (tot E L) (tot E (L ++ [eDef Dk])) w W1:=⟨hc1.size,fun b hb _ _=>hc1.block b hb (by simp),hT⟩
  refine ⟨S.mem.chg.trans hc1 (fun j hj=>by cases hj),fun e he=>?_,fun d hd=>d.mono hext (S.mem.fact d hd),?_,fun b hb=>?_,S.mem.bnd⟩
  ·rcases List.mem_append.1 he with he | he
   ·exact e.mono hext (fun b hb=>hc1.block b (S.mem.lt b (keysL_mem.2 ⟨e,he,hb⟩)) (by simp)) (S.mem.ent e he)
   ·simp at he; subst he; exact hK1
  ·rw [keysL_append,List.nodup_append]
   refine ⟨S.mem.nodup,by simp [keysL,eDef],fun b hb c hc e=>?_⟩
   have:=S.mem.lt b hb
   simp [keysL,eDef] at hc
   omega
  ·rw [keysL_append,List.mem_append] at hb
   rcases hb with hb | hb
   ·exact S.mem.key b hb
   ·simp [keysL,eDef] at hb
    subst hb
    exact ⟨.inl hw0,fun h=>by have:=S.mem.bnd _ h; omega⟩
 have hDmem:∀ d,d ∈ Dc→d ∈ D:=getList_mem hDc
 have hSeq0:St0 (tot E (L ++ [eDef Dk])) [] W1 W1 [] Dc:=by
  refine ⟨Chg.refl _ _,fun e he=>(by cases he),fun d hd=>?_,by simp [keysL],fun b hb=>(by simp [keysL] at hb),fun b hb=>?_⟩
  ·refine d.mono ?_ (hS1.fact d (hDmem d hd))
   exact ⟨Nat.le_refl _,fun _ _ _ _=>rfl,fun b _ h=>by
    rcases h with h | h
    ·exact h
    ·simp [keysL] at h⟩
  ·rcases hb with hb | hb
   ·exact Nat.lt_of_lt_of_le (hS1.bnd b hb) hS1.chg.size
   ·exact hS1.lt b hb
 refine ⟨Dk + 1,[mark Dk],W1,{ target:=.fn (.func gf) lb.toArray,args:=#[.func (.yield (Dk + 1)) #[] #[]] },W1,gf,#[.func (.yield (Dk + 1)) #[] #[]] ++ lb.toArray,W1,?_,?_,?_,?_,fun h=>by simp [Fence.wide] at h,?_⟩
 ·rw [← hW1,← hDk]; exact run_enterLoop_outer _ _ _ _ _
 ·simp only [resolve,S.frm.eval hg]
  simp [go_sem]
 ·intro f' _; trivial
 ·simp [invoke,go_sem,eg]
 have keep:∀ {A B:World} {k:Nat} {o:Obj},Chg [] A B→A.heap[k]?=some o→B.heap[k]?=some o:=
  fun hc hk=>(hc.block _ (Array.getElem?_eq_some_iff.1 hk).1 (by simp)).trans hk
 refine (hseq σ τ B s0 r h (Dk + 1)
  (fun s O W=>(∃ L D,IL s L D∧St0 E M w0 W (L ++ [eDef Dk]) D∧O=tot E (L ++ [eDef Dk])∧Dk + 1 ∉ keysL L)∧W.heap[Dk + 1]?=some (.loop (rc .ready none)))
  (fun t W=>∃ c,(∃ L D,IX t c L D∧St0 E M w0 W (L ++ [eDef Dk]) D∧Dk + 1 ∉ keysL L)∧W.heap[Dk + 1]?=some (.loop (rc .done (some c)))) (tot E (L ++ [eDef Dk])) W1
  ?_ ?_ ?_ hSeq0 ?_ ⟨⟨L,D,h0,hS1,rfl,fun hb=>?_⟩,hL1⟩).mono ?_
 ·rintro s O A B ⟨⟨L,D,h1,h2,h3,h4⟩,h5⟩ hc
  exact ⟨⟨L,D,h1,h2.calm hc,h3,h4⟩,keep hc h5⟩
 ·rintro t A B ⟨c,⟨L,D,h1,h2,h4⟩,h5⟩ hc
  exact ⟨c,⟨L,D,h1,h2.calm hc,h4⟩,keep hc h5⟩
 ·rintro s O A ⟨⟨L,D,h1,h2,rfl,h4⟩,h5⟩ b hb
  rcases hb with hb | hb
  ·exact Nat.lt_of_lt_of_le (h2.bnd b hb) h2.chg.size
  ·exact h2.lt b hb
 ·rintro s x vs b O W hb hfx ⟨⟨L,D,hIL,hS,rfl,hnl⟩,hl⟩
  have hy:=run_yield (P:=P) (args:=vs) hl (hps x vs _ _ hfx)
  have hSx:St0 E M w0 W (L ++ [eDef Dk]) (FX x vs :: D):=hS.learn (FX x vs) hfx
  have hSr:St0 (tot E [eDef Dk]) (keysL L) W W L (FX x vs :: D):=hSx.enter (fun _ h=>h)
  refine ⟨fn,_,assign,body,hy,roundIn_of_wpIn hfn (wpIn_mono (hround _ (Dk + 1) s x vs b L D _ W rfl hIL hb hSr) fun e a' Wa he=>?_)⟩
  cases e with
  | exit id=>exact he.elim
  | goto t=>exact he.elim
  | ret=>exact he.elim
  | panic ch=>exact he.elim
  | outgrown=>exact he.elim
  | normal=>
  obtain ⟨La,Da,Fa,hSa,hbody⟩:=he
  have hlW:Dk + 1 < W.heap.size:=(Array.getElem?_eq_some_iff.1 hl).1
  have hla:Wa.heap[Dk + 1]?=some (.loop (rc .ready none)):=(hSa.mem.chg.block _ hlW hnl).trans hl
  have hnla:Dk + 1 ∉ keysL La:=fun hm=>by
   rcases (hSa.mem.key _ hm).1 with h1 | h1
   ·omega
   ·exact hnl h1
  have hga:St0 E M w0 Wa (La ++ [eDef Dk]) (Da ++ (FX x vs :: D)):=hSx.upd hSa.mem.chg La Da hSa.mem
  refine ⟨_,run_beginRound hla rfl,?_⟩
  obtain ⟨Wb,hWb⟩:∃ Wb,Wa.putObj (Dk + 1) (.loop { rc .ready none with state:=.busy })=Wb:=⟨_,rfl⟩
  have hl2:Wb.heap[Dk + 1]?=some (.loop { rc .ready none with state:=.busy }):=hWb ▸ World.putObj_heap_same (Array.getElem?_eq_some_iff.1 hla).1
  have hnk:Dk + 1 ∉ keysL (La ++ [eDef Dk]):=by
   rw [keysL_append,List.mem_append]
   rintro (h1 | h1)
   ·exact hnla h1
   ·simp [keysL,eDef] at h1
  have hgb:St0 E M w0 Wb (La ++ [eDef Dk]) (Da ++ (FX x vs :: D)):=hWb ▸ hga.putL _ hla rfl (by omega) hnk
  have hSb:St0 (tot E [eDef Dk]) (keysL La) Wb Wb La Da:=hgb.enter (fun _ h=>List.mem_append_left _ h)
  have htot:∀ (A B:World),Chg (keysL L) W A→A=B→(∀ b,b ∈ keysL La→W.heap.size ≤ b ∨ b ∈ keysL L)→Turn (tot E (L ++ [eDef Dk])) (tot E (La ++ [eDef Dk])) W B:=by
   rintro A _ hc rfl hk
   refine Turn.of_chg hc (fun b hb=>.inr (by rw [keysL_append]; exact List.mem_append_left _ hb)) (fun b hb ho=>?_)
   rcases ho with ho | ho
   ·exact .inl ho
   ·rw [keysL_append,List.mem_append] at ho
    rcases ho with ho | ho
    ·rcases hk b ho with h1 | h1
     ·omega
     ·exact .inr (by rw [keysL_append]; exact List.mem_append_left _ h1)
    ·exact .inr (by rw [keysL_append]; exact List.mem_append_right _ ho)
  have hta:Turn (tot E (L ++ [eDef Dk])) (tot E (La ++ [eDef Dk])) W Wa:=htot _ _ hSa.mem.chg rfl (fun b hb=>(hSa.mem.key b hb).1)
  have htb:Turn (tot E (L ++ [eDef Dk])) (tot E (La ++ [eDef Dk])) W Wb:=hta.trans (hWb ▸ Turn.putObj _ hla rfl)
  rw [hWb]
  refine wpIn_mono (hbody _ _ Wb rfl ⟨hSa.frm,hSb⟩) ?_
  have hlb:Dk + 1 < Wb.heap.size:=(Array.getElem?_eq_some_iff.1 hl2).1
  -- the end of a round,whatever way
  have fin:∀ (jump:Option Code) (a3:Act) (W3:World) (F':List (Nat × Value)) (L':List Ent) (D':List Fact),St [] (tot E [eDef Dk]) (keysL La) Wb n a3 W3 F' L' D' →
   ∃ W4,(Instr.endRound (Dk + 1) jump).run P W3=.ok (.bool jump.isNone) W4∧St0 E M w0 W4 (L' ++ [eDef Dk]) D'∧W4.heap[Dk + 1]?=some (.loop (rc (if jump.isNone then .ready else .done) jump))∧Dk + 1 ∉ keysL L'∧Turn (tot E (La ++ [eDef Dk])) (tot E (L' ++ [eDef Dk])) Wb W4:=by
   intro jump a3 W3 F' L' D' S3
   have hl3:W3.heap[Dk + 1]?=some (.loop { rc .ready none with state:=.busy }):=(S3.mem.chg.block _ hlb hnla).trans hl2
   have hn3:Dk + 1 ∉ keysL L':=fun hm=>by
    rcases (S3.mem.key _ hm).1 with h1 | h1
    ·omega
    ·exact hnla h1
   have hn3':Dk + 1 ∉ keysL (L' ++ [eDef Dk]):=by
    rw [keysL_append,List.mem_append]
    rintro (h1 | h1)
    ·exact hn3 h1
    ·simp [keysL,eDef] at h1
   have hg3:St0 E M w0 W3 (L' ++ [eDef Dk]) (D' ++ (Da ++ (FX x vs :: D))):=hgb.upd S3.mem.chg L' D' S3.mem
   have hg3':St0 E M w0 W3 (L' ++ [eDef Dk]) D':=hg3.sub (fun _ h=>h) hg3.nodup (fun _ h=>List.mem_append_left _ h)
   have ht3:Turn (tot E (La ++ [eDef Dk])) (tot E (L' ++ [eDef Dk])) Wb W3:=by
    refine Turn.of_chg S3.mem.chg (fun b hb=>.inr (by rw [keysL_append]; exact List.mem_append_left _ hb)) (fun b hb ho=>?_)
    rcases ho with ho | ho
    ·exact .inl ho
    ·rw [keysL_append,List.mem_append] at ho
     rcases ho with ho | ho
     ·rcases (S3.mem.key b ho).1 with h1 | h1
      ·omega
      ·exact .inr (by rw [keysL_append]; exact List.mem_append_left _ h1)
     ·exact .inr (by rw [keysL_append]; exact List.mem_append_right _ ho)
   exact ⟨_,run_endRound (P:=P) jump hl3,hg3'.putL _ hl3 rfl (by omega) hn3',World.putObj_heap_same (Array.getElem?_eq_some_iff.1 hl3).1,hn3,ht3.trans (Turn.putObj _ hl3 rfl)⟩
  rintro e a3 W3 hp
  cases e with
  | normal=>
   obtain ⟨s',L',D',F',rfl,hi,S3⟩:=hp
   obtain ⟨W4,hr,hS4,hl4,hn4,ht4⟩:=fin none a3 W3 F' L' D' S3
   exact ⟨_,_,hr,.inl ⟨rfl,s',_,rfl,⟨⟨L',D',hi,hS4,rfl,hn4⟩,hl4⟩,htb.trans ht4⟩⟩
  | ret=>
   obtain ⟨t,L',D',F',rfl,hi,S3⟩:=hp
   obtain ⟨W4,hr,hS4,hl4,hn4,ht4⟩:=fin (some .ret) a3 W3 F' L' D' S3
   exact ⟨_,_,hr,.inr ⟨rfl,t,rfl,.ret,⟨L',D',hi,hS4,hn4⟩,hl4⟩⟩
  | exit id=>
   obtain ⟨t,L',D',F',rfl,hi,S3⟩:=hp
   obtain ⟨W4,hr,hS4,hl4,hn4,ht4⟩:=fin (some (.exit id)) a3 W3 F' L' D' S3
   exact ⟨_,_,hr,.inr ⟨rfl,t,rfl,.exit id,⟨L',D',hi,hS4,hn4⟩,hl4⟩⟩
  | goto t=>exact hp.elim
  | panic ch=>exact hp.elim
  | outgrown=>exact hp.elim
 ·have:=S.mem.lt _ hb
  omega
 ·rintro e W2 ⟨⟨v,rfl⟩,(⟨s,O',rfl,⟨L',D',hi,hS,-,hn⟩,hl⟩ | ⟨t,rfl,c,⟨L',D',hi,hS,hn⟩,hl⟩)⟩
  ·refine ⟨none,_,run_endLoop (P:=P) hl (by simp [rc]),hdone Dk s L' D' _ _ rfl hi ⟨⟨by simp [S.frm.defers,mark],S.frm.size,S.frm.get⟩,hS.putL _ hl rfl (by omega) ?_⟩⟩
   rw [keysL_append,List.mem_append]
   rintro (h1 | h1)
   ·exact hn h1
   ·simp [keysL,eDef] at h1
  ·refine ⟨some c,_,run_endLoop (P:=P) hl (by simp [rc]),wpIn_wide.2 (hstop Dk c t L' D' _ _ rfl hi ⟨⟨by simp [S.frm.defers,mark],S.frm.size,S.frm.get⟩,hS.putL _ hl rfl (by omega) ?_⟩)⟩
   rw [keysL_append,List.mem_append]
   rintro (h1 | h1)
   ·exact hn h1
   ·simp [keysL,eDef] at h1
end
section
variable {P : Program}
structure ItC {σ τ X:Type} (P:Program) (l:Nat) (FX:X→Array Value→Fact) (B:σ→X→Option (σ ⊕ τ)) (J:σ→(Nat→Prop)→World→Prop) (Jx:τ→World→Prop):Prop where
 jm:∀ s O A B,J s O A→Chg [] A B→J s O B
 xm:∀ t A B,Jx t A→Chg [] A B→Jx t B
 bd:∀ s O A,J s O A→∀ b,O b→b < A.heap.size
 yl:∀ s x vs b O W1,B s x=some b→(FX x vs).p O W1→J s O W1→YieldAt Fence.wide 0 P l vs W1 fun e W'=>
  (e=.returned (.bool true)∧∃ s' O',b=.inl s'∧J s' O' W'∧Turn O O' W1 W') ∨ (e=.returned (.bool false)∧∃ t,b=.inr t∧Jx t W')
def itR {σ τ:Type} (r:σ ⊕ τ) (J:σ→(Nat→Prop)→World→Prop) (Jx:τ→World→Prop) (e:Ending) (W':World):Prop:=(∃ v,e=.returned v)∧((∃ s O',r=.inl s∧J s O' W') ∨ ∃ t,r=.inr t∧Jx t W')
theorem seqF_of {gf:Nat} {lb:List Value} {X:Type} {FX:X→Array Value→Fact} {I:∀ (σ τ:Type),(σ→X→Option (σ ⊕ τ))→σ→Option (σ ⊕ τ)} {Dc:List Fact}
 (h:∀ (σ τ:Type) (B:σ→X→Option (σ ⊕ τ)) (z:σ) (r:σ ⊕ τ),I σ τ B z=some r→∀ (l:Nat) (J:σ→(Nat→Prop)→World→Prop) (Jx:τ→World→Prop) (E:Nat→Prop) (w0:World),ItC P l FX B J Jx→St0 E [] w0 w0 [] Dc→J z E w0 →
  CallsIn Fence.wide 1 P gf (Value.func (.yield l) #[] #[] :: lb).toArray w0 (itR r J Jx)):SeqF P gf lb.toArray FX I Dc:=
 fun σ τ B z r hI l J Jx E w0 h1 h2 h3 S hy hJ=>by
  have:=h σ τ B z r hI l J Jx E w0 ⟨h1,h2,h3,hy⟩ S hJ
  have e:(#[Value.func (.yield l) #[] #[]] ++ lb.toArray)=(Value.func (.yield l) #[] #[] :: lb).toArray:=by simp
  rw [e]
  exact this
variable {dq : List Deferred} {E : Nat → Prop} {M : List Nat} {w0 : World} {n : Nat} {a : Act} {w : World} {F : List (Nat × Value)} {L : List Ent} {D : List Fact} {Q : Exit → Act → World → Prop}
theorem sEnterI {f:FuncId} {fn:Func} {c:Code} {args:List Value} {Rt:Ending→World→Prop} (m:Nat) (hf:P.funcs[f]?=some fn) (hb:fn.body=some c) (hm:fn.ntmps=m) (ha:args.length ≤ m) (S:St0 E M w0 w L D)
 (h:∀ a,St [] E M w0 m a w ((List.range args.length).zip args) L D→c.wp P (bodyPost P fn Rt) a w):CallsIn Fence.wide 1 P f args.toArray w Rt:=
 callsIn_of_wp hf hb trivial (wpIn_wide.2 (h _ ⟨enter_frm m hm ha,S⟩))
theorem it_out {σ τ:Type} {fn:Func} {r:σ ⊕ τ} {J:σ→(Nat→Prop)→World→Prop} {Jx:τ→World→Prop}:¬ LetsOut (bodyPost P fn (itR r J Jx)):=by
 rintro ⟨a,w,h⟩
 have h':itR r J Jx .outgrown w:=h
 obtain ⟨⟨v,hv⟩,_⟩:=h'
 cases hv
theorem sRegionY {id:Nat} {ops:List Oper} (h:wpListIn (zf none) 0 P ops.toArray Q ops a w):(Code.region id ops.toArray false).wp P Q a w:=(wpIn_wide (n:=0)).1 (wpIn_region_lit h)
theorem sSplitR {ops:List Oper} {opsA:Array Oper} (hq:¬ LetsOut Q) (i:Nat) (hn:(ops.take i).all noDefer=true) (h:∀ K:Act→World→Prop,(∀ a w,wpListIn (zf none) 0 P opsA Q (ops.drop i) a w→K a w)→wpList P opsA (fun e a w=>e=.normal∧K a w) (ops.take i) a w):wpListIn (zf none) 0 P opsA Q ops a w:=
 app_inR hq i (fun a w=>wpListIn (zf none) 0 P opsA Q (ops.drop i) a w) hn (h _ fun _ _ h=>h) fun _ _ h=>h
theorem tot_nil (E:Nat→Prop):tot E []=E:=funext fun b=>propext ⟨fun h=>by
 rcases h with h | h
 ·exact h
 ·simp [keysL] at h,.inl⟩
theorem sYieldI {σ τ X:Type} {FX:X→Array Value→Fact} {B:σ→X→Option (σ ⊕ τ)} {J:σ→(Nat→Prop)→World→Prop} {Jx:τ→World→Prop} {ops:Array Oper} {rest:List Oper} {o:Oper} {d:Nat} {l:Nat} {fo:Operand} {args:List Operand} {ts:Array TypeId} {z:σ} {b:σ ⊕ τ} (x:X) (vs:List Value)
 (S:St [] E [] w0 n a w F [] D) (hC:ItC P l FX B J Jx) (hJ:J z E w0) (hB:B z x=some b) (hfx:(FX x vs.toArray).p (tot E []) w)
 (hw:∀ a,Frm [] n a F→Region.wanted o (yielded ops a.tmps)=true) (ho:o.op=.call { callee:=.value fo,args:=args.toArray,argTypes:=ts }) (hf:lookO F fo=some (.func (.yield l) #[] #[])) (hvs:args.map (lookO F)=vs.map some) (hd:o.dst=some d) (hn:d < n)
 (kT:∀ z' E a w,b=.inl z'→J z' E w→St [] E [] w n a w ((d,.bool true) :: F) [] D→wpListIn (zf none) 0 P ops Q rest a w)
 (kF:∀ t a w,b=.inr t→Jx t w→St [] (fun _=>False) [] w n a w ((d,.bool false) :: F) [] []→wpListIn (zf none) 0 P ops Q rest a w):wpListIn (zf none) 0 P ops Q (o :: rest) a w:=by
 have hfx':(FX x vs.toArray).p E w:=tot_nil E ▸ hfx
 have hJw:=hC.jm _ _ _ _ hJ S.mem.chg
 have S0:St0 E [] w w [] D:=⟨Chg.refl _ _,S.mem.ent,S.mem.fact,S.mem.nodup,fun b hb=>(by simp [keysL] at hb),fun b hb=>Nat.lt_of_lt_of_le (S.mem.bnd b hb) S.mem.chg.size⟩
 refine sYield (T:=fun w'=>∃ s' O',b=.inl s'∧J s' O' w'∧Turn E O' w w') (U:=fun w'=>∃ t,b=.inr t∧Jx t w') S hw ho hf hvs hd hn (hC.yl _ _ _ _ _ _ hB hfx' hJw) ?_ ?_
 ·rintro a' w' hfr ⟨s',O',hb,hj,ht⟩
  exact kT s' O' a' w' hb hj ⟨hfr,S0.turn ht (hC.bd _ _ _ hj)⟩
 ·rintro a' w' hfr ⟨t,hb,hj⟩
  exact kF t a' w' hb hj ⟨hfr,⟨Chg.refl _ _,fun e he=>(by cases he),fun d hd=>(by cases hd),by simp [keysL],fun b hb=>(by simp [keysL] at hb),fun b hb=>hb.elim⟩⟩
theorem sGoI {σ τ X:Type} {FX:X→Array Value→Fact} {B:σ→X→Option (σ ⊕ τ)} {J:σ→(Nat→Prop)→World→Prop} {Jx:τ→World→Prop} {l:Nat} {r:σ ⊕ τ} {z:σ} (S:St [] E [] w0 n a w F L D) (hC:ItC P l FX B J Jx) (hJ:J z E w0) (hr:Sum.inl z=r) (v:Value):itR r J Jx (.returned v) w:=
 ⟨⟨v,rfl⟩,.inl ⟨z,E,hr.symm,hC.jm _ _ _ _ hJ S.mem.chg⟩⟩
theorem sStopI {σ τ X:Type} {FX:X→Array Value→Fact} {B:σ→X→Option (σ ⊕ τ)} {J:σ→(Nat→Prop)→World→Prop} {Jx:τ→World→Prop} {l:Nat} {r:σ ⊕ τ} {t:τ} (S:St [] E [] w0 n a w F L D) (hC:ItC P l FX B J Jx) (hJ:Jx t w0) (hr:Sum.inr t=r) (v:Value):itR r J Jx (.returned v) w:=
 ⟨⟨v,rfl⟩,.inr ⟨t,hr.symm,hC.xm _ _ _ hJ S.mem.chg⟩⟩
theorem sEnterM {f:FuncId} {fn:Func} {c:Code} {args:List Value} {Rt:Ending→World→Prop} (m:Nat) (hf:P.funcs[f]?=some fn) (hb:fn.body=some c) (hm:fn.ntmps=m) (ha:args.length ≤ m) (S:St0 E M w0 w L D)
 (h:∀ a,St [] E M w0 m a w ((List.range args.length).zip args) L D→c.wp P (bodyPostM Fence.wide 1 P fn Rt) a w):Calls P f args.toArray w Rt:=
 callsIn_wide.1 (callsIn_of_wp_marks hf hb trivial (wpIn_wide.2 (h _ ⟨enter_frm m hm ha,S⟩)))
theorem leavesM {fn:Func} {Rt:Ending→World→Prop}:(S:St dq E M w0 n a w F L D)→(h:LeavesInM Fence.wide 1 P fn a.tmps Rt dq .returning w)→LeavesInM Fence.wide 1 P fn a.tmps Rt a.defers .returning w:=by
 intro S h
 rw [S.frm.defers]
 exact h
theorem sRetM0 {fn:Func} {Rt:Ending→World→Prop} (v:Value) (S:St [] E M w0 n a w F L D) (hr:(results fn a.tmps).run P w=.ok v w) (h:Rt (.returned v) w):bodyPostM Fence.wide 1 P fn Rt .ret a w:=leavesM (P:=P) S ⟨v,hr,h⟩
theorem leavesM1 {fn:Func} {Rt:Ending→World→Prop} {b:Nat} (i:Nat) (S:St [mark b] E M w0 n a w F L D) (hi:L[i]?=some (eDef b))
 (k:∀ a w,St [] E M w0 n a w F (L.eraseIdx i) D→∃ v,(results fn a.tmps).run P w=.ok v w∧Rt (.returned v) w):LeavesInM Fence.wide 1 P fn a.tmps Rt a.defers .returning w:=by
 refine leavesM S ?_
 have hb:w.heap[b]?=some (.deferred (some [])):=S.mem.at hi
 have hmem:b ∈ (eDef b).keys:=by simp [eDef]
 have hkey:=S.mem.key b (keysL_mem.2 ⟨_,List.mem_of_getElem? hi,hmem⟩)
 have hperm:=erase_perm hi
 have hn:=keysL_perm hperm S.mem.nodup
 have S1:St0 E M w0 w ([eDef b] ++ L.eraseIdx i) D:=S.mem.sub (fun e he=>hperm.mem_iff.1 he) hn (fun _ h=>h)
 have hg:=grownBy_putObj' w b (.deferred none)
 have S2:St0 E M w0 (w.putObj b (.deferred none)) ([] ++ L.eraseIdx i) ([] ++ D):=S1.upd (Chg.grown hg (fun k e=>by cases e; simp [keysL,eDef])) [] [] ⟨Chg.grown hg (fun k e=>by cases e; simp [keysL,eDef]),fun e he=>(by cases he),fun d hd=>(by cases hd),by simp [keysL],fun b hb=>(by simp [keysL] at hb),fun c hc=>by
  rcases hc with hc | hc
  ·exact Nat.lt_of_lt_of_le (S1.bnd c hc) S1.chg.size
  ·exact S1.lt c (by rw [keysL_append]; exact List.mem_append_right _ hc)⟩
 obtain ⟨v,h1,h2⟩:=k { a with defers:=[] } _ ⟨⟨rfl,S.frm.size,S.frm.get⟩,S2⟩
 exact ⟨by simp,.inl ⟨b,_,rfl,run_takeDeferred hb,⟨v,h1,h2⟩⟩⟩
theorem sRetM1 {fn:Func} {Rt:Ending→World→Prop} {b:Nat} (i:Nat) (S:St [mark b] E M w0 n a w F L D) (hi:L[i]?=some (eDef b))
 (k:∀ a w,St [] E M w0 n a w F (L.eraseIdx i) D→∃ v,(results fn a.tmps).run P w=.ok v w∧Rt (.returned v) w):bodyPostM Fence.wide 1 P fn Rt .ret a w:=leavesM1 i S hi k
theorem Frm.put2 {a:Act} {F:List (Nat × Value)} (h:Frm dq n a F) {p q:Nat} (hp:p < n) (hq:q < n) (v u:Value):Frm [] n { tmps:=((#[p,q]:Array Tmp).zip #[v,u]).foldl (fun t (p,v)=>t.setIfInBounds p v) a.tmps,defers:=[] } ((q,u) :: (p,v) :: F):=by
 have:=(Frm.put (dq:=[]) (a:={ a with defers:=[] }) ⟨rfl,h.size,h.get⟩ hp v).put hq u
 exact ⟨rfl,by simpa [Act.put] using this.size,fun t u ht=>by simpa [Act.put] using this.get t u ht⟩
theorem sRange2 {σ τ X Y:Type} {g:Operand} {assign body:Code} {gf:Nat} {lb:List Value} {rx:R X} {ry:R Y} {I:∀ (σ τ:Type),(σ→X × Y→Option (σ ⊕ τ))→σ→Option (σ ⊕ τ)} {Dc:List Fact} {B:σ→X × Y→Option (σ ⊕ τ)} {s0:σ} {r:σ ⊕ τ} {p q:Nat}
 (IL:σ→List Ent→List Fact→Prop) (IX:τ→Code→List Ent→List Fact→Prop) (js:List Nat) (S:St dq E M w0 n a w F L D) (h:I σ τ B s0=some r) (hg:lookO F g=some (.func (.func gf) #[] lb.toArray)) (eg:∀ args w,(callFunc gf args).run P w=.ok (.enter gf args) w)
 (hseq:SeqF P gf lb.toArray (fA2 rx ry) I Dc) (hDc:js.map (fun i=>D[i]?)=Dc.map some) (hp:p < n) (hq:q < n) (h0:IL s0 L D)
 (hround:∀ (E:Nat→Prop) (l:Nat) (s:σ) (x:X) (y:Y) (v u:Value) (b:σ ⊕ τ) (L:List Ent) (D:List Fact) (K:List Nat) (a:Act) (w0:World),K=keysL L→IL s L D→B s (x,y)=some b→St [] E K w0 n a w0 ((q,u) :: (p,v) :: F) L (fRep rx v x :: fRep ry u y :: D) →
  assign.wpIn (zf (some l)) 0 P (Exit.then (roundK P l body E n IL IX b K w0) (fun _ _ _=>False)) a w0)
 (hdone:∀ (Dk:Nat) (s:σ) (L:List Ent) (D:List Fact) (a:Act) (W:World),r=.inl s→IL s L D→St (mark Dk :: dq) E M w0 n a W F (L ++ [eDef Dk]) D→Q .normal a W)
 (hstop:∀ (Dk:Nat) (c:Code) (t:τ) (L:List Ent) (D:List Fact) (a:Act) (W:World),r=.inr t→IX t c L D→St (mark Dk :: dq) E M w0 n a W F (L ++ [eDef Dk]) D→c.wp P Q a W) :
 (Code.rangeFunc g #[p,q] assign body).wp P Q a w:=by
 refine sRange IL IX js S h hg eg hseq hDc ?_ h0 ?_ hdone hstop
 ·rintro x vs E w ⟨v,u,rfl,-,-⟩; rfl
 ·rintro E l s ⟨x,y⟩ vs b L D K W hK hIL hB S0
  obtain ⟨v,u,rfl,h1,h2⟩:=S0.fact _ (List.mem_cons_self ..)
  have S1:=(S0.learn (fRep ry u y) h2).learn (fRep rx v x) h1
  have S2:St0 E K W W L (fRep rx v x :: fRep ry u y :: D):=S1.sub (fun _ h=>h) S1.nodup (fun d hd=>by
   simp only [List.mem_cons] at hd ⊢
   rcases hd with h | h | h
   ·exact .inl h
   ·exact .inr (.inl h)
   ·exact .inr (.inr (.inr h)))
  exact hround E l s x y v u b L D K _ W hK hIL hB ⟨S.frm.put2 hp hq v u,S2⟩
theorem rnN {σ τ:Type} {IL:σ→List Ent→List Fact→Prop} {IX:τ→Code→List Ent→List Fact→Prop} {b:σ ⊕ τ} {K:List Nat} {W:World} (s':σ) (L':List Ent) (D':List Fact) (F':List (Nat × Value)) (hb:Sum.inl s'=b) (hi:IL s' L' D') (S:St [] E K W n a w F' L' D'):roundU E n IL IX b K W .normal a w:=⟨s',L',D',F',hb.symm,hi,S⟩
theorem rnR {σ τ:Type} {IL:σ→List Ent→List Fact→Prop} {IX:τ→Code→List Ent→List Fact→Prop} {b:σ ⊕ τ} {K:List Nat} {W:World} (t:τ) (L':List Ent) (D':List Fact) (F':List (Nat × Value)) (hb:Sum.inr t=b) (hi:IX t .ret L' D') (S:St [] E K W n a w F' L' D'):roundU E n IL IX b K W .ret a w:=⟨t,L',D',F',hb.symm,hi,S⟩
theorem fA2_mk {α β:Type} {r:R α} {q:R β} {E:Nat→Prop} {w:World} {v u:Value} {x:α} {y:β} (h:r.rep E w v x) (k:q.rep E w u y):(fA2 r q (x,y) #[v,u]).p E w:=⟨v,u,rfl,h,k⟩
theorem lo_false:¬ LetsOut (fun _ _ _=>False):=fun ⟨_,_,h⟩=>h
end
def iv (x:Int):Value:=.int .i64 x
theorem lb {a b:Nat} (h:Nat.ble (a + 1) b=true):a < b:=Nat.le_of_ble_eq_true h
def OwnF (sz:Nat) (v q:Value) (j k:Nat):Prop:=∃ g m c,v=.slice (some ⟨g,0,none⟩) m c∧q=.pointer (some ⟨g,j * sz + k,none⟩)
def Upd {α β:Type} (r:R α) (s:R β) (k:Nat) (x:α) (z:β) (y:α):Prop:=∀ E w v u,r.rep E w v x→s.rep E w u z→∃ v',r.rep E w v' y∧v'.cells.toList=over v.cells.toList k u.cells.toList∧k + s.sz ≤ r.sz
theorem over_over {cur vc uc:List Value} {o k:Nat} (h:∀ j,j < vc.length→cur[o + j]?=vc[j]?) (hk:k + uc.length ≤ vc.length) (hl:o + vc.length ≤ cur.length):over cur o (over vc k uc)=over cur (o + k) uc:=by
 apply List.ext_getElem?
 intro m
 have hlen:=over_length (l:=vc) (off:=k) (cs:=uc) hk
 rw [over_get (l:=cur) (off:=o) (cs:=over vc k uc) (by rw [hlen]; exact hl),over_get (l:=cur) (off:=o + k) (cs:=uc) (by omega),hlen]
 by_cases h1:o ≤ m∧m < o + vc.length
 ·rw [if_pos h1,over_get hk]
  by_cases h2:k ≤ m - o∧m - o < k + uc.length
  ·rw [if_pos h2,if_pos (by omega)]; congr 1; omega
  ·rw [if_neg h2,if_neg (by omega),← h (m - o) (by omega)]; congr 1; omega
 ·rw [if_neg h1,if_neg (by omega)]
section
variable {P : Program} {dq : List Deferred} {E : Nat → Prop} {M : List Nat} {w0 : World} {n : Nat} {a : Act} {w : World} {F : List (Nat × Value)} {L : List Ent} {D : List Fact} {Q : Exit → Act → World → Prop}
variable {ops : Array Oper} {rest : List Oper} {o : Oper} {d : Nat}
theorem pFldR {sz j:Nat} {v q:Value} (s f k:Nat) (hp:OwnP sz v q j) (hf:fieldB P s f=some k):∃ q',FldV P s f q q'∧OwnF sz v q' j k:=by
 obtain ⟨g,m,c,rfl,rfl⟩:=hp
 exact ⟨_,fun w=>run_fieldAt hf g _ w,⟨g,m,c,rfl,rfl⟩⟩
end
section
variable {P : Program} {dq : List Deferred} {E : Nat → Prop} {M : List Nat} {w0 : World} {n : Nat} {a : Act} {w : World} {F : List (Nat × Value)} {L : List Ent} {D : List Fact} {Q : Exit → Act → World → Prop}
variable {ops : Array Oper} {rest : List Oper} {o : Oper} {d : Nat}
theorem sMm {x:Operand} {v:Value} (S:St dq E M w0 n a w F L D) (hg:o.guard=none) (ho:o.op=.move x) (hx:lookO F x=some v) (hd:o.dst=some d) (hn:Nat.ble (d + 1) n=true) (k:∀ a,St dq E M w0 n a w ((d,v) :: F) L D→wpList P ops Q rest a w):wpList P ops Q (o :: rest) a w:=sMove v S (wN hg) (.inl ho) hx hd (lb hn) k
theorem sMa {x:Operand} {v:Value} (S:St dq E M w0 n a w F L D) (hg:o.guard=none) (ho:o.op=.assign x) (hx:lookO F x=some v) (hd:o.dst=some d) (hn:Nat.ble (d + 1) n=true) (k:∀ a,St dq E M w0 n a w ((d,v) :: F) L D→wpList P ops Q rest a w):wpList P ops Q (o :: rest) a w:=sMove v S (wN hg) (.inr ho) hx hd (lb hn) k
theorem fM {A:List (List Nat)} {F0:List (Nat × Value)} {W:List (Nat × Nat × Value)} {i t:Nat} {v:Value} (ix:Nat) (c:Option Nat) (ho:ops[i]?=some o) (hd:o.dst=some d) (hW:W[ix]?=some (i,d,v)) (hg:o.guard=none) (hx:o.op=.move (.tmp t) ∨ o.op=.assign (.tmp t)) (h1:srcB1 F0 W [c] [(t,v)]=[some (t,v)]) (h2:srcB2 ops A i (W.map (·.1)) [c] [t]=true) (hn:Nat.ble (d + 1) n=true):FixOk dq E M w0 n ops A F0 P W L D i:=
 fI d v [(t,v)] ix [c] ho hd hW rfl h1 h2 fun _ _ _ S=>sMove v S (wN hg) hx (by simp [lookO,look]) hd (lb hn) fun _ S=>⟨rfl,S⟩
theorem lT {K:Act→World→Prop} (h:K a w):wpList P ops (Exit.then K Q) [] a w:=leafL (leafT h)
theorem sSk {c:Bool} {j d t:Nat} {want:Bool} (S:St dq E M w0 n a w F L D) (hg:o.guard=some (j,want)) (hd:(ops[j]?).bind (·.dst)=some d) (hl:look F d=some (.bool c)) (hc:c=!want) (ht:o.dst=some t) (hn:Nat.ble (t + 1) n=true) (k:∀ a,St dq E M w0 n a w ((t,undef) :: F) L D→wpList P ops Q rest a w):wpList P ops Q (o :: rest) a w:=sSkip j want d t S hg hd hl hc ht (lb hn) k
def skB (j d n:Nat) (want:Bool) (os:List Oper):Bool:=os.all fun o=>decide (o.guard=some (j,want)) && match o.dst with
 | some t=>!(t == d) && Nat.ble (t + 1) n
 | none=>false
def skF:List Oper→List (Nat × Value)→List (Nat × Value)
 | [],F=>F
 | o :: os,F=>skF os ((o.dst.getD 0,undef) :: F)
theorem sSkA {c:Bool} {j d:Nat} {want:Bool} (hd:(ops[j]?).bind (·.dst)=some d) (hc:c=!want) (rest:List Oper):∀ (os:List Oper) (F:List (Nat × Value)) (a:Act) (_:St dq E M w0 n a w F L D) (_:look F d=some (.bool c)) (_:skB j d n want os=true) (_:∀ a,St dq E M w0 n a w (skF os F) L D→wpList P ops Q rest a w),wpList P ops Q (os ++ rest) a w:=by
 intro os
 induction os with
 | nil=>intro F a S _ _ k; exact k a S
 | cons o os ih=>
  intro F a S hl hb k
  simp only [skB,List.all_cons,Bool.and_eq_true,decide_eq_true_eq] at hb
  obtain ⟨⟨hg,ht⟩,hr⟩:=hb
  cases hdst:o.dst with
  | none=>rw [hdst] at ht; cases ht
  | some t=>
   rw [hdst] at ht
   simp only [Bool.and_eq_true,Bool.not_eq_true',beq_eq_false_iff_ne] at ht
   refine sSkip j want d t S hg hd hl hc hdst (lb ht.2) fun a S=>ih _ a S ?_ hr ?_
   ·simp [look,ht.1,hl]
   ·intro a S
    refine k a ?_
    simp only [skF,hdst,Option.getD_some]
    exact S
theorem sSkN {c:Bool} {l:List Oper} (m j:Nat) (want:Bool) (d:Nat) (S:St dq E M w0 n a w F L D) (hd:(ops[j]?).bind (·.dst)=some d) (hl:look F d=some (.bool c)) (hc:c=!want) (hb:skB j d n want (l.take m)=true) (k:∀ a,St dq E M w0 n a w (skF (l.take m) F) L D→wpList P ops Q (l.drop m) a w):wpList P ops Q l a w:=by
 have h:=sSkA hd hc (l.drop m) (l.take m) F a S hl hb k
 rwa [List.take_append_drop] at h
theorem fJ {A:List (List Nat)} {F0:List (Nat × Value)} {W:List (Nat × Nat × Value)} {i:Nat} {v:Value} (Fi:List (Nat × Value)) (ix:Nat) (cert:List (Option Nat))
 (k:∀ G a w,St dq E M w0 n a w (Fi ++ G) L D→wpList P ops (fun e a' w'=>e=.normal∧St dq E M w0 n a' w' ((d,v) :: (Fi ++ G)) L D) [o] a w)
 (ho:ops[i]?=some o:=by rfl) (hd:o.dst=some d:=by rfl) (hW:W[ix]?=some (i,d,v):=by rfl) (hl:cert.length=Fi.length:=by rfl) (h1:srcB1 F0 W cert Fi=Fi.map some:=by rfl) (h2:srcB2 ops A i (W.map (·.1)) cert (Fi.map (·.1))=true:=by rfl):FixOk dq E M w0 n ops A F0 P W L D i:=fI d v Fi ix cert ho hd hW hl h1 h2 k
theorem sM {x:Operand} {v:Value} (S:St dq E M w0 n a w F L D) (k:∀ a,St dq E M w0 n a w ((d,v) :: F) L D→wpList P ops Q rest a w) (hg:o.guard=none:=by rfl) (ho:o.op=.move x:=by rfl) (hx:lookO F x=some v:=by rfl) (hd:o.dst=some d:=by rfl) (hn:Nat.ble (d + 1) n=true:=by rfl):wpList P ops Q (o :: rest) a w:=sMove v S (wN hg) (.inl ho) hx hd (lb hn) k
theorem sN {x:Operand} {v:Value} (S:St dq E M w0 n a w F L D) (k:∀ a,St dq E M w0 n a w ((d,v) :: F) L D→wpList P ops Q rest a w) (hg:o.guard=none:=by rfl) (ho:o.op=.assign x:=by rfl) (hx:lookO F x=some v:=by rfl) (hd:o.dst=some d:=by rfl) (hn:Nat.ble (d + 1) n=true:=by rfl):wpList P ops Q (o :: rest) a w:=sMove v S (wN hg) (.inr ho) hx hd (lb hn) k
theorem sCq {f:FuncId} {args:List Operand} {ts:Array TypeId} {Dc:List Fact} (vs:List Value) (v:Value) (S:St dq E M w0 n a w F L D) (hcallee:∀ vs w,(callFunc f vs).run P w=.ok (.enter f vs) w) (hpre:∃ E1,St0 E1 [] w w [] Dc)
 (hc:∀ (E':Nat→Prop) w,St0 E' [] w w [] Dc→Calls P f vs.toArray w (Ret (X:=Unit) E' [] w (fun _=>v) (fun _=>[]) (fun _=>[]))) (k:∀ a w',St dq E M w0 n a w' ((d,v) :: F) L D→wpList P ops Q rest a w')
 (hg:o.guard=none:=by rfl) (ho:o.op=.call { callee:=.value (.func f),args:=args.toArray,argTypes:=ts }:=by rfl) (hvs:args.map (lookO F)=vs.map some:=by rfl) (hd:o.dst=some d:=by rfl) (hn:Nat.ble (d + 1) n=true:=by rfl):wpList P ops Q (o :: rest) a w:=
 sCallQ (X:=Unit) (val:=fun _=>v) S (wN hg) ho hcallee hvs hpre hc hd (lb hn) fun _ a w S=>k a w S
end
section
theorem d {α:Type _} {a:α}:a=a:=rfl
theorem bS {α β:Type} {x:Option α} {f:α→Option β} {r:β} (h:x.bind f=some r):∃ y,x=some y∧f y=some r:=bindSome h
theorem iS {α:Type} {c:Bool} {x y:Option α} {r:α} (h:(if c=true then x else y)=some r):(c=true∧x=some r) ∨ (c=false∧y=some r):=iteSome h
theorem tS {α:Type} {a b:α} (h:some a=some b):a=b:=Option.some.inj h
end
section
end
section
variable {nf Y : List Nat} {A : List (List Nat)} {X Z : Nat → Prop}
theorem fY {k m:Nat} (g:AllFrom (fun i=>(i ∈ nf∧(i ∈ Y ∨ (∃ k,k ∈ A.getD i []∧k ∈ nf∧k ∉ Y) ∨ X i)) ∨ (i ∉ nf∧((∃ y,y ∈ Y∧y ∈ nf∧i ∈ A.getD y []) ∨ (∃ k,k ∈ A.getD i []∧k ∈ nf∧k ∉ Y) ∨ Z i))) (k + 1) m) (h:k ∈ nf∧k ∈ Y:=by decide):AllFrom (fun i=>(i ∈ nf∧(i ∈ Y ∨ (∃ k,k ∈ A.getD i []∧k ∈ nf∧k ∉ Y) ∨ X i)) ∨ (i ∉ nf∧((∃ y,y ∈ Y∧y ∈ nf∧i ∈ A.getD y []) ∨ (∃ k,k ∈ A.getD i []∧k ∈ nf∧k ∉ Y) ∨ Z i))) k (m + 1):=aY k m h g
theorem fN {k m:Nat} (x:X k) (g:AllFrom (fun i=>(i ∈ nf∧(i ∈ Y ∨ (∃ k,k ∈ A.getD i []∧k ∈ nf∧k ∉ Y) ∨ X i)) ∨ (i ∉ nf∧((∃ y,y ∈ Y∧y ∈ nf∧i ∈ A.getD y []) ∨ (∃ k,k ∈ A.getD i []∧k ∈ nf∧k ∉ Y) ∨ Z i))) (k + 1) m) (h:k ∈ nf:=by decide):AllFrom (fun i=>(i ∈ nf∧(i ∈ Y ∨ (∃ k,k ∈ A.getD i []∧k ∈ nf∧k ∉ Y) ∨ X i)) ∨ (i ∉ nf∧((∃ y,y ∈ Y∧y ∈ nf∧i ∈ A.getD y []) ∨ (∃ k,k ∈ A.getD i []∧k ∈ nf∧k ∉ Y) ∨ Z i))) k (m + 1):=aN k m h x g
theorem fD {k m:Nat} (y:Nat) (g:AllFrom (fun i=>(i ∈ nf∧(i ∈ Y ∨ (∃ k,k ∈ A.getD i []∧k ∈ nf∧k ∉ Y) ∨ X i)) ∨ (i ∉ nf∧((∃ y,y ∈ Y∧y ∈ nf∧i ∈ A.getD y []) ∨ (∃ k,k ∈ A.getD i []∧k ∈ nf∧k ∉ Y) ∨ Z i))) (k + 1) m) (h:k ∉ nf∧y ∈ Y∧y ∈ nf∧k ∈ A.getD y []:=by decide):AllFrom (fun i=>(i ∈ nf∧(i ∈ Y ∨ (∃ k,k ∈ A.getD i []∧k ∈ nf∧k ∉ Y) ∨ X i)) ∨ (i ∉ nf∧((∃ y,y ∈ Y∧y ∈ nf∧i ∈ A.getD y []) ∨ (∃ k,k ∈ A.getD i []∧k ∈ nf∧k ∉ Y) ∨ Z i))) k (m + 1):=aD k m y h g
theorem fE {k m:Nat} (b:Nat) (g:AllFrom (fun i=>(i ∈ nf∧(i ∈ Y ∨ (∃ k,k ∈ A.getD i []∧k ∈ nf∧k ∉ Y) ∨ X i)) ∨ (i ∉ nf∧((∃ y,y ∈ Y∧y ∈ nf∧i ∈ A.getD y []) ∨ (∃ k,k ∈ A.getD i []∧k ∈ nf∧k ∉ Y) ∨ Z i))) (k + 1) m) (h:k ∉ nf∧b ∈ A.getD k []∧b ∈ nf∧b ∉ Y:=by decide):AllFrom (fun i=>(i ∈ nf∧(i ∈ Y ∨ (∃ k,k ∈ A.getD i []∧k ∈ nf∧k ∉ Y) ∨ X i)) ∨ (i ∉ nf∧((∃ y,y ∈ Y∧y ∈ nf∧i ∈ A.getD y []) ∨ (∃ k,k ∈ A.getD i []∧k ∈ nf∧k ∉ Y) ∨ Z i))) k (m + 1):=aE k m b h g
theorem fF {k m:Nat} (x:Z k) (g:AllFrom (fun i=>(i ∈ nf∧(i ∈ Y ∨ (∃ k,k ∈ A.getD i []∧k ∈ nf∧k ∉ Y) ∨ X i)) ∨ (i ∉ nf∧((∃ y,y ∈ Y∧y ∈ nf∧i ∈ A.getD y []) ∨ (∃ k,k ∈ A.getD i []∧k ∈ nf∧k ∉ Y) ∨ Z i))) (k + 1) m) (h:k ∉ nf:=by decide):AllFrom (fun i=>(i ∈ nf∧(i ∈ Y ∨ (∃ k,k ∈ A.getD i []∧k ∈ nf∧k ∉ Y) ∨ X i)) ∨ (i ∉ nf∧((∃ y,y ∈ Y∧y ∈ nf∧i ∈ A.getD y []) ∨ (∃ k,k ∈ A.getD i []∧k ∈ nf∧k ∉ Y) ∨ Z i))) k (m + 1):=aF k m h x g
end
section
variable {P : Program} {dq : List Deferred} {E : Nat → Prop} {M : List Nat} {w0 : World} {n : Nat} {a : Act} {w : World} {F : List (Nat × Value)} {L : List Ent} {D : List Fact} {Q : Exit → Act → World → Prop}
end
theorem All.take {α:Type} {r:R α} {E:Nat→Prop} {w:World} {vs:List Value} {xs:List α} (a:All r E w vs xs) (k:Nat):All r E w (vs.take k) (xs.take k):=by
 refine ⟨by simp [a.1],fun j v x hv hx=>?_⟩
 rw [List.getElem?_take] at hv hx
 split at hv
 ·rename_i h
  rw [if_pos h] at hx
  exact a.2 j v x hv hx
 ·cases hv
theorem All.drop {α:Type} {r:R α} {E:Nat→Prop} {w:World} {vs:List Value} {xs:List α} (a:All r E w vs xs) (k:Nat):All r E w (vs.drop k) (xs.drop k):=by
 refine ⟨by simp [a.1],fun j v x hv hx=>?_⟩
 rw [List.getElem?_drop] at hv hx
 exact a.2 _ v x hv hx
theorem flat_split {sz:Nat} {vs:List Value} (h:∀ v,v ∈ vs→v.cells.size=sz) (k:Nat) (hk:k ≤ vs.length):flat vs=flat (vs.take k) ++ flat (vs.drop k)∧(flat (vs.take k)).length=k * sz:=by
 refine ⟨by rw [← flat_append,List.take_append_drop],?_⟩
 rw [flat_length (fun v hv=>h v (List.mem_of_mem_take hv)),List.length_take,Nat.min_eq_left hk]
def cpO {α:Type} (xs ys:List α):List α:=ys.take xs.length ++ xs.drop ys.length
theorem cpO_length {α:Type} (xs ys:List α):(cpO xs ys).length=xs.length:=by simp [cpO]; omega
theorem cpO_eq {α:Type} {xs ys:List α} (h:xs.length=ys.length):cpO xs ys=ys:=by simp [cpO,h]
theorem cpO_v {α:Type} (xs ys:List α) (ad:Option Addr) (c:Nat):Value.slice ad xs.length c=Value.slice ad (cpO xs ys).length c:=by rw [cpO_length]
section
variable {P : Program} {dq : List Deferred} {E : Nat → Prop} {M : List Nat} {w0 : World} {n : Nat} {a : Act} {w : World} {F : List (Nat × Value)} {L : List Ent} {D : List Fact} {Q : Exit → Act → World → Prop}
variable {ops : Array Oper} {rest : List Oper} {o : Oper} {d : Nat}
theorem run_copyN {dT sT ty elem:TypeId} {sz g dLen dCap sLen sCap:Nat} {ad:Option Addr} {cur:Array Value} {t:TypeId} (cs:List Value) (hu:P.underlying dT=some (.slice elem)) (hs:cellsB P elem=some sz)
 (hg:w.heap[g]?=some (.cells cur t (0,0))) (hn:cs.length=Nat.min sLen dLen * sz) (hsrc:∀ j c,cs[j]?=some c→∃ b off,ad=some ⟨b,off,none⟩∧w.cell? ⟨b,off + j,none⟩=some c) (hfit:cs.length ≤ cur.size) (h1:∀ v ∈ cs,v.oneCell'=true) :
 (Builtin.copy_ #[dT,sT] ty #[.slice (some ⟨g,0,none⟩) dLen dCap,.slice ad sLen sCap]).run P w=.ok (goInt ((Nat.min sLen dLen:Nat):Int)) (w.setRow g (over cur.toList 0 cs).toArray):=by
 have hst:=run_storeCells_at P g 0 t cs 0 cur w hg (by simpa using hfit) h1
 simp only [Nat.zero_add,List.take_zero,List.nil_append] at hst
 have ho:over cur.toList 0 cs=cs ++ cur.toList.drop cs.length:=by simp [over]
 rw [ho]
 cases hq:P.info? elem with
 | none=>simp [cellsB,hq] at hs
 | some i=>
  have hi:i.size=sz:=by simpa [cellsB,hq] using hs
  cases ad with
  | none=>
   have hcs:cs=[]:=by
    cases cs with
    | nil=>rfl
    | cons c cs=>obtain ⟨_,_,h,_⟩:=hsrc 0 c rfl; cases h
   subst hcs
   simp [Builtin.copy_,run_underlying hu,Builtin.lenOf,Builtin.firstCells,sizeOf,typeInfo,hq,hi,hst]
  | some ad=>
   have hl:=run_loadCells_list (P:=P) w ad cs (fun j v hv=>by
    obtain ⟨b,off,h,hc⟩:=hsrc j v hv
    cases h
    rw [add_addr]; exact hc)
   rw [hn] at hl
   simp [Builtin.copy_,run_underlying hu,Builtin.lenOf,Builtin.firstCells,sizeOf,typeInfo,hq,hi,hl,hst]
theorem sCopyR {α:Type} {r:R α} {T elem dT sT:TypeId} {xs ys:List α} {x y:Operand} {v u:Value} (i m:Nat) (S:St dq E M w0 n a w F L D)
 (hw:∀ a,Frm dq n a F→Region.wanted o (yielded ops a.tmps)=true) (ho:o.op=.call { callee:=.builtin .copy,args:=#[x,y],argTypes:=#[dT,sT] }) (hu:P.underlying dT=some (.slice elem)) (hs:cellsB P elem=some r.sz)
 (hx:lookO F x=some v) (hy:lookO F y=some u) (hL:L[i]?=some (eRow r T v xs)) (hD:D[m]?=some (fRep (rL r) u ys)) (hd:o.dst=some d) (hn:d < n)
 (k:∀ a w,St dq E M w0 n a w ((d,.int .i64 ((Nat.min ys.length xs.length:Nat):Int)) :: F) (eRow r T v (cpO xs ys) :: L.eraseIdx i) D→wpList P ops Q rest a w):wpList P ops Q (o :: rest) a w:=by
 obtain ⟨vs,ha,hlen,hown⟩:=S.mem.at hL
 obtain ⟨ad,cS,us,rfl,hcS,hmS,hb,hcells⟩:=S.mem.know hD
 have hex:=S.frm.eval hx
 have hey:=S.frm.eval hy
 have hown1:=hown
 rcases hown.2 with ⟨rfl,h0⟩ | ⟨g,cap,cur,rfl,hgb,hg,hnc,hcm,hcs,htake⟩
 ·have hxs:xs=[]:=List.eq_nil_of_length_eq_zero h0
  subst hxs
  have hrun:(Builtin.copy_ #[dT,sT] o.type #[.slice none 0 0,.slice ad ys.length cS]).run P w=.ok (goInt 0) w:=by
   cases hq:P.info? elem with
   | none=>simp [cellsB,hq] at hs
   | some q=>
    cases ad with
    | none=>simp [Builtin.copy_,run_underlying hu,Builtin.lenOf,Builtin.firstCells,sizeOf,typeInfo,hq]
    | some ad=>
     have hl:=run_loadCells_list (P:=P) w ad [] (fun j v hv=>by simp at hv)
     simp only [List.length_nil] at hl
     simp [Builtin.copy_,run_underlying hu,Builtin.lenOf,Builtin.firstCells,sizeOf,typeInfo,hq,hl]
  have hcp:cpO ([]:List α) ys=[]:=by simp [cpO]
  rw [hcp] at k
  have hput:St0 E M w0 w (eRow r T (.slice none 0 0) ([]:List α) :: L.eraseIdx i) D:=S.mem.perm (erase_perm hL)
  refine sVal (v:=.int .i64 ((Nat.min ys.length 0:Nat):Int)) S hw hd hn ?_ hput (fun a=>k a _)
  simp [execOp,ho,resolve,invoke,builtin,hex,hey,hrun,Result.andThen,goInt]
 ·have hlv:vs.length=xs.length:=ha.1
  have hlu:us.length=ys.length:=hb.1
  have hfl:=flat_length (fun v hv=>(ha.cells v hv).1)
  rw [hlv] at hfl
  have hcut:(flat (us.take xs.length)).length=Nat.min ys.length xs.length * r.sz:=by
   rw [flat_length (fun v hv=>(hb.cells v (List.mem_of_mem_take hv)).1),List.length_take,hlu,Nat.min_comm]
  have hmin:Nat.min ys.length xs.length ≤ xs.length:=Nat.min_le_right _ _
  have hle:Nat.min ys.length xs.length * r.sz ≤ xs.length * r.sz:=Nat.mul_le_mul_right _ hmin
  have hle2:xs.length * r.sz ≤ cap * r.sz:=Nat.mul_le_mul_right _ hnc
  have hpre:∃ post,flat us=flat (us.take xs.length) ++ post:=⟨flat (us.drop xs.length),by rw [← flat_append,List.take_append_drop]⟩
  obtain ⟨post,hpre⟩:=hpre
  have hrun:=run_copyN (P:=P) (w:=w) (sT:=sT) (ty:=o.type) (dLen:=xs.length) (dCap:=cap) (sLen:=ys.length) (sCap:=cS) (ad:=ad) (flat (us.take xs.length)) hu hs hg hcut (fun j c hc=>by
   have hj:j < (flat (us.take xs.length)).length:=(List.getElem?_eq_some_iff.1 hc).1
   obtain ⟨b,off,h1,_,_,h4⟩:=hcells j c (by rw [hpre,List.getElem?_append_left hj]; exact hc)
   exact ⟨b,off,h1,h4⟩) (by rw [hcut,hcs]; omega) (flat_one (fun v hv=>(hb.cells v (List.mem_of_mem_take hv)).2))
  have hchg:Chg (eRow r T (.slice (some ⟨g,0,none⟩) xs.length cap) xs).keys w (w.setRow g (over cur.toList 0 (flat (us.take xs.length))).toArray):=⟨rfl,rfl,rfl,by simp [World.setRow],fun k _ hk=>setRow_other w g k _ (fun e=>hk (by simp [eRow,vkeys,e]))⟩
  have hext:Ext (tot E L) (tot E (eRow r T (.slice (some ⟨g,0,none⟩) xs.length cap) (cpO xs ys) :: L.eraseIdx i)) w (w.setRow g (over cur.toList 0 (flat (us.take xs.length))).toArray):=by
   refine ⟨hchg.size,fun b hb hn _=>hchg.block b hb (fun e=>hn (.inr (keysL_mem.2 ⟨_,List.mem_of_getElem? hL,e⟩))),fun b hb h=>?_⟩
   rcases h with h | h
   ·exact .inl h
   ·obtain ⟨e,h2,h3⟩:=keysL_mem.1 h
    rcases List.mem_cons.1 h2 with rfl | h2
    ·exact .inr (keysL_mem.2 ⟨_,List.mem_of_getElem? hL,h3⟩)
    ·exact .inr (keysL_mem.2 ⟨e,List.mem_of_mem_eraseIdx h2,h3⟩)
  refine sVal (v:=.int .i64 ((Nat.min ys.length xs.length:Nat):Int)) S hw hd hn (w':=w.setRow g (over cur.toList 0 (flat (us.take xs.length))).toArray) ?_ (S.mem.put hL (eRow r T (.slice (some ⟨g,0,none⟩) xs.length cap) (cpO xs ys)) hchg (fun b hb=>.inl hb) (by simp [eRow,vkeys]) ?_) (fun a=>k a _)
  ·simp only [execOp,ho,resolve,invoke,builtin]
   simp [hex,hey,hrun,Result.andThen,goInt]
  ·have hall:All r (tot E (eRow r T (.slice (some ⟨g,0,none⟩) xs.length cap) (cpO xs ys) :: L.eraseIdx i)) (w.setRow g (over cur.toList 0 (flat (us.take xs.length))).toArray) (cpO vs us) (cpO xs ys):=by
    unfold cpO
    rw [hlv,hlu]
    exact ((hb.mono hext).take _).append ((ha.mono hext).drop _)
   have hfc:flat (cpO vs us)=over (flat vs) 0 (flat (us.take xs.length)):=by
    unfold cpO over
    rw [flat_append,hlv,hlu,List.take_zero,List.nil_append,Nat.zero_add,hcut]
    congr 1
    by_cases h:ys.length ≤ xs.length
    ·have e:=flat_split (fun v hv=>(ha.cells v hv).1) ys.length (by omega)
     rw [e.1,show Nat.min ys.length xs.length=ys.length from Nat.min_eq_left h,List.drop_append,e.2]
     simp [e.2]
    ·rw [show Nat.min ys.length xs.length=xs.length from Nat.min_eq_right (by omega),List.drop_eq_nil_of_le (by omega),List.drop_eq_nil_of_le (by omega)]
     rfl
   refine ⟨cpO vs us,hall,by rw [cpO_length]; exact hlen,?_⟩
   rw [cpO_length,hfc]
   refine ⟨by rw [over_length (by rw [hcut,hfl]; omega),hfl],.inr ⟨g,cap,(over cur.toList 0 (flat (us.take xs.length))).toArray,rfl,Nat.zero_le _,setRow_heap w g cur _ T _ hg,hnc,hcm,?_,?_⟩⟩
   ·simp only [List.size_toArray]; rw [over_length (by rw [hcut]; simp only [Nat.zero_add,Array.length_toList]; omega)]; simpa using hcs
   ·rw [over_take (by rw [hcut]; omega) (by simp only [Array.length_toList]; omega),htake]
def eHole {α:Type} (r:R α) (T:TypeId) (v:Value) (xs:List α) (p:Nat) (u:Value):Ent where
 keys:=vkeys v
 p:=fun E w=>∃ vs,All r E w vs xs∧xs.length ≤ 68719476736∧p < xs.length * r.sz∧w.ownsRow 0 T r.sz v xs.length (over (flat vs) p [u])
 mono:=by
  rintro E E' w w' h hs ⟨vs,ha,hm,hp,hl,ho⟩
  refine ⟨vs,ha.mono h,hm,hp,hl,?_⟩
  rcases ho with ho | ⟨g,cap,cur,hv,hg,hh,hr⟩
  ·exact .inl ho
  ·subst hv
   exact .inr ⟨g,cap,cur,rfl,hg,by rw [hs g (by simp [vkeys])]; exact hh,hr⟩
 lt:=by
  rintro E w ⟨vs,ha,_,_,hl,ho⟩ b hb
  rcases ho with ⟨ho,_⟩ | ⟨g,cap,cur,hv,hg,hh,hr⟩
  ·subst ho; simp [vkeys] at hb
  ·subst hv
   simp [vkeys] at hb; subst hb
   exact (Array.getElem?_eq_some_iff.1 hh).1
theorem sStoreH {α:Type} {r:R α} {T:TypeId} {xs:List α} {x:α} {t:TypeId} {q xo:Operand} {v vq u:Value} {j:Int} (i kf:Nat) (S:St dq E M w0 n a w F L D) (hp:OwnF r.sz v vq j.toNat kf)
 (hw:∀ a,Frm dq n a F→Region.wanted o (yielded ops a.tmps)=true) (ho:o.op=.store t q xo) (hq:lookO F q=some vq) (hxo:lookO F xo=some u) (hL:L[i]?=some (eRow r T v xs)) (hix:idxO xs j=some x) (hk:kf < r.sz) (hc:u.cells.toList=[u]) (h1:u.oneCell'=true) (hm:cellsB P t=some 1) (hd:o.dst=none)
 (k:∀ a w,St dq E M w0 n a w F (eHole r T v xs (j.toNat * r.sz + kf) u :: L.eraseIdx i) D→wpList P ops Q rest a w):wpList P ops Q (o :: rest) a w:=by
 obtain ⟨_,h2,_⟩:=idxO_some hix
 obtain ⟨vs,ha,hlen,hown⟩:=S.mem.at hL
 obtain ⟨g,m,c,rfl,rfl⟩:=hp
 have he:=S.frm.eval hq
 have hex:=S.frm.eval hxo
 have hcs1:u.cells.size=1:=by rw [← Array.length_toList,hc]; rfl
 have hown1:=hown
 rcases hown.2 with ⟨h,_⟩ | ⟨g',cap,cur,h,hb,hg,hnc,hcm,hcs,htake⟩
 ·cases h
 obtain ⟨rfl,rfl,rfl⟩:g=g'∧m=xs.length∧c=cap:=by simpa using h
 have hle:(j.toNat + 1) * r.sz ≤ xs.length * r.sz:=Nat.mul_le_mul_right _ h2
 have hle2:xs.length * r.sz ≤ c * r.sz:=Nat.mul_le_mul_right _ hnc
 rw [Nat.add_mul,Nat.one_mul] at hle
 have hfl:=flat_length (fun v hv=>(ha.cells v hv).1)
 rw [ha.1] at hfl
 have hst:=run_storeVar (P:=P) (t:=t) (off:=j.toNat * r.sz + kf) (u:=u) (by rw [hcs1]; exact hm) (by rw [hc]; intro c hc'; simp at hc'; rw [hc']; exact h1) hg (by rw [hcs1,hcs]; omega)
 rw [hc] at hst
 have hchg:Chg (eRow r T (.slice (some ⟨g,0,none⟩) xs.length c) xs).keys w (w.setRow g (over cur.toList (j.toNat * r.sz + kf) [u]).toArray):=⟨rfl,rfl,rfl,by simp [World.setRow],fun k _ hk=>setRow_other w g k _ (fun e=>hk (by simp [eRow,vkeys,e]))⟩
 have hext:Ext (tot E L) (tot E (eHole r T (.slice (some ⟨g,0,none⟩) xs.length c) xs (j.toNat * r.sz + kf) u :: L.eraseIdx i)) w (w.setRow g (over cur.toList (j.toNat * r.sz + kf) [u]).toArray):=by
  refine ⟨hchg.size,fun b hb hn _=>hchg.block b hb (fun e=>hn (.inr (keysL_mem.2 ⟨_,List.mem_of_getElem? hL,e⟩))),fun b hb h=>?_⟩
  rcases h with h | h
  ·exact .inl h
  ·obtain ⟨e,h2,h3⟩:=keysL_mem.1 h
   rcases List.mem_cons.1 h2 with rfl | h2
   ·exact .inr (keysL_mem.2 ⟨_,List.mem_of_getElem? hL,h3⟩)
   ·exact .inr (keysL_mem.2 ⟨e,List.mem_of_mem_eraseIdx h2,h3⟩)
 refine sUnit S hw hd (w':=w.setRow g (over cur.toList (j.toNat * r.sz + kf) [u]).toArray) ?_ (S.mem.put hL (eHole r T (.slice (some ⟨g,0,none⟩) xs.length c) xs (j.toNat * r.sz + kf) u) hchg (fun b hb=>.inl hb) (by simp [eHole,vkeys]) ?_) (fun a=>k a _)
 ·simp only [execOp,ho,he,hex,Instr.storeAt,Instr.sureAddr,Sem.run_bind,Sem.run_pure,Result.andThen_ok,hst]
 ·refine ⟨vs,ha.mono hext,hlen,by omega,?_⟩
  refine ⟨by rw [over_length (by rw [hfl]; simp; omega),hfl],.inr ⟨g,c,(over cur.toList (j.toNat * r.sz + kf) [u]).toArray,rfl,Nat.zero_le _,setRow_heap w g cur _ T _ hg,hnc,hcm,?_,?_⟩⟩
  ·simp only [List.size_toArray]; rw [over_length (by simp [hcs]; omega)]; simpa using hcs
  ·rw [over_take (by simp; omega) (by simp [hcs]; omega),htake]
theorem hole_slice {α:Type} {r:R α} {T:TypeId} {v:Value} {xs:List α} {p:Nat} {u:Value} {E:Nat→Prop} {w:World} (h:(eHole r T v xs p u).p E w):∃ g c,v=.slice (some ⟨g,0,none⟩) xs.length c∧w.cell? ⟨g,p,none⟩=some u:=by
 obtain ⟨vs,ha,_,hp,hown⟩:=h
 have hfl:=flat_length (fun v hv=>(ha.cells v hv).1)
 rw [ha.1] at hfl
 rcases hown.2 with ⟨_,h0⟩ | ⟨g,cap,cur,rfl,_⟩
 ·rw [h0] at hp; omega
 ·refine ⟨g,cap,rfl,?_⟩
  rw [hown.cellAt _ hp,over_get (by rw [hfl]; simp; omega),if_pos (by simp),Nat.sub_self]
  rfl
theorem pIdxH {α:Type} {r:R α} {T:TypeId} {xs:List α} {x:α} {v:Value} {p:Nat} {u:Value} {j:Int} (t e i:Nat) (S:St dq E M w0 n a w F L D) (ht:P.underlying t=some (.slice e)) (hs:cellsB P e=some r.sz) (hL:L[i]?=some (eHole r T v xs p u)) (hx:idxO xs j=some x) :
 ∃ q,IdxV P t v j q∧OwnP r.sz v q j.toNat:=by
 obtain ⟨h0,h1,h2⟩:=idxO_some hx
 obtain ⟨g,c,rfl,_⟩:=hole_slice (S.mem.at hL)
 refine ⟨_,fun k w=>?_,⟨g,_,c,rfl,rfl⟩⟩
 have:=run_indexAt (P:=P) ht hs (b:=g) (off:=0) (c:=c) (k:=k) h0 h1 w
 simpa using this
theorem sLoadH {α:Type} {r:R α} {T:TypeId} {xs:List α} {u:Value} {t:TypeId} {q:Operand} {v vq:Value} {j:Int} (i kf:Nat) (S:St dq E M w0 n a w F L D) (hp:OwnF r.sz v vq j.toNat kf)
 (hw:∀ a,Frm dq n a F→Region.wanted o (yielded ops a.tmps)=true) (ho:o.op=.load t q) (hq:lookO F q=some vq) (hL:L[i]?=some (eHole r T v xs (j.toNat * r.sz + kf) u)) (ht:aggB P t=some false) (hd:o.dst=some d) (hn:d < n)
 (k:∀ a,St dq E M w0 n a w ((d,u) :: F) L D→wpList P ops Q rest a w):wpList P ops Q (o :: rest) a w:=by
 obtain ⟨g,c,rfl,hcell⟩:=hole_slice (S.mem.at hL)
 obtain ⟨g',m',c',e1,rfl⟩:=hp
 cases e1
 have he:=S.frm.eval hq
 exact sVal S hw hd hn (by simp [execOp,ho,he,Instr.loadAt,Instr.sureAddr,loadVar,run_isAgg ht,hcell]) S.mem k
theorem St0.closeH {α β:Type} {r:R α} {s:R β} {T:TypeId} {xs ys:List α} {x y:α} {z:β} {v u:Value} {j:Int} (i kf:Nat) (S:St0 E M w0 w L D) (hL:L[i]?=some (eHole r T v xs (j.toNat * r.sz + kf) u)) (hu0:(fRep s u z).p (tot E L) w) (hc:u.cells.toList=[u]) (hk:kf < r.sz) (hix:idxO xs j=some x) (hup:Upd r s kf x z y) (hs:setO xs j y=some ys) :
 St0 E M w0 w (eRow r T v ys :: L.eraseIdx i) D:=by
 obtain ⟨h0,h1,rfl⟩:=setO_some hs
 obtain ⟨_,_,hxj⟩:=idxO_some hix
 obtain ⟨vs,ha,hlen,hp,hown⟩:=S.at hL
 have hj:j.toNat < vs.length:=by rw [ha.1]; exact h1
 have hvj:vs[j.toNat]?=some vs[j.toNat]:=List.getElem?_eq_getElem hj
 have hrep:=ha.2 _ _ _ hvj hxj
 have hsv:=r.size hrep
 obtain ⟨v',hu,hcl,hle0⟩:=hup _ _ _ _ hrep hu0
 have hsz:=r.size hu
 have hfl:=flat_length (fun v hv=>(ha.cells v hv).1)
 rw [ha.1] at hfl
 have hle:(j.toNat + 1) * r.sz ≤ xs.length * r.sz:=Nat.mul_le_mul_right _ h1
 rw [Nat.add_mul,Nat.one_mul] at hle
 have heq:over (flat vs) (j.toNat * r.sz + kf) [u]=over (flat vs) (j.toNat * r.sz) v'.cells.toList:=by
  rw [hcl,hc]
  refine (over_over (fun b hb=>?_) (by simp [hsv]; omega) (by simp [hsv,hfl]; omega)).symm
  have hb2:b < r.sz:=by simpa [hsv] using hb
  exact flat_get (fun v hv=>(ha.cells v hv).1) hvj hb2
 have hext:Ext (tot E L) (tot E (eRow r T v (xs.set j.toNat y) :: L.eraseIdx i)) w w:=by
  refine ⟨Nat.le_refl _,fun _ _ _ _=>rfl,fun b hb h=>?_⟩
  rcases h with h | h
  ·exact .inl h
  ·obtain ⟨e,h2,h3⟩:=keysL_mem.1 h
   rcases List.mem_cons.1 h2 with rfl | h2
   ·exact .inr (keysL_mem.2 ⟨_,List.mem_of_getElem? hL,h3⟩)
   ·exact .inr (keysL_mem.2 ⟨e,List.mem_of_mem_eraseIdx h2,h3⟩)
 refine S.put hL (eRow r T v (xs.set j.toNat y)) (Chg.refl _ _) (fun b hb=>.inl hb) ?_ ?_
 ·cases v <;> simp [eRow,vkeys]
  rename_i a _ _
  cases a <;> simp
 ·refine ⟨vs.set j.toNat v',(ha.mono hext).set _ (r.mono hext hu),by simpa using hlen,?_⟩
  rw [flat_set (fun v hv=>(ha.cells v hv).1) hj hsz,← heq,List.length_set]
  exact hown
theorem St.closeH {α β:Type} {r:R α} {s:R β} {T:TypeId} {xs ys:List α} {x y:α} {z:β} {v u:Value} {j:Int} (i kf:Nat) (S:St dq E M w0 n a w F L D) (hL:L[i]?=some (eHole r T v xs (j.toNat * r.sz + kf) u)) (hu0:(fRep s u z).p (tot E L) w) (hc:u.cells.toList=[u]) (hk:kf < r.sz) (hix:idxO xs j=some x) (hup:Upd r s kf x z y) (hs:setO xs j y=some ys) :
 St dq E M w0 n a w F (eRow r T v ys :: L.eraseIdx i) D:=⟨S.frm,S.mem.closeH i kf hL hu0 hc hk hix hup hs⟩
end
section
variable {P : Program} {dq : List Deferred} {E : Nat → Prop} {M : List Nat} {w0 : World} {n : Nat} {a : Act} {w : World} {F : List (Nat × Value)} {L : List Ent} {D : List Fact} {Q : Exit → Act → World → Prop}
variable {ops : Array Oper} {rest : List Oper} {o : Oper} {d : Nat}
end
section
variable {P : Program} {dq : List Deferred} {E : Nat → Prop} {M : List Nat} {w0 : World} {n : Nat} {a : Act} {w : World} {F : List (Nat × Value)} {L : List Ent} {D : List Fact} {Q : Exit → Act → World → Prop}
variable {ops : Array Oper} {rest : List Oper} {o : Oper} {d : Nat}
end
section
variable {P : Program} {dq : List Deferred} {E : Nat → Prop} {M : List Nat} {w0 : World} {n : Nat} {a : Act} {w : World} {F : List (Nat × Value)} {L : List Ent} {D : List Fact} {Q : Exit → Act → World → Prop}
variable {ops : Array Oper} {rest : List Oper} {o : Oper} {d : Nat}
end
section
variable {P : Program} {dq : List Deferred} {E : Nat → Prop} {M : List Nat} {w0 : World} {n : Nat} {a : Act} {w : World} {F : List (Nat × Value)} {L : List Ent} {D : List Fact} {Q : Exit → Act → World → Prop}
variable {ops : Array Oper} {rest : List Oper} {o : Oper} {d : Nat}
end
section
variable {P : Program} {dq : List Deferred} {E : Nat → Prop} {M : List Nat} {w0 : World} {n : Nat} {a : Act} {w : World} {F : List (Nat × Value)} {L : List Ent} {D : List Fact} {Q : Exit → Act → World → Prop}
variable {ops : Array Oper} {rest : List Oper} {o : Oper} {d : Nat}
end
end Go.Proofs.Ytnfjcalmangncaa
