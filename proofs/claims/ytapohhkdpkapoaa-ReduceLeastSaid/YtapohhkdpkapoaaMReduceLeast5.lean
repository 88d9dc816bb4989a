/- ReduceLeast: walks, tables, laws. -/
import Derived.Test.YtapohhkdpkapoaaProg
import Derived.Test.YtapohhkdpkapoaaRows
import Derived.Test.YtapohhkdpkapoaaMReduceLeast4
set_option linter.unusedVariables false
set_option linter.unusedSimpArgs false
set_option maxHeartbeats 4000000
set_option maxRecDepth 100000
namespace Go.Proofs.Ytapohhkdpkapoaa
open Go.RowKit
def nr (b:Nat):List Int→Option (List Int)
 | []=>none
 | v :: r=>if v + 1 < (b:Int) then some ((v + 1) :: r) else (nr b r).map (0 :: ·)
def nxt (b:Nat) (l:List Int):Option (List Int):=(nr b l.reverse).map List.reverse
theorem nr_len {b:Nat} {q r:List Int} (h:nr b q=some r):r.length=q.length:=by
 induction q generalizing r with
 | nil=>cases h
 | cons v q ih=>
  simp only [nr] at h
  by_cases c:v + 1 < (b:Int)
  ·rw [if_pos c] at h
   cases h
   rfl
  ·rw [if_neg c] at h
   cases e:nr b q with
   | none=>rw [e] at h; cases h
   | some s=>
    rw [e] at h
    cases h
    simp [ih e]
theorem nr_snoc (b:Nat) (a:List Int) (v:Int):nr b (a ++ [v])=match nr b a with | some a'=>some (a' ++ [v]) | none=>if v + 1 < (b:Int) then some (List.replicate a.length 0 ++ [v + 1]) else none:=by
 induction a with
 | nil=>
  simp only [List.nil_append,nr,List.length_nil,List.replicate_zero]
  rfl
 | cons u a ih=>
  simp only [List.cons_append,nr]
  by_cases c:u + 1 < (b:Int)
  ·rw [if_pos c,if_pos c]
   rfl
  ·rw [if_neg c,if_neg c,ih]
   cases e:nr b a with
   | some s=>rfl
   | none=>
    simp only [Option.map_none]
    by_cases c2:v + 1 < (b:Int)
    ·rw [if_pos c2,if_pos c2]
     simp [List.replicate_succ]
    ·rw [if_neg c2,if_neg c2]
     rfl
theorem nxt_cons (b:Nat) (v:Int) (r:List Int):nxt b (v :: r)=match nxt b r with | some r'=>some (v :: r') | none=>if v + 1 < (b:Int) then some ((v + 1) :: List.replicate r.length 0) else none:=by
 unfold nxt
 rw [List.reverse_cons,nr_snoc]
 cases e:nr b r.reverse with
 | some s=>simp
 | none=>
  simp only [Option.map_none]
  by_cases c2:v + 1 < (b:Int)
  ·rw [if_pos c2,if_pos c2]
   simp
  ·rw [if_neg c2,if_neg c2]
   rfl
theorem idx_mid (a c:List Int) (v:Int):idxO (a ++ v :: c) (a.length:Int)=some v:=by
 rw [idxO_nat (by simp)]
 simp
theorem set_mid (a c:List Int) (v y:Int):setO (a ++ v :: c) (a.length:Int) y=some (a ++ y :: c):=by
 rw [setO_nat (by simp)]
 simp
theorem nx_loop {b:Nat} (hb:b ≤ 1000) (q:List Int) (z:Nat) (hq:∀ y,y ∈ q→0 ≤ y∧y < (b:Int)) (hl:q.length ≤ 1000) :
 whileO (raddleref17_next_s0_l1 (b:Int)) (q.reverse ++ List.replicate z 0,(q.length:Int) - 1)=some (match nr b q with | some r=>.inl (true,r.reverse ++ List.replicate z 0) | none=>.inr (List.replicate (q.length + z) 0)):=by
 induction q generalizing z with
 | nil=>
  refine whileO_done ?_
  unfold raddleref17_next_s0_l1
  simp [nr]
 | cons v q ih=>
  have hv:=hq v List.mem_cons_self
  have hll:q.length + 1 ≤ 1000:=by simpa using hl
  have e0:(v :: q).reverse ++ List.replicate z 0=q.reverse ++ v :: List.replicate z 0:=by simp
  have e1:(((v :: q).length:Nat):Int) - 1=(q.reverse.length:Int):=by simp
  rw [e0,e1]
  have hi:=idx_mid q.reverse (List.replicate z 0) v
  have hs:=set_mid q.reverse (List.replicate z 0) v (v + 1)
  have hi2:=idx_mid q.reverse (List.replicate z 0) (v + 1)
  have hs2:=set_mid q.reverse (List.replicate z 0) (v + 1) 0
  have hbody:raddleref17_next_s0_l1 (b:Int) (q.reverse ++ v :: List.replicate z 0,(q.reverse.length:Int))=some (if v + 1 < (b:Int) then .inr (.inl (true,q.reverse ++ (v + 1) :: List.replicate z 0)) else .inl (q.reverse ++ List.replicate (z + 1) 0,(q.length:Int) - 1)):=by
   unfold raddleref17_next_s0_l1
   simp only [dT (show (0:Int) ≤ (q.reverse.length:Int) by omega),if_true,hi,Option.bind_some,w64_of (x:=v + 1) (by omega) (by omega),hs,hi2]
   by_cases c:v + 1 < (b:Int)
   ·rw [if_pos c,dT c,if_pos rfl]
   ·rw [if_neg c,dF c,if_neg (by decide),hs2]
    simp only [Option.bind_some]
    rw [w64_of (by simp; omega) (by simp; omega),List.length_reverse,List.replicate_succ]
  by_cases c:v + 1 < (b:Int)
  ·rw [if_pos c] at hbody
   rw [whileO_done hbody]
   simp only [nr]
   rw [if_pos c]
   simp
  ·rw [if_neg c] at hbody
   rw [whileO_step hbody,ih (z + 1) (fun y hy=>hq y (List.mem_cons_of_mem _ hy)) (by omega)]
   simp only [nr]
   rw [if_neg c]
   cases nr b q with
   | some r=>simp [List.replicate_succ]
   | none=>
    simp only [Option.map_none,List.length_cons]
    rw [show q.length + (z + 1)=q.length + 1 + z by omega]
theorem next_eq {b:Nat} (hb:b ≤ 1000) (l:List Int) (hq:∀ y,y ∈ l→0 ≤ y∧y < (b:Int)) (hl:l.length ≤ 1000) :
 F_raddleref17_next_s0 l (b:Int)=some (match nxt b l with | some r=>(true,r) | none=>(false,List.replicate l.length 0)):=by
 have h1:=nx_loop hb l.reverse 0 (fun y hy=>hq y (List.mem_reverse.1 hy)) (by simpa using hl)
 simp only [List.reverse_reverse,List.replicate_zero,List.append_nil,List.length_reverse,Nat.add_zero] at h1
 unfold F_raddleref17_next_s0
 rw [w64_of (by omega) (by omega),h1]
 unfold nxt
 cases e:nr b l.reverse with
 | some r=>
  have:=nr_len e
  simp only [Option.bind_some,Option.map_some]
  have hk:keepO l r.reverse=some r.reverse:=by
   unfold keepO
   rw [List.length_reverse] at this ⊢
   rw [if_pos (by omega)]
  rw [hk]
  rfl
 | none=>
  simp only [Option.bind_some,Option.map_none]
  simp [keepO]
def od (b:Nat):Nat→List (List Int)
 | 0=>[[]]
 | m + 1=>(List.range b).flatMap fun (v:Nat)=>(od b m).map fun r=>(v:Int) :: r
theorem od_mem {b m:Nat} {l:List Int} (h:l ∈ od b m):l.length=m∧∀ y,y ∈ l→0 ≤ y∧y < (b:Int):=by
 induction m generalizing l with
 | zero=>
  rw [List.mem_singleton.1 h]
  exact ⟨rfl,fun y hy=>absurd hy List.not_mem_nil⟩
 | succ m ih=>
  obtain ⟨v,hv,h2⟩:=List.mem_flatMap.1 h
  obtain ⟨r,hr,rfl⟩:=List.mem_map.1 h2
  have hv2:=List.mem_range.1 hv
  refine ⟨by rw [List.length_cons,(ih hr).1],fun y hy=>?_⟩
  rcases List.mem_cons.1 hy with h3 | h3
  ·rw [h3]; omega
  ·exact (ih hr).2 y h3
inductive Tr (f:List Int→Option (List Int)):List Int→List (List Int)→Option (List Int)→Prop
 | one {x:List Int} {o:Option (List Int)} (h:f x=o):Tr f x [x] o
 | cons {x y:List Int} {L:List (List Int)} {o:Option (List Int)} (h:f x=some y) (t:Tr f y L o):Tr f x (x :: L) o
theorem Tr.app {f:List Int→Option (List Int)} {x y:List Int} {L1 L2:List (List Int)} {o o1:Option (List Int)} (h1:Tr f x L1 o1) (e:o1=some y) (h2:Tr f y L2 o):Tr f x (L1 ++ L2) o:=by
 induction h1 with
 | one h=>exact .cons (h.trans e) h2
 | cons h t ih=>exact .cons h (ih e)
theorem Tr.lift {b m:Nat} {v:Int} {x:List Int} {L:List (List Int)} {o:Option (List Int)} (h:Tr (nxt b) x L o) (ho:o=none) (hm:∀ l,l ∈ L→l.length=m) :
 Tr (nxt b) (v :: x) (L.map fun r=>v :: r) (if v + 1 < (b:Int) then some ((v + 1) :: List.replicate m 0) else none):=by
 induction h with
 | one h=>
  refine .one ?_
  rw [nxt_cons,h,ho]
  simp only
  rw [hm _ List.mem_cons_self]
 | cons h t ih=>
  refine .cons ?_ (ih ho fun l hl=>hm l (List.mem_cons_of_mem _ hl))
  rw [nxt_cons,h]
theorem od_tr {b:Nat} (hb:1 ≤ b) (m:Nat):Tr (nxt b) (List.replicate m 0) (od b m) none:=by
 induction m with
 | zero=>exact .one rfl
 | succ m ih=>
  have hm:∀ l,l ∈ od b m→l.length=m:=fun l hl=>(od_mem hl).1
  have key:∀ c v,v + c + 1=b→Tr (nxt b) ((v:Int) :: List.replicate m 0) ((List.range' v (c + 1)).flatMap fun (u:Nat)=>(od b m).map fun r=>(u:Int) :: r) none:=by
   intro c
   induction c with
   | zero=>
    intro v hv
    have:=Tr.lift (v:=(v:Int)) ih rfl hm
    rw [if_neg (by omega)] at this
    simpa using this
   | succ c ihc=>
    intro v hv
    have h1:=Tr.lift (v:=(v:Int)) ih rfl hm
    rw [if_pos (by omega)] at h1
    have h2:=ihc (v + 1) (by omega)
    rw [List.range'_succ,List.flatMap_cons]
    refine Tr.app h1 ?_ h2
    rw [Int.natCast_add,Int.natCast_one]
  have:=key (b - 1) 0 (by omega)
  rw [show b - 1 + 1=b by omega,← List.range_eq_range'] at this
  exact this
def nbt:Nat→List Int→Option Nat
 | n,[]=>some n
 | n,v :: r=>if (n:Int) < v then none else nbt (if v=(n:Int) then n + 1 else n) r
def good (k n:Nat) (l:List Int):Bool:=match nbt n l with | some t=>decide (t ≤ k) | none=>false
theorem numb_eq (l:List Int) (hl:l.length ≤ 1000) (k:Nat):F_raddleref17_numbered l (k:Int)=some (good k 0 l):=by
 have key:∀ j i n,j + i=l.length→n ≤ i→whileO (raddleref17_numbered_l1 l) ((n:Int),(i:Int))=some (match nbt n (l.drop i) with | some t=>.inr (t:Int) | none=>.inl false):=by
  intro j
  induction j with
  | zero=>
   intro i n hi hn
   obtain rfl:i=l.length:=by omega
   refine whileO_done ?_
   unfold raddleref17_numbered_l1
   simp [nbt]
  | succ j ih=>
   intro i n hi hn
   have hi2:i < l.length:=by omega
   have hd:l.drop i=l[i] :: l.drop (i + 1):=List.drop_eq_getElem_cons hi2
   rw [hd]
   have hbody:raddleref17_numbered_l1 l ((n:Int),(i:Int))=some (if (n:Int) < l[i] then .inr (.inl false) else .inl (((if l[i]=(n:Int) then n + 1 else n:Nat):Int),((i + 1:Nat):Int))):=by
    unfold raddleref17_numbered_l1
    simp only [dT (show (i:Int) < (l.length:Int) by omega),if_true,idxO_nat hi2,Option.bind_some,w64_succ (show i < 9223372036854775807 by omega),w64_succ (show n < 9223372036854775807 by omega)]
    by_cases c:(n:Int) < l[i]
    ·rw [if_pos c,dT c,if_pos rfl]
     rfl
    ·rw [if_neg c,dF c,if_neg (by decide)]
     by_cases c2:l[i]=(n:Int)
     ·rw [if_pos c2,bT c2,if_pos rfl]
      rfl
     ·rw [if_neg c2,bF c2,if_neg (by decide)]
      rfl
   simp only [nbt]
   by_cases c:(n:Int) < l[i]
   ·rw [if_pos c] at hbody
    rw [if_pos c,whileO_done hbody]
   ·rw [if_neg c] at hbody
    rw [if_neg c,whileO_step hbody]
    exact ih (i + 1) _ (by omega) (by split <;> omega)
 have h0:=key l.length 0 0 (by omega) (by omega)
 rw [List.drop_zero] at h0
 unfold F_raddleref17_numbered good
 have z:(((0:Nat):Int))=0:=rfl
 rw [z] at h0
 rw [h0]
 cases nbt 0 l with
 | some t=>
  simp only [Option.bind_some]
  congr 1
  exact decide_eq_decide.2 (by omega)
 | none=>rfl
theorem flat_cut {β:Type} {f f':Nat→List β} {c b:Nat} (hc:c ≤ b) (h1:∀ v,v < c→f v=f' v) (h2:∀ v,c ≤ v→v < b→f v=[]):(List.range b).flatMap f=(List.range c).flatMap f':=by
 obtain ⟨d,rfl⟩:∃ d,b=c + d:=⟨b - c,by omega⟩
 clear hc
 induction d with
 | zero=>
  simp only [Nat.add_zero] at h2 ⊢
  clear h2
  induction c with
  | zero=>rfl
  | succ c ih=>rw [List.range_succ,List.flatMap_append,List.flatMap_append,ih fun v hv=>h1 v (by omega)]; simp [h1 c (by omega)]
 | succ d ih=>
  rw [show c + (d + 1)=(c + d) + 1 by omega,List.range_succ,List.flatMap_append,ih fun v hv hv2=>h2 v hv (by omega)]
  simp [h2 (c + d) (by omega) (by omega)]
theorem filter_flat {α β:Type} (p:β→Bool) (f:α→List β) (l:List α):(l.flatMap f).filter p=l.flatMap fun a=>(f a).filter p:=by
 induction l with
 | nil=>rfl
 | cons a l ih=>rw [List.flatMap_cons,List.filter_append,ih,List.flatMap_cons]
theorem od_rg {w k m n:Nat} (hn:n ≤ k) (hw:n + m ≤ w):(od (min w k) m).filter (good k n)=rg k m n:=by
 induction m generalizing n with
 | zero=>
  have:good k n []=true:=by unfold good; simp [nbt,hn]
  simp [od,rg,this]
 | succ m ih=>
  simp only [od,rg]
  rw [filter_flat]
  refine flat_cut (by omega) (fun v hv=>?_) (fun v hv hv2=>?_)
  ·rw [List.filter_map]
   congr 1
   have e:(good k n) ∘ (fun r=>(v:Int) :: r)=good k (max n (v + 1)):=by
    funext r
    show good k n ((v:Int) :: r)=_
    unfold good
    simp only [nbt]
    rw [if_neg (by omega)]
    have:(if (v:Int)=(n:Int) then n + 1 else n)=max n (v + 1):=by split <;> omega
    rw [this]
   rw [e]
   exact ih (by omega) (by omega)
  ·rw [List.filter_map]
   have e:(good k n) ∘ (fun r=>(v:Int) :: r)=fun _=>false:=by
    funext r
    show good k n ((v:Int) :: r)=_
    unfold good
    simp only [nbt]
    rw [if_pos (by omega)]
   rw [e]
   simp
theorem best_round {g:api_Grid} {w h:Nat} (G:Gr g w h) {k:Nat} (x:List Int) (S:List Int × Int) (hx:x.length=w) (hb:∀ y,y ∈ x→0 ≤ y∧y < ((min w k:Nat):Int)) :
 raddleref17_best_l1 (k:Int) g (x,S.1,S.2)=some (match nxt (min w k) x with | some y=>.inl (y,(if good k 0 x=true then stp (cost g w h) S x else S).1,(if good k 0 x=true then stp (cost g w h) S x else S).2) | none=>.inr ((if good k 0 x=true then stp (cost g w h) S x else S).1,(if good k 0 x=true then stp (cost g w h) S x else S).2)):=by
 have w1:=G.w1
 have hn:=next_eq (b:=min w k) (by omega) x hb (by omega)
 have hm:(if g.W < (k:Int) then g.W else (k:Int))=((min w k:Nat):Int):=by rw [G.hw]; split <;> omega
 have ga:Gr (gm (outc g w x) w h) w h:=gm_gr _ G.w0 G.w1 G.h0 G.h1
 have hap:=apart_eq ga G
 rw [cost_apd G] at hap
 have hcl:appO ([]:List Int) x=some x:=by rw [appO_of (by simp; omega)]; rfl
 have hlen:((S.1.length:Int) == 0)=decide (S.1=[]):=by
  cases S.1 with
  | nil=>rfl
  | cons a t=>simp; omega
 unfold raddleref17_best_l1
 simp only [numb_eq x (by omega) k,Option.bind_some,hm]
 cases hg:good k 0 x with
 | false=>
  simp only [Bool.false_eq_true,if_false,Option.bind_some,hn]
  cases nxt (min w k) x with
  | some y=>rfl
  | none=>rfl
 | true=>
  simp only [if_true,rch_eq G x hx,Option.bind_some,hap,hlen]
  unfold stp
  by_cases c:S.1=[]
  ·rw [if_pos (show S.1=[] ∨ (cost g w h x:Int) < S.2 from .inl c)]
   simp only [dT c,if_true,Option.bind_some,hcl,hn]
   cases nxt (min w k) x with
   | some y=>rfl
   | none=>rfl
  ·by_cases c2:(cost g w h x:Int) < S.2
   ·rw [if_pos (show S.1=[] ∨ (cost g w h x:Int) < S.2 from .inr c2)]
    simp only [dF c,Bool.false_eq_true,if_false,dT c2,if_true,Option.bind_some,hcl,hn]
    cases nxt (min w k) x with
    | some y=>rfl
    | none=>rfl
   ·rw [if_neg (show ¬ (S.1=[] ∨ (cost g w h x:Int) < S.2) from fun hc=>hc.elim c c2)]
    simp only [dF c,Bool.false_eq_true,if_false,dF c2,Option.bind_some,hn]
    cases nxt (min w k) x with
    | some y=>rfl
    | none=>rfl
theorem best_loop {g:api_Grid} {w h:Nat} (G:Gr g w h) {k:Nat} {x:List Int} {L:List (List Int)} {o:Option (List Int)} (t:Tr (nxt (min w k)) x L o) (ho:o=none) (hL:∀ l,l ∈ L→l.length=w∧∀ y,y ∈ l→0 ≤ y∧y < ((min w k:Nat):Int)) (S:List Int × Int) :
 whileO (raddleref17_best_l1 (k:Int) g) (x,S.1,S.2)=some (L.foldl (fun S l=>if good k 0 l=true then stp (cost g w h) S l else S) S):=by
 induction t generalizing S with
 | @one x o hx=>
  have h1:=hL x List.mem_cons_self
  have hr:=best_round G (k:=k) x S h1.1 h1.2
  rw [hx,ho] at hr
  rw [whileO_done hr]
  rfl
 | @cons x y L o hx t ih=>
  have h1:=hL x List.mem_cons_self
  have hr:=best_round G (k:=k) x S h1.1 h1.2
  rw [hx] at hr
  rw [whileO_step hr,ih ho (fun l hl=>hL l (List.mem_cons_of_mem _ hl))]
  rfl
theorem rbest_eq {g:api_Grid} {w h:Nat} (G:Gr g w h) {k:Nat} (hk:1 ≤ k):F_raddleref17_best g (k:Int)=some (bst g w h k):=by
 have w0:=G.w0
 have w1:=G.w1
 have h1:=best_loop G (od_tr (b:=min w k) (by omega) w) rfl (fun l hl=>od_mem hl) ([],0)
 unfold F_raddleref17_best
 rw [makeO_of (k:=w) G.hw (by omega)]
 simp only [Option.bind_some]
 have e:(od (min w k) w).foldl (fun S l=>if good k 0 l=true then stp (cost g w h) S l else S) ([],0)=bst g w h k:=by
  unfold bst
  rw [← od_rg (w:=w) (k:=k) (m:=w) (n:=0) (by omega) (by omega),List.foldl_filter]
 rw [e] at h1
 rw [h1]
 rfl
def ferr (g:api_Grid):Int:=if gerr g=0 then (if 8 < g.W then 4 else 0) else gerr g
theorem few_eq (g:api_Grid):F_reduce_few g=some (ferr g)∧F_raddleref17_Few g=some (ferr g):=by
 unfold F_reduce_few F_raddleref17_Few ferr
 simp only [(gcheck_eq g).1,(gcheck_eq g).2,Option.bind_some]
 by_cases h:gerr g=0
 ·rw [nF h,if_pos h]
  by_cases h2:8 < g.W
  ·simp [h2]
  ·simp [h2]
 ·rw [nT h,if_neg h]
  exact ⟨rfl,rfl⟩
theorem gr_ferr {g:api_Grid} {w h:Nat} (G:Gr g w h) (hw:w ≤ 8):ferr g=0:=by
 unfold ferr
 rw [if_pos (gr_err G),if_neg (by rw [G.hw]; omega)]
theorem best_eq {g:api_Grid} {w h:Nat} (G:Gr g w h) (hw:w ≤ 8) {k:Nat} (h1:1 ≤ k) (h2:k ≤ 40) :
 F_reduce_Best g (k:Int)=some ((bst g w h k).1,(bst g w h k).2,0)∧F_raddleref17_Best g (k:Int)=some ((bst g w h k).1,(bst g w h k).2,0):=by
 unfold F_reduce_Best F_raddleref17_Best
 simp only [(few_eq g).1,(few_eq g).2,gr_ferr G hw,Option.bind_some,nF (show (0:Int)=0 from rfl),Bool.false_eq_true,if_false,dF (show ¬ (k:Int) < 1 by omega),dF (show ¬ (40:Int) < (k:Int) by omega),search_eq G h2 hw,rbest_eq G h1,and_self]
theorem dist_eq {a b:api_Grid} {w h:Nat} (A:Gr a w h) (B:Gr b w h):F_reduce_Distance a b=some (((apd a b (w * h):Nat):Int),0):=by
 have h1:whileO (reduce_Distance_l1 a b) (0,0)=some ((apd a b (w * h):Nat):Int):=apart_loop A B
 unfold F_reduce_Distance
 simp only [(gcheck_eq a).1,(gcheck_eq b).1,gr_err A,gr_err B,Option.bind_some,nF (show (0:Int)=0 from rfl),Bool.false_eq_true,if_false,nF (show a.W=b.W by rw [A.hw,B.hw]),nF (show a.H=b.H by rw [A.hh,B.hh]),h1]
def g3:api_Grid:=⟨3,2,[true,true,true,true,true,false]⟩
def g2:api_Grid:=⟨2,1,[true,false]⟩
theorem three_eq:F_raddlelaw17_three=some g3:=rfl
theorem two_eq:F_raddlelaw17_two=some g2:=rfl
theorem G3:Gr g3 3 2:=⟨rfl,rfl,by decide,by decide,by decide,by decide,rfl⟩
theorem G2:Gr g2 2 1:=⟨rfl,rfl,by decide,by decide,by decide,by decide,rfl⟩
theorem al1:F_reduce_Best g3 1=some ([0,0,0],1,0):=by
 have:=(best_eq G3 (by decide) (k:=1) (by decide) (by decide)).1
 rw [show bst g3 3 2 1=([0,0,0],1) by decide] at this
 exact this
theorem al2:F_reduce_Change g3 [0,0,0]=some (⟨3,2,[true,true,true,true,true,true]⟩,1,0):=by
 rw [chg_plain,chg_eq G3 [0,0,0] rfl (by decide),show cost g3 3 2 [0,0,0]=1 by decide]
 rfl
theorem al3:F_reduce_Best g3 2=some ([0,0,1],0,0):=by
 have:=(best_eq G3 (by decide) (k:=2) (by decide) (by decide)).1
 rw [show bst g3 3 2 2=([0,0,1],0) by decide] at this
 exact this
theorem al4:F_reduce_Change g2 [0,0]=some (⟨2,1,[false,false]⟩,1,0):=by
 rw [chg_plain,chg_eq G2 [0,0] rfl (by decide),show cost g2 2 1 [0,0]=1 by decide]
 rfl
theorem zero21:F_raddleref01_Zero 2 1=some ⟨2,1,[false,false]⟩:=by
 unfold F_raddleref01_Zero
 rw [makeO_of (k:=2) (by decide) (by decide)]
 rfl
theorem alive17:F_raddlelaw17_alive=some true:=by
 have s1:F_raddleref02_Same [0,0,0] [0,0,0]=some true:=by rw [rsame_il _ _ (by decide)]; rfl
 have s2:F_raddleref02_Same [0,0,1] [0,0,1]=some true:=by rw [rsame_il _ _ (by decide)]; rfl
 have s3:F_raddleref01_Same ⟨3,2,[true,true,true,true,true,true]⟩ ⟨3,2,[true,true,true,true,true,true]⟩=some true:=by rw [rsame_grid _ _ (by decide)]; simp
 have s4:F_raddleref01_Same ⟨2,1,[false,false]⟩ ⟨2,1,[false,false]⟩=some true:=by rw [rsame_grid _ _ (by decide)]; simp
 unfold F_raddlelaw17_alive
 simp only [three_eq,two_eq,al1,al2,al3,al4,Option.bind_some,zero21,s1,s2,s3,s4]
 rfl
theorem rg_head {k:Nat} (hk:1 ≤ k) (m n:Nat):∃ t,rg k m n=List.replicate m 0 :: t:=by
 induction m generalizing n with
 | zero=>exact ⟨[],rfl⟩
 | succ m ih=>
  obtain ⟨c,hc⟩:∃ c,min k (n + 1)=c + 1:=⟨min k (n + 1) - 1,by omega⟩
  obtain ⟨t,ht⟩:=ih (max n (0 + 1))
  simp only [rg]
  rw [hc,List.range_succ_eq_map,List.flatMap_cons,ht]
  exact ⟨_,by rw [List.map_cons,List.cons_append,List.replicate_succ]; rfl⟩
theorem dcnt_add (f b:Nat→Bool) (m n:Nat):dcnt f b (m + n)=dcnt f b m + dcnt (fun x=>f (m + x)) (fun x=>b (m + x)) n:=by
 induction n with
 | zero=>rfl
 | succ n ih=>
  rw [← Nat.add_assoc]
  simp only [dcnt]
  rw [ih,Nat.add_assoc]
def nsm (f:Nat→Nat):Nat→Nat
 | 0=>0
 | n + 1=>nsm f n + f n
theorem nsm_le {f g:Nat→Nat} {n:Nat} (h:∀ i,i < n→f i ≤ g i):nsm f n ≤ nsm g n:=by
 induction n with
 | zero=>exact Nat.le_refl _
 | succ n ih=>exact Nat.add_le_add (ih fun i hi=>h i (by omega)) (h n (by omega))
theorem nsm_zero {f:Nat→Nat} {n:Nat} (h:∀ i,i < n→f i=0):nsm f n=0:=by
 induction n with
 | zero=>rfl
 | succ n ih=>
  simp only [nsm]
  rw [ih fun i hi=>h i (by omega),h n (by omega)]
theorem nsm_add (f g:Nat→Nat) (n:Nat):nsm (fun i=>f i + g i) n=nsm f n + nsm g n:=by
 induction n with
 | zero=>rfl
 | succ n ih=>
  simp only [nsm]
  rw [ih]
  omega
theorem nsm_point {j c n:Nat} (h:j < n):nsm (fun i=>if i=j then c else 0) n=c:=by
 induction n with
 | zero=>omega
 | succ n ih=>
  simp only [nsm]
  by_cases e:n=j
  ·subst e
   rw [if_pos rfl,nsm_zero fun i hi=>if_neg (by omega)]
   omega
  ·rw [if_neg e,ih (by omega)]
   omega
theorem dcnt_rows (f b:Nat→Bool) (w h:Nat):dcnt f b (h * w)=nsm (fun y=>dcnt (fun x=>f (y * w + x)) (fun x=>b (y * w + x)) w) h:=by
 induction h with
 | zero=>rw [Nat.zero_mul]; rfl
 | succ h ih=>
  rw [Nat.add_mul,Nat.one_mul,dcnt_add,ih]
  rfl
theorem dcnt_mis {s:Nat→Int} {b:Nat→Bool} {n K:Nat} (hs:∀ x,x < n→0 ≤ s x∧s x < (K:Int)) (c:Int→Bool):dcnt (fun x=>c (s x)) b n=nsm (fun v=>upk s b (v:Int) (!(c v)) n) K:=by
 induction n with
 | zero=>exact (nsm_zero fun i _=>rfl).symm
 | succ n ih=>
  simp only [dcnt,upk]
  rw [nsm_add,ih fun x hx=>hs x (by omega)]
  have h1:=hs n (by omega)
  obtain ⟨j,hj⟩:∃ j:Nat,s n=(j:Int):=⟨(s n).toNat,by omega⟩
  have e:(fun v:Nat=>if s n=(v:Int)∧b n=!(c v) then 1 else 0)=fun v=>if v=j then (if (c (s n) != b n)=true then 1 else 0) else 0:=by
   funext v
   by_cases hv:v=j
   ·subst hv
    rw [if_pos rfl,← hj]
    cases b n <;> cases c (s n) <;> simp
   ·rw [if_neg hv,if_neg]
    rintro ⟨h2,_⟩
    omega
  rw [e,nsm_point (by omega)]
theorem maj_le {s:Nat→Int} {b:Nat→Bool} {n K:Nat} (hs:∀ x,x < n→0 ≤ s x∧s x < (K:Int)) (c:Int→Bool):dcnt (fun x=>decide (0 < netk s b (s x) n)) b n ≤ dcnt (fun x=>c (s x)) b n:=by
 rw [dcnt_mis hs (fun v=>decide (0 < netk s b v n)),dcnt_mis hs c]
 refine nsm_le fun v _=>?_
 have h1:=upk_net s b (v:Int) n
 by_cases h2:0 < netk s b (v:Int) n
 ·rw [decide_eq_true h2]
  cases c v
  ·show upk s b (v:Int) false n ≤ upk s b (v:Int) true n
   omega
  ·exact Nat.le_refl _
 ·rw [decide_eq_false h2]
  cases c v
  ·exact Nat.le_refl _
  ·show upk s b (v:Int) true n ≤ upk s b (v:Int) false n
   omega
theorem sl_bd {l:List Int} {w:Nat} (hl:l.length=w) (hb:∀ y,y ∈ l→0 ≤ y∧y < 400) (x:Nat) (hx:x < w):0 ≤ sl l x∧sl l x < ((400:Nat):Int):=by
 have e:l[x]'(by omega)=sl l x:=getD_of (by omega) 0
 have:=hb _ (List.getElem_mem (l:=l) (n:=x) (by omega))
 rw [e] at this
 exact this
theorem cost_le {g p:api_Grid} {w h:Nat} {l:List Int} (hl:l.length=w) (hb:∀ y,y ∈ l→0 ≤ y∧y < 400)
 (hc:∀ x x' y,x < w→x' < w→y < h→sl l x=sl l x'→cell p w x y=cell p w x' y):cost g w h l ≤ apd p g (w * h):=by
 unfold cost apd
 rw [Nat.mul_comm w h,dcnt_rows,dcnt_rows]
 refine nsm_le fun y hy=>?_
 have e1:dcnt (fun x=>oF g w l (y * w + x)) (fun x=>oB g (y * w + x)) w=dcnt (fun x=>decide (0 < netk (sl l) (cb g w y) (sl l x) w)) (cb g w y) w:=by
  refine dcnt_cong fun x hx=>⟨?_,rfl⟩
  unfold oF
  rw [pl_mod hx,pl_div hx]
  rfl
 have hcf:∃ cf:Int→Bool,∀ x,x < w→cf (sl l x)=cell p w x y:=by
  refine ⟨fun v=>@decide (∃ x,x < w∧sl l x=v∧cell p w x y=true) (Classical.propDecidable _),fun x hx=>?_⟩
  cases hq:cell p w x y with
  | true=>exact @decide_eq_true _ (Classical.propDecidable _) ⟨x,hx,rfl,hq⟩
  | false=>
   refine @decide_eq_false _ (Classical.propDecidable _) ?_
   rintro ⟨x',hx',h1,h2⟩
   rw [hc x' x y hx' hx hy h1,hq] at h2
   cases h2
 obtain ⟨cf,hcf⟩:=hcf
 have e2:dcnt (fun x=>p.Bits.getD (y * w + x) false) (fun x=>g.Bits.getD (y * w + x) false) w=dcnt (fun x=>cf (sl l x)) (cb g w y) w:=
  dcnt_cong fun x hx=>⟨(hcf x hx).symm,rfl⟩
 rw [e1]
 refine Nat.le_trans (maj_le (sl_bd hl hb) cf) (Nat.le_of_eq e2.symm)
def fnl {α:Type} [DecidableEq α] (F:List α) (a:α):List α:=if a ∈ F then F else F ++ [a]
def fns {α:Type} [DecidableEq α] (F ks:List α):List α:=ks.foldl fnl F
theorem fnl_mem {α:Type} [DecidableEq α] {F:List α} {a b:α}:b ∈ fnl F a ↔ b ∈ F ∨ b=a:=by
 unfold fnl
 by_cases h:a ∈ F
 ·rw [if_pos h]
  constructor
  ·exact .inl
  ·rintro (h1 | h1)
   ·exact h1
   ·rw [h1]; exact h
 ·rw [if_neg h]
  simp
theorem fns_mem {α:Type} [DecidableEq α] {F ks:List α} {b:α}:b ∈ fns F ks ↔ b ∈ F ∨ b ∈ ks:=by
 induction ks generalizing F with
 | nil=>simp [fns]
 | cons a r ih=>
  show b ∈ fns (fnl F a) r ↔ _
  rw [ih,fnl_mem,List.mem_cons]
  constructor
  ·rintro ((h | h) | h)
   ·exact .inl h
   ·exact .inr (.inl h)
   ·exact .inr (.inr h)
  ·rintro (h | h | h)
   ·exact .inl (.inl h)
   ·exact .inl (.inr h)
   ·exact .inr h
theorem fns_ext {α:Type} [DecidableEq α] (F ks:List α):∃ t,fns F ks=F ++ t:=by
 induction ks generalizing F with
 | nil=>exact ⟨[],by simp [fns]⟩
 | cons a r ih=>
  obtain ⟨t,ht⟩:=ih (fnl F a)
  have e:fns F (a :: r)=fns (fnl F a) r:=rfl
  rw [e,ht]
  unfold fnl
  by_cases h:a ∈ F
  ·rw [if_pos h]; exact ⟨t,rfl⟩
  ·rw [if_neg h]; exact ⟨[a] ++ t,by simp⟩
theorem idx_ext {α:Type} [DecidableEq α] {F:List α} {a:α} (h:a ∈ F) (t:List α):(F ++ t).idxOf a=F.idxOf a:=by
 rw [List.idxOf_append,if_pos h]
theorem idx_inj {α:Type} [DecidableEq α] {F:List α} {a b:α} (ha:a ∈ F) (hb:b ∈ F) (h:F.idxOf a=F.idxOf b):a=b:=by
 have h1:=List.idxOf_lt_length_of_mem ha
 have h2:=List.idxOf_lt_length_of_mem hb
 have e1:F[F.idxOf a]=a:=List.getElem_idxOf h1
 have e2:F[F.idxOf b]=b:=List.getElem_idxOf h2
 rw [← e1,← e2]
 congr 1
theorem idx_new {α:Type} [DecidableEq α] {F:List α} {a:α} (h:¬ a ∈ F) (t:List α):((F ++ [a]) ++ t).idxOf a=F.length:=by
 rw [idx_ext (by simp) t,List.idxOf_append,if_neg h]
 simp
theorem canon {α:Type} [DecidableEq α] (k:Nat) (ks:List α) (F:List α) (hk:(fns F ks).length ≤ k):(ks.map fun a=>((fns F ks).idxOf a:Int)) ∈ rg k ks.length F.length:=by
 induction ks generalizing F with
 | nil=>simp [rg]
 | cons a r ih=>
  have hd:fns F (a :: r)=fns (fnl F a) r:=rfl
  rw [hd] at hk ⊢
  have h1:=ih (fnl F a) hk
  obtain ⟨t,ht⟩:=fns_ext (fnl F a) r
  have hlen:(fnl F a).length ≤ (fns (fnl F a) r).length:=by rw [ht,List.length_append]; omega
  have key:(fns (fnl F a) r).idxOf a < (fnl F a).length∧(fns (fnl F a) r).idxOf a < F.length + 1∧max F.length ((fns (fnl F a) r).idxOf a + 1)=(fnl F a).length:=by
   rw [ht]
   by_cases h:a ∈ F
   ·have e:fnl F a=F:=if_pos h
    rw [e,idx_ext h]
    have:=List.idxOf_lt_length_of_mem h
    omega
   ·have e:fnl F a=F ++ [a]:=if_neg h
    rw [e,idx_new h,List.length_append,List.length_singleton]
    omega
  simp only [List.map_cons,List.length_cons,rg]
  refine List.mem_flatMap.2 ⟨(fns (fnl F a) r).idxOf a,List.mem_range.2 (by omega),List.mem_map.2 ⟨_,?_,rfl⟩⟩
  rw [key.2.2]
  exact h1
theorem pig {α:Type} [DecidableEq α] (k:Nat) (K:Int→α) (m:Nat):∀ (n:Nat) (l:List Int) (F:List α),l ∈ rg k m n→(∀ v:Nat,v < n→K (v:Int) ∈ F)→F.length ≤ n→n ≤ k→(fns F (l.map K)).length ≤ k:=by
 induction m with
 | zero=>
  intro n l F hl _ h2 h3
  rw [List.mem_singleton.1 hl]
  exact Nat.le_trans h2 h3
 | succ m ih=>
  intro n l F hl h1 h2 h3
  simp only [rg] at hl
  obtain ⟨v,hv,h4⟩:=List.mem_flatMap.1 hl
  obtain ⟨r,hr,rfl⟩:=List.mem_map.1 h4
  have hv2:=List.mem_range.1 hv
  show (fns (fnl F (K (v:Int))) (r.map K)).length ≤ k
  refine ih (max n (v + 1)) r _ hr (fun u hu=>?_) ?_ (by omega)
  ·rw [fnl_mem]
   by_cases e:u < n
   ·exact .inl (h1 u e)
   ·obtain rfl:u=v:=by omega
    exact .inr rfl
  ·unfold fnl
   by_cases e:K (v:Int) ∈ F
   ·rw [if_pos e]; omega
   ·rw [if_neg e,List.length_append,List.length_singleton]
    have:¬ v < n:=fun h=>e (h1 v h)
    omega
theorem rg_mem {k m n:Nat} {l:List Int} (h:l ∈ rg k m n):l.length=m∧∀ y,y ∈ l→0 ≤ y∧y < (k:Int):=by
 induction m generalizing n l with
 | zero=>
  rw [List.mem_singleton.1 h]
  exact ⟨rfl,fun y hy=>absurd hy List.not_mem_nil⟩
 | succ m ih=>
  simp only [rg] at h
  obtain ⟨v,hv,h2⟩:=List.mem_flatMap.1 h
  obtain ⟨r,hr,rfl⟩:=List.mem_map.1 h2
  have hv2:=List.mem_range.1 hv
  refine ⟨by rw [List.length_cons,(ih hr).1],fun y hy=>?_⟩
  rcases List.mem_cons.1 hy with h3 | h3
  ·rw [h3]; omega
  ·exact (ih hr).2 y h3
theorem stp_min (f:List Int→Nat) (L:List (List Int)):∀ S:List Int × Int,S.1 ≠ []→(∀ l,l ∈ L→l ≠ [])→(L.foldl (stp f) S).2 ≤ S.2∧(∀ l,l ∈ L→(L.foldl (stp f) S).2 ≤ (f l:Int))∧(L.foldl (stp f) S=S ∨ ∃ l,l ∈ L∧L.foldl (stp f) S=(l,(f l:Int))):=by
 induction L with
 | nil=>exact fun S _ _=>⟨Int.le_refl _,fun l hl=>absurd hl List.not_mem_nil,.inl rfl⟩
 | cons a L ih=>
  intro S hS hL
  rw [List.foldl_cons]
  by_cases c:(f a:Int) < S.2
  ·have e:stp f S a=(a,(f a:Int)):=if_pos (.inr c)
   rw [e]
   obtain ⟨h1,h2,h3⟩:=ih (a,(f a:Int)) (hL a List.mem_cons_self) fun l hl=>hL l (List.mem_cons_of_mem _ hl)
   refine ⟨by have h4:(List.foldl (stp f) (a,(f a:Int)) L).2 ≤ (f a:Int):=h1; omega,fun l hl=>?_,?_⟩
   ·rcases List.mem_cons.1 hl with h5 | h5
    ·rw [h5]; exact h1
    ·exact h2 l h5
   ·rcases h3 with h3 | ⟨l,h5,h6⟩
    ·exact .inr ⟨a,List.mem_cons_self,h3⟩
    ·exact .inr ⟨l,List.mem_cons_of_mem _ h5,h6⟩
  ·have e:stp f S a=S:=if_neg fun hc=>hc.elim hS c
   rw [e]
   obtain ⟨h1,h2,h3⟩:=ih S hS fun l hl=>hL l (List.mem_cons_of_mem _ hl)
   refine ⟨h1,fun l hl=>?_,?_⟩
   ·rcases List.mem_cons.1 hl with h5 | h5
    ·rw [h5]; omega
    ·exact h2 l h5
   ·rcases h3 with h3 | ⟨l,h5,h6⟩
    ·exact .inl h3
    ·exact .inr ⟨l,List.mem_cons_of_mem _ h5,h6⟩
theorem bst_min {g:api_Grid} {w h k:Nat} (hk:1 ≤ k) (hw:1 ≤ w):∃ l,l ∈ rg k w 0∧bst g w h k=(l,(cost g w h l:Int))∧∀ l',l' ∈ rg k w 0→cost g w h l ≤ cost g w h l':=by
 obtain ⟨t,ht⟩:=rg_head hk w 0
 have hne:∀ l,l ∈ rg k w 0→l ≠ []:=by
  intro l hl e
  have:=(rg_mem hl).1
  rw [e,List.length_nil] at this
  omega
 have e0:stp (cost g w h) ([],0) (List.replicate w 0)=(List.replicate w 0,(cost g w h (List.replicate w 0):Int)):=if_pos (.inl rfl)
 have hb:bst g w h k=t.foldl (stp (cost g w h)) (List.replicate w 0,(cost g w h (List.replicate w 0):Int)):=by
  unfold bst
  rw [ht,List.foldl_cons,e0]
 rw [ht] at hne
 obtain ⟨h1,h2,h3⟩:=stp_min (cost g w h) t (List.replicate w 0,(cost g w h (List.replicate w 0):Int)) (hne _ List.mem_cons_self) fun l hl=>hne l (List.mem_cons_of_mem _ hl)
 rw [← hb] at h1 h2 h3
 have hm:∀ l',l' ∈ rg k w 0→(bst g w h k).2 ≤ (cost g w h l':Int):=by
  intro l' hl'
  rw [ht] at hl'
  rcases List.mem_cons.1 hl' with h5 | h5
  ·rw [h5]; exact h1
  ·exact h2 l' h5
 rcases h3 with h3 | ⟨l,h5,h6⟩
 ·refine ⟨List.replicate w 0,by rw [ht]; exact List.mem_cons_self,h3,fun l' hl'=>?_⟩
  have:=hm l' hl'
  rw [h3] at this
  exact Int.ofNat_le.1 this
 ·refine ⟨l,by rw [ht]; exact List.mem_cons_of_mem _ h5,h6,fun l' hl'=>?_⟩
  have:=hm l' hl'
  rw [h6] at this
  exact Int.ofNat_le.1 this
def col (g:api_Grid) (w h x:Nat):List Bool:=(List.range h).map fun y=>cell g w x y
def cols (g:api_Grid) (w h n:Nat):List (List Bool):=(List.range n).map (col g w h)
theorem col_iff {g:api_Grid} {w h x x':Nat}:col g w h x=col g w h x' ↔ ∀ y,y < h→cell g w x y=cell g w x' y:=by
 unfold col
 constructor
 ·intro e y hy
  have:=congrArg (fun l=>l[y]?) e
  simp only [List.getElem?_map,List.getElem?_range hy,Option.map_some,Option.some.injEq] at this
  exact this
 ·intro e
  exact List.map_congr_left fun y hy=>e y (List.mem_range.1 hy)
theorem fns_snoc {α:Type} [DecidableEq α] (F ks:List α) (a:α):fns F (ks ++ [a])=fnl (fns F ks) a:=by
 unfold fns
 rw [List.foldl_append]
 rfl
theorem fns_len {α:Type} [DecidableEq α] (F ks:List α):(fns F ks).length ≤ F.length + ks.length:=by
 induction ks generalizing F with
 | nil=>exact Nat.le_refl _
 | cons a r ih=>
  have h1:=ih (fnl F a)
  have h2:(fnl F a).length ≤ F.length + 1:=by
   unfold fnl
   split
   ·omega
   ·rw [List.length_append,List.length_singleton]; omega
  have e:fns F (a :: r)=fns (fnl F a) r:=rfl
  rw [e,List.length_cons]
  omega
def eqn (g:api_Grid) (w x j n:Nat):Bool:=(List.range n).all fun y=>cell g w x y == cell g w j y
theorem eqn_succ (g:api_Grid) (w x j n:Nat):eqn g w x j (n + 1)=(eqn g w x j n && (cell g w x n == cell g w j n)):=by simp [eqn,List.range_succ]
theorem eqn_col (g:api_Grid) (w h x j:Nat):eqn g w x j h=decide (col g w h x=col g w h j):=by
 by_cases c:col g w h x=col g w h j
 ·rw [decide_eq_true c]
  have:=col_iff.1 c
  exact List.all_eq_true.2 fun y hy=>by rw [this y (List.mem_range.1 hy)]; simp
 ·rw [decide_eq_false c]
  cases e:eqn g w x j h with
  | false=>rfl
  | true=>
   exfalso
   apply c
   refine col_iff.2 fun y hy=>?_
   have:=List.all_eq_true.1 e y (List.mem_range.2 hy)
   simpa using this
theorem cols_succ (g:api_Grid) (w h n:Nat):cols g w h (n + 1)=cols g w h n ++ [col g w h n]:=by simp [cols,List.range_succ]
theorem kinds_eq {g:api_Grid} {w h:Nat} (G:Gr g w h):F_raddleref17_Kinds g=some (((fns [] (cols g w h w)).length:Nat):Int):=by
 have w1:=G.w1
 have h1:=G.h1
 have L1:∀ x j,x < w→j < w→whileO (raddleref17_Kinds_l1 g (x:Int) (j:Int)) (true,0)=some (decide (col g w h x=col g w h j)):=by
  intro x j hx hj
  rw [← eqn_col]
  refine loop_seq (fun y=>(eqn g w x j y,(y:Int))) h (fun y hy=>?_) ?_
  ·unfold raddleref17_Kinds_l1
   rw [G.hh,eqn_succ]
   simp only [dT (show (y:Int) < (h:Int) by omega),if_true,rat_eq G hx hy,rat_eq G hj hy,Option.bind_some,w64_succ (show y < 9223372036854775807 by omega)]
   cases eqn g w x j y <;> rfl
  ·unfold raddleref17_Kinds_l1
   rw [G.hh]
   simp only [dF (show ¬ (h:Int) < (h:Int) by omega),Bool.false_eq_true,if_false]
 have L2:∀ x,x < w→whileO (raddleref17_Kinds_l2 (x:Int) g) (false,0)=some (decide (col g w h x ∈ cols g w h x)):=by
  intro x hx
  have:=loop_seq (B:=raddleref17_Kinds_l2 (x:Int) g) (t:=decide (col g w h x ∈ cols g w h x)) (fun j=>(decide (col g w h x ∈ cols g w h j),(j:Int))) x (fun j hj=>?_) ?_
  ·exact this
  ·unfold raddleref17_Kinds_l2
   have e:decide (col g w h x ∈ cols g w h (j + 1))=(decide (col g w h x ∈ cols g w h j) || decide (col g w h x=col g w h j)):=by
    rw [cols_succ,← Bool.decide_or]
    exact decide_eq_decide.2 (by rw [List.mem_append,List.mem_singleton])
   rw [e]
   simp only [dT (show (j:Int) < (x:Int) by omega),if_true,L1 x j hx (by omega),Option.bind_some,w64_succ (show j < 9223372036854775807 by omega)]
   cases decide (col g w h x ∈ cols g w h j) <;> rfl
  ·unfold raddleref17_Kinds_l2
   simp only [dF (show ¬ (x:Int) < (x:Int) by omega),Bool.false_eq_true,if_false]
 have L3:whileO (raddleref17_Kinds_l3 g) (0,0)=some (((fns [] (cols g w h w)).length:Nat):Int):=by
  refine loop_seq (fun x=>((((fns [] (cols g w h x)).length:Nat):Int),(x:Int))) w (fun x hx=>?_) ?_
  ·unfold raddleref17_Kinds_l3
   have hl:=fns_len [] (cols g w h x)
   have hl2:(cols g w h x).length=x:=by simp [cols]
   rw [G.hw,cols_succ,fns_snoc]
   simp only [dT (show (x:Int) < (w:Int) by omega),if_true,L2 x hx,Option.bind_some,w64_succ (show x < 9223372036854775807 by omega)]
   rw [hl2,List.length_nil] at hl
   rw [w64_succ (by omega)]
   by_cases c:col g w h x ∈ cols g w h x
   ·have c2:fnl (fns [] (cols g w h x)) (col g w h x)=fns [] (cols g w h x):=if_pos (fns_mem.2 (.inr c))
    rw [c2,decide_eq_true c]
    rfl
   ·have c2:fnl (fns [] (cols g w h x)) (col g w h x)=fns [] (cols g w h x) ++ [col g w h x]:=if_neg (by
     intro hm
     rcases fns_mem.1 hm with hm | hm
     ·exact absurd hm List.not_mem_nil
     ·exact c hm)
    rw [c2,decide_eq_false c,List.length_append,List.length_singleton]
    rfl
  ·unfold raddleref17_Kinds_l3
   rw [G.hw]
   simp only [dF (show ¬ (w:Int) < (w:Int) by omega),Bool.false_eq_true,if_false]
 unfold F_raddleref17_Kinds
 simp only [L3,Option.bind_some]
theorem sl_map {α:Type} (w:Nat) (f:Nat→Int) {x:Nat} (hx:x < w):sl ((List.range w).map f) x=f x:=by
 unfold sl
 simp [List.getD_eq_getElem?_getD,List.getElem?_range hx]
theorem list_sl {l:List Int} {w:Nat} (hl:l.length=w):l=(List.range w).map (sl l):=by
 apply List.ext_getElem?
 intro t
 by_cases ht:t < w
 ·rw [List.getElem?_map,List.getElem?_range ht,List.getElem?_eq_getElem (by omega),Option.map_some]
  congr 1
  exact getD_of (by omega) 0
 ·rw [List.getElem?_eq_none (by omega),List.getElem?_eq_none (by simp; omega)]
theorem canonN {α:Type} [DecidableEq α] (κ:Nat→α) {w k:Nat} (hk:(fns [] ((List.range w).map κ)).length ≤ k):∃ l,l ∈ rg k w 0∧∀ x x',x < w→x' < w→sl l x=sl l x'→κ x=κ x':=by
 have h1:=canon k ((List.range w).map κ) [] hk
 rw [List.map_map,List.length_map,List.length_range,List.length_nil] at h1
 refine ⟨_,h1,fun x x' hx hx' e=>?_⟩
 rw [sl_map (α:=α) w _ hx,sl_map (α:=α) w _ hx'] at e
 have m1:κ x ∈ fns [] ((List.range w).map κ):=fns_mem.2 (.inr (List.mem_map.2 ⟨x,List.mem_range.2 hx,rfl⟩))
 have m2:κ x' ∈ fns [] ((List.range w).map κ):=fns_mem.2 (.inr (List.mem_map.2 ⟨x',List.mem_range.2 hx',rfl⟩))
 exact idx_inj m1 m2 (Int.ofNat_inj.1 e)
theorem rg_400 {k w:Nat} (hk:k ≤ 400) {l:List Int} (hl:l ∈ rg k w 0):l.length=w∧∀ y,y ∈ l→0 ≤ y∧y < 400:=
 ⟨(rg_mem hl).1,fun y hy=>by have:=(rg_mem hl).2 y hy; omega⟩
def colK (g:api_Grid) (w h:Nat) (l:List Int) (v:Int):List Bool:=(List.range h).map fun y=>decide (0 < netk (sl l) (cb g w y) v w)
theorem cols_of {g p:api_Grid} {w h:Nat} {l:List Int} (hl:l.length=w) (e:∀ x y,x < w→y < h→cell p w x y=outc g w l x y):cols p w h w=l.map (colK g w h l):=by
 have e1:(l.map (colK g w h l))=((List.range w).map (sl l)).map (colK g w h l):=congrArg (List.map (colK g w h l)) (list_sl hl)
 rw [e1,List.map_map]
 unfold cols
 refine List.map_congr_left fun x hx=>?_
 show col p w h x=colK g w h l (sl l x)
 unfold col colK
 exact List.map_congr_left fun y hy=>e x y (List.mem_range.1 hx) (List.mem_range.1 hy)
theorem kinds_le {g p:api_Grid} {w h k:Nat} {l:List Int} (hl:l ∈ rg k w 0) (e:∀ x y,x < w→y < h→cell p w x y=outc g w l x y):(fns [] (cols p w h w)).length ≤ k:=by
 rw [cols_of (rg_mem hl).1 e]
 exact pig k (colK g w h l) w 0 l [] hl (fun v hv=>absurd hv (Nat.not_lt_zero v)) (Nat.le_refl _) (Nat.zero_le _)
theorem bst_le_apd {g p:api_Grid} {w h k:Nat} (hk:k ≤ 400) {α:Type} [DecidableEq α] (κ:Nat→α) (hn:(fns [] ((List.range w).map κ)).length ≤ k)
 (hp:∀ x x' y,x < w→x' < w→y < h→κ x=κ x'→cell p w x y=cell p w x' y):∃ l,l ∈ rg k w 0∧cost g w h l ≤ apd p g (w * h):=by
 obtain ⟨l,hl,h1⟩:=canonN κ hn
 exact ⟨l,hl,cost_le (rg_400 hk hl).1 (rg_400 hk hl).2 fun x x' y hx hx' hy e=>hp x x' y hx hx' hy (h1 x x' hx hx' e)⟩
theorem fit_of {g:api_Grid} {w h:Nat} (G:Gr g w h) (hw:w ≤ 6) (hh:h ≤ 20):F_raddlelaw17_fit g=some true:=by
 have hp:w * h ≤ 6 * 20:=Nat.mul_le_mul hw hh
 have hl:=G.len
 unfold F_raddlelaw17_fit
 simp only [rgreat_eq,(gcheck_eq g).2,gr_err G,Option.bind_some,dF (show ¬ 4200 < g.Bits.length by omega)]
 rw [G.hw,G.hh]
 simp only [dT (show (w:Int) ≤ 6 by omega),dT (show (h:Int) ≤ 20 by omega)]
 rfl
theorem fit_cases (g:api_Grid):F_raddlelaw17_fit g=some false ∨ (F_raddlelaw17_fit g=some true∧∃ w h,Gr g w h∧w ≤ 6∧h ≤ 20):=by
 by_cases c:gerr g=0
 ·obtain ⟨w,h,G⟩:=gerr_zero c
  by_cases c2:w ≤ 6∧h ≤ 20
  ·exact .inr ⟨fit_of G c2.1 c2.2,w,h,G,c2.1,c2.2⟩
  ·refine .inl ?_
   unfold F_raddlelaw17_fit
   simp only [rgreat_eq,(gcheck_eq g).2,c,Option.bind_some]
   rw [G.hw,G.hh]
   by_cases c3:4200 < g.Bits.length
   ·simp [c3]
   ·by_cases c4:w ≤ 6
    ·simp [c3,show (w:Int) ≤ 6 by omega,show ¬ (h:Int) ≤ 20 by omega]
    ·simp [c3,show ¬ (w:Int) ≤ 6 by omega]
 ·refine .inl ?_
  unfold F_raddlelaw17_fit
  simp only [rgreat_eq,(gcheck_eq g).2,Option.bind_some]
  by_cases c3:4200 < g.Bits.length
  ·simp [c3]
  ·simp [c3,c]
theorem law_ReduceLeast (g p:api_Grid) (k:Int) (wg:wf_api_Grid g) (wp:wf_api_Grid p) (wk:InK .i64 k):F_raddlelaw17_ReduceLeast g p k=some true:=by
 unfold F_raddlelaw17_ReduceLeast
 simp only [alive17,Option.bind_some]
 rcases fit_cases g with h | ⟨h,w,ht,G,hw,hh⟩
 ·simp [h]
 simp only [h,Option.bind_some,Bool.not_true,Bool.false_eq_true,if_false]
 by_cases k1:k < 1
 ·simp [k1]
 by_cases k2:40 < k
 ·simp [k1,k2]
 simp only [dF k1,dF k2,Bool.false_eq_true,if_false,Option.bind_some]
 obtain ⟨n,rfl⟩:∃ n:Nat,k=(n:Int):=⟨k.toNat,by omega⟩
 obtain ⟨l,hl,hb,hmin⟩:=bst_min (g:=g) (w:=w) (h:=ht) (k:=n) (by omega) G.w0
 have h4:=rg_400 (by omega) hl
 have hB:=(best_eq G (by omega) (k:=n) (by omega) (by omega)).1
 rw [hb] at hB
 have hC:F_reduce_Change g l=some (gm (outc g w l) w ht,((cost g w ht l:Nat):Int),0):=by
  rw [chg_plain,chg_eq G l h4.1 h4.2]
  rfl
 have Gc:Gr (gm (outc g w l) w ht) w ht:=gm_gr _ G.w0 G.w1 G.h0 G.h1
 have hK:=kinds_eq Gc
 have hKle:=kinds_le (p:=gm (outc g w l) w ht) hl fun x y hx hy=>gm_cell (outc g w l) hx hy
 have hA:=apart_eq Gc G
 have hD:=dist_eq Gc G
 rw [cost_apd G] at hA hD
 have hlen:(l.length:Int)=g.W:=by rw [h4.1,G.hw]
 have hW:(gm (outc g w l) w ht).W=g.W:=by rw [G.hw]; rfl
 have hH:(gm (outc g w l) w ht).H=g.H:=by rw [G.hh]; rfl
 simp only [hB,Option.bind_some,nF (show (0:Int)=0 from rfl),nF hlen,Bool.false_eq_true,if_false,hC,nF (show ((cost g w ht l:Nat):Int)=((cost g w ht l:Nat):Int) from rfl),fit_of Gc hw hh,Bool.not_true,nF hW,nF hH,hK,dF (show ¬ (n:Int) < (((fns [] (cols (gm (outc g w l) w ht) w ht w)).length:Nat):Int) by omega),hA,hD]
 rcases fit_cases p with hp | ⟨hp,w',h',P,hw',hh'⟩
 ·simp [hp]
 simp only [hp,Option.bind_some,Bool.not_true,Bool.false_eq_true,if_false]
 by_cases c1:p.W=g.W
 case neg=>simp [nT c1]
 by_cases c2:p.H=g.H
 case neg=>simp [nF c1,nT c2]
 have e1:w'=w:=by have:=P.hw; have:=G.hw; omega
 have e2:h'=ht:=by have:=P.hh; have:=G.hh; omega
 subst e1 e2
 simp only [nF c1,nF c2,Bool.false_eq_true,if_false,kinds_eq P,Option.bind_some]
 by_cases c3:(n:Int) < (((fns [] (cols p w' h' w')).length:Nat):Int)
 ·simp [c3]
 have hle:cost g w' h' l ≤ apd p g (w' * h'):=by
  obtain ⟨l',hl',h5⟩:=bst_le_apd (g:=g) (p:=p) (h:=h') (k:=n) (by omega) (col p w' h') (show (fns [] (cols p w' h' w')).length ≤ n by omega) fun x x' y hx hx' hy e=>col_iff.1 e y hy
  exact Nat.le_trans (hmin l' hl') h5
 simp only [dF c3,Bool.false_eq_true,if_false,apart_eq P G,Option.bind_some,if_true,dT (show ((cost g w' h' l:Nat):Int) ≤ ((apd p g (w' * h'):Nat):Int) by omega)]
namespace frameReduceLeast
open Go.ChangeShapes Go.WideShapes Go.ChangeAt Go.Joins
theorem own:ownKnob Try.prog.godebug=none:=by kernel_rfl
theorem laidOut:laidOutB Try.prog=true:=by kernel_rfl
theorem lifted (os:Os) (started:os.Started) (H:Type) (enc:TypeId × Value→H) :
 ReturnsInHanded {} Try.checked os 6 .any (Rows.reduceLeastSpec.pre6 enc Try.prog Try.f6 Rows.reduceLeastRow.domain false) (Rows.reduceLeastSpec.post enc Try.prog Try.f6 false true false false):=by
 refine returnsInHanded_of_change (C:=Try.checked) own started (by kernel_rfl) Try.func6
  (ChangeSpec.witness6 (enc:=enc) (C:=Try.checked) false ⟨#[],#[.agg #[iv 0,iv 0,.slice none 0 0],.agg #[iv 0,iv 0,.slice none 0 0],.int .i64 0],[]⟩ 8 (by kernel_rfl) (by kernel_rfl) (by kernel_rfl) (by kernel_rfl)) ?_
 intro W base args ds gs before hval0 hW hcnd _
 have hval:∀ (j:Nat) t v,Try.f6.params[j]?=some t→args[j]?=some v→Value.okWide Try.prog W .any base t v:=hval0
 have hW':=hW
 obtain ⟨p,q,hA0,hV,rfl,hfz,hnd⟩:=hW
 have hA:DataW.TrodAll enc Try.prog W 0 (fun _=>true) true Try.f6.params.toList args.toList ds p:=hA0
 rw [Try.params6] at hA hval
 obtain ⟨v0,vs0,d0,ds0,p0,q0,hargs,rfl,rfl,h0,r0⟩:=trodAll_cons hA
 obtain ⟨v1,vs1,d1,ds1,p1,q1,rfl,rfl,rfl,h1,r1⟩:=trodAll_cons r0
 obtain ⟨v2,vs2,d2,ds2,p2,q2,rfl,rfl,rfl,h2,r2⟩:=trodAll_cons r1
 obtain ⟨rfl,rfl,rfl⟩:=trodAll_nil r2
 obtain rfl:args=#[v0,v1,v2]:=by cases args; simp_all
 obtain ⟨rfl,rfl⟩:=trodVars_none hV
 have k0:=h0
 have lt0:∀ x ∈ p0,x.block < W.heap.size:=by obtain ⟨m,hm⟩:=k0; exact DataW.trod_lt m _ _ _ hm
 have k1:=h1
 have lt1:∀ x ∈ p1,x.block < W.heap.size:=by obtain ⟨m,hm⟩:=k1; exact DataW.trod_lt m _ _ _ hm
 have k2:=h2
 have lt2:∀ x ∈ p2,x.block < W.heap.size:=by obtain ⟨m,hm⟩:=k2; exact DataW.trod_lt m _ _ _ hm
 obtain ⟨x0,rep0,wf0⟩:=top_agg Try.underlying24 aggr_api_Grid op_api_Grid (hval 0 _ v0 rfl rfl) h0
 obtain ⟨x1,rep1,wf1⟩:=top_agg Try.underlying24 aggr_api_Grid op_api_Grid (hval 1 _ v1 rfl rfl) h1
 obtain ⟨x2,rfl,rfl,rfl,wf2⟩:=open_int Try.underlying3 (hval 2 _ v2 rfl rfl) h2
 clear hA0 hval0
 refine (c_raddlelaw17_ReduceLeast (fun _=>False) W x0 v0 x1 v1 x2 true (law_ReduceLeast x0 x1 x2 wf0 wf1 wf2) (St0.start (by intro d hd; simp only [List.mem_cons,List.not_mem_nil,or_false] at hd; rcases hd with rfl | rfl; exact rep0; exact rep1))).mono fun e W' hr=>?_
 obtain ⟨_,he,hS⟩:=hr
 have bel:=hS.chg.below
 subst he
 exact ⟨_,rfl,_,_,_,[],_,[],hW',trodAll_mk1 (shut_bool Try.underlying4 _),(trodAll_cons_mk (Below.trod laidOut (by kernel_rfl) (of_decide_eq_true (by kernel_rfl)) k0 bel lt0) (trodAll_cons_mk (Below.trod laidOut (by kernel_rfl) (of_decide_eq_true (by kernel_rfl)) k1 bel lt1) (trodAll_cons_mk (Below.trod laidOut (by kernel_rfl) (of_decide_eq_true (by kernel_rfl)) k2 bel lt2) trodAll_mk0))),rfl,bel.frame _,fun h=>by cases h⟩
theorem over:Rows.reduceLeastRow.holds Try.pinned (OpenSpec.ofChange Rows.reduceLeastSpec):=
 OpenClaim.holds_of_wide 6 Try.f6 rfl rfl rfl rfl rfl rfl rfl ⟨rfl,rfl,rfl,rfl,rfl⟩ rfl rfl rfl rfl rfl (by kernel_rfl) Try.func6 (by kernel_rfl)
  (of_decide_eq_true (by kernel_rfl)) (by unfold Func.isWrapper; first | (rw [if_pos (by decide +kernel)]; kernel_rfl) | (rw [if_neg (by decide +kernel)]; exact ⟨rfl,rfl⟩))
  (fun os started H enc _=>lifted os started H enc)
end frameReduceLeast
theorem reduceLeast_holds:Rows.ReduceLeastSaid:=frameReduceLeast.over
end Go.Proofs.Ytapohhkdpkapoaa
