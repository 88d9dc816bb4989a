/- ReduceGroups: walks, tables, laws. -/
import Derived.Test.YtapohhkdpkapoaaProg
import Derived.Test.YtapohhkdpkapoaaRows
import Derived.Test.YtapohhkdpkapoaaMReduceGroups4
set_option linter.unusedVariables false
set_option linter.unusedSimpArgs false
set_option maxHeartbeats 4000000
set_option maxRecDepth 100000
namespace Go.Proofs.Ytapohhkdpkapoaa
open Go.RowKit
def netk (s:Nat→Int) (b:Nat→Bool) (v:Int):Nat→Int
 | 0=>0
 | n + 1=>netk s b v n + (if s n=v then (if b n=true then 1 else -1) else 0)
theorem netk_bd (s:Nat→Int) (b:Nat→Bool) (v:Int) (n:Nat):-(n:Int) ≤ netk s b v n∧netk s b v n ≤ (n:Int):=by
 induction n with
 | zero=>exact ⟨Int.le_refl _,Int.le_refl _⟩
 | succ n ih=>
  simp only [netk]
  split
  ·split <;> omega
  ·omega
def mkM (s:Nat→Int) (b:Nat→Bool):Nat→List (Int × Int)
 | 0=>[]
 | n + 1=>(s n,if b n=true then lkM (mkM s b n) (s n) + 1 else lkM (mkM s b n) (s n) - 1) :: mkM s b n
theorem mkM_len (s:Nat→Int) (b:Nat→Bool) (n:Nat):(mkM s b n).length=n:=by
 induction n with
 | zero=>rfl
 | succ n ih=>simp [mkM,ih]
theorem mkM_lk (s:Nat→Int) (b:Nat→Bool) (v:Int) (n:Nat):lkM (mkM s b n) v=netk s b v n:=by
 induction n generalizing v with
 | zero=>rfl
 | succ n ih=>
  simp only [mkM,netk]
  rw [lkM_cons,ih v,ih (s n)]
  by_cases h:v=s n
  ·subst h
   rw [if_pos rfl,if_pos rfl]
   split <;> omega
  ·rw [if_neg h,if_neg (Ne.symm h),Int.add_zero]
theorem inI_t {k:Int} (h0:-9223372036854775808 ≤ k) (h1:k ≤ 9223372036854775807):inI k=true:=by
 unfold inI
 rw [decide_eq_true h0,decide_eq_true h1]
 rfl
theorem lkO_of {M:List (Int × Int)} {k:Int} (h0:-9223372036854775808 ≤ k) (h1:k ≤ 9223372036854775807):lkO M k=some (lkM M k):=by unfold lkO; rw [if_pos (inI_t h0 h1)]
theorem updM_of {M:List (Int × Int)} {k v:Int} (h0:-9223372036854775808 ≤ k) (h1:k ≤ 9223372036854775807) (h2:-9223372036854775808 ≤ v) (h3:v ≤ 9223372036854775807) (h4:M.length ≤ 68719476736):updM M k v=some ((k,v) :: M):=by
 unfold updM
 rw [if_pos ⟨inI_t h0 h1,inI_t h2 h3,by simpa [lim] using h4⟩]
def sl (l:List Int):Nat→Int:=fun j=>l.getD j 0
def cb (g:api_Grid) (w y:Nat):Nat→Bool:=fun x=>cell g w x y
def outc (g:api_Grid) (w:Nat) (l:List Int) (x y:Nat):Bool:=decide (0 < netk (sl l) (cb g w y) (sl l x) w)
def dcnt (f b:Nat→Bool):Nat→Nat
 | 0=>0
 | n + 1=>dcnt f b n + (if f n != b n then 1 else 0)
theorem dcnt_le (f b:Nat→Bool) (n:Nat):dcnt f b n ≤ n:=by
 induction n with
 | zero=>exact Nat.le_refl _
 | succ n ih=>
  simp only [dcnt]
  split <;> omega
theorem dcnt_cong {f f' b b':Nat→Bool} {n:Nat} (h:∀ t,t < n→f t=f' t∧b t=b' t):dcnt f b n=dcnt f' b' n:=by
 induction n with
 | zero=>rfl
 | succ n ih=>
  simp only [dcnt]
  rw [ih fun t ht=>h t (by omega),(h n (by omega)).1,(h n (by omega)).2]
def apd (a b:api_Grid) (n:Nat):Nat:=dcnt (fun t=>a.Bits.getD t false) (fun t=>b.Bits.getD t false) n
theorem getD_of {α:Type} {l:List α} {k:Nat} (h:k < l.length) (d:α):l[k]=l.getD k d:=by simp [h]
theorem chg_l1 (row:List Bool) (l:List Int) (hl:l.length=row.length) (hn:row.length ≤ 64) (hb:∀ y,y ∈ l→0 ≤ y∧y < 400) :
 whileO (reduce_Change_s1_l1 row l) (0,[])=some (mkM (sl l) (fun j=>row.getD j false) row.length):=by
 refine loop_seq (fun k=>((k:Int),mkM (sl l) (fun j=>row.getD j false) k)) row.length (fun k hk=>?_) ?_
 ·unfold reduce_Change_s1_l1
  have hx:=hb _ (List.getElem_mem (l:=l) (n:=k) (by omega))
  have h1:=netk_bd (sl l) (fun j=>row.getD j false) (l[k]'(by omega)) k
  rw [← mkM_lk] at h1
  have e1:sl l k=l[k]'(by omega):=(getD_of (by omega) 0).symm
  have e2:row.getD k false=row[k]:=(getD_of hk false).symm
  have hm:=mkM_len (sl l) (fun j=>row.getD j false) k
  simp only [dT (show (k:Int) < (row.length:Int) by omega),if_true,idxO_nat hk,idxO_nat (xs:=l) (k:=k) (by omega),Option.bind_some,w64_succ (show k < 9223372036854775807 by omega),lkO_of (M:=mkM (sl l) (fun j=>row.getD j false) k) (show -9223372036854775808 ≤ l[k]'(by omega) by omega) (show l[k]'(by omega) ≤ 9223372036854775807 by omega)]
  simp only [mkM,e1,e2]
  generalize row[k]=q
  generalize lkM (mkM (sl l) (fun j=>row.getD j false) k) (l[k]'(by omega))=z at h1
  rw [w64_of (x:=z + 1) (by omega) (by omega),w64_of (x:=z - 1) (by omega) (by omega)]
  rw [updM_of (v:=z + 1) (by omega) (by omega) (by omega) (by omega) (by omega),updM_of (v:=z - 1) (by omega) (by omega) (by omega) (by omega) (by omega)]
  cases q <;> rfl
 ·unfold reduce_Change_s1_l1
  simp only [dF (show ¬ (row.length:Int) < (row.length:Int) by omega),Bool.false_eq_true,if_false]
theorem netk_cong {s:Nat→Int} {b b':Nat→Bool} {v:Int} {n:Nat} (h:∀ j,j < n→b j=b' j):netk s b v n=netk s b' v n:=by
 induction n with
 | zero=>rfl
 | succ n ih=>
  have e:=h n (by omega)
  unfold netk
  rw [ih fun j hj=>h j (by omega),e]
theorem outc_row {g:api_Grid} {w:Nat} {l:List Int} {row:List Bool} {y:Nat} (hr:∀ j,j < w→row.getD j false=cell g w j y) (v:Int):netk (sl l) (fun j=>row.getD j false) v w=netk (sl l) (cb g w y) v w:=
 netk_cong fun j hj=>hr j hj
def oF (g:api_Grid) (w:Nat) (l:List Int):Nat→Bool:=fun t=>outc g w l (t % w) (t / w)
def oB (g:api_Grid):Nat→Bool:=fun t=>g.Bits.getD t false
theorem chg_l2 {g:api_Grid} {w h:Nat} (G:Gr g w h) (row:List Bool) (l:List Int) (hl:l.length=row.length) (hw:row.length=w) {y:Nat} (hy:y < h) (hr:∀ j,j < w→row.getD j false=cell g w j y) (hb:∀ y,y ∈ l→0 ≤ y∧y < 400) :
 whileO (reduce_Change_s1_l2 row l (mkM (sl l) (fun j=>row.getD j false) row.length)) (((dcnt (oF g w l) (oB g) (y * w):Nat):Int),0,glf (outc g w l) w (y * w))=some (((dcnt (oF g w l) (oB g) (y * w + w):Nat):Int),glf (outc g w l) w (y * w + w)):=by
 have w1:=G.w1
 have hp:w * h ≤ 64 * 64:=Nat.mul_le_mul G.w1 G.h1
 refine loop_seq (fun k=>(((dcnt (oF g w l) (oB g) (y * w + k):Nat):Int),(k:Int),glf (outc g w l) w (y * w + k))) w (fun k hk=>?_) ?_
 ·unfold reduce_Change_s1_l2
  have hx:=hb _ (List.getElem_mem (l:=l) (n:=k) (by omega))
  have e1:sl l k=l[k]'(by omega):=(getD_of (by omega) 0).symm
  have e2:row[k]'(by omega)=cell g w k y:=by rw [← hr k hk]; exact getD_of (by omega) false
  have hlt:=pl_lt hk hy
  have hd:=dcnt_le (oF g w l) (oB g) (y * w + k)
  have e3:oF g w l (y * w + k)=decide (0 < netk (sl l) (cb g w y) (l[k]'(by omega)) w):=by
   unfold oF
   rw [pl_mod hk,pl_div hk]
   unfold outc
   rw [e1]
  have e4:oB g (y * w + k)=cell g w k y:=rfl
  have e5:(glf (outc g w l) w (y * w + k)).length=y * w + k:=by simp [glf]
  have e6:outc g w l ((y * w + k) % w) ((y * w + k) / w)=oF g w l (y * w + k):=rfl
  simp only [dT (show (k:Int) < (row.length:Int) by omega),if_true,idxO_nat (xs:=row) (k:=k) (by omega),idxO_nat (xs:=l) (k:=k) (by omega),Option.bind_some,w64_succ (show k < 9223372036854775807 by omega),lkO_of (M:=mkM (sl l) (fun j=>row.getD j false) row.length) (show -9223372036854775808 ≤ l[k]'(by omega) by omega) (show l[k]'(by omega) ≤ 9223372036854775807 by omega),mkM_lk]
  generalize l[k]'(by omega)=q at hx e1 e3 ⊢
  generalize row[k]'(by omega)=q2 at e2 ⊢
  subst e2
  rw [hw,outc_row hr,← e3,appO_of (by rw [e5]; simp; omega)]
  rw [← Nat.add_assoc,glf_succ,e6]
  simp only [dcnt]
  rw [e4]
  simp only [Option.bind_some]
  by_cases hc:(oF g w l (y * w + k) != cell g w k y)=true
  ·rw [if_pos hc,if_pos hc]
   simp only [Option.bind_some]
   rw [w64_of (by omega) (by omega)]
   rfl
  ·rw [if_neg hc,if_neg hc]
   rfl
 ·unfold reduce_Change_s1_l2
  simp only [dF (show ¬ (w:Int) < (row.length:Int) by omega),Bool.false_eq_true,if_false]
def cost (g:api_Grid) (w h:Nat) (l:List Int):Nat:=dcnt (oF g w l) (oB g) (w * h)
theorem chg_l3 {g:api_Grid} {w h:Nat} (G:Gr g w h) (l:List Int) (hl:l.length=w) (hb:∀ y,y ∈ l→0 ≤ y∧y < 400) :
 whileO (reduce_Change_s1_l3 g l) (0,0,[])=some (((cost g w h l:Nat):Int),gl (outc g w l) w h):=by
 have w1:=G.w1
 have hp:w * h ≤ 64 * 64:=Nat.mul_le_mul G.w1 G.h1
 have:=loop_seq (B:=reduce_Change_s1_l3 g l) (t:=(((cost g w h l:Nat):Int),gl (outc g w l) w h)) (fun y=>(((dcnt (oF g w l) (oB g) (y * w):Nat):Int),(y:Int),glf (outc g w l) w (y * w))) h (fun y hy=>?_) ?_
 ·simpa [dcnt,glf] using this
 ·have hm1:(y + 1) * w ≤ h * w:=Nat.mul_le_mul_right w (show y + 1 ≤ h by omega)
  rw [Nat.mul_comm h w] at hm1
  have hm0:(y + 1) * w=y * w + w:=by rw [Nat.add_mul,Nat.one_mul]
  have hlen:=G.len
  unfold reduce_Change_s1_l3
  have s1:sliceO g.Bits (w64 ((y:Int) * g.W)) (w64 (((y + 1:Nat):Int) * g.W))=some ((g.Bits.take ((y + 1) * w)).drop (y * w)):=by
   rw [G.hw,wmul (by omega),wmul (by omega)]
   exact sliceO_of rfl rfl (by omega) (by omega)
  have r1:((g.Bits.take ((y + 1) * w)).drop (y * w)).length=w:=by simp; omega
  have r2:∀ j,j < w→((g.Bits.take ((y + 1) * w)).drop (y * w)).getD j false=cell g w j y:=by
   intro j hj
   unfold cell
   simp only [List.getD_eq_getElem?_getD,List.getElem?_drop,List.getElem?_take]
   rw [if_pos (by omega)]
  have h1:=chg_l1 _ l (by rw [r1]; exact hl) (by rw [r1]; exact w1) hb
  have h2:=chg_l2 G _ l (by rw [r1]; exact hl) r1 hy r2 hb
  rw [G.hh]
  simp only [dT (show (y:Int) < (h:Int) by omega),if_true,s1,Option.bind_some,h1,h2,w64_succ (show y < 9223372036854775807 by have:=G.h1; omega)]
  rw [hm0]
 ·unfold reduce_Change_s1_l3
  rw [G.hh]
  simp only [dF (show ¬ (h:Int) < (h:Int) by omega),Bool.false_eq_true,if_false]
  unfold gl cost
  rw [Nat.mul_comm h w]
theorem chg_eq {g:api_Grid} {w h:Nat} (G:Gr g w h) (l:List Int) (hl:l.length=w) (hb:∀ y,y ∈ l→0 ≤ y∧y < 400) :
 F_reduce_Change_s1 g l=some (gm (outc g w l) w h,((cost g w h l:Nat):Int),0,l):=by
 have w1:=G.w1
 have he:lerr l=0:=by
  unfold lerr
  rw [if_neg (by omega),if_pos (List.all_eq_true.2 fun y hy=>decide_eq_true (hb y hy))]
 have hlen:(l.length:Int)=g.W:=by rw [hl,G.hw]
 unfold F_reduce_Change_s1
 simp only [(gcheck_eq g).1,gr_err G,tcheck_eq,he,Option.bind_some,nF (show (0:Int)=0 from rfl),nF hlen,Bool.false_eq_true,if_false,chg_l3 G l hl hb]
 rw [G.hw,G.hh]
 rfl
theorem chg_plain (g:api_Grid) (l:List Int):F_reduce_Change g l=(F_reduce_Change_s1 g l).map fun r=>(r.1,r.2.1,r.2.2.1):=by
 unfold F_reduce_Change F_reduce_Change_s1
 simp only [(gcheck_eq g).1,tcheck_eq,Option.bind_some]
 by_cases h1:(gerr g != 0)=true
 ·rw [if_pos h1,if_pos h1]; rfl
 rw [if_neg h1,if_neg h1]
 by_cases h2:(lerr l != 0)=true
 ·rw [if_pos h2,if_pos h2]; rfl
 rw [if_neg h2,if_neg h2]
 by_cases h3:((l.length:Int) != g.W)=true
 ·rw [if_pos h3,if_pos h3]; rfl
 rw [if_neg h3,if_neg h3]
 have:whileO (reduce_Change_l3 g l) (0,0,([]:List Bool))=whileO (reduce_Change_s1_l3 g l) (0,0,([]:List Bool)):=rfl
 rw [this]
 cases whileO (reduce_Change_s1_l3 g l) (0,0,([]:List Bool)) <;> rfl
def upk (s:Nat→Int) (b:Nat→Bool) (v:Int) (c:Bool):Nat→Nat
 | 0=>0
 | n + 1=>upk s b v c n + (if s n=v∧b n=c then 1 else 0)
theorem upk_le (s:Nat→Int) (b:Nat→Bool) (v:Int) (c:Bool) (n:Nat):upk s b v c n ≤ n:=by
 induction n with
 | zero=>exact Nat.le_refl _
 | succ n ih=>
  simp only [upk]
  split <;> omega
theorem upk_net (s:Nat→Int) (b:Nat→Bool) (v:Int) (n:Nat):netk s b v n=(upk s b v true n:Int) - (upk s b v false n:Int):=by
 induction n with
 | zero=>rfl
 | succ n ih=>
  simp only [upk,netk]
  rw [ih]
  by_cases h:s n=v
  ·cases hb:b n <;> simp [h] <;> omega
  ·simp [h]
def gsc (f:Nat→Nat→Bool) (w h x y:Nat):List Bool:=(List.range (w * h)).map fun t=>if t % w < x ∨ (t % w=x∧t / w < y) then f (t % w) (t / w) else false
theorem gsc_len (f:Nat→Nat→Bool) (w h x y:Nat):(gsc f w h x y).length=w * h:=by simp [gsc]
theorem gsc_zero (f:Nat→Nat→Bool) (w h:Nat):gsc f w h 0 0=List.replicate (w * h) false:=by
 unfold gsc
 rw [show (fun t=>if t % w < 0 ∨ (t % w=0∧t / w < 0) then f (t % w) (t / w) else false)=fun _=>false from funext fun t=>if_neg (by
  rintro (h1 | ⟨_,h1⟩)
  ·exact Nat.not_lt_zero _ h1
  ·exact Nat.not_lt_zero _ h1)]
 simp [List.map_const']
theorem gsc_set (f:Nat→Nat→Bool) {w h x y:Nat} (hx:x < w):(gsc f w h x y).set (y * w + x) (f x y)=gsc f w h x (y + 1):=by
 apply List.ext_getElem?
 intro t
 by_cases ht:t < w * h
 ·rw [List.getElem?_set]
  simp only [gsc,List.getElem?_map,List.getElem?_range ht,Option.map_some,List.length_map,List.length_range]
  by_cases e:y * w + x=t
  ·subst e; rw [if_pos rfl,if_pos ht,pl_mod hx,pl_div hx,if_pos (by omega)]
  ·rw [if_neg e]
   have hne:¬ (t % w=x∧t / w=y):=by
    rintro ⟨h1,h2⟩
    apply e
    rw [← h1,← h2]
    exact pl_of t w
   by_cases e2:t % w < x ∨ (t % w=x∧t / w < y)
   ·rw [if_pos e2,if_pos (by omega)]
   ·rw [if_neg e2,if_neg (by omega)]
 ·rw [List.getElem?_eq_none (by simp [gsc]; omega),List.getElem?_eq_none (by simp [gsc]; omega)]
theorem gsc_next (f:Nat→Nat→Bool) (w h x:Nat):gsc f w h x h=gsc f w h (x + 1) 0:=by
 unfold gsc
 refine map_cong fun t ht=>?_
 have:=pl_divlt ht
 generalize t % w=a at this ⊢
 generalize t / w=c at this ⊢
 by_cases e:a < x + 1
 ·rw [if_pos (by omega),if_pos (by omega)]
 ·rw [if_neg (by omega),if_neg (by omega)]
theorem gsc_full (f:Nat→Nat→Bool) (w h:Nat):gsc f w h w 0=gl f w h:=by
 unfold gsc gl glf
 refine map_cong fun t ht=>?_
 have hw:0 < w:=by rcases Nat.eq_zero_or_pos w with h0 | h0; rw [h0,Nat.zero_mul] at ht; omega; exact h0
 exact if_pos (.inl (pl_modlt hw))
theorem rch_l1 {g:api_Grid} {w h:Nat} (G:Gr g w h) (l:List Int) (hl:l.length=w) {x y:Nat} (hx:x < w) (hy:y < h) :
 whileO (raddleref17_changed_s1_l1 g l (x:Int) (y:Int)) (0,0,0)=some ((upk (sl l) (cb g w y) (sl l x) true w:Int),(upk (sl l) (cb g w y) (sl l x) false w:Int)):=by
 have w1:=G.w1
 refine loop_seq (fun k=>((upk (sl l) (cb g w y) (sl l x) true k:Int),(upk (sl l) (cb g w y) (sl l x) false k:Int),(k:Int))) w (fun k hk=>?_) ?_
 ·unfold raddleref17_changed_s1_l1
  have e1:l[k]'(by omega)=sl l k:=getD_of (by omega) 0
  have e2:l[x]'(by omega)=sl l x:=getD_of (by omega) 0
  have e3:cell g w k y=cb g w y k:=rfl
  have u1:=upk_le (sl l) (cb g w y) (sl l x) true k
  have u2:=upk_le (sl l) (cb g w y) (sl l x) false k
  rw [G.hw]
  simp only [dT (show (k:Int) < (w:Int) by omega),if_true,idxO_nat (xs:=l) (k:=k) (by omega),idxO_nat (xs:=l) (k:=x) (by omega),Option.bind_some,w64_succ (show k < 9223372036854775807 by omega),rat_eq G hk hy,e1,e2,e3]
  rw [w64_of (x:=(upk (sl l) (cb g w y) (sl l x) true k:Int) + 1) (by omega) (by omega),w64_of (x:=(upk (sl l) (cb g w y) (sl l x) false k:Int) + 1) (by omega) (by omega)]
  simp only [upk]
  by_cases h:sl l k=sl l x
  ·cases hb:cb g w y k <;> simp [h]
  ·simp [h]
 ·unfold raddleref17_changed_s1_l1
  rw [G.hw]
  simp only [dF (show ¬ (w:Int) < (w:Int) by omega),Bool.false_eq_true,if_false]
theorem rch_eq {g:api_Grid} {w h:Nat} (G:Gr g w h) (l:List Int) (hl:l.length=w) :
 F_raddleref17_changed_s1 g l=some (gm (outc g w l) w h,l):=by
 have w1:=G.w1
 have h1:=G.h1
 have hz:F_raddleref01_Zero_s0 g.W g.H=some ⟨(w:Int),(h:Int),List.replicate (w * h) false⟩:=by rw [G.hw,G.hh]; exact rzero_eq w1 h1
 have hl2:∀ x,x < w→whileO (raddleref17_changed_s1_l2 g l (x:Int) ⟨(w:Int),(h:Int),List.replicate (w * h) false⟩) (0,gsc (outc g w l) w h x 0)=some (gsc (outc g w l) w h x h):=by
  intro x hx
  refine loop_seq (fun y=>((y:Int),gsc (outc g w l) w h x y)) h (fun y hy=>?_) ?_
  ·unfold raddleref17_changed_s1_l2
   have e1:decide ((upk (sl l) (cb g w y) (sl l x) false w:Int) < (upk (sl l) (cb g w y) (sl l x) true w:Int))=outc g w l x y:=by
    unfold outc
    rw [upk_net]
    exact decide_eq_decide.2 (by omega)
   rw [G.hh]
   simp only [dT (show (y:Int) < (h:Int) by omega),if_true,rch_l1 G l hl hx hy,Option.bind_some,e1,rset_eq w1 h1 (gsc_len (outc g w l) w h x y) hx hy,gsc_set (outc g w l) hx,w64_succ (show y < 9223372036854775807 by omega)]
  ·unfold raddleref17_changed_s1_l2
   rw [G.hh]
   simp only [dF (show ¬ (h:Int) < (h:Int) by omega),Bool.false_eq_true,if_false]
 have hl3:whileO (raddleref17_changed_s1_l3 g l ⟨(w:Int),(h:Int),List.replicate (w * h) false⟩) (0,gsc (outc g w l) w h 0 0)=some (gsc (outc g w l) w h w 0):=by
  refine loop_seq (fun x=>((x:Int),gsc (outc g w l) w h x 0)) w (fun x hx=>?_) ?_
  ·unfold raddleref17_changed_s1_l3
   rw [G.hw]
   simp only [dT (show (x:Int) < (w:Int) by omega),if_true,hl2 x hx,Option.bind_some,gsc_next,w64_succ (show x < 9223372036854775807 by omega)]
  ·unfold raddleref17_changed_s1_l3
   rw [G.hw]
   simp only [dF (show ¬ (w:Int) < (w:Int) by omega),Bool.false_eq_true,if_false]
 unfold F_raddleref17_changed_s1
 rw [gsc_zero] at hl3
 simp only [hz,Option.bind_some,hl3,gsc_full]
 rfl
theorem apart_loop {a b:api_Grid} {w h:Nat} (A:Gr a w h) (B:Gr b w h):whileO (raddleref17_Apart_l1 a b) (0,0)=some ((apd a b (w * h):Nat):Int):=by
 have hp:w * h ≤ 64 * 64:=Nat.mul_le_mul A.w1 A.h1
 have la:=A.len
 have lb:=B.len
 refine loop_seq (fun t=>(((apd a b t:Nat):Int),(t:Int))) (w * h) (fun t ht=>?_) ?_
 ·unfold raddleref17_Apart_l1
  have e1:a.Bits[t]'(by omega)=a.Bits.getD t false:=getD_of (by omega) false
  have e2:b.Bits[t]'(by omega)=b.Bits.getD t false:=getD_of (by omega) false
  have hd:=dcnt_le (fun t=>a.Bits.getD t false) (fun t=>b.Bits.getD t false) t
  simp only [dT (show (t:Int) < (a.Bits.length:Int) by omega),if_true,idxO_nat (xs:=a.Bits) (k:=t) (by omega),idxO_nat (xs:=b.Bits) (k:=t) (by omega),Option.bind_some,w64_succ (show t < 9223372036854775807 by omega),e1,e2,apd,dcnt]
  by_cases hc:(a.Bits.getD t false != b.Bits.getD t false)=true
  ·rw [if_pos hc,if_pos hc]
   simp only [Option.bind_some]
   rw [w64_of (by omega) (by omega)]
   rfl
  ·rw [if_neg hc,if_neg hc]
   rfl
 ·unfold raddleref17_Apart_l1
  simp only [dF (show ¬ ((w * h:Nat):Int) < (a.Bits.length:Int) by omega),Bool.false_eq_true,if_false]
theorem apart_eq {a b:api_Grid} {w h:Nat} (A:Gr a w h) (B:Gr b w h):F_raddleref17_Apart a b=some ((apd a b (w * h):Nat):Int):=by
 unfold F_raddleref17_Apart
 simp only [apart_loop A B,Option.bind_some]
theorem cost_apd {g:api_Grid} {w h:Nat} (G:Gr g w h) (l:List Int):apd (gm (outc g w l) w h) g (w * h)=cost g w h l:=by
 unfold apd cost
 refine dcnt_cong fun t ht=>⟨?_,rfl⟩
 have hw:0 < w:=G.w0
 have:=gl_get (outc g w l) w h false (t % w) (t / w) (pl_modlt hw) (pl_divlt ht)
 rw [pl_of] at this
 exact this
def rg (k:Nat):Nat→Nat→List (List Int)
 | 0,_=>[[]]
 | m + 1,n=>(List.range (min k (n + 1))).flatMap fun v=>(rg k m (max n (v + 1))).map fun r=>(v:Int) :: r
def stp (f:List Int→Nat) (S:List Int × Int) (l:List Int):List Int × Int:=
 if S.1=[] ∨ (f l:Int) < S.2 then (l,(f l:Int)) else S
noncomputable def fbod (Fr:reduce_search→Int→Option reduce_search) (p0:reduce_search) (p1:Int):(Int × Int × Int × Int × List Int × List Int × Int)→Option ((Int × Int × Int × Int × List Int × List Int × Int) ⊕ (Int × Int × Int × List Int × List Int × Int)):=fun s0=>match s0 with
 | (s49,s50,s51,s52,s53,s56,s59)=>
  if decide (s49 < (if p0.k < (w64 (p1 + 1)) then p0.k else w64 (p1 + 1))) then
   Option.bind (appO s53 ([s49]:List Int)) fun l81=>
   Option.bind (Fr (reduce_search.mk (api_Grid.mk s50 s51 p0.g.Bits) s52 l81 s56 s59) (if p1 < (w64 (s49 + 1)) then w64 (s49 + 1) else p1)) fun r86=>
   Option.bind (sliceO r86.l 0 (w64 ((r86.l.length:Int) - 1))) fun y93=>
   some (.inl (w64 (s49 + 1),r86.g.W,r86.g.H,r86.k,y93,r86.best,r86.least))
  else
   some (.inr (s50,s51,s52,s53,s56,s59))
noncomputable def FRs (Fr:reduce_search→Int→Option reduce_search) (p0:reduce_search) (p1:Int):Option reduce_search:=
 if (p0.l.length:Int) == p0.g.W then
  Option.bind (α:=(List Int × List Int × Int)) (
   Option.bind (α:=(Int × List Int)) (
    Option.bind (F_reduce_Change_s1 p0.g p0.l) fun r23=>
    some (r23.2.1,r23.2.2.2)) fun (o17,o18)=>
   Option.bind (α:=Bool) (
    if p0.best.isEmpty then
     some true
    else
     some (decide (o17 < p0.least))) fun o36=>
   if o36 then
    Option.bind (F_slices_Clone___int_int__s1 o18) fun r41=>
    Option.bind (neO r41.1) fun z46=>
    some (r41.2,r41.1,o17)
   else
    some (o18,p0.best,p0.least)) fun (o8,o11,o14)=>
  some (reduce_search.mk p0.g p0.k o8 o11 o14)
 else
  Option.bind (whileO (fbod Fr p0 p1) (0,p0.g.W,p0.g.H,p0.k,p0.l,p0.best,p0.least)) fun (e63,e64,e65,e66,e69,e72)=>
   some (reduce_search.mk (api_Grid.mk e63 e64 p0.g.Bits) e65 e66 e69 e72)
theorem FR_1:F_reduce_search_from_s1=FRs F_reduce_search_from_s2:=rfl
theorem FR_2:F_reduce_search_from_s2=FRs F_reduce_search_from_s3:=rfl
theorem FR_3:F_reduce_search_from_s3=FRs F_reduce_search_from_s4:=rfl
theorem FR_4:F_reduce_search_from_s4=FRs F_reduce_search_from_s5:=rfl
theorem FR_5:F_reduce_search_from_s5=FRs F_reduce_search_from_s6:=rfl
theorem FR_6:F_reduce_search_from_s6=FRs F_reduce_search_from_s7:=rfl
theorem FR_7:F_reduce_search_from_s7=FRs F_reduce_search_from_s8:=rfl
theorem FR_8:F_reduce_search_from_s8=FRs F_reduce_search_from_s9:=rfl
theorem FR_9:F_reduce_search_from_s9=FRs F_reduce_search_from_s10:=rfl
def Spec (g:api_Grid) (k w h:Nat) (Fr:reduce_search→Int→Option reduce_search) (m:Nat):Prop:=
 ∀ (l best:List Int) (least:Int) (n:Nat),l.length + m=w→(∀ y,y ∈ l→0 ≤ y∧y < 400)→n ≤ 1000 →
  Fr ⟨g,(k:Int),l,best,least⟩ (n:Int)=some ⟨g,(k:Int),l,(((rg k m n).map (l ++ ·)).foldl (stp (cost g w h)) (best,least)).1,(((rg k m n).map (l ++ ·)).foldl (stp (cost g w h)) (best,least)).2⟩
theorem spec0 {g:api_Grid} {w h:Nat} (G:Gr g w h) (k:Nat) (Fr:reduce_search→Int→Option reduce_search):Spec g k w h (FRs Fr) 0:=by
 intro l best least n hl hb hn
 have w0:=G.w0
 have w1:=G.w1
 have hlen:((l.length:Int) == g.W)=true:=bT (by rw [G.hw]; omega)
 have hne:l ≠ []:=by intro e; rw [e,List.length_nil] at hl; omega
 have hcl:F_slices_Clone___int_int__s1 l=some (l,l):=by
  unfold F_slices_Clone___int_int__s1
  rw [appO_of (by simp; omega)]
  rfl
 have hno:neO l=some ():=by
  cases l with
  | nil=>exact absurd rfl hne
  | cons=>rfl
 have hrg:((rg k 0 n).map (l ++ ·)).foldl (stp (cost g w h)) (best,least)=stp (cost g w h) (best,least) l:=by simp [rg]
 rw [hrg]
 unfold FRs stp
 simp only [hlen,if_true,chg_eq G l (by omega) hb,Option.bind_some]
 by_cases c:best=[]
 ·subst c
  simp only [List.isEmpty_nil,if_true,Option.bind_some,hcl,hno,true_or]
 ·have c1:best.isEmpty=false:=by
   cases best with
   | nil=>exact absurd rfl c
   | cons=>rfl
  by_cases c2:(cost g w h l:Int) < least
  ·simp only [c1,Bool.false_eq_true,if_false,dT c2,Option.bind_some,if_true,hcl,hno]
   rw [if_pos (show best=[] ∨ (cost g w h l:Int) < least from .inr c2)]
  ·simp only [c1,Bool.false_eq_true,if_false,dF c2,Option.bind_some]
   rw [if_neg (show ¬ (best=[] ∨ (cost g w h l:Int) < least) from fun hc=>hc.elim c c2)]
theorem specS {g:api_Grid} {w h:Nat} (G:Gr g w h) {k:Nat} (hk:k ≤ 40) (Fr:reduce_search→Int→Option reduce_search) {m:Nat} (H:Spec g k w h Fr m):Spec g k w h (FRs Fr) (m + 1):=by
 intro l best least n hl hb hn
 have w1:=G.w1
 have hlen:((l.length:Int) == g.W)=false:=bF (by rw [G.hw]; omega)
 have hg:api_Grid.mk g.W g.H g.Bits=g:=by cases g; rfl
 have hS:∃ A:Nat→List (List Int),A=(fun v=>(List.range v).flatMap fun u=>(rg k m (max n (u + 1))).map fun r=>(u:Int) :: r):=⟨_,rfl⟩
 obtain ⟨A,hA⟩:=hS
 have hT:∃ S:Nat→List Int × Int,S=(fun v=>((A v).map (l ++ ·)).foldl (stp (cost g w h)) (best,least)):=⟨_,rfl⟩
 obtain ⟨S,hS⟩:=hT
 have hS0:S 0=(best,least):=by rw [hS,hA]; rfl
 have hSs:∀ v,S (v + 1)=((rg k m (max n (v + 1))).map ((l ++ [(v:Int)]) ++ ·)).foldl (stp (cost g w h)) (S v):=by
  intro v
  rw [hS,hA]
  simp only [List.range_succ,List.flatMap_append,List.map_append,List.foldl_append,List.flatMap_cons,List.flatMap_nil,List.append_nil,List.map_map]
  congr 1
  refine List.map_congr_left fun r hr=>?_
  simp
 have hc:(if (k:Int) < w64 ((n:Int) + 1) then (k:Int) else w64 ((n:Int) + 1))=((min k (n + 1):Nat):Int):=by
  rw [w64_succ (by omega)]
  split <;> omega
 have hloop:whileO (fbod Fr ⟨g,(k:Int),l,best,least⟩ (n:Int)) (0,g.W,g.H,(k:Int),l,best,least)=some (g.W,g.H,(k:Int),l,(S (min k (n + 1))).1,(S (min k (n + 1))).2):=by
  have:=loop_seq (B:=fbod Fr ⟨g,(k:Int),l,best,least⟩ (n:Int)) (t:=(g.W,g.H,(k:Int),l,(S (min k (n + 1))).1,(S (min k (n + 1))).2)) (fun v=>((v:Int),g.W,g.H,(k:Int),l,(S v).1,(S v).2)) (min k (n + 1)) (fun v hv=>?_) ?_
  ·rw [hS0] at this
   exact this
  ·have hn2:(if (n:Int) < ((v + 1:Nat):Int) then ((v + 1:Nat):Int) else (n:Int))=((max n (v + 1):Nat):Int):=by
    split <;> omega
   have hh:=H (l ++ [(v:Int)]) (S v).1 (S v).2 (max n (v + 1)) (by simp; omega) (by
    intro y hy
    rcases List.mem_append.1 hy with h1 | h1
    ·exact hb y h1
    ·rw [List.mem_singleton.1 h1]; omega) (by omega)
   have hsl:sliceO (l ++ [(v:Int)]) 0 (w64 (((l ++ [(v:Int)]).length:Int) - 1))=some l:=by
    have e1:w64 (((l ++ [(v:Int)]).length:Int) - 1)=(l.length:Int):=by
     rw [w64_of (by simp only [List.length_append,List.length_singleton]; omega) (by simp only [List.length_append,List.length_singleton]; omega)]
     simp
    have e2:=sliceO_of (xs:=l ++ [(v:Int)]) (lo:=0) (hi:=(l.length:Int)) (l:=0) (k:=l.length) rfl rfl (by omega) (by simp)
    rw [e1,e2]
    simp
   unfold fbod
   simp only [hc,dT (show (v:Int) < ((min k (n + 1):Nat):Int) by omega),if_true,appO_of (xs:=l) (ys:=[(v:Int)]) (by simp; omega),Option.bind_some,hn2,hg,hh,hsl,w64_succ (show v < 9223372036854775807 by omega)]
   rw [hSs v]
  ·unfold fbod
   simp only [hc,dF (show ¬ ((min k (n + 1):Nat):Int) < ((min k (n + 1):Nat):Int) by omega),Bool.false_eq_true,if_false]
 have hend:((rg k (m + 1) n).map (l ++ ·)).foldl (stp (cost g w h)) (best,least)=S (min k (n + 1)):=by
  rw [hS,hA]
  rfl
 rw [hend]
 unfold FRs
 simp only [hlen,Bool.false_eq_true,if_false,hloop,Option.bind_some,hg]
theorem lev {g:api_Grid} {w h:Nat} (G:Gr g w h) {k:Nat} (hk:k ≤ 40) {Fr Fq:reduce_search→Int→Option reduce_search} (hF:Fr=FRs Fq) {a:Nat} (H:∀ j,j ≤ a→Spec g k w h Fq j):∀ j,j ≤ a + 1→Spec g k w h Fr j:=by
 intro j hj
 subst hF
 cases j with
 | zero=>exact spec0 G k Fq
 | succ j=>exact specS G hk Fq (H j (by omega))
theorem from_eq {g:api_Grid} {w h:Nat} (G:Gr g w h) {k:Nat} (hk:k ≤ 40):∀ j,j ≤ 8→Spec g k w h F_reduce_search_from_s1 j:=
 lev G hk FR_1 (lev G hk FR_2 (lev G hk FR_3 (lev G hk FR_4 (lev G hk FR_5 (lev G hk FR_6 (lev G hk FR_7 (lev G hk FR_8 (a:=0) fun j hj=>by
  obtain rfl:j=0:=by omega
  rw [FR_9]
  exact spec0 G k _)))))))
def bst (g:api_Grid) (w h k:Nat):List Int × Int:=(rg k w 0).foldl (stp (cost g w h)) ([],0)
theorem search_eq {g:api_Grid} {w h:Nat} (G:Gr g w h) {k:Nat} (hk:k ≤ 40) (hw:w ≤ 8):F_reduce_search_from_s1 ⟨g,(k:Int),[],[],0⟩ 0=some ⟨g,(k:Int),[],(bst g w h k).1,(bst g w h k).2⟩:=by
 have:=from_eq G hk w hw [] [] 0 0 (by simp) (fun y hy=>absurd hy List.not_mem_nil) (by omega)
 have e:(rg k w 0).map (([]:List Int) ++ ·)=rg k w 0:=by simp
 rw [e] at this
 exact this
def nr (b:Nat):List Int→Option (List Int)
 | []=>none
 | v :: r=>if v + 1 < (b:Int) then some ((v + 1) :: r) else (nr b r).map (0 :: ·)
def nxt (b:Nat) (l:List Int):Option (List Int):=(nr b l.reverse).map List.reverse
theorem nr_len {b:Nat} {q r:List Int} (h:nr b q=some r):r.length=q.length:=by
 induction q generalizing r with
 | nil=>cases h
 | cons v q ih=>
  simp only [nr] at h
  by_cases c:v + 1 < (b:Int)
  ·rw [if_pos c] at h
   cases h
   rfl
  ·rw [if_neg c] at h
   cases e:nr b q with
   | none=>rw [e] at h; cases h
   | some s=>
    rw [e] at h
    cases h
    simp [ih e]
theorem nr_snoc (b:Nat) (a:List Int) (v:Int):nr b (a ++ [v])=match nr b a with | some a'=>some (a' ++ [v]) | none=>if v + 1 < (b:Int) then some (List.replicate a.length 0 ++ [v + 1]) else none:=by
 induction a with
 | nil=>
  simp only [List.nil_append,nr,List.length_nil,List.replicate_zero]
  rfl
 | cons u a ih=>
  simp only [List.cons_append,nr]
  by_cases c:u + 1 < (b:Int)
  ·rw [if_pos c,if_pos c]
   rfl
  ·rw [if_neg c,if_neg c,ih]
   cases e:nr b a with
   | some s=>rfl
   | none=>
    simp only [Option.map_none]
    by_cases c2:v + 1 < (b:Int)
    ·rw [if_pos c2,if_pos c2]
     simp [List.replicate_succ]
    ·rw [if_neg c2,if_neg c2]
     rfl
theorem nxt_cons (b:Nat) (v:Int) (r:List Int):nxt b (v :: r)=match nxt b r with | some r'=>some (v :: r') | none=>if v + 1 < (b:Int) then some ((v + 1) :: List.replicate r.length 0) else none:=by
 unfold nxt
 rw [List.reverse_cons,nr_snoc]
 cases e:nr b r.reverse with
 | some s=>simp
 | none=>
  simp only [Option.map_none]
  by_cases c2:v + 1 < (b:Int)
  ·rw [if_pos c2,if_pos c2]
   simp
  ·rw [if_neg c2,if_neg c2]
   rfl
theorem idx_mid (a c:List Int) (v:Int):idxO (a ++ v :: c) (a.length:Int)=some v:=by
 rw [idxO_nat (by simp)]
 simp
theorem set_mid (a c:List Int) (v y:Int):setO (a ++ v :: c) (a.length:Int) y=some (a ++ y :: c):=by
 rw [setO_nat (by simp)]
 simp
theorem nx_loop {b:Nat} (hb:b ≤ 1000) (q:List Int) (z:Nat) (hq:∀ y,y ∈ q→0 ≤ y∧y < (b:Int)) (hl:q.length ≤ 1000) :
 whileO (raddleref17_next_s0_l1 (b:Int)) (q.reverse ++ List.replicate z 0,(q.length:Int) - 1)=some (match nr b q with | some r=>.inl (true,r.reverse ++ List.replicate z 0) | none=>.inr (List.replicate (q.length + z) 0)):=by
 induction q generalizing z with
 | nil=>
  refine whileO_done ?_
  unfold raddleref17_next_s0_l1
  simp [nr]
 | cons v q ih=>
  have hv:=hq v List.mem_cons_self
  have hll:q.length + 1 ≤ 1000:=by simpa using hl
  have e0:(v :: q).reverse ++ List.replicate z 0=q.reverse ++ v :: List.replicate z 0:=by simp
  have e1:(((v :: q).length:Nat):Int) - 1=(q.reverse.length:Int):=by simp
  rw [e0,e1]
  have hi:=idx_mid q.reverse (List.replicate z 0) v
  have hs:=set_mid q.reverse (List.replicate z 0) v (v + 1)
  have hi2:=idx_mid q.reverse (List.replicate z 0) (v + 1)
  have hs2:=set_mid q.reverse (List.replicate z 0) (v + 1) 0
  have hbody:raddleref17_next_s0_l1 (b:Int) (q.reverse ++ v :: List.replicate z 0,(q.reverse.length:Int))=some (if v + 1 < (b:Int) then .inr (.inl (true,q.reverse ++ (v + 1) :: List.replicate z 0)) else .inl (q.reverse ++ List.replicate (z + 1) 0,(q.length:Int) - 1)):=by
   unfold raddleref17_next_s0_l1
   simp only [dT (show (0:Int) ≤ (q.reverse.length:Int) by omega),if_true,hi,Option.bind_some,w64_of (x:=v + 1) (by omega) (by omega),hs,hi2]
   by_cases c:v + 1 < (b:Int)
   ·rw [if_pos c,dT c,if_pos rfl]
   ·rw [if_neg c,dF c,if_neg (by decide),hs2]
    simp only [Option.bind_some]
    rw [w64_of (by simp; omega) (by simp; omega),List.length_reverse,List.replicate_succ]
  by_cases c:v + 1 < (b:Int)
  ·rw [if_pos c] at hbody
   rw [whileO_done hbody]
   simp only [nr]
   rw [if_pos c]
   simp
  ·rw [if_neg c] at hbody
   rw [whileO_step hbody,ih (z + 1) (fun y hy=>hq y (List.mem_cons_of_mem _ hy)) (by omega)]
   simp only [nr]
   rw [if_neg c]
   cases nr b q with
   | some r=>simp [List.replicate_succ]
   | none=>
    simp only [Option.map_none,List.length_cons]
    rw [show q.length + (z + 1)=q.length + 1 + z by omega]
theorem next_eq {b:Nat} (hb:b ≤ 1000) (l:List Int) (hq:∀ y,y ∈ l→0 ≤ y∧y < (b:Int)) (hl:l.length ≤ 1000) :
 F_raddleref17_next_s0 l (b:Int)=some (match nxt b l with | some r=>(true,r) | none=>(false,List.replicate l.length 0)):=by
 have h1:=nx_loop hb l.reverse 0 (fun y hy=>hq y (List.mem_reverse.1 hy)) (by simpa using hl)
 simp only [List.reverse_reverse,List.replicate_zero,List.append_nil,List.length_reverse,Nat.add_zero] at h1
 unfold F_raddleref17_next_s0
 rw [w64_of (by omega) (by omega),h1]
 unfold nxt
 cases e:nr b l.reverse with
 | some r=>
  have:=nr_len e
  simp only [Option.bind_some,Option.map_some]
  have hk:keepO l r.reverse=some r.reverse:=by
   unfold keepO
   rw [List.length_reverse] at this ⊢
   rw [if_pos (by omega)]
  rw [hk]
  rfl
 | none=>
  simp only [Option.bind_some,Option.map_none]
  simp [keepO]
def od (b:Nat):Nat→List (List Int)
 | 0=>[[]]
 | m + 1=>(List.range b).flatMap fun (v:Nat)=>(od b m).map fun r=>(v:Int) :: r
theorem od_mem {b m:Nat} {l:List Int} (h:l ∈ od b m):l.length=m∧∀ y,y ∈ l→0 ≤ y∧y < (b:Int):=by
 induction m generalizing l with
 | zero=>
  rw [List.mem_singleton.1 h]
  exact ⟨rfl,fun y hy=>absurd hy List.not_mem_nil⟩
 | succ m ih=>
  obtain ⟨v,hv,h2⟩:=List.mem_flatMap.1 h
  obtain ⟨r,hr,rfl⟩:=List.mem_map.1 h2
  have hv2:=List.mem_range.1 hv
  refine ⟨by rw [List.length_cons,(ih hr).1],fun y hy=>?_⟩
  rcases List.mem_cons.1 hy with h3 | h3
  ·rw [h3]; omega
  ·exact (ih hr).2 y h3
inductive Tr (f:List Int→Option (List Int)):List Int→List (List Int)→Option (List Int)→Prop
 | one {x:List Int} {o:Option (List Int)} (h:f x=o):Tr f x [x] o
 | cons {x y:List Int} {L:List (List Int)} {o:Option (List Int)} (h:f x=some y) (t:Tr f y L o):Tr f x (x :: L) o
theorem Tr.app {f:List Int→Option (List Int)} {x y:List Int} {L1 L2:List (List Int)} {o o1:Option (List Int)} (h1:Tr f x L1 o1) (e:o1=some y) (h2:Tr f y L2 o):Tr f x (L1 ++ L2) o:=by
 induction h1 with
 | one h=>exact .cons (h.trans e) h2
 | cons h t ih=>exact .cons h (ih e)
theorem Tr.lift {b m:Nat} {v:Int} {x:List Int} {L:List (List Int)} {o:Option (List Int)} (h:Tr (nxt b) x L o) (ho:o=none) (hm:∀ l,l ∈ L→l.length=m) :
 Tr (nxt b) (v :: x) (L.map fun r=>v :: r) (if v + 1 < (b:Int) then some ((v + 1) :: List.replicate m 0) else none):=by
 induction h with
 | one h=>
  refine .one ?_
  rw [nxt_cons,h,ho]
  simp only
  rw [hm _ List.mem_cons_self]
 | cons h t ih=>
  refine .cons ?_ (ih ho fun l hl=>hm l (List.mem_cons_of_mem _ hl))
  rw [nxt_cons,h]
theorem od_tr {b:Nat} (hb:1 ≤ b) (m:Nat):Tr (nxt b) (List.replicate m 0) (od b m) none:=by
 induction m with
 | zero=>exact .one rfl
 | succ m ih=>
  have hm:∀ l,l ∈ od b m→l.length=m:=fun l hl=>(od_mem hl).1
  have key:∀ c v,v + c + 1=b→Tr (nxt b) ((v:Int) :: List.replicate m 0) ((List.range' v (c + 1)).flatMap fun (u:Nat)=>(od b m).map fun r=>(u:Int) :: r) none:=by
   intro c
   induction c with
   | zero=>
    intro v hv
    have:=Tr.lift (v:=(v:Int)) ih rfl hm
    rw [if_neg (by omega)] at this
    simpa using this
   | succ c ihc=>
    intro v hv
    have h1:=Tr.lift (v:=(v:Int)) ih rfl hm
    rw [if_pos (by omega)] at h1
    have h2:=ihc (v + 1) (by omega)
    rw [List.range'_succ,List.flatMap_cons]
    refine Tr.app h1 ?_ h2
    rw [Int.natCast_add,Int.natCast_one]
  have:=key (b - 1) 0 (by omega)
  rw [show b - 1 + 1=b by omega,← List.range_eq_range'] at this
  exact this
def nbt:Nat→List Int→Option Nat
 | n,[]=>some n
 | n,v :: r=>if (n:Int) < v then none else nbt (if v=(n:Int) then n + 1 else n) r
def good (k n:Nat) (l:List Int):Bool:=match nbt n l with | some t=>decide (t ≤ k) | none=>false
theorem numb_eq (l:List Int) (hl:l.length ≤ 1000) (k:Nat):F_raddleref17_numbered l (k:Int)=some (good k 0 l):=by
 have key:∀ j i n,j + i=l.length→n ≤ i→whileO (raddleref17_numbered_l1 l) ((n:Int),(i:Int))=some (match nbt n (l.drop i) with | some t=>.inr (t:Int) | none=>.inl false):=by
  intro j
  induction j with
  | zero=>
   intro i n hi hn
   obtain rfl:i=l.length:=by omega
   refine whileO_done ?_
   unfold raddleref17_numbered_l1
   simp [nbt]
  | succ j ih=>
   intro i n hi hn
   have hi2:i < l.length:=by omega
   have hd:l.drop i=l[i] :: l.drop (i + 1):=List.drop_eq_getElem_cons hi2
   rw [hd]
   have hbody:raddleref17_numbered_l1 l ((n:Int),(i:Int))=some (if (n:Int) < l[i] then .inr (.inl false) else .inl (((if l[i]=(n:Int) then n + 1 else n:Nat):Int),((i + 1:Nat):Int))):=by
    unfold raddleref17_numbered_l1
    simp only [dT (show (i:Int) < (l.length:Int) by omega),if_true,idxO_nat hi2,Option.bind_some,w64_succ (show i < 9223372036854775807 by omega),w64_succ (show n < 9223372036854775807 by omega)]
    by_cases c:(n:Int) < l[i]
    ·rw [if_pos c,dT c,if_pos rfl]
     rfl
    ·rw [if_neg c,dF c,if_neg (by decide)]
     by_cases c2:l[i]=(n:Int)
     ·rw [if_pos c2,bT c2,if_pos rfl]
      rfl
     ·rw [if_neg c2,bF c2,if_neg (by decide)]
      rfl
   simp only [nbt]
   by_cases c:(n:Int) < l[i]
   ·rw [if_pos c] at hbody
    rw [if_pos c,whileO_done hbody]
   ·rw [if_neg c] at hbody
    rw [if_neg c,whileO_step hbody]
    exact ih (i + 1) _ (by omega) (by split <;> omega)
 have h0:=key l.length 0 0 (by omega) (by omega)
 rw [List.drop_zero] at h0
 unfold F_raddleref17_numbered good
 have z:(((0:Nat):Int))=0:=rfl
 rw [z] at h0
 rw [h0]
 cases nbt 0 l with
 | some t=>
  simp only [Option.bind_some]
  congr 1
  exact decide_eq_decide.2 (by omega)
 | none=>rfl
theorem flat_cut {β:Type} {f f':Nat→List β} {c b:Nat} (hc:c ≤ b) (h1:∀ v,v < c→f v=f' v) (h2:∀ v,c ≤ v→v < b→f v=[]):(List.range b).flatMap f=(List.range c).flatMap f':=by
 obtain ⟨d,rfl⟩:∃ d,b=c + d:=⟨b - c,by omega⟩
 clear hc
 induction d with
 | zero=>
  simp only [Nat.add_zero] at h2 ⊢
  clear h2
  induction c with
  | zero=>rfl
  | succ c ih=>rw [List.range_succ,List.flatMap_append,List.flatMap_append,ih fun v hv=>h1 v (by omega)]; simp [h1 c (by omega)]
 | succ d ih=>
  rw [show c + (d + 1)=(c + d) + 1 by omega,List.range_succ,List.flatMap_append,ih fun v hv hv2=>h2 v hv (by omega)]
  simp [h2 (c + d) (by omega) (by omega)]
theorem filter_flat {α β:Type} (p:β→Bool) (f:α→List β) (l:List α):(l.flatMap f).filter p=l.flatMap fun a=>(f a).filter p:=by
 induction l with
 | nil=>rfl
 | cons a l ih=>rw [List.flatMap_cons,List.filter_append,ih,List.flatMap_cons]
theorem od_rg {w k m n:Nat} (hn:n ≤ k) (hw:n + m ≤ w):(od (min w k) m).filter (good k n)=rg k m n:=by
 induction m generalizing n with
 | zero=>
  have:good k n []=true:=by unfold good; simp [nbt,hn]
  simp [od,rg,this]
 | succ m ih=>
  simp only [od,rg]
  rw [filter_flat]
  refine flat_cut (by omega) (fun v hv=>?_) (fun v hv hv2=>?_)
  ·rw [List.filter_map]
   congr 1
   have e:(good k n) ∘ (fun r=>(v:Int) :: r)=good k (max n (v + 1)):=by
    funext r
    show good k n ((v:Int) :: r)=_
    unfold good
    simp only [nbt]
    rw [if_neg (by omega)]
    have:(if (v:Int)=(n:Int) then n + 1 else n)=max n (v + 1):=by split <;> omega
    rw [this]
   rw [e]
   exact ih (by omega) (by omega)
  ·rw [List.filter_map]
   have e:(good k n) ∘ (fun r=>(v:Int) :: r)=fun _=>false:=by
    funext r
    show good k n ((v:Int) :: r)=_
    unfold good
    simp only [nbt]
    rw [if_pos (by omega)]
   rw [e]
   simp
theorem best_round {g:api_Grid} {w h:Nat} (G:Gr g w h) {k:Nat} (x:List Int) (S:List Int × Int) (hx:x.length=w) (hb:∀ y,y ∈ x→0 ≤ y∧y < ((min w k:Nat):Int)) :
 raddleref17_best_l1 (k:Int) g (x,S.1,S.2)=some (match nxt (min w k) x with | some y=>.inl (y,(if good k 0 x=true then stp (cost g w h) S x else S).1,(if good k 0 x=true then stp (cost g w h) S x else S).2) | none=>.inr ((if good k 0 x=true then stp (cost g w h) S x else S).1,(if good k 0 x=true then stp (cost g w h) S x else S).2)):=by
 have w1:=G.w1
 have hn:=next_eq (b:=min w k) (by omega) x hb (by omega)
 have hm:(if g.W < (k:Int) then g.W else (k:Int))=((min w k:Nat):Int):=by rw [G.hw]; split <;> omega
 have ga:Gr (gm (outc g w x) w h) w h:=gm_gr _ G.w0 G.w1 G.h0 G.h1
 have hap:=apart_eq ga G
 rw [cost_apd G] at hap
 have hcl:appO ([]:List Int) x=some x:=by rw [appO_of (by simp; omega)]; rfl
 have hlen:((S.1.length:Int) == 0)=decide (S.1=[]):=by
  cases S.1 with
  | nil=>rfl
  | cons a t=>simp; omega
 unfold raddleref17_best_l1
 simp only [numb_eq x (by omega) k,Option.bind_some,hm]
 cases hg:good k 0 x with
 | false=>
  simp only [Bool.false_eq_true,if_false,Option.bind_some,hn]
  cases nxt (min w k) x with
  | some y=>rfl
  | none=>rfl
 | true=>
  simp only [if_true,rch_eq G x hx,Option.bind_some,hap,hlen]
  unfold stp
  by_cases c:S.1=[]
  ·rw [if_pos (show S.1=[] ∨ (cost g w h x:Int) < S.2 from .inl c)]
   simp only [dT c,if_true,Option.bind_some,hcl,hn]
   cases nxt (min w k) x with
   | some y=>rfl
   | none=>rfl
  ·by_cases c2:(cost g w h x:Int) < S.2
   ·rw [if_pos (show S.1=[] ∨ (cost g w h x:Int) < S.2 from .inr c2)]
    simp only [dF c,Bool.false_eq_true,if_false,dT c2,if_true,Option.bind_some,hcl,hn]
    cases nxt (min w k) x with
    | some y=>rfl
    | none=>rfl
   ·rw [if_neg (show ¬ (S.1=[] ∨ (cost g w h x:Int) < S.2) from fun hc=>hc.elim c c2)]
    simp only [dF c,Bool.false_eq_true,if_false,dF c2,Option.bind_some,hn]
    cases nxt (min w k) x with
    | some y=>rfl
    | none=>rfl
theorem best_loop {g:api_Grid} {w h:Nat} (G:Gr g w h) {k:Nat} {x:List Int} {L:List (List Int)} {o:Option (List Int)} (t:Tr (nxt (min w k)) x L o) (ho:o=none) (hL:∀ l,l ∈ L→l.length=w∧∀ y,y ∈ l→0 ≤ y∧y < ((min w k:Nat):Int)) (S:List Int × Int) :
 whileO (raddleref17_best_l1 (k:Int) g) (x,S.1,S.2)=some (L.foldl (fun S l=>if good k 0 l=true then stp (cost g w h) S l else S) S):=by
 induction t generalizing S with
 | @one x o hx=>
  have h1:=hL x List.mem_cons_self
  have hr:=best_round G (k:=k) x S h1.1 h1.2
  rw [hx,ho] at hr
  rw [whileO_done hr]
  rfl
 | @cons x y L o hx t ih=>
  have h1:=hL x List.mem_cons_self
  have hr:=best_round G (k:=k) x S h1.1 h1.2
  rw [hx] at hr
  rw [whileO_step hr,ih ho (fun l hl=>hL l (List.mem_cons_of_mem _ hl))]
  rfl
theorem rbest_eq {g:api_Grid} {w h:Nat} (G:Gr g w h) {k:Nat} (hk:1 ≤ k):F_raddleref17_best g (k:Int)=some (bst g w h k):=by
 have w0:=G.w0
 have w1:=G.w1
 have h1:=best_loop G (od_tr (b:=min w k) (by omega) w) rfl (fun l hl=>od_mem hl) ([],0)
 unfold F_raddleref17_best
 rw [makeO_of (k:=w) G.hw (by omega)]
 simp only [Option.bind_some]
 have e:(od (min w k) w).foldl (fun S l=>if good k 0 l=true then stp (cost g w h) S l else S) ([],0)=bst g w h k:=by
  unfold bst
  rw [← od_rg (w:=w) (k:=k) (m:=w) (n:=0) (by omega) (by omega),List.foldl_filter]
 rw [e] at h1
 rw [h1]
 rfl
def ferr (g:api_Grid):Int:=if gerr g=0 then (if 8 < g.W then 4 else 0) else gerr g
theorem few_eq (g:api_Grid):F_reduce_few g=some (ferr g)∧F_raddleref17_Few g=some (ferr g):=by
 unfold F_reduce_few F_raddleref17_Few ferr
 simp only [(gcheck_eq g).1,(gcheck_eq g).2,Option.bind_some]
 by_cases h:gerr g=0
 ·rw [nF h,if_pos h]
  by_cases h2:8 < g.W
  ·simp [h2]
  ·simp [h2]
 ·rw [nT h,if_neg h]
  exact ⟨rfl,rfl⟩
theorem gr_ferr {g:api_Grid} {w h:Nat} (G:Gr g w h) (hw:w ≤ 8):ferr g=0:=by
 unfold ferr
 rw [if_pos (gr_err G),if_neg (by rw [G.hw]; omega)]
theorem best_eq {g:api_Grid} {w h:Nat} (G:Gr g w h) (hw:w ≤ 8) {k:Nat} (h1:1 ≤ k) (h2:k ≤ 40) :
 F_reduce_Best g (k:Int)=some ((bst g w h k).1,(bst g w h k).2,0)∧F_raddleref17_Best g (k:Int)=some ((bst g w h k).1,(bst g w h k).2,0):=by
 unfold F_reduce_Best F_raddleref17_Best
 simp only [(few_eq g).1,(few_eq g).2,gr_ferr G hw,Option.bind_some,nF (show (0:Int)=0 from rfl),Bool.false_eq_true,if_false,dF (show ¬ (k:Int) < 1 by omega),dF (show ¬ (40:Int) < (k:Int) by omega),search_eq G h2 hw,rbest_eq G h1,and_self]
def g3:api_Grid:=⟨3,2,[true,true,true,true,true,false]⟩
def g2:api_Grid:=⟨2,1,[true,false]⟩
theorem three_eq:F_raddlelaw17_three=some g3:=rfl
theorem two_eq:F_raddlelaw17_two=some g2:=rfl
theorem G3:Gr g3 3 2:=⟨rfl,rfl,by decide,by decide,by decide,by decide,rfl⟩
theorem G2:Gr g2 2 1:=⟨rfl,rfl,by decide,by decide,by decide,by decide,rfl⟩
theorem al1:F_reduce_Best g3 1=some ([0,0,0],1,0):=by
 have:=(best_eq G3 (by decide) (k:=1) (by decide) (by decide)).1
 rw [show bst g3 3 2 1=([0,0,0],1) by decide] at this
 exact this
theorem al2:F_reduce_Change g3 [0,0,0]=some (⟨3,2,[true,true,true,true,true,true]⟩,1,0):=by
 rw [chg_plain,chg_eq G3 [0,0,0] rfl (by decide),show cost g3 3 2 [0,0,0]=1 by decide]
 rfl
theorem al3:F_reduce_Best g3 2=some ([0,0,1],0,0):=by
 have:=(best_eq G3 (by decide) (k:=2) (by decide) (by decide)).1
 rw [show bst g3 3 2 2=([0,0,1],0) by decide] at this
 exact this
theorem al4:F_reduce_Change g2 [0,0]=some (⟨2,1,[false,false]⟩,1,0):=by
 rw [chg_plain,chg_eq G2 [0,0] rfl (by decide),show cost g2 2 1 [0,0]=1 by decide]
 rfl
theorem zero21:F_raddleref01_Zero 2 1=some ⟨2,1,[false,false]⟩:=by
 unfold F_raddleref01_Zero
 rw [makeO_of (k:=2) (by decide) (by decide)]
 rfl
theorem alive17:F_raddlelaw17_alive=some true:=by
 have s1:F_raddleref02_Same [0,0,0] [0,0,0]=some true:=by rw [rsame_il _ _ (by decide)]; rfl
 have s2:F_raddleref02_Same [0,0,1] [0,0,1]=some true:=by rw [rsame_il _ _ (by decide)]; rfl
 have s3:F_raddleref01_Same ⟨3,2,[true,true,true,true,true,true]⟩ ⟨3,2,[true,true,true,true,true,true]⟩=some true:=by rw [rsame_grid _ _ (by decide)]; simp
 have s4:F_raddleref01_Same ⟨2,1,[false,false]⟩ ⟨2,1,[false,false]⟩=some true:=by rw [rsame_grid _ _ (by decide)]; simp
 unfold F_raddlelaw17_alive
 simp only [three_eq,two_eq,al1,al2,al3,al4,Option.bind_some,zero21,s1,s2,s3,s4]
 rfl
theorem rg_head {k:Nat} (hk:1 ≤ k) (m n:Nat):∃ t,rg k m n=List.replicate m 0 :: t:=by
 induction m generalizing n with
 | zero=>exact ⟨[],rfl⟩
 | succ m ih=>
  obtain ⟨c,hc⟩:∃ c,min k (n + 1)=c + 1:=⟨min k (n + 1) - 1,by omega⟩
  obtain ⟨t,ht⟩:=ih (max n (0 + 1))
  simp only [rg]
  rw [hc,List.range_succ_eq_map,List.flatMap_cons,ht]
  exact ⟨_,by rw [List.map_cons,List.cons_append,List.replicate_succ]; rfl⟩
theorem dcnt_add (f b:Nat→Bool) (m n:Nat):dcnt f b (m + n)=dcnt f b m + dcnt (fun x=>f (m + x)) (fun x=>b (m + x)) n:=by
 induction n with
 | zero=>rfl
 | succ n ih=>
  rw [← Nat.add_assoc]
  simp only [dcnt]
  rw [ih,Nat.add_assoc]
def nsm (f:Nat→Nat):Nat→Nat
 | 0=>0
 | n + 1=>nsm f n + f n
theorem nsm_le {f g:Nat→Nat} {n:Nat} (h:∀ i,i < n→f i ≤ g i):nsm f n ≤ nsm g n:=by
 induction n with
 | zero=>exact Nat.le_refl _
 | succ n ih=>exact Nat.add_le_add (ih fun i hi=>h i (by omega)) (h n (by omega))
theorem nsm_zero {f:Nat→Nat} {n:Nat} (h:∀ i,i < n→f i=0):nsm f n=0:=by
 induction n with
 | zero=>rfl
 | succ n ih=>
  simp only [nsm]
  rw [ih fun i hi=>h i (by omega),h n (by omega)]
theorem nsm_add (f g:Nat→Nat) (n:Nat):nsm (fun i=>f i + g i) n=nsm f n + nsm g n:=by
 induction n with
 | zero=>rfl
 | succ n ih=>
  simp only [nsm]
  rw [ih]
  omega
theorem nsm_point {j c n:Nat} (h:j < n):nsm (fun i=>if i=j then c else 0) n=c:=by
 induction n with
 | zero=>omega
 | succ n ih=>
  simp only [nsm]
  by_cases e:n=j
  ·subst e
   rw [if_pos rfl,nsm_zero fun i hi=>if_neg (by omega)]
   omega
  ·rw [if_neg e,ih (by omega)]
   omega
theorem dcnt_rows (f b:Nat→Bool) (w h:Nat):dcnt f b (h * w)=nsm (fun y=>dcnt (fun x=>f (y * w + x)) (fun x=>b (y * w + x)) w) h:=by
 induction h with
 | zero=>rw [Nat.zero_mul]; rfl
 | succ h ih=>
  rw [Nat.add_mul,Nat.one_mul,dcnt_add,ih]
  rfl
theorem dcnt_mis {s:Nat→Int} {b:Nat→Bool} {n K:Nat} (hs:∀ x,x < n→0 ≤ s x∧s x < (K:Int)) (c:Int→Bool):dcnt (fun x=>c (s x)) b n=nsm (fun v=>upk s b (v:Int) (!(c v)) n) K:=by
 induction n with
 | zero=>exact (nsm_zero fun i _=>rfl).symm
 | succ n ih=>
  simp only [dcnt,upk]
  rw [nsm_add,ih fun x hx=>hs x (by omega)]
  have h1:=hs n (by omega)
  obtain ⟨j,hj⟩:∃ j:Nat,s n=(j:Int):=⟨(s n).toNat,by omega⟩
  have e:(fun v:Nat=>if s n=(v:Int)∧b n=!(c v) then 1 else 0)=fun v=>if v=j then (if (c (s n) != b n)=true then 1 else 0) else 0:=by
   funext v
   by_cases hv:v=j
   ·subst hv
    rw [if_pos rfl,← hj]
    cases b n <;> cases c (s n) <;> simp
   ·rw [if_neg hv,if_neg]
    rintro ⟨h2,_⟩
    omega
  rw [e,nsm_point (by omega)]
theorem maj_le {s:Nat→Int} {b:Nat→Bool} {n K:Nat} (hs:∀ x,x < n→0 ≤ s x∧s x < (K:Int)) (c:Int→Bool):dcnt (fun x=>decide (0 < netk s b (s x) n)) b n ≤ dcnt (fun x=>c (s x)) b n:=by
 rw [dcnt_mis hs (fun v=>decide (0 < netk s b v n)),dcnt_mis hs c]
 refine nsm_le fun v _=>?_
 have h1:=upk_net s b (v:Int) n
 by_cases h2:0 < netk s b (v:Int) n
 ·rw [decide_eq_true h2]
  cases c v
  ·show upk s b (v:Int) false n ≤ upk s b (v:Int) true n
   omega
  ·exact Nat.le_refl _
 ·rw [decide_eq_false h2]
  cases c v
  ·exact Nat.le_refl _
  ·show upk s b (v:Int) true n ≤ upk s b (v:Int) false n
   omega
theorem sl_bd {l:List Int} {w:Nat} (hl:l.length=w) (hb:∀ y,y ∈ l→0 ≤ y∧y < 400) (x:Nat) (hx:x < w):0 ≤ sl l x∧sl l x < ((400:Nat):Int):=by
 have e:l[x]'(by omega)=sl l x:=getD_of (by omega) 0
 have:=hb _ (List.getElem_mem (l:=l) (n:=x) (by omega))
 rw [e] at this
 exact this
theorem cost_le {g p:api_Grid} {w h:Nat} {l:List Int} (hl:l.length=w) (hb:∀ y,y ∈ l→0 ≤ y∧y < 400)
 (hc:∀ x x' y,x < w→x' < w→y < h→sl l x=sl l x'→cell p w x y=cell p w x' y):cost g w h l ≤ apd p g (w * h):=by
 unfold cost apd
 rw [Nat.mul_comm w h,dcnt_rows,dcnt_rows]
 refine nsm_le fun y hy=>?_
 have e1:dcnt (fun x=>oF g w l (y * w + x)) (fun x=>oB g (y * w + x)) w=dcnt (fun x=>decide (0 < netk (sl l) (cb g w y) (sl l x) w)) (cb g w y) w:=by
  refine dcnt_cong fun x hx=>⟨?_,rfl⟩
  unfold oF
  rw [pl_mod hx,pl_div hx]
  rfl
 have hcf:∃ cf:Int→Bool,∀ x,x < w→cf (sl l x)=cell p w x y:=by
  refine ⟨fun v=>@decide (∃ x,x < w∧sl l x=v∧cell p w x y=true) (Classical.propDecidable _),fun x hx=>?_⟩
  cases hq:cell p w x y with
  | true=>exact @decide_eq_true _ (Classical.propDecidable _) ⟨x,hx,rfl,hq⟩
  | false=>
   refine @decide_eq_false _ (Classical.propDecidable _) ?_
   rintro ⟨x',hx',h1,h2⟩
   rw [hc x' x y hx' hx hy h1,hq] at h2
   cases h2
 obtain ⟨cf,hcf⟩:=hcf
 have e2:dcnt (fun x=>p.Bits.getD (y * w + x) false) (fun x=>g.Bits.getD (y * w + x) false) w=dcnt (fun x=>cf (sl l x)) (cb g w y) w:=
  dcnt_cong fun x hx=>⟨(hcf x hx).symm,rfl⟩
 rw [e1]
 refine Nat.le_trans (maj_le (sl_bd hl hb) cf) (Nat.le_of_eq e2.symm)
def fnl {α:Type} [DecidableEq α] (F:List α) (a:α):List α:=if a ∈ F then F else F ++ [a]
def fns {α:Type} [DecidableEq α] (F ks:List α):List α:=ks.foldl fnl F
theorem fnl_mem {α:Type} [DecidableEq α] {F:List α} {a b:α}:b ∈ fnl F a ↔ b ∈ F ∨ b=a:=by
 unfold fnl
 by_cases h:a ∈ F
 ·rw [if_pos h]
  constructor
  ·exact .inl
  ·rintro (h1 | h1)
   ·exact h1
   ·rw [h1]; exact h
 ·rw [if_neg h]
  simp
theorem fns_mem {α:Type} [DecidableEq α] {F ks:List α} {b:α}:b ∈ fns F ks ↔ b ∈ F ∨ b ∈ ks:=by
 induction ks generalizing F with
 | nil=>simp [fns]
 | cons a r ih=>
  show b ∈ fns (fnl F a) r ↔ _
  rw [ih,fnl_mem,List.mem_cons]
  constructor
  ·rintro ((h | h) | h)
   ·exact .inl h
   ·exact .inr (.inl h)
   ·exact .inr (.inr h)
  ·rintro (h | h | h)
   ·exact .inl (.inl h)
   ·exact .inl (.inr h)
   ·exact .inr h
theorem fns_ext {α:Type} [DecidableEq α] (F ks:List α):∃ t,fns F ks=F ++ t:=by
 induction ks generalizing F with
 | nil=>exact ⟨[],by simp [fns]⟩
 | cons a r ih=>
  obtain ⟨t,ht⟩:=ih (fnl F a)
  have e:fns F (a :: r)=fns (fnl F a) r:=rfl
  rw [e,ht]
  unfold fnl
  by_cases h:a ∈ F
  ·rw [if_pos h]; exact ⟨t,rfl⟩
  ·rw [if_neg h]; exact ⟨[a] ++ t,by simp⟩
theorem idx_ext {α:Type} [DecidableEq α] {F:List α} {a:α} (h:a ∈ F) (t:List α):(F ++ t).idxOf a=F.idxOf a:=by
 rw [List.idxOf_append,if_pos h]
theorem idx_inj {α:Type} [DecidableEq α] {F:List α} {a b:α} (ha:a ∈ F) (hb:b ∈ F) (h:F.idxOf a=F.idxOf b):a=b:=by
 have h1:=List.idxOf_lt_length_of_mem ha
 have h2:=List.idxOf_lt_length_of_mem hb
 have e1:F[F.idxOf a]=a:=List.getElem_idxOf h1
 have e2:F[F.idxOf b]=b:=List.getElem_idxOf h2
 rw [← e1,← e2]
 congr 1
theorem idx_new {α:Type} [DecidableEq α] {F:List α} {a:α} (h:¬ a ∈ F) (t:List α):((F ++ [a]) ++ t).idxOf a=F.length:=by
 rw [idx_ext (by simp) t,List.idxOf_append,if_neg h]
 simp
theorem canon {α:Type} [DecidableEq α] (k:Nat) (ks:List α) (F:List α) (hk:(fns F ks).length ≤ k):(ks.map fun a=>((fns F ks).idxOf a:Int)) ∈ rg k ks.length F.length:=by
 induction ks generalizing F with
 | nil=>simp [rg]
 | cons a r ih=>
  have hd:fns F (a :: r)=fns (fnl F a) r:=rfl
  rw [hd] at hk ⊢
  have h1:=ih (fnl F a) hk
  obtain ⟨t,ht⟩:=fns_ext (fnl F a) r
  have hlen:(fnl F a).length ≤ (fns (fnl F a) r).length:=by rw [ht,List.length_append]; omega
  have key:(fns (fnl F a) r).idxOf a < (fnl F a).length∧(fns (fnl F a) r).idxOf a < F.length + 1∧max F.length ((fns (fnl F a) r).idxOf a + 1)=(fnl F a).length:=by
   rw [ht]
   by_cases h:a ∈ F
   ·have e:fnl F a=F:=if_pos h
    rw [e,idx_ext h]
    have:=List.idxOf_lt_length_of_mem h
    omega
   ·have e:fnl F a=F ++ [a]:=if_neg h
    rw [e,idx_new h,List.length_append,List.length_singleton]
    omega
  simp only [List.map_cons,List.length_cons,rg]
  refine List.mem_flatMap.2 ⟨(fns (fnl F a) r).idxOf a,List.mem_range.2 (by omega),List.mem_map.2 ⟨_,?_,rfl⟩⟩
  rw [key.2.2]
  exact h1
theorem rg_mem {k m n:Nat} {l:List Int} (h:l ∈ rg k m n):l.length=m∧∀ y,y ∈ l→0 ≤ y∧y < (k:Int):=by
 induction m generalizing n l with
 | zero=>
  rw [List.mem_singleton.1 h]
  exact ⟨rfl,fun y hy=>absurd hy List.not_mem_nil⟩
 | succ m ih=>
  simp only [rg] at h
  obtain ⟨v,hv,h2⟩:=List.mem_flatMap.1 h
  obtain ⟨r,hr,rfl⟩:=List.mem_map.1 h2
  have hv2:=List.mem_range.1 hv
  refine ⟨by rw [List.length_cons,(ih hr).1],fun y hy=>?_⟩
  rcases List.mem_cons.1 hy with h3 | h3
  ·rw [h3]; omega
  ·exact (ih hr).2 y h3
theorem stp_min (f:List Int→Nat) (L:List (List Int)):∀ S:List Int × Int,S.1 ≠ []→(∀ l,l ∈ L→l ≠ [])→(L.foldl (stp f) S).2 ≤ S.2∧(∀ l,l ∈ L→(L.foldl (stp f) S).2 ≤ (f l:Int))∧(L.foldl (stp f) S=S ∨ ∃ l,l ∈ L∧L.foldl (stp f) S=(l,(f l:Int))):=by
 induction L with
 | nil=>exact fun S _ _=>⟨Int.le_refl _,fun l hl=>absurd hl List.not_mem_nil,.inl rfl⟩
 | cons a L ih=>
  intro S hS hL
  rw [List.foldl_cons]
  by_cases c:(f a:Int) < S.2
  ·have e:stp f S a=(a,(f a:Int)):=if_pos (.inr c)
   rw [e]
   obtain ⟨h1,h2,h3⟩:=ih (a,(f a:Int)) (hL a List.mem_cons_self) fun l hl=>hL l (List.mem_cons_of_mem _ hl)
   refine ⟨by have h4:(List.foldl (stp f) (a,(f a:Int)) L).2 ≤ (f a:Int):=h1; omega,fun l hl=>?_,?_⟩
   ·rcases List.mem_cons.1 hl with h5 | h5
    ·rw [h5]; exact h1
    ·exact h2 l h5
   ·rcases h3 with h3 | ⟨l,h5,h6⟩
    ·exact .inr ⟨a,List.mem_cons_self,h3⟩
    ·exact .inr ⟨l,List.mem_cons_of_mem _ h5,h6⟩
  ·have e:stp f S a=S:=if_neg fun hc=>hc.elim hS c
   rw [e]
   obtain ⟨h1,h2,h3⟩:=ih S hS fun l hl=>hL l (List.mem_cons_of_mem _ hl)
   refine ⟨h1,fun l hl=>?_,?_⟩
   ·rcases List.mem_cons.1 hl with h5 | h5
    ·rw [h5]; omega
    ·exact h2 l h5
   ·rcases h3 with h3 | ⟨l,h5,h6⟩
    ·exact .inl h3
    ·exact .inr ⟨l,List.mem_cons_of_mem _ h5,h6⟩
theorem bst_min {g:api_Grid} {w h k:Nat} (hk:1 ≤ k) (hw:1 ≤ w):∃ l,l ∈ rg k w 0∧bst g w h k=(l,(cost g w h l:Int))∧∀ l',l' ∈ rg k w 0→cost g w h l ≤ cost g w h l':=by
 obtain ⟨t,ht⟩:=rg_head hk w 0
 have hne:∀ l,l ∈ rg k w 0→l ≠ []:=by
  intro l hl e
  have:=(rg_mem hl).1
  rw [e,List.length_nil] at this
  omega
 have e0:stp (cost g w h) ([],0) (List.replicate w 0)=(List.replicate w 0,(cost g w h (List.replicate w 0):Int)):=if_pos (.inl rfl)
 have hb:bst g w h k=t.foldl (stp (cost g w h)) (List.replicate w 0,(cost g w h (List.replicate w 0):Int)):=by
  unfold bst
  rw [ht,List.foldl_cons,e0]
 rw [ht] at hne
 obtain ⟨h1,h2,h3⟩:=stp_min (cost g w h) t (List.replicate w 0,(cost g w h (List.replicate w 0):Int)) (hne _ List.mem_cons_self) fun l hl=>hne l (List.mem_cons_of_mem _ hl)
 rw [← hb] at h1 h2 h3
 have hm:∀ l',l' ∈ rg k w 0→(bst g w h k).2 ≤ (cost g w h l':Int):=by
  intro l' hl'
  rw [ht] at hl'
  rcases List.mem_cons.1 hl' with h5 | h5
  ·rw [h5]; exact h1
  ·exact h2 l' h5
 rcases h3 with h3 | ⟨l,h5,h6⟩
 ·refine ⟨List.replicate w 0,by rw [ht]; exact List.mem_cons_self,h3,fun l' hl'=>?_⟩
  have:=hm l' hl'
  rw [h3] at this
  exact Int.ofNat_le.1 this
 ·refine ⟨l,by rw [ht]; exact List.mem_cons_of_mem _ h5,h6,fun l' hl'=>?_⟩
  have:=hm l' hl'
  rw [h6] at this
  exact Int.ofNat_le.1 this
theorem fns_snoc {α:Type} [DecidableEq α] (F ks:List α) (a:α):fns F (ks ++ [a])=fnl (fns F ks) a:=by
 unfold fns
 rw [List.foldl_append]
 rfl
theorem fns_len {α:Type} [DecidableEq α] (F ks:List α):(fns F ks).length ≤ F.length + ks.length:=by
 induction ks generalizing F with
 | nil=>exact Nat.le_refl _
 | cons a r ih=>
  have h1:=ih (fnl F a)
  have h2:(fnl F a).length ≤ F.length + 1:=by
   unfold fnl
   split
   ·omega
   ·rw [List.length_append,List.length_singleton]; omega
  have e:fns F (a :: r)=fns (fnl F a) r:=rfl
  rw [e,List.length_cons]
  omega
theorem sl_map {α:Type} (w:Nat) (f:Nat→Int) {x:Nat} (hx:x < w):sl ((List.range w).map f) x=f x:=by
 unfold sl
 simp [List.getD_eq_getElem?_getD,List.getElem?_range hx]
theorem list_sl {l:List Int} {w:Nat} (hl:l.length=w):l=(List.range w).map (sl l):=by
 apply List.ext_getElem?
 intro t
 by_cases ht:t < w
 ·rw [List.getElem?_map,List.getElem?_range ht,List.getElem?_eq_getElem (by omega),Option.map_some]
  congr 1
  exact getD_of (by omega) 0
 ·rw [List.getElem?_eq_none (by omega),List.getElem?_eq_none (by simp; omega)]
theorem canonN {α:Type} [DecidableEq α] (κ:Nat→α) {w k:Nat} (hk:(fns [] ((List.range w).map κ)).length ≤ k):∃ l,l ∈ rg k w 0∧∀ x x',x < w→x' < w→sl l x=sl l x'→κ x=κ x':=by
 have h1:=canon k ((List.range w).map κ) [] hk
 rw [List.map_map,List.length_map,List.length_range,List.length_nil] at h1
 refine ⟨_,h1,fun x x' hx hx' e=>?_⟩
 rw [sl_map (α:=α) w _ hx,sl_map (α:=α) w _ hx'] at e
 have m1:κ x ∈ fns [] ((List.range w).map κ):=fns_mem.2 (.inr (List.mem_map.2 ⟨x,List.mem_range.2 hx,rfl⟩))
 have m2:κ x' ∈ fns [] ((List.range w).map κ):=fns_mem.2 (.inr (List.mem_map.2 ⟨x',List.mem_range.2 hx',rfl⟩))
 exact idx_inj m1 m2 (Int.ofNat_inj.1 e)
theorem rg_400 {k w:Nat} (hk:k ≤ 400) {l:List Int} (hl:l ∈ rg k w 0):l.length=w∧∀ y,y ∈ l→0 ≤ y∧y < 400:=
 ⟨(rg_mem hl).1,fun y hy=>by have:=(rg_mem hl).2 y hy; omega⟩
theorem bst_le_apd {g p:api_Grid} {w h k:Nat} (hk:k ≤ 400) {α:Type} [DecidableEq α] (κ:Nat→α) (hn:(fns [] ((List.range w).map κ)).length ≤ k)
 (hp:∀ x x' y,x < w→x' < w→y < h→κ x=κ x'→cell p w x y=cell p w x' y):∃ l,l ∈ rg k w 0∧cost g w h l ≤ apd p g (w * h):=by
 obtain ⟨l,hl,h1⟩:=canonN κ hn
 exact ⟨l,hl,cost_le (rg_400 hk hl).1 (rg_400 hk hl).2 fun x x' y hx hx' hy e=>hp x x' y hx hx' hy (h1 x x' hx hx' e)⟩
theorem fit_of {g:api_Grid} {w h:Nat} (G:Gr g w h) (hw:w ≤ 6) (hh:h ≤ 20):F_raddlelaw17_fit g=some true:=by
 have hp:w * h ≤ 6 * 20:=Nat.mul_le_mul hw hh
 have hl:=G.len
 unfold F_raddlelaw17_fit
 simp only [rgreat_eq,(gcheck_eq g).2,gr_err G,Option.bind_some,dF (show ¬ 4200 < g.Bits.length by omega)]
 rw [G.hw,G.hh]
 simp only [dT (show (w:Int) ≤ 6 by omega),dT (show (h:Int) ≤ 20 by omega)]
 rfl
theorem fit_cases (g:api_Grid):F_raddlelaw17_fit g=some false ∨ (F_raddlelaw17_fit g=some true∧∃ w h,Gr g w h∧w ≤ 6∧h ≤ 20):=by
 by_cases c:gerr g=0
 ·obtain ⟨w,h,G⟩:=gerr_zero c
  by_cases c2:w ≤ 6∧h ≤ 20
  ·exact .inr ⟨fit_of G c2.1 c2.2,w,h,G,c2.1,c2.2⟩
  ·refine .inl ?_
   unfold F_raddlelaw17_fit
   simp only [rgreat_eq,(gcheck_eq g).2,c,Option.bind_some]
   rw [G.hw,G.hh]
   by_cases c3:4200 < g.Bits.length
   ·simp [c3]
   ·by_cases c4:w ≤ 6
    ·simp [c3,show (w:Int) ≤ 6 by omega,show ¬ (h:Int) ≤ 20 by omega]
    ·simp [c3,show ¬ (w:Int) ≤ 6 by omega]
 ·refine .inl ?_
  unfold F_raddlelaw17_fit
  simp only [rgreat_eq,(gcheck_eq g).2,Option.bind_some]
  by_cases c3:4200 < g.Bits.length
  ·simp [c3]
  ·simp [c3,c]
theorem place_eq (p:List Int) (hl:p.length ≤ 400) {i:Nat} (hi:i ≤ p.length) (x:Int):F_raddleref02_Place p (i:Int) x=some (if x ∈ p.take i then (((p.take i).idxOf x:Nat):Int) else -1):=by
 have hlen:(p.take i).length=i:=by rw [List.length_take]; omega
 have hw:whileO (raddleref02_Place_l1 (i:Int) p x) 0=some (if (p.take i).findIdx (· == x) < (p.take i).length then .inl (((p.take i).findIdx (· == x):Nat):Int) else .inr ()):=by
  refine loop_idx (p.take i) (· == x) (fun k=>(Sum.inl (k:Int):Int ⊕ Unit)) (Sum.inr ()) (fun k hk=>?_) ?_
  ·unfold raddleref02_Place_l1
   have hk2:k < i:=by omega
   have e:(p.take i)[k]=p[k]'(by omega):=List.getElem_take
   rw [e]
   simp only [dT (show (k:Int) < (i:Int) by omega),if_true,idxO_nat (xs:=p) (k:=k) (by omega),Option.bind_some,w64_succ (show k < 9223372036854775807 by omega)]
   cases (p[k]'(by omega) == x) <;> rfl
  ·unfold raddleref02_Place_l1
   rw [hlen]
   simp only [dF (show ¬ (i:Int) < (i:Int) by omega),Bool.false_eq_true,if_false]
 unfold F_raddleref02_Place
 rw [hw]
 have e2:(p.take i).findIdx (· == x)=(p.take i).idxOf x:=rfl
 rw [e2]
 by_cases c:x ∈ p.take i
 ·rw [if_pos c,if_pos (List.idxOf_lt_length_of_mem c)]
  rfl
 ·rw [if_neg c,if_neg (by
   intro h
   have h2:(p.take i)[(p.take i).idxOf x]=x:=List.getElem_idxOf h
   exact c (h2 ▸ List.getElem_mem h))]
  rfl
def nums (p:List Int) (i:Nat):List Int:=(p.take i).map fun a=>(((fns [] (p.take i)).idxOf a:Nat):Int)
theorem numd_eq (p:List Int) (hl:p.length ≤ 400):F_raddleref02_Numbered p=some (p.map (fun a=>(((fns [] p).idxOf a:Nat):Int)),(((fns [] p).length:Nat):Int)):=by
 have hw:whileO (raddleref02_Numbered_l1 p) (([]:List Int),0,0)=some (nums p p.length,(((fns [] (p.take p.length)).length:Nat):Int)):=by
  refine loop_seq (fun i=>(nums p i,(((fns [] (p.take i)).length:Nat):Int),(i:Int))) p.length (fun i hi=>?_) ?_
  ·unfold raddleref02_Numbered_l1
   have ht:p.take (i + 1)=p.take i ++ [p[i]]:=by rw [List.take_succ_eq_append_getElem hi]
   have hfl:=fns_len [] (p.take i)
   have hti:(p.take i).length=i:=by rw [List.length_take]; omega
   rw [hti,List.length_nil] at hfl
   have hnl:(nums p i).length=i:=by unfold nums; rw [List.length_map,hti]
   simp only [dT (show (i:Int) < (p.length:Int) by omega),if_true,idxO_nat hi,Option.bind_some,place_eq p hl (show i ≤ p.length by omega),w64_succ (show i < 9223372036854775807 by omega)]
   by_cases c:p[i] ∈ p.take i
   ·have hidx:=List.idxOf_lt_length_of_mem c
    rw [hti] at hidx
    have hget:idxO (nums p i) (((p.take i).idxOf p[i]:Nat):Int)=some (((fns [] (p.take i)).idxOf p[i]:Nat):Int):=by
     rw [idxO_nat (by rw [hnl]; exact hidx)]
     unfold nums
     rw [List.getElem_map]
     congr 2
     congr 1
     exact List.getElem_idxOf (by rw [hti]; exact hidx)
    have hF:fns [] (p.take (i + 1))=fns [] (p.take i):=by
     rw [ht,fns_snoc]
     exact if_pos (fns_mem.2 (.inr c))
    have hn:nums p (i + 1)=nums p i ++ [(((fns [] (p.take i)).idxOf p[i]:Nat):Int)]:=by
     unfold nums
     rw [hF,ht,List.map_append]
     rfl
    rw [if_pos c,dT (show (0:Int) ≤ (((p.take i).idxOf p[i]:Nat):Int) by omega),if_pos rfl,hget]
    simp only [Option.bind_some]
    rw [appO_of (by rw [hnl]; simp; omega),hF,hn]
    rfl
   ·have hnm:¬ p[i] ∈ fns [] (p.take i):=by
     intro hm
     rcases fns_mem.1 hm with hm | hm
     ·exact absurd hm List.not_mem_nil
     ·exact c hm
    have hF:fns [] (p.take (i + 1))=fns [] (p.take i) ++ [p[i]]:=by
     rw [ht,fns_snoc]
     exact if_neg hnm
    have hn:nums p (i + 1)=nums p i ++ [(((fns [] (p.take i)).length:Nat):Int)]:=by
     unfold nums
     rw [hF,ht,List.map_append]
     congr 1
     ·refine List.map_congr_left fun a ha=>?_
      rw [idx_ext (fns_mem.2 (.inr ha))]
     ·have:=idx_new hnm []
      rw [List.append_nil] at this
      simp only [List.map_cons,List.map_nil,this]
    rw [if_neg c,dF (show ¬ (0:Int) ≤ -1 by decide),if_neg (by decide),appO_of (by rw [hnl]; simp; omega),hF,hn]
    simp only [Option.bind_some]
    rw [w64_succ (by omega),List.length_append,List.length_singleton]
  ·unfold raddleref02_Numbered_l1
   simp only [dF (show ¬ (p.length:Int) < (p.length:Int) by omega),Bool.false_eq_true,if_false]
 unfold F_raddleref02_Numbered
 simp only [hw,Option.bind_some]
 unfold nums
 rw [List.take_length]
def rNs (n:Nat):List Int:=(List.range n).map fun (u:Nat)=>(u:Int)
theorem rNs_mem {n:Nat} {u:Nat}:(u:Int) ∈ rNs n ↔ u < n:=by
 unfold rNs
 rw [List.mem_map]
 constructor
 ·rintro ⟨a,ha,e⟩
  have:=List.mem_range.1 ha
  omega
 ·intro h
  exact ⟨u,List.mem_range.2 h,rfl⟩
theorem rNs_len (n:Nat):(rNs n).length=n:=by simp [rNs]
theorem rNs_succ (n:Nat):rNs (n + 1)=rNs n ++ [(n:Int)]:=by simp [rNs,List.range_succ]
theorem rNs_idx {n u:Nat} (h:u < n):(rNs n).idxOf (u:Int)=u:=by
 have h1:(u:Int) ∈ rNs n:=rNs_mem.2 h
 have h2:=List.idxOf_lt_length_of_mem h1
 have h3:(rNs n)[(rNs n).idxOf (u:Int)]=(u:Int):=List.getElem_idxOf h2
 have h4:(rNs n)[(rNs n).idxOf (u:Int)]=(((rNs n).idxOf (u:Int):Nat):Int):=by
  generalize (rNs n).idxOf (u:Int)=j at h2
  simp [rNs]
 omega
theorem rg_fix {k m:Nat}:∀ {n:Nat} {l:List Int},l ∈ rg k m n→n ≤ k→∃ N,n ≤ N∧N ≤ k∧fns (rNs n) l=rNs N∧∀ a,a ∈ l→∃ u:Nat,u < N∧a=(u:Int):=by
 induction m with
 | zero=>
  intro n l hl hn
  rw [List.mem_singleton.1 hl]
  exact ⟨n,Nat.le_refl _,hn,rfl,fun a ha=>absurd ha List.not_mem_nil⟩
 | succ m ih=>
  intro n l hl hn
  simp only [rg] at hl
  obtain ⟨v,hv,h4⟩:=List.mem_flatMap.1 hl
  obtain ⟨r,hr,rfl⟩:=List.mem_map.1 h4
  have hv2:=List.mem_range.1 hv
  obtain ⟨N,h1,h2,h3,h5⟩:=ih hr (by omega)
  refine ⟨N,by omega,h2,?_,fun a ha=>?_⟩
  ·rw [← h3]
   show fns (fnl (rNs n) (v:Int)) r=_
   by_cases e:v < n
   ·rw [show fnl (rNs n) (v:Int)=rNs n from if_pos (rNs_mem.2 e),show max n (v + 1)=n by omega]
   ·rw [show fnl (rNs n) (v:Int)=rNs n ++ [(v:Int)] from if_neg fun h=>e (rNs_mem.1 h),show max n (v + 1)=n + 1 by omega,rNs_succ,show v=n by omega]
  ·rcases List.mem_cons.1 ha with h6 | h6
   ·exact ⟨v,by omega,h6⟩
   ·exact h5 a h6
theorem rg_numd {k m:Nat} (hk:k ≤ 400) (hm:m ≤ 400) {l:List Int} (hl:l ∈ rg k m 0):∃ N,N ≤ k∧F_raddleref02_Numbered l=some (l,(N:Int)):=by
 obtain ⟨N,_,h2,h3,h5⟩:=rg_fix hl (Nat.zero_le _)
 have h0:rNs 0=[]:=rfl
 rw [h0] at h3
 refine ⟨N,h2,?_⟩
 rw [numd_eq l (by rw [(rg_mem hl).1]; exact hm),h3,rNs_len]
 congr 2
 have:l.map (fun a=>(((rNs N).idxOf a:Nat):Int))=l.map id:=List.map_congr_left fun a ha=>by
  obtain ⟨u,hu,rfl⟩:=h5 a ha
  rw [rNs_idx hu]
  rfl
 rw [this,List.map_id]
theorem groups_loop {g:api_Grid} {w h:Nat} (G:Gr g w h) {p:List Int} (hp:p.length=w) (r:api_Grid × Int × Int) (hr:r.1=gm (outc g w p) w h):whileO (raddlelaw17_ReduceGroups_l3 g p r) 0=some (.inr ()):=by
 have w1:=G.w1
 have h1:=G.h1
 have Q:Gr r.1 w h:=by rw [hr]; exact gm_gr _ G.w0 G.w1 G.h0 G.h1
 have L1:∀ x j,x < w→j < w→whileO (raddlelaw17_ReduceGroups_l1 p (x:Int) (j:Int) g r) 0=some (.inr ()):=by
  intro x j hx hj
  have ix:p[x]'(by omega)=sl p x:=getD_of (by omega) 0
  have ij:p[j]'(by omega)=sl p j:=getD_of (by omega) 0
  by_cases c:sl p x=sl p j
  ·refine loop_seq (fun y=>(y:Int)) h (fun y hy=>?_) ?_
   ·unfold raddlelaw17_ReduceGroups_l1
    have e:cell r.1 w x y=cell r.1 w j y:=by
     rw [hr,gm_cell _ hx hy,gm_cell _ hj hy]
     unfold outc
     rw [c]
    rw [G.hh]
    simp only [idxO_nat (xs:=p) (k:=x) (by omega),idxO_nat (xs:=p) (k:=j) (by omega),Option.bind_some,ix,ij,bT c,if_true,dT (show (y:Int) < (h:Int) by omega),rat_eq Q hx hy,rat_eq Q hj hy,e,bne_self_eq_false,Bool.false_eq_true,if_false,w64_succ (show y < 9223372036854775807 by omega)]
   ·unfold raddlelaw17_ReduceGroups_l1
    rw [G.hh]
    simp only [idxO_nat (xs:=p) (k:=x) (by omega),idxO_nat (xs:=p) (k:=j) (by omega),Option.bind_some,ix,ij,bT c,if_true,dF (show ¬ (h:Int) < (h:Int) by omega),Bool.false_eq_true,if_false]
  ·refine whileO_done ?_
   unfold raddlelaw17_ReduceGroups_l1
   simp only [idxO_nat (xs:=p) (k:=x) (by omega),idxO_nat (xs:=p) (k:=j) (by omega),Option.bind_some,ix,ij,bF c,Bool.false_eq_true,if_false]
 have L2:∀ x,x < w→whileO (raddlelaw17_ReduceGroups_l2 (x:Int) p g r) 0=some (.inr ()):=by
  intro x hx
  refine loop_seq (fun j=>(j:Int)) x (fun j hj=>?_) ?_
  ·unfold raddlelaw17_ReduceGroups_l2
   simp only [dT (show (j:Int) < (x:Int) by omega),if_true,L1 x j hx (by omega),Option.bind_some,w64_succ (show j < 9223372036854775807 by omega)]
  ·unfold raddlelaw17_ReduceGroups_l2
   simp only [dF (show ¬ (x:Int) < (x:Int) by omega),Bool.false_eq_true,if_false]
 refine loop_seq (fun x=>(x:Int)) w (fun x hx=>?_) ?_
 ·unfold raddlelaw17_ReduceGroups_l3
  rw [G.hw]
  simp only [dT (show (x:Int) < (w:Int) by omega),if_true,L2 x hx,Option.bind_some,w64_succ (show x < 9223372036854775807 by omega)]
 ·unfold raddlelaw17_ReduceGroups_l3
  rw [G.hw]
  simp only [dF (show ¬ (w:Int) < (w:Int) by omega),Bool.false_eq_true,if_false]
theorem lerr_of {l:List Int} (hl:l.length ≤ 400) (hb:∀ y,y ∈ l→0 ≤ y∧y < 400):lerr l=0:=by
 unfold lerr
 rw [if_neg (by omega),if_pos (List.all_eq_true.2 fun y hy=>decide_eq_true (hb y hy))]
theorem law_ReduceGroups (g:api_Grid) (p:List Int) (k:Int) (wg:wf_api_Grid g) (wp:Wl (InK .i64) p) (wk:InK .i64 k):F_raddlelaw17_ReduceGroups g p k=some true:=by
 unfold F_raddlelaw17_ReduceGroups
 simp only [alive17,Option.bind_some]
 rcases fit_cases g with h | ⟨h,w,ht,G,hw,hh⟩
 ·simp [h]
 simp only [h,Option.bind_some,Bool.not_true,Bool.false_eq_true,if_false]
 by_cases c1:(p.length:Int)=g.W
 case neg=>simp [nT c1]
 have hpl:p.length=w:=by have:=G.hw; omega
 by_cases c2:lerr p=0
 case neg=>simp [nF c1,rcheck2_eq,c2]
 by_cases k1:k < 1
 ·simp [nF c1,rcheck2_eq,c2,k1]
 by_cases k2:40 < k
 ·simp [nF c1,rcheck2_eq,c2,k1,k2]
 simp only [nF c1,rcheck2_eq,c2,nF (show (0:Int)=0 from rfl),dF k1,dF k2,Bool.false_eq_true,if_false,Option.bind_some]
 obtain ⟨n,rfl⟩:∃ n:Nat,k=(n:Int):=⟨k.toNat,by omega⟩
 have hpb:=(lerr_zero c2).2
 obtain ⟨l,hl,hb,hmin⟩:=bst_min (g:=g) (w:=w) (h:=ht) (k:=n) (by omega) G.w0
 have h4:=rg_400 (by omega) hl
 have hB:=(best_eq G (by omega) (k:=n) (by omega) (by omega)).1
 rw [hb] at hB
 have hC:F_reduce_Change g p=some (gm (outc g w p) w ht,((cost g w ht p:Nat):Int),0):=by
  rw [chg_plain,chg_eq G p hpl hpb]
  rfl
 have Gc:Gr (gm (outc g w p) w ht) w ht:=gm_gr _ G.w0 G.w1 G.h0 G.h1
 have hA:=apart_eq Gc G
 rw [cost_apd G] at hA
 have hlen:(l.length:Int)=g.W:=by rw [h4.1,G.hw]
 have hW:(gm (outc g w p) w ht).W=g.W:=by rw [G.hw]; rfl
 have hH:(gm (outc g w p) w ht).H=g.H:=by rw [G.hh]; rfl
 obtain ⟨N,hN,hnum⟩:=rg_numd (k:=n) (m:=w) (by omega) (by omega) hl
 have hren:F_raddleref02_Renumber l=some (l,0):=by
  unfold F_raddleref02_Renumber
  simp only [rcheck2_eq,lerr_of (by omega) h4.2,Option.bind_some,nF (show (0:Int)=0 from rfl),Bool.false_eq_true,if_false,hnum]
 have hul:F_raddleref02_Used l=some ((N:Int),0):=by
  unfold F_raddleref02_Used
  simp only [rcheck2_eq,lerr_of (by omega) h4.2,Option.bind_some,nF (show (0:Int)=0 from rfl),Bool.false_eq_true,if_false,hnum]
 have hup:F_raddleref02_Used p=some ((((fns [] p).length:Nat):Int),0):=by
  unfold F_raddleref02_Used
  simp only [rcheck2_eq,c2,Option.bind_some,nF (show (0:Int)=0 from rfl),Bool.false_eq_true,if_false,numd_eq p (by omega)]
 have hs:F_raddleref02_Same l l=some true:=by
  rw [rsame_il _ _ (by omega)]
  simp
 simp only [hB,hC,Option.bind_some,nF (show (0:Int)=0 from rfl),Bool.false_eq_true,if_false,fit_of Gc hw hh,Bool.not_true,nF hW,nF hH,nF hlen,groups_loop G hpl (gm (outc g w p) w ht,((cost g w ht p:Nat):Int),0) rfl,hren,hup,hul,hs,dF (show ¬ (n:Int) < (N:Int) by omega),if_true,hA,bT (show ((cost g w ht p:Nat):Int)=((cost g w ht p:Nat):Int) from rfl)]
 by_cases c3:(n:Int) < (((fns [] p).length:Nat):Int)
 ·simp only [dT c3,if_true,Option.bind_some]
 have hle:cost g w ht l ≤ cost g w ht p:=by
  have hps:(List.range w).map (sl p)=p:=(list_sl hpl).symm
  obtain ⟨l',hl',h5⟩:=bst_le_apd (g:=g) (p:=gm (outc g w p) w ht) (h:=ht) (k:=n) (by omega) (sl p) (by rw [hps]; omega) fun x x' y hx hx' hy e=>by
   rw [gm_cell _ hx hy,gm_cell _ hx' hy]
   unfold outc
   rw [e]
  rw [cost_apd G] at h5
  exact Nat.le_trans (hmin l' hl') h5
 simp only [dF c3,Bool.false_eq_true,if_false,dT (show ((cost g w ht l:Nat):Int) ≤ ((cost g w ht p:Nat):Int) by omega),if_true,Option.bind_some]
namespace frameReduceGroups
open Go.ChangeShapes Go.WideShapes Go.ChangeAt Go.Joins
theorem own:ownKnob Try.prog.godebug=none:=by kernel_rfl
theorem laidOut:laidOutB Try.prog=true:=by kernel_rfl
theorem lifted (os:Os) (started:os.Started) (H:Type) (enc:TypeId × Value→H) :
 ReturnsInHanded {} Try.checked os 4 .any (Rows.reduceGroupsSpec.pre6 enc Try.prog Try.f4 Rows.reduceGroupsRow.domain false) (Rows.reduceGroupsSpec.post enc Try.prog Try.f4 false true false false):=by
 refine returnsInHanded_of_change (C:=Try.checked) own started (by kernel_rfl) Try.func4
  (ChangeSpec.witness6 (enc:=enc) (C:=Try.checked) false ⟨#[],#[.agg #[iv 0,iv 0,.slice none 0 0],.slice none 0 0,.int .i64 0],[]⟩ 8 (by kernel_rfl) (by kernel_rfl) (by kernel_rfl) (by kernel_rfl)) ?_
 intro W base args ds gs before hval0 hW hcnd _
 have hval:∀ (j:Nat) t v,Try.f4.params[j]?=some t→args[j]?=some v→Value.okWide Try.prog W .any base t v:=hval0
 have hW':=hW
 obtain ⟨p,q,hA0,hV,rfl,hfz,hnd⟩:=hW
 have hA:DataW.TrodAll enc Try.prog W 0 (fun _=>true) true Try.f4.params.toList args.toList ds p:=hA0
 rw [Try.params4] at hA hval
 obtain ⟨v0,vs0,d0,ds0,p0,q0,hargs,rfl,rfl,h0,r0⟩:=trodAll_cons hA
 obtain ⟨v1,vs1,d1,ds1,p1,q1,rfl,rfl,rfl,h1,r1⟩:=trodAll_cons r0
 obtain ⟨v2,vs2,d2,ds2,p2,q2,rfl,rfl,rfl,h2,r2⟩:=trodAll_cons r1
 obtain ⟨rfl,rfl,rfl⟩:=trodAll_nil r2
 obtain rfl:args=#[v0,v1,v2]:=by cases args; simp_all
 obtain ⟨rfl,rfl⟩:=trodVars_none hV
 have k0:=h0
 have lt0:∀ x ∈ p0,x.block < W.heap.size:=by obtain ⟨m,hm⟩:=k0; exact DataW.trod_lt m _ _ _ hm
 have k1:=h1
 have lt1:∀ x ∈ p1,x.block < W.heap.size:=by obtain ⟨m,hm⟩:=k1; exact DataW.trod_lt m _ _ _ hm
 have k2:=h2
 have lt2:∀ x ∈ p2,x.block < W.heap.size:=by obtain ⟨m,hm⟩:=k2; exact DataW.trod_lt m _ _ _ hm
 obtain ⟨x0,rep0,wf0⟩:=top_agg Try.underlying24 aggr_api_Grid op_api_Grid (hval 0 _ v0 rfl rfl) h0
 obtain ⟨x1,rep1,wf1⟩:=top_slice Try.underlying25 (op_slice (r:=(rI .i64)) Try.underlying25 (by kernel_rfl) (op_int .i64 Try.underlying3)) (hval 1 _ v1 rfl rfl) h1
 obtain ⟨x2,rfl,rfl,rfl,wf2⟩:=open_int Try.underlying3 (hval 2 _ v2 rfl rfl) h2
 clear hA0 hval0
 refine (c_raddlelaw17_ReduceGroups (fun _=>False) W x0 v0 x1 v1 x2 true (law_ReduceGroups x0 x1 x2 wf0 wf1 wf2) (St0.start (by intro d hd; simp only [List.mem_cons,List.not_mem_nil,or_false] at hd; rcases hd with rfl | rfl; exact rep0; exact rep1))).mono fun e W' hr=>?_
 obtain ⟨_,he,hS⟩:=hr
 have bel:=hS.chg.below
 subst he
 exact ⟨_,rfl,_,_,_,[],_,[],hW',trodAll_mk1 (shut_bool Try.underlying4 _),(trodAll_cons_mk (Below.trod laidOut (by kernel_rfl) (of_decide_eq_true (by kernel_rfl)) k0 bel lt0) (trodAll_cons_mk (Below.trod laidOut (by kernel_rfl) (of_decide_eq_true (by kernel_rfl)) k1 bel lt1) (trodAll_cons_mk (Below.trod laidOut (by kernel_rfl) (of_decide_eq_true (by kernel_rfl)) k2 bel lt2) trodAll_mk0))),rfl,bel.frame _,fun h=>by cases h⟩
theorem over:Rows.reduceGroupsRow.holds Try.pinned (OpenSpec.ofChange Rows.reduceGroupsSpec):=
 OpenClaim.holds_of_wide 4 Try.f4 rfl rfl rfl rfl rfl rfl rfl ⟨rfl,rfl,rfl,rfl,rfl⟩ rfl rfl rfl rfl rfl (by kernel_rfl) Try.func4 (by kernel_rfl)
  (of_decide_eq_true (by kernel_rfl)) (by unfold Func.isWrapper; first | (rw [if_pos (by decide +kernel)]; kernel_rfl) | (rw [if_neg (by decide +kernel)]; exact ⟨rfl,rfl⟩))
  (fun os started H enc _=>lifted os started H enc)
end frameReduceGroups
theorem reduceGroups_holds:Rows.ReduceGroupsSaid:=frameReduceGroups.over
end Go.Proofs.Ytapohhkdpkapoaa
