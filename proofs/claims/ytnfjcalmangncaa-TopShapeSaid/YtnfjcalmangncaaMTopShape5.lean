/- TopShape: walks, tables, laws. -/
import Derived.Test.YtnfjcalmangncaaProg
import Derived.Test.YtnfjcalmangncaaRows
import Derived.Test.YtnfjcalmangncaaMTopShape4
set_option linter.unusedVariables false
set_option linter.unusedSimpArgs false
set_option maxHeartbeats 4000000
set_option maxRecDepth 100000
namespace Go.Proofs.Ytnfjcalmangncaa
open Go.RowKit
def ceq (v:Int):List Int→Nat
 | []=>0
 | p :: l=>if p=v then ceq v l + 1 else ceq v l
def cgt (v:Int):List Int→Nat
 | []=>0
 | p :: l=>if v < p then cgt v l + 1 else cgt v l
theorem ceq_app (v:Int) (a b:List Int):ceq v (a ++ b)=ceq v a + ceq v b:=by
 induction a with
 | nil=>simp [ceq]
 | cons p a ih=>simp only [List.cons_append,ceq,ih]; split <;> omega
theorem ceq_le (v:Int) (l:List Int):ceq v l ≤ l.length:=by
 induction l with
 | nil=>simp [ceq]
 | cons p l ih=>simp only [ceq,List.length_cons]; split <;> omega
theorem cgt_le (v:Int) (l:List Int):cgt v l ≤ l.length:=by
 induction l with
 | nil=>simp [cgt]
 | cons p l ih=>simp only [cgt,List.length_cons]; split <;> omega
theorem cgt_step (v:Int) (l:List Int):cgt v l=ceq (v + 1) l + cgt (v + 1) l:=by
 induction l with
 | nil=>rfl
 | cons p l ih=>
  simp only [cgt,ceq,ih]
  by_cases h1:v < p
  ·by_cases h2:p=v + 1
   ·rw [if_pos h1,if_pos h2,if_neg (by omega)]; omega
   ·rw [if_pos h1,if_neg h2,if_pos (by omega)]; omega
  ·rw [if_neg h1,if_neg (by omega),if_neg (by omega)]
theorem cgt_top {v:Int} {l:List Int} (h:∀ p,p ∈ l→p ≤ v):cgt v l=0:=by
 induction l with
 | nil=>rfl
 | cons p l ih=>
  simp only [cgt]
  rw [if_neg (by have:=h p (by simp); omega)]
  exact ih fun q hq=>h q (by simp [hq])
def hts (n:Int) (l:List Int):List Int:=(List.range n.toNat).map fun k:Nat=>(cgt (k:Int) l:Int)
theorem hts_len (n:Int) (l:List Int):(hts n l).length=n.toNat:=by simp [hts]
theorem map_set {α:Type} (n:Nat) (f g:Nat→α) (k:Nat) (v:α) (h:∀ j,j < n→g j=if j=k then v else f j):((List.range n).map f).set k v=(List.range n).map g:=by
 apply List.ext_getElem?
 intro j
 rw [List.getElem?_set]
 simp only [List.length_map,List.length_range,List.getElem?_map]
 by_cases hj:j < n
 ·rw [List.getElem?_range hj]
  simp only [Option.map_some]
  rw [h j hj]
  by_cases e:j=k
  ·subst e; simp [hj]
  ·rw [if_neg (fun x=>e x.symm),if_neg e]
 ·have e1:(List.range n)[j]?=none:=List.getElem?_eq_none (by simp; omega)
  rw [e1]
  by_cases e:k=j
  ·subst e; simp [hj]
  ·simp [e]
theorem heights_eq (n:Int) (l:List Int):F_short_Heights n l=some (if tchk n l=0 then (hts n l,0) else ([],tchk n l)):=by
 unfold F_short_Heights
 rw [tcheck_eq]
 by_cases h:tchk n l=0
 case neg=>simp only [Option.bind_some,nT h,if_true,if_neg h]
 obtain ⟨n0,n1,hl,hp⟩:=tchk_ok h
 obtain ⟨m,rfl⟩:∃ m:Nat,n=m:=⟨n.toNat,by omega⟩
 have l1:whileO (short_Heights_l1 l) (List.replicate m 0,0)=some ((List.range m).map fun j:Nat=>(ceq ((j:Int) + 1) l:Int)):=by
  have key:∃ t,whileO (short_Heights_l1 l) (List.replicate m 0,0)=some t∧t=(List.range m).map fun j:Nat=>(ceq ((j:Int) + 1) l:Int):=by
   refine loop_st l.length (fun k s=>s=(List.range m).map fun j:Nat=>(ceq ((j:Int) + 1) (l.take k):Int)) _ (by rw [← map_const]; simp [ceq]) ?_ ?_
   ·rintro k s hk rfl
    refine .inl ⟨_,?_,rfl⟩
    have hq:=hp _ (List.getElem_mem hk)
    obtain ⟨q,hq2⟩:∃ q:Nat,l[k]=(q:Int) + 1:=⟨(l[k] - 1).toNat,by omega⟩
    have e1:w64 (l[k] - 1)=(q:Int):=by rw [hq2,w64_of (by omega) (by omega)]; omega
    have hqm:q < ((List.range m).map fun j:Nat=>(ceq ((j:Int) + 1) (l.take k):Int)).length:=by simp; omega
    have hc:=ceq_le ((q:Int) + 1) (l.take k)
    rw [List.length_take] at hc
    have e2:((List.range m).map fun j:Nat=>(ceq ((j:Int) + 1) (l.take k):Int))[q]=(ceq ((q:Int) + 1) (l.take k):Int):=by simp
    unfold short_Heights_l1
    simp only [dT (show (k:Int) < (l.length:Int) by omega),if_true,idxO_nat hk,Option.bind_some,e1,idxO_nat hqm,e2,w64_succ (show ceq ((q:Int) + 1) (l.take k) < 9223372036854775807 by omega),setO_nat hqm,w64_succ (show k < 9223372036854775807 by omega)]
    congr 3
    refine map_set m _ _ q _ fun j hj=>?_
    rw [take_one l hk,ceq_app]
    simp only [ceq,hq2]
    by_cases e:j=q
    ·subst e; rw [if_pos rfl,if_pos rfl]
    ·rw [if_neg e,if_neg (by omega)]; simp
   ·rintro s rfl
    refine ⟨_,?_,rfl⟩
    unfold short_Heights_l1
    simp only [dF (show ¬ (l.length:Int) < (l.length:Int) by omega),Bool.false_eq_true,if_false,List.take_length]
  obtain ⟨t,h1,rfl⟩:=key
  exact h1
 have mid:∀ i:Nat,i + 1 ≤ m→whileO short_Heights_l2 ((List.range m).map (fun j:Nat=>if j < i then (ceq ((j:Int) + 1) l:Int) else (cgt (j:Int) l:Int)),(i:Int) - 1)=some (hts (m:Int) l):=by
  intro i
  induction i with
  | zero=>
   intro _
   have e:short_Heights_l2 ((List.range m).map (fun j:Nat=>if j < 0 then (ceq ((j:Int) + 1) l:Int) else (cgt (j:Int) l:Int)),((0:Nat):Int) - 1)=some (.inr (hts (m:Int) l)):=by
    unfold short_Heights_l2 hts
    simp only [dF (show ¬ (0:Int) ≤ ((0:Nat):Int) - 1 by omega),Bool.false_eq_true,if_false,Nat.not_lt_zero,Int.toNat_natCast]
   rw [whileO_done e]
  | succ i ih=>
   intro hi
   have e0:((i + 1:Nat):Int) - 1=(i:Int):=by omega
   have hlen:i < ((List.range m).map (fun j:Nat=>if j < i + 1 then (ceq ((j:Int) + 1) l:Int) else (cgt (j:Int) l:Int))).length:=by simp; omega
   have hlen2:i + 1 < ((List.range m).map (fun j:Nat=>if j < i + 1 then (ceq ((j:Int) + 1) l:Int) else (cgt (j:Int) l:Int))).length:=by simp; omega
   have v1:((List.range m).map (fun j:Nat=>if j < i + 1 then (ceq ((j:Int) + 1) l:Int) else (cgt (j:Int) l:Int)))[i]=(ceq ((i:Int) + 1) l:Int):=by simp
   have v2:((List.range m).map (fun j:Nat=>if j < i + 1 then (ceq ((j:Int) + 1) l:Int) else (cgt (j:Int) l:Int)))[i + 1]=(cgt ((i:Int) + 1) l:Int):=by simp
   have b1:=ceq_le ((i:Int) + 1) l
   have b2:=cgt_le ((i:Int) + 1) l
   have b3:=cgt_step (i:Int) l
   have ew:w64 ((ceq ((i:Int) + 1) l:Int) + (cgt ((i:Int) + 1) l:Int))=(cgt (i:Int) l:Int):=by rw [w64_of (by omega) (by omega)]; omega
   have es:=map_set m (fun j:Nat=>if j < i + 1 then (ceq ((j:Int) + 1) l:Int) else (cgt (j:Int) l:Int)) (fun j:Nat=>if j < i then (ceq ((j:Int) + 1) l:Int) else (cgt (j:Int) l:Int)) i (cgt (i:Int) l:Int) (fun j hj=>by
    by_cases e:j=i
    ·subst e; rw [if_neg (by omega),if_pos rfl]
    ·rw [if_neg e]
     by_cases h2:j < i
     ·rw [if_pos h2,if_pos (by omega)]
     ·rw [if_neg h2,if_neg (by omega)])
   have e:short_Heights_l2 ((List.range m).map (fun j:Nat=>if j < i + 1 then (ceq ((j:Int) + 1) l:Int) else (cgt (j:Int) l:Int)),(i:Int))=some (.inl ((List.range m).map (fun j:Nat=>if j < i then (ceq ((j:Int) + 1) l:Int) else (cgt (j:Int) l:Int)),(i:Int) - 1)):=by
    unfold short_Heights_l2
    simp only [dT (show (0:Int) ≤ (i:Int) by omega),if_true,idxO_nat hlen,v1,Option.bind_some,w64_succ (show i < 9223372036854775807 by omega),idxO_nat hlen2,v2,ew,setO_nat hlen,es,w64_of (show (-9223372036854775808:Int) ≤ (i:Int) - 1 by omega) (by omega)]
   rw [e0,whileO_step e]
   exact ih (by omega)
 have e2:w64 ((m:Int) - 2)=((m - 1:Nat):Int) - 1:=by rw [w64_of (by omega) (by omega)]; omega
 have top:=cgt_top (v:=(m:Int)) (l:=l) fun p hq=>(hp p hq).2
 have est:((List.range m).map fun j:Nat=>(ceq ((j:Int) + 1) l:Int))=(List.range m).map (fun j:Nat=>if j < m - 1 then (ceq ((j:Int) + 1) l:Int) else (cgt (j:Int) l:Int)):=by
  refine map_cong fun j hj=>?_
  by_cases h2:j < m - 1
  ·rw [if_pos h2]
  ·rw [if_neg h2]
   have:=cgt_step (j:Int) l
   rw [show (j:Int) + 1=(m:Int) by omega] at this ⊢
   omega
 simp only [Option.bind_some,nF h,Bool.false_eq_true,if_false,makeO_of (n:=(m:Int)) (z:=(0:Int)) (k:=m) rfl (by omega),l1,e2,est,mid (m - 1) (by omega),if_pos h]
def trn (n r:Nat) (i:Nat):Nat:=(n * (2 * (r - i) - 1) + r) / (2 * r)
theorem trn_ge {n r i k:Nat} (hr:0 < r):k ≤ trn n r i ↔ k * (2 * r) ≤ n * (2 * (r - i) - 1) + r:=by
 unfold trn
 exact Nat.le_div_iff_mul_le (by omega)
theorem trn_bd {n r i:Nat} (hr:i < r) (hn:r ≤ n):1 ≤ trn n r i∧trn n r i ≤ n:=by
 constructor
 ·rw [trn_ge (by omega)]
  have:n * 1 ≤ n * (2 * (r - i) - 1):=Nat.mul_le_mul_left n (by omega)
  omega
 ·refine Nat.le_of_not_lt fun h=>?_
  have h1:=(trn_ge (by omega)).1 (show n + 1 ≤ trn n r i from h)
  have h2:n * (2 * (r - i) - 1) ≤ n * (2 * r - 1):=Nat.mul_le_mul_left n (by omega)
  have h3:n * (2 * r)=n * (2 * r - 1) + n:=by
   rw [show 2 * r=(2 * r - 1) + 1 by omega,Nat.mul_add,Nat.mul_one]; simp
  rw [Nat.add_mul] at h1
  omega
def trns (n r:Nat):List Int:=(List.range r).map fun i=>(trn n r i:Int)
theorem turns_eq (n r:Int):F_short_Turns n r=some (if (1 ≤ n∧n ≤ 200)∧0 ≤ r∧r ≤ n∧r ≤ 50 then (trns n.toNat r.toNat,0) else ([],2)):=by
 unfold F_short_Turns
 simp only [within_eq,Option.bind_some]
 by_cases h1:1 ≤ n∧n ≤ 200
 case neg=>simp only [dF h1,Bool.not_false,if_true,Option.bind_some,if_neg (show ¬ ((1 ≤ n∧n ≤ 200)∧0 ≤ r∧r ≤ n∧r ≤ 50) from fun h=>h1 h.1)]
 have em:(0 ≤ r∧r ≤ (if (50:Int) < n then 50 else n)) ↔ (0 ≤ r∧r ≤ n∧r ≤ 50):=by split <;> omega
 simp only [dT h1,Bool.not_true,Bool.false_eq_true,if_false]
 by_cases h2:0 ≤ r∧r ≤ n∧r ≤ 50
 case neg=>simp only [dF (fun h=>h2 (em.1 h)),Bool.not_false,if_true,Option.bind_some,if_neg (show ¬ ((1 ≤ n∧n ≤ 200)∧0 ≤ r∧r ≤ n∧r ≤ 50) from fun h=>h2 h.2)]
 obtain ⟨N,rfl⟩:∃ N:Nat,n=N:=⟨n.toNat,by omega⟩
 obtain ⟨R,rfl⟩:∃ R:Nat,r=R:=⟨r.toNat,by omega⟩
 have lp:whileO (short_Turns_l1 (R:Int) (N:Int)) (List.replicate R 0,0)=some (trns N R):=by
  refine loop_set R (fun i=>(trn N R i:Int)) 0 ?_ ?_
  ·intro k s hk hs
   have hm:N * (2 * (R - k) - 1) ≤ 200 * 100:=Nat.mul_le_mul (by omega) (by omega)
   have e1:w64 ((R:Int) - (k:Int))=((R - k:Nat):Int):=by rw [w64_of (by omega) (by omega)]; omega
   have e2:w64 (2 * ((R - k:Nat):Int))=((2 * (R - k):Nat):Int):=by rw [w64_of (by omega) (by omega)]; omega
   have e3:w64 (((2 * (R - k):Nat):Int) - 1)=((2 * (R - k) - 1:Nat):Int):=by rw [w64_of (by omega) (by omega)]; omega
   have e4:w64 ((N:Int) * ((2 * (R - k) - 1:Nat):Int))=((N * (2 * (R - k) - 1):Nat):Int):=by rw [← Int.natCast_mul,w64_of (by omega) (by omega)]
   have e5:w64 (((N * (2 * (R - k) - 1):Nat):Int) + (R:Int))=((N * (2 * (R - k) - 1) + R:Nat):Int):=by rw [w64_of (by omega) (by omega)]; omega
   have e6:w64 (2 * (R:Int))=((2 * R:Nat):Int):=by rw [w64_of (by omega) (by omega)]; omega
   have hb:=trn_bd (n:=N) (r:=R) (i:=k) hk (by omega)
   have e7:quoI ((N * (2 * (R - k) - 1) + R:Nat):Int) ((2 * R:Nat):Int)=some (trn N R k:Int):=by
    unfold quoI
    rw [if_neg (by omega)]
    have:(((N * (2 * (R - k) - 1) + R:Nat):Int)).tdiv ((2 * R:Nat):Int)=(trn N R k:Int):=rfl
    rw [this,w64_of (by omega) (by omega)]
   unfold short_Turns_l1
   simp only [dT (show (k:Int) < (R:Int) by omega),if_true,e1,e2,e3,e4,e5,e6,e7,Option.bind_some,idxO_nat (show k < s.length by omega),setO_nat (show k < s.length by omega),w64_succ (show k < 9223372036854775807 by omega)]
  ·unfold short_Turns_l1 trns
   simp only [dF (show ¬ (R:Int) < (R:Int) by omega),Bool.false_eq_true,if_false]
 simp only [dT (em.2 h2),Bool.not_true,Bool.false_eq_true,if_false,Option.bind_some,makeO_of (n:=(R:Int)) (z:=(0:Int)) (k:=R) rfl (by omega),lp,if_pos (And.intro h1 h2),Int.toNat_natCast]
def anc_raddleref26_Same_0:List (List Nat):=[[],[0],[],[0,1,2],[0,1,2,3],[0,1,2,3,4],[],[6],[],[6,7,8],[6,7,8,9],[6,7,8,9,10],[0,1,2,3,4,5,6,7,8,9,10,11],[0,1,2,3,4,5,6,7,8,9,10,11,12],[0,1,2,3,4,5,6,7,8,9,10,11,12,13],[0,1,2,3,4,5,6,7,8,9,10,11,12,13,14],[0,1,2,3,4,5,6,7,8,9,10,11,12,13],[0,1,2,3,4,5,6,7,8,9,10,11,12,13,14,15,16],[0,1,2,3,4,5,6,7,8,9,10,11,12,13,14,15,16,17],[0,1,2,3,4,5,6,7,8,9,10,11,12,13,14,15,16,17,18],[0,1,2,3,4,5,6,7,8,9,10,11,12,13],[0,1,2,3,4,5,6,7,8,9,10,11,12,13,20],[0,1,2,3,4,5,6,7,8,9,10,11,12,13],[0,1,2,3,4,5,6,7,8,9,10,11,12,13,20,21,22],[0,1,2,3,4,5,6,7,8,9,10,11,12,13,20,21,22,23],[0,1,2,3,4,5,6,7,8,9,10,11,12,13,20,21,22,23,24],[0,1,2,3,4,5,6,7,8,9,10,11,12,13,14,15,16,17,18,19,20,21,22,23,24,25],[0,1,2,3,4,5,6,7,8,9,10,11,12,13,14,15,16,17,18,19,20,21,22,23,24,25,26],[0,1,2,3,4,5,6,7,8,9,10,11,12,13,14,15,16,17,18,19,20,21,22,23,24,25,26,27]]
noncomputable def raddleref26_Same_l1 (p0:api_Chart) (p1:api_Chart):Int→Option (Int ⊕ (Bool ⊕ Unit)):=fun s0=>match s0 with
 | a9=>
  if decide (a9 < (p0.Rows.length:Int)) then
   Option.bind (α:=Bool) (
    (idxO p0.Rows a9).bind fun aa=>
    (idxO p1.Rows a9).bind fun ab=>
    if aa.Back != ab.Back then
     some true
    else
     (F_raddleref25_Same aa.Cells ab.Cells).bind fun ac=>
     some (!ac)) fun ae=>
   if ae then
    some (.inr (.inl false))
   else
    some (.inl (w64 (a9 + 1)))
  else
   some (.inr (.inr ()))
noncomputable def F_raddleref26_Same (p0:api_Chart) (p1:api_Chart):Option Bool:=
 Option.bind (α:=Bool) (
  if p0.Start != p1.Start then
   some true
  else
   some ((p0.Rows.length:Int) != (p1.Rows.length:Int))) fun a9=>
 if a9 then
  some false
 else
  Option.bind (α:=Unit ⊕ Bool) (
   (whileO (raddleref26_Same_l1 p0 p1) 0).bind fun z0=>match z0 with
    | .inl z=>
     some (.inr z)
    | .inr _=>
     some (.inl ())) fun z0=>match z0 with
   | .inl _=>
    some true
   | .inr z=>
    some z
theorem c_raddleref26_Same (E:Nat→Prop) (w0:World) (p0:api_Chart) (v0:Value) (p1:api_Chart) (v1:Value) (r:Bool) (h:F_raddleref26_Same p0 p1=some r) (S:St0 E [] w0 w0 [] [fRep r_api_Chart (v0) p0,fRep r_api_Chart (v1) p1]) :
 Calls Try.prog 35 #[v0,v1] w0 (Ret (X:=Unit) E [] w0 (fun _=>.bool r) (fun _=>[]) (fun _=>[])):=by
 unfold F_raddleref26_Same at h
 obtain ⟨u1,rfl,bq⟩:=S.know (i:=0) (e:=fRep r_api_Chart (v0) p0) d
 have S:=S.learn (fRep (rL r_api_Row) u1 p0.Rows) bq
 obtain ⟨af,ag,_,rfl,_⟩:=bq
 obtain ⟨u5,rfl,br⟩:=S.know (i:=2) (e:=fRep r_api_Chart (v1) p1) d
 have S:=S.learn (fRep (rL r_api_Row) u5 p1.Rows) br
 obtain ⟨ah,ai,_,rfl,_⟩:=br
 refine sEnter (args:=[.agg #[iv p0.Start,.slice af p0.Rows.length ag],.agg #[iv p1.Start,.slice ah p1.Rows.length ai]]) 56 Try.func35 d d (by simp) S (fun a S=>?_)
 refine sSeq (fun K9 bA=>sRegion (sBox (v:=.agg #[iv p0.Start,.slice af p0.Rows.length ag]) S (wN d) d d [iv p0.Start,.slice af p0.Rows.length ag] d d (lb d) fun a aj w S=>sBox (v:=.agg #[iv p1.Start,.slice ah p1.Rows.length ai]) S (wN d) d d [iv p1.Start,.slice ah p1.Rows.length ai] d d (lb d) fun a ak w S=>sN S fun a S=>?_))
 refine lT (bA _ _ (sSeq (fun bK aI=>?_)))
 obtain ⟨bB,h,bC⟩:=bS h
 refine sCut (fun a w=>∃ aJ,aJ=bB∧St [] E [] w0 56 a w [(2,.pointer (some ⟨aj,0,none⟩)),(3,.pointer (some ⟨ak,0,none⟩)),(19,.bool aJ)] [eBox aj 49 [iv p0.Start,.slice af p0.Rows.length ag],eBox ak 49 [iv p1.Start,.slice ah p1.Rows.length ai]] [fRep (rL r_api_Row) (.slice af p0.Rows.length ag) p0.Rows,fRep (rL r_api_Row) (.slice ah p1.Rows.length ai) p1.Rows]) ?_ (fun a w hI=>?_)
 ·refine sRegion (sField (b:=aj) (off:=0) 0 0 S (wN d) d d d d d (lb d) fun a S=>sLoad1 1 (iv p0.Start) S (wN d) d d d d d d (lb d) fun a S=>sField (b:=ak) (off:=0) 0 0 S (wN d) d d d d d (lb d) fun a S=>sLoad1 0 (iv p1.Start) S (wN d) d d d d d d (lb d) fun a S=>sBin _ S (wN d) d d d (bNe _ _ _ _ .i64 p0.Start p1.Start) d (lb d) fun a S=>sM S fun a S=>?_)
  rcases iS h with ⟨ae,h⟩ | ⟨ae,h⟩
  ·refine sSkN 7 5 false 11 S d d ae d fun a S=>sPickT (.bool true) S (wN d) d d ae d d (lb d) fun a S=>?_
   exact lT (⟨true,Option.some.inj h,S.fix [1,0] [1,0] (by decide) d d d⟩)
  refine sField (b:=aj) (off:=0) 1 1 S (wG 5 false 11 d d d ae) d d d d d (lb d) fun a S=>sLoad1 1 (.slice af p0.Rows.length ag) S (wG 5 false 11 d d d ae) d d d d d d (lb d) fun a S=>sLen S (wG 5 false 11 d d d ae) d Try.underlying47 d d (lb d) fun a S=>sField (b:=ak) (off:=0) 1 1 S (wG 5 false 11 d d d ae) d d d d d (lb d) fun a S=>sLoad1 0 (.slice ah p1.Rows.length ai) S (wG 5 false 11 d d d ae) d d d d d d (lb d) fun a S=>sLen S (wG 5 false 11 d d d ae) d Try.underlying47 d d (lb d) fun a S=>sBin _ S (wG 5 false 11 d d d ae) d d d (bNe _ _ _ _ .i64 (p0.Rows.length:Int) (p1.Rows.length:Int)) d (lb d) fun a S=>sPickF (.bool ((p0.Rows.length:Int) != (p1.Rows.length:Int))) S (wN d) d d ae d d (lb d) fun a S=>?_
  exact lT (⟨(p0.Rows.length:Int) != (p1.Rows.length:Int),Option.some.inj h,S.fix [1,0] [1,0] (by decide) d d d⟩)
 obtain ⟨aJ,rfl,S⟩:=hI
 have h:=bC
 try dsimp only at h
 rcases iS h with ⟨ar,h⟩ | ⟨ar,h⟩
 ·refine sCondT S d ar (sSeq (fun bL aK=>sRegion (sN S fun a S=>?_)))
  refine lT (aK _ _ ?_)
  obtain rfl:=tS h
  exact wp_ret (rThen (sRet (.bool false) S (rsl1 d (rvT (t:=4) (v:=.bool false) S d)) ⟨(),d,S.mem.sel [] [] (by decide) d d⟩))
 refine sCondF S d ar (wp_skip (leafT (aI _ _ ?_)))
 obtain ⟨bD,h,bt⟩:=bS h
 refine sCut (fun a w=>.inl ()=bD∧St [] E [] w0 56 a w [] [] []) ?_ (fun a w hI=>?_)
 rotate_left
 ·obtain ⟨rfl,S⟩:=hI
  have h:=bt
  try dsimp only at h
  refine sSeq (fun bE ay=>sRegion (sN S fun a S=>?_))
  refine lT (ay _ _ ?_)
  obtain rfl:=tS h
  exact wp_ret (sRet (.bool true) S (rsl1 d (rvT (t:=4) (v:=.bool true) S d)) ⟨(),d,S.mem.sel [] [] (by decide) d d⟩)
 refine sSeq (fun bM aL=>sRegion (sN S fun a S=>?_))
 refine lT (aL _ _ (wp_block ?_))
 obtain ⟨bN,hl,bu⟩:=bS h
 refine sLoop hl (fun s0 a w=>match s0 with | ac=>St [] E [] w0 56 a w [(2,.pointer (some ⟨aj,0,none⟩)),(3,.pointer (some ⟨ak,0,none⟩)),(5,iv ac)] [eBox aj 49 [iv p0.Start,.slice af p0.Rows.length ag],eBox ak 49 [iv p1.Start,.slice ah p1.Rows.length ai]] [fRep (rL r_api_Row) (.slice af p0.Rows.length ag) p0.Rows,fRep (rL r_api_Row) (.slice ah p1.Rows.length ai) p1.Rows]) (S.fix [0,1] [0,1] (by decide) d d d) ?_
 clear hl h
 intro ac a w c0 hI h az
 unfold raddleref26_Same_l1 at h
 dsimp only at h hI
 have S:=hI
 refine sSeq (fun bO aM=>sSeq (fun bP aO=>sRegion (sM S fun a S=>?_)))
 refine sField (b:=aj) (off:=0) 1 1 S (wN d) d d d d d (lb d) fun a S=>sLoad1 0 (.slice af p0.Rows.length ag) S (wN d) d d d d d d (lb d) fun a S=>sLen S (wN d) d Try.underlying47 d d (lb d) fun a S=>sBin _ S (wN d) d d d (bLt _ _ _ _ .i64 ac (p0.Rows.length:Int)) d (lb d) fun a S=>lT (aO _ _ ?_)
 rcases iS h with ⟨au,h⟩ | ⟨au,h⟩
 rotate_left
 ·refine sCondF S d au ?_
  obtain rfl:=tS h
  obtain rfl:=az _ d
  have h:=bu
  try dsimp only at h
  exact wp_exit (xThen (xThen (xHit (leafT (⟨Option.some.inj h,S.fix [] [] (by decide) d d d⟩)))))
 refine sCondT S d au (wp_skip (leafT (aM _ _ ?_)))
 refine sSeq (fun bQ aP=>wp_block ?_)
 obtain ⟨bG,h,bH⟩:=bS h
 refine sCut (fun a w=>∃ aQ,aQ=bG∧St [] E [] w0 56 a w [(2,.pointer (some ⟨aj,0,none⟩)),(3,.pointer (some ⟨ak,0,none⟩)),(5,iv ac),(55,.bool aQ)] [eBox aj 49 [iv p0.Start,.slice af p0.Rows.length ag],eBox ak 49 [iv p1.Start,.slice ah p1.Rows.length ai]] [fRep (rL r_api_Row) (.slice af p0.Rows.length ag) p0.Rows,fRep (rL r_api_Row) (.slice ah p1.Rows.length ai) p1.Rows]) ?_ (fun a w hI=>?_)
 rotate_left
 ·obtain ⟨aQ,rfl,S⟩:=hI
  have h:=bH
  try dsimp only at h
  rcases iS h with ⟨av,h⟩ | ⟨av,h⟩
  rotate_left
  ·refine sCondF S d av (wp_skip (leafB (leafT (aP _ _ ?_))))
   refine sRegion (sM S fun a S=>?_)
   refine sBin _ S (wN d) d d d (bAdd _ _ _ _ ac 1) d (lb d) fun a S=>sN S fun a S=>?_
   exact lT (⟨w64 (ac + 1),(Option.some.inj h).symm,(S.fix [0,1] [0,1] (by decide) d d d)⟩)
  refine sCondT S d av (sSeq (fun bR aR=>sRegion (sN S fun a S=>?_)))
  refine lT (aR _ _ ?_)
  obtain rfl:=tS h
  obtain rfl:=az _ d
  have h:=bu
  try dsimp only at h
  obtain rfl:=tS h
  have h:=bt
  try dsimp only at h
  obtain rfl:=tS h
  exact wp_ret (rBlock (rThen (rThen (rBlock (rThen (sRet (.bool false) S (rsl1 d (rvT (t:=4) (v:=.bool false) S d)) ⟨(),d,S.mem.sel [] [] (by decide) d d⟩))))))
 obtain ⟨aa,aw,h⟩:=bS h
 obtain ⟨ab,ax,h⟩:=bS h
 rcases iS h with ⟨a9,h⟩ | ⟨a9,h⟩
 ·obtain ⟨aS,aT,S⟩:=pIdx (P:=Try.prog) (r:=r_api_Row) (v:=.slice af p0.Rows.length ag) (xs:=p0.Rows) (j:=ac) 47 90 0 S Try.underlying47 d d aw
  obtain ⟨aU,aV,S⟩:=pFld (P:=Try.prog) (r:=r_api_Row) (s2:=rB) (g:=(·.Back)) (q:=aS) (z:=aa) 90 0 0 0 S d d comp_api_Row_Back
  obtain ⟨bv,S⟩:=pLoad (r:=rB) (q:=aU) (x:=aa.Back) 0 S d
  obtain rfl:bv=.bool aa.Back:=S.mem.know (i:=1) (e:=fRep rB (bv) aa.Back) d
  obtain ⟨aW,aX,S⟩:=pIdx (P:=Try.prog) (r:=r_api_Row) (v:=.slice ah p1.Rows.length ai) (xs:=p1.Rows) (j:=ac) 47 90 5 S Try.underlying47 d d ax
  obtain ⟨aZ,b8,S⟩:=pFld (P:=Try.prog) (r:=r_api_Row) (s2:=rB) (g:=(·.Back)) (q:=aW) (z:=ab) 90 0 0 0 S d d comp_api_Row_Back
  obtain ⟨bw,S⟩:=pLoad (r:=rB) (q:=aZ) (x:=ab.Back) 0 S d
  obtain rfl:bw=.bool ab.Back:=S.mem.know (i:=1) (e:=fRep rB (bw) ab.Back) d
  refine sDraw (nf:=[]) (W:=[(0,27,.pointer (some ⟨aj,1,none⟩)),(1,28,.slice af p0.Rows.length ag),(2,29,iv ac),(3,30,aS),(4,31,aU),(5,32,.bool aa.Back),(6,33,.pointer (some ⟨ak,1,none⟩)),(7,34,.slice ah p1.Rows.length ai),(8,35,iv ac),(9,36,aW),(10,37,aZ),(11,38,.bool ab.Back),(12,39,.bool (aa.Back != ab.Back)),(13,40,.bool (aa.Back != ab.Back)),(14,41,undef),(15,42,undef),(16,43,undef),(17,44,undef),(18,45,undef),(19,46,undef),(20,47,undef),(21,48,undef),(22,49,undef),(23,50,undef),(24,51,undef),(25,52,undef),(26,53,undef),(27,54,undef),(28,55,.bool true)]) d S ?_
  refine node_by (A:=anc_raddleref26_Same_0) 29 (by kernel_rfl) (by kernel_rfl) (by kernel_rfl) (by kernel_rfl) (by kernel_rfl) [0,1,2,3,4,5,6,7,8,9,10,11,12,13,14,15,16,17,18,19,20,21,22,23,24,25,26,27,28] (by kernel_rfl) (by decide) (by decide) (fF ?_ (fF ?_ (fF ?_ (fF ?_ (fF ?_ (fF ?_ (fF ?_ (fF ?_ (fF ?_ (fF ?_ (fF ?_ (fF ?_ (fF ?_ (fF ?_ (fF ?_ (fF ?_ (fF ?_ (fF ?_ (fF ?_ (fF ?_ (fF ?_ (fF ?_ (fF ?_ (fF ?_ (fF ?_ (fF ?_ (fF ?_ (fF ?_ (fF ?_ (trivial)))))))))))))))))))))))))))))) [(2,.pointer (some ⟨aj,0,none⟩)),(3,.pointer (some ⟨ak,0,none⟩)),(5,iv ac),(41,undef),(42,undef),(43,undef),(44,undef),(45,undef),(46,undef),(47,undef),(48,undef),(49,undef),(50,undef),(51,undef),(52,undef),(53,undef),(54,undef),(55,.bool true)] (fin_of [none,none,none,some 14,some 15,some 16,some 17,some 18,some 19,some 20,some 21,some 22,some 23,some 24,some 25,some 26,some 27,some 28] d (by kernel_rfl) (by kernel_rfl)) (fun _ a w S=>?_)
  ·refine fJ [(2,_)] 0 [none] fun G a w S=>?_
   exact sField (b:=aj) (off:=0) 1 1 S (wN d) d d d d d (lb d) fun a S=>leafL ⟨d,S⟩
  ·refine fJ [(27,_)] 1 [some 0] fun G a w S=>?_
   exact sLoad1 0 (.slice af p0.Rows.length ag) S (wN d) d d d d d d (lb d) fun a S=>leafL ⟨d,S⟩
  ·exact fM 2 none d d d d (.inl d) d d d
  ·refine fJ [(28,_),(29,_)] 3 [some 1,some 2] fun G a w S=>?_
   exact sIdxV S (wN d) d d d aT d (lb d) fun a S=>leafL ⟨d,S⟩
  ·refine fJ [(30,_)] 4 [some 3] fun G a w S=>?_
   exact sFldV (q:=aS) S (wN d) d d aV d (lb d) fun a S=>leafL ⟨d,S⟩
  ·refine fJ [(31,_)] 5 [some 4] fun G a w S=>?_
   exact sLoadV1 (vq:=aU) 4 (.bool aa.Back) S (wN d) d d d d d (lb d) fun a S=>leafL ⟨d,S⟩
  ·refine fJ [(3,_)] 6 [none] fun G a w S=>?_
   exact sField (b:=ak) (off:=0) 1 1 S (wN d) d d d d d (lb d) fun a S=>leafL ⟨d,S⟩
  ·refine fJ [(33,_)] 7 [some 6] fun G a w S=>?_
   exact sLoad1 1 (.slice ah p1.Rows.length ai) S (wN d) d d d d d d (lb d) fun a S=>leafL ⟨d,S⟩
  ·exact fM 8 none d d d d (.inl d) d d d
  ·refine fJ [(34,_),(35,_)] 9 [some 7,some 8] fun G a w S=>?_
   exact sIdxV S (wN d) d d d aX d (lb d) fun a S=>leafL ⟨d,S⟩
  ·refine fJ [(36,_)] 10 [some 9] fun G a w S=>?_
   exact sFldV (q:=aW) S (wN d) d d b8 d (lb d) fun a S=>leafL ⟨d,S⟩
  ·refine fJ [(37,_)] 11 [some 10] fun G a w S=>?_
   exact sLoadV1 (vq:=aZ) 0 (.bool ab.Back) S (wN d) d d d d d (lb d) fun a S=>leafL ⟨d,S⟩
  ·refine fJ [(32,_),(38,_)] 12 [some 5,some 11] fun G a w S=>?_
   exact sBin _ S (wN d) d d d (bNeB _ _ _ _ Try.underlying4 aa.Back ab.Back) d (lb d) fun a S=>leafL ⟨d,S⟩
  ·exact fM 13 (some 12) d d d d (.inl d) d d d
  ·refine fJ [(2,_),(40,_)] 14 [none,some 13] fun G a w S=>?_
   exact sSk S d d d a9 d d fun a S=>leafL ⟨d,S⟩
  ·refine fJ [(41,_),(40,_)] 15 [some 14,some 13] fun G a w S=>?_
   exact sSk S d d d a9 d d fun a S=>leafL ⟨d,S⟩
  ·refine fJ [(5,_),(40,_)] 16 [none,some 13] fun G a w S=>?_
   exact sSk S d d d a9 d d fun a S=>leafL ⟨d,S⟩
  ·refine fJ [(42,_),(43,_),(40,_)] 17 [some 15,some 16,some 13] fun G a w S=>?_
   exact sSk S d d d a9 d d fun a S=>leafL ⟨d,S⟩
  ·refine fJ [(44,_),(40,_)] 18 [some 17,some 13] fun G a w S=>?_
   exact sSk S d d d a9 d d fun a S=>leafL ⟨d,S⟩
  ·refine fJ [(45,_),(40,_)] 19 [some 18,some 13] fun G a w S=>?_
   exact sSk S d d d a9 d d fun a S=>leafL ⟨d,S⟩
  ·refine fJ [(3,_),(40,_)] 20 [none,some 13] fun G a w S=>?_
   exact sSk S d d d a9 d d fun a S=>leafL ⟨d,S⟩
  ·refine fJ [(47,_),(40,_)] 21 [some 20,some 13] fun G a w S=>?_
   exact sSk S d d d a9 d d fun a S=>leafL ⟨d,S⟩
  ·refine fJ [(5,_),(40,_)] 22 [none,some 13] fun G a w S=>?_
   exact sSk S d d d a9 d d fun a S=>leafL ⟨d,S⟩
  ·refine fJ [(48,_),(49,_),(40,_)] 23 [some 21,some 22,some 13] fun G a w S=>?_
   exact sSk S d d d a9 d d fun a S=>leafL ⟨d,S⟩
  ·refine fJ [(50,_),(40,_)] 24 [some 23,some 13] fun G a w S=>?_
   exact sSk S d d d a9 d d fun a S=>leafL ⟨d,S⟩
  ·refine fJ [(51,_),(40,_)] 25 [some 24,some 13] fun G a w S=>?_
   exact sSk S d d d a9 d d fun a S=>leafL ⟨d,S⟩
  ·refine fJ [(46,_),(52,_),(40,_)] 26 [some 19,some 25,some 13] fun G a w S=>?_
   exact sSk S d d d a9 d d fun a S=>leafL ⟨d,S⟩
  ·refine fJ [(53,_),(40,_)] 27 [some 26,some 13] fun G a w S=>?_
   exact sSk S d d d a9 d d fun a S=>leafL ⟨d,S⟩
  ·refine fJ [(40,_),(54,_)] 28 [some 13,some 27] fun G a w S=>?_
   exact sPickT (.bool true) S (wN d) d d a9 d d (lb d) fun a S=>leafL ⟨d,S⟩
  exact leafT (⟨true,Option.some.inj h,S.fix [0,1] [8,9] (by decide) d d d⟩)
 obtain ⟨al,ba,h⟩:=bS h
 obtain ⟨bb,bc,S⟩:=pIdx (P:=Try.prog) (r:=r_api_Row) (v:=.slice af p0.Rows.length ag) (xs:=p0.Rows) (j:=ac) 47 90 0 S Try.underlying47 d d aw
 obtain ⟨bf,bg,S⟩:=pFld (P:=Try.prog) (r:=r_api_Row) (s2:=rB) (g:=(·.Back)) (q:=bb) (z:=aa) 90 0 0 0 S d d comp_api_Row_Back
 obtain ⟨bx,S⟩:=pLoad (r:=rB) (q:=bf) (x:=aa.Back) 0 S d
 obtain rfl:bx=.bool aa.Back:=S.mem.know (i:=1) (e:=fRep rB (bx) aa.Back) d
 obtain ⟨bh,bi,S⟩:=pIdx (P:=Try.prog) (r:=r_api_Row) (v:=.slice ah p1.Rows.length ai) (xs:=p1.Rows) (j:=ac) 47 90 5 S Try.underlying47 d d ax
 obtain ⟨bj,bl,S⟩:=pFld (P:=Try.prog) (r:=r_api_Row) (s2:=rB) (g:=(·.Back)) (q:=bh) (z:=ab) 90 0 0 0 S d d comp_api_Row_Back
 obtain ⟨bz,S⟩:=pLoad (r:=rB) (q:=bj) (x:=ab.Back) 0 S d
 obtain rfl:bz=.bool ab.Back:=S.mem.know (i:=1) (e:=fRep rB (bz) ab.Back) d
 obtain ⟨aA,bm,S⟩:=pIdx (P:=Try.prog) (r:=r_api_Row) (v:=.slice af p0.Rows.length ag) (xs:=p0.Rows) (j:=ac) 47 90 8 S Try.underlying47 d d aw
 obtain ⟨aC,bn,S⟩:=pFld (P:=Try.prog) (r:=r_api_Row) (s2:=(rL r_api_Stitch)) (g:=(·.Cells)) (q:=aA) (z:=aa) 90 1 0 1 S d d comp_api_Row_Cells
 obtain ⟨bI,S⟩:=pLoad (r:=(rL r_api_Stitch)) (q:=aC) (x:=aa.Cells) 0 S d
 obtain ⟨am,ao,_,rfl,_⟩:=S.mem.know (i:=1) (e:=fRep (rL r_api_Stitch) (bI) aa.Cells) d
 obtain ⟨aG,bo,S⟩:=pIdx (P:=Try.prog) (r:=r_api_Row) (v:=.slice ah p1.Rows.length ai) (xs:=p1.Rows) (j:=ac) 47 90 13 S Try.underlying47 d d ax
 obtain ⟨aH,bp,S⟩:=pFld (P:=Try.prog) (r:=r_api_Row) (s2:=(rL r_api_Stitch)) (g:=(·.Cells)) (q:=aG) (z:=ab) 90 1 0 1 S d d comp_api_Row_Cells
 obtain ⟨bJ,S⟩:=pLoad (r:=(rL r_api_Stitch)) (q:=aH) (x:=ab.Cells) 0 S d
 obtain ⟨ap,aq,_,rfl,_⟩:=S.mem.know (i:=1) (e:=fRep (rL r_api_Stitch) (bJ) ab.Cells) d
 refine sDraw (nf:=[]) (W:=[(0,27,.pointer (some ⟨aj,1,none⟩)),(1,28,.slice af p0.Rows.length ag),(2,29,iv ac),(3,30,bb),(4,31,bf),(5,32,.bool aa.Back),(6,33,.pointer (some ⟨ak,1,none⟩)),(7,34,.slice ah p1.Rows.length ai),(8,35,iv ac),(9,36,bh),(10,37,bj),(11,38,.bool ab.Back),(12,39,.bool (aa.Back != ab.Back)),(13,40,.bool (aa.Back != ab.Back)),(14,41,.pointer (some ⟨aj,1,none⟩)),(15,42,.slice af p0.Rows.length ag),(16,43,iv ac),(17,44,aA),(18,45,aC),(19,46,.slice am aa.Cells.length ao),(20,47,.pointer (some ⟨ak,1,none⟩)),(21,48,.slice ah p1.Rows.length ai),(22,49,iv ac),(23,50,aG),(24,51,aH),(25,52,.slice ap ab.Cells.length aq),(26,53,.bool al),(27,54,.bool (!al)),(28,55,.bool (!al))]) d S ?_
 refine node_by (A:=anc_raddleref26_Same_0) 29 (by kernel_rfl) (by kernel_rfl) (by kernel_rfl) (by kernel_rfl) (by kernel_rfl) [0,1,2,3,4,5,6,7,8,9,10,11,12,13,14,15,16,17,18,19,20,21,22,23,24,25,26,27,28] (by kernel_rfl) (by decide) (by decide) (fF ?_ (fF ?_ (fF ?_ (fF ?_ (fF ?_ (fF ?_ (fF ?_ (fF ?_ (fF ?_ (fF ?_ (fF ?_ (fF ?_ (fF ?_ (fF ?_ (fF ?_ (fF ?_ (fF ?_ (fF ?_ (fF ?_ (fF ?_ (fF ?_ (fF ?_ (fF ?_ (fF ?_ (fF ?_ (fF ?_ (fF ?_ (fF ?_ (fF ?_ (trivial)))))))))))))))))))))))))))))) [(2,.pointer (some ⟨aj,0,none⟩)),(3,.pointer (some ⟨ak,0,none⟩)),(5,iv ac),(41,.pointer (some ⟨aj,1,none⟩)),(42,.slice af p0.Rows.length ag),(43,iv ac),(44,aA),(45,aC),(46,.slice am aa.Cells.length ao),(47,.pointer (some ⟨ak,1,none⟩)),(48,.slice ah p1.Rows.length ai),(49,iv ac),(50,aG),(51,aH),(52,.slice ap ab.Cells.length aq),(53,.bool al),(54,.bool (!al)),(55,.bool (!al))] (fin_of [none,none,none,some 14,some 15,some 16,some 17,some 18,some 19,some 20,some 21,some 22,some 23,some 24,some 25,some 26,some 27,some 28] d (by kernel_rfl) (by kernel_rfl)) (fun _ a w S=>?_)
 ·refine fJ [(2,_)] 0 [none] fun G a w S=>?_
  exact sField (b:=aj) (off:=0) 1 1 S (wN d) d d d d d (lb d) fun a S=>leafL ⟨d,S⟩
 ·refine fJ [(27,_)] 1 [some 0] fun G a w S=>?_
  exact sLoad1 0 (.slice af p0.Rows.length ag) S (wN d) d d d d d d (lb d) fun a S=>leafL ⟨d,S⟩
 ·exact fM 2 none d d d d (.inl d) d d d
 ·refine fJ [(28,_),(29,_)] 3 [some 1,some 2] fun G a w S=>?_
  exact sIdxV S (wN d) d d d bc d (lb d) fun a S=>leafL ⟨d,S⟩
 ·refine fJ [(30,_)] 4 [some 3] fun G a w S=>?_
  exact sFldV (q:=bb) S (wN d) d d bg d (lb d) fun a S=>leafL ⟨d,S⟩
 ·refine fJ [(31,_)] 5 [some 4] fun G a w S=>?_
  exact sLoadV1 (vq:=bf) 12 (.bool aa.Back) S (wN d) d d d d d (lb d) fun a S=>leafL ⟨d,S⟩
 ·refine fJ [(3,_)] 6 [none] fun G a w S=>?_
  exact sField (b:=ak) (off:=0) 1 1 S (wN d) d d d d d (lb d) fun a S=>leafL ⟨d,S⟩
 ·refine fJ [(33,_)] 7 [some 6] fun G a w S=>?_
  exact sLoad1 1 (.slice ah p1.Rows.length ai) S (wN d) d d d d d d (lb d) fun a S=>leafL ⟨d,S⟩
 ·exact fM 8 none d d d d (.inl d) d d d
 ·refine fJ [(34,_),(35,_)] 9 [some 7,some 8] fun G a w S=>?_
  exact sIdxV S (wN d) d d d bi d (lb d) fun a S=>leafL ⟨d,S⟩
 ·refine fJ [(36,_)] 10 [some 9] fun G a w S=>?_
  exact sFldV (q:=bh) S (wN d) d d bl d (lb d) fun a S=>leafL ⟨d,S⟩
 ·refine fJ [(37,_)] 11 [some 10] fun G a w S=>?_
  exact sLoadV1 (vq:=bj) 8 (.bool ab.Back) S (wN d) d d d d d (lb d) fun a S=>leafL ⟨d,S⟩
 ·refine fJ [(32,_),(38,_)] 12 [some 5,some 11] fun G a w S=>?_
  exact sBin _ S (wN d) d d d (bNeB _ _ _ _ Try.underlying4 aa.Back ab.Back) d (lb d) fun a S=>leafL ⟨d,S⟩
 ·exact fM 13 (some 12) d d d d (.inl d) d d d
 ·refine fJ [(2,_),(40,_)] 14 [none,some 13] fun G a w S=>?_
  exact sField (b:=aj) (off:=0) 1 1 S (wG 13 false 40 d d d a9) d d d d d (lb d) fun a S=>leafL ⟨d,S⟩
 ·refine fJ [(41,_),(40,_)] 15 [some 14,some 13] fun G a w S=>?_
  exact sLoad1 0 (.slice af p0.Rows.length ag) S (wG 13 false 40 d d d a9) d d d d d d (lb d) fun a S=>leafL ⟨d,S⟩
 ·refine fJ [(5,_),(40,_)] 16 [none,some 13] fun G a w S=>?_
  exact sMove (iv ac) S (wG 13 false 40 d d d a9) (.inl d) d d (lb d) fun a S=>leafL ⟨d,S⟩
 ·refine fJ [(42,_),(43,_),(40,_)] 17 [some 15,some 16,some 13] fun G a w S=>?_
  exact sIdxV S (wG 13 false 40 d d d a9) d d d bm d (lb d) fun a S=>leafL ⟨d,S⟩
 ·refine fJ [(44,_),(40,_)] 18 [some 17,some 13] fun G a w S=>?_
  exact sFldV (q:=aA) S (wG 13 false 40 d d d a9) d d bn d (lb d) fun a S=>leafL ⟨d,S⟩
 ·refine fJ [(45,_),(40,_)] 19 [some 18,some 13] fun G a w S=>?_
  exact sLoadV1 (vq:=aC) 4 (.slice am aa.Cells.length ao) S (wG 13 false 40 d d d a9) d d d d d (lb d) fun a S=>leafL ⟨d,S⟩
 ·refine fJ [(3,_),(40,_)] 20 [none,some 13] fun G a w S=>?_
  exact sField (b:=ak) (off:=0) 1 1 S (wG 13 false 40 d d d a9) d d d d d (lb d) fun a S=>leafL ⟨d,S⟩
 ·refine fJ [(47,_),(40,_)] 21 [some 20,some 13] fun G a w S=>?_
  exact sLoad1 1 (.slice ah p1.Rows.length ai) S (wG 13 false 40 d d d a9) d d d d d d (lb d) fun a S=>leafL ⟨d,S⟩
 ·refine fJ [(5,_),(40,_)] 22 [none,some 13] fun G a w S=>?_
  exact sMove (iv ac) S (wG 13 false 40 d d d a9) (.inl d) d d (lb d) fun a S=>leafL ⟨d,S⟩
 ·refine fJ [(48,_),(49,_),(40,_)] 23 [some 21,some 22,some 13] fun G a w S=>?_
  exact sIdxV S (wG 13 false 40 d d d a9) d d d bo d (lb d) fun a S=>leafL ⟨d,S⟩
 ·refine fJ [(50,_),(40,_)] 24 [some 23,some 13] fun G a w S=>?_
  exact sFldV (q:=aG) S (wG 13 false 40 d d d a9) d d bp d (lb d) fun a S=>leafL ⟨d,S⟩
 ·refine fJ [(51,_),(40,_)] 25 [some 24,some 13] fun G a w S=>?_
  exact sLoadV1 (vq:=aH) 0 (.slice ap ab.Cells.length aq) S (wG 13 false 40 d d d a9) d d d d d (lb d) fun a S=>leafL ⟨d,S⟩
 ·refine fJ [(46,_),(52,_),(40,_)] 26 [some 19,some 25,some 13] fun G a w S=>?_
  have S1:=S.mem
  refine sCallQ (X:=Unit) (f:=63) (vs:=[.slice am aa.Cells.length ao,.slice ap ab.Cells.length aq]) (val:=fun _=>.bool al) S (wG 13 false 40 d d d a9) d callee63 d (S1.quiet [5,1] d) (fun E1 w1 S1=>c_raddleref25_Same E1 w1 aa.Cells (.slice am aa.Cells.length ao) ab.Cells (.slice ap ab.Cells.length aq) al ba S1) d (lb d) fun _ a w S=>?_
  exact leafL ⟨d,S⟩
 ·refine fJ [(53,_),(40,_)] 27 [some 26,some 13] fun G a w S=>?_
  exact sNot (b:=al) S (wG 13 false 40 d d d a9) d d d (lb d) fun a S=>leafL ⟨d,S⟩
 ·refine fJ [(40,_),(54,_)] 28 [some 13,some 27] fun G a w S=>?_
  exact sPickF (.bool (!al)) S (wN d) d d a9 d d (lb d) fun a S=>leafL ⟨d,S⟩
 exact leafT (⟨!al,Option.some.inj h,S.fix [0,1] [16,17] (by decide) d d d⟩)
def anc_raddletop_knit39_0:List (List Nat):=[[],[],[1],[1,2],[1,2,3],[0,1,2,3,4],[0,1,2,3,4,5],[0,1,2,3,4,5,6],[0,1,2,3,4,5,6],[],[0,1,2,3,4,5,6,7,9],[0,1,2,3,4,5,6,7,8,9,10]]
def anc_raddletop_knit39_1:List (List Nat):=[[],[],[0,1],[0,1,2],[],[4],[],[4,5,6],[4,5,6,7],[],[9],[],[9,10,11],[9,10,11,12],[4,5,6,7,8,9,10,11,12,13],[0,1,2,3,4,5,6,7,8,9,10,11,12,13,14]]
noncomputable def raddletop_knit39_l1 (aa:((List Int) × Int)) (p0:api_Piece):Int→Option (Int ⊕ (Bool ⊕ Unit)):=fun s0=>match s0 with
 | a9=>
  if decide (a9 < (aa.1.length:Int)) then
   (idxO aa.1 a9).bind fun ab=>
   (idxO p0.Right a9).bind fun ac=>
   (idxO p0.Left a9).bind fun ae=>
   if ab != (w64 (ac - ae)) then
    some (.inr (.inl false))
   else
    some (.inl (w64 (a9 + 1)))
  else
   some (.inr (.inr ()))
noncomputable def raddletop_knit39_l2 (aa:((List Int) × Int)) (ab:Int):Int→Option (Int ⊕ (Bool ⊕ Unit)):=fun s0=>match s0 with
 | a9=>
  if decide (a9 < (aa.1.length:Int)) then
   (idxO aa.1 a9).bind fun ac=>
   if ac != ab then
    some (.inr (.inl false))
   else
    some (.inl (w64 (a9 + 1)))
  else
   some (.inr (.inr ()))
noncomputable def F_raddletop_knit39 (p0:api_Piece) (p1:Int):Option Bool:=
 (F_piece_Chart p0).bind fun ac=>
 if ac.2 != 0 then
  some (ac.2 == 22)
 else
  (F_chart_Counts ac.1).bind fun ae=>
  (idxO p0.Left 0).bind fun ar=>
  (F_piece_Read ac.1 ar).bind fun aq=>
  Option.bind (α:=Bool) (
   if ae.2 != 0 then
    some true
   else
    if aq.2 != 0 then
     some true
    else
     if (ae.1.length:Int) != (p0.Left.length:Int) then
      some true
     else
      (F_raddleref37_Same aq.1 p0).bind fun au=>
      some (!au)) fun av=>
  if av then
   some false
  else
   Option.bind (α:=Unit ⊕ Bool) (
    (whileO (raddletop_knit39_l1 ae p0) 0).bind fun z0=>match z0 with
     | .inl z=>
      some (.inr z)
     | .inr _=>
      some (.inl ())) fun z0=>match z0 with
    | .inl _=>
     (idxO ae.1 (w64 ((ae.1.length:Int) - 1))).bind fun a9=>
     (F_short_Turns a9 (if a9 < p1 then a9 else p1)).bind fun aa=>
     (F_short_Chart a9 aa.1).bind fun af=>
     (F_short_Heights a9 aa.1).bind fun aj=>
     Option.bind (α:=Bool) (
      if aa.2 != 0 then
       some true
      else
       if af.2 != 0 then
        some true
       else
        if aj.2 != 0 then
         some true
        else
         some ((aj.1.length:Int) != a9)) fun ak=>
     if ak then
      some false
     else
      (F_chart_Join ac.1 af.1).bind fun ab=>
      if decide (100 < (w64 ((ac.1.Rows.length:Int) + (w64 (2 * (aa.1.length:Int)))))) then
       some (ab.2 == 4)
      else
       (F_chart_Counts ab.1).bind fun ag=>
       Option.bind (α:=Bool) (
        if ab.2 != 0 then
         some true
        else
         if ag.2 != 0 then
          some true
         else
          some ((ag.1.length:Int) != (w64 ((ae.1.length:Int) + (w64 (2 * (aa.1.length:Int))))))) fun al=>
       if al then
        some false
       else
        Option.bind (α:=Unit ⊕ Bool) (
         (whileO (raddletop_knit39_l2 ag a9) (ae.1.length:Int)).bind fun z0=>match z0 with
          | .inl z=>
           some (.inr z)
          | .inr _=>
           some (.inl ())) fun z0=>match z0 with
         | .inl _=>
          (F_chart_Part ab.1 (ac.1.Rows.length:Int) (ab.1.Rows.length:Int)).bind fun ah=>
          (F_short_Read ah.1).bind fun ai=>
          Option.bind (α:=Bool) (
           if ah.2 == 0 then
            if ai.2.2 == 0 then
             (F_raddleref26_Same ah.1 af.1).bind fun am=>
             if am then
              if ai.1 == a9 then
               (F_raddleref36_Same ai.2.1 aa.1).bind fun ao=>
               some ao
              else
               some false
             else
              some false
            else
             some false
           else
            some false) fun ap=>
          some ap
         | .inr z=>
          some z
    | .inr z=>
     some z
theorem c_raddletop_knit39 (E:Nat→Prop) (w0:World) (p0:api_Piece) (v0:Value) (p1:Int) (r:Bool) (h:F_raddletop_knit39 p0 p1=some r) (S:St0 E [] w0 w0 [] [fRep r_api_Piece (v0) p0]) :
 Calls Try.prog 13 #[v0,iv p1] w0 (Ret (X:=Unit) E [] w0 (fun _=>.bool r) (fun _=>[]) (fun _=>[])):=by
 unfold F_raddletop_knit39 at h
 obtain ⟨u1,u2,rfl,dX,dY⟩:=S.know (i:=0) (e:=fRep r_api_Piece (v0) p0) d
 have S:=S.learn (fRep (rL (rI .i64)) u1 p0.Left) dX
 obtain ⟨aO,aP,_,rfl,_⟩:=dX
 have S:=S.learn (fRep (rL (rI .i64)) u2 p0.Right) dY
 obtain ⟨aS,aT,_,rfl,_⟩:=dY
 refine sEnter (args:=[.agg #[.slice aO p0.Left.length aP,.slice aS p0.Right.length aT],iv p1]) 226 Try.func13 d d (by simp) S (fun a S=>?_)
 refine sSeq (fun K9 ed=>sRegion (sBox (v:=.agg #[.slice aO p0.Left.length aP,.slice aS p0.Right.length aT]) S (wN d) d d [.slice aO p0.Left.length aP,.slice aS p0.Right.length aT] d d (lb d) fun a ba w S=>sN S fun a S=>?_))
 refine lT (ed _ _ (sSeq (fun eT d9=>sRegion (sLoadN (p:=ba) (off:=0) (T:=36) (vs:=[.slice aO p0.Left.length aP,.slice aS p0.Right.length aT]) 0 [.slice aO p0.Left.length aP,.slice aS p0.Right.length aT] S (wN d) d d d d d d d (lb d) fun a S=>?_))))
 obtain ⟨ab,da,h⟩:=bS h
 refine sCall (X:=Value) (f:=15) (vs:=[.agg #[.slice aO p0.Left.length aP,.slice aS p0.Right.length aT]]) (val:=c_piece_Chart_val ab) (B':=fun _=>[]) (D':=c_piece_Chart_D ab) [] [eBox ba 36 [.slice aO p0.Left.length aP,.slice aS p0.Right.length aT]] [fRep r_api_Piece (.agg #[.slice aO p0.Left.length aP,.slice aS p0.Right.length aT]) p0] [0] [2] S (wN d) d callee15 d (by decide) d d (fun E1 w1 S1=>c_piece_Chart E1 w1 p0 (.agg #[.slice aO p0.Left.length aP,.slice aS p0.Right.length aT]) ab da S1) d (lb d) fun ee a w S=>?_
 obtain ⟨ef,rfl,c8⟩:=S.mem.know (i:=0) (e:=fRep r_api_Chart (ee) ab.1) d
 have S:=S.learn (fRep (rL r_api_Row) ef ab.1.Rows) c8
 obtain ⟨ac,ae,_,rfl,_⟩:=c8
 refine sM S fun a S=>?_
 refine sExtract (vs:=[.agg #[iv ab.1.Start,.slice ac ab.1.Rows.length ae],iv ab.2]) (.agg #[iv ab.1.Start,.slice ac ab.1.Rows.length ae]) S (wN d) d d d d (lb d) fun a S=>sExtract (vs:=[.agg #[iv ab.1.Start,.slice ac ab.1.Rows.length ae],iv ab.2]) (iv ab.2) S (wN d) d d d d (lb d) fun a S=>sAlloc (.agg #[iv 0,.slice none 0 0]) S (wN d) d d [iv 0,.slice none 0 0] d d (lb d) fun a aJ w S=>sStore (p:=aJ) (off:=0) (T:=49) (vs:=[iv 0,.slice none 0 0]) (v:=.agg #[iv ab.1.Start,.slice ac ab.1.Rows.length ae]) 0 [iv ab.1.Start,.slice ac ab.1.Rows.length ae] S (wN d) d d d d d d d (by simp) d fun a w S=>sN S fun a S=>?_
 refine lT (d9 _ _ (sSeq (fun eU db=>sSeq (fun eV dc=>sRegion (sM S fun a S=>?_)))))
 refine sBin _ S (wN d) d d d (bNe _ _ _ _ .i64 ab.2 0) d (lb d) fun a S=>lT (dc _ _ ?_)
 rcases iS h with ⟨bQ,h⟩ | ⟨bQ,h⟩
 ·refine sCondT S d bQ (sSeq (fun eW de=>sRegion (sM S fun a S=>?_)))
  refine sBin _ S (wN d) d d d (bEq _ _ _ _ .i64 ab.2 22) d (lb d) fun a S=>sN S fun a S=>?_
  refine lT (de _ _ ?_)
  obtain rfl:=tS h
  exact wp_ret (rThen (sRet (.bool (ab.2 == 22)) S (rsl1 d (rvT (t:=4) (v:=.bool (ab.2 == 22)) S d)) ⟨(),d,S.mem.sel [] [] (by decide) d d⟩))
 refine sCondF S d bQ (wp_skip (leafT (db _ _ ?_)))
 refine sSeq (fun eX df=>sRegion (sLoadN (p:=aJ) (off:=0) (T:=49) (vs:=[iv ab.1.Start,.slice ac ab.1.Rows.length ae]) 0 [iv ab.1.Start,.slice ac ab.1.Rows.length ae] S (wN d) d d d d d d d (lb d) fun a S=>?_))
 obtain ⟨aA,dg,h⟩:=bS h
 refine sCall (X:=Value) (f:=16) (vs:=[.agg #[iv ab.1.Start,.slice ac ab.1.Rows.length ae]]) (val:=c_chart_Counts_val aA) (B':=fun _=>[]) (D':=c_chart_Counts_D aA) [] [eBox aJ 49 [iv ab.1.Start,.slice ac ab.1.Rows.length ae],eBox ba 36 [.slice aO p0.Left.length aP,.slice aS p0.Right.length aT]] [fRep r_api_Chart (.agg #[iv ab.1.Start,.slice ac ab.1.Rows.length ae]) ab.1] [0,1] [1] S (wN d) d callee16 d (by decide) d d (fun E1 w1 S1=>c_chart_Counts E1 w1 ab.1 (.agg #[iv ab.1.Start,.slice ac ab.1.Rows.length ae]) aA dg S1) d (lb d) fun eh a w S=>?_
 obtain ⟨aC,aG,_,rfl,_⟩:=S.mem.know (i:=0) (e:=fRep (rL (rI .i64)) (eh) aA.1) d
 refine sM S fun a S=>?_
 refine sExtract (vs:=[.slice aC aA.1.length aG,iv aA.2]) (.slice aC aA.1.length aG) S (wN d) d d d d (lb d) fun a S=>sExtract (vs:=[.slice aC aA.1.length aG,iv aA.2]) (iv aA.2) S (wN d) d d d d (lb d) fun a S=>sN S fun a S=>?_
 refine sN S fun a S=>?_
 refine lT (df _ _ (sSeq (fun eY dh=>?_)))
 obtain ⟨br,di,h⟩:=bS h
 obtain ⟨ai,c9,h⟩:=bS h
 obtain ⟨d8,ca,S⟩:=pIdx (P:=Try.prog) (r:=(rI .i64)) (v:=.slice aO p0.Left.length aP) (xs:=p0.Left) (j:=0) 34 3 4 S Try.underlying34 d d di
 obtain ⟨dZ,S⟩:=pLoad (r:=(rI .i64)) (q:=d8) (x:=br) 0 S d
 obtain rfl:dZ=iv br:=S.mem.know (i:=1) (e:=fRep (rI .i64) (dZ) br) d
 refine sDraw (nf:=[5,9,10]) (W:=[(0,44,.agg #[iv ab.1.Start,.slice ac ab.1.Rows.length ae]),(1,45,.pointer (some ⟨ba,0,none⟩)),(2,46,.slice aO p0.Left.length aP),(3,47,d8),(4,48,iv br)]) d S ?_
 refine nodeCut (fun N W L D=>∀ bD au av aw ax,N [9,5] ((9,9,.pointer (some ⟨bD,0,none⟩)) :: (6,43,.tuple #[.agg #[.slice au ai.1.Left.length av,.slice aw ai.1.Right.length ax],iv ai.2]) :: (7,50,.agg #[.slice au ai.1.Left.length av,.slice aw ai.1.Right.length ax]) :: (8,51,iv ai.2) :: (5,49,.tuple #[.agg #[.slice au ai.1.Left.length av,.slice aw ai.1.Right.length ax],iv ai.2]) :: W) ((eBox bD 36 [.slice none 0 0,.slice none 0 0]) :: L) ((fRep (rL (rI .i64)) (.slice aw ai.1.Right.length ax) ai.1.Right) :: (fRep (rL (rI .i64)) (.slice au ai.1.Left.length av) ai.1.Left) :: (fRep r_api_Piece (.agg #[.slice au ai.1.Left.length av,.slice aw ai.1.Right.length ax]) ai.1) :: D)) (fun bD au av aw ax=>?_) fun nd1=>?_
 ·refine node_by (A:=anc_raddletop_knit39_0) 12 (by kernel_rfl) (by kernel_rfl) (by kernel_rfl) (by kernel_rfl) (by kernel_rfl) [9,6,7,8,5,0,1,2,3,4] (by kernel_rfl) (by decide) (by decide) (fD 5 (fD 5 (fD 5 (fD 5 (fD 5 (fY (fF ?_ (fF ?_ (fF ?_ (fY (fN ?_ (fE 10 (trivial))))))))))))) [] (fun q hq=>by cases hq) (fun hY=>absurd (hY 10 (by decide)) (by decide))
  ·exact fM 1 (some 4) d d d d (.inl d) d d d
  ·refine fJ [(43,_)] 2 [some 1] fun G a w S=>?_
   exact sExtract (vs:=[.agg #[.slice au ai.1.Left.length av,.slice aw ai.1.Right.length ax],iv ai.2]) (.agg #[.slice au ai.1.Left.length av,.slice aw ai.1.Right.length ax]) S (wN d) d d d d (lb d) fun a S=>leafL ⟨d,S⟩
  ·refine fJ [(43,_)] 3 [some 1] fun G a w S=>?_
   exact sExtract (vs:=[.agg #[.slice au ai.1.Left.length av,.slice aw ai.1.Right.length ax],iv ai.2]) (iv ai.2) S (wN d) d d d d (lb d) fun a S=>leafL ⟨d,S⟩
  refine ⟨_,[(9,.pointer (some ⟨bD,0,none⟩)),(50,.agg #[.slice au ai.1.Left.length av,.slice aw ai.1.Right.length ax])],d,(srcs_of [some 0,some 2] d d d),fun G a w S=>?_⟩
  refine sStore (p:=bD) (off:=0) (T:=36) (vs:=[.slice none 0 0,.slice none 0 0]) (v:=.agg #[.slice au ai.1.Left.length av,.slice aw ai.1.Right.length ax]) 0 [.slice au ai.1.Left.length av,.slice aw ai.1.Right.length ax] S (wN d) d d d d d d d (by simp) d fun a w S=>leafL ⟨d,_,_,.inr ⟨[(11,10,iv ai.2)],d,S,hz_of d,?_⟩⟩
  refine node_by (A:=anc_raddletop_knit39_0) 12 (by kernel_rfl) (by kernel_rfl) (by kernel_rfl) (by kernel_rfl) (by kernel_rfl) [11,9,6,7,8,5,0,1,2,3,4] (by kernel_rfl) (by decide) (by decide) (fD 10 (fD 10 (fD 10 (fD 10 (fD 10 (fY (fD 10 (fD 10 (fF ?_ (fY (fY (fF ?_ (trivial))))))))))))) [(1,iv p1),(2,.pointer (some ⟨ba,0,none⟩)),(5,.pointer (some ⟨aJ,0,none⟩)),(7,.slice aC aA.1.length aG),(8,iv aA.2),(9,.pointer (some ⟨bD,0,none⟩)),(10,iv ai.2)] (fin_of [none,none,none,none,none,some 1,some 0] d (by kernel_rfl) (by kernel_rfl)) (fun _ a w S=>?_)
  ·refine fJ [(43,_)] 4 [some 2] fun G a w S=>?_
   exact sExtract (vs:=[.agg #[.slice au ai.1.Left.length av,.slice aw ai.1.Right.length ax],iv ai.2]) (iv ai.2) S (wN d) d d d d (lb d) fun a S=>leafL ⟨d,S⟩
  ·exact fM 0 (some 4) d d d d (.inr d) d d d
  refine leafT (dh _ _ ?_)
  refine sSeq (fun eZ dj=>?_)
  obtain ⟨ei,h,ek⟩:=bS h
  refine sCut (fun a w=>∃ dk,dk=ei∧St [] E [] w0 226 a w [(1,iv p1),(2,.pointer (some ⟨ba,0,none⟩)),(5,.pointer (some ⟨aJ,0,none⟩)),(7,.slice aC aA.1.length aG),(71,.bool dk)] [eBox ba 36 [.slice aO p0.Left.length aP,.slice aS p0.Right.length aT],eBox aJ 49 [iv ab.1.Start,.slice ac ab.1.Rows.length ae]] [fRep (rL (rI .i64)) (.slice aC aA.1.length aG) aA.1,fRep (rL (rI .i64)) (.slice aO p0.Left.length aP) p0.Left,fRep (rL (rI .i64)) (.slice aS p0.Right.length aT) p0.Right,fRep (rL r_api_Row) (.slice ac ab.1.Rows.length ae) ab.1.Rows]) ?_ (fun a w hI=>?_)
  ·refine sRegion (sM S fun a S=>?_)
   refine sBin _ S (wN d) d d d (bNe _ _ _ _ .i64 aA.2 0) d (lb d) fun a S=>sM S fun a S=>?_
   rcases iS h with ⟨bp,h⟩ | ⟨bp,h⟩
   ·refine sSkN 2 2 false 54 S d d bp d fun a S=>sPickT (.bool true) S (wN d) d d bp d d (lb d) fun a S=>sM S fun a S=>?_
    refine sSkN 6 6 false 58 S d d d d fun a S=>sPickT (.bool true) S (wN d) d d d d d (lb d) fun a S=>sM S fun a S=>?_
    refine sSkN 4 14 false 66 S d d d d fun a S=>sPickT (.bool true) S (wN d) d d d d d (lb d) fun a S=>?_
    exact lT (⟨true,Option.some.inj h,S.fix [2,1] [6,10,9,7] (by decide) d d d⟩)
   refine sMove (iv ai.2) S (wG 2 false 54 d d d bp) (.inl d) d d (lb d) fun a S=>sBin _ S (wG 2 false 54 d d d bp) d d d (bNe _ _ _ _ .i64 ai.2 0) d (lb d) fun a S=>sPickF (.bool (ai.2 != 0)) S (wN d) d d bp d d (lb d) fun a S=>sM S fun a S=>?_
   rcases iS h with ⟨b8,h⟩ | ⟨b8,h⟩
   ·refine sSkN 6 6 false 58 S d d b8 d fun a S=>sPickT (.bool true) S (wN d) d d b8 d d (lb d) fun a S=>sM S fun a S=>?_
    refine sSkN 4 14 false 66 S d d d d fun a S=>sPickT (.bool true) S (wN d) d d d d d (lb d) fun a S=>?_
    exact lT (⟨true,Option.some.inj h,S.fix [2,1] [6,10,9,7] (by decide) d d d⟩)
   refine sMove (.slice aC aA.1.length aG) S (wG 6 false 58 d d d b8) (.inl d) d d (lb d) fun a S=>sLen S (wG 6 false 58 d d d b8) d Try.underlying34 d d (lb d) fun a S=>sField (b:=ba) (off:=0) 0 0 S (wG 6 false 58 d d d b8) d d d d d (lb d) fun a S=>sLoad1 2 (.slice aO p0.Left.length aP) S (wG 6 false 58 d d d b8) d d d d d d (lb d) fun a S=>sLen S (wG 6 false 58 d d d b8) d Try.underlying34 d d (lb d) fun a S=>sBin _ S (wG 6 false 58 d d d b8) d d d (bNe _ _ _ _ .i64 (aA.1.length:Int) (p0.Left.length:Int)) d (lb d) fun a S=>sPickF (.bool ((aA.1.length:Int) != (p0.Left.length:Int))) S (wN d) d d b8 d d (lb d) fun a S=>sM S fun a S=>?_
   rcases iS h with ⟨bh,h⟩ | ⟨bh,h⟩
   ·refine sSkN 4 14 false 66 S d d bh d fun a S=>sPickT (.bool true) S (wN d) d d bh d d (lb d) fun a S=>?_
    exact lT (⟨true,Option.some.inj h,S.fix [2,1] [6,10,9,7] (by decide) d d d⟩)
   refine sLoadN (p:=bD) (off:=0) (T:=36) (vs:=[.slice au ai.1.Left.length av,.slice aw ai.1.Right.length ax]) 0 [.slice au ai.1.Left.length av,.slice aw ai.1.Right.length ax] S (wG 14 false 66 d d d bh) d d d d d d d (lb d) fun a S=>sLoadN (p:=ba) (off:=0) (T:=36) (vs:=[.slice aO p0.Left.length aP,.slice aS p0.Right.length aT]) 2 [.slice aO p0.Left.length aP,.slice aS p0.Right.length aT] S (wG 14 false 66 d d d bh) d d d d d d d (lb d) fun a S=>?_
   obtain ⟨cb,dl,h⟩:=bS h
   have S1:=S.mem
   refine sCallQ (X:=Unit) (f:=28) (vs:=[.agg #[.slice au ai.1.Left.length av,.slice aw ai.1.Right.length ax],.agg #[.slice aO p0.Left.length aP,.slice aS p0.Right.length aT]]) (val:=fun _=>.bool cb) S (wG 14 false 66 d d d bh) d callee28 d (S1.quiet [2,11] d) (fun E1 w1 S1=>c_raddleref37_Same E1 w1 ai.1 (.agg #[.slice au ai.1.Left.length av,.slice aw ai.1.Right.length ax]) p0 (.agg #[.slice aO p0.Left.length aP,.slice aS p0.Right.length aT]) cb dl S1) d (lb d) fun _ a w S=>?_
   refine sNot (b:=cb) S (wG 14 false 66 d d d bh) d d d (lb d) fun a S=>sPickF (.bool (!cb)) S (wN d) d d bh d d (lb d) fun a S=>?_
   exact lT (⟨!cb,Option.some.inj h,S.fix [2,1] [6,10,9,7] (by decide) d d d⟩)
  obtain ⟨dk,rfl,S⟩:=hI
  have h:=ek
  try dsimp only at h
  rcases iS h with ⟨bR,h⟩ | ⟨bR,h⟩
  ·refine sCondT S d bR (sSeq (fun f4 dm=>sRegion (sN S fun a S=>?_)))
   refine lT (dm _ _ ?_)
   obtain rfl:=tS h
   exact wp_ret (rThen (sRet (.bool false) S (rsl1 d (rvT (t:=4) (v:=.bool false) S d)) ⟨(),d,S.mem.sel [] [] (by decide) d d⟩))
  refine sCondF S d bR (wp_skip (leafT (dj _ _ ?_)))
  obtain ⟨en,h,e9⟩:=bS h
  refine sCut (fun a w=>.inl ()=en∧St [] E [] w0 226 a w [(1,iv p1),(5,.pointer (some ⟨aJ,0,none⟩)),(7,.slice aC aA.1.length aG)] [eBox aJ 49 [iv ab.1.Start,.slice ac ab.1.Rows.length ae]] [fRep (rL (rI .i64)) (.slice aC aA.1.length aG) aA.1,fRep (rL r_api_Row) (.slice ac ab.1.Rows.length ae) ab.1.Rows]) ?_ (fun a w hI=>?_)
  ·refine sSeq (fun f5 dn=>sRegion (sN S fun a S=>?_))
   refine lT (dn _ _ (wp_block ?_))
   obtain ⟨f6,hl,ec⟩:=bS h
   refine sLoop hl (fun s0 a w=>match s0 with | bt=>St [] E [] w0 226 a w [(1,iv p1),(2,.pointer (some ⟨ba,0,none⟩)),(5,.pointer (some ⟨aJ,0,none⟩)),(7,.slice aC aA.1.length aG),(11,iv bt)] [eBox ba 36 [.slice aO p0.Left.length aP,.slice aS p0.Right.length aT],eBox aJ 49 [iv ab.1.Start,.slice ac ab.1.Rows.length ae]] [fRep (rL (rI .i64)) (.slice aC aA.1.length aG) aA.1,fRep (rL (rI .i64)) (.slice aO p0.Left.length aP) p0.Left,fRep (rL (rI .i64)) (.slice aS p0.Right.length aT) p0.Right,fRep (rL r_api_Row) (.slice ac ab.1.Rows.length ae) ab.1.Rows]) (S.fix [0,1] [0,1,2,3] (by decide) d d d) ?_
   clear hl h
   intro bt a w c0 hI h cc
   unfold raddletop_knit39_l1 at h
   dsimp only at h hI
   have S:=hI
   refine sSeq (fun f7 dp=>sSeq (fun f8 dr=>sRegion (sM S fun a S=>?_)))
   refine sM S fun a S=>?_
   refine sLen S (wN d) d Try.underlying34 d d (lb d) fun a S=>sBin _ S (wN d) d d d (bLt _ _ _ _ .i64 bt (aA.1.length:Int)) d (lb d) fun a S=>lT (dr _ _ ?_)
   rcases iS h with ⟨bV,h⟩ | ⟨bV,h⟩
   rotate_left
   ·refine sCondF S d bV ?_
    obtain rfl:=tS h
    obtain rfl:=cc _ d
    have h:=ec
    try dsimp only at h
    exact wp_exit (xThen (xThen (xHit (leafT (⟨Option.some.inj h,S.fix [1] [0,3] (by decide) d d d⟩)))))
   refine sCondT S d bV (wp_skip (leafT (dp _ _ ?_)))
   refine sSeq (fun f9 dt=>wp_block ?_)
   refine sSeq (fun fa du=>?_)
   obtain ⟨bJ,dv,h⟩:=bS h
   obtain ⟨bE,dw,h⟩:=bS h
   obtain ⟨bG,dx,h⟩:=bS h
   obtain ⟨dy,cd,S⟩:=pIdx (P:=Try.prog) (r:=(rI .i64)) (v:=.slice aC aA.1.length aG) (xs:=aA.1) (j:=bt) 34 3 0 S Try.underlying34 d d dv
   obtain ⟨ce,S⟩:=pLoad (r:=(rI .i64)) (q:=dy) (x:=bJ) 0 S d
   obtain rfl:ce=iv bJ:=S.mem.know (i:=1) (e:=fRep (rI .i64) (ce) bJ) d
   obtain ⟨bW,cf,S⟩:=pIdx (P:=Try.prog) (r:=(rI .i64)) (v:=.slice aS p0.Right.length aT) (xs:=p0.Right) (j:=bt) 34 3 5 S Try.underlying34 d d dw
   obtain ⟨cg,S⟩:=pLoad (r:=(rI .i64)) (q:=bW) (x:=bE) 0 S d
   obtain rfl:cg=iv bE:=S.mem.know (i:=1) (e:=fRep (rI .i64) (cg) bE) d
   obtain ⟨bX,ci,S⟩:=pIdx (P:=Try.prog) (r:=(rI .i64)) (v:=.slice aO p0.Left.length aP) (xs:=p0.Left) (j:=bt) 34 3 7 S Try.underlying34 d d dx
   obtain ⟨cj,S⟩:=pLoad (r:=(rI .i64)) (q:=bX) (x:=bG) 0 S d
   obtain rfl:cj=iv bG:=S.mem.know (i:=1) (e:=fRep (rI .i64) (cj) bG) d
   refine sDraw (nf:=[]) (W:=[(0,78,.slice aC aA.1.length aG),(1,79,iv bt),(2,80,dy),(3,81,iv bJ),(4,82,.pointer (some ⟨ba,1,none⟩)),(5,83,.slice aS p0.Right.length aT),(6,84,iv bt),(7,85,bW),(8,86,iv bE),(9,87,.pointer (some ⟨ba,0,none⟩)),(10,88,.slice aO p0.Left.length aP),(11,89,iv bt),(12,90,bX),(13,91,iv bG),(14,92,iv (w64 (bE - bG))),(15,93,.bool (bJ != (w64 (bE - bG))))]) d S ?_
   refine node_by (A:=anc_raddletop_knit39_1) 16 (by kernel_rfl) (by kernel_rfl) (by kernel_rfl) (by kernel_rfl) (by kernel_rfl) [0,1,2,3,4,5,6,7,8,9,10,11,12,13,14,15] (by kernel_rfl) (by decide) (by decide) (fF ?_ (fF ?_ (fF ?_ (fF ?_ (fF ?_ (fF ?_ (fF ?_ (fF ?_ (fF ?_ (fF ?_ (fF ?_ (fF ?_ (fF ?_ (fF ?_ (fF ?_ (fF ?_ (trivial))))))))))))))))) [(1,iv p1),(2,.pointer (some ⟨ba,0,none⟩)),(5,.pointer (some ⟨aJ,0,none⟩)),(7,.slice aC aA.1.length aG),(11,iv bt),(93,.bool (bJ != (w64 (bE - bG))))] (fin_of [none,none,none,none,none,some 15] d (by kernel_rfl) (by kernel_rfl)) (fun _ a w S=>?_)
   ·exact fM 0 none d d d d (.inl d) d d d
   ·exact fM 1 none d d d d (.inl d) d d d
   ·refine fJ [(78,_),(79,_)] 2 [some 0,some 1] fun G a w S=>?_
    exact sIdxV S (wN d) d d d cd d (lb d) fun a S=>leafL ⟨d,S⟩
   ·refine fJ [(80,_)] 3 [some 2] fun G a w S=>?_
    exact sLoadV1 (vq:=dy) 6 (iv bJ) S (wN d) d d d d d (lb d) fun a S=>leafL ⟨d,S⟩
   ·refine fJ [(2,_)] 4 [none] fun G a w S=>?_
    exact sField (b:=ba) (off:=0) 1 1 S (wN d) d d d d d (lb d) fun a S=>leafL ⟨d,S⟩
   ·refine fJ [(82,_)] 5 [some 4] fun G a w S=>?_
    exact sLoad1 0 (.slice aS p0.Right.length aT) S (wN d) d d d d d d (lb d) fun a S=>leafL ⟨d,S⟩
   ·exact fM 6 none d d d d (.inl d) d d d
   ·refine fJ [(83,_),(84,_)] 7 [some 5,some 6] fun G a w S=>?_
    exact sIdxV S (wN d) d d d cf d (lb d) fun a S=>leafL ⟨d,S⟩
   ·refine fJ [(85,_)] 8 [some 7] fun G a w S=>?_
    exact sLoadV1 (vq:=bW) 3 (iv bE) S (wN d) d d d d d (lb d) fun a S=>leafL ⟨d,S⟩
   ·refine fJ [(2,_)] 9 [none] fun G a w S=>?_
    exact sField (b:=ba) (off:=0) 0 0 S (wN d) d d d d d (lb d) fun a S=>leafL ⟨d,S⟩
   ·refine fJ [(87,_)] 10 [some 9] fun G a w S=>?_
    exact sLoad1 0 (.slice aO p0.Left.length aP) S (wN d) d d d d d d (lb d) fun a S=>leafL ⟨d,S⟩
   ·exact fM 11 none d d d d (.inl d) d d d
   ·refine fJ [(88,_),(89,_)] 12 [some 10,some 11] fun G a w S=>?_
    exact sIdxV S (wN d) d d d ci d (lb d) fun a S=>leafL ⟨d,S⟩
   ·refine fJ [(90,_)] 13 [some 12] fun G a w S=>?_
    exact sLoadV1 (vq:=bX) 0 (iv bG) S (wN d) d d d d d (lb d) fun a S=>leafL ⟨d,S⟩
   ·refine fJ [(86,_),(91,_)] 14 [some 8,some 13] fun G a w S=>?_
    exact sBin _ S (wN d) d d d (bSub _ _ _ _ bE bG) d (lb d) fun a S=>leafL ⟨d,S⟩
   ·refine fJ [(81,_),(92,_)] 15 [some 3,some 14] fun G a w S=>?_
    exact sBin _ S (wN d) d d d (bNe _ _ _ _ .i64 bJ (w64 (bE - bG))) d (lb d) fun a S=>leafL ⟨d,S⟩
   refine leafT (du _ _ ?_)
   rcases iS h with ⟨bu,h⟩ | ⟨bu,h⟩
   rotate_left
   ·refine sCondF S d bu (wp_skip (leafB (leafT (dt _ _ ?_))))
    refine sRegion (sM S fun a S=>?_)
    refine sBin _ S (wN d) d d d (bAdd _ _ _ _ bt 1) d (lb d) fun a S=>sN S fun a S=>?_
    exact lT (⟨w64 (bt + 1),(Option.some.inj h).symm,(S.fix [0,1] [9,10,11,12] (by decide) d d d)⟩)
   refine sCondT S d bu (sSeq (fun eo ck=>sRegion (sN S fun a S=>?_)))
   refine lT (ck _ _ ?_)
   obtain rfl:=tS h
   obtain rfl:=cc _ d
   have h:=ec
   try dsimp only at h
   obtain rfl:=tS h
   have h:=e9
   try dsimp only at h
   obtain rfl:=tS h
   exact wp_ret (rBlock (rThen (rThen (rBlock (rThen (sRet (.bool false) S (rsl1 d (rvT (t:=4) (v:=.bool false) S d)) ⟨(),d,S.mem.sel [] [] (by decide) d d⟩))))))
  obtain ⟨rfl,S⟩:=hI
  have h:=e9
  try dsimp only at h
  refine sSeq (fun ep cl=>sRegion (sM S fun a S=>?_))
  refine sM S fun a S=>?_
  refine sLen S (wN d) d Try.underlying34 d d (lb d) fun a S=>sBin _ S (wN d) d d d (bSub _ _ _ _ (aA.1.length:Int) 1) d (lb d) fun a S=>?_
  obtain ⟨ap,cm,h⟩:=bS h
  obtain ⟨cn,co,S⟩:=pIdx (P:=Try.prog) (r:=(rI .i64)) (v:=.slice aC aA.1.length aG) (xs:=aA.1) (j:=w64 ((aA.1.length:Int) - 1)) 34 3 0 S Try.underlying34 d d cm
  refine sIdxV S (wN d) d d d co d (lb d) fun a S=>?_
  obtain ⟨cp,S⟩:=pLoad (r:=(rI .i64)) (q:=cn) (x:=ap) 0 S d
  obtain rfl:cp=iv ap:=S.mem.know (i:=1) (e:=fRep (rI .i64) (cp) ap) d
  refine sLoadV1 (vq:=cn) 0 (iv ap) S (wN d) d d d d d (lb d) fun a S=>sN S fun a S=>?_
  refine lT (cl _ _ (sSeq (fun eq cq=>sRegion (sM S fun a S=>?_))))
  refine sM S fun a S=>?_
  refine sM S fun a S=>?_
  refine sMin2 (p:=p1) (q:=ap) S (wN d) d d d d (lb d) fun a S=>?_
  obtain ⟨ah,cr,h⟩:=bS h
  refine sCall (X:=Value) (f:=29) (vs:=[iv ap,iv (if ap < p1 then ap else p1)]) (val:=c_short_Turns_val ah) (B':=fun _=>[]) (D':=c_short_Turns_D ah) [] [eBox aJ 49 [iv ab.1.Start,.slice ac ab.1.Rows.length ae]] [] [0] [] S (wN d) d callee29 d (by decide) d d (fun E1 w1 S1=>c_short_Turns E1 w1 ap (if ap < p1 then ap else p1) ah cr S1) d (lb d) fun dz a w S=>?_
  obtain ⟨am,ao,_,rfl,_⟩:=S.mem.know (i:=0) (e:=fRep (rL (rI .i64)) (dz) ah.1) d
  refine sM S fun a S=>?_
  refine sExtract (vs:=[.slice am ah.1.length ao,iv ah.2]) (.slice am ah.1.length ao) S (wN d) d d d d (lb d) fun a S=>sExtract (vs:=[.slice am ah.1.length ao,iv ah.2]) (iv ah.2) S (wN d) d d d d (lb d) fun a S=>sN S fun a S=>?_
  refine sN S fun a S=>?_
  refine lT (cq _ _ (sSeq (fun ev ct=>sRegion (sM S fun a S=>?_))))
  refine sM S fun a S=>?_
  obtain ⟨a9,cu,h⟩:=bS h
  refine sCall (X:=Value) (f:=30) (vs:=[iv ap,.slice am ah.1.length ao]) (val:=c_short_Chart_val a9) (B':=fun _=>[]) (D':=c_short_Chart_D a9) [] [eBox aJ 49 [iv ab.1.Start,.slice ac ab.1.Rows.length ae]] [fRep (rL (rI .i64)) (.slice am ah.1.length ao) ah.1] [0] [0] S (wN d) d callee30 d (by decide) d d (fun E1 w1 S1=>c_short_Chart E1 w1 ap ah.1 (.slice am ah.1.length ao) a9 cu S1) d (lb d) fun dA a w S=>?_
  obtain ⟨dB,rfl,bK⟩:=S.mem.know (i:=0) (e:=fRep r_api_Chart (dA) a9.1) d
  have S:=S.learn (fRep (rL r_api_Row) dB a9.1.Rows) bK
  obtain ⟨af,ag,_,rfl,_⟩:=bK
  refine sM S fun a S=>?_
  refine sExtract (vs:=[.agg #[iv a9.1.Start,.slice af a9.1.Rows.length ag],iv a9.2]) (.agg #[iv a9.1.Start,.slice af a9.1.Rows.length ag]) S (wN d) d d d d (lb d) fun a S=>sExtract (vs:=[.agg #[iv a9.1.Start,.slice af a9.1.Rows.length ag],iv a9.2]) (iv a9.2) S (wN d) d d d d (lb d) fun a S=>sAlloc (.agg #[iv 0,.slice none 0 0]) S (wN d) d d [iv 0,.slice none 0 0] d d (lb d) fun a aK w S=>sStore (p:=aK) (off:=0) (T:=49) (vs:=[iv 0,.slice none 0 0]) (v:=.agg #[iv a9.1.Start,.slice af a9.1.Rows.length ag]) 0 [iv a9.1.Start,.slice af a9.1.Rows.length ag] S (wN d) d d d d d d d (by simp) d fun a w S=>sN S fun a S=>?_
  refine lT (ct _ _ (sSeq (fun ex cv=>sRegion (sM S fun a S=>?_))))
  refine sM S fun a S=>?_
  obtain ⟨aI,cw,h⟩:=bS h
  refine sCall (X:=Value) (f:=31) (vs:=[iv ap,.slice am ah.1.length ao]) (val:=c_short_Heights_val aI) (B':=fun _=>[]) (D':=c_short_Heights_D aI) [] [eBox aK 49 [iv a9.1.Start,.slice af a9.1.Rows.length ag],eBox aJ 49 [iv ab.1.Start,.slice ac ab.1.Rows.length ae]] [fRep (rL (rI .i64)) (.slice am ah.1.length ao) ah.1] [0,1] [2] S (wN d) d callee31 d (by decide) d d (fun E1 w1 S1=>c_short_Heights E1 w1 ap ah.1 (.slice am ah.1.length ao) aI cw S1) d (lb d) fun dC a w S=>?_
  obtain ⟨bi,bj,_,rfl,_⟩:=S.mem.know (i:=0) (e:=fRep (rL (rI .i64)) (dC) aI.1) d
  refine sM S fun a S=>?_
  refine sExtract (vs:=[.slice bi aI.1.length bj,iv aI.2]) (.slice bi aI.1.length bj) S (wN d) d d d d (lb d) fun a S=>sExtract (vs:=[.slice bi aI.1.length bj,iv aI.2]) (iv aI.2) S (wN d) d d d d (lb d) fun a S=>sN S fun a S=>?_
  refine sN S fun a S=>?_
  refine lT (cv _ _ (sSeq (fun ey cx=>?_)))
  obtain ⟨dD,h,dE⟩:=bS h
  refine sCut (fun a w=>∃ bY,bY=dD∧St [] E [] w0 226 a w [(5,.pointer (some ⟨aJ,0,none⟩)),(7,.slice aC aA.1.length aG),(12,iv ap),(13,.slice am ah.1.length ao),(15,.pointer (some ⟨aK,0,none⟩)),(135,.bool bY)] [eBox aJ 49 [iv ab.1.Start,.slice ac ab.1.Rows.length ae],eBox aK 49 [iv a9.1.Start,.slice af a9.1.Rows.length ag]] [fRep (rL (rI .i64)) (.slice aC aA.1.length aG) aA.1,fRep (rL (rI .i64)) (.slice am ah.1.length ao) ah.1,fRep (rL r_api_Row) (.slice ac ab.1.Rows.length ae) ab.1.Rows,fRep (rL r_api_Row) (.slice af a9.1.Rows.length ag) a9.1.Rows]) ?_ (fun a w hI=>?_)
  ·refine sRegion (sM S fun a S=>?_)
   refine sBin _ S (wN d) d d d (bNe _ _ _ _ .i64 ah.2 0) d (lb d) fun a S=>sM S fun a S=>?_
   rcases iS h with ⟨bb,h⟩ | ⟨bb,h⟩
   ·refine sSkN 2 2 false 122 S d d bb d fun a S=>sPickT (.bool true) S (wN d) d d bb d d (lb d) fun a S=>sM S fun a S=>?_
    refine sSkN 2 6 false 126 S d d d d fun a S=>sPickT (.bool true) S (wN d) d d d d d (lb d) fun a S=>sM S fun a S=>?_
    refine sSkN 4 10 false 130 S d d d d fun a S=>sPickT (.bool true) S (wN d) d d d d d (lb d) fun a S=>?_
    exact lT (⟨true,Option.some.inj h,S.fix [1,0] [7,3,8,1] (by decide) d d d⟩)
   refine sMove (iv a9.2) S (wG 2 false 122 d d d bb) (.inl d) d d (lb d) fun a S=>sBin _ S (wG 2 false 122 d d d bb) d d d (bNe _ _ _ _ .i64 a9.2 0) d (lb d) fun a S=>sPickF (.bool (a9.2 != 0)) S (wN d) d d bb d d (lb d) fun a S=>sM S fun a S=>?_
   rcases iS h with ⟨bc,h⟩ | ⟨bc,h⟩
   ·refine sSkN 2 6 false 126 S d d bc d fun a S=>sPickT (.bool true) S (wN d) d d bc d d (lb d) fun a S=>sM S fun a S=>?_
    refine sSkN 4 10 false 130 S d d d d fun a S=>sPickT (.bool true) S (wN d) d d d d d (lb d) fun a S=>?_
    exact lT (⟨true,Option.some.inj h,S.fix [1,0] [7,3,8,1] (by decide) d d d⟩)
   refine sMove (iv aI.2) S (wG 6 false 126 d d d bc) (.inl d) d d (lb d) fun a S=>sBin _ S (wG 6 false 126 d d d bc) d d d (bNe _ _ _ _ .i64 aI.2 0) d (lb d) fun a S=>sPickF (.bool (aI.2 != 0)) S (wN d) d d bc d d (lb d) fun a S=>sM S fun a S=>?_
   rcases iS h with ⟨aR,h⟩ | ⟨aR,h⟩
   ·refine sSkN 4 10 false 130 S d d aR d fun a S=>sPickT (.bool true) S (wN d) d d aR d d (lb d) fun a S=>?_
    exact lT (⟨true,Option.some.inj h,S.fix [1,0] [7,3,8,1] (by decide) d d d⟩)
   refine sMove (.slice bi aI.1.length bj) S (wG 10 false 130 d d d aR) (.inl d) d d (lb d) fun a S=>sLen S (wG 10 false 130 d d d aR) d Try.underlying34 d d (lb d) fun a S=>sMove (iv ap) S (wG 10 false 130 d d d aR) (.inl d) d d (lb d) fun a S=>sBin _ S (wG 10 false 130 d d d aR) d d d (bNe _ _ _ _ .i64 (aI.1.length:Int) ap) d (lb d) fun a S=>sPickF (.bool ((aI.1.length:Int) != ap)) S (wN d) d d aR d d (lb d) fun a S=>?_
   exact lT (⟨(aI.1.length:Int) != ap,Option.some.inj h,S.fix [1,0] [7,3,8,1] (by decide) d d d⟩)
  obtain ⟨bY,rfl,S⟩:=hI
  have h:=dE
  try dsimp only at h
  rcases iS h with ⟨bv,h⟩ | ⟨bv,h⟩
  ·refine sCondT S d bv (sSeq (fun ez cy=>sRegion (sN S fun a S=>?_)))
   refine lT (cy _ _ ?_)
   obtain rfl:=tS h
   exact wp_ret (rThen (sRet (.bool false) S (rsl1 d (rvT (t:=4) (v:=.bool false) S d)) ⟨(),d,S.mem.sel [] [] (by decide) d d⟩))
  refine sCondF S d bv (wp_skip (leafT (cx _ _ ?_)))
  refine sSeq (fun eA cz=>sRegion (sLoadN (p:=aJ) (off:=0) (T:=49) (vs:=[iv ab.1.Start,.slice ac ab.1.Rows.length ae]) 0 [iv ab.1.Start,.slice ac ab.1.Rows.length ae] S (wN d) d d d d d d d (lb d) fun a S=>sLoadN (p:=aK) (off:=0) (T:=49) (vs:=[iv a9.1.Start,.slice af a9.1.Rows.length ag]) 1 [iv a9.1.Start,.slice af a9.1.Rows.length ag] S (wN d) d d d d d d d (lb d) fun a S=>?_))
  obtain ⟨aa,cA,h⟩:=bS h
  have S:=S.learn (fRep r_api_Chart (.agg #[iv ab.1.Start,.slice ac ab.1.Rows.length ae]) ab.1) ⟨_,d,S.mem.know (i:=2) (e:=fRep (rL r_api_Row) (.slice ac ab.1.Rows.length ae) ab.1.Rows) d⟩
  have S:=S.learn (fRep r_api_Chart (.agg #[iv a9.1.Start,.slice af a9.1.Rows.length ag]) a9.1) ⟨_,d,S.mem.know (i:=4) (e:=fRep (rL r_api_Row) (.slice af a9.1.Rows.length ag) a9.1.Rows) d⟩
  refine sCall (X:=Value) (f:=32) (vs:=[.agg #[iv ab.1.Start,.slice ac ab.1.Rows.length ae],.agg #[iv a9.1.Start,.slice af a9.1.Rows.length ag]]) (val:=c_chart_Join_val aa) (B':=fun _=>[]) (D':=c_chart_Join_D aa) [] [eBox aJ 49 [iv ab.1.Start,.slice ac ab.1.Rows.length ae],eBox aK 49 [iv a9.1.Start,.slice af a9.1.Rows.length ag]] [fRep r_api_Chart (.agg #[iv ab.1.Start,.slice ac ab.1.Rows.length ae]) ab.1,fRep r_api_Chart (.agg #[iv a9.1.Start,.slice af a9.1.Rows.length ag]) a9.1] [0,1] [1,0] S (wN d) d callee32 d (by decide) d d (fun E1 w1 S1=>c_chart_Join E1 w1 ab.1 (.agg #[iv ab.1.Start,.slice ac ab.1.Rows.length ae]) a9.1 (.agg #[iv a9.1.Start,.slice af a9.1.Rows.length ag]) aa cA S1) d (lb d) fun dG a w S=>?_
  obtain ⟨dH,rfl,bL⟩:=S.mem.know (i:=0) (e:=fRep r_api_Chart (dG) aa.1) d
  have S:=S.learn (fRep (rL r_api_Row) dH aa.1.Rows) bL
  obtain ⟨ak,al,_,rfl,_⟩:=bL
  refine sM S fun a S=>?_
  refine sExtract (vs:=[.agg #[iv aa.1.Start,.slice ak aa.1.Rows.length al],iv aa.2]) (.agg #[iv aa.1.Start,.slice ak aa.1.Rows.length al]) S (wN d) d d d d (lb d) fun a S=>sExtract (vs:=[.agg #[iv aa.1.Start,.slice ak aa.1.Rows.length al],iv aa.2]) (iv aa.2) S (wN d) d d d d (lb d) fun a S=>sAlloc (.agg #[iv 0,.slice none 0 0]) S (wN d) d d [iv 0,.slice none 0 0] d d (lb d) fun a aQ w S=>sStore (p:=aQ) (off:=0) (T:=49) (vs:=[iv 0,.slice none 0 0]) (v:=.agg #[iv aa.1.Start,.slice ak aa.1.Rows.length al]) 0 [iv aa.1.Start,.slice ak aa.1.Rows.length al] S (wN d) d d d d d d d (by simp) d fun a w S=>sN S fun a S=>?_
  refine lT (cz _ _ (sSeq (fun eB cB=>sSeq (fun eC cC=>sRegion (sField (b:=aJ) (off:=0) 1 1 S (wN d) d d d d d (lb d) fun a S=>sLoad1 1 (.slice ac ab.1.Rows.length ae) S (wN d) d d d d d d (lb d) fun a S=>sLen S (wN d) d Try.underlying47 d d (lb d) fun a S=>sM S fun a S=>?_)))))
  refine sLen S (wN d) d Try.underlying34 d d (lb d) fun a S=>sBin _ S (wN d) d d d (bMul _ _ _ _ 2 (ah.1.length:Int)) d (lb d) fun a S=>sBin _ S (wN d) d d d (bAdd _ _ _ _ (ab.1.Rows.length:Int) (w64 (2 * (ah.1.length:Int)))) d (lb d) fun a S=>sBin _ S (wN d) d d d (bGt _ _ _ _ .i64 (w64 ((ab.1.Rows.length:Int) + (w64 (2 * (ah.1.length:Int))))) 100) d (lb d) fun a S=>lT (cC _ _ ?_)
  rcases iS h with ⟨bw,h⟩ | ⟨bw,h⟩
  ·refine sCondT S d bw (sSeq (fun eD cD=>sRegion (sM S fun a S=>?_)))
   refine sBin _ S (wN d) d d d (bEq _ _ _ _ .i64 aa.2 4) d (lb d) fun a S=>sN S fun a S=>?_
   refine lT (cD _ _ ?_)
   obtain rfl:=tS h
   exact wp_ret (rThen (sRet (.bool (aa.2 == 4)) S (rsl1 d (rvT (t:=4) (v:=.bool (aa.2 == 4)) S d)) ⟨(),d,S.mem.sel [] [] (by decide) d d⟩))
  refine sCondF S d bw (wp_skip (leafT (cB _ _ ?_)))
  refine sSeq (fun eE cE=>sRegion (sLoadN (p:=aQ) (off:=0) (T:=49) (vs:=[iv aa.1.Start,.slice ak aa.1.Rows.length al]) 0 [iv aa.1.Start,.slice ak aa.1.Rows.length al] S (wN d) d d d d d d d (lb d) fun a S=>?_))
  obtain ⟨aq,cF,h⟩:=bS h
  refine sCall (X:=Value) (f:=16) (vs:=[.agg #[iv aa.1.Start,.slice ak aa.1.Rows.length al]]) (val:=c_chart_Counts_val aq) (B':=fun _=>[]) (D':=c_chart_Counts_D aq) [] [eBox aQ 49 [iv aa.1.Start,.slice ak aa.1.Rows.length al],eBox aJ 49 [iv ab.1.Start,.slice ac ab.1.Rows.length ae],eBox aK 49 [iv a9.1.Start,.slice af a9.1.Rows.length ag]] [fRep r_api_Chart (.agg #[iv aa.1.Start,.slice ak aa.1.Rows.length al]) aa.1] [0,1,2] [1] S (wN d) d callee16 d (by decide) d d (fun E1 w1 S1=>c_chart_Counts E1 w1 aa.1 (.agg #[iv aa.1.Start,.slice ak aa.1.Rows.length al]) aq cF S1) d (lb d) fun dI a w S=>?_
  obtain ⟨aL,aM,_,rfl,_⟩:=S.mem.know (i:=0) (e:=fRep (rL (rI .i64)) (dI) aq.1) d
  refine sM S fun a S=>?_
  refine sExtract (vs:=[.slice aL aq.1.length aM,iv aq.2]) (.slice aL aq.1.length aM) S (wN d) d d d d (lb d) fun a S=>sExtract (vs:=[.slice aL aq.1.length aM,iv aq.2]) (iv aq.2) S (wN d) d d d d (lb d) fun a S=>sN S fun a S=>?_
  refine sN S fun a S=>?_
  refine lT (cE _ _ (sSeq (fun eF cG=>?_)))
  obtain ⟨dJ,h,dK⟩:=bS h
  refine sCut (fun a w=>∃ bZ,bZ=dJ∧St [] E [] w0 226 a w [(5,.pointer (some ⟨aJ,0,none⟩)),(7,.slice aC aA.1.length aG),(12,iv ap),(13,.slice am ah.1.length ao),(15,.pointer (some ⟨aK,0,none⟩)),(19,.pointer (some ⟨aQ,0,none⟩)),(21,.slice aL aq.1.length aM),(173,.bool bZ)] [eBox aJ 49 [iv ab.1.Start,.slice ac ab.1.Rows.length ae],eBox aK 49 [iv a9.1.Start,.slice af a9.1.Rows.length ag],eBox aQ 49 [iv aa.1.Start,.slice ak aa.1.Rows.length al]] [fRep (rL (rI .i64)) (.slice aC aA.1.length aG) aA.1,fRep (rL (rI .i64)) (.slice am ah.1.length ao) ah.1,fRep (rL (rI .i64)) (.slice aL aq.1.length aM) aq.1,fRep (rL r_api_Row) (.slice ac ab.1.Rows.length ae) ab.1.Rows,fRep (rL r_api_Row) (.slice af a9.1.Rows.length ag) a9.1.Rows,fRep (rL r_api_Row) (.slice ak aa.1.Rows.length al) aa.1.Rows]) ?_ (fun a w hI=>?_)
  ·refine sRegion (sM S fun a S=>?_)
   refine sBin _ S (wN d) d d d (bNe _ _ _ _ .i64 aa.2 0) d (lb d) fun a S=>sM S fun a S=>?_
   rcases iS h with ⟨bf,h⟩ | ⟨bf,h⟩
   ·refine sSkN 2 2 false 159 S d d bf d fun a S=>sPickT (.bool true) S (wN d) d d bf d d (lb d) fun a S=>sM S fun a S=>?_
    refine sSkN 9 6 false 163 S d d d d fun a S=>sPickT (.bool true) S (wN d) d d d d d (lb d) fun a S=>?_
    exact lT (⟨true,Option.some.inj h,S.fix [1,2,0] [5,6,0,7,8,1] (by decide) d d d⟩)
   refine sMove (iv aq.2) S (wG 2 false 159 d d d bf) (.inl d) d d (lb d) fun a S=>sBin _ S (wG 2 false 159 d d d bf) d d d (bNe _ _ _ _ .i64 aq.2 0) d (lb d) fun a S=>sPickF (.bool (aq.2 != 0)) S (wN d) d d bf d d (lb d) fun a S=>sM S fun a S=>?_
   rcases iS h with ⟨aH,h⟩ | ⟨aH,h⟩
   ·refine sSkN 9 6 false 163 S d d aH d fun a S=>sPickT (.bool true) S (wN d) d d aH d d (lb d) fun a S=>?_
    exact lT (⟨true,Option.some.inj h,S.fix [1,2,0] [5,6,0,7,8,1] (by decide) d d d⟩)
   refine sMove (.slice aL aq.1.length aM) S (wG 6 false 163 d d d aH) (.inl d) d d (lb d) fun a S=>sLen S (wG 6 false 163 d d d aH) d Try.underlying34 d d (lb d) fun a S=>sMove (.slice aC aA.1.length aG) S (wG 6 false 163 d d d aH) (.inl d) d d (lb d) fun a S=>sLen S (wG 6 false 163 d d d aH) d Try.underlying34 d d (lb d) fun a S=>sMove (.slice am ah.1.length ao) S (wG 6 false 163 d d d aH) (.inl d) d d (lb d) fun a S=>sLen S (wG 6 false 163 d d d aH) d Try.underlying34 d d (lb d) fun a S=>sBin _ S (wG 6 false 163 d d d aH) d d d (bMul _ _ _ _ 2 (ah.1.length:Int)) d (lb d) fun a S=>sBin _ S (wG 6 false 163 d d d aH) d d d (bAdd _ _ _ _ (aA.1.length:Int) (w64 (2 * (ah.1.length:Int)))) d (lb d) fun a S=>sBin _ S (wG 6 false 163 d d d aH) d d d (bNe _ _ _ _ .i64 (aq.1.length:Int) (w64 ((aA.1.length:Int) + (w64 (2 * (ah.1.length:Int)))))) d (lb d) fun a S=>sPickF (.bool ((aq.1.length:Int) != (w64 ((aA.1.length:Int) + (w64 (2 * (ah.1.length:Int))))))) S (wN d) d d aH d d (lb d) fun a S=>?_
   exact lT (⟨(aq.1.length:Int) != (w64 ((aA.1.length:Int) + (w64 (2 * (ah.1.length:Int))))),Option.some.inj h,S.fix [1,2,0] [5,6,0,7,8,1] (by decide) d d d⟩)
  obtain ⟨bZ,rfl,S⟩:=hI
  have h:=dK
  try dsimp only at h
  rcases iS h with ⟨bx,h⟩ | ⟨bx,h⟩
  ·refine sCondT S d bx (sSeq (fun eG cH=>sRegion (sN S fun a S=>?_)))
   refine lT (cH _ _ ?_)
   obtain rfl:=tS h
   exact wp_ret (rThen (sRet (.bool false) S (rsl1 d (rvT (t:=4) (v:=.bool false) S d)) ⟨(),d,S.mem.sel [] [] (by decide) d d⟩))
  refine sCondF S d bx (wp_skip (leafT (cG _ _ ?_)))
  obtain ⟨dM,h,cI⟩:=bS h
  refine sCut (fun a w=>.inl ()=dM∧St [] E [] w0 226 a w [(5,.pointer (some ⟨aJ,0,none⟩)),(12,iv ap),(13,.slice am ah.1.length ao),(15,.pointer (some ⟨aK,0,none⟩)),(19,.pointer (some ⟨aQ,0,none⟩))] [eBox aJ 49 [iv ab.1.Start,.slice ac ab.1.Rows.length ae],eBox aK 49 [iv a9.1.Start,.slice af a9.1.Rows.length ag],eBox aQ 49 [iv aa.1.Start,.slice ak aa.1.Rows.length al]] [fRep (rL (rI .i64)) (.slice am ah.1.length ao) ah.1,fRep (rL r_api_Row) (.slice ac ab.1.Rows.length ae) ab.1.Rows,fRep (rL r_api_Row) (.slice af a9.1.Rows.length ag) a9.1.Rows,fRep (rL r_api_Row) (.slice ak aa.1.Rows.length al) aa.1.Rows]) ?_ (fun a w hI=>?_)
  ·refine sSeq (fun eH cJ=>sRegion (sM S fun a S=>?_))
   refine sLen S (wN d) d Try.underlying34 d d (lb d) fun a S=>sN S fun a S=>?_
   refine lT (cJ _ _ (wp_block ?_))
   obtain ⟨eI,hl,cK⟩:=bS h
   refine sLoop hl (fun s0 a w=>match s0 with | bq=>St [] E [] w0 226 a w [(5,.pointer (some ⟨aJ,0,none⟩)),(12,iv ap),(13,.slice am ah.1.length ao),(15,.pointer (some ⟨aK,0,none⟩)),(19,.pointer (some ⟨aQ,0,none⟩)),(21,.slice aL aq.1.length aM),(23,iv bq)] [eBox aJ 49 [iv ab.1.Start,.slice ac ab.1.Rows.length ae],eBox aK 49 [iv a9.1.Start,.slice af a9.1.Rows.length ag],eBox aQ 49 [iv aa.1.Start,.slice ak aa.1.Rows.length al]] [fRep (rL (rI .i64)) (.slice am ah.1.length ao) ah.1,fRep (rL (rI .i64)) (.slice aL aq.1.length aM) aq.1,fRep (rL r_api_Row) (.slice ac ab.1.Rows.length ae) ab.1.Rows,fRep (rL r_api_Row) (.slice af a9.1.Rows.length ag) a9.1.Rows,fRep (rL r_api_Row) (.slice ak aa.1.Rows.length al) aa.1.Rows]) (S.fix [0,1,2] [1,2,3,4,5] (by decide) d d d) ?_
   clear hl h
   intro bq a w c0 hI h bM
   unfold raddletop_knit39_l2 at h
   dsimp only at h hI
   have S:=hI
   refine sSeq (fun eJ cL=>sSeq (fun eK cM=>sRegion (sM S fun a S=>?_)))
   refine sM S fun a S=>?_
   refine sLen S (wN d) d Try.underlying34 d d (lb d) fun a S=>sBin _ S (wN d) d d d (bLt _ _ _ _ .i64 bq (aq.1.length:Int)) d (lb d) fun a S=>lT (cM _ _ ?_)
   rcases iS h with ⟨bz,h⟩ | ⟨bz,h⟩
   rotate_left
   ·refine sCondF S d bz ?_
    obtain rfl:=tS h
    obtain rfl:=bM _ d
    have h:=cK
    try dsimp only at h
    exact wp_exit (xThen (xThen (xHit (leafT (⟨Option.some.inj h,S.fix [0,1,2] [0,2,3,4] (by decide) d d d⟩)))))
   refine sCondT S d bz (wp_skip (leafT (cL _ _ ?_)))
   refine sSeq (fun eL cN=>wp_block ?_)
   refine sSeq (fun eM cO=>sRegion (sM S fun a S=>?_))
   refine sM S fun a S=>?_
   obtain ⟨bA,cP,h⟩:=bS h
   obtain ⟨cQ,cR,S⟩:=pIdx (P:=Try.prog) (r:=(rI .i64)) (v:=.slice aL aq.1.length aM) (xs:=aq.1) (j:=bq) 34 3 1 S Try.underlying34 d d cP
   refine sIdxV S (wN d) d d d cR d (lb d) fun a S=>?_
   obtain ⟨cT,S⟩:=pLoad (r:=(rI .i64)) (q:=cQ) (x:=bA) 0 S d
   obtain rfl:cT=iv bA:=S.mem.know (i:=1) (e:=fRep (rI .i64) (cT) bA) d
   refine sLoadV1 (vq:=cQ) 0 (iv bA) S (wN d) d d d d d (lb d) fun a S=>sM S fun a S=>?_
   refine sBin _ S (wN d) d d d (bNe _ _ _ _ .i64 bA ap) d (lb d) fun a S=>lT (cO _ _ ?_)
   rcases iS h with ⟨bB,h⟩ | ⟨bB,h⟩
   rotate_left
   ·refine sCondF S d bB (wp_skip (leafB (leafT (cN _ _ ?_))))
    refine sRegion (sM S fun a S=>?_)
    refine sBin _ S (wN d) d d d (bAdd _ _ _ _ bq 1) d (lb d) fun a S=>sN S fun a S=>?_
    exact lT (⟨w64 (bq + 1),(Option.some.inj h).symm,(S.fix [0,1,2] [3,4,5,6,7] (by decide) d d d)⟩)
   refine sCondT S d bB (sSeq (fun eN cU=>sRegion (sN S fun a S=>?_)))
   refine lT (cU _ _ ?_)
   obtain rfl:=tS h
   obtain rfl:=bM _ d
   have h:=cK
   try dsimp only at h
   obtain rfl:=tS h
   have h:=cI
   try dsimp only at h
   obtain rfl:=tS h
   exact wp_ret (rBlock (rThen (rThen (rBlock (rThen (sRet (.bool false) S (rsl1 d (rvT (t:=4) (v:=.bool false) S d)) ⟨(),d,S.mem.sel [] [] (by decide) d d⟩))))))
  obtain ⟨rfl,S⟩:=hI
  have h:=cI
  try dsimp only at h
  refine sSeq (fun eO cV=>sRegion (sLoadN (p:=aQ) (off:=0) (T:=49) (vs:=[iv aa.1.Start,.slice ak aa.1.Rows.length al]) 2 [iv aa.1.Start,.slice ak aa.1.Rows.length al] S (wN d) d d d d d d d (lb d) fun a S=>sField (b:=aJ) (off:=0) 1 1 S (wN d) d d d d d (lb d) fun a S=>sLoad1 0 (.slice ac ab.1.Rows.length ae) S (wN d) d d d d d d (lb d) fun a S=>sLen S (wN d) d Try.underlying47 d d (lb d) fun a S=>sField (b:=aQ) (off:=0) 1 1 S (wN d) d d d d d (lb d) fun a S=>sLoad1 2 (.slice ak aa.1.Rows.length al) S (wN d) d d d d d d (lb d) fun a S=>sLen S (wN d) d Try.underlying47 d d (lb d) fun a S=>?_))
  obtain ⟨aj,cW,h⟩:=bS h
  have S:=S.learn (fRep r_api_Chart (.agg #[iv aa.1.Start,.slice ak aa.1.Rows.length al]) aa.1) ⟨_,d,S.mem.know (i:=3) (e:=fRep (rL r_api_Row) (.slice ak aa.1.Rows.length al) aa.1.Rows) d⟩
  refine sCall (X:=Value) (f:=33) (vs:=[.agg #[iv aa.1.Start,.slice ak aa.1.Rows.length al],iv (ab.1.Rows.length:Int),iv (aa.1.Rows.length:Int)]) (val:=c_chart_Part_val aj) (B':=fun _=>[]) (D':=c_chart_Part_D aj) [] [eBox aJ 49 [iv ab.1.Start,.slice ac ab.1.Rows.length ae],eBox aK 49 [iv a9.1.Start,.slice af a9.1.Rows.length ag],eBox aQ 49 [iv aa.1.Start,.slice ak aa.1.Rows.length al]] [fRep r_api_Chart (.agg #[iv aa.1.Start,.slice ak aa.1.Rows.length al]) aa.1] [0,1,2] [0] S (wN d) d callee33 d (by decide) d d (fun E1 w1 S1=>c_chart_Part E1 w1 aa.1 (.agg #[iv aa.1.Start,.slice ak aa.1.Rows.length al]) (ab.1.Rows.length:Int) (aa.1.Rows.length:Int) aj cW S1) d (lb d) fun dN a w S=>?_
  obtain ⟨dO,rfl,bN⟩:=S.mem.know (i:=0) (e:=fRep r_api_Chart (dN) aj.1) d
  have S:=S.learn (fRep (rL r_api_Row) dO aj.1.Rows) bN
  obtain ⟨ay,az,_,rfl,_⟩:=bN
  refine sM S fun a S=>?_
  refine sExtract (vs:=[.agg #[iv aj.1.Start,.slice ay aj.1.Rows.length az],iv aj.2]) (.agg #[iv aj.1.Start,.slice ay aj.1.Rows.length az]) S (wN d) d d d d (lb d) fun a S=>sExtract (vs:=[.agg #[iv aj.1.Start,.slice ay aj.1.Rows.length az],iv aj.2]) (iv aj.2) S (wN d) d d d d (lb d) fun a S=>sAlloc (.agg #[iv 0,.slice none 0 0]) S (wN d) d d [iv 0,.slice none 0 0] d d (lb d) fun a bH w S=>sStore (p:=bH) (off:=0) (T:=49) (vs:=[iv 0,.slice none 0 0]) (v:=.agg #[iv aj.1.Start,.slice ay aj.1.Rows.length az]) 0 [iv aj.1.Start,.slice ay aj.1.Rows.length az] S (wN d) d d d d d d d (by simp) d fun a w S=>sN S fun a S=>?_
  refine lT (cV _ _ (sSeq (fun eP cX=>sRegion (sLoadN (p:=bH) (off:=0) (T:=49) (vs:=[iv aj.1.Start,.slice ay aj.1.Rows.length az]) 0 [iv aj.1.Start,.slice ay aj.1.Rows.length az] S (wN d) d d d d d d d (lb d) fun a S=>?_))))
  obtain ⟨ar,cY,h⟩:=bS h
  refine sCall (X:=Value) (f:=34) (vs:=[.agg #[iv aj.1.Start,.slice ay aj.1.Rows.length az]]) (val:=c_short_Read_val ar) (B':=fun _=>[]) (D':=c_short_Read_D ar) [] [eBox bH 49 [iv aj.1.Start,.slice ay aj.1.Rows.length az],eBox aJ 49 [iv ab.1.Start,.slice ac ab.1.Rows.length ae],eBox aK 49 [iv a9.1.Start,.slice af a9.1.Rows.length ag],eBox aQ 49 [iv aa.1.Start,.slice ak aa.1.Rows.length al]] [fRep r_api_Chart (.agg #[iv aj.1.Start,.slice ay aj.1.Rows.length az]) aj.1] [0,1,2,3] [1] S (wN d) d callee34 d (by decide) d d (fun E1 w1 S1=>c_short_Read E1 w1 aj.1 (.agg #[iv aj.1.Start,.slice ay aj.1.Rows.length az]) ar cY S1) d (lb d) fun dP a w S=>?_
  obtain ⟨aU,aV,_,rfl,_⟩:=S.mem.know (i:=0) (e:=fRep (rL (rI .i64)) (dP) ar.2.1) d
  refine sM S fun a S=>?_
  refine sExtract (vs:=[iv ar.1,.slice aU ar.2.1.length aV,iv ar.2.2]) (iv ar.1) S (wN d) d d d d (lb d) fun a S=>sExtract (vs:=[iv ar.1,.slice aU ar.2.1.length aV,iv ar.2.2]) (.slice aU ar.2.1.length aV) S (wN d) d d d d (lb d) fun a S=>sExtract (vs:=[iv ar.1,.slice aU ar.2.1.length aV,iv ar.2.2]) (iv ar.2.2) S (wN d) d d d d (lb d) fun a S=>sN S fun a S=>?_
  refine sN S fun a S=>?_
  refine sN S fun a S=>?_
  refine lT (cX _ _ ?_)
  obtain ⟨dQ,h,dS⟩:=bS h
  refine sCut (fun a w=>∃ bC,bC=dQ∧St [] E [] w0 226 a w [(4,.bool bC)] [] []) ?_ (fun a w hI=>?_)
  rotate_left
  ·obtain ⟨bC,rfl,S⟩:=hI
   have h:=dS
   try dsimp only at h
   obtain rfl:=tS h
   exact wp_ret (sRet (.bool bC) S (rsl1 d (rvT (t:=4) (v:=.bool bC) S d)) ⟨(),d,S.mem.sel [] [] (by decide) d d⟩)
  refine sRegion (sM S fun a S=>?_)
  refine sBin _ S (wN d) d d d (bEq _ _ _ _ .i64 aj.2 0) d (lb d) fun a S=>sM S fun a S=>?_
  rcases iS h with ⟨bg,h⟩ | ⟨bg,h⟩
  rotate_left
  ·refine sSkN 2 2 true 207 S d d bg d fun a S=>sPickF (.bool false) S (wN d) d d bg d d (lb d) fun a S=>sM S fun a S=>?_
   refine sSkN 3 6 true 211 S d d d d fun a S=>sPickF (.bool false) S (wN d) d d d d d (lb d) fun a S=>sM S fun a S=>?_
   refine sSkN 3 11 true 216 S d d d d fun a S=>sPickF (.bool false) S (wN d) d d d d d (lb d) fun a S=>sM S fun a S=>?_
   refine sSkN 3 16 true 221 S d d d d fun a S=>sPickF (.bool false) S (wN d) d d d d d (lb d) fun a S=>sN S fun a S=>?_
   exact lT (⟨false,Option.some.inj h,S.fix [] [] (by decide) d d d⟩)
  refine sMove (iv ar.2.2) S (wG 2 true 207 d d d bg) (.inl d) d d (lb d) fun a S=>sBin _ S (wG 2 true 207 d d d bg) d d d (bEq _ _ _ _ .i64 ar.2.2 0) d (lb d) fun a S=>sPickT (.bool (ar.2.2 == 0)) S (wN d) d d bg d d (lb d) fun a S=>sM S fun a S=>?_
  rcases iS h with ⟨aW,h⟩ | ⟨aW,h⟩
  rotate_left
  ·refine sSkN 3 6 true 211 S d d aW d fun a S=>sPickF (.bool false) S (wN d) d d aW d d (lb d) fun a S=>sM S fun a S=>?_
   refine sSkN 3 11 true 216 S d d d d fun a S=>sPickF (.bool false) S (wN d) d d d d d (lb d) fun a S=>sM S fun a S=>?_
   refine sSkN 3 16 true 221 S d d d d fun a S=>sPickF (.bool false) S (wN d) d d d d d (lb d) fun a S=>sN S fun a S=>?_
   exact lT (⟨false,Option.some.inj h,S.fix [] [] (by decide) d d d⟩)
  refine sLoadN (p:=bH) (off:=0) (T:=49) (vs:=[iv aj.1.Start,.slice ay aj.1.Rows.length az]) 0 [iv aj.1.Start,.slice ay aj.1.Rows.length az] S (wG 6 true 211 d d d aW) d d d d d d d (lb d) fun a S=>sLoadN (p:=aK) (off:=0) (T:=49) (vs:=[iv a9.1.Start,.slice af a9.1.Rows.length ag]) 2 [iv a9.1.Start,.slice af a9.1.Rows.length ag] S (wG 6 true 211 d d d aW) d d d d d d d (lb d) fun a S=>?_
  obtain ⟨c6,cZ,h⟩:=bS h
  have S1:=S.mem
  have S1:=S1.learn (fRep r_api_Chart (.agg #[iv a9.1.Start,.slice af a9.1.Rows.length ag]) a9.1) ⟨_,d,S1.know (i:=6) (e:=fRep (rL r_api_Row) (.slice af a9.1.Rows.length ag) a9.1.Rows) d⟩
  refine sCallQ (X:=Unit) (f:=35) (vs:=[.agg #[iv aj.1.Start,.slice ay aj.1.Rows.length az],.agg #[iv a9.1.Start,.slice af a9.1.Rows.length ag]]) (val:=fun _=>.bool c6) S (wG 6 true 211 d d d aW) d callee35 d (S1.quiet [3,0] d) (fun E1 w1 S1=>c_raddleref26_Same E1 w1 aj.1 (.agg #[iv aj.1.Start,.slice ay aj.1.Rows.length az]) a9.1 (.agg #[iv a9.1.Start,.slice af a9.1.Rows.length ag]) c6 cZ S1) d (lb d) fun _ a w S=>?_
  refine sPickT (.bool c6) S (wN d) d d aW d d (lb d) fun a S=>sM S fun a S=>?_
  rcases iS h with ⟨aX,h⟩ | ⟨aX,h⟩
  rotate_left
  ·refine sSkN 3 11 true 216 S d d aX d fun a S=>sPickF (.bool false) S (wN d) d d aX d d (lb d) fun a S=>sM S fun a S=>?_
   refine sSkN 3 16 true 221 S d d d d fun a S=>sPickF (.bool false) S (wN d) d d d d d (lb d) fun a S=>sN S fun a S=>?_
   exact lT (⟨false,Option.some.inj h,S.fix [] [] (by decide) d d d⟩)
  refine sMove (iv ar.1) S (wG 11 true 216 d d d aX) (.inl d) d d (lb d) fun a S=>sMove (iv ap) S (wG 11 true 216 d d d aX) (.inl d) d d (lb d) fun a S=>sBin _ S (wG 11 true 216 d d d aX) d d d (bEq _ _ _ _ .i64 ar.1 ap) d (lb d) fun a S=>sPickT (.bool (ar.1 == ap)) S (wN d) d d aX d d (lb d) fun a S=>sM S fun a S=>?_
  rcases iS h with ⟨aZ,h⟩ | ⟨aZ,h⟩
  rotate_left
  ·refine sSkN 3 16 true 221 S d d aZ d fun a S=>sPickF (.bool false) S (wN d) d d aZ d d (lb d) fun a S=>sN S fun a S=>?_
   exact lT (⟨false,Option.some.inj h,S.fix [] [] (by decide) d d d⟩)
  refine sMove (.slice aU ar.2.1.length aV) S (wG 16 true 221 d d d aZ) (.inl d) d d (lb d) fun a S=>sMove (.slice am ah.1.length ao) S (wG 16 true 221 d d d aZ) (.inl d) d d (lb d) fun a S=>?_
  obtain ⟨bI,d5,h⟩:=bS h
  have S1:=S.mem
  refine sCallQ (X:=Unit) (f:=26) (vs:=[.slice aU ar.2.1.length aV,.slice am ah.1.length ao]) (val:=fun _=>.bool bI) S (wG 16 true 221 d d d aZ) d callee26 d (S1.quiet [0,4] d) (fun E1 w1 S1=>c_raddleref36_Same E1 w1 ar.2.1 (.slice aU ar.2.1.length aV) ah.1 (.slice am ah.1.length ao) bI d5 S1) d (lb d) fun _ a w S=>?_
  refine sPickT (.bool bI) S (wN d) d d aZ d d (lb d) fun a S=>sN S fun a S=>?_
  exact lT (⟨bI,Option.some.inj h,S.fix [] [] (by decide) d d d⟩)
 refine node_by (A:=anc_raddletop_knit39_0) 12 (by kernel_rfl) (by kernel_rfl) (by kernel_rfl) (by kernel_rfl) (by kernel_rfl) [0,1,2,3,4] (by kernel_rfl) (by decide) (by decide) (fF ?_ (fF ?_ (fF ?_ (fF ?_ (fF ?_ (fN ?_ (fE 5 (fE 5 (fE 5 (fN ?_ (aB 10 1 5 (by decide) (fE 5 (trivial))))))))))))) [] (fun q hq=>by cases hq) (fun hY=>absurd (hY 5 (by decide)) (by decide))
 ·refine fJ [(5,_)] 0 [none] fun G a w S=>?_
  exact sLoadN (p:=aJ) (off:=0) (T:=49) (vs:=[iv ab.1.Start,.slice ac ab.1.Rows.length ae]) 0 [iv ab.1.Start,.slice ac ab.1.Rows.length ae] S (wN d) d d d d d d d (lb d) fun a S=>leafL ⟨d,S⟩
 ·refine fJ [(2,_)] 1 [none] fun G a w S=>?_
  exact sField (b:=ba) (off:=0) 0 0 S (wN d) d d d d d (lb d) fun a S=>leafL ⟨d,S⟩
 ·refine fJ [(45,_)] 2 [some 1] fun G a w S=>?_
  exact sLoad1 1 (.slice aO p0.Left.length aP) S (wN d) d d d d d d (lb d) fun a S=>leafL ⟨d,S⟩
 ·refine fJ [(46,_)] 3 [some 2] fun G a w S=>?_
  exact sIdxV S (wN d) d d d ca d (lb d) fun a S=>leafL ⟨d,S⟩
 ·refine fJ [(47,_)] 4 [some 3] fun G a w S=>?_
  exact sLoadV1 (vq:=d8) 0 (iv br) S (wN d) d d d d d (lb d) fun a S=>leafL ⟨d,S⟩
 ·refine ⟨_,[(44,.agg #[iv ab.1.Start,.slice ac ab.1.Rows.length ae]),(48,iv br)],d,(srcs_of [some 0,some 4] d d d),fun G a w S=>?_⟩
  refine sCall (X:=Value) (f:=27) (vs:=[.agg #[iv ab.1.Start,.slice ac ab.1.Rows.length ae],iv br]) (val:=c_piece_Read_val ai) (B':=fun _=>[]) (D':=c_piece_Read_D ai) [] [eBox aJ 49 [iv ab.1.Start,.slice ac ab.1.Rows.length ae],eBox ba 36 [.slice aO p0.Left.length aP,.slice aS p0.Right.length aT]] [fRep r_api_Chart (.agg #[iv ab.1.Start,.slice ac ab.1.Rows.length ae]) ab.1] [0,1] [5] S (wN d) d callee27 d (by decide) d d (fun E1 w1 S1=>c_piece_Read E1 w1 ab.1 (.agg #[iv ab.1.Start,.slice ac ab.1.Rows.length ae]) br ai c9 S1) d (lb d) fun eQ a w S=>?_
  obtain ⟨eR,eS,rfl,d6,d7⟩:=S.mem.know (i:=0) (e:=fRep r_api_Piece (eQ) ai.1) d
  have S:=S.learn (fRep (rL (rI .i64)) eR ai.1.Left) d6
  obtain ⟨au,av,_,rfl,_⟩:=d6
  have S:=S.learn (fRep (rL (rI .i64)) eS ai.1.Right) d7
  obtain ⟨aw,ax,_,rfl,_⟩:=d7
  refine leafL ⟨d,_,_,.inl ⟨49,(.tuple #[.agg #[.slice au ai.1.Left.length av,.slice aw ai.1.Right.length ax],iv ai.2]),[(6,43,.tuple #[.agg #[.slice au ai.1.Left.length av,.slice aw ai.1.Right.length ax],iv ai.2]),(7,50,.agg #[.slice au ai.1.Left.length av,.slice aw ai.1.Right.length ax]),(8,51,iv ai.2)],d,S,hz_of d,?_⟩⟩
  refine node_by (A:=anc_raddletop_knit39_0) 12 (by kernel_rfl) (by kernel_rfl) (by kernel_rfl) (by kernel_rfl) (by kernel_rfl) [6,7,8,5,0,1,2,3,4] (by kernel_rfl) (by decide) (by decide) (fD 5 (fD 5 (fD 5 (fD 5 (fD 5 (fY (fF ?_ (fF ?_ (fF ?_ (fN ?_ (aB 10 1 9 (by decide) (fE 9 (trivial))))))))))))) [] (fun q hq=>by cases hq) (fun hY=>absurd (hY 9 (by decide)) (by decide))
  ·exact fM 0 (some 3) d d d d (.inl d) d d d
  ·refine fJ [(43,_)] 1 [some 0] fun G a w S=>?_
   exact sExtract (vs:=[.agg #[.slice au ai.1.Left.length av,.slice aw ai.1.Right.length ax],iv ai.2]) (.agg #[.slice au ai.1.Left.length av,.slice aw ai.1.Right.length ax]) S (wN d) d d d d (lb d) fun a S=>leafL ⟨d,S⟩
  ·refine fJ [(43,_)] 2 [some 0] fun G a w S=>?_
   exact sExtract (vs:=[.agg #[.slice au ai.1.Left.length av,.slice aw ai.1.Right.length ax],iv ai.2]) (iv ai.2) S (wN d) d d d d (lb d) fun a S=>leafL ⟨d,S⟩
  refine ⟨_,[],d,(srcs_of [] d d d),fun G a w S=>?_⟩
  refine sAlloc (.agg #[.slice none 0 0,.slice none 0 0]) S (wN d) d d [.slice none 0 0,.slice none 0 0] d d (lb d) fun a bD w S=>leafL ⟨d,_,_,.inl ⟨9,(.pointer (some ⟨bD,0,none⟩)),[],d,S,hz_of d,?_⟩⟩
  exact nd1 bD au av aw ax
 refine ⟨_,[],d,(srcs_of [] d d d),fun G a w S=>?_⟩
 refine sAlloc (.agg #[.slice none 0 0,.slice none 0 0]) S (wN d) d d [.slice none 0 0,.slice none 0 0] d d (lb d) fun a c7 w S=>leafL ⟨d,_,_,.inl ⟨9,(.pointer (some ⟨c7,0,none⟩)),[],d,S,hz_of d,?_⟩⟩
 refine node_by (A:=anc_raddletop_knit39_0) 12 (by kernel_rfl) (by kernel_rfl) (by kernel_rfl) (by kernel_rfl) (by kernel_rfl) [9,0,1,2,3,4] (by kernel_rfl) (by decide) (by decide) (fF ?_ (fF ?_ (fF ?_ (fF ?_ (fF ?_ (fN ?_ (fE 5 (fE 5 (fE 5 (fY (aB 10 1 5 (by decide) (fE 5 (trivial))))))))))))) [] (fun q hq=>by cases hq) (fun hY=>absurd (hY 5 (by decide)) (by decide))
 ·refine fJ [(5,_)] 1 [none] fun G a w S=>?_
  exact sLoadN (p:=aJ) (off:=0) (T:=49) (vs:=[iv ab.1.Start,.slice ac ab.1.Rows.length ae]) 1 [iv ab.1.Start,.slice ac ab.1.Rows.length ae] S (wN d) d d d d d d d (lb d) fun a S=>leafL ⟨d,S⟩
 ·refine fJ [(2,_)] 2 [none] fun G a w S=>?_
  exact sField (b:=ba) (off:=0) 0 0 S (wN d) d d d d d (lb d) fun a S=>leafL ⟨d,S⟩
 ·refine fJ [(45,_)] 3 [some 2] fun G a w S=>?_
  exact sLoad1 2 (.slice aO p0.Left.length aP) S (wN d) d d d d d d (lb d) fun a S=>leafL ⟨d,S⟩
 ·refine fJ [(46,_)] 4 [some 3] fun G a w S=>?_
  exact sIdxV S (wN d) d d d ca d (lb d) fun a S=>leafL ⟨d,S⟩
 ·refine fJ [(47,_)] 5 [some 4] fun G a w S=>?_
  exact sLoadV1 (vq:=d8) 0 (iv br) S (wN d) d d d d d (lb d) fun a S=>leafL ⟨d,S⟩
 refine ⟨_,[(44,.agg #[iv ab.1.Start,.slice ac ab.1.Rows.length ae]),(48,iv br)],d,(srcs_of [some 1,some 5] d d d),fun G a w S=>?_⟩
 refine sCall (X:=Value) (f:=27) (vs:=[.agg #[iv ab.1.Start,.slice ac ab.1.Rows.length ae],iv br]) (val:=c_piece_Read_val ai) (B':=fun _=>[]) (D':=c_piece_Read_D ai) [] [eBox c7 36 [.slice none 0 0,.slice none 0 0],eBox aJ 49 [iv ab.1.Start,.slice ac ab.1.Rows.length ae],eBox ba 36 [.slice aO p0.Left.length aP,.slice aS p0.Right.length aT]] [fRep r_api_Chart (.agg #[iv ab.1.Start,.slice ac ab.1.Rows.length ae]) ab.1] [0,1,2] [5] S (wN d) d callee27 d (by decide) d d (fun E1 w1 S1=>c_piece_Read E1 w1 ab.1 (.agg #[iv ab.1.Start,.slice ac ab.1.Rows.length ae]) br ai c9 S1) d (lb d) fun dU a w S=>?_
 obtain ⟨dV,dW,rfl,bO,bP⟩:=S.mem.know (i:=0) (e:=fRep r_api_Piece (dU) ai.1) d
 have S:=S.learn (fRep (rL (rI .i64)) dV ai.1.Left) bO
 obtain ⟨bl,bm,_,rfl,_⟩:=bO
 have S:=S.learn (fRep (rL (rI .i64)) dW ai.1.Right) bP
 obtain ⟨bn,bo,_,rfl,_⟩:=bP
 refine leafL ⟨d,_,_,.inl ⟨49,(.tuple #[.agg #[.slice bl ai.1.Left.length bm,.slice bn ai.1.Right.length bo],iv ai.2]),[(6,43,.tuple #[.agg #[.slice bl ai.1.Left.length bm,.slice bn ai.1.Right.length bo],iv ai.2]),(7,50,.agg #[.slice bl ai.1.Left.length bm,.slice bn ai.1.Right.length bo]),(8,51,iv ai.2)],d,S,hz_of d,?_⟩⟩
 exact nodePerm (nd1 c7 bl bm bn bo) [4,0,1,2,3,5,6,7,8,9] [0,1,2] [0,1,2,3,4,5,6,7,8,9,10,11] (by decide) (by decide) d d d
theorem wf_all {l:List api_Stitch} (h:allS l=0):∀ p,p ∈ l→wfS p:=ok_wf (allS_ok h).2.1
theorem wfR_chk {rs:List api_Row} {n:Int} (h:chkR n rs=0):wfR rs:=fun r hr=>wf_all (chkR_mem h r hr)
def lst:Int→List api_Row→Int
 | n,[]=>n
 | _,r :: rs=>lst (sm madeS r.Cells) rs
theorem chkR_app {b:List api_Row}:∀ {a:List api_Row} {n:Int},chkR n a=0→chkR (lst n a) b=0→chkR n (a ++ b)=0
 | [],_,_,h=>h
 | r :: a,n,h,h2=>by
  obtain ⟨k1,k2,k3⟩:=chkR_cons.1 h
  rw [List.cons_append]
  exact chkR_cons.2 ⟨k1,k2,chkR_app k3 h2⟩
theorem cnts_app (b:List api_Row):∀ (a:List api_Row) (n:Int),cnts n (a ++ b)=cnts n a ++ (cnts (lst n a) b).drop 1
 | [],n=>by cases b <;> rfl
 | r :: a,n=>by
  rw [List.cons_append]
  simp only [cnts,lst,cnts_app b a,List.cons_append]
theorem cnts_at:∀ (a:List api_Row) (n:Int),(cnts n a)[a.length]?=some (lst n a)
 | [],_=>rfl
 | r :: a,n=>by
  simp only [cnts,lst,List.length_cons,List.getElem?_cons_succ]
  exact cnts_at a _
theorem chk_of {n:Int} {rs:List api_Row} (h0:0 ≤ n) (h1:n ≤ 200) (hl:rs.length ≤ 100) (h:chkR n rs=0):chk ⟨n,rs⟩=0:=by
 unfold chk
 rw [if_neg (by show ¬ 100 < rs.length; omega),if_neg (by show ¬ (n < 0 ∨ 200 < n); omega)]
 exact h
theorem counts_of {n:Int} {rs:List api_Row} (h:chk ⟨n,rs⟩=0):F_chart_Counts ⟨n,rs⟩=some (cnts n rs,0):=counts_eq ⟨n,rs⟩ (wfR_chk (chk_ok h).2.2.2) h
theorem counts_s0 (c:api_Chart):F_chart_Counts_s0 c=F_chart_Counts c:=rfl
theorem join_eq {n m:Int} {a b:List api_Row} (ha:chk ⟨n,a⟩=0) (hb:chk ⟨m,b⟩=0) (hm:lst n a=m):F_chart_Join ⟨n,a⟩ ⟨m,b⟩=some (if 100 < a.length + b.length then (⟨0,[]⟩,4) else (⟨n,a ++ b⟩,0)):=by
 obtain ⟨a1,a2,a3,a4⟩:=chk_ok ha
 obtain ⟨b1,b2,b3,b4⟩:=chk_ok hb
 dsimp only at a1 a2 a3 a4 b1 b2 b3 b4
 have hx:idxO (cnts n a) (w64 (((cnts n a).length:Int) - 1))=some m:=by
  have hl:=cnts_len n a
  have e:w64 (((cnts n a).length:Int) - 1)=(a.length:Int):=by rw [w64_of (by omega) (by omega)]; omega
  rw [e,idxO_nat (by omega)]
  have h:=cnts_at a n
  rw [List.getElem?_eq_getElem (by omega),hm] at h
  exact h
 have hs:w64 ((a.length:Int) + (b.length:Int))=((a.length + b.length:Nat):Int):=by rw [w64_of (by omega) (by omega)]; omega
 unfold F_chart_Join
 rw [counts_s0,counts_of ha]
 simp only [Option.bind_some,bne_self_eq_false,Bool.false_eq_true,if_false]
 rw [chart_check_eq ⟨m,b⟩ (wfR_chk b4),hb]
 simp only [Option.bind_some,bne_self_eq_false,Bool.false_eq_true,if_false,hx,hs]
 by_cases h:100 < a.length + b.length
 ·rw [if_pos (dT (by omega)),if_pos h]
 ·rw [if_neg (by rw [dF (by omega)]; decide),if_neg h,twins_eq a (chk_RB ha),twins_eq b (chk_RB hb)]
  simp only [Option.bind_some,appO_of (show a.length + b.length ≤ 68719476736 by omega)]
theorem part_of {n:Int} {a b:List api_Row} (h:chk ⟨n,a ++ b⟩=0) (ha:chkR n a=0):F_chart_Part ⟨n,a ++ b⟩ (a.length:Int) ((a ++ b).length:Int)=some (⟨lst n a,b⟩,0):=by
 have hl:=cnts_len n (a ++ b)
 have hab:(a ++ b).length=a.length + b.length:=List.length_append
 have hb:=chk_RB h
 have xk:idxO (cnts n (a ++ b)) (a.length:Int)=some (lst n a):=by
  rw [idxO_nat (by omega)]
  have e:(cnts n (a ++ b))[a.length]?=some (lst n a):=by
   rw [cnts_app,List.getElem?_append_left (by rw [cnts_len]; omega)]
   exact cnts_at a n
  rw [List.getElem?_eq_getElem (by omega)] at e
  exact e
 have sk:sliceO (a ++ b) (a.length:Int) ((a ++ b).length:Int)=some b:=by
  have:=sliceO_all (xs:=a ++ b) (k:=a.length) (by omega)
  rw [this]
  simp
 have bk:RB b:=⟨by have:=hb.1; dsimp only at this; omega,fun r hr=>hb.2 r (List.mem_append_right _ hr)⟩
 unfold F_chart_Part
 simp only [counts_of h,Option.bind_some,bne_self_eq_false,Bool.false_eq_true,if_false,dF (show ¬ (a.length:Int) < 0 by omega),dF (show ¬ ((a ++ b).length:Int) < (a.length:Int) by omega),dF (show ¬ ((a ++ b).length:Int) < ((a ++ b).length:Int) by omega),xk,sk,twin_eq _ bk]
def rws (p:api_Piece) (k m:Nat):List api_Row:=(List.range' k m).map (crow p)
theorem rws_succ (p:api_Piece) (k m:Nat):rws p k (m + 1)=crow p k :: rws p (k + 1) m:=by
 unfold rws
 rw [List.range'_succ,List.map_cons]
theorem rws_ok {p:api_Piece} (hp:pok p=true) (ho:chOk p):∀ (m k:Nat),k + m + 1 ≤ p.Left.length→chkR (wd p k) (rws p k m)=0∧lst (wd p k) (rws p k m)=wd p (k + m)∧cnts (wd p k) (rws p k m)=(List.range' k (m + 1)).map (wd p)
 | 0,k,_=>⟨rfl,rfl,rfl⟩
 | m + 1,k,hk=>by
  obtain ⟨c1,c2,c3,_⟩:=crow_ok hp (k:=k) (by omega) (ho k (by omega))
  obtain ⟨i1,i2,i3⟩:=rws_ok hp ho m (k + 1) (by omega)
  rw [rws_succ]
  refine ⟨chkR_cons.2 ⟨c1,c2,by rw [c3]; exact i1⟩,?_,?_⟩
  ·simp only [lst]
   rw [c3,i2,show k + 1 + m=k + (m + 1) by omega]
  ·simp only [cnts]
   rw [c3,i3,List.range'_succ (s:=k),List.map_cons]
theorem chart_rws (p:api_Piece):chart p=⟨wd p 0,rws p 0 (p.Left.length - 1)⟩:=by
 unfold chart rws
 rw [List.range_eq_range']
theorem wd_bd {p:api_Piece} (hp:pok p=true) {k:Nat} (hk:k < p.Left.length):1 ≤ wd p k∧wd p k ≤ 200:=by
 obtain ⟨_,_,_,h⟩:=pok_iff.1 hp
 have:=h k hk
 unfold wd
 omega
theorem rws_len (p:api_Piece) (k m:Nat):(rws p k m).length=m:=by simp [rws]
theorem turn_rows {n:Int} (h1:n ≤ 200):∀ (l:List Int),(∀ p,p ∈ l→1 ≤ p∧p ≤ n)→chkR n (rowsOf n l)=0∧lst n (rowsOf n l)=n∧cnts n (rowsOf n l)=List.replicate (2 * l.length + 1) n
 | [],_=>⟨rfl,rfl,rfl⟩
 | p :: l,h=>by
  have hp:=h p (List.mem_cons_self ..)
  obtain ⟨c1,c2,c3⟩:=kn_ok (n:=n) (p:=p) (by omega) hp.2 h1
  obtain ⟨t1,t2,t3⟩:=turned_ok c1
  obtain ⟨i1,i2,i3⟩:=turn_rows h1 l (fun q hq=>h q (List.mem_cons_of_mem _ hq))
  simp only [rowsOf]
  refine ⟨chkR_cons.2 ⟨c1,c2,?_⟩,?_,?_⟩
  ·dsimp only
   rw [c3]
   refine chkR_cons.2 ⟨t1,t2.trans c2,?_⟩
   dsimp only
   rw [t3,c3]
   exact i1
  ·simp only [lst]
   rw [t3,c3]
   exact i2
  ·simp only [cnts]
   rw [t3,c3,i3,List.length_cons,show 2 * (l.length + 1) + 1=(2 * l.length + 1) + 1 + 1 by omega]
   simp only [List.replicate_succ]
theorem trns_mem {n r:Nat} (hn:r ≤ n):∀ p,p ∈ trns n r→1 ≤ p∧p ≤ (n:Int):=by
 intro p hp
 unfold trns at hp
 obtain ⟨i,hi,rfl⟩:=List.mem_map.1 hp
 have:=trn_bd (List.mem_range.1 hi) hn
 omega
theorem same26_self (c:api_Chart) (hl:c.Rows.length ≤ 1000000) (hc:∀ r,r ∈ c.Rows→r.Cells.length ≤ 1000000):F_raddleref26_Same c c=some true:=by
 have hw:whileO (raddleref26_Same_l1 c c) 0=some (.inr ()):=by
  have key:∃ t,whileO (raddleref26_Same_l1 c c) 0=some t∧t=.inr ():=by
   refine loop_ix c.Rows.length (fun _=>True) _ trivial ?_ ?_
   ·intro k hk _
    refine .inl ⟨?_,trivial⟩
    obtain ⟨t,t1,t2⟩:=rsame_eq c.Rows[k].Cells c.Rows[k].Cells (by have:=hc _ (List.getElem_mem hk); omega)
    have t3:=t1.2 rfl
    subst t3
    unfold raddleref26_Same_l1
    simp only [dT (show (k:Int) < (c.Rows.length:Int) by omega),if_true,idxO_nat hk,Option.bind_some,bne_self_eq_false,Bool.false_eq_true,if_false,t2,Bool.not_true,w64_succ (show k < 9223372036854775807 by omega)]
   ·intro _
    refine ⟨_,?_,rfl⟩
    unfold raddleref26_Same_l1
    simp only [dF (show ¬ (c.Rows.length:Int) < (c.Rows.length:Int) by omega),Bool.false_eq_true,if_false]
  obtain ⟨t,t1,rfl⟩:=key
  exact t1
 unfold F_raddleref26_Same
 simp only [bne_self_eq_false,Bool.false_eq_true,if_false,Option.bind_some,hw]
theorem knit_l1 {p:api_Piece} (hp:pok p=true) {r:List Int × Int} (hr:r.1=(List.range' 0 p.Left.length).map (wd p)):whileO (raddletop_knit39_l1 r p) 0=some (.inr ()):=by
 obtain ⟨a,b,c,d⟩:=pok_iff.1 hp
 have hlen:r.1.length=p.Left.length:=by rw [hr]; simp
 have key:∃ t,whileO (raddletop_knit39_l1 r p) 0=some t∧t=.inr ():=by
  refine loop_ix p.Left.length (fun _=>True) _ trivial ?_ ?_
  ·intro k hk _
   refine .inl ⟨?_,trivial⟩
   have hi:idxO r.1 (k:Int)=some (wd p k):=by
    rw [idxO_nat (by omega)]
    simp [hr]
   have d0:=d k hk
   have e:w64 (p.Right.getD k 0 - p.Left.getD k 0)=wd p k:=w64_of (by omega) (by omega)
   unfold raddletop_knit39_l1
   simp only [hlen,dT (show (k:Int) < (p.Left.length:Int) by omega),if_true,hi,idxO_D (0:Int) hk,idxO_D (0:Int) (show k < p.Right.length by omega),Option.bind_some,e,bne_self_eq_false,Bool.false_eq_true,if_false,w64_succ (show k < 9223372036854775807 by omega)]
  ·intro _
   refine ⟨_,?_,rfl⟩
   unfold raddletop_knit39_l1
   simp only [hlen,dF (show ¬ (p.Left.length:Int) < (p.Left.length:Int) by omega),Bool.false_eq_true,if_false]
 obtain ⟨t,t1,rfl⟩:=key
 exact t1
theorem knit_l2 {s:List Int} {x:Int} {m:Nat} (hs:s.length + m ≤ 1000000) {r:List Int × Int} (hr:r.1=s ++ List.replicate m x):whileO (raddletop_knit39_l2 r x) (s.length:Int)=some (.inr ()):=by
 have hlen:r.1.length=s.length + m:=by rw [hr]; simp
 have key:∃ t,whileO (raddletop_knit39_l2 r x) ((s.length + 0:Nat):Int)=some t∧t=.inr ():=by
  refine loop_at (σ:=Unit) m (fun k _=>((s.length + k:Nat):Int)) (fun _ _=>True) _ (s0:=()) trivial ?_ ?_
  ·intro k _ hk _
   refine .inl ⟨(),?_,trivial⟩
   have hi:idxO r.1 ((s.length + k:Nat):Int)=some x:=by
    rw [idxO_nat (by omega)]
    congr 1
    have e:r.1[s.length + k]?=some x:=by
     rw [hr,List.getElem?_append_right (by omega),Nat.add_sub_cancel_left,List.getElem?_replicate,if_pos hk]
    rw [List.getElem?_eq_getElem (by omega)] at e
    exact Option.some.inj e
   unfold raddletop_knit39_l2
   simp only [hlen,dT (show ((s.length + k:Nat):Int) < ((s.length + m:Nat):Int) by omega),if_true,hi,Option.bind_some,bne_self_eq_false,Bool.false_eq_true,if_false,w64_succ (show s.length + k < 9223372036854775807 by omega)]
   rfl
  ·intro _ _
   refine ⟨_,?_,rfl⟩
   unfold raddletop_knit39_l2
   simp only [hlen,dF (show ¬ ((s.length + m:Nat):Int) < ((s.length + m:Nat):Int) by omega),Bool.false_eq_true,if_false]
 obtain ⟨t,t1,rfl⟩:=key
 exact t1
theorem knit_of {p:api_Piece} (hp:pok p=true) {rise:Int} (r0:0 ≤ rise) (r1:rise ≤ 50):F_raddletop_knit39 p rise=some true:=by
 obtain ⟨a,b,c,d⟩:=pok_iff.1 hp
 unfold F_raddletop_knit39
 rw [chart_eq p (by omega) (by omega),hp]
 by_cases ho:chOk p
 case neg=>rw [if_neg ho]; rfl
 rw [if_pos ho]
 simp only [if_true,Option.bind_some,bne_self_eq_false,Bool.false_eq_true,if_false]
 obtain ⟨k1,k2,k3⟩:=rws_ok hp ho (p.Left.length - 1) 0 (by omega)
 rw [show p.Left.length - 1 + 1=p.Left.length by omega] at k3
 rw [Nat.zero_add] at k2
 have w0:=wd_bd hp (k:=0) (by omega)
 have wl:=wd_bd hp (k:=p.Left.length - 1) (by omega)
 have hca:chk ⟨wd p 0,rws p 0 (p.Left.length - 1)⟩=0:=chk_of (by omega) (by omega) (by rw [rws_len]; omega) k1
 have hcn:F_chart_Counts (chart p)=some ((List.range' 0 p.Left.length).map (wd p),0):=by
  rw [chart_rws,counts_of hca,k3]
 have x0:idxO p.Left 0=some (p.Left.getD 0 0):=idxO_D (k:=0) (0:Int) (by omega)
 have hcl:((List.range' 0 p.Left.length).map (wd p)).length=p.Left.length:=by simp
 have hlast:idxO ((List.range' 0 p.Left.length).map (wd p)) (w64 ((p.Left.length:Int) - 1))=some (wd p (p.Left.length - 1)):=by
  have e:w64 ((p.Left.length:Int) - 1)=((p.Left.length - 1:Nat):Int):=by rw [w64_of (by omega) (by omega)]; omega
  rw [e,idxO_nat (by omega)]
  simp
 rw [hcn,x0]
 simp only [Option.bind_some]
 rw [read_back hp ho]
 simp only [Option.bind_some,bne_self_eq_false,Bool.false_eq_true,if_false,hcl,samep_self p (by omega) (by omega),Bool.not_true,knit_l1 hp (r:=((List.range' 0 p.Left.length).map (wd p),0)) rfl,hlast]
 generalize hL:wd p (p.Left.length - 1)=last at *
 -- the turns
 obtain ⟨N,rfl⟩:∃ N:Nat,last=N:=⟨last.toNat,by omega⟩
 have hz:∃ z:Nat,(if (N:Int) < rise then (N:Int) else rise)=(z:Int)∧z ≤ N∧z ≤ 50:=by
  by_cases h:(N:Int) < rise
  ·exact ⟨N,by rw [if_pos h],by omega,by omega⟩
  ·exact ⟨rise.toNat,by rw [if_neg h]; omega,by omega,by omega⟩
 obtain ⟨z,z0,z1,z2⟩:=hz
 rw [z0]
 have ht:F_short_Turns (N:Int) (z:Int)=some (trns N z,0):=by
  rw [turns_eq,if_pos ⟨⟨by omega,by omega⟩,by omega,by omega,by omega⟩]
  rfl
 have hm:=trns_mem z1
 have htl:(trns N z).length=z:=by simp [trns]
 have htk:tchk (N:Int) (trns N z)=0:=by
  unfold tchk
  rw [if_pos ⟨by omega,by omega⟩,if_neg (by omega),if_pos hm]
 obtain ⟨q1,q2,q3⟩:=turn_rows (n:=(N:Int)) (by omega) (trns N z) hm
 have hrl:=rowsOf_len (N:Int) (trns N z)
 rw [htl] at hrl q3
 have hcb:chk ⟨(N:Int),rowsOf (N:Int) (trns N z)⟩=0:=chk_of (by omega) (by omega) (by omega) q1
 have hsc:F_short_Chart (N:Int) (trns N z)=some (⟨(N:Int),rowsOf (N:Int) (trns N z)⟩,0):=by
  rw [schart_eq]
  unfold chartOf
  rw [if_pos htk]
 have hhe:F_short_Heights (N:Int) (trns N z)=some (hts (N:Int) (trns N z),0):=by rw [heights_eq,if_pos htk]
 have hhl:((hts (N:Int) (trns N z)).length:Int)=(N:Int):=by rw [hts_len]; omega
 rw [ht]
 simp only [Option.bind_some]
 rw [hsc]
 simp only [Option.bind_some]
 rw [hhe]
 simp only [Option.bind_some,bne_self_eq_false,Bool.false_eq_true,if_false,hhl,htl]
 rw [chart_rws,join_eq hca hcb k2,rws_len,hrl]
 have e2:w64 (2 * (z:Int))=((2 * z:Nat):Int):=by rw [w64_of (by omega) (by omega)]; omega
 have e3:w64 (((p.Left.length - 1:Nat):Int) + ((2 * z:Nat):Int))=((p.Left.length - 1 + 2 * z:Nat):Int):=by rw [w64_of (by omega) (by omega)]; omega
 simp only [Option.bind_some,e2,e3]
 by_cases hg:100 < p.Left.length - 1 + 2 * z
 ·rw [if_pos hg,if_pos (dT (by omega))]
  rfl
 rw [if_neg hg,if_neg (by rw [dF (by omega)]; decide)]
 -- the joined chart
 have hab:chkR (wd p 0) (rws p 0 (p.Left.length - 1) ++ rowsOf (N:Int) (trns N z))=0:=chkR_app k1 (by rw [k2]; exact q1)
 have hcj:chk ⟨wd p 0,rws p 0 (p.Left.length - 1) ++ rowsOf (N:Int) (trns N z)⟩=0:=chk_of (by omega) (by omega) (by rw [List.length_append,rws_len,hrl]; omega) hab
 have hcnt:cnts (wd p 0) (rws p 0 (p.Left.length - 1) ++ rowsOf (N:Int) (trns N z))=(List.range' 0 p.Left.length).map (wd p) ++ List.replicate (2 * z) (N:Int):=by
  rw [cnts_app,k3,k2,q3]
  rfl
 have e4:w64 ((p.Left.length:Int) + ((2 * z:Nat):Int))=((p.Left.length + 2 * z:Nat):Int):=by rw [w64_of (by omega) (by omega)]; omega
 have hjl:((List.range' 0 p.Left.length).map (wd p) ++ List.replicate (2 * z) (N:Int)).length=p.Left.length + 2 * z:=by simp
 dsimp only
 rw [counts_of hcj,hcnt]
 have hk2:=knit_l2 (s:=(List.range' 0 p.Left.length).map (wd p)) (x:=(N:Int)) (m:=2 * z) (by rw [hcl]; omega) (r:=((List.range' 0 p.Left.length).map (wd p) ++ List.replicate (2 * z) (N:Int),0)) rfl
 rw [hcl] at hk2
 simp only [Option.bind_some,bne_self_eq_false,Bool.false_eq_true,if_false,e4,hjl,hk2]
 have hpart:=part_of hcj k1
 rw [rws_len,k2] at hpart
 rw [hpart]
 simp only [Option.bind_some]
 have hRB:=chk_RB hcb
 have hrd:F_short_Read ⟨(N:Int),rowsOf (N:Int) (trns N z)⟩=some ((N:Int),trns N z,0):=by
  rw [sread_eq ⟨(N:Int),rowsOf (N:Int) (trns N z)⟩ hRB.1 hRB.2]
  have hle:=(leads_of (c:=⟨(N:Int),rowsOf (N:Int) (trns N z)⟩) (V:=trns N z) htk rfl).1
  unfold readOf
  rw [hle,if_pos ⟨htk,rfl⟩]
 rw [hrd]
 simp only [Option.bind_some,beq_self_eq_true,if_true]
 rw [same26_self _ hRB.1 hRB.2]
 simp only [Option.bind_some,if_true]
 rw [same_self _ (by omega)]
 rfl
noncomputable def piece_place_l1 (p1:(List api_Point)) (p0:api_Gauge):(List api_Point × Int)→Option ((List api_Point × Int) ⊕ (((List api_Point) × Int) ⊕ (List api_Point))):=fun s0=>match s0 with
 | (ae,aa)=>
  if decide (aa < (p1.length:Int)) then
   (idxO p1 aa).bind fun a9=>
   Option.bind (α:=Int) (
    Option.bind (α:=Bool) (
     if decide (a9.X < 0) then
      some (decide ((-1000000) ≤ a9.X))
     else
      some false) fun ag=>
    if ag then
     some (-1)
    else
     some 1) fun af=>
   (F_gauge_Stitches p0 (w64 (af * a9.X))).bind fun ab=>
   if ab.2 != 0 then
    some (.inr (.inl (([]:(List api_Point)),ab.2)))
   else
    (F_gauge_Rows p0 a9.Y).bind fun ac=>
    if ac.2 != 0 then
     some (.inr (.inl (([]:(List api_Point)),ac.2)))
    else
     (appO ae [(api_Point.mk (w64 (af * ab.1)) ac.1)]).bind fun ah=>
     some (.inl (ah,w64 (aa + 1)))
  else
   some (.inr (.inr ae))
noncomputable def F_piece_place (p0:api_Gauge) (p1:(List api_Point)):Option ((List api_Point) × Int):=
 (capO (p1.length:Int)).bind fun z8=>
 Option.bind (α:=List api_Point ⊕ ((List api_Point) × Int)) (
  (whileO (piece_place_l1 p1 p0) (([]:List api_Point),0)).bind fun z0=>match z0 with
   | .inl z=>
    some (.inr z)
   | .inr a9=>
    some (.inl a9)) fun z0=>match z0 with
  | .inl aa=>
   some (aa,0)
  | .inr z=>
   some z
def c_piece_place_val (r:((List api_Point) × Int)) (x:Value):Value:=.tuple #[x,.int .i64 r.2]
def c_piece_place_D (r:((List api_Point) × Int)) (x:Value):List Fact:=[fRep (rL r_api_Point) x r.1]
theorem c_piece_place (E:Nat→Prop) (w0:World) (p0:api_Gauge) (v0:Value) (p1:(List api_Point)) (v1:Value) (r:((List api_Point) × Int)) (h:F_piece_place p0 p1=some r) (S:St0 E [] w0 w0 [] [fRep r_api_Gauge (v0) p0,fRep (rL r_api_Point) (v1) p1]) :
 Calls Try.prog 17 #[v0,v1] w0 (Ret (X:=Value) E [] w0 (c_piece_place_val r) (fun _=>[]) (c_piece_place_D r)):=by
 unfold F_piece_place at h
 obtain rfl:v0=.agg #[iv p0.Stitches,iv p0.Width,iv p0.Rows,iv p0.Height]:=S.know (i:=0) (e:=fRep r_api_Gauge (v0) p0) d
 obtain ⟨am,ao,_,rfl,_⟩:=S.know (i:=1) (e:=fRep (rL r_api_Point) (v1) p1) d
 refine sEnter (args:=[.agg #[iv p0.Stitches,iv p0.Width,iv p0.Rows,iv p0.Height],.slice am p1.length ao]) 62 Try.func17 d d (by simp) S (fun a S=>?_)
 refine sSeq (fun K3 bh=>sRegion (sBox (v:=.agg #[iv p0.Stitches,iv p0.Width,iv p0.Rows,iv p0.Height]) S (wN d) d d [iv p0.Stitches,iv p0.Width,iv p0.Rows,iv p0.Height] d d (lb d) fun a b4 w S=>sN S fun a S=>?_))
 refine sN S fun a S=>?_
 refine lT (bh _ _ (sSeq (fun K5 bi=>sRegion (sM S fun a S=>?_))))
 refine sLen S (wN d) d Try.underlying26 d d (lb d) fun a S=>?_
 obtain ⟨z8,bj,h⟩:=bS h
 refine sMake0 r_api_Point (m:=(p1.length:Int)) (u:=z8) (.agg #[iv 0,iv 0]) 16 S (wN d) d Try.underlying26 d (by decide) d d bj d (lb d) fun a w bl bm S=>?_
 refine sN S fun a S=>?_
 refine lT (bi _ _ ?_)
 obtain ⟨bn,h,ax⟩:=bS h
 refine sCut (fun a w=>∃ ak,.inl ak=bn∧∃ ag,∃ ah,St [] E [] w0 62 a w [(6,.slice ag ak.length ah)] [eRow r_api_Point 33 (.slice ag ak.length ah) ak] []) ?_ (fun a w hI=>?_)
 rotate_left
 ·obtain ⟨ak,rfl,ag,ah,S⟩:=hI
  have h:=ax
  try dsimp only at h
  refine sSeq (fun bu ay=>sRegion (sM S fun a S=>?_))
  refine sN S fun a S=>?_
  refine sN S fun a S=>?_
  refine lT (ay _ _ ?_)
  obtain rfl:=tS h
  have S:=S.shutR (r:=r_api_Point) (T:=33) (v:=.slice ag ak.length ah) (xs:=ak) 0 d
  exact wp_ret (sRet (.tuple #[.slice ag ak.length ah,iv 0]) S (rsl2 d (rvT (t:=4) (v:=.slice ag ak.length ah) S d) (rvT (t:=5) (v:=iv 0) S d)) ⟨(.slice ag ak.length ah),d,S.mem.sel [] [0] (by decide) d d⟩)
 refine sSeq (fun bv az=>sRegion (sM S fun a S=>?_))
 refine sLen S (wN d) d Try.underlying26 d d (lb d) fun a S=>sM S fun a S=>?_
 refine lT (az _ _ (wp_block ?_))
 obtain ⟨bw,hl,aA⟩:=bS h
 refine sLoop hl (fun s0 a w=>match s0 with | (aj,ap)=>∃ ac,∃ ae,St [] E [] w0 62 a w [(2,.pointer (some ⟨b4,0,none⟩)),(6,.slice ac aj.length ae),(16,.slice am p1.length ao),(17,iv (p1.length:Int)),(18,iv ap)] [eBox b4 23 [iv p0.Stitches,iv p0.Width,iv p0.Rows,iv p0.Height],eRow r_api_Point 33 (.slice ac aj.length ae) aj] [fRep (rL r_api_Point) (.slice am p1.length ao) p1]) ⟨bl,bm,S.fix [1,0] [1] (by decide) d d d⟩ ?_
 clear hl h
 intro s0 a w c0 hI h aq
 obtain ⟨aj,ap⟩:=s0
 unfold piece_place_l1 at h
 dsimp only at h hI
 obtain ⟨ac,ae,S⟩:=hI
 refine sSeq (fun bx aC=>sRegion (sBin _ S (wN d) d d d (bLt _ _ _ _ .i64 ap (p1.length:Int)) d (lb d) fun a S=>lT (aC _ _ (sSeq (fun bz aG=>?_)))))
 rcases iS h with ⟨ar,h⟩ | ⟨ar,h⟩
 rotate_left
 ·refine sCondF S d ar ?_
  obtain rfl:=tS h
  obtain rfl:=aq _ d
  have h:=aA
  try dsimp only at h
  exact wp_exit (xThen (xThen (xHit (leafT (⟨aj,Option.some.inj h,ac,ae,S.fix [1] [] (by decide) d d d⟩)))))
 refine sCondT S d ar (wp_skip (leafT (aG _ _ ?_)))
 refine sSeq (fun bA aH=>wp_block ?_)
 refine sSeq (fun bB aI=>sRegion ?_)
 obtain ⟨a9,aJ,h⟩:=bS h
 obtain ⟨bf,aK,S⟩:=pIdx (P:=Try.prog) (r:=r_api_Point) (v:=.slice am p1.length ao) (xs:=p1) (j:=ap) 26 33 0 S Try.underlying26 d d aJ
 refine sIdxV S (wN d) d d d aK d (lb d) fun a S=>?_
 obtain ⟨bg,S⟩:=pLoad (r:=r_api_Point) (q:=bf) (x:=a9) 0 S d
 obtain rfl:bg=.agg #[iv a9.X,iv a9.Y]:=S.mem.know (i:=1) (e:=fRep r_api_Point (bg) a9) d
 refine sLoadVN (vq:=bf) 0 [iv a9.X,iv a9.Y] S (wN d) d d d d d d (lb d) fun a S=>sAlloc (.agg #[iv 0,iv 0]) S (wN d) d d [iv 0,iv 0] d d (lb d) fun a al w S=>sStore (p:=al) (off:=0) (T:=33) (vs:=[iv 0,iv 0]) (v:=.agg #[iv a9.X,iv a9.Y]) 0 [iv a9.X,iv a9.Y] S (wN d) d d d d d d d (by simp) d fun a w S=>lT (aI _ _ (sSeq (fun bC aL=>sRegion (sN S fun a S=>?_))))
 refine lT (aL _ _ ?_)
 obtain ⟨bo,h,bp⟩:=bS h
 refine sCut (fun a w=>∃ af,af=bo∧St [] E [] w0 62 a w [(2,.pointer (some ⟨b4,0,none⟩)),(6,.slice ac aj.length ae),(8,.pointer (some ⟨al,0,none⟩)),(9,iv af),(16,.slice am p1.length ao),(17,iv (p1.length:Int)),(18,iv ap)] [eBox b4 23 [iv p0.Stitches,iv p0.Width,iv p0.Rows,iv p0.Height],eBox al 33 [iv a9.X,iv a9.Y],eRow r_api_Point 33 (.slice ac aj.length ae) aj] [fRep (rL r_api_Point) (.slice am p1.length ao) p1]) ?_ (fun a w hI=>?_)
 ·obtain ⟨bq,h,br⟩:=bS h
  refine sCut (fun a w=>∃ aM,aM=bq∧St [] E [] w0 62 a w [(2,.pointer (some ⟨b4,0,none⟩)),(6,.slice ac aj.length ae),(8,.pointer (some ⟨al,0,none⟩)),(9,iv 1),(16,.slice am p1.length ao),(17,iv (p1.length:Int)),(18,iv ap),(29,.bool aM)] [eBox b4 23 [iv p0.Stitches,iv p0.Width,iv p0.Rows,iv p0.Height],eBox al 33 [iv a9.X,iv a9.Y],eRow r_api_Point 33 (.slice ac aj.length ae) aj] [fRep (rL r_api_Point) (.slice am p1.length ao) p1]) ?_ (fun a w hI=>?_)
  rotate_left
  ·obtain ⟨aM,rfl,S⟩:=hI
   have h:=br
   try dsimp only at h
   rcases iS h with ⟨au,h⟩ | ⟨au,h⟩
   rotate_left
   ·refine sCondF S d au ?_
    exact wp_skip (leafT (⟨1,Option.some.inj h,S.fix [0,1,2] [0] (by decide) d d d⟩))
   refine sCondT S d au (sRegion (sN S fun a S=>?_))
   exact lT (⟨(-1),Option.some.inj h,S.fix [0,1,2] [0] (by decide) d d d⟩)
  refine sRegion (sField (b:=al) (off:=0) 0 0 S (wN d) d d d d d (lb d) fun a S=>sLoad1 0 (iv a9.X) S (wN d) d d d d d d (lb d) fun a S=>sBin _ S (wN d) d d d (bLt _ _ _ _ .i64 a9.X 0) d (lb d) fun a S=>sM S fun a S=>?_)
  rcases iS h with ⟨ai,h⟩ | ⟨ai,h⟩
  rotate_left
  ·refine sSkN 3 3 true 25 S d d ai d fun a S=>sPickF (.bool false) S (wN d) d d ai d d (lb d) fun a S=>?_
   exact lT (⟨false,Option.some.inj h,S.fix [1,0,2] [3] (by decide) d d d⟩)
  refine sField (b:=al) (off:=0) 0 0 S (wG 3 true 25 d d d ai) d d d d d (lb d) fun a S=>sLoad1 0 (iv a9.X) S (wG 3 true 25 d d d ai) d d d d d d (lb d) fun a S=>sBin _ S (wG 3 true 25 d d d ai) d d d (bGe _ _ _ _ .i64 a9.X (-1000000)) d (lb d) fun a S=>sPickT (.bool (decide ((-1000000) ≤ a9.X))) S (wN d) d d ai d d (lb d) fun a S=>?_
  exact lT (⟨decide ((-1000000) ≤ a9.X),Option.some.inj h,S.fix [1,0,2] [3] (by decide) d d d⟩)
 obtain ⟨af,rfl,S⟩:=hI
 have h:=bp
 try dsimp only at h
 refine sSeq (fun bD aO=>sRegion (sLoadN (p:=b4) (off:=0) (T:=23) (vs:=[iv p0.Stitches,iv p0.Width,iv p0.Rows,iv p0.Height]) 0 [iv p0.Stitches,iv p0.Width,iv p0.Rows,iv p0.Height] S (wN d) d d d d d d d (lb d) fun a S=>sM S fun a S=>?_))
 refine sField (b:=al) (off:=0) 0 0 S (wN d) d d d d d (lb d) fun a S=>sLoad1 1 (iv a9.X) S (wN d) d d d d d d (lb d) fun a S=>sBin _ S (wN d) d d d (bMul _ _ _ _ af a9.X) d (lb d) fun a S=>?_
 obtain ⟨aa,aP,h⟩:=bS h
 have S1:=S.mem
 have S1:=S1.learn (fRep r_api_Gauge (.agg #[iv p0.Stitches,iv p0.Width,iv p0.Rows,iv p0.Height]) p0) d
 refine sCq [.agg #[iv p0.Stitches,iv p0.Width,iv p0.Rows,iv p0.Height],iv (w64 (af * a9.X))] (.tuple #[iv aa.1,iv aa.2]) S callee8 (S1.quiet [0] d) (fun E1 w1 S1=>c_gauge_Stitches E1 w1 p0 (.agg #[iv p0.Stitches,iv p0.Width,iv p0.Rows,iv p0.Height]) (w64 (af * a9.X)) aa aP S1) fun a w S=>?_
 refine sM S fun a S=>?_
 refine sExtract (vs:=[iv aa.1,iv aa.2]) (iv aa.1) S (wN d) d d d d (lb d) fun a S=>sExtract (vs:=[iv aa.1,iv aa.2]) (iv aa.2) S (wN d) d d d d (lb d) fun a S=>sN S fun a S=>?_
 refine sN S fun a S=>?_
 refine lT (aO _ _ (sSeq (fun bE aQ=>sSeq (fun bG aR=>sRegion (sM S fun a S=>?_)))))
 refine sBin _ S (wN d) d d d (bNe _ _ _ _ .i64 aa.2 0) d (lb d) fun a S=>lT (aR _ _ ?_)
 rcases iS h with ⟨av,h⟩ | ⟨av,h⟩
 ·refine sCondT S d av (sSeq (fun bH aS=>sRegion (sM S fun a S=>?_)))
  refine sN S fun a S=>?_
  refine sN S fun a S=>?_
  refine lT (aS _ _ ?_)
  obtain rfl:=tS h
  obtain rfl:=aq _ d
  have h:=aA
  try dsimp only at h
  obtain rfl:=tS h
  have h:=ax
  try dsimp only at h
  obtain rfl:=tS h
  have S:=S.learn (fRep (rL r_api_Point) (.slice none 0 0) ([]:(List api_Point))) (rL_nil _ _ _)
  exact wp_ret (rThen (rBlock (rThen (rThen (rBlock (rThen (sRet (.tuple #[.slice none 0 0,iv aa.2]) S (rsl2 d (rvT (t:=4) (v:=.slice none 0 0) S d) (rvT (t:=5) (v:=iv aa.2) S d)) ⟨(.slice none 0 0),d,S.mem.sel [] [0] (by decide) d d⟩)))))))
 refine sCondF S d av (wp_skip (leafT (aQ _ _ ?_)))
 refine sSeq (fun bI aT=>sRegion (sLoadN (p:=b4) (off:=0) (T:=23) (vs:=[iv p0.Stitches,iv p0.Width,iv p0.Rows,iv p0.Height]) 0 [iv p0.Stitches,iv p0.Width,iv p0.Rows,iv p0.Height] S (wN d) d d d d d d d (lb d) fun a S=>sField (b:=al) (off:=0) 1 1 S (wN d) d d d d d (lb d) fun a S=>sLoad1 1 (iv a9.Y) S (wN d) d d d d d d (lb d) fun a S=>?_))
 obtain ⟨ab,aU,h⟩:=bS h
 have S1:=S.mem
 have S1:=S1.learn (fRep r_api_Gauge (.agg #[iv p0.Stitches,iv p0.Width,iv p0.Rows,iv p0.Height]) p0) d
 refine sCq [.agg #[iv p0.Stitches,iv p0.Width,iv p0.Rows,iv p0.Height],iv a9.Y] (.tuple #[iv ab.1,iv ab.2]) S callee9 (S1.quiet [0] d) (fun E1 w1 S1=>c_gauge_Rows E1 w1 p0 (.agg #[iv p0.Stitches,iv p0.Width,iv p0.Rows,iv p0.Height]) a9.Y ab aU S1) fun a w S=>?_
 refine sM S fun a S=>?_
 refine sExtract (vs:=[iv ab.1,iv ab.2]) (iv ab.1) S (wN d) d d d d (lb d) fun a S=>sExtract (vs:=[iv ab.1,iv ab.2]) (iv ab.2) S (wN d) d d d d (lb d) fun a S=>sN S fun a S=>?_
 refine sN S fun a S=>?_
 refine lT (aT _ _ (sSeq (fun bJ aV=>sSeq (fun bK aW=>sRegion (sM S fun a S=>?_)))))
 refine sBin _ S (wN d) d d d (bNe _ _ _ _ .i64 ab.2 0) d (lb d) fun a S=>lT (aW _ _ ?_)
 rcases iS h with ⟨aw,h⟩ | ⟨aw,h⟩
 ·refine sCondT S d aw (sSeq (fun bL aX=>sRegion (sM S fun a S=>?_)))
  refine sN S fun a S=>?_
  refine sN S fun a S=>?_
  refine lT (aX _ _ ?_)
  obtain rfl:=tS h
  obtain rfl:=aq _ d
  have h:=aA
  try dsimp only at h
  obtain rfl:=tS h
  have h:=ax
  try dsimp only at h
  obtain rfl:=tS h
  have S:=S.learn (fRep (rL r_api_Point) (.slice none 0 0) ([]:(List api_Point))) (rL_nil _ _ _)
  exact wp_ret (rThen (rBlock (rThen (rThen (rBlock (rThen (sRet (.tuple #[.slice none 0 0,iv ab.2]) S (rsl2 d (rvT (t:=4) (v:=.slice none 0 0) S d) (rvT (t:=5) (v:=iv ab.2) S d)) ⟨(.slice none 0 0),d,S.mem.sel [] [0] (by decide) d d⟩)))))))
 refine sCondF S d aw (wp_skip (leafT (aV _ _ ?_)))
 refine sRegion (sM S fun a S=>?_)
 refine sM S fun a S=>?_
 refine sM S fun a S=>?_
 refine sBin _ S (wN d) d d d (bMul _ _ _ _ af aa.1) d (lb d) fun a S=>sM S fun a S=>?_
 refine sBuild [(0,iv (w64 (af * aa.1))),(1,iv ab.1)] [iv (w64 (af * aa.1)),iv ab.1] S (wN d) d d d d (lb d) fun a S=>?_
 have S:=S.learn (fRep r_api_Point (.agg #[iv (w64 (af * aa.1)),iv ab.1]) (api_Point.mk (w64 (af * aa.1)) ab.1)) d
 refine sLit (r:=r_api_Point) (T:=33) (xs:=[(api_Point.mk (w64 (af * aa.1)) ab.1)]) [(0,.agg #[iv (w64 (af * aa.1)),iv ab.1])] 1 [.agg #[iv (w64 (af * aa.1)),iv ab.1]] [iv (w64 (af * aa.1)),iv ab.1] (.agg #[iv 0,iv 0]) 16 S (wN d) d d Try.underlying26 d (by decide) (by decide) (by kernel_rfl) d (fun E1 w1 hE=>All.cons (r_api_Point.mono hE (S.mem.know (i:=0) (e:=fRep r_api_Point (.agg #[iv (w64 (af * aa.1)),iv ab.1]) (api_Point.mk (w64 (af * aa.1)) ab.1)) d)) (All.nil _ _ _)) d d (lb d) fun a w aZ b8 S=>?_
 obtain ⟨bt,ba,h⟩:=bS h
 refine sApp (r:=r_api_Point) (T:=33) (xs:=aj) (ys:=[(api_Point.mk (w64 (af * aa.1)) ab.1)]) (v:=.slice ac aj.length ae) (u:=.slice aZ [(api_Point.mk (w64 (af * aa.1)) ab.1)].length b8) 3 (.agg #[iv 0,iv 0]) 16 S (wN d) d Try.underlying26 d d (by decide) d d d (src_R (T:=33) 0 S.mem d) ba d (lb d) fun a w bb bc S=>sN S fun a S=>?_
 refine leafL (leafB (leafT (aH _ _ ?_)))
 refine sRegion (sBin _ S (wN d) d d d (bAdd _ _ _ _ ap 1) d (lb d) fun a S=>sM S fun a S=>?_)
 exact lT (⟨(bt,w64 (ap + 1)),(Option.some.inj h).symm,⟨bb,bc,S.fix [2,0] [1] (by decide) d d d⟩⟩)
def anc_piece_side_0:List (List Nat):=[[],[0],[0,1],[0,1,2],[0,1,2,3],[0,1,2,3,4],[0,1,2,3,4,5],[0,1,2,3,4,5,6],[0,1,2,3,4,5,6,7],[0,1,2,3,4,5,6,7,8],[0,1,2,3,4,5,6,7],[0,1,2,3,4,5,6,7],[0,1,2,3,4,5,6,7,11],[0,1,2,3,4,5,6,7,10,11,12],[0,1,2,3,4,5,6,7,10,11,12,13],[0,1,2,3,4,5,6,7,10,11,12,13,14],[0,1,2,3,4,5,6,7,8,9,10,11,12,13,14,15],[0,1,2,3,4,5,6,7,8,9,10,11,12,13,14,15,16],[0,1,2,3,4,5,6,7,8,9,10,11,12,13,14,15,16,17]]
noncomputable def piece_side_l1 (p0:(List api_Point)):Int→Option (Int ⊕ (Bool ⊕ Unit)):=fun s0=>match s0 with
 | a9=>
  if decide (a9 < (p0.length:Int)) then
   (idxO p0 a9).bind fun aa=>
   Option.bind (α:=Bool) (
    (F_piece_column aa.X).bind fun ab=>
    if !ab then
     some true
    else
     if decide (0 < a9) then
      (idxO p0 (w64 (a9 - 1))).bind fun ac=>
      some (decide (aa.Y ≤ ac.Y))
     else
      some false) fun ae=>
   if ae then
    some (.inr (.inl false))
   else
    some (.inl (w64 (a9 + 1)))
  else
   some (.inr (.inr ()))
noncomputable def F_piece_side (p0:(List api_Point)):Option Bool:=
 Option.bind (α:=Bool) (
  if (p0.length:Int) == 0 then
   some true
  else
   if decide (50 < (p0.length:Int)) then
    some true
   else
    (idxO p0 0).bind fun a9=>
    if a9.Y != 0 then
     some true
    else
     (idxO p0 (w64 ((p0.length:Int) - 1))).bind fun aa=>
     some (decide (100 ≤ aa.Y))) fun o5=>
 if o5 then
  some false
 else
  Option.bind (α:=Unit ⊕ Bool) (
   (whileO (piece_side_l1 p0) 0).bind fun z0=>match z0 with
    | .inl z=>
     some (.inr z)
    | .inr _=>
     some (.inl ())) fun z0=>match z0 with
   | .inl _=>
    some true
   | .inr z=>
    some z
theorem c_piece_side (E:Nat→Prop) (w0:World) (p0:(List api_Point)) (v0:Value) (r:Bool) (h:F_piece_side p0=some r) (S:St0 E [] w0 w0 [] [fRep (rL r_api_Point) (v0) p0]) :
 Calls Try.prog 44 #[v0] w0 (Ret (X:=Unit) E [] w0 (fun _=>.bool r) (fun _=>[]) (fun _=>[])):=by
 unfold F_piece_side at h
 obtain ⟨ae,af,_,rfl,_⟩:=S.know (i:=0) (e:=fRep (rL r_api_Point) (v0) p0) d
 refine sEnter (args:=[.slice ae p0.length af]) 57 Try.func44 d d (by simp) S (fun a S=>?_)
 refine sSeq (fun K3 bl=>sRegion (sN S fun a S=>?_))
 refine lT (bl _ _ (sSeq (fun K4 bm=>?_)))
 obtain ⟨t6,h,g7⟩:=bS h
 refine sCut (fun a w=>∃ o5,o5=t6∧St [] E [] w0 57 a w [(0,.slice ae p0.length af),(29,.bool o5)] [] [fRep (rL r_api_Point) (.slice ae p0.length af) p0]) ?_ (fun a w hI=>?_)
 ·refine sRegion (sM S fun a S=>?_)
  refine sLen S (wN d) d Try.underlying26 d d (lb d) fun a S=>sBin _ S (wN d) d d d (bEq _ _ _ _ .i64 (p0.length:Int) 0) d (lb d) fun a S=>sM S fun a S=>?_
  rcases iS h with ⟨am,h⟩ | ⟨am,h⟩
  ·refine sSkN 3 3 false 8 S d d am d fun a S=>sPickT (.bool true) S (wN d) d d am d d (lb d) fun a S=>sM S fun a S=>?_
   refine sSkN 5 8 false 13 S d d d d fun a S=>sPickT (.bool true) S (wN d) d d d d d (lb d) fun a S=>sM S fun a S=>?_
   refine sSkN 8 15 false 20 S d d d d fun a S=>sPickT (.bool true) S (wN d) d d d d d (lb d) fun a S=>?_
   exact lT (⟨true,Option.some.inj h,S.fix [] [0] (by decide) d d d⟩)
  refine sMove (.slice ae p0.length af) S (wG 3 false 8 d d d am) (.inl d) d d (lb d) fun a S=>sLen S (wG 3 false 8 d d d am) d Try.underlying26 d d (lb d) fun a S=>sBin _ S (wG 3 false 8 d d d am) d d d (bGt _ _ _ _ .i64 (p0.length:Int) 50) d (lb d) fun a S=>sPickF (.bool (decide (50 < (p0.length:Int)))) S (wN d) d d am d d (lb d) fun a S=>sM S fun a S=>?_
  rcases iS h with ⟨ak,h⟩ | ⟨ak,h⟩
  ·refine sSkN 5 8 false 13 S d d ak d fun a S=>sPickT (.bool true) S (wN d) d d ak d d (lb d) fun a S=>sM S fun a S=>?_
   refine sSkN 8 15 false 20 S d d d d fun a S=>sPickT (.bool true) S (wN d) d d d d d (lb d) fun a S=>?_
   exact lT (⟨true,Option.some.inj h,S.fix [] [0] (by decide) d d d⟩)
  refine sMove (.slice ae p0.length af) S (wG 8 false 13 d d d ak) (.inl d) d d (lb d) fun a S=>?_
  obtain ⟨ao,ay,h⟩:=bS h
  obtain ⟨aX,az,S⟩:=pIdx (P:=Try.prog) (r:=r_api_Point) (v:=.slice ae p0.length af) (xs:=p0) (j:=0) 26 33 0 S Try.underlying26 d d ay
  refine sIdxV S (wG 8 false 13 d d d ak) d d d az d (lb d) fun a S=>?_
  obtain ⟨aZ,aA,S⟩:=pFld (P:=Try.prog) (r:=r_api_Point) (s2:=(rI .i64)) (g:=(·.Y)) (q:=aX) (z:=ao) 33 1 0 1 S d d comp_api_Point_Y
  refine sFldV (q:=aX) S (wG 8 false 13 d d d ak) d d aA d (lb d) fun a S=>?_
  obtain ⟨b8,S⟩:=pLoad (r:=(rI .i64)) (q:=aZ) (x:=ao.Y) 0 S d
  obtain rfl:b8=iv ao.Y:=S.mem.know (i:=1) (e:=fRep (rI .i64) (b8) ao.Y) d
  refine sLoadV1 (vq:=aZ) 0 (iv ao.Y) S (wG 8 false 13 d d d ak) d d d d d (lb d) fun a S=>sBin _ S (wG 8 false 13 d d d ak) d d d (bNe _ _ _ _ .i64 ao.Y 0) d (lb d) fun a S=>sPickF (.bool (ao.Y != 0)) S (wN d) d d ak d d (lb d) fun a S=>sM S fun a S=>?_
  rcases iS h with ⟨ag,h⟩ | ⟨ag,h⟩
  ·refine sSkN 8 15 false 20 S d d ag d fun a S=>sPickT (.bool true) S (wN d) d d ag d d (lb d) fun a S=>?_
   exact lT (⟨true,Option.some.inj h,S.fix [] [4] (by decide) d d d⟩)
  refine sMove (.slice ae p0.length af) S (wG 15 false 20 d d d ag) (.inl d) d d (lb d) fun a S=>sMove (.slice ae p0.length af) S (wG 15 false 20 d d d ag) (.inl d) d d (lb d) fun a S=>sLen S (wG 15 false 20 d d d ag) d Try.underlying26 d d (lb d) fun a S=>sBin _ S (wG 15 false 20 d d d ag) d d d (bSub _ _ _ _ (p0.length:Int) 1) d (lb d) fun a S=>?_
  obtain ⟨al,aC,h⟩:=bS h
  obtain ⟨ba,aG,S⟩:=pIdx (P:=Try.prog) (r:=r_api_Point) (v:=.slice ae p0.length af) (xs:=p0) (j:=w64 ((p0.length:Int) - 1)) 26 33 4 S Try.underlying26 d d aC
  refine sIdxV S (wG 15 false 20 d d d ag) d d d aG d (lb d) fun a S=>?_
  obtain ⟨bb,aH,S⟩:=pFld (P:=Try.prog) (r:=r_api_Point) (s2:=(rI .i64)) (g:=(·.Y)) (q:=ba) (z:=al) 33 1 0 1 S d d comp_api_Point_Y
  refine sFldV (q:=ba) S (wG 15 false 20 d d d ag) d d aH d (lb d) fun a S=>?_
  obtain ⟨bc,S⟩:=pLoad (r:=(rI .i64)) (q:=bb) (x:=al.Y) 0 S d
  obtain rfl:bc=iv al.Y:=S.mem.know (i:=1) (e:=fRep (rI .i64) (bc) al.Y) d
  refine sLoadV1 (vq:=bb) 0 (iv al.Y) S (wG 15 false 20 d d d ag) d d d d d (lb d) fun a S=>sBin _ S (wG 15 false 20 d d d ag) d d d (bGe _ _ _ _ .i64 al.Y 100) d (lb d) fun a S=>sPickF (.bool (decide (100 ≤ al.Y))) S (wN d) d d ag d d (lb d) fun a S=>?_
  exact lT (⟨decide (100 ≤ al.Y),Option.some.inj h,S.fix [] [8] (by decide) d d d⟩)
 obtain ⟨o5,rfl,S⟩:=hI
 have h:=g7
 try dsimp only at h
 rcases iS h with ⟨ap,h⟩ | ⟨ap,h⟩
 ·refine sCondT S d ap (sSeq (fun bq aI=>sRegion (sN S fun a S=>?_)))
  refine lT (aI _ _ ?_)
  obtain rfl:=tS h
  exact wp_ret (rThen (sRet (.bool false) S (rsl1 d (rvT (t:=2) (v:=.bool false) S d)) ⟨(),d,S.mem.sel [] [] (by decide) d d⟩))
 refine sCondF S d ap (wp_skip (leafT (bm _ _ ?_)))
 obtain ⟨bn,h,bf⟩:=bS h
 refine sCut (fun a w=>.inl ()=bn∧St [] E [] w0 57 a w [] [] []) ?_ (fun a w hI=>?_)
 rotate_left
 ·obtain ⟨rfl,S⟩:=hI
  have h:=bf
  try dsimp only at h
  refine sSeq (fun br aJ=>sRegion (sN S fun a S=>?_))
  refine lT (aJ _ _ ?_)
  obtain rfl:=tS h
  exact wp_ret (sRet (.bool true) S (rsl1 d (rvT (t:=2) (v:=.bool true) S d)) ⟨(),d,S.mem.sel [] [] (by decide) d d⟩)
 refine sSeq (fun bt aK=>sRegion (sM S fun a S=>?_))
 refine sLen S (wN d) d Try.underlying26 d d (lb d) fun a S=>sM S fun a S=>?_
 refine lT (aK _ _ (wp_block ?_))
 obtain ⟨bu,hl,bg⟩:=bS h
 refine sLoop hl (fun s0 a w=>match s0 with | aa=>St [] E [] w0 57 a w [(0,.slice ae p0.length af),(30,.slice ae p0.length af),(31,iv (p0.length:Int)),(32,iv aa)] [] [fRep (rL r_api_Point) (.slice ae p0.length af) p0]) (S.fix [] [0] (by decide) d d d) ?_
 clear hl h
 intro aa a w c0 hI h av
 unfold piece_side_l1 at h
 dsimp only at h hI
 have S:=hI
 refine sSeq (fun bv aL=>sRegion (sBin _ S (wN d) d d d (bLt _ _ _ _ .i64 aa (p0.length:Int)) d (lb d) fun a S=>lT (aL _ _ (sSeq (fun bw aM=>?_)))))
 rcases iS h with ⟨aq,h⟩ | ⟨aq,h⟩
 rotate_left
 ·refine sCondF S d aq ?_
  obtain rfl:=tS h
  obtain rfl:=av _ d
  have h:=bg
  try dsimp only at h
  exact wp_exit (xThen (xThen (xHit (leafT (⟨Option.some.inj h,S.fix [] [] (by decide) d d d⟩)))))
 refine sCondT S d aq (wp_skip (leafT (aM _ _ ?_)))
 refine sSeq (fun bx aO=>wp_block ?_)
 refine sSeq (fun bz aP=>sRegion (sM S fun a S=>?_))
 obtain ⟨ab,aQ,h⟩:=bS h
 obtain ⟨bh,aR,S⟩:=pIdx (P:=Try.prog) (r:=r_api_Point) (v:=.slice ae p0.length af) (xs:=p0) (j:=aa) 26 33 0 S Try.underlying26 d d aQ
 refine sIdxV S (wN d) d d d aR d (lb d) fun a S=>?_
 obtain ⟨bi,S⟩:=pLoad (r:=r_api_Point) (q:=bh) (x:=ab) 0 S d
 obtain rfl:bi=.agg #[iv ab.X,iv ab.Y]:=S.mem.know (i:=1) (e:=fRep r_api_Point (bi) ab) d
 refine sLoadVN (vq:=bh) 0 [iv ab.X,iv ab.Y] S (wN d) d d d d d d (lb d) fun a S=>sAlloc (.agg #[iv 0,iv 0]) S (wN d) d d [iv 0,iv 0] d d (lb d) fun a aj w S=>sN S fun a S=>?_
 refine sStore (p:=aj) (off:=0) (T:=33) (vs:=[iv 0,iv 0]) (v:=.agg #[iv ab.X,iv ab.Y]) 0 [iv ab.X,iv ab.Y] S (wN d) d d d d d d d (by simp) d fun a w S=>lT (aP _ _ ?_)
 obtain ⟨bo,h,bp⟩:=bS h
 refine sCut (fun a w=>∃ aS,aS=bo∧St [] E [] w0 57 a w [(0,.slice ae p0.length af),(30,.slice ae p0.length af),(31,iv (p0.length:Int)),(32,iv aa),(55,.bool aS)] [] [fRep (rL r_api_Point) (.slice ae p0.length af) p0]) ?_ (fun a w hI=>?_)
 rotate_left
 ·obtain ⟨aS,rfl,S⟩:=hI
  have h:=bp
  try dsimp only at h
  rcases iS h with ⟨ar,h⟩ | ⟨ar,h⟩
  rotate_left
  ·refine sCondF S d ar (wp_skip (leafB (leafT (aO _ _ ?_))))
   refine sRegion (sBin _ S (wN d) d d d (bAdd _ _ _ _ aa 1) d (lb d) fun a S=>sM S fun a S=>?_)
   exact lT (⟨w64 (aa + 1),(Option.some.inj h).symm,(S.fix [] [0] (by decide) d d d)⟩)
  refine sCondT S d ar (sSeq (fun bA aT=>sRegion (sN S fun a S=>?_)))
  refine lT (aT _ _ ?_)
  obtain rfl:=tS h
  obtain rfl:=av _ d
  have h:=bg
  try dsimp only at h
  obtain rfl:=tS h
  have h:=bf
  try dsimp only at h
  obtain rfl:=tS h
  exact wp_ret (rBlock (rThen (rThen (rBlock (rThen (sRet (.bool false) S (rsl1 d (rvT (t:=2) (v:=.bool false) S d)) ⟨(),d,S.mem.sel [] [] (by decide) d d⟩))))))
 obtain ⟨ah,au,h⟩:=bS h
 rcases iS h with ⟨ac,h⟩ | ⟨ac,h⟩
 ·refine sDraw (nf:=[]) (W:=[(0,37,.pointer (some ⟨aj,0,none⟩)),(1,38,iv ab.X),(2,39,.bool ah),(3,40,.bool (!ah)),(4,41,.bool (!ah)),(5,42,undef),(6,43,undef),(7,44,undef),(8,45,undef),(9,46,undef),(10,47,undef),(11,48,undef),(12,49,undef),(13,50,undef),(14,51,undef),(15,52,undef),(16,53,undef),(17,54,undef),(18,55,.bool true)]) d S ?_
  refine node_by (A:=anc_piece_side_0) 19 (by kernel_rfl) (by kernel_rfl) (by kernel_rfl) (by kernel_rfl) (by kernel_rfl) [0,1,2,3,4,5,6,7,8,9,10,11,12,13,14,15,16,17,18] (by kernel_rfl) (by decide) (by decide) (fF ?_ (fF ?_ (fF ?_ (fF ?_ (fF ?_ (fF ?_ (fF ?_ (fF ?_ (fF ?_ (fF ?_ (fF ?_ (fF ?_ (fF ?_ (fF ?_ (fF ?_ (fF ?_ (fF ?_ (fF ?_ (fF ?_ (trivial)))))))))))))))))))) [(0,.slice ae p0.length af),(30,.slice ae p0.length af),(31,iv (p0.length:Int)),(32,iv aa),(42,undef),(43,undef),(44,undef),(45,undef),(46,undef),(47,undef),(48,undef),(49,undef),(50,undef),(51,undef),(52,undef),(53,undef),(54,undef),(55,.bool true)] (fin_of [none,none,none,none,some 5,some 6,some 7,some 8,some 9,some 10,some 11,some 12,some 13,some 14,some 15,some 16,some 17,some 18] d (by kernel_rfl) (by kernel_rfl)) (fun _ a w S=>?_)
  ·refine fJ [(4,_)] 0 [none] fun G a w S=>?_
   exact sField (b:=aj) (off:=0) 0 0 S (wN d) d d d d d (lb d) fun a S=>leafL ⟨d,S⟩
  ·refine fJ [(37,_)] 1 [some 0] fun G a w S=>?_
   exact sLoad1 0 (iv ab.X) S (wN d) d d d d d d (lb d) fun a S=>leafL ⟨d,S⟩
  ·refine fJ [(38,_)] 2 [some 1] fun G a w S=>?_
   have S1:=S.mem
   refine sCq [iv ab.X] (.bool ah) S callee45 (S1.quiet [] d) (fun E1 w1 S1=>c_piece_column E1 w1 ab.X ah au S1) fun a w S=>?_
   exact leafL ⟨d,S⟩
  ·refine fJ [(39,_)] 3 [some 2] fun G a w S=>?_
   exact sNot (b:=ah) S (wN d) d d d (lb d) fun a S=>leafL ⟨d,S⟩
  ·exact fM 4 (some 3) d d d d (.inl d) d d d
  ·refine fJ [(3,_),(41,_)] 5 [none,some 4] fun G a w S=>?_
   exact sSk S d d d ac d d fun a S=>leafL ⟨d,S⟩
  ·refine fJ [(42,_),(41,_)] 6 [some 5,some 4] fun G a w S=>?_
   exact sSk S d d d ac d d fun a S=>leafL ⟨d,S⟩
  ·refine fJ [(43,_),(41,_)] 7 [some 6,some 4] fun G a w S=>?_
   exact sSk S d d d ac d d fun a S=>leafL ⟨d,S⟩
  ·refine fJ [(4,_),(44,_)] 8 [none,some 7] fun G a w S=>?_
   exact sSkipU 7 true 44 45 S d d d d (lb d) fun a S=>leafL ⟨d,S⟩
  ·refine fJ [(45,_),(44,_)] 9 [some 8,some 7] fun G a w S=>?_
   exact sSkipU 7 true 44 46 S d d d d (lb d) fun a S=>leafL ⟨d,S⟩
  ·refine fJ [(0,_),(44,_)] 10 [none,some 7] fun G a w S=>?_
   exact sSkipU 7 true 44 47 S d d d d (lb d) fun a S=>leafL ⟨d,S⟩
  ·refine fJ [(3,_),(44,_)] 11 [none,some 7] fun G a w S=>?_
   exact sSkipU 7 true 44 48 S d d d d (lb d) fun a S=>leafL ⟨d,S⟩
  ·refine fJ [(48,_),(44,_)] 12 [some 11,some 7] fun G a w S=>?_
   exact sSkipU 7 true 44 49 S d d d d (lb d) fun a S=>leafL ⟨d,S⟩
  ·refine fJ [(47,_),(49,_),(44,_)] 13 [some 10,some 12,some 7] fun G a w S=>?_
   exact sSkipU 7 true 44 50 S d d d d (lb d) fun a S=>leafL ⟨d,S⟩
  ·refine fJ [(50,_),(44,_)] 14 [some 13,some 7] fun G a w S=>?_
   exact sSkipU 7 true 44 51 S d d d d (lb d) fun a S=>leafL ⟨d,S⟩
  ·refine fJ [(51,_),(44,_)] 15 [some 14,some 7] fun G a w S=>?_
   exact sSkipU 7 true 44 52 S d d d d (lb d) fun a S=>leafL ⟨d,S⟩
  ·refine fJ [(46,_),(52,_),(44,_)] 16 [some 9,some 15,some 7] fun G a w S=>?_
   exact sSkipU 7 true 44 53 S d d d d (lb d) fun a S=>leafL ⟨d,S⟩
  ·refine fJ [(44,_),(53,_),(41,_)] 17 [some 7,some 16,some 4] fun G a w S=>?_
   exact sSk S d d d ac d d fun a S=>leafL ⟨d,S⟩
  ·refine fJ [(41,_),(54,_)] 18 [some 4,some 17] fun G a w S=>?_
   exact sPickT (.bool true) S (wN d) d d ac d d (lb d) fun a S=>leafL ⟨d,S⟩
  exact leafT (⟨true,Option.some.inj h,S.fix [] [3] (by decide) d d d⟩)
 rcases iS h with ⟨a9,h⟩ | ⟨a9,h⟩
 rotate_left
 ·refine sDraw (nf:=[]) (W:=[(0,37,.pointer (some ⟨aj,0,none⟩)),(1,38,iv ab.X),(2,39,.bool ah),(3,40,.bool (!ah)),(4,41,.bool (!ah)),(5,42,iv aa),(6,43,.bool (decide (0 < aa))),(7,44,.bool (decide (0 < aa))),(8,45,undef),(9,46,undef),(10,47,undef),(11,48,undef),(12,49,undef),(13,50,undef),(14,51,undef),(15,52,undef),(16,53,undef),(17,54,.bool false),(18,55,.bool false)]) d S ?_
  refine node_by (A:=anc_piece_side_0) 19 (by kernel_rfl) (by kernel_rfl) (by kernel_rfl) (by kernel_rfl) (by kernel_rfl) [0,1,2,3,4,5,6,7,8,9,10,11,12,13,14,15,16,17,18] (by kernel_rfl) (by decide) (by decide) (fF ?_ (fF ?_ (fF ?_ (fF ?_ (fF ?_ (fF ?_ (fF ?_ (fF ?_ (fF ?_ (fF ?_ (fF ?_ (fF ?_ (fF ?_ (fF ?_ (fF ?_ (fF ?_ (fF ?_ (fF ?_ (fF ?_ (trivial)))))))))))))))))))) [(0,.slice ae p0.length af),(30,.slice ae p0.length af),(31,iv (p0.length:Int)),(32,iv aa),(42,iv aa),(43,.bool (decide (0 < aa))),(44,.bool (decide (0 < aa))),(45,undef),(46,undef),(47,undef),(48,undef),(49,undef),(50,undef),(51,undef),(52,undef),(53,undef),(54,.bool false),(55,.bool false)] (fin_of [none,none,none,none,some 5,some 6,some 7,some 8,some 9,some 10,some 11,some 12,some 13,some 14,some 15,some 16,some 17,some 18] d (by kernel_rfl) (by kernel_rfl)) (fun _ a w S=>?_)
  ·refine fJ [(4,_)] 0 [none] fun G a w S=>?_
   exact sField (b:=aj) (off:=0) 0 0 S (wN d) d d d d d (lb d) fun a S=>leafL ⟨d,S⟩
  ·refine fJ [(37,_)] 1 [some 0] fun G a w S=>?_
   exact sLoad1 0 (iv ab.X) S (wN d) d d d d d d (lb d) fun a S=>leafL ⟨d,S⟩
  ·refine fJ [(38,_)] 2 [some 1] fun G a w S=>?_
   have S1:=S.mem
   refine sCq [iv ab.X] (.bool ah) S callee45 (S1.quiet [] d) (fun E1 w1 S1=>c_piece_column E1 w1 ab.X ah au S1) fun a w S=>?_
   exact leafL ⟨d,S⟩
  ·refine fJ [(39,_)] 3 [some 2] fun G a w S=>?_
   exact sNot (b:=ah) S (wN d) d d d (lb d) fun a S=>leafL ⟨d,S⟩
  ·exact fM 4 (some 3) d d d d (.inl d) d d d
  ·refine fJ [(3,_),(41,_)] 5 [none,some 4] fun G a w S=>?_
   exact sMove (iv aa) S (wG 4 false 41 d d d ac) (.inl d) d d (lb d) fun a S=>leafL ⟨d,S⟩
  ·refine fJ [(42,_),(41,_)] 6 [some 5,some 4] fun G a w S=>?_
   exact sBin _ S (wG 4 false 41 d d d ac) d d d (bGt _ _ _ _ .i64 aa 0) d (lb d) fun a S=>leafL ⟨d,S⟩
  ·refine fJ [(43,_),(41,_)] 7 [some 6,some 4] fun G a w S=>?_
   exact sMove (.bool (decide (0 < aa))) S (wG 4 false 41 d d d ac) (.inl d) d d (lb d) fun a S=>leafL ⟨d,S⟩
  ·refine fJ [(4,_),(44,_)] 8 [none,some 7] fun G a w S=>?_
   exact sSk S d d d a9 d d fun a S=>leafL ⟨d,S⟩
  ·refine fJ [(45,_),(44,_)] 9 [some 8,some 7] fun G a w S=>?_
   exact sSk S d d d a9 d d fun a S=>leafL ⟨d,S⟩
  ·refine fJ [(0,_),(44,_)] 10 [none,some 7] fun G a w S=>?_
   exact sSk S d d d a9 d d fun a S=>leafL ⟨d,S⟩
  ·refine fJ [(3,_),(44,_)] 11 [none,some 7] fun G a w S=>?_
   exact sSk S d d d a9 d d fun a S=>leafL ⟨d,S⟩
  ·refine fJ [(48,_),(44,_)] 12 [some 11,some 7] fun G a w S=>?_
   exact sSk S d d d a9 d d fun a S=>leafL ⟨d,S⟩
  ·refine fJ [(47,_),(49,_),(44,_)] 13 [some 10,some 12,some 7] fun G a w S=>?_
   exact sSk S d d d a9 d d fun a S=>leafL ⟨d,S⟩
  ·refine fJ [(50,_),(44,_)] 14 [some 13,some 7] fun G a w S=>?_
   exact sSk S d d d a9 d d fun a S=>leafL ⟨d,S⟩
  ·refine fJ [(51,_),(44,_)] 15 [some 14,some 7] fun G a w S=>?_
   exact sSk S d d d a9 d d fun a S=>leafL ⟨d,S⟩
  ·refine fJ [(46,_),(52,_),(44,_)] 16 [some 9,some 15,some 7] fun G a w S=>?_
   exact sSk S d d d a9 d d fun a S=>leafL ⟨d,S⟩
  ·refine fJ [(44,_),(53,_),(41,_)] 17 [some 7,some 16,some 4] fun G a w S=>?_
   exact sPickF (.bool false) S (wG 4 false 41 d d d ac) d d a9 d d (lb d) fun a S=>leafL ⟨d,S⟩
  ·refine fJ [(41,_),(54,_)] 18 [some 4,some 17] fun G a w S=>?_
   exact sPickF (.bool false) S (wN d) d d ac d d (lb d) fun a S=>leafL ⟨d,S⟩
  exact leafT (⟨false,Option.some.inj h,S.fix [] [3] (by decide) d d d⟩)
 obtain ⟨ai,aU,h⟩:=bS h
 obtain ⟨aw,aV,S⟩:=pIdx (P:=Try.prog) (r:=r_api_Point) (v:=.slice ae p0.length af) (xs:=p0) (j:=w64 (aa - 1)) 26 33 3 S Try.underlying26 d d aU
 obtain ⟨ax,aW,S⟩:=pFld (P:=Try.prog) (r:=r_api_Point) (s2:=(rI .i64)) (g:=(·.Y)) (q:=aw) (z:=ai) 33 1 0 1 S d d comp_api_Point_Y
 obtain ⟨bj,S⟩:=pLoad (r:=(rI .i64)) (q:=ax) (x:=ai.Y) 0 S d
 obtain rfl:bj=iv ai.Y:=S.mem.know (i:=1) (e:=fRep (rI .i64) (bj) ai.Y) d
 refine sDraw (nf:=[]) (W:=[(0,37,.pointer (some ⟨aj,0,none⟩)),(1,38,iv ab.X),(2,39,.bool ah),(3,40,.bool (!ah)),(4,41,.bool (!ah)),(5,42,iv aa),(6,43,.bool (decide (0 < aa))),(7,44,.bool (decide (0 < aa))),(8,45,.pointer (some ⟨aj,1,none⟩)),(9,46,iv ab.Y),(10,47,.slice ae p0.length af),(11,48,iv aa),(12,49,iv (w64 (aa - 1))),(13,50,aw),(14,51,ax),(15,52,iv ai.Y),(16,53,.bool (decide (ab.Y ≤ ai.Y))),(17,54,.bool (decide (ab.Y ≤ ai.Y))),(18,55,.bool (decide (ab.Y ≤ ai.Y)))]) d S ?_
 refine node_by (A:=anc_piece_side_0) 19 (by kernel_rfl) (by kernel_rfl) (by kernel_rfl) (by kernel_rfl) (by kernel_rfl) [0,1,2,3,4,5,6,7,8,9,10,11,12,13,14,15,16,17,18] (by kernel_rfl) (by decide) (by decide) (fF ?_ (fF ?_ (fF ?_ (fF ?_ (fF ?_ (fF ?_ (fF ?_ (fF ?_ (fF ?_ (fF ?_ (fF ?_ (fF ?_ (fF ?_ (fF ?_ (fF ?_ (fF ?_ (fF ?_ (fF ?_ (fF ?_ (trivial)))))))))))))))))))) [(0,.slice ae p0.length af),(30,.slice ae p0.length af),(31,iv (p0.length:Int)),(32,iv aa),(42,iv aa),(43,.bool (decide (0 < aa))),(44,.bool (decide (0 < aa))),(45,.pointer (some ⟨aj,1,none⟩)),(46,iv ab.Y),(47,.slice ae p0.length af),(48,iv aa),(49,iv (w64 (aa - 1))),(50,aw),(51,ax),(52,iv ai.Y),(53,.bool (decide (ab.Y ≤ ai.Y))),(54,.bool (decide (ab.Y ≤ ai.Y))),(55,.bool (decide (ab.Y ≤ ai.Y)))] (fin_of [none,none,none,none,some 5,some 6,some 7,some 8,some 9,some 10,some 11,some 12,some 13,some 14,some 15,some 16,some 17,some 18] d (by kernel_rfl) (by kernel_rfl)) (fun _ a w S=>?_)
 ·refine fJ [(4,_)] 0 [none] fun G a w S=>?_
  exact sField (b:=aj) (off:=0) 0 0 S (wN d) d d d d d (lb d) fun a S=>leafL ⟨d,S⟩
 ·refine fJ [(37,_)] 1 [some 0] fun G a w S=>?_
  exact sLoad1 0 (iv ab.X) S (wN d) d d d d d d (lb d) fun a S=>leafL ⟨d,S⟩
 ·refine fJ [(38,_)] 2 [some 1] fun G a w S=>?_
  have S1:=S.mem
  refine sCq [iv ab.X] (.bool ah) S callee45 (S1.quiet [] d) (fun E1 w1 S1=>c_piece_column E1 w1 ab.X ah au S1) fun a w S=>?_
  exact leafL ⟨d,S⟩
 ·refine fJ [(39,_)] 3 [some 2] fun G a w S=>?_
  exact sNot (b:=ah) S (wN d) d d d (lb d) fun a S=>leafL ⟨d,S⟩
 ·exact fM 4 (some 3) d d d d (.inl d) d d d
 ·refine fJ [(3,_),(41,_)] 5 [none,some 4] fun G a w S=>?_
  exact sMove (iv aa) S (wG 4 false 41 d d d ac) (.inl d) d d (lb d) fun a S=>leafL ⟨d,S⟩
 ·refine fJ [(42,_),(41,_)] 6 [some 5,some 4] fun G a w S=>?_
  exact sBin _ S (wG 4 false 41 d d d ac) d d d (bGt _ _ _ _ .i64 aa 0) d (lb d) fun a S=>leafL ⟨d,S⟩
 ·refine fJ [(43,_),(41,_)] 7 [some 6,some 4] fun G a w S=>?_
  exact sMove (.bool (decide (0 < aa))) S (wG 4 false 41 d d d ac) (.inl d) d d (lb d) fun a S=>leafL ⟨d,S⟩
 ·refine fJ [(4,_),(44,_)] 8 [none,some 7] fun G a w S=>?_
  exact sField (b:=aj) (off:=0) 1 1 S (wG 7 true 44 d d d a9) d d d d d (lb d) fun a S=>leafL ⟨d,S⟩
 ·refine fJ [(45,_),(44,_)] 9 [some 8,some 7] fun G a w S=>?_
  exact sLoad1 0 (iv ab.Y) S (wG 7 true 44 d d d a9) d d d d d d (lb d) fun a S=>leafL ⟨d,S⟩
 ·refine fJ [(0,_),(44,_)] 10 [none,some 7] fun G a w S=>?_
  exact sMove (.slice ae p0.length af) S (wG 7 true 44 d d d a9) (.inl d) d d (lb d) fun a S=>leafL ⟨d,S⟩
 ·refine fJ [(3,_),(44,_)] 11 [none,some 7] fun G a w S=>?_
  exact sMove (iv aa) S (wG 7 true 44 d d d a9) (.inl d) d d (lb d) fun a S=>leafL ⟨d,S⟩
 ·refine fJ [(48,_),(44,_)] 12 [some 11,some 7] fun G a w S=>?_
  exact sBin _ S (wG 7 true 44 d d d a9) d d d (bSub _ _ _ _ aa 1) d (lb d) fun a S=>leafL ⟨d,S⟩
 ·refine fJ [(47,_),(49,_),(44,_)] 13 [some 10,some 12,some 7] fun G a w S=>?_
  exact sIdxV S (wG 7 true 44 d d d a9) d d d aV d (lb d) fun a S=>leafL ⟨d,S⟩
 ·refine fJ [(50,_),(44,_)] 14 [some 13,some 7] fun G a w S=>?_
  exact sFldV (q:=aw) S (wG 7 true 44 d d d a9) d d aW d (lb d) fun a S=>leafL ⟨d,S⟩
 ·refine fJ [(51,_),(44,_)] 15 [some 14,some 7] fun G a w S=>?_
  exact sLoadV1 (vq:=ax) 0 (iv ai.Y) S (wG 7 true 44 d d d a9) d d d d d (lb d) fun a S=>leafL ⟨d,S⟩
 ·refine fJ [(46,_),(52,_),(44,_)] 16 [some 9,some 15,some 7] fun G a w S=>?_
  exact sBin _ S (wG 7 true 44 d d d a9) d d d (bLe _ _ _ _ .i64 ab.Y ai.Y) d (lb d) fun a S=>leafL ⟨d,S⟩
 ·refine fJ [(44,_),(53,_),(41,_)] 17 [some 7,some 16,some 4] fun G a w S=>?_
  exact sPickT (.bool (decide (ab.Y ≤ ai.Y))) S (wG 4 false 41 d d d ac) d d a9 d d (lb d) fun a S=>leafL ⟨d,S⟩
 ·refine fJ [(41,_),(54,_)] 18 [some 4,some 17] fun G a w S=>?_
  exact sPickF (.bool (decide (ab.Y ≤ ai.Y))) S (wN d) d d ac d d (lb d) fun a S=>leafL ⟨d,S⟩
 exact leafT (⟨decide (ab.Y ≤ ai.Y),Option.some.inj h,S.fix [] [7] (by decide) d d d⟩)
def anc_piece_shape_0:List (List Nat):=[[],[0],[0,1],[0,1,2],[0,1,2,3],[0,1,2,3,4],[0,1,2,3,4,5],[0,1,2,3,4,5,6],[0,1,2,3,4,5,6,7],[0,1,2,3,4,5,6,7,8],[0,1,2,3,4,5,6,7,8,9],[0,1,2,3,4,5,6,7,8,9,10],[0,1,2,3,4,5,6,7,8,9,10,11],[0,1,2,3,4,5,6,7,8,9,10],[0,1,2,3,4,5,6,7,8,9,10,13],[0,1,2,3,4,5,6,7,8,9,10,13,14],[0,1,2,3,4,5,6,7,8,9,10,13,14,15],[0,1,2,3,4,5,6,7,8,9,10,11,12,13,14,15,16],[0,1,2,3,4,5,6,7,8,9,10,11,12,13,14,15,16,17],[0,1,2,3,4,5,6,7,8,9,10,11,12,13,14,15,16,17,18],[0,1,2,3,4,5,6,7,8,9,10],[0,1,2,3,4,5,6,7,8,9,10,20],[0,1,2,3,4,5,6,7,8,9,10],[0,1,2,3,4,5,6,7,8,9,10,22],[0,1,2,3,4,5,6,7,8,9,10,22,23],[0,1,2,3,4,5,6,7,8,9,10,22,23,24],[0,1,2,3,4,5,6,7,8,9,10,20,21,22,23,24,25],[0,1,2,3,4,5,6,7,8,9,10,20,21,22,23,24,25,26],[0,1,2,3,4,5,6,7,8,9,10,20,21,22,23,24,25,26,27],[0,1,2,3,4,5,6,7,8,9,10,11,12,13,14,15,16,17,18,19,20,21,22,23,24,25,26,27,28],[0,1,2,3,4,5,6,7,8,9,10,11,12,13,14,15,16,17,18,19,20,21,22,23,24,25,26,27,28,29]]
noncomputable def F_piece_shape (p0:api_Shape):Option Int:=
 Option.bind (α:=Bool) (
  (F_piece_side p0.Left).bind fun a9=>
  if !a9 then
   some true
  else
   (F_piece_side p0.Right).bind fun aa=>
   if !aa then
    some true
   else
    (idxO p0.Left (w64 ((p0.Left.length:Int) - 1))).bind fun ab=>
    (idxO p0.Right (w64 ((p0.Right.length:Int) - 1))).bind fun ac=>
    some (ab.Y != ac.Y)) fun ae=>
 if ae then
  some 8
 else
  some 0
theorem c_piece_shape (E:Nat→Prop) (w0:World) (p0:api_Shape) (v0:Value) (r:Int) (h:F_piece_shape p0=some r) (S:St0 E [] w0 w0 [] [fRep r_api_Shape (v0) p0]) :
 Calls Try.prog 18 #[v0] w0 (Ret (X:=Unit) E [] w0 (fun _=>.int .i64 r) (fun _=>[]) (fun _=>[])):=by
 unfold F_piece_shape at h
 obtain ⟨u1,u2,rfl,aJ,aK⟩:=S.know (i:=0) (e:=fRep r_api_Shape (v0) p0) d
 have S:=S.learn (fRep (rL r_api_Point) u1 p0.Left) aJ
 obtain ⟨ab,ac,_,rfl,_⟩:=aJ
 have S:=S.learn (fRep (rL r_api_Point) u2 p0.Right) aK
 obtain ⟨ag,ah,_,rfl,_⟩:=aK
 refine sEnter (args:=[.agg #[.slice ab p0.Left.length ac,.slice ag p0.Right.length ah]]) 34 Try.func18 d d (by simp) S (fun a S=>?_)
 refine sSeq (fun K9 aO=>sRegion (sBox (v:=.agg #[.slice ab p0.Left.length ac,.slice ag p0.Right.length ah]) S (wN d) d d [.slice ab p0.Left.length ac,.slice ag p0.Right.length ah] d d (lb d) fun a ae w S=>sN S fun a S=>?_))
 refine lT (aO _ _ (sSeq (fun aR ap=>?_)))
 obtain ⟨aP,h,aQ⟩:=bS h
 refine sCut (fun a w=>∃ aq,aq=aP∧St [] E [] w0 34 a w [(33,.bool aq)] [] []) ?_ (fun a w hI=>?_)
 rotate_left
 ·obtain ⟨aq,rfl,S⟩:=hI
  have h:=aQ
  try dsimp only at h
  rcases iS h with ⟨al,h⟩ | ⟨al,h⟩
  ·refine sCondT S d al (sSeq (fun aS ar=>sRegion (sN S fun a S=>?_)))
   refine lT (ar _ _ ?_)
   obtain rfl:=tS h
   exact wp_ret (rThen (sRet (iv 8) S (rsl1 d (rvT (t:=2) (v:=iv 8) S d)) ⟨(),d,S.mem.sel [] [] (by decide) d d⟩))
  refine sCondF S d al (wp_skip (leafT (ap _ _ ?_)))
  refine sSeq (fun aT au=>sRegion (sN S fun a S=>?_))
  refine lT (au _ _ ?_)
  obtain rfl:=tS h
  exact wp_ret (sRet (iv 0) S (rsl1 d (rvT (t:=2) (v:=iv 0) S d)) ⟨(),d,S.mem.sel [] [] (by decide) d d⟩)
 obtain ⟨af,am,h⟩:=bS h
 rcases iS h with ⟨aa,h⟩ | ⟨aa,h⟩
 ·refine sDraw (nf:=[]) (W:=[(0,3,.pointer (some ⟨ae,0,none⟩)),(1,4,.slice ab p0.Left.length ac),(2,5,.bool af),(3,6,.bool (!af)),(4,7,.bool (!af)),(5,8,undef),(6,9,undef),(7,10,undef),(8,11,undef),(9,12,.bool true),(10,13,.bool true),(11,14,undef),(12,15,undef),(13,16,undef),(14,17,undef),(15,18,undef),(16,19,undef),(17,20,undef),(18,21,undef),(19,22,undef),(20,23,undef),(21,24,undef),(22,25,undef),(23,26,undef),(24,27,undef),(25,28,undef),(26,29,undef),(27,30,undef),(28,31,undef),(29,32,undef),(30,33,.bool true)]) d S ?_
  refine node_by (A:=anc_piece_shape_0) 31 (by kernel_rfl) (by kernel_rfl) (by kernel_rfl) (by kernel_rfl) (by kernel_rfl) [0,1,2,3,4,5,6,7,8,9,10,11,12,13,14,15,16,17,18,19,20,21,22,23,24,25,26,27,28,29,30] (by kernel_rfl) (by decide) (by decide) (fF ?_ (fF ?_ (fF ?_ (fF ?_ (fF ?_ (fF ?_ (fF ?_ (fF ?_ (fF ?_ (fF ?_ (fF ?_ (fF ?_ (fF ?_ (fF ?_ (fF ?_ (fF ?_ (fF ?_ (fF ?_ (fF ?_ (fF ?_ (fF ?_ (fF ?_ (fF ?_ (fF ?_ (fF ?_ (fF ?_ (fF ?_ (fF ?_ (fF ?_ (fF ?_ (fF ?_ (trivial)))))))))))))))))))))))))))))))) [(33,.bool true)] (fin_of [some 30] d (by kernel_rfl) (by kernel_rfl)) (fun _ a w S=>?_)
  ·refine fJ [(1,_)] 0 [none] fun G a w S=>?_
   exact sField (b:=ae) (off:=0) 0 0 S (wN d) d d d d d (lb d) fun a S=>leafL ⟨d,S⟩
  ·refine fJ [(3,_)] 1 [some 0] fun G a w S=>?_
   exact sLoad1 0 (.slice ab p0.Left.length ac) S (wN d) d d d d d d (lb d) fun a S=>leafL ⟨d,S⟩
  ·refine fJ [(4,_)] 2 [some 1] fun G a w S=>?_
   have S1:=S.mem
   refine sCq [.slice ab p0.Left.length ac] (.bool af) S callee44 (S1.quiet [1] d) (fun E1 w1 S1=>c_piece_side E1 w1 p0.Left (.slice ab p0.Left.length ac) af am S1) fun a w S=>?_
   exact leafL ⟨d,S⟩
  ·refine fJ [(5,_)] 3 [some 2] fun G a w S=>?_
   exact sNot (b:=af) S (wN d) d d d (lb d) fun a S=>leafL ⟨d,S⟩
  ·exact fM 4 (some 3) d d d d (.inl d) d d d
  ·refine fJ [(1,_),(7,_)] 5 [none,some 4] fun G a w S=>?_
   exact sSk S d d d aa d d fun a S=>leafL ⟨d,S⟩
  ·refine fJ [(8,_),(7,_)] 6 [some 5,some 4] fun G a w S=>?_
   exact sSk S d d d aa d d fun a S=>leafL ⟨d,S⟩
  ·refine fJ [(9,_),(7,_)] 7 [some 6,some 4] fun G a w S=>?_
   exact sSk S d d d aa d d fun a S=>leafL ⟨d,S⟩
  ·refine fJ [(10,_),(7,_)] 8 [some 7,some 4] fun G a w S=>?_
   exact sSk S d d d aa d d fun a S=>leafL ⟨d,S⟩
  ·refine fJ [(7,_),(11,_)] 9 [some 4,some 8] fun G a w S=>?_
   exact sPickT (.bool true) S (wN d) d d aa d d (lb d) fun a S=>leafL ⟨d,S⟩
  ·exact fM 10 (some 9) d d d d (.inl d) d d d
  ·refine fJ [(1,_),(13,_)] 11 [none,some 10] fun G a w S=>?_
   exact sSk S d d d d d d fun a S=>leafL ⟨d,S⟩
  ·refine fJ [(14,_),(13,_)] 12 [some 11,some 10] fun G a w S=>?_
   exact sSk S d d d d d d fun a S=>leafL ⟨d,S⟩
  ·refine fJ [(1,_),(13,_)] 13 [none,some 10] fun G a w S=>?_
   exact sSk S d d d d d d fun a S=>leafL ⟨d,S⟩
  ·refine fJ [(16,_),(13,_)] 14 [some 13,some 10] fun G a w S=>?_
   exact sSk S d d d d d d fun a S=>leafL ⟨d,S⟩
  ·refine fJ [(17,_),(13,_)] 15 [some 14,some 10] fun G a w S=>?_
   exact sSk S d d d d d d fun a S=>leafL ⟨d,S⟩
  ·refine fJ [(18,_),(13,_)] 16 [some 15,some 10] fun G a w S=>?_
   exact sSk S d d d d d d fun a S=>leafL ⟨d,S⟩
  ·refine fJ [(15,_),(19,_),(13,_)] 17 [some 12,some 16,some 10] fun G a w S=>?_
   exact sSk S d d d d d d fun a S=>leafL ⟨d,S⟩
  ·refine fJ [(20,_),(13,_)] 18 [some 17,some 10] fun G a w S=>?_
   exact sSk S d d d d d d fun a S=>leafL ⟨d,S⟩
  ·refine fJ [(21,_),(13,_)] 19 [some 18,some 10] fun G a w S=>?_
   exact sSk S d d d d d d fun a S=>leafL ⟨d,S⟩
  ·refine fJ [(1,_),(13,_)] 20 [none,some 10] fun G a w S=>?_
   exact sSk S d d d d d d fun a S=>leafL ⟨d,S⟩
  ·refine fJ [(23,_),(13,_)] 21 [some 20,some 10] fun G a w S=>?_
   exact sSk S d d d d d d fun a S=>leafL ⟨d,S⟩
  ·refine fJ [(1,_),(13,_)] 22 [none,some 10] fun G a w S=>?_
   exact sSk S d d d d d d fun a S=>leafL ⟨d,S⟩
  ·refine fJ [(25,_),(13,_)] 23 [some 22,some 10] fun G a w S=>?_
   exact sSk S d d d d d d fun a S=>leafL ⟨d,S⟩
  ·refine fJ [(26,_),(13,_)] 24 [some 23,some 10] fun G a w S=>?_
   exact sSk S d d d d d d fun a S=>leafL ⟨d,S⟩
  ·refine fJ [(27,_),(13,_)] 25 [some 24,some 10] fun G a w S=>?_
   exact sSk S d d d d d d fun a S=>leafL ⟨d,S⟩
  ·refine fJ [(24,_),(28,_),(13,_)] 26 [some 21,some 25,some 10] fun G a w S=>?_
   exact sSk S d d d d d d fun a S=>leafL ⟨d,S⟩
  ·refine fJ [(29,_),(13,_)] 27 [some 26,some 10] fun G a w S=>?_
   exact sSk S d d d d d d fun a S=>leafL ⟨d,S⟩
  ·refine fJ [(30,_),(13,_)] 28 [some 27,some 10] fun G a w S=>?_
   exact sSk S d d d d d d fun a S=>leafL ⟨d,S⟩
  ·refine fJ [(22,_),(31,_),(13,_)] 29 [some 19,some 28,some 10] fun G a w S=>?_
   exact sSk S d d d d d d fun a S=>leafL ⟨d,S⟩
  ·refine fJ [(13,_),(32,_)] 30 [some 10,some 29] fun G a w S=>?_
   exact sPickT (.bool true) S (wN d) d d d d d (lb d) fun a S=>leafL ⟨d,S⟩
  exact leafT (⟨true,Option.some.inj h,S.fix [] [] (by decide) d d d⟩)
 obtain ⟨ai,ao,h⟩:=bS h
 rcases iS h with ⟨a9,h⟩ | ⟨a9,h⟩
 ·refine sDraw (nf:=[]) (W:=[(0,3,.pointer (some ⟨ae,0,none⟩)),(1,4,.slice ab p0.Left.length ac),(2,5,.bool af),(3,6,.bool (!af)),(4,7,.bool (!af)),(5,8,.pointer (some ⟨ae,1,none⟩)),(6,9,.slice ag p0.Right.length ah),(7,10,.bool ai),(8,11,.bool (!ai)),(9,12,.bool (!ai)),(10,13,.bool (!ai)),(11,14,undef),(12,15,undef),(13,16,undef),(14,17,undef),(15,18,undef),(16,19,undef),(17,20,undef),(18,21,undef),(19,22,undef),(20,23,undef),(21,24,undef),(22,25,undef),(23,26,undef),(24,27,undef),(25,28,undef),(26,29,undef),(27,30,undef),(28,31,undef),(29,32,undef),(30,33,.bool true)]) d S ?_
  refine node_by (A:=anc_piece_shape_0) 31 (by kernel_rfl) (by kernel_rfl) (by kernel_rfl) (by kernel_rfl) (by kernel_rfl) [0,1,2,3,4,5,6,7,8,9,10,11,12,13,14,15,16,17,18,19,20,21,22,23,24,25,26,27,28,29,30] (by kernel_rfl) (by decide) (by decide) (fF ?_ (fF ?_ (fF ?_ (fF ?_ (fF ?_ (fF ?_ (fF ?_ (fF ?_ (fF ?_ (fF ?_ (fF ?_ (fF ?_ (fF ?_ (fF ?_ (fF ?_ (fF ?_ (fF ?_ (fF ?_ (fF ?_ (fF ?_ (fF ?_ (fF ?_ (fF ?_ (fF ?_ (fF ?_ (fF ?_ (fF ?_ (fF ?_ (fF ?_ (fF ?_ (fF ?_ (trivial)))))))))))))))))))))))))))))))) [(33,.bool true)] (fin_of [some 30] d (by kernel_rfl) (by kernel_rfl)) (fun _ a w S=>?_)
  ·refine fJ [(1,_)] 0 [none] fun G a w S=>?_
   exact sField (b:=ae) (off:=0) 0 0 S (wN d) d d d d d (lb d) fun a S=>leafL ⟨d,S⟩
  ·refine fJ [(3,_)] 1 [some 0] fun G a w S=>?_
   exact sLoad1 0 (.slice ab p0.Left.length ac) S (wN d) d d d d d d (lb d) fun a S=>leafL ⟨d,S⟩
  ·refine fJ [(4,_)] 2 [some 1] fun G a w S=>?_
   have S1:=S.mem
   refine sCq [.slice ab p0.Left.length ac] (.bool af) S callee44 (S1.quiet [1] d) (fun E1 w1 S1=>c_piece_side E1 w1 p0.Left (.slice ab p0.Left.length ac) af am S1) fun a w S=>?_
   exact leafL ⟨d,S⟩
  ·refine fJ [(5,_)] 3 [some 2] fun G a w S=>?_
   exact sNot (b:=af) S (wN d) d d d (lb d) fun a S=>leafL ⟨d,S⟩
  ·exact fM 4 (some 3) d d d d (.inl d) d d d
  ·refine fJ [(1,_),(7,_)] 5 [none,some 4] fun G a w S=>?_
   exact sField (b:=ae) (off:=0) 1 1 S (wG 4 false 7 d d d aa) d d d d d (lb d) fun a S=>leafL ⟨d,S⟩
  ·refine fJ [(8,_),(7,_)] 6 [some 5,some 4] fun G a w S=>?_
   exact sLoad1 0 (.slice ag p0.Right.length ah) S (wG 4 false 7 d d d aa) d d d d d d (lb d) fun a S=>leafL ⟨d,S⟩
  ·refine fJ [(9,_),(7,_)] 7 [some 6,some 4] fun G a w S=>?_
   have S1:=S.mem
   refine sCallQ (X:=Unit) (f:=44) (vs:=[.slice ag p0.Right.length ah]) (val:=fun _=>.bool ai) S (wG 4 false 7 d d d aa) d callee44 d (S1.quiet [0] d) (fun E1 w1 S1=>c_piece_side E1 w1 p0.Right (.slice ag p0.Right.length ah) ai ao S1) d (lb d) fun _ a w S=>?_
   exact leafL ⟨d,S⟩
  ·refine fJ [(10,_),(7,_)] 8 [some 7,some 4] fun G a w S=>?_
   exact sNot (b:=ai) S (wG 4 false 7 d d d aa) d d d (lb d) fun a S=>leafL ⟨d,S⟩
  ·refine fJ [(7,_),(11,_)] 9 [some 4,some 8] fun G a w S=>?_
   exact sPickF (.bool (!ai)) S (wN d) d d aa d d (lb d) fun a S=>leafL ⟨d,S⟩
  ·exact fM 10 (some 9) d d d d (.inl d) d d d
  ·refine fJ [(1,_),(13,_)] 11 [none,some 10] fun G a w S=>?_
   exact sSk S d d d a9 d d fun a S=>leafL ⟨d,S⟩
  ·refine fJ [(14,_),(13,_)] 12 [some 11,some 10] fun G a w S=>?_
   exact sSk S d d d a9 d d fun a S=>leafL ⟨d,S⟩
  ·refine fJ [(1,_),(13,_)] 13 [none,some 10] fun G a w S=>?_
   exact sSk S d d d a9 d d fun a S=>leafL ⟨d,S⟩
  ·refine fJ [(16,_),(13,_)] 14 [some 13,some 10] fun G a w S=>?_
   exact sSk S d d d a9 d d fun a S=>leafL ⟨d,S⟩
  ·refine fJ [(17,_),(13,_)] 15 [some 14,some 10] fun G a w S=>?_
   exact sSk S d d d a9 d d fun a S=>leafL ⟨d,S⟩
  ·refine fJ [(18,_),(13,_)] 16 [some 15,some 10] fun G a w S=>?_
   exact sSk S d d d a9 d d fun a S=>leafL ⟨d,S⟩
  ·refine fJ [(15,_),(19,_),(13,_)] 17 [some 12,some 16,some 10] fun G a w S=>?_
   exact sSk S d d d a9 d d fun a S=>leafL ⟨d,S⟩
  ·refine fJ [(20,_),(13,_)] 18 [some 17,some 10] fun G a w S=>?_
   exact sSk S d d d a9 d d fun a S=>leafL ⟨d,S⟩
  ·refine fJ [(21,_),(13,_)] 19 [some 18,some 10] fun G a w S=>?_
   exact sSk S d d d a9 d d fun a S=>leafL ⟨d,S⟩
  ·refine fJ [(1,_),(13,_)] 20 [none,some 10] fun G a w S=>?_
   exact sSk S d d d a9 d d fun a S=>leafL ⟨d,S⟩
  ·refine fJ [(23,_),(13,_)] 21 [some 20,some 10] fun G a w S=>?_
   exact sSk S d d d a9 d d fun a S=>leafL ⟨d,S⟩
  ·refine fJ [(1,_),(13,_)] 22 [none,some 10] fun G a w S=>?_
   exact sSk S d d d a9 d d fun a S=>leafL ⟨d,S⟩
  ·refine fJ [(25,_),(13,_)] 23 [some 22,some 10] fun G a w S=>?_
   exact sSk S d d d a9 d d fun a S=>leafL ⟨d,S⟩
  ·refine fJ [(26,_),(13,_)] 24 [some 23,some 10] fun G a w S=>?_
   exact sSk S d d d a9 d d fun a S=>leafL ⟨d,S⟩
  ·refine fJ [(27,_),(13,_)] 25 [some 24,some 10] fun G a w S=>?_
   exact sSk S d d d a9 d d fun a S=>leafL ⟨d,S⟩
  ·refine fJ [(24,_),(28,_),(13,_)] 26 [some 21,some 25,some 10] fun G a w S=>?_
   exact sSk S d d d a9 d d fun a S=>leafL ⟨d,S⟩
  ·refine fJ [(29,_),(13,_)] 27 [some 26,some 10] fun G a w S=>?_
   exact sSk S d d d a9 d d fun a S=>leafL ⟨d,S⟩
  ·refine fJ [(30,_),(13,_)] 28 [some 27,some 10] fun G a w S=>?_
   exact sSk S d d d a9 d d fun a S=>leafL ⟨d,S⟩
  ·refine fJ [(22,_),(31,_),(13,_)] 29 [some 19,some 28,some 10] fun G a w S=>?_
   exact sSk S d d d a9 d d fun a S=>leafL ⟨d,S⟩
  ·refine fJ [(13,_),(32,_)] 30 [some 10,some 29] fun G a w S=>?_
   exact sPickT (.bool true) S (wN d) d d a9 d d (lb d) fun a S=>leafL ⟨d,S⟩
  exact leafT (⟨true,Option.some.inj h,S.fix [] [] (by decide) d d d⟩)
 obtain ⟨aj,av,h⟩:=bS h
 obtain ⟨ak,aw,h⟩:=bS h
 obtain ⟨ax,ay,S⟩:=pIdx (P:=Try.prog) (r:=r_api_Point) (v:=.slice ab p0.Left.length ac) (xs:=p0.Left) (j:=w64 ((p0.Left.length:Int) - 1)) 26 33 1 S Try.underlying26 d d av
 obtain ⟨az,aA,S⟩:=pFld (P:=Try.prog) (r:=r_api_Point) (s2:=(rI .i64)) (g:=(·.Y)) (q:=ax) (z:=aj) 33 1 0 1 S d d comp_api_Point_Y
 obtain ⟨aL,S⟩:=pLoad (r:=(rI .i64)) (q:=az) (x:=aj.Y) 0 S d
 obtain rfl:aL=iv aj.Y:=S.mem.know (i:=1) (e:=fRep (rI .i64) (aL) aj.Y) d
 obtain ⟨aC,aG,S⟩:=pIdx (P:=Try.prog) (r:=r_api_Point) (v:=.slice ag p0.Right.length ah) (xs:=p0.Right) (j:=w64 ((p0.Right.length:Int) - 1)) 26 33 4 S Try.underlying26 d d aw
 obtain ⟨aH,aI,S⟩:=pFld (P:=Try.prog) (r:=r_api_Point) (s2:=(rI .i64)) (g:=(·.Y)) (q:=aC) (z:=ak) 33 1 0 1 S d d comp_api_Point_Y
 obtain ⟨aM,S⟩:=pLoad (r:=(rI .i64)) (q:=aH) (x:=ak.Y) 0 S d
 obtain rfl:aM=iv ak.Y:=S.mem.know (i:=1) (e:=fRep (rI .i64) (aM) ak.Y) d
 refine sDraw (nf:=[]) (W:=[(0,3,.pointer (some ⟨ae,0,none⟩)),(1,4,.slice ab p0.Left.length ac),(2,5,.bool af),(3,6,.bool (!af)),(4,7,.bool (!af)),(5,8,.pointer (some ⟨ae,1,none⟩)),(6,9,.slice ag p0.Right.length ah),(7,10,.bool ai),(8,11,.bool (!ai)),(9,12,.bool (!ai)),(10,13,.bool (!ai)),(11,14,.pointer (some ⟨ae,0,none⟩)),(12,15,.slice ab p0.Left.length ac),(13,16,.pointer (some ⟨ae,0,none⟩)),(14,17,.slice ab p0.Left.length ac),(15,18,iv (p0.Left.length:Int)),(16,19,iv (w64 ((p0.Left.length:Int) - 1))),(17,20,ax),(18,21,az),(19,22,iv aj.Y),(20,23,.pointer (some ⟨ae,1,none⟩)),(21,24,.slice ag p0.Right.length ah),(22,25,.pointer (some ⟨ae,1,none⟩)),(23,26,.slice ag p0.Right.length ah),(24,27,iv (p0.Right.length:Int)),(25,28,iv (w64 ((p0.Right.length:Int) - 1))),(26,29,aC),(27,30,aH),(28,31,iv ak.Y),(29,32,.bool (aj.Y != ak.Y)),(30,33,.bool (aj.Y != ak.Y))]) d S ?_
 refine node_by (A:=anc_piece_shape_0) 31 (by kernel_rfl) (by kernel_rfl) (by kernel_rfl) (by kernel_rfl) (by kernel_rfl) [0,1,2,3,4,5,6,7,8,9,10,11,12,13,14,15,16,17,18,19,20,21,22,23,24,25,26,27,28,29,30] (by kernel_rfl) (by decide) (by decide) (fF ?_ (fF ?_ (fF ?_ (fF ?_ (fF ?_ (fF ?_ (fF ?_ (fF ?_ (fF ?_ (fF ?_ (fF ?_ (fF ?_ (fF ?_ (fF ?_ (fF ?_ (fF ?_ (fF ?_ (fF ?_ (fF ?_ (fF ?_ (fF ?_ (fF ?_ (fF ?_ (fF ?_ (fF ?_ (fF ?_ (fF ?_ (fF ?_ (fF ?_ (fF ?_ (fF ?_ (trivial)))))))))))))))))))))))))))))))) [(33,.bool (aj.Y != ak.Y))] (fin_of [some 30] d (by kernel_rfl) (by kernel_rfl)) (fun _ a w S=>?_)
 ·refine fJ [(1,_)] 0 [none] fun G a w S=>?_
  exact sField (b:=ae) (off:=0) 0 0 S (wN d) d d d d d (lb d) fun a S=>leafL ⟨d,S⟩
 ·refine fJ [(3,_)] 1 [some 0] fun G a w S=>?_
  exact sLoad1 0 (.slice ab p0.Left.length ac) S (wN d) d d d d d d (lb d) fun a S=>leafL ⟨d,S⟩
 ·refine fJ [(4,_)] 2 [some 1] fun G a w S=>?_
  have S1:=S.mem
  refine sCq [.slice ab p0.Left.length ac] (.bool af) S callee44 (S1.quiet [9] d) (fun E1 w1 S1=>c_piece_side E1 w1 p0.Left (.slice ab p0.Left.length ac) af am S1) fun a w S=>?_
  exact leafL ⟨d,S⟩
 ·refine fJ [(5,_)] 3 [some 2] fun G a w S=>?_
  exact sNot (b:=af) S (wN d) d d d (lb d) fun a S=>leafL ⟨d,S⟩
 ·exact fM 4 (some 3) d d d d (.inl d) d d d
 ·refine fJ [(1,_),(7,_)] 5 [none,some 4] fun G a w S=>?_
  exact sField (b:=ae) (off:=0) 1 1 S (wG 4 false 7 d d d aa) d d d d d (lb d) fun a S=>leafL ⟨d,S⟩
 ·refine fJ [(8,_),(7,_)] 6 [some 5,some 4] fun G a w S=>?_
  exact sLoad1 0 (.slice ag p0.Right.length ah) S (wG 4 false 7 d d d aa) d d d d d d (lb d) fun a S=>leafL ⟨d,S⟩
 ·refine fJ [(9,_),(7,_)] 7 [some 6,some 4] fun G a w S=>?_
  have S1:=S.mem
  refine sCallQ (X:=Unit) (f:=44) (vs:=[.slice ag p0.Right.length ah]) (val:=fun _=>.bool ai) S (wG 4 false 7 d d d aa) d callee44 d (S1.quiet [8] d) (fun E1 w1 S1=>c_piece_side E1 w1 p0.Right (.slice ag p0.Right.length ah) ai ao S1) d (lb d) fun _ a w S=>?_
  exact leafL ⟨d,S⟩
 ·refine fJ [(10,_),(7,_)] 8 [some 7,some 4] fun G a w S=>?_
  exact sNot (b:=ai) S (wG 4 false 7 d d d aa) d d d (lb d) fun a S=>leafL ⟨d,S⟩
 ·refine fJ [(7,_),(11,_)] 9 [some 4,some 8] fun G a w S=>?_
  exact sPickF (.bool (!ai)) S (wN d) d d aa d d (lb d) fun a S=>leafL ⟨d,S⟩
 ·exact fM 10 (some 9) d d d d (.inl d) d d d
 ·refine fJ [(1,_),(13,_)] 11 [none,some 10] fun G a w S=>?_
  exact sField (b:=ae) (off:=0) 0 0 S (wG 10 false 13 d d d a9) d d d d d (lb d) fun a S=>leafL ⟨d,S⟩
 ·refine fJ [(14,_),(13,_)] 12 [some 11,some 10] fun G a w S=>?_
  exact sLoad1 0 (.slice ab p0.Left.length ac) S (wG 10 false 13 d d d a9) d d d d d d (lb d) fun a S=>leafL ⟨d,S⟩
 ·refine fJ [(1,_),(13,_)] 13 [none,some 10] fun G a w S=>?_
  exact sField (b:=ae) (off:=0) 0 0 S (wG 10 false 13 d d d a9) d d d d d (lb d) fun a S=>leafL ⟨d,S⟩
 ·refine fJ [(16,_),(13,_)] 14 [some 13,some 10] fun G a w S=>?_
  exact sLoad1 0 (.slice ab p0.Left.length ac) S (wG 10 false 13 d d d a9) d d d d d d (lb d) fun a S=>leafL ⟨d,S⟩
 ·refine fJ [(17,_),(13,_)] 15 [some 14,some 10] fun G a w S=>?_
  exact sLen S (wG 10 false 13 d d d a9) d Try.underlying26 d d (lb d) fun a S=>leafL ⟨d,S⟩
 ·refine fJ [(18,_),(13,_)] 16 [some 15,some 10] fun G a w S=>?_
  exact sBin _ S (wG 10 false 13 d d d a9) d d d (bSub _ _ _ _ (p0.Left.length:Int) 1) d (lb d) fun a S=>leafL ⟨d,S⟩
 ·refine fJ [(15,_),(19,_),(13,_)] 17 [some 12,some 16,some 10] fun G a w S=>?_
  exact sIdxV S (wG 10 false 13 d d d a9) d d d ay d (lb d) fun a S=>leafL ⟨d,S⟩
 ·refine fJ [(20,_),(13,_)] 18 [some 17,some 10] fun G a w S=>?_
  exact sFldV (q:=ax) S (wG 10 false 13 d d d a9) d d aA d (lb d) fun a S=>leafL ⟨d,S⟩
 ·refine fJ [(21,_),(13,_)] 19 [some 18,some 10] fun G a w S=>?_
  exact sLoadV1 (vq:=az) 4 (iv aj.Y) S (wG 10 false 13 d d d a9) d d d d d (lb d) fun a S=>leafL ⟨d,S⟩
 ·refine fJ [(1,_),(13,_)] 20 [none,some 10] fun G a w S=>?_
  exact sField (b:=ae) (off:=0) 1 1 S (wG 10 false 13 d d d a9) d d d d d (lb d) fun a S=>leafL ⟨d,S⟩
 ·refine fJ [(23,_),(13,_)] 21 [some 20,some 10] fun G a w S=>?_
  exact sLoad1 0 (.slice ag p0.Right.length ah) S (wG 10 false 13 d d d a9) d d d d d d (lb d) fun a S=>leafL ⟨d,S⟩
 ·refine fJ [(1,_),(13,_)] 22 [none,some 10] fun G a w S=>?_
  exact sField (b:=ae) (off:=0) 1 1 S (wG 10 false 13 d d d a9) d d d d d (lb d) fun a S=>leafL ⟨d,S⟩
 ·refine fJ [(25,_),(13,_)] 23 [some 22,some 10] fun G a w S=>?_
  exact sLoad1 0 (.slice ag p0.Right.length ah) S (wG 10 false 13 d d d a9) d d d d d d (lb d) fun a S=>leafL ⟨d,S⟩
 ·refine fJ [(26,_),(13,_)] 24 [some 23,some 10] fun G a w S=>?_
  exact sLen S (wG 10 false 13 d d d a9) d Try.underlying26 d d (lb d) fun a S=>leafL ⟨d,S⟩
 ·refine fJ [(27,_),(13,_)] 25 [some 24,some 10] fun G a w S=>?_
  exact sBin _ S (wG 10 false 13 d d d a9) d d d (bSub _ _ _ _ (p0.Right.length:Int) 1) d (lb d) fun a S=>leafL ⟨d,S⟩
 ·refine fJ [(24,_),(28,_),(13,_)] 26 [some 21,some 25,some 10] fun G a w S=>?_
  exact sIdxV S (wG 10 false 13 d d d a9) d d d aG d (lb d) fun a S=>leafL ⟨d,S⟩
 ·refine fJ [(29,_),(13,_)] 27 [some 26,some 10] fun G a w S=>?_
  exact sFldV (q:=aC) S (wG 10 false 13 d d d a9) d d aI d (lb d) fun a S=>leafL ⟨d,S⟩
 ·refine fJ [(30,_),(13,_)] 28 [some 27,some 10] fun G a w S=>?_
  exact sLoadV1 (vq:=aH) 0 (iv ak.Y) S (wG 10 false 13 d d d a9) d d d d d (lb d) fun a S=>leafL ⟨d,S⟩
 ·refine fJ [(22,_),(31,_),(13,_)] 29 [some 19,some 28,some 10] fun G a w S=>?_
  exact sBin _ S (wG 10 false 13 d d d a9) d d d (bNe _ _ _ _ .i64 aj.Y ak.Y) d (lb d) fun a S=>leafL ⟨d,S⟩
 ·refine fJ [(13,_),(32,_)] 30 [some 10,some 29] fun G a w S=>?_
  exact sPickF (.bool (aj.Y != ak.Y)) S (wN d) d d a9 d d (lb d) fun a S=>leafL ⟨d,S⟩
 exact leafT (⟨aj.Y != ak.Y,Option.some.inj h,S.fix [] [] (by decide) d d d⟩)
noncomputable def F_piece_Measure (p0:api_Gauge) (p1:(List api_Point)) (p2:(List api_Point)):Option (api_Shape × Int):=
 (F_piece_place p0 p1).bind fun a9=>
 if a9.2 != 0 then
  some ((api_Shape.mk ([]:(List api_Point)) ([]:(List api_Point))),a9.2)
 else
  (F_piece_place p0 p2).bind fun aa=>
  if aa.2 != 0 then
   some ((api_Shape.mk ([]:(List api_Point)) ([]:(List api_Point))),aa.2)
  else
   (F_piece_shape (api_Shape.mk a9.1 aa.1)).bind fun ab=>
   if ab != 0 then
    some ((api_Shape.mk ([]:(List api_Point)) ([]:(List api_Point))),ab)
   else
    some ((api_Shape.mk a9.1 aa.1),0)
def c_piece_Measure_val (r:(api_Shape × Int)) (x:Value):Value:=.tuple #[x,.int .i64 r.2]
def c_piece_Measure_D (r:(api_Shape × Int)) (x:Value):List Fact:=[fRep r_api_Shape x r.1]
theorem c_piece_Measure (E:Nat→Prop) (w0:World) (p0:api_Gauge) (v0:Value) (p1:(List api_Point)) (v1:Value) (p2:(List api_Point)) (v2:Value) (r:(api_Shape × Int)) (h:F_piece_Measure p0 p1 p2=some r) (S:St0 E [] w0 w0 [] [fRep r_api_Gauge (v0) p0,fRep (rL r_api_Point) (v1) p1,fRep (rL r_api_Point) (v2) p2]) :
 Calls Try.prog 6 #[v0,v1,v2] w0 (Ret (X:=Value) E [] w0 (c_piece_Measure_val r) (fun _=>[]) (c_piece_Measure_D r)):=by
 unfold F_piece_Measure at h
 obtain rfl:v0=.agg #[iv p0.Stitches,iv p0.Width,iv p0.Rows,iv p0.Height]:=S.know (i:=0) (e:=fRep r_api_Gauge (v0) p0) d
 obtain ⟨ak,al,_,rfl,_⟩:=S.know (i:=1) (e:=fRep (rL r_api_Point) (v1) p1) d
 obtain ⟨am,ao,_,rfl,_⟩:=S.know (i:=2) (e:=fRep (rL r_api_Point) (v2) p2) d
 refine sEnter (args:=[.agg #[iv p0.Stitches,iv p0.Width,iv p0.Rows,iv p0.Height],.slice ak p1.length al,.slice am p2.length ao]) 39 Try.func6 d d (by simp) S (fun a S=>?_)
 refine sSeq (fun K5 aM=>sRegion (sBox (v:=.agg #[iv p0.Stitches,iv p0.Width,iv p0.Rows,iv p0.Height]) S (wN d) d d [iv p0.Stitches,iv p0.Width,iv p0.Rows,iv p0.Height] d d (lb d) fun a b6 w S=>sAlloc (.agg #[.slice none 0 0,.slice none 0 0]) S (wN d) d d [.slice none 0 0,.slice none 0 0] d d (lb d) fun a b7 w S=>sN S fun a S=>?_))
 refine lT (aM _ _ (sSeq (fun K8 aO=>sRegion (sAlloc (.agg #[.slice none 0 0,.slice none 0 0]) S (wN d) d d [.slice none 0 0,.slice none 0 0] d d (lb d) fun a b9 w S=>lT (aO _ _ (sSeq (fun aR ap=>sRegion (sN S fun a S=>?_))))))))
 refine lT (ap _ _ (sSeq (fun aS aq=>sSeq (fun aT ar=>sRegion (sLoadN (p:=b6) (off:=0) (T:=23) (vs:=[iv p0.Stitches,iv p0.Width,iv p0.Rows,iv p0.Height]) 2 [iv p0.Stitches,iv p0.Width,iv p0.Rows,iv p0.Height] S (wN d) d d d d d d d (lb d) fun a S=>sM S fun a S=>?_)))))
 obtain ⟨ae,au,h⟩:=bS h
 refine sCall (X:=Value) (f:=17) (vs:=[.agg #[iv p0.Stitches,iv p0.Width,iv p0.Rows,iv p0.Height],.slice ak p1.length al]) (val:=c_piece_place_val ae) (B':=fun _=>[]) (D':=c_piece_place_D ae) [] [eBox b9 28 [.slice none 0 0,.slice none 0 0],eBox b7 28 [.slice none 0 0,.slice none 0 0],eBox b6 23 [iv p0.Stitches,iv p0.Width,iv p0.Rows,iv p0.Height]] [fRep r_api_Gauge (.agg #[iv p0.Stitches,iv p0.Width,iv p0.Rows,iv p0.Height]) p0,fRep (rL r_api_Point) (.slice ak p1.length al) p1] [0,1,2] [0,1] S (wN d) d callee17 d (by decide) d d (fun E1 w1 S1=>c_piece_place E1 w1 p0 (.agg #[iv p0.Stitches,iv p0.Width,iv p0.Rows,iv p0.Height]) p1 (.slice ak p1.length al) ae au S1) d (lb d) fun aP a w S=>?_
 obtain ⟨a9,aa,_,rfl,_⟩:=S.mem.know (i:=0) (e:=fRep (rL r_api_Point) (aP) ae.1) d
 refine sM S fun a S=>?_
 refine sExtract (vs:=[.slice a9 ae.1.length aa,iv ae.2]) (.slice a9 ae.1.length aa) S (wN d) d d d d (lb d) fun a S=>sExtract (vs:=[.slice a9 ae.1.length aa,iv ae.2]) (iv ae.2) S (wN d) d d d d (lb d) fun a S=>sField (b:=b9) (off:=0) 0 0 S (wN d) d d d d d (lb d) fun a S=>sStore (p:=b9) (off:=0) (T:=28) (vs:=[.slice none 0 0,.slice none 0 0]) (v:=.slice a9 ae.1.length aa) 0 [.slice a9 ae.1.length aa] S (wN d) d d d d d d d (by simp) d fun a w S=>sN S fun a S=>?_
 refine lT (ar _ _ (sSeq (fun aU av=>sRegion (sM S fun a S=>?_))))
 refine sBin _ S (wN d) d d d (bNe _ _ _ _ .i64 ae.2 0) d (lb d) fun a S=>lT (av _ _ ?_)
 rcases iS h with ⟨ag,h⟩ | ⟨ag,h⟩
 ·refine sCondT S d ag (sSeq (fun aV aw=>sRegion (sBuild [] [.slice none 0 0,.slice none 0 0] S (wN d) d d d d (lb d) fun a S=>sM S fun a S=>?_)))
  refine sStore (p:=b7) (off:=0) (T:=28) (vs:=[.slice none 0 0,.slice none 0 0]) (v:=.agg #[.slice none 0 0,.slice none 0 0]) 1 [.slice none 0 0,.slice none 0 0] S (wN d) d d d d d d d (by simp) d fun a w S=>sN S fun a S=>?_
  refine lT (aw _ _ ?_)
  obtain rfl:=tS h
  have S:=S.learn (fRep (rL r_api_Point) (.slice none 0 0) ([]:(List api_Point))) (rL_nil _ _ _)
  have S:=S.learn (fRep r_api_Shape (.agg #[.slice none 0 0,.slice none 0 0]) (api_Shape.mk ([]:(List api_Point)) ([]:(List api_Point)))) ⟨_,_,d,S.mem.know (i:=0) (e:=fRep (rL r_api_Point) (.slice none 0 0) ([]:(List api_Point))) d,S.mem.know (i:=0) (e:=fRep (rL r_api_Point) (.slice none 0 0) ([]:(List api_Point))) d⟩
  exact wp_ret (rThen (sRet (.tuple #[.agg #[.slice none 0 0,.slice none 0 0],iv ae.2]) S (rsl2 d (rvN (c:=6) (t:=28) (T:=28) (p:=b7) 0 [.slice none 0 0,.slice none 0 0] S d d d d) (rvT (t:=7) (v:=iv ae.2) S d)) ⟨(.agg #[.slice none 0 0,.slice none 0 0]),d,S.mem.sel [] [0] (by decide) d d⟩))
 refine sCondF S d ag (wp_skip (leafT (aq _ _ ?_)))
 refine sSeq (fun aW ax=>sSeq (fun aX ay=>sRegion (sLoadN (p:=b6) (off:=0) (T:=23) (vs:=[iv p0.Stitches,iv p0.Width,iv p0.Rows,iv p0.Height]) 2 [iv p0.Stitches,iv p0.Width,iv p0.Rows,iv p0.Height] S (wN d) d d d d d d d (lb d) fun a S=>sM S fun a S=>?_)))
 obtain ⟨af,az,h⟩:=bS h
 refine sCall (X:=Value) (f:=17) (vs:=[.agg #[iv p0.Stitches,iv p0.Width,iv p0.Rows,iv p0.Height],.slice am p2.length ao]) (val:=c_piece_place_val af) (B':=fun _=>[]) (D':=c_piece_place_D af) [] [eBox b9 28 [.slice a9 ae.1.length aa,.slice none 0 0],eBox b7 28 [.slice none 0 0,.slice none 0 0],eBox b6 23 [iv p0.Stitches,iv p0.Width,iv p0.Rows,iv p0.Height]] [fRep r_api_Gauge (.agg #[iv p0.Stitches,iv p0.Width,iv p0.Rows,iv p0.Height]) p0,fRep (rL r_api_Point) (.slice am p2.length ao) p2] [0,1,2] [1,3] S (wN d) d callee17 d (by decide) d d (fun E1 w1 S1=>c_piece_place E1 w1 p0 (.agg #[iv p0.Stitches,iv p0.Width,iv p0.Rows,iv p0.Height]) p2 (.slice am p2.length ao) af az S1) d (lb d) fun aQ a w S=>?_
 obtain ⟨ab,ac,_,rfl,_⟩:=S.mem.know (i:=0) (e:=fRep (rL r_api_Point) (aQ) af.1) d
 refine sM S fun a S=>?_
 refine sExtract (vs:=[.slice ab af.1.length ac,iv af.2]) (.slice ab af.1.length ac) S (wN d) d d d d (lb d) fun a S=>sExtract (vs:=[.slice ab af.1.length ac,iv af.2]) (iv af.2) S (wN d) d d d d (lb d) fun a S=>sField (b:=b9) (off:=0) 1 1 S (wN d) d d d d d (lb d) fun a S=>sStore (p:=b9) (off:=1) (T:=28) (vs:=[.slice a9 ae.1.length aa,.slice none 0 0]) (v:=.slice ab af.1.length ac) 0 [.slice ab af.1.length ac] S (wN d) d d d d d d d (by simp) d fun a w S=>sN S fun a S=>?_
 refine lT (ay _ _ (sSeq (fun aZ aA=>sRegion (sM S fun a S=>?_))))
 refine sBin _ S (wN d) d d d (bNe _ _ _ _ .i64 af.2 0) d (lb d) fun a S=>lT (aA _ _ ?_)
 rcases iS h with ⟨ah,h⟩ | ⟨ah,h⟩
 ·refine sCondT S d ah (sSeq (fun b8 aC=>sRegion (sBuild [] [.slice none 0 0,.slice none 0 0] S (wN d) d d d d (lb d) fun a S=>sM S fun a S=>?_)))
  refine sStore (p:=b7) (off:=0) (T:=28) (vs:=[.slice none 0 0,.slice none 0 0]) (v:=.agg #[.slice none 0 0,.slice none 0 0]) 1 [.slice none 0 0,.slice none 0 0] S (wN d) d d d d d d d (by simp) d fun a w S=>sN S fun a S=>?_
  refine lT (aC _ _ ?_)
  obtain rfl:=tS h
  have S:=S.learn (fRep (rL r_api_Point) (.slice none 0 0) ([]:(List api_Point))) (rL_nil _ _ _)
  have S:=S.learn (fRep r_api_Shape (.agg #[.slice none 0 0,.slice none 0 0]) (api_Shape.mk ([]:(List api_Point)) ([]:(List api_Point)))) ⟨_,_,d,S.mem.know (i:=0) (e:=fRep (rL r_api_Point) (.slice none 0 0) ([]:(List api_Point))) d,S.mem.know (i:=0) (e:=fRep (rL r_api_Point) (.slice none 0 0) ([]:(List api_Point))) d⟩
  exact wp_ret (rThen (sRet (.tuple #[.agg #[.slice none 0 0,.slice none 0 0],iv af.2]) S (rsl2 d (rvN (c:=6) (t:=28) (T:=28) (p:=b7) 0 [.slice none 0 0,.slice none 0 0] S d d d d) (rvT (t:=7) (v:=iv af.2) S d)) ⟨(.agg #[.slice none 0 0,.slice none 0 0]),d,S.mem.sel [] [0] (by decide) d d⟩))
 refine sCondF S d ah (wp_skip (leafT (ax _ _ ?_)))
 refine sSeq (fun ba aG=>sSeq (fun bb aH=>sRegion (sLoadN (p:=b9) (off:=0) (T:=28) (vs:=[.slice a9 ae.1.length aa,.slice ab af.1.length ac]) 0 [.slice a9 ae.1.length aa,.slice ab af.1.length ac] S (wN d) d d d d d d d (lb d) fun a S=>?_)))
 obtain ⟨aj,aI,h⟩:=bS h
 have S1:=S.mem
 have S1:=S1.learn (fRep r_api_Shape (.agg #[.slice a9 ae.1.length aa,.slice ab af.1.length ac]) (api_Shape.mk ae.1 af.1)) ⟨_,_,d,S1.know (i:=1) (e:=fRep (rL r_api_Point) (.slice a9 ae.1.length aa) ae.1) d,S1.know (i:=0) (e:=fRep (rL r_api_Point) (.slice ab af.1.length ac) af.1) d⟩
 refine sCq [.agg #[.slice a9 ae.1.length aa,.slice ab af.1.length ac]] (iv aj) S callee18 (S1.quiet [0] d) (fun E1 w1 S1=>c_piece_shape E1 w1 (api_Shape.mk ae.1 af.1) (.agg #[.slice a9 ae.1.length aa,.slice ab af.1.length ac]) aj aI S1) fun a w S=>?_
 refine sN S fun a S=>?_
 refine lT (aH _ _ (sSeq (fun bc aJ=>sRegion (sM S fun a S=>?_))))
 refine sBin _ S (wN d) d d d (bNe _ _ _ _ .i64 aj 0) d (lb d) fun a S=>lT (aJ _ _ ?_)
 rcases iS h with ⟨ai,h⟩ | ⟨ai,h⟩
 ·refine sCondT S d ai (sSeq (fun bf aK=>sRegion (sBuild [] [.slice none 0 0,.slice none 0 0] S (wN d) d d d d (lb d) fun a S=>sM S fun a S=>?_)))
  refine sStore (p:=b7) (off:=0) (T:=28) (vs:=[.slice none 0 0,.slice none 0 0]) (v:=.agg #[.slice none 0 0,.slice none 0 0]) 1 [.slice none 0 0,.slice none 0 0] S (wN d) d d d d d d d (by simp) d fun a w S=>sN S fun a S=>?_
  refine lT (aK _ _ ?_)
  obtain rfl:=tS h
  have S:=S.learn (fRep (rL r_api_Point) (.slice none 0 0) ([]:(List api_Point))) (rL_nil _ _ _)
  have S:=S.learn (fRep r_api_Shape (.agg #[.slice none 0 0,.slice none 0 0]) (api_Shape.mk ([]:(List api_Point)) ([]:(List api_Point)))) ⟨_,_,d,S.mem.know (i:=0) (e:=fRep (rL r_api_Point) (.slice none 0 0) ([]:(List api_Point))) d,S.mem.know (i:=0) (e:=fRep (rL r_api_Point) (.slice none 0 0) ([]:(List api_Point))) d⟩
  exact wp_ret (rThen (sRet (.tuple #[.agg #[.slice none 0 0,.slice none 0 0],iv aj]) S (rsl2 d (rvN (c:=6) (t:=28) (T:=28) (p:=b7) 0 [.slice none 0 0,.slice none 0 0] S d d d d) (rvT (t:=7) (v:=iv aj) S d)) ⟨(.agg #[.slice none 0 0,.slice none 0 0]),d,S.mem.sel [] [0] (by decide) d d⟩))
 refine sCondF S d ai (wp_skip (leafT (aG _ _ ?_)))
 refine sSeq (fun bg aL=>sRegion (sLoadN (p:=b9) (off:=0) (T:=28) (vs:=[.slice a9 ae.1.length aa,.slice ab af.1.length ac]) 0 [.slice a9 ae.1.length aa,.slice ab af.1.length ac] S (wN d) d d d d d d d (lb d) fun a S=>sStore (p:=b7) (off:=0) (T:=28) (vs:=[.slice none 0 0,.slice none 0 0]) (v:=.agg #[.slice a9 ae.1.length aa,.slice ab af.1.length ac]) 1 [.slice a9 ae.1.length aa,.slice ab af.1.length ac] S (wN d) d d d d d d d (by simp) d fun a w S=>sN S fun a S=>?_))
 refine lT (aL _ _ ?_)
 obtain rfl:=tS h
 have S:=S.learn (fRep r_api_Shape (.agg #[.slice a9 ae.1.length aa,.slice ab af.1.length ac]) (api_Shape.mk ae.1 af.1)) ⟨_,_,d,S.mem.know (i:=1) (e:=fRep (rL r_api_Point) (.slice a9 ae.1.length aa) ae.1) d,S.mem.know (i:=0) (e:=fRep (rL r_api_Point) (.slice ab af.1.length ac) af.1) d⟩
 exact wp_ret (sRet (.tuple #[.agg #[.slice a9 ae.1.length aa,.slice ab af.1.length ac],iv 0]) S (rsl2 d (rvN (c:=6) (t:=28) (T:=28) (p:=b7) 0 [.slice a9 ae.1.length aa,.slice ab af.1.length ac] S d d d d) (rvT (t:=7) (v:=iv 0) S d)) ⟨(.agg #[.slice a9 ae.1.length aa,.slice ab af.1.length ac]),d,S.mem.sel [] [0] (by decide) d d⟩)
def anc_piece_columns_0:List (List Nat):=[[],[],[0,1],[0,1,2],[0,1,2,3],[],[5],[],[7],[],[],[9,10],[9,10,11],[9,10,11,12],[7,8,9,10,11,12,13],[0,1,2,3,4,5,6,7,8,9,10,11,12,13,14],[0,1,2,3,4,5,6,7,8,9,10,11,12,13,14,15],[0,1,2,3,4,5,6,7,8,9,10,11,12,13,14,15,16],[0,1,2,3,4,5,6,7,8,9,10,11,12,13,14,15,16],[0,1,2,3,4,5,6,7,8,9,10,11,12,13,14,15,16,17],[0,1,2,3,4,5,6,7,8,9,10,11,12,13,14,15,16,17,18,19]]
noncomputable def piece_columns_l1 (aa:List api_Point) (p0:(List api_Point)):(List Int × Int)→Option ((List Int × Int) ⊕ List Int):=fun s0=>match s0 with
 | (ab,a9)=>
  if decide (a9 < (aa.length:Int)) then
   (idxO aa a9).bind fun ac=>
   (idxO p0 a9).bind fun ae=>
   (F_slope_Line ae.X ac.X (w64 (ac.Y - ae.Y))).bind fun af=>
   (sliceO af.1 1 (af.1.length:Int)).bind fun ag=>
   (appO ab ag).bind fun ah=>
   some (.inl (ah,w64 (a9 + 1)))
  else
   some (.inr ab)
noncomputable def F_piece_columns (p0:(List api_Point)):Option (List Int):=
 (idxO p0 0).bind fun x5=>
 Option.bind (α:=List Int) (
  (sliceO p0 1 (p0.length:Int)).bind fun a9=>
  (whileO (piece_columns_l1 a9 p0) (([x5.X]:List Int),0)).bind fun aa=>
   some aa) fun ab=>
 some ab
def c_piece_columns_val (r:(List Int)) (x:Value):Value:=x
def c_piece_columns_D (r:(List Int)) (x:Value):List Fact:=[fRep (rL (rI .i64)) x r]
theorem c_piece_columns (E:Nat→Prop) (w0:World) (p0:(List api_Point)) (v0:Value) (r:(List Int)) (h:F_piece_columns p0=some r) (S:St0 E [] w0 w0 [] [fRep (rL r_api_Point) (v0) p0]) :
 Calls Try.prog 19 #[v0] w0 (Ret (X:=Value) E [] w0 (c_piece_columns_val r) (fun _=>[]) (c_piece_columns_D r)):=by
 unfold F_piece_columns at h
 obtain ⟨ak,al,_,rfl,_⟩:=S.know (i:=0) (e:=fRep (rL r_api_Point) (v0) p0) d
 refine sEnter (args:=[.slice ak p0.length al]) 46 Try.func19 d d (by simp) S (fun a S=>?_)
 refine sSeq (fun K3 bo=>sRegion (sN S fun a S=>?_))
 refine lT (bo _ _ (sSeq (fun K4 bp=>sRegion (sM S fun a S=>?_))))
 obtain ⟨x5,bq,h⟩:=bS h
 obtain ⟨q7,br,S⟩:=pIdx (P:=Try.prog) (r:=r_api_Point) (v:=.slice ak p0.length al) (xs:=p0) (j:=0) 26 33 0 S Try.underlying26 d d bq
 refine sIdxV S (wN d) d d d br d (lb d) fun a S=>?_
 obtain ⟨q9,ax,S⟩:=pFld (P:=Try.prog) (r:=r_api_Point) (s2:=(rI .i64)) (g:=(·.X)) (q:=q7) (z:=x5) 33 0 0 0 S d d comp_api_Point_X
 refine sFldV (q:=q7) S (wN d) d d ax d (lb d) fun a S=>?_
 obtain ⟨bh,S⟩:=pLoad (r:=(rI .i64)) (q:=q9) (x:=x5.X) 0 S d
 obtain rfl:bh=iv x5.X:=S.mem.know (i:=1) (e:=fRep (rI .i64) (bh) x5.X) d
 refine sLoadV1 (vq:=q9) 0 (iv x5.X) S (wN d) d d d d d (lb d) fun a S=>sLit (r:=(rI .i64)) (T:=3) (xs:=([x5.X]:List Int)) [(0,iv x5.X)] 1 [iv x5.X] [iv x5.X] (iv 0) 8 S (wN d) d d Try.underlying34 d (by decide) (by decide) (by kernel_rfl) d (fun E1 w1 hE=>All.cons d (All.nil _ _ _)) d d (lb d) fun a w ay az S=>?_
 refine sN S fun a S=>?_
 refine lT (bp _ _ ?_)
 obtain ⟨bt,h,bu⟩:=bS h
 refine sCut (fun a w=>∃ am,am=bt∧∃ af,∃ ag,St [] E [] w0 46 a w [(3,.slice af am.length ag)] [eRow (rI .i64) 3 (.slice af am.length ag) am] []) ?_ (fun a w hI=>?_)
 rotate_left
 ·obtain ⟨am,rfl,af,ag,S⟩:=hI
  have h:=bu
  try dsimp only at h
  refine sSeq (fun bz aA=>sRegion (sM S fun a S=>?_))
  refine sN S fun a S=>?_
  refine lT (aA _ _ ?_)
  obtain rfl:=tS h
  have S:=S.shutR (r:=(rI .i64)) (T:=3) (v:=.slice af am.length ag) (xs:=am) 0 d
  exact wp_ret (sRet (.slice af am.length ag) S (rsl1 d (rvT (t:=2) (v:=.slice af am.length ag) S d)) ⟨(.slice af am.length ag),d,S.mem.sel [] [0] (by decide) d d⟩)
 refine sSeq (fun bA aC=>sRegion (sM S fun a S=>?_))
 obtain ⟨ap,aG,h⟩:=bS h
 refine sSlice (r:=r_api_Point) (v:=.slice ak p0.length al) (xs:=p0) (vlo:=(some (.int .i64 1))) (vhi:=none) (lo':=1) (hi':=(p0.length:Int)) 4 S (wN d) d Try.underlying26 d d d d d (.inl d) (.inr ⟨d,d⟩) aG d (lb d) fun a aq ar S=>?_
 refine sLen S (wN d) d Try.underlying26 d d (lb d) fun a S=>sM S fun a S=>?_
 refine lT (aC _ _ (wp_block ?_))
 obtain ⟨bB,hl,bv⟩:=bS h
 refine sLoop hl (fun s0 a w=>match s0 with | (ao,aj)=>∃ ah,∃ ai,St [] E [] w0 46 a w [(0,.slice ak p0.length al),(3,.slice ah ao.length ai),(14,.slice aq ap.length ar),(15,iv (ap.length:Int)),(16,iv aj)] [eRow (rI .i64) 3 (.slice ah ao.length ai) ao] [fRep (rL r_api_Point) (.slice ak p0.length al) p0,fRep (rL r_api_Point) (.slice aq ap.length ar) ap]) ⟨ay,az,S.fix [0] [5,0] (by decide) d d d⟩ ?_
 clear hl h
 intro s0 a w c0 hI h aH
 obtain ⟨ao,aj⟩:=s0
 unfold piece_columns_l1 at h
 dsimp only at h hI
 obtain ⟨ah,ai,S⟩:=hI
 refine sSeq (fun bC aI=>sRegion (sBin _ S (wN d) d d d (bLt _ _ _ _ .i64 aj (ap.length:Int)) d (lb d) fun a S=>lT (aI _ _ (sSeq (fun bD aJ=>?_)))))
 rcases iS h with ⟨au,h⟩ | ⟨au,h⟩
 rotate_left
 ·refine sCondF S d au ?_
  obtain rfl:=tS h
  obtain rfl:=aH _ d
  have h:=bv
  try dsimp only at h
  exact wp_exit (xThen (xThen (xHit (leafT (⟨ao,Option.some.inj h,ah,ai,S.fix [0] [] (by decide) d d d⟩)))))
 refine sCondT S d au (wp_skip (leafT (aJ _ _ ?_)))
 refine sSeq (fun bE aK=>wp_block ?_)
 refine sSeq (fun bG aL=>sRegion (sM S fun a S=>?_))
 obtain ⟨a9,aM,h⟩:=bS h
 obtain ⟨bi,aO,S⟩:=pIdx (P:=Try.prog) (r:=r_api_Point) (v:=.slice aq ap.length ar) (xs:=ap) (j:=aj) 26 33 1 S Try.underlying26 d d aM
 refine sIdxV S (wN d) d d d aO d (lb d) fun a S=>?_
 obtain ⟨bj,S⟩:=pLoad (r:=r_api_Point) (q:=bi) (x:=a9) 0 S d
 obtain rfl:bj=.agg #[iv a9.X,iv a9.Y]:=S.mem.know (i:=1) (e:=fRep r_api_Point (bj) a9) d
 refine sLoadVN (vq:=bi) 0 [iv a9.X,iv a9.Y] S (wN d) d d d d d d (lb d) fun a S=>sAlloc (.agg #[iv 0,iv 0]) S (wN d) d d [iv 0,iv 0] d d (lb d) fun a av w S=>sN S fun a S=>?_
 refine sStore (p:=av) (off:=0) (T:=33) (vs:=[iv 0,iv 0]) (v:=.agg #[iv a9.X,iv a9.Y]) 0 [iv a9.X,iv a9.Y] S (wN d) d d d d d d d (by simp) d fun a w S=>lT (aL _ _ (sSeq (fun bH aP=>?_)))
 obtain ⟨ab,aw,h⟩:=bS h
 obtain ⟨aa,aQ,h⟩:=bS h
 obtain ⟨aR,aS,S⟩:=pIdx (P:=Try.prog) (r:=r_api_Point) (v:=.slice ak p0.length al) (xs:=p0) (j:=aj) 26 33 3 S Try.underlying26 d d aw
 obtain ⟨aT,aU,S⟩:=pFld (P:=Try.prog) (r:=r_api_Point) (s2:=(rI .i64)) (g:=(·.X)) (q:=aR) (z:=ab) 33 0 0 0 S d d comp_api_Point_X
 obtain ⟨bl,S⟩:=pLoad (r:=(rI .i64)) (q:=aT) (x:=ab.X) 0 S d
 obtain rfl:bl=iv ab.X:=S.mem.know (i:=1) (e:=fRep (rI .i64) (bl) ab.X) d
 obtain ⟨aV,aW,S⟩:=pIdx (P:=Try.prog) (r:=r_api_Point) (v:=.slice ak p0.length al) (xs:=p0) (j:=aj) 26 33 7 S Try.underlying26 d d aw
 obtain ⟨aX,aZ,S⟩:=pFld (P:=Try.prog) (r:=r_api_Point) (s2:=(rI .i64)) (g:=(·.Y)) (q:=aV) (z:=ab) 33 1 0 1 S d d comp_api_Point_Y
 obtain ⟨bm,S⟩:=pLoad (r:=(rI .i64)) (q:=aX) (x:=ab.Y) 0 S d
 obtain rfl:bm=iv ab.Y:=S.mem.know (i:=1) (e:=fRep (rI .i64) (bm) ab.Y) d
 refine sDraw (nf:=[15]) (W:=[(0,22,.slice ak p0.length al),(1,23,iv aj),(2,24,aR),(3,25,aT),(4,26,iv ab.X),(5,27,.pointer (some ⟨av,0,none⟩)),(6,28,iv a9.X),(7,29,.pointer (some ⟨av,1,none⟩)),(8,30,iv a9.Y),(9,31,.slice ak p0.length al),(10,32,iv aj),(11,33,aV),(12,34,aX),(13,35,iv ab.Y),(14,36,iv (w64 (a9.Y - ab.Y)))]) d S ?_
 refine node_by (A:=anc_piece_columns_0) 21 (by kernel_rfl) (by kernel_rfl) (by kernel_rfl) (by kernel_rfl) (by kernel_rfl) [0,1,2,3,4,5,6,7,8,9,10,11,12,13,14] (by kernel_rfl) (by decide) (by decide) (fF ?_ (fF ?_ (fF ?_ (fF ?_ (fF ?_ (fF ?_ (fF ?_ (fF ?_ (fF ?_ (fF ?_ (fF ?_ (fF ?_ (fF ?_ (fF ?_ (fF ?_ (fN ?_ (fE 15 (fE 15 (fE 15 (fE 15 (fE 15 (trivial)))))))))))))))))))))) [] (fun q hq=>by cases hq) (fun hY=>absurd (hY 15 (by decide)) (by decide))
 ·exact fM 0 none d d d d (.inl d) d d d
 ·exact fM 1 none d d d d (.inl d) d d d
 ·refine fJ [(22,_),(23,_)] 2 [some 0,some 1] fun G a w S=>?_
  exact sIdxV S (wN d) d d d aS d (lb d) fun a S=>leafL ⟨d,S⟩
 ·refine fJ [(24,_)] 3 [some 2] fun G a w S=>?_
  exact sFldV (q:=aR) S (wN d) d d aU d (lb d) fun a S=>leafL ⟨d,S⟩
 ·refine fJ [(25,_)] 4 [some 3] fun G a w S=>?_
  exact sLoadV1 (vq:=aT) 4 (iv ab.X) S (wN d) d d d d d (lb d) fun a S=>leafL ⟨d,S⟩
 ·refine fJ [(5,_)] 5 [none] fun G a w S=>?_
  exact sField (b:=av) (off:=0) 0 0 S (wN d) d d d d d (lb d) fun a S=>leafL ⟨d,S⟩
 ·refine fJ [(27,_)] 6 [some 5] fun G a w S=>?_
  exact sLoad1 0 (iv a9.X) S (wN d) d d d d d d (lb d) fun a S=>leafL ⟨d,S⟩
 ·refine fJ [(5,_)] 7 [none] fun G a w S=>?_
  exact sField (b:=av) (off:=0) 1 1 S (wN d) d d d d d (lb d) fun a S=>leafL ⟨d,S⟩
 ·refine fJ [(29,_)] 8 [some 7] fun G a w S=>?_
  exact sLoad1 0 (iv a9.Y) S (wN d) d d d d d d (lb d) fun a S=>leafL ⟨d,S⟩
 ·exact fM 9 none d d d d (.inl d) d d d
 ·exact fM 10 none d d d d (.inl d) d d d
 ·refine fJ [(31,_),(32,_)] 11 [some 9,some 10] fun G a w S=>?_
  exact sIdxV S (wN d) d d d aW d (lb d) fun a S=>leafL ⟨d,S⟩
 ·refine fJ [(33,_)] 12 [some 11] fun G a w S=>?_
  exact sFldV (q:=aV) S (wN d) d d aZ d (lb d) fun a S=>leafL ⟨d,S⟩
 ·refine fJ [(34,_)] 13 [some 12] fun G a w S=>?_
  exact sLoadV1 (vq:=aX) 0 (iv ab.Y) S (wN d) d d d d d (lb d) fun a S=>leafL ⟨d,S⟩
 ·refine fJ [(30,_),(35,_)] 14 [some 8,some 13] fun G a w S=>?_
  exact sBin _ S (wN d) d d d (bSub _ _ _ _ a9.Y ab.Y) d (lb d) fun a S=>leafL ⟨d,S⟩
 refine ⟨_,[(26,iv ab.X),(28,iv a9.X),(36,iv (w64 (a9.Y - ab.Y)))],d,(srcs_of [some 4,some 6,some 14] d d d),fun G a w S=>?_⟩
 refine sCall (X:=Value) (f:=24) (vs:=[iv ab.X,iv a9.X,iv (w64 (a9.Y - ab.Y))]) (val:=c_slope_Line_val aa) (B':=fun _=>[]) (D':=c_slope_Line_D aa) [] [eBox av 33 [iv a9.X,iv a9.Y],eRow (rI .i64) 3 (.slice ah ao.length ai) ao] [] [0,1] [] S (wN d) d callee24 d (by decide) d d (fun E1 w1 S1=>c_slope_Line E1 w1 ab.X a9.X (w64 (a9.Y - ab.Y)) aa aQ S1) d (lb d) fun bw a w S=>?_
 obtain ⟨ac,ae,_,rfl,_⟩:=S.mem.know (i:=0) (e:=fRep (rL (rI .i64)) (bw) aa.1) d
 refine leafL ⟨d,_,_,.inl ⟨37,(.tuple #[.slice ac aa.1.length ae,iv aa.2]),[(16,21,.tuple #[.slice ac aa.1.length ae,iv aa.2]),(17,38,.slice ac aa.1.length ae),(18,39,iv aa.2),(19,6,.slice ac aa.1.length ae),(20,7,iv aa.2)],d,S,hz_of d,?_⟩⟩
 refine node_by (A:=anc_piece_columns_0) 21 (by kernel_rfl) (by kernel_rfl) (by kernel_rfl) (by kernel_rfl) (by kernel_rfl) [16,17,18,19,20,15,0,1,2,3,4,5,6,7,8,9,10,11,12,13,14] (by kernel_rfl) (by decide) (by decide) (fD 15 (fD 15 (fD 15 (fD 15 (fD 15 (fD 15 (fD 15 (fD 15 (fD 15 (fD 15 (fD 15 (fD 15 (fD 15 (fD 15 (fD 15 (fY (fF ?_ (fF ?_ (fF ?_ (fF ?_ (fF ?_ (trivial)))))))))))))))))))))) [(0,.slice ak p0.length al),(3,.slice ah ao.length ai),(6,.slice ac aa.1.length ae),(14,.slice aq ap.length ar),(15,iv (ap.length:Int)),(16,iv aj)] (fin_of [none,none,some 3,none,none,none] d (by kernel_rfl) (by kernel_rfl)) (fun _ a w S=>?_)
 ·exact fM 0 (some 5) d d d d (.inl d) d d d
 ·refine fJ [(21,_)] 1 [some 0] fun G a w S=>?_
  exact sExtract (vs:=[.slice ac aa.1.length ae,iv aa.2]) (.slice ac aa.1.length ae) S (wN d) d d d d (lb d) fun a S=>leafL ⟨d,S⟩
 ·refine fJ [(21,_)] 2 [some 0] fun G a w S=>?_
  exact sExtract (vs:=[.slice ac aa.1.length ae,iv aa.2]) (iv aa.2) S (wN d) d d d d (lb d) fun a S=>leafL ⟨d,S⟩
 ·exact fM 3 (some 1) d d d d (.inr d) d d d
 ·exact fM 4 (some 2) d d d d (.inr d) d d d
 refine leafT (aP _ _ ?_)
 refine sRegion (sM S fun a S=>?_)
 refine sM S fun a S=>?_
 obtain ⟨bn,b8,h⟩:=bS h
 refine sSlice (r:=(rI .i64)) (v:=.slice ac aa.1.length ae) (xs:=aa.1) (vlo:=(some (.int .i64 1))) (vhi:=none) (lo':=1) (hi':=(aa.1.length:Int)) 0 S (wN d) d Try.underlying34 d d d d d (.inl d) (.inr ⟨d,d⟩) b8 d (lb d) fun a ba bb S=>?_
 obtain ⟨bx,bc,h⟩:=bS h
 refine sApp (r:=(rI .i64)) (T:=3) (xs:=ao) (ys:=bn) (v:=.slice ah ao.length ai) (u:=.slice ba bn.length bb) 1 (iv 0) 8 S (wN d) d Try.underlying34 d d (by decide) d d d (src_D 0 S.mem d) bc d (lb d) fun a w bf bg S=>sN S fun a S=>?_
 refine leafL (leafB (leafT (aK _ _ ?_)))
 refine sRegion (sBin _ S (wN d) d d d (bAdd _ _ _ _ aj 1) d (lb d) fun a S=>sM S fun a S=>?_)
 exact lT (⟨(bx,w64 (aj + 1)),(Option.some.inj h).symm,⟨bf,bg,S.fix [0] [13,14] (by decide) d d d⟩⟩)
def anc_piece_Make_0:List (List Nat):=[[],[0],[0,1],[],[3],[0,1,2,3,4],[0,1,2,3,4,5],[],[0,1,2,3,4,5,6,7]]
noncomputable def F_piece_Make (p0:api_Shape):Option (api_Piece × Int):=
 (F_piece_shape p0).bind fun a9=>
 if a9 != 0 then
  some ((api_Piece.mk ([]:(List Int)) ([]:(List Int))),a9)
 else
  (F_piece_columns p0.Left).bind fun aa=>
  (F_piece_columns p0.Right).bind fun ab=>
  (F_piece_Check (api_Piece.mk aa ab)).bind fun ac=>
  if ac != 0 then
   some ((api_Piece.mk ([]:(List Int)) ([]:(List Int))),16)
  else
   some ((api_Piece.mk aa ab),0)
def c_piece_Make_val (r:(api_Piece × Int)) (x:Value):Value:=.tuple #[x,.int .i64 r.2]
def c_piece_Make_D (r:(api_Piece × Int)) (x:Value):List Fact:=[fRep r_api_Piece x r.1]
theorem c_piece_Make (E:Nat→Prop) (w0:World) (p0:api_Shape) (v0:Value) (r:(api_Piece × Int)) (h:F_piece_Make p0=some r) (S:St0 E [] w0 w0 [] [fRep r_api_Shape (v0) p0]) :
 Calls Try.prog 7 #[v0] w0 (Ret (X:=Value) E [] w0 (c_piece_Make_val r) (fun _=>[]) (c_piece_Make_D r)):=by
 unfold F_piece_Make at h
 obtain ⟨u1,u2,rfl,aS,aT⟩:=S.know (i:=0) (e:=fRep r_api_Shape (v0) p0) d
 have S:=S.learn (fRep (rL r_api_Point) u1 p0.Left) aS
 obtain ⟨ai,aj,_,rfl,_⟩:=aS
 have S:=S.learn (fRep (rL r_api_Point) u2 p0.Right) aT
 obtain ⟨ag,ah,_,rfl,_⟩:=aT
 refine sEnter (args:=[.agg #[.slice ai p0.Left.length aj,.slice ag p0.Right.length ah]]) 24 Try.func7 d d (by simp) S (fun a S=>?_)
 refine sSeq (fun K9 aU=>sRegion (sBox (v:=.agg #[.slice ai p0.Left.length aj,.slice ag p0.Right.length ah]) S (wN d) d d [.slice ai p0.Left.length aj,.slice ag p0.Right.length ah] d d (lb d) fun a ak w S=>sAlloc (.agg #[.slice none 0 0,.slice none 0 0]) S (wN d) d d [.slice none 0 0,.slice none 0 0] d d (lb d) fun a al w S=>sN S fun a S=>?_))
 refine lT (aU _ _ (sSeq (fun b8 aA=>sSeq (fun ba aC=>sRegion (sLoadN (p:=ak) (off:=0) (T:=28) (vs:=[.slice ai p0.Left.length aj,.slice ag p0.Right.length ah]) 1 [.slice ai p0.Left.length aj,.slice ag p0.Right.length ah] S (wN d) d d d d d d d (lb d) fun a S=>?_)))))
 obtain ⟨av,aG,h⟩:=bS h
 have S1:=S.mem
 refine sCq [.agg #[.slice ai p0.Left.length aj,.slice ag p0.Right.length ah]] (iv av) S callee18 (S1.quiet [2] d) (fun E1 w1 S1=>c_piece_shape E1 w1 p0 (.agg #[.slice ai p0.Left.length aj,.slice ag p0.Right.length ah]) av aG S1) fun a w S=>?_
 refine sN S fun a S=>?_
 refine lT (aC _ _ (sSeq (fun bb aH=>sRegion (sM S fun a S=>?_))))
 refine sBin _ S (wN d) d d d (bNe _ _ _ _ .i64 av 0) d (lb d) fun a S=>lT (aH _ _ ?_)
 rcases iS h with ⟨ap,h⟩ | ⟨ap,h⟩
 ·refine sCondT S d ap (sSeq (fun bc aI=>sRegion (sBuild [] [.slice none 0 0,.slice none 0 0] S (wN d) d d d d (lb d) fun a S=>sM S fun a S=>?_)))
  refine sStore (p:=al) (off:=0) (T:=36) (vs:=[.slice none 0 0,.slice none 0 0]) (v:=.agg #[.slice none 0 0,.slice none 0 0]) 0 [.slice none 0 0,.slice none 0 0] S (wN d) d d d d d d d (by simp) d fun a w S=>sN S fun a S=>?_
  refine lT (aI _ _ ?_)
  obtain rfl:=tS h
  have S:=S.learn (fRep (rL (rI .i64)) (.slice none 0 0) ([]:(List Int))) (rL_nil _ _ _)
  have S:=S.learn (fRep r_api_Piece (.agg #[.slice none 0 0,.slice none 0 0]) (api_Piece.mk ([]:(List Int)) ([]:(List Int)))) ⟨_,_,d,S.mem.know (i:=0) (e:=fRep (rL (rI .i64)) (.slice none 0 0) ([]:(List Int))) d,S.mem.know (i:=0) (e:=fRep (rL (rI .i64)) (.slice none 0 0) ([]:(List Int))) d⟩
  exact wp_ret (rThen (sRet (.tuple #[.agg #[.slice none 0 0,.slice none 0 0],iv av]) S (rsl2 d (rvN (c:=2) (t:=36) (T:=36) (p:=al) 0 [.slice none 0 0,.slice none 0 0] S d d d d) (rvT (t:=3) (v:=iv av) S d)) ⟨(.agg #[.slice none 0 0,.slice none 0 0]),d,S.mem.sel [] [0] (by decide) d d⟩))
 refine sCondF S d ap (wp_skip (leafT (aA _ _ ?_)))
 refine sSeq (fun bf aJ=>?_)
 obtain ⟨ae,aw,h⟩:=bS h
 obtain ⟨af,ax,h⟩:=bS h
 refine sDraw (nf:=[2,5,7,8]) (W:=[(0,12,.pointer (some ⟨ak,0,none⟩)),(1,13,.slice ai p0.Left.length aj),(3,15,.pointer (some ⟨ak,1,none⟩)),(4,16,.slice ag p0.Right.length ah)]) d S ?_
 refine nodeCut (fun N W L D=>∀ am a9 aa ab ac,N [7,5,2] ((7,5,.pointer (some ⟨am,0,none⟩)) :: (6,18,.agg #[.slice a9 ae.length aa,.slice ab af.length ac]) :: (5,17,.slice ab af.length ac) :: (2,14,.slice a9 ae.length aa) :: W) ((eBox am 36 [.slice none 0 0,.slice none 0 0]) :: L) ((fRep (rL (rI .i64)) (.slice ab af.length ac) af) :: (fRep (rL (rI .i64)) (.slice a9 ae.length aa) ae) :: D)) (fun am a9 aa ab ac=>?_) fun nd1=>?_
 ·refine node_by (A:=anc_piece_Make_0) 9 (by kernel_rfl) (by kernel_rfl) (by kernel_rfl) (by kernel_rfl) (by kernel_rfl) [7,6,5,2,0,1,3,4] (by kernel_rfl) (by decide) (by decide) (fD 5 (fD 5 (fY (fD 5 (fD 5 (fY (fF ?_ (fY (fN ?_ (trivial)))))))))) [] (fun q hq=>by cases hq) (fun hY=>absurd (hY 8 (by decide)) (by decide))
  ·refine fJ [(14,_),(17,_)] 1 [some 3,some 2] fun G a w S=>?_
   exact sBuild [(0,.slice a9 ae.length aa),(1,.slice ab af.length ac)] [.slice a9 ae.length aa,.slice ab af.length ac] S (wN d) d d d d (lb d) fun a S=>leafL ⟨d,S⟩
  refine ⟨_,[(5,.pointer (some ⟨am,0,none⟩)),(18,.agg #[.slice a9 ae.length aa,.slice ab af.length ac])],d,(srcs_of [some 0,some 1] d d d),fun G a w S=>?_⟩
  refine sStore (p:=am) (off:=0) (T:=36) (vs:=[.slice none 0 0,.slice none 0 0]) (v:=.agg #[.slice a9 ae.length aa,.slice ab af.length ac]) 0 [.slice a9 ae.length aa,.slice ab af.length ac] S (wN d) d d d d d d d (by simp) d fun a w S=>leafL ⟨d,_,_,.inr ⟨[],d,S,hz_of d,?_⟩⟩
  refine node_by (A:=anc_piece_Make_0) 9 (by kernel_rfl) (by kernel_rfl) (by kernel_rfl) (by kernel_rfl) (by kernel_rfl) [7,6,5,2,0,1,3,4] (by kernel_rfl) (by decide) (by decide) (fD 8 (fD 8 (fY (fD 8 (fD 8 (fY (fD 8 (fY (fY (trivial)))))))))) [(2,.pointer (some ⟨al,0,none⟩)),(5,.pointer (some ⟨am,0,none⟩))] (fin_of [none,some 0] d (by kernel_rfl) (by kernel_rfl)) (fun _ a w S=>?_)
  refine leafT (aJ _ _ ?_)
  refine sSeq (fun bg aK=>sSeq (fun bh aL=>sRegion (sLoadN (p:=am) (off:=0) (T:=36) (vs:=[.slice a9 ae.length aa,.slice ab af.length ac]) 0 [.slice a9 ae.length aa,.slice ab af.length ac] S (wN d) d d d d d d d (lb d) fun a S=>?_)))
  obtain ⟨aM,aO,h⟩:=bS h
  have S1:=S.mem
  have S1:=S1.learn (fRep r_api_Piece (.agg #[.slice a9 ae.length aa,.slice ab af.length ac]) (api_Piece.mk ae af)) ⟨_,_,d,S1.know (i:=1) (e:=fRep (rL (rI .i64)) (.slice a9 ae.length aa) ae) d,S1.know (i:=0) (e:=fRep (rL (rI .i64)) (.slice ab af.length ac) af) d⟩
  refine sCq [.agg #[.slice a9 ae.length aa,.slice ab af.length ac]] (iv aM) S callee20 (S1.quiet [0] d) (fun E1 w1 S1=>c_piece_Check E1 w1 (api_Piece.mk ae af) (.agg #[.slice a9 ae.length aa,.slice ab af.length ac]) aM aO S1) fun a w S=>?_
  refine sBin _ S (wN d) d d d (bNe _ _ _ _ .i64 aM 0) d (lb d) fun a S=>lT (aL _ _ ?_)
  rcases iS h with ⟨aq,h⟩ | ⟨aq,h⟩
  ·refine sCondT S d aq (sSeq (fun bi aP=>sRegion (sBuild [] [.slice none 0 0,.slice none 0 0] S (wN d) d d d d (lb d) fun a S=>sStore (p:=al) (off:=0) (T:=36) (vs:=[.slice none 0 0,.slice none 0 0]) (v:=.agg #[.slice none 0 0,.slice none 0 0]) 1 [.slice none 0 0,.slice none 0 0] S (wN d) d d d d d d d (by simp) d fun a w S=>sN S fun a S=>?_)))
   refine lT (aP _ _ ?_)
   obtain rfl:=tS h
   have S:=S.learn (fRep (rL (rI .i64)) (.slice none 0 0) ([]:(List Int))) (rL_nil _ _ _)
   have S:=S.learn (fRep r_api_Piece (.agg #[.slice none 0 0,.slice none 0 0]) (api_Piece.mk ([]:(List Int)) ([]:(List Int)))) ⟨_,_,d,S.mem.know (i:=0) (e:=fRep (rL (rI .i64)) (.slice none 0 0) ([]:(List Int))) d,S.mem.know (i:=0) (e:=fRep (rL (rI .i64)) (.slice none 0 0) ([]:(List Int))) d⟩
   exact wp_ret (rThen (sRet (.tuple #[.agg #[.slice none 0 0,.slice none 0 0],iv 16]) S (rsl2 d (rvN (c:=2) (t:=36) (T:=36) (p:=al) 0 [.slice none 0 0,.slice none 0 0] S d d d d) (rvT (t:=3) (v:=iv 16) S d)) ⟨(.agg #[.slice none 0 0,.slice none 0 0]),d,S.mem.sel [] [0] (by decide) d d⟩))
  refine sCondF S d aq (wp_skip (leafT (aK _ _ ?_)))
  refine sSeq (fun bj aQ=>sRegion (sLoadN (p:=am) (off:=0) (T:=36) (vs:=[.slice a9 ae.length aa,.slice ab af.length ac]) 0 [.slice a9 ae.length aa,.slice ab af.length ac] S (wN d) d d d d d d d (lb d) fun a S=>sStore (p:=al) (off:=0) (T:=36) (vs:=[.slice none 0 0,.slice none 0 0]) (v:=.agg #[.slice a9 ae.length aa,.slice ab af.length ac]) 1 [.slice a9 ae.length aa,.slice ab af.length ac] S (wN d) d d d d d d d (by simp) d fun a w S=>sN S fun a S=>?_))
  refine lT (aQ _ _ ?_)
  obtain rfl:=tS h
  have S:=S.learn (fRep r_api_Piece (.agg #[.slice a9 ae.length aa,.slice ab af.length ac]) (api_Piece.mk ae af)) ⟨_,_,d,S.mem.know (i:=1) (e:=fRep (rL (rI .i64)) (.slice a9 ae.length aa) ae) d,S.mem.know (i:=0) (e:=fRep (rL (rI .i64)) (.slice ab af.length ac) af) d⟩
  exact wp_ret (sRet (.tuple #[.agg #[.slice a9 ae.length aa,.slice ab af.length ac],iv 0]) S (rsl2 d (rvN (c:=2) (t:=36) (T:=36) (p:=al) 0 [.slice a9 ae.length aa,.slice ab af.length ac] S d d d d) (rvT (t:=3) (v:=iv 0) S d)) ⟨(.agg #[.slice a9 ae.length aa,.slice ab af.length ac]),d,S.mem.sel [] [0] (by decide) d d⟩)
 refine nodeCut (fun N W L D=>∀ ao a9 aa,N [7,2] ((7,5,.pointer (some ⟨ao,0,none⟩)) :: (2,14,.slice a9 ae.length aa) :: W) ((eBox ao 36 [.slice none 0 0,.slice none 0 0]) :: L) ((fRep (rL (rI .i64)) (.slice a9 ae.length aa) ae) :: D)) (fun ao a9 aa=>?_) fun nd2=>?_
 ·refine node_by (A:=anc_piece_Make_0) 9 (by kernel_rfl) (by kernel_rfl) (by kernel_rfl) (by kernel_rfl) (by kernel_rfl) [7,2,0,1,3,4] (by kernel_rfl) (by decide) (by decide) (fD 2 (fD 2 (fY (fF ?_ (fF ?_ (fN ?_ (fE 5 (fY (aB 8 0 5 (by decide) (trivial)))))))))) [] (fun q hq=>by cases hq) (fun hY=>absurd (hY 5 (by decide)) (by decide))
  ·refine fJ [(1,_)] 4 [none] fun G a w S=>?_
   exact sField (b:=ak) (off:=0) 1 1 S (wN d) d d d d d (lb d) fun a S=>leafL ⟨d,S⟩
  ·refine fJ [(15,_)] 5 [some 4] fun G a w S=>?_
   exact sLoad1 2 (.slice ag p0.Right.length ah) S (wN d) d d d d d d (lb d) fun a S=>leafL ⟨d,S⟩
  refine ⟨_,[(16,.slice ag p0.Right.length ah)],d,(srcs_of [some 5] d d d),fun G a w S=>?_⟩
  refine sCall (X:=Value) (f:=19) (vs:=[.slice ag p0.Right.length ah]) (val:=c_piece_columns_val af) (B':=fun _=>[]) (D':=c_piece_columns_D af) [] [eBox ao 36 [.slice none 0 0,.slice none 0 0],eBox al 36 [.slice none 0 0,.slice none 0 0],eBox ak 28 [.slice ai p0.Left.length aj,.slice ag p0.Right.length ah]] [fRep (rL r_api_Point) (.slice ag p0.Right.length ah) p0.Right] [0,1,2] [1] S (wN d) d callee19 d (by decide) d d (fun E1 w1 S1=>c_piece_columns E1 w1 p0.Right (.slice ag p0.Right.length ah) af ax S1) d (lb d) fun aV a w S=>?_
  obtain ⟨ar,au,_,rfl,_⟩:=S.mem.know (i:=0) (e:=fRep (rL (rI .i64)) (aV) af) d
  refine leafL ⟨d,_,_,.inl ⟨17,(.slice ar af.length au),[(6,18,.agg #[.slice a9 ae.length aa,.slice ar af.length au])],d,S,hz_of d,?_⟩⟩
  exact nodePerm (nd1 ao a9 aa ar au) [2,0,1,3,4,5,6,7] [0,1,2] [0,1,2,3,4] (by decide) (by decide) d d d
 refine node_by (A:=anc_piece_Make_0) 9 (by kernel_rfl) (by kernel_rfl) (by kernel_rfl) (by kernel_rfl) (by kernel_rfl) [0,1,3,4] (by kernel_rfl) (by decide) (by decide) (fF ?_ (fF ?_ (fN ?_ (fF ?_ (fF ?_ (aB 5 3 2 (by decide) (fE 2 (fN ?_ (aB 8 0 2 (by decide) (trivial)))))))))) [] (fun q hq=>by cases hq) (fun hY=>absurd (hY 2 (by decide)) (by decide))
 ·refine fJ [(1,_)] 0 [none] fun G a w S=>?_
  exact sField (b:=ak) (off:=0) 0 0 S (wN d) d d d d d (lb d) fun a S=>leafL ⟨d,S⟩
 ·refine fJ [(12,_)] 1 [some 0] fun G a w S=>?_
  exact sLoad1 1 (.slice ai p0.Left.length aj) S (wN d) d d d d d d (lb d) fun a S=>leafL ⟨d,S⟩
 ·refine ⟨_,[(13,.slice ai p0.Left.length aj)],d,(srcs_of [some 1] d d d),fun G a w S=>?_⟩
  refine sCall (X:=Value) (f:=19) (vs:=[.slice ai p0.Left.length aj]) (val:=c_piece_columns_val ae) (B':=fun _=>[]) (D':=c_piece_columns_D ae) [] [eBox al 36 [.slice none 0 0,.slice none 0 0],eBox ak 28 [.slice ai p0.Left.length aj,.slice ag p0.Right.length ah]] [fRep (rL r_api_Point) (.slice ai p0.Left.length aj) p0.Left] [0,1] [1] S (wN d) d callee19 d (by decide) d d (fun E1 w1 S1=>c_piece_columns E1 w1 p0.Left (.slice ai p0.Left.length aj) ae aw S1) d (lb d) fun aW a w S=>?_
  obtain ⟨a9,aa,_,rfl,_⟩:=S.mem.know (i:=0) (e:=fRep (rL (rI .i64)) (aW) ae) d
  refine leafL ⟨d,_,_,.inl ⟨14,(.slice a9 ae.length aa),[],d,S,hz_of d,?_⟩⟩
  refine node_by (A:=anc_piece_Make_0) 9 (by kernel_rfl) (by kernel_rfl) (by kernel_rfl) (by kernel_rfl) (by kernel_rfl) [2,0,1,3,4] (by kernel_rfl) (by decide) (by decide) (fD 2 (fD 2 (fY (fF ?_ (fF ?_ (fN ?_ (fE 5 (fN ?_ (aB 8 0 5 (by decide) (trivial)))))))))) [] (fun q hq=>by cases hq) (fun hY=>absurd (hY 5 (by decide)) (by decide))
  ·refine fJ [(1,_)] 3 [none] fun G a w S=>?_
   exact sField (b:=ak) (off:=0) 1 1 S (wN d) d d d d d (lb d) fun a S=>leafL ⟨d,S⟩
  ·refine fJ [(15,_)] 4 [some 3] fun G a w S=>?_
   exact sLoad1 1 (.slice ag p0.Right.length ah) S (wN d) d d d d d d (lb d) fun a S=>leafL ⟨d,S⟩
  ·refine ⟨_,[(16,.slice ag p0.Right.length ah)],d,(srcs_of [some 4] d d d),fun G a w S=>?_⟩
   refine sCall (X:=Value) (f:=19) (vs:=[.slice ag p0.Right.length ah]) (val:=c_piece_columns_val af) (B':=fun _=>[]) (D':=c_piece_columns_D af) [] [eBox al 36 [.slice none 0 0,.slice none 0 0],eBox ak 28 [.slice ai p0.Left.length aj,.slice ag p0.Right.length ah]] [fRep (rL r_api_Point) (.slice ag p0.Right.length ah) p0.Right] [0,1] [1] S (wN d) d callee19 d (by decide) d d (fun E1 w1 S1=>c_piece_columns E1 w1 p0.Right (.slice ag p0.Right.length ah) af ax S1) d (lb d) fun aX a w S=>?_
   obtain ⟨ab,ac,_,rfl,_⟩:=S.mem.know (i:=0) (e:=fRep (rL (rI .i64)) (aX) af) d
   refine leafL ⟨d,_,_,.inl ⟨17,(.slice ab af.length ac),[(6,18,.agg #[.slice a9 ae.length aa,.slice ab af.length ac])],d,S,hz_of d,?_⟩⟩
   refine node_by (A:=anc_piece_Make_0) 9 (by kernel_rfl) (by kernel_rfl) (by kernel_rfl) (by kernel_rfl) (by kernel_rfl) [6,5,2,0,1,3,4] (by kernel_rfl) (by decide) (by decide) (fD 5 (fD 5 (fY (fD 5 (fD 5 (fY (fF ?_ (fN ?_ (aB 8 0 7 (by decide) (trivial)))))))))) [] (fun q hq=>by cases hq) (fun hY=>absurd (hY 7 (by decide)) (by decide))
   ·refine fJ [(14,_),(17,_)] 0 [some 2,some 1] fun G a w S=>?_
    exact sBuild [(0,.slice a9 ae.length aa),(1,.slice ab af.length ac)] [.slice a9 ae.length aa,.slice ab af.length ac] S (wN d) d d d d (lb d) fun a S=>leafL ⟨d,S⟩
   refine ⟨_,[],d,(srcs_of [] d d d),fun G a w S=>?_⟩
   refine sAlloc (.agg #[.slice none 0 0,.slice none 0 0]) S (wN d) d d [.slice none 0 0,.slice none 0 0] d d (lb d) fun a am w S=>leafL ⟨d,_,_,.inl ⟨5,(.pointer (some ⟨am,0,none⟩)),[],d,S,hz_of d,?_⟩⟩
   exact nd1 am a9 aa ab ac
  refine ⟨_,[],d,(srcs_of [] d d d),fun G a w S=>?_⟩
  refine sAlloc (.agg #[.slice none 0 0,.slice none 0 0]) S (wN d) d d [.slice none 0 0,.slice none 0 0] d d (lb d) fun a ao w S=>leafL ⟨d,_,_,.inl ⟨5,(.pointer (some ⟨ao,0,none⟩)),[],d,S,hz_of d,?_⟩⟩
  exact nd2 ao a9 aa
 ·refine fJ [(1,_)] 2 [none] fun G a w S=>?_
  exact sField (b:=ak) (off:=0) 1 1 S (wN d) d d d d d (lb d) fun a S=>leafL ⟨d,S⟩
 ·refine fJ [(15,_)] 3 [some 2] fun G a w S=>?_
  exact sLoad1 1 (.slice ag p0.Right.length ah) S (wN d) d d d d d d (lb d) fun a S=>leafL ⟨d,S⟩
 refine ⟨_,[],d,(srcs_of [] d d d),fun G a w S=>?_⟩
 refine sAlloc (.agg #[.slice none 0 0,.slice none 0 0]) S (wN d) d d [.slice none 0 0,.slice none 0 0] d d (lb d) fun a aR w S=>leafL ⟨d,_,_,.inl ⟨5,(.pointer (some ⟨aR,0,none⟩)),[],d,S,hz_of d,?_⟩⟩
 refine node_by (A:=anc_piece_Make_0) 9 (by kernel_rfl) (by kernel_rfl) (by kernel_rfl) (by kernel_rfl) (by kernel_rfl) [7,0,1,3,4] (by kernel_rfl) (by decide) (by decide) (fF ?_ (fF ?_ (fN ?_ (fF ?_ (fF ?_ (aB 5 3 2 (by decide) (fE 2 (fY (aB 8 0 2 (by decide) (trivial)))))))))) [] (fun q hq=>by cases hq) (fun hY=>absurd (hY 2 (by decide)) (by decide))
 ·refine fJ [(1,_)] 1 [none] fun G a w S=>?_
  exact sField (b:=ak) (off:=0) 0 0 S (wN d) d d d d d (lb d) fun a S=>leafL ⟨d,S⟩
 ·refine fJ [(12,_)] 2 [some 1] fun G a w S=>?_
  exact sLoad1 2 (.slice ai p0.Left.length aj) S (wN d) d d d d d d (lb d) fun a S=>leafL ⟨d,S⟩
 ·refine ⟨_,[(13,.slice ai p0.Left.length aj)],d,(srcs_of [some 2] d d d),fun G a w S=>?_⟩
  refine sCall (X:=Value) (f:=19) (vs:=[.slice ai p0.Left.length aj]) (val:=c_piece_columns_val ae) (B':=fun _=>[]) (D':=c_piece_columns_D ae) [] [eBox aR 36 [.slice none 0 0,.slice none 0 0],eBox al 36 [.slice none 0 0,.slice none 0 0],eBox ak 28 [.slice ai p0.Left.length aj,.slice ag p0.Right.length ah]] [fRep (rL r_api_Point) (.slice ai p0.Left.length aj) p0.Left] [0,1,2] [1] S (wN d) d callee19 d (by decide) d d (fun E1 w1 S1=>c_piece_columns E1 w1 p0.Left (.slice ai p0.Left.length aj) ae aw S1) d (lb d) fun aZ a w S=>?_
  obtain ⟨ay,az,_,rfl,_⟩:=S.mem.know (i:=0) (e:=fRep (rL (rI .i64)) (aZ) ae) d
  refine leafL ⟨d,_,_,.inl ⟨14,(.slice ay ae.length az),[],d,S,hz_of d,?_⟩⟩
  exact nodePerm (nd2 aR ay az) [1,0,2,3,4,5] [0,1,2] [0,1,2,3] (by decide) (by decide) d d d
 ·refine fJ [(1,_)] 3 [none] fun G a w S=>?_
  exact sField (b:=ak) (off:=0) 1 1 S (wN d) d d d d d (lb d) fun a S=>leafL ⟨d,S⟩
 refine fJ [(15,_)] 4 [some 3] fun G a w S=>?_
 exact sLoad1 2 (.slice ag p0.Right.length ah) S (wN d) d d d d d d (lb d) fun a S=>leafL ⟨d,S⟩
end Go.Proofs.Ytnfjcalmangncaa
