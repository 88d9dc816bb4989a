/- CompareGroup: walks, tables, laws. -/
import Derived.Test.YtffikfajljbmnaaProg
import Derived.Test.YtffikfajljbmnaaRows
import Derived.Test.YtffikfajljbmnaaMCompareGroup6
set_option linter.unusedVariables false
set_option linter.unusedSimpArgs false
set_option maxHeartbeats 4000000
set_option maxRecDepth 100000
namespace Go.Proofs.Ytffikfajljbmnaa
open Go.RowKit
def lastN (grp:Int):Nat:=if grp=0 then 0 else if grp=1 then 3 else if grp=2 then 7 else 15
theorem lastN_lt (grp:Int):lastN grp < 16:=by
 unfold lastN
 repeat' split
 all_goals omega
theorem last_eq (grp:Int):F_raddleref46_Last grp=some ((lastN grp:Nat):Int):=by
 unfold F_raddleref46_Last lastN
 by_cases h0:grp=0
 ·rw [bT h0,if_pos h0]; rfl
 by_cases h1:grp=1
 ·rw [bF h0,bT h1,if_neg h0,if_pos h1]; rfl
 by_cases h2:grp=2
 ·rw [bF h0,bF h1,bT h2,if_neg h0,if_neg h1,if_pos h2]; rfl
 ·rw [bF h0,bF h1,bF h2,if_neg h0,if_neg h1,if_neg h2]; rfl
theorem last_idx {grp:Int} (h0:0 ≤ grp) (h3:grp ≤ 3):idxO ([0,3,7,15]:List Int) grp=some ((lastN grp:Nat):Int):=by
 have:grp=0 ∨ grp=1 ∨ grp=2 ∨ grp=3:=by omega
 rcases this with rfl | rfl | rfl | rfl <;> rfl
theorem last_kp {grp:Int} (h0:0 ≤ grp) (h3:grp ≤ 3) {w h:Nat} (hs:1 < grp→w=h):Kp w h (lastN grp + 1):=by
 intro op hop hc
 have:grp=0 ∨ grp=1 ∨ grp=2 ∨ grp=3:=by omega
 rcases this with rfl | rfl | rfl | rfl
 ·have:op < 1:=hop
  obtain rfl:op=0:=by omega
  exact absurd hc (by decide)
 ·have:op < 4:=hop
  have:op=0 ∨ op=1 ∨ op=2 ∨ op=3:=by omega
  rcases this with rfl | rfl | rfl | rfl <;> exact absurd hc (by decide)
 ·exact hs (by decide)
 ·exact hs (by decide)
def oddS (a b:api_Grid) (grp:Int):Prop:=grp < 0 ∨ 3 < grp ∨ ¬ a.W=b.W ∨ ¬ a.H=b.H ∨ (1 < grp∧¬ a.W=a.H)
instance (a b:api_Grid) (grp:Int):Decidable (oddS a b grp):=by unfold oddS; infer_instance
theorem odd_eq (a b:api_Grid) (grp:Int):(if decide (grp < 0)=true then some true else if decide (3 < grp)=true then some true else if (a.W != b.W)=true then some true else if (a.H != b.H)=true then some true else if decide (1 < grp)=true then some (a.W != a.H) else some false)=some (decide (oddS a b grp)):=by
 by_cases c1:grp < 0
 ·rw [dT c1,dT (show oddS a b grp from .inl c1)]; rfl
 by_cases c2:3 < grp
 ·rw [dF c1,dT c2,dT (show oddS a b grp from .inr (.inl c2))]; rfl
 by_cases c3:a.W=b.W
 case neg=>rw [dF c1,dF c2,nT c3,dT (show oddS a b grp from .inr (.inr (.inl c3)))]; rfl
 by_cases c4:a.H=b.H
 case neg=>rw [dF c1,dF c2,nF c3,nT c4,dT (show oddS a b grp from .inr (.inr (.inr (.inl c4))))]; rfl
 by_cases c5:1 < grp
 ·by_cases c6:a.W=a.H
  ·rw [dF c1,dF c2,nF c3,nF c4,dT c5,nF c6,dF (show ¬ oddS a b grp by unfold oddS; omega)]; rfl
  ·rw [dF c1,dF c2,nF c3,nF c4,dT c5,nT c6,dT (show oddS a b grp from .inr (.inr (.inr (.inr ⟨c5,c6⟩))))]; rfl
 ·rw [dF c1,dF c2,nF c3,nF c4,dF c5,dF (show ¬ oddS a b grp by unfold oddS; omega)]; rfl
def bigS (a b:api_Grid):Prop:=16 < a.W ∨ 16 < a.H ∨ 16 < b.W ∨ 16 < b.H
instance (a b:api_Grid):Decidable (bigS a b):=by unfold bigS; infer_instance
def startS (a b:api_Grid) (grp:Int):Int:=if gerr a=0 then (if gerr b=0 then (if bigS a b then 4 else if oddS a b grp then 2 else 0) else gerr b) else gerr a
theorem start_ok {a b:api_Grid} {grp:Int} (h:startS a b grp=0):∃ w h,Gr a w h∧Gr b w h∧w ≤ 16∧h ≤ 16∧0 ≤ grp∧grp ≤ 3∧(1 < grp→w=h):=by
 unfold startS at h
 by_cases h1:gerr a=0
 case neg=>rw [if_neg h1] at h; exact absurd h h1
 by_cases h2:gerr b=0
 case neg=>rw [if_pos h1,if_neg h2] at h; exact absurd h h2
 rw [if_pos h1,if_pos h2] at h
 by_cases h3:bigS a b
 ·rw [if_pos h3] at h; cases h
 rw [if_neg h3] at h
 by_cases h4:oddS a b grp
 ·rw [if_pos h4] at h; cases h
 obtain ⟨w,k,A⟩:=gerr_zero h1
 obtain ⟨w',k',B⟩:=gerr_zero h2
 unfold bigS at h3
 unfold oddS at h4
 have q1:=A.hw
 have q2:=A.hh
 have q3:=B.hw
 have q4:=B.hh
 obtain ⟨rfl,rfl⟩:w'=w∧k'=k:=by omega
 exact ⟨w',k',A,B,by omega,by omega,by omega,by omega,fun _=>by omega⟩
theorem start_of {a b:api_Grid} {w h:Nat} {grp:Int} (A:Gr a w h) (B:Gr b w h) (hw:w ≤ 16) (hh:h ≤ 16) (g0:0 ≤ grp) (g3:grp ≤ 3) (gs:1 < grp→w=h):startS a b grp=0:=by
 have q1:=A.hw
 have q2:=A.hh
 have q3:=B.hw
 have q4:=B.hh
 unfold startS
 rw [if_pos (gr_err A),if_pos (gr_err B),if_neg (by unfold bigS; omega),if_neg (by unfold oddS; omega)]
theorem rstart_eq (a b:api_Grid) (grp:Int):F_raddleref46_Start a b grp=some (startS a b grp):=by
 unfold F_raddleref46_Start startS
 simp only [rboth_eq,Option.bind_some]
 by_cases h1:gerr a=0
 case neg=>rw [if_neg h1,if_neg h1]; simp only [nT h1,if_true]
 rw [if_pos h1,if_pos h1]
 by_cases h2:gerr b=0
 case neg=>rw [if_neg h2]; simp only [nT h2,if_true]
 rw [if_pos h2]
 have hb:(if decide (16 < a.W)=true then some true else if decide (16 < a.H)=true then some true else if decide (16 < b.W)=true then some true else some (decide (16 < b.H)))=some (decide (bigS a b)):=by
  by_cases c1:16 < a.W
  ·rw [dT c1,dT (show bigS a b from .inl c1)]; rfl
  by_cases c2:16 < a.H
  ·rw [dF c1,dT c2,dT (show bigS a b from .inr (.inl c2))]; rfl
  by_cases c3:16 < b.W
  ·rw [dF c1,dF c2,dT c3,dT (show bigS a b from .inr (.inr (.inl c3)))]; rfl
  rw [dF c1,dF c2,dF c3]
  simp only [Bool.false_eq_true,if_false]
  congr 1
  exact decide_eq_decide.2 (by unfold bigS; omega)
 rw [hb]
 simp only [nF h2,Bool.false_eq_true,if_false,Option.bind_some]
 by_cases h3:bigS a b
 ·rw [if_pos h3]; simp only [dT h3,if_true]
 rw [if_neg h3,odd_eq]
 simp only [dF h3,Bool.false_eq_true,if_false,Option.bind_some]
 by_cases h4:oddS a b grp
 ·rw [if_pos h4]; simp only [dT h4,if_true]
 ·rw [if_neg h4]; simp only [dF h4,Bool.false_eq_true,if_false]
def nearS (a b:api_Grid) (grp:Int):Int × Int × api_Point × Int:=
 if startS a b grp=0 then ((stT a b a.W.toNat a.H.toNat ((lastN grp + 1) * a.H.toNat * a.W.toNat)).1,(stT a b a.W.toNat a.H.toNat ((lastN grp + 1) * a.H.toNat * a.W.toNat)).2.1,⟨(stT a b a.W.toNat a.H.toNat ((lastN grp + 1) * a.H.toNat * a.W.toNat)).2.2.1,(stT a b a.W.toNat a.H.toNat ((lastN grp + 1) * a.H.toNat * a.W.toNat)).2.2.2⟩,0) else (0,0,⟨0,0⟩,startS a b grp)
theorem nearS_ok {a b:api_Grid} {w h:Nat} {grp:Int} (A:Gr a w h) (hs:startS a b grp=0):nearS a b grp=((stT a b w h ((lastN grp + 1) * h * w)).1,(stT a b w h ((lastN grp + 1) * h * w)).2.1,⟨(stT a b w h ((lastN grp + 1) * h * w)).2.2.1,(stT a b w h ((lastN grp + 1) * h * w)).2.2.2⟩,0):=by
 have e1:a.W.toNat=w:=by rw [A.hw]; rfl
 have e2:a.H.toNat=h:=by rw [A.hh]; rfl
 unfold nearS
 rw [if_pos hs,e1,e2]
theorem nearest_eq (a b:api_Grid) (grp:Int):F_compare_Nearest a b grp=some (nearS a b grp):=by
 by_cases hs:startS a b grp=0
 ·obtain ⟨w,h,A,B,hw,hh,g0,g3,gs⟩:=start_ok hs
  have K:=last_kp g0 g3 gs
  obtain ⟨z,hz,hc⟩:=ways_eq A B hw hh K (lastN_lt grp)
  have hm:¬ (16:Int) < max4 a.W a.H b.W b.H:=by
   rw [A.hw,A.hh,B.hw,B.hh]
   unfold max4 max3
   repeat' split
   all_goals omega
  have ho:¬ oddS a b grp:=by
   have q1:=A.hw
   have q2:=A.hh
   have q3:=B.hw
   have q4:=B.hh
   unfold oddS
   omega
  have st0:(w64 ((a.Bits.length:Int) + 1),(0:Int),(0:Int),(0:Int))=stT a b w h 0:=by
   have hl:=A.len
   have:=gbits A
   rw [w64_succ (by omega),hl]
   unfold stT
   simp only [fm,Nat.zero_div,Nat.zero_mod]
   rfl
  rw [nearS_ok A hs]
  unfold F_compare_Nearest F_compare_ways I_compare_ways_1
  rw [odd_eq]
  simp only [(gcheck_eq a).1,(gcheck_eq b).1,gr_err A,gr_err B,bne_self_eq_false,Bool.false_eq_true,if_false,Option.bind_some,dF hm,dF ho,last_idx g0 g3,st0,hz]
  rcases hc with rfl | rfl <;> rfl
 ·unfold nearS
  rw [if_neg hs]
  unfold startS at hs ⊢
  unfold F_compare_Nearest
  rw [odd_eq]
  by_cases h1:gerr a=0
  case neg=>rw [if_neg h1]; simp only [(gcheck_eq a).1,Option.bind_some,nT h1,if_true]
  by_cases h2:gerr b=0
  case neg=>rw [if_pos h1,if_neg h2]; simp only [(gcheck_eq a).1,(gcheck_eq b).1,Option.bind_some,nF h1,nT h2,Bool.false_eq_true,if_false,if_true]
  rw [if_pos h1,if_pos h2] at hs ⊢
  have hm:(16:Int) < max4 a.W a.H b.W b.H ↔ bigS a b:=by
   unfold max4 max3 bigS
   repeat' split
   all_goals omega
  by_cases h3:bigS a b
  ·rw [if_pos h3]; simp only [(gcheck_eq a).1,(gcheck_eq b).1,Option.bind_some,nF h1,nF h2,Bool.false_eq_true,if_false,dT (hm.2 h3),if_true]
  rw [if_neg h3] at hs ⊢
  by_cases h4:oddS a b grp
  ·rw [if_pos h4]; simp only [(gcheck_eq a).1,(gcheck_eq b).1,Option.bind_some,nF h1,nF h2,Bool.false_eq_true,if_false,dF (fun q=>h3 (hm.1 q)),dT h4,if_true]
  ·rw [if_neg h4] at hs; exact absurd rfl hs
def cellsS (a b:api_Grid):Int × Int:=if gerr a=0 then (if gerr b=0 then (if a.W=b.W∧a.H=b.H then (((dl a.Bits b.Bits a.Bits.length:Nat):Int),0) else (0,2)) else (0,gerr b)) else (0,gerr a)
theorem cells_eq (a b:api_Grid):F_compare_Cells a b=some (cellsS a b)∧F_raddleref46_Cells a b=some (cellsS a b):=by
 unfold F_compare_Cells F_raddleref46_Cells cellsS
 simp only [(gcheck_eq a).1,(gcheck_eq b).1,rboth_eq,Option.bind_some]
 by_cases h1:gerr a=0
 case neg=>rw [if_neg h1,if_neg h1]; simp only [nT h1,if_true,and_self]
 by_cases h2:gerr b=0
 case neg=>rw [if_pos h1,if_pos h1,if_neg h2]; simp only [nF h1,nT h2,Bool.false_eq_true,if_false,if_true,and_self]
 rw [if_pos h1,if_pos h1,if_pos h2]
 by_cases h3:a.W=b.W
 case neg=>rw [if_neg (show ¬ (a.W=b.W∧a.H=b.H) from fun q=>h3 q.1)]; simp only [nF h1,nF h2,nT h3,Bool.false_eq_true,if_false,if_true,Option.bind_some,and_self]
 by_cases h4:a.H=b.H
 case neg=>rw [if_neg (show ¬ (a.W=b.W∧a.H=b.H) from fun q=>h4 q.2)]; simp only [nF h1,nF h2,nF h3,nT h4,Bool.false_eq_true,if_false,if_true,Option.bind_some,and_self]
 obtain ⟨w,h,A⟩:=gerr_zero h1
 obtain ⟨w',h',B⟩:=gerr_zero h2
 have q1:=A.hw
 have q2:=A.hh
 have q3:=B.hw
 have q4:=B.hh
 obtain ⟨rfl,rfl⟩:w'=w∧h'=h:=by omega
 have hl:a.Bits.length=b.Bits.length:=by rw [A.len,B.len]
 have:=gbits A
 rw [if_pos (show a.W=b.W∧a.H=b.H from ⟨h3,h4⟩)]
 simp only [nF h1,nF h2,nF h3,nF h4,Bool.false_eq_true,if_false,Option.bind_some,differ_eq hl (show a.Bits.length ≤ 1000000 by omega),rdiffer_eq hl (show a.Bits.length ≤ 1000000 by omega),and_self]
theorem rgreat46_eq (a:api_Grid):F_raddleref46_GreatGrid a=some (decide (36 < a.Bits.length∧a.W ≤ 16∧a.H ≤ 16 ∨ 4200 < a.Bits.length)):=by
 unfold F_raddleref46_GreatGrid
 by_cases h1:36 < a.Bits.length
 ·by_cases h2:a.W ≤ 16
  ·by_cases h3:a.H ≤ 16
   ·simp only [dT (show (36:Int) < (a.Bits.length:Int) by omega),dT h2,dT h3,if_true,Option.bind_some,dT (show 36 < a.Bits.length∧a.W ≤ 16∧a.H ≤ 16 ∨ 4200 < a.Bits.length from .inl ⟨h1,h2,h3⟩)]
   ·simp only [dT (show (36:Int) < (a.Bits.length:Int) by omega),dT h2,dF h3,if_true,Bool.false_eq_true,if_false,Option.bind_some]
    congr 1
    exact decide_eq_decide.2 (by omega)
  ·simp only [dT (show (36:Int) < (a.Bits.length:Int) by omega),dF h2,if_true,Bool.false_eq_true,if_false,Option.bind_some]
   congr 1
   exact decide_eq_decide.2 (by omega)
 ·simp only [dF (show ¬ (36:Int) < (a.Bits.length:Int) by omega),Bool.false_eq_true,if_false,Option.bind_some]
  congr 1
  exact decide_eq_decide.2 (by omega)
def bt (op:Int) (k:Int):Bool:=(andI .i64 op k) != 0
def moOf (w h op x y:Nat):Mo:=
 if bt (op:Int) 4=true then ⟨true,bt (op:Int) 1,bt (op:Int) 2,if bt (op:Int) 1=true then (w:Int) - 1 + (y:Int) else -(y:Int),if bt (op:Int) 2=true then (h:Int) - 1 + (x:Int) else -(x:Int),bt (op:Int) 8⟩
 else ⟨false,bt (op:Int) 1,bt (op:Int) 2,if bt (op:Int) 1=true then (w:Int) - 1 + (x:Int) else -(x:Int),if bt (op:Int) 2=true then (h:Int) - 1 + (y:Int) else -(y:Int),bt (op:Int) 8⟩
theorem mod_is {n k:Nat} (hk:k < n) {Z j:Int} (h:Z=(k:Int) + (n:Int) * j):(Z % (n:Int)).toNat=k:=by
 rw [h,Int.add_mul_emod_self_left,← Int.natCast_emod,Nat.mod_eq_of_lt hk,Int.toNat_natCast]
theorem back_at {n x:Nat} (hn:1 ≤ n) (hx:x < n) (X:Int):∃ (u:Nat) (j:Int),u < n∧X - (x:Int)=(u:Int) + (n:Int) * j∧((X % (n:Int)).toNat + (n - x)) % n=u:=by
 have e0:=Int.emod_nonneg X (show (n:Int) ≠ 0 by omega)
 obtain ⟨r,hr⟩:∃ r:Nat,X % (n:Int)=r:=⟨(X % (n:Int)).toNat,by omega⟩
 have hd:=Int.emod_add_mul_ediv X (n:Int)
 have hd2:=Nat.div_add_mod (r + (n - x)) n
 refine ⟨(r + (n - x)) % n,X / (n:Int) + (((r + (n - x)) / n:Nat):Int) - 1,Nat.mod_lt _ hn,?_,by rw [hr,Int.toNat_natCast]⟩
 rw [hr] at hd
 have hd3:(n:Int) * (((r + (n - x)) / n:Nat):Int) + (((r + (n - x)) % n:Nat):Int)=((r + (n - x):Nat):Int):=by
  rw [← Int.natCast_mul,← Int.natCast_add,hd2]
 rw [Int.mul_sub,Int.mul_add,Int.mul_one]
 generalize (n:Int) * (X / (n:Int))=A at *
 generalize (n:Int) * (((r + (n - x)) / n:Nat):Int)=B at *
 omega
theorem flip_at {n u:Nat} (hu:u < n) (p:Bool) {x:Nat} {X j:Int} (h:X - (x:Int)=(u:Int) + (n:Int) * j):((sg p X + (if p=true then (n:Int) - 1 + (x:Int) else -(x:Int))) % (n:Int)).toNat=if p=true then n - 1 - u else u:=by
 cases p with
 | false=>
  refine mod_is hu (j:=j) ?_
  simp only [sg,Bool.false_eq_true,if_false]
  omega
 | true=>
  refine mod_is (show n - 1 - u < n by omega) (j:=-j) ?_
  simp only [sg,if_true]
  rw [Int.mul_neg]
  omega
theorem mv_ext {g:api_Grid} {w h n op x y:Nat} (G:Gr g w h) (K:Kp w h n) (hop:op < n) (hx:x < w) (hy:y < h):ext (shS (apB g w h (op:Int)) w h x y) w h=act (moOf w h op x y) (ext g w h):=by
 have w0:=G.w0
 have h0:=G.h0
 funext X Y
 obtain ⟨u,j,hu,ju,eu⟩:=back_at w0 hx X
 obtain ⟨v,k,hv,kv,ev⟩:=back_at h0 hy Y
 have m1:(X % (w:Int)).toNat < w:=by
  have e0:=Int.emod_nonneg X (show (w:Int) ≠ 0 by omega)
  have e1:=Int.emod_lt_of_pos X (show (0:Int) < w by omega)
  omega
 have m2:(Y % (h:Int)).toNat < h:=by
  have e0:=Int.emod_nonneg Y (show (h:Int) ≠ 0 by omega)
  have e1:=Int.emod_lt_of_pos Y (show (0:Int) < h by omega)
  omega
 have hl:ext (shS (apB g w h (op:Int)) w h x y) w h X Y=apf g w h (bt (op:Int) 1) (bt (op:Int) 2) (bt (op:Int) 4) (bt (op:Int) 8) u v:=by
  show cell (gm _ w h) w (X % (w:Int)).toNat (Y % (h:Int)).toNat=_
  rw [gm_cell _ m1 m2,eu,ev,apB_eq K hop,gm_cell _ hu hv]
  rfl
 rw [hl]
 unfold act moOf apf ext
 cases h4:bt (op:Int) 4 with
 | false=>
  simp only [Bool.false_eq_true,if_false]
  rw [flip_at hu _ ju,flip_at hv _ kv]
 | true=>
  obtain rfl:=K op hop h4
  simp only [if_true]
  rw [flip_at hv _ kv,flip_at hu _ ju]
def okG (grp:Int) (m:Mo):Prop:=(m.p=true→1 ≤ grp)∧(m.q=true→1 ≤ grp)∧(m.e=true→2 ≤ grp)∧(m.s=true→3 ≤ grp)
theorem okG_cmp {grp:Int} {m k:Mo} (hm:okG grp m) (hk:okG grp k):okG grp (cmp m k):=by
 obtain ⟨e1,p1,q1,c1,d1,s1⟩:=m
 obtain ⟨e2,p2,q2,c2,d2,s2⟩:=k
 obtain ⟨a1,a2,a3,a4⟩:=hm
 obtain ⟨b1,b2,b3,b4⟩:=hk
 simp only at a1 a2 a3 a4 b1 b2 b3 b4
 unfold okG cmp
 cases e1 <;> cases e2 <;> cases p1 <;> cases p2 <;> cases q1 <;> cases q2 <;> cases s1 <;> cases s2 <;> simp_all
theorem okG_inv {grp:Int} {m:Mo} (hm:okG grp m):okG grp (inv m):=by
 obtain ⟨e1,p1,q1,c1,d1,s1⟩:=m
 obtain ⟨a1,a2,a3,a4⟩:=hm
 simp only at a1 a2 a3 a4
 unfold okG inv
 cases e1 <;> simp_all
theorem moOf_ok {grp:Int} (g0:0 ≤ grp) (g3:grp ≤ 3) {w h op x y:Nat} (hop:op < lastN grp + 1):okG grp (moOf w h op x y):=by
 have hb:(bt (op:Int) 1=true→1 ≤ grp)∧(bt (op:Int) 2=true→1 ≤ grp)∧(bt (op:Int) 4=true→2 ≤ grp)∧(bt (op:Int) 8=true→3 ≤ grp):=by
  have:grp=0 ∨ grp=1 ∨ grp=2 ∨ grp=3:=by omega
  rcases this with rfl | rfl | rfl | rfl
  ·have:op < 1:=hop
   obtain rfl:op=0:=by omega
   decide
  ·have:op < 4:=hop
   have:op=0 ∨ op=1 ∨ op=2 ∨ op=3:=by omega
   rcases this with rfl | rfl | rfl | rfl <;> decide
  ·have:op < 8:=hop
   have:op=0 ∨ op=1 ∨ op=2 ∨ op=3 ∨ op=4 ∨ op=5 ∨ op=6 ∨ op=7:=by omega
   rcases this with rfl | rfl | rfl | rfl | rfl | rfl | rfl | rfl <;> decide
  ·exact ⟨fun _=>by decide,fun _=>by decide,fun _=>by decide,fun _=>by decide⟩
 unfold moOf
 cases h4:bt (op:Int) 4 with
 | false=>exact ⟨hb.1,hb.2.1,fun q=>(by cases q),hb.2.2.2⟩
 | true=>exact ⟨hb.1,hb.2.1,fun _=>hb.2.2.1 h4,hb.2.2.2⟩
def bn (b:Bool) (k:Nat):Nat:=if b=true then k else 0
theorem bits_of (p q e s:Bool):bt ((bn p 1 + bn q 2 + bn e 4 + bn s 8:Nat):Int) 1=p∧bt ((bn p 1 + bn q 2 + bn e 4 + bn s 8:Nat):Int) 2=q∧bt ((bn p 1 + bn q 2 + bn e 4 + bn s 8:Nat):Int) 4=e∧bt ((bn p 1 + bn q 2 + bn e 4 + bn s 8:Nat):Int) 8=s:=by
 cases p <;> cases q <;> cases e <;> cases s <;> decide
theorem shift_for {n:Nat} (hn:1 ≤ n) (p:Bool) (c:Int):∃ (x:Nat) (j:Int),x < n∧c=(if p=true then (n:Int) - 1 + (x:Int) else -(x:Int)) + (n:Int) * j:=by
 cases p with
 | false=>
  have e0:=Int.emod_nonneg (-c) (show (n:Int) ≠ 0 by omega)
  have e1:=Int.emod_lt_of_pos (-c) (show (0:Int) < n by omega)
  have hd:=Int.emod_add_mul_ediv (-c) (n:Int)
  refine ⟨((-c) % (n:Int)).toNat,-((-c) / (n:Int)),by omega,?_⟩
  rw [if_neg (by decide),Int.mul_neg]
  omega
 | true=>
  have e0:=Int.emod_nonneg (c - ((n:Int) - 1)) (show (n:Int) ≠ 0 by omega)
  have e1:=Int.emod_lt_of_pos (c - ((n:Int) - 1)) (show (0:Int) < n by omega)
  have hd:=Int.emod_add_mul_ediv (c - ((n:Int) - 1)) (n:Int)
  refine ⟨((c - ((n:Int) - 1)) % (n:Int)).toNat,(c - ((n:Int) - 1)) / (n:Int),by omega,?_⟩
  rw [if_pos rfl]
  omega
theorem ext_mul (g:api_Grid) (w h:Nat) (X Y j k:Int):ext g w h (X + (w:Int) * j) (Y + (h:Int) * k)=ext g w h X Y:=by
 unfold ext
 rw [Int.add_mul_emod_self_left,Int.add_mul_emod_self_left]
theorem act_is {g:api_Grid} {w h:Nat} {grp:Int} (w0:1 ≤ w) (h0:1 ≤ h) (g0:0 ≤ grp) (g3:grp ≤ 3) (gs:1 < grp→w=h) {m:Mo} (hm:okG grp m):∃ op x y,op < lastN grp + 1∧x < w∧y < h∧act m (ext g w h)=act (moOf w h op x y) (ext g w h):=by
 obtain ⟨e,p,q,c,d,s⟩:=m
 obtain ⟨a1,a2,a3,a4⟩:=hm
 simp only at a1 a2 a3 a4
 obtain ⟨b1,b2,b4,b8⟩:=bits_of p q e s
 have hop:bn p 1 + bn q 2 + bn e 4 + bn s 8 < lastN grp + 1:=by
  have:grp=0 ∨ grp=1 ∨ grp=2 ∨ grp=3:=by omega
  rcases this with rfl | rfl | rfl | rfl <;> cases p <;> cases q <;> cases e <;> cases s <;> first | decide | (exfalso; simp at a1 a2 a3 a4)
 cases e with
 | false=>
  obtain ⟨x,j,hx,hc⟩:=shift_for w0 p c
  obtain ⟨y,k,hy,hd⟩:=shift_for h0 q d
  refine ⟨_,x,y,hop,hx,hy,?_⟩
  funext X Y
  unfold act moOf
  rw [b1,b2,b4,b8]
  simp only [Bool.false_eq_true,if_false]
  rw [hc,hd,← Int.add_assoc,← Int.add_assoc,ext_mul]
 | true=>
  obtain rfl:=gs (by have:=a3 rfl; omega)
  obtain ⟨y,j,hy,hc⟩:=shift_for w0 p c
  obtain ⟨x,k,hx,hd⟩:=shift_for w0 q d
  refine ⟨_,x,y,hop,hx,hy,?_⟩
  funext X Y
  unfold act moOf
  rw [b1,b2,b4,b8]
  simp only [if_true]
  rw [hc,hd,← Int.add_assoc,← Int.add_assoc,ext_mul]
def uN (a b:api_Grid) (w h:Nat) (grp:Int):Nat:=(fm (fT a b w h) (w * h + 1) ((lastN grp + 1) * h * w)).1
theorem uN_le {a b:api_Grid} {w h:Nat} {grp:Int} (A:Gr a w h) (g0:0 ≤ grp) (g3:grp ≤ 3) (gs:1 < grp→w=h) {m:Mo} (hm:okG grp m):uN a b w h grp ≤ dst w h (act m (ext a w h)) (ext b w h):=by
 obtain ⟨op,x,y,hop,hx,hy,e⟩:=act_is (g:=a) A.w0 A.h0 g0 g3 gs hm
 obtain ⟨e1,e2,e3⟩:=tri (op:=op) hx hy
 have hlt:=blk_inN hx (blk_inN hy hop)
 have h1:=fm_le (fT a b w h) (w * h + 1) _ _ hlt
 have h2:fT a b w h ((op * h + y) * w + x)=dst w h (act m (ext a w h)) (ext b w h):=by
  unfold fT mvT
  rw [e1,e2,e3,dl_dst,mv_ext A (last_kp g0 g3 gs) hop hx hy,e]
 rw [h2] at h1
 exact h1
theorem uN_at {a:api_Grid} (b:api_Grid) {w h:Nat} {grp:Int} (A:Gr a w h) (g0:0 ≤ grp) (g3:grp ≤ 3) (gs:1 < grp→w=h):∃ op x y,op < lastN grp + 1∧x < w∧y < h∧(fm (fT a b w h) (w * h + 1) ((lastN grp + 1) * h * w)).2=(op * h + y) * w + x∧uN a b w h grp=fT a b w h ((op * h + y) * w + x)∧fT a b w h ((op * h + y) * w + x)=dst w h (act (moOf w h op x y) (ext a w h)) (ext b w h):=by
 have hN:0 < (lastN grp + 1) * h * w:=Nat.mul_pos (Nat.mul_pos (Nat.succ_pos _) A.h0) A.w0
 obtain ⟨h1,h2⟩:=fm_at (f:=fT a b w h) (big:=w * h + 1) hN (fun j _=>by have:=fT_le a b w h j; omega)
 generalize hi:(fm (fT a b w h) (w * h + 1) ((lastN grp + 1) * h * w)).2=i at *
 have k1:i / w < (lastN grp + 1) * h:=pl_divlt (by rw [Nat.mul_comm w]; exact h1)
 have k2:i / w / h < lastN grp + 1:=pl_divlt (by rw [Nat.mul_comm h]; exact k1)
 have k3:i % w < w:=pl_modlt A.w0
 have k4:i / w % h < h:=pl_modlt A.h0
 have k5:i=(i / w / h * h + i / w % h) * w + i % w:=by rw [pl_of,pl_of]
 refine ⟨i / w / h,i % w,i / w % h,k2,k3,k4,k5,?_,?_⟩
 ·rw [← k5]; exact h2
 ·rw [← k5]
  unfold fT mvT
  rw [dl_dst,mv_ext A (last_kp g0 g3 gs) k2 k3 k4]
theorem cellsS_ok {a b:api_Grid} {w h:Nat} (A:Gr a w h) (B:Gr b w h):cellsS a b=(((dl a.Bits b.Bits (w * h):Nat):Int),0):=by
 unfold cellsS
 rw [if_pos (gr_err A),if_pos (gr_err B),if_pos (show a.W=b.W∧a.H=b.H from ⟨by rw [A.hw,B.hw],by rw [A.hh,B.hh]⟩),A.len]
noncomputable def raddlelaw46_CompareGroup_l1 (p2:Int) (p0:api_Grid) (p1:api_Grid) (a7:(Int × Int × api_Point × Int)):Int→Option (Int ⊕ (Bool ⊕ Unit)):=fun s0=>match s0 with
 | a0=>
  if decide (a0 < p2) then
   (F_compare_Nearest p0 p1 a0).bind fun a5=>
   Option.bind (α:=Bool) (
    if a5.2.2.2 != 0 then
     some true
    else
     some (decide (a5.1 < a7.1))) fun a6=>
   if a6 then
    some (.inr (.inl false))
   else
    some (.inl (w64 (a0 + 1)))
  else
   some (.inr (.inr ()))
noncomputable def F_raddlelaw46_CompareGroup (p0:api_Grid) (p1:api_Grid) (p2:Int) (p3:Int) (p4:Int) (p5:Int):Option Bool:=
 (F_raddlelaw46_alive).bind fun a0=>
 Option.bind (α:=Bool) (
  (F_raddleref46_GreatGrid p0).bind fun ac=>
  if ac then
   some true
  else
   (F_raddleref46_GreatGrid p1).bind fun ae=>
   if ae then
    some true
   else
    (F_raddleref46_Start p0 p1 p2).bind fun af=>
    if af != 0 then
     some true
    else
     if decide (p3 < 0) then
      some true
     else
      (F_raddleref46_Last p2).bind fun ag=>
      if decide (ag < p3) then
       some true
      else
       some (!a0)) fun ah=>
 if ah then
  some a0
 else
  (F_raddleref07_Applied p0 p3).bind fun ai=>
  (F_raddleref01_Shifted ai p4 p5).bind fun a5=>
  (F_raddleref07_Applied p1 p3).bind fun aj=>
  (F_raddleref01_Shifted aj p4 p5).bind fun a7=>
  (F_compare_Nearest p0 a5 p2).bind fun a8=>
  (F_compare_Nearest p0 p1 p2).bind fun a6=>
  (F_compare_Nearest a5 a7 p2).bind fun a9=>
  (F_compare_Cells p0 p1).bind fun aa=>
  (F_compare_Cells a5 a7).bind fun ab=>
  Option.bind (α:=Bool) (
   if a8.2.2.2 != 0 then
    some true
   else
    if a6.2.2.2 != 0 then
     some true
    else
     if a9.2.2.2 != 0 then
      some true
     else
      if aa.2 != 0 then
       some true
      else
       if ab.2 != 0 then
        some true
       else
        if a8.1 != 0 then
         some true
        else
         if a6.1 != a9.1 then
          some true
         else
          some (aa.1 != ab.1)) fun ak=>
  if ak then
   some false
  else
   Option.bind (α:=Unit ⊕ Bool) (
    (whileO (raddlelaw46_CompareGroup_l1 p2 p0 p1 a6) 0).bind fun z0=>match z0 with
     | .inl z=>
      some (.inr z)
     | .inr _=>
      some (.inl ())) fun z0=>match z0 with
    | .inl _=>
     some a0
    | .inr z=>
     some z
theorem c_raddlelaw46_CompareGroup (E:Nat→Prop) (w0:World) (p0:api_Grid) (v0:Value) (p1:api_Grid) (v1:Value) (p2:Int) (p3:Int) (p4:Int) (p5:Int) (r:Bool) (h:F_raddlelaw46_CompareGroup p0 p1 p2 p3 p4 p5=some r) (S:St0 E [] w0 w0 [] [fRep r_api_Grid (v0) p0,fRep r_api_Grid (v1) p1]) :
 Calls Try.prog 7 #[v0,v1,iv p2,iv p3,iv p4,iv p5] w0 (Ret (X:=Unit) E [] w0 (fun _=>.bool r) (fun _=>[]) (fun _=>[])):=by
 unfold F_raddlelaw46_CompareGroup at h
 obtain ⟨u1,rfl,ce⟩:=S.know (i:=0) (e:=fRep r_api_Grid (v0) p0) d
 have S:=S.learn (fRep (rL rB) u1 p0.Bits) ce
 obtain ⟨a6,a7,_,rfl,_⟩:=ce
 obtain ⟨u5,rfl,cf⟩:=S.know (i:=2) (e:=fRep r_api_Grid (v1) p1) d
 have S:=S.learn (fRep (rL rB) u5 p1.Bits) cf
 obtain ⟨a8,a9,_,rfl,_⟩:=cf
 refine sEnter (args:=[.agg #[iv p0.W,iv p0.H,.slice a6 p0.Bits.length a7],.agg #[iv p1.W,iv p1.H,.slice a8 p1.Bits.length a9],iv p2,iv p3,iv p4,iv p5]) 171 Try.func7 d d (by simp) S (fun a S=>?_)
 refine sSeq (fun K9 cm=>sRegion (sBox (v:=.agg #[iv p0.W,iv p0.H,.slice a6 p0.Bits.length a7]) S (wN d) d d [iv p0.W,iv p0.H,.slice a6 p0.Bits.length a7] d d (lb d) fun a aj w S=>sBox (v:=.agg #[iv p1.W,iv p1.H,.slice a8 p1.Bits.length a9]) S (wN d) d d [iv p1.W,iv p1.H,.slice a8 p1.Bits.length a9] d d (lb d) fun a al w S=>sN S fun a S=>?_))
 refine lT (cm _ _ (sSeq (fun cJ bv=>sRegion ?_)))
 obtain ⟨aw,bw,h⟩:=bS h
 have S1:=S.mem
 refine sCq [] (.bool aw) S callee31 (S1.quiet [] d) (fun E1 w1 S1=>c_raddlelaw46_alive E1 w1  aw bw S1) fun a w S=>?_
 refine sN S fun a S=>?_
 refine lT (bv _ _ (sSeq (fun cK bx=>?_)))
 obtain ⟨cn,h,co⟩:=bS h
 refine sCut (fun a w=>∃ bz,bz=cn∧St [] E [] w0 171 a w [(2,iv p2),(3,iv p3),(4,iv p4),(5,iv p5),(6,.pointer (some ⟨aj,0,none⟩)),(7,.pointer (some ⟨al,0,none⟩)),(13,.bool aw),(64,.bool bz)] [eBox aj 24 [iv p0.W,iv p0.H,.slice a6 p0.Bits.length a7],eBox al 24 [iv p1.W,iv p1.H,.slice a8 p1.Bits.length a9]] [fRep (rL rB) (.slice a6 p0.Bits.length a7) p0.Bits,fRep (rL rB) (.slice a8 p1.Bits.length a9) p1.Bits]) ?_ (fun a w hI=>?_)
 ·refine sRegion (sLoadN (p:=aj) (off:=0) (T:=24) (vs:=[iv p0.W,iv p0.H,.slice a6 p0.Bits.length a7]) 1 [iv p0.W,iv p0.H,.slice a6 p0.Bits.length a7] S (wN d) d d d d d d d (lb d) fun a S=>?_)
  obtain ⟨cg,bA,h⟩:=bS h
  have S1:=S.mem
  refine sCq [.agg #[iv p0.W,iv p0.H,.slice a6 p0.Bits.length a7]] (.bool cg) S callee12 (S1.quiet [2] d) (fun E1 w1 S1=>c_raddleref46_GreatGrid E1 w1 p0 (.agg #[iv p0.W,iv p0.H,.slice a6 p0.Bits.length a7]) cg bA S1) fun a w S=>?_
  refine sM S fun a S=>?_
  rcases iS h with ⟨az,h⟩ | ⟨az,h⟩
  ·refine sSkN 2 2 false 40 S d d az d fun a S=>sPickT (.bool true) S (wN d) d d az d d (lb d) fun a S=>sM S fun a S=>?_
   refine sSkN 5 6 false 44 S d d d d fun a S=>sPickT (.bool true) S (wN d) d d d d d (lb d) fun a S=>sM S fun a S=>?_
   refine sSkN 2 13 false 51 S d d d d fun a S=>sPickT (.bool true) S (wN d) d d d d d (lb d) fun a S=>sM S fun a S=>?_
   refine sSkN 4 17 false 55 S d d d d fun a S=>sPickT (.bool true) S (wN d) d d d d d (lb d) fun a S=>sM S fun a S=>?_
   refine sSkN 2 23 false 61 S d d d d fun a S=>sPickT (.bool true) S (wN d) d d d d d (lb d) fun a S=>?_
   exact lT (⟨true,Option.some.inj h,S.fix [1,0] [1,0] (by decide) d d d⟩)
  refine sLoadN (p:=al) (off:=0) (T:=24) (vs:=[iv p1.W,iv p1.H,.slice a8 p1.Bits.length a9]) 0 [iv p1.W,iv p1.H,.slice a8 p1.Bits.length a9] S (wG 2 false 40 d d d az) d d d d d d d (lb d) fun a S=>?_
  obtain ⟨bB,bC,h⟩:=bS h
  have S1:=S.mem
  refine sCallQ (X:=Unit) (f:=12) (vs:=[.agg #[iv p1.W,iv p1.H,.slice a8 p1.Bits.length a9]]) (val:=fun _=>.bool bB) S (wG 2 false 40 d d d az) d callee12 d (S1.quiet [3] d) (fun E1 w1 S1=>c_raddleref46_GreatGrid E1 w1 p1 (.agg #[iv p1.W,iv p1.H,.slice a8 p1.Bits.length a9]) bB bC S1) d (lb d) fun _ a w S=>?_
  refine sPickF (.bool bB) S (wN d) d d az d d (lb d) fun a S=>sM S fun a S=>?_
  rcases iS h with ⟨am,h⟩ | ⟨am,h⟩
  ·refine sSkN 5 6 false 44 S d d am d fun a S=>sPickT (.bool true) S (wN d) d d am d d (lb d) fun a S=>sM S fun a S=>?_
   refine sSkN 2 13 false 51 S d d d d fun a S=>sPickT (.bool true) S (wN d) d d d d d (lb d) fun a S=>sM S fun a S=>?_
   refine sSkN 4 17 false 55 S d d d d fun a S=>sPickT (.bool true) S (wN d) d d d d d (lb d) fun a S=>sM S fun a S=>?_
   refine sSkN 2 23 false 61 S d d d d fun a S=>sPickT (.bool true) S (wN d) d d d d d (lb d) fun a S=>?_
   exact lT (⟨true,Option.some.inj h,S.fix [1,0] [1,0] (by decide) d d d⟩)
  refine sLoadN (p:=aj) (off:=0) (T:=24) (vs:=[iv p0.W,iv p0.H,.slice a6 p0.Bits.length a7]) 1 [iv p0.W,iv p0.H,.slice a6 p0.Bits.length a7] S (wG 6 false 44 d d d am) d d d d d d d (lb d) fun a S=>sLoadN (p:=al) (off:=0) (T:=24) (vs:=[iv p1.W,iv p1.H,.slice a8 p1.Bits.length a9]) 0 [iv p1.W,iv p1.H,.slice a8 p1.Bits.length a9] S (wG 6 false 44 d d d am) d d d d d d d (lb d) fun a S=>sMove (iv p2) S (wG 6 false 44 d d d am) (.inl d) d d (lb d) fun a S=>?_
  obtain ⟨br,bD,h⟩:=bS h
  have S1:=S.mem
  refine sCallQ (X:=Unit) (f:=32) (vs:=[.agg #[iv p0.W,iv p0.H,.slice a6 p0.Bits.length a7],.agg #[iv p1.W,iv p1.H,.slice a8 p1.Bits.length a9],iv p2]) (val:=fun _=>iv br) S (wG 6 false 44 d d d am) d callee32 d (S1.quiet [2,3] d) (fun E1 w1 S1=>c_raddleref46_Start E1 w1 p0 (.agg #[iv p0.W,iv p0.H,.slice a6 p0.Bits.length a7]) p1 (.agg #[iv p1.W,iv p1.H,.slice a8 p1.Bits.length a9]) p2 br bD S1) d (lb d) fun _ a w S=>?_
  refine sBin _ S (wG 6 false 44 d d d am) d d d (bNe _ _ _ _ .i64 br 0) d (lb d) fun a S=>sPickF (.bool (br != 0)) S (wN d) d d am d d (lb d) fun a S=>sM S fun a S=>?_
  rcases iS h with ⟨aA,h⟩ | ⟨aA,h⟩
  ·refine sSkN 2 13 false 51 S d d aA d fun a S=>sPickT (.bool true) S (wN d) d d aA d d (lb d) fun a S=>sM S fun a S=>?_
   refine sSkN 4 17 false 55 S d d d d fun a S=>sPickT (.bool true) S (wN d) d d d d d (lb d) fun a S=>sM S fun a S=>?_
   refine sSkN 2 23 false 61 S d d d d fun a S=>sPickT (.bool true) S (wN d) d d d d d (lb d) fun a S=>?_
   exact lT (⟨true,Option.some.inj h,S.fix [1,0] [1,0] (by decide) d d d⟩)
  refine sMove (iv p3) S (wG 13 false 51 d d d aA) (.inl d) d d (lb d) fun a S=>sBin _ S (wG 13 false 51 d d d aA) d d d (bLt _ _ _ _ .i64 p3 0) d (lb d) fun a S=>sPickF (.bool (decide (p3 < 0))) S (wN d) d d aA d d (lb d) fun a S=>sM S fun a S=>?_
  rcases iS h with ⟨ao,h⟩ | ⟨ao,h⟩
  ·refine sSkN 4 17 false 55 S d d ao d fun a S=>sPickT (.bool true) S (wN d) d d ao d d (lb d) fun a S=>sM S fun a S=>?_
   refine sSkN 2 23 false 61 S d d d d fun a S=>sPickT (.bool true) S (wN d) d d d d d (lb d) fun a S=>?_
   exact lT (⟨true,Option.some.inj h,S.fix [1,0] [1,0] (by decide) d d d⟩)
  refine sMove (iv p3) S (wG 17 false 55 d d d ao) (.inl d) d d (lb d) fun a S=>sMove (iv p2) S (wG 17 false 55 d d d ao) (.inl d) d d (lb d) fun a S=>?_
  obtain ⟨bu,bE,h⟩:=bS h
  have S1:=S.mem
  refine sCallQ (X:=Unit) (f:=35) (vs:=[iv p2]) (val:=fun _=>iv bu) S (wG 17 false 55 d d d ao) d callee35 d (S1.quiet [] d) (fun E1 w1 S1=>c_raddleref46_Last E1 w1 p2 bu bE S1) d (lb d) fun _ a w S=>?_
  refine sBin _ S (wG 17 false 55 d d d ao) d d d (bGt _ _ _ _ .i64 p3 bu) d (lb d) fun a S=>sPickF (.bool (decide (bu < p3))) S (wN d) d d ao d d (lb d) fun a S=>sM S fun a S=>?_
  rcases iS h with ⟨aC,h⟩ | ⟨aC,h⟩
  ·refine sSkN 2 23 false 61 S d d aC d fun a S=>sPickT (.bool true) S (wN d) d d aC d d (lb d) fun a S=>?_
   exact lT (⟨true,Option.some.inj h,S.fix [1,0] [1,0] (by decide) d d d⟩)
  refine sMove (.bool aw) S (wG 23 false 61 d d d aC) (.inl d) d d (lb d) fun a S=>sNot (b:=aw) S (wG 23 false 61 d d d aC) d d d (lb d) fun a S=>sPickF (.bool (!aw)) S (wN d) d d aC d d (lb d) fun a S=>?_
  exact lT (⟨!aw,Option.some.inj h,S.fix [1,0] [1,0] (by decide) d d d⟩)
 obtain ⟨bz,rfl,S⟩:=hI
 have h:=co
 try dsimp only at h
 rcases iS h with ⟨aQ,h⟩ | ⟨aQ,h⟩
 ·refine sCondT S d aQ (sSeq (fun cL bG=>sRegion (sM S fun a S=>?_)))
  refine sN S fun a S=>?_
  refine lT (bG _ _ ?_)
  obtain rfl:=tS h
  exact wp_ret (rThen (sRet (.bool aw) S (rsl1 d (rvT (t:=12) (v:=.bool aw) S d)) ⟨(),d,S.mem.sel [] [] (by decide) d d⟩))
 refine sCondF S d aQ (wp_skip (leafT (bx _ _ ?_)))
 refine sSeq (fun cM bH=>sRegion (sLoadN (p:=aj) (off:=0) (T:=24) (vs:=[iv p0.W,iv p0.H,.slice a6 p0.Bits.length a7]) 0 [iv p0.W,iv p0.H,.slice a6 p0.Bits.length a7] S (wN d) d d d d d d d (lb d) fun a S=>sM S fun a S=>?_))
 obtain ⟨aq,bI,h⟩:=bS h
 have S:=S.learn (fRep r_api_Grid (.agg #[iv p0.W,iv p0.H,.slice a6 p0.Bits.length a7]) p0) ⟨_,d,S.mem.know (i:=0) (e:=fRep (rL rB) (.slice a6 p0.Bits.length a7) p0.Bits) d⟩
 refine sCall (X:=Value) (f:=37) (vs:=[.agg #[iv p0.W,iv p0.H,.slice a6 p0.Bits.length a7],iv p3]) (val:=c_raddleref07_Applied_val aq) (B':=fun _=>[]) (D':=c_raddleref07_Applied_D aq) [] [eBox aj 24 [iv p0.W,iv p0.H,.slice a6 p0.Bits.length a7],eBox al 24 [iv p1.W,iv p1.H,.slice a8 p1.Bits.length a9]] [fRep r_api_Grid (.agg #[iv p0.W,iv p0.H,.slice a6 p0.Bits.length a7]) p0] [0,1] [0] S (wN d) d callee37 d (by decide) d d (fun E1 w1 S1=>c_raddleref07_Applied E1 w1 p0 (.agg #[iv p0.W,iv p0.H,.slice a6 p0.Bits.length a7]) p3 aq bI S1) d (lb d) fun cp a w S=>?_
 obtain ⟨cq,rfl,aZ⟩:=S.mem.know (i:=0) (e:=fRep r_api_Grid (cp) aq) d
 have S:=S.learn (fRep (rL rB) cq aq.Bits) aZ
 obtain ⟨aR,aS,_,rfl,_⟩:=aZ
 refine sM S fun a S=>?_
 refine sM S fun a S=>?_
 obtain ⟨a5,bJ,h⟩:=bS h
 refine sCall (X:=Value) (f:=36) (vs:=[.agg #[iv aq.W,iv aq.H,.slice aR aq.Bits.length aS],iv p4,iv p5]) (val:=c_raddleref01_Shifted_val a5) (B':=fun _=>[]) (D':=c_raddleref01_Shifted_D a5) [] [eBox aj 24 [iv p0.W,iv p0.H,.slice a6 p0.Bits.length a7],eBox al 24 [iv p1.W,iv p1.H,.slice a8 p1.Bits.length a9]] [fRep r_api_Grid (.agg #[iv aq.W,iv aq.H,.slice aR aq.Bits.length aS]) aq] [0,1] [1] S (wN d) d callee36 d (by decide) d d (fun E1 w1 S1=>c_raddleref01_Shifted E1 w1 aq (.agg #[iv aq.W,iv aq.H,.slice aR aq.Bits.length aS]) p4 p5 a5 bJ S1) d (lb d) fun cr a w S=>?_
 obtain ⟨ct,rfl,ba⟩:=S.mem.know (i:=0) (e:=fRep r_api_Grid (cr) a5) d
 have S:=S.learn (fRep (rL rB) ct a5.Bits) ba
 obtain ⟨ac,ae,_,rfl,_⟩:=ba
 refine sAlloc (.agg #[iv 0,iv 0,.slice none 0 0]) S (wN d) d d [iv 0,iv 0,.slice none 0 0] d d (lb d) fun a aO w S=>sStore (p:=aO) (off:=0) (T:=24) (vs:=[iv 0,iv 0,.slice none 0 0]) (v:=.agg #[iv a5.W,iv a5.H,.slice ac a5.Bits.length ae]) 0 [iv a5.W,iv a5.H,.slice ac a5.Bits.length ae] S (wN d) d d d d d d d (by simp) d fun a w S=>lT (bH _ _ (sSeq (fun cN bK=>sRegion (sLoadN (p:=al) (off:=0) (T:=24) (vs:=[iv p1.W,iv p1.H,.slice a8 p1.Bits.length a9]) 2 [iv p1.W,iv p1.H,.slice a8 p1.Bits.length a9] S (wN d) d d d d d d d (lb d) fun a S=>sM S fun a S=>?_))))
 obtain ⟨ar,bL,h⟩:=bS h
 have S:=S.learn (fRep r_api_Grid (.agg #[iv p1.W,iv p1.H,.slice a8 p1.Bits.length a9]) p1) ⟨_,d,S.mem.know (i:=6) (e:=fRep (rL rB) (.slice a8 p1.Bits.length a9) p1.Bits) d⟩
 refine sCall (X:=Value) (f:=37) (vs:=[.agg #[iv p1.W,iv p1.H,.slice a8 p1.Bits.length a9],iv p3]) (val:=c_raddleref07_Applied_val ar) (B':=fun _=>[]) (D':=c_raddleref07_Applied_D ar) [] [eBox aO 24 [iv a5.W,iv a5.H,.slice ac a5.Bits.length ae],eBox aj 24 [iv p0.W,iv p0.H,.slice a6 p0.Bits.length a7],eBox al 24 [iv p1.W,iv p1.H,.slice a8 p1.Bits.length a9]] [fRep r_api_Grid (.agg #[iv p1.W,iv p1.H,.slice a8 p1.Bits.length a9]) p1] [0,1,2] [0] S (wN d) d callee37 d (by decide) d d (fun E1 w1 S1=>c_raddleref07_Applied E1 w1 p1 (.agg #[iv p1.W,iv p1.H,.slice a8 p1.Bits.length a9]) p3 ar bL S1) d (lb d) fun cu a w S=>?_
 obtain ⟨cv,rfl,bb⟩:=S.mem.know (i:=0) (e:=fRep r_api_Grid (cu) ar) d
 have S:=S.learn (fRep (rL rB) cv ar.Bits) bb
 obtain ⟨aT,aU,_,rfl,_⟩:=bb
 refine sM S fun a S=>?_
 refine sM S fun a S=>?_
 obtain ⟨aa,bM,h⟩:=bS h
 refine sCall (X:=Value) (f:=36) (vs:=[.agg #[iv ar.W,iv ar.H,.slice aT ar.Bits.length aU],iv p4,iv p5]) (val:=c_raddleref01_Shifted_val aa) (B':=fun _=>[]) (D':=c_raddleref01_Shifted_D aa) [] [eBox aO 24 [iv a5.W,iv a5.H,.slice ac a5.Bits.length ae],eBox aj 24 [iv p0.W,iv p0.H,.slice a6 p0.Bits.length a7],eBox al 24 [iv p1.W,iv p1.H,.slice a8 p1.Bits.length a9]] [fRep r_api_Grid (.agg #[iv ar.W,iv ar.H,.slice aT ar.Bits.length aU]) ar] [0,1,2] [1] S (wN d) d callee36 d (by decide) d d (fun E1 w1 S1=>c_raddleref01_Shifted E1 w1 ar (.agg #[iv ar.W,iv ar.H,.slice aT ar.Bits.length aU]) p4 p5 aa bM S1) d (lb d) fun cw a w S=>?_
 obtain ⟨cx,rfl,bc⟩:=S.mem.know (i:=0) (e:=fRep r_api_Grid (cw) aa) d
 have S:=S.learn (fRep (rL rB) cx aa.Bits) bc
 obtain ⟨ah,ai,_,rfl,_⟩:=bc
 refine sAlloc (.agg #[iv 0,iv 0,.slice none 0 0]) S (wN d) d d [iv 0,iv 0,.slice none 0 0] d d (lb d) fun a aX w S=>sStore (p:=aX) (off:=0) (T:=24) (vs:=[iv 0,iv 0,.slice none 0 0]) (v:=.agg #[iv aa.W,iv aa.H,.slice ah aa.Bits.length ai]) 0 [iv aa.W,iv aa.H,.slice ah aa.Bits.length ai] S (wN d) d d d d d d d (by simp) d fun a w S=>lT (bK _ _ (sSeq (fun cO bN=>sRegion (sLoadN (p:=aj) (off:=0) (T:=24) (vs:=[iv p0.W,iv p0.H,.slice a6 p0.Bits.length a7]) 2 [iv p0.W,iv p0.H,.slice a6 p0.Bits.length a7] S (wN d) d d d d d d d (lb d) fun a S=>sLoadN (p:=aO) (off:=0) (T:=24) (vs:=[iv a5.W,iv a5.H,.slice ac a5.Bits.length ae]) 1 [iv a5.W,iv a5.H,.slice ac a5.Bits.length ae] S (wN d) d d d d d d d (lb d) fun a S=>sM S fun a S=>?_))))
 obtain ⟨af,bO,h⟩:=bS h
 refine sCall (X:=Value) (f:=16) (vs:=[.agg #[iv p0.W,iv p0.H,.slice a6 p0.Bits.length a7],.agg #[iv a5.W,iv a5.H,.slice ac a5.Bits.length ae],iv p2]) (val:=c_compare_Nearest_val af) (B':=fun _=>[]) (D':=c_compare_Nearest_D af) [] [eBox aX 24 [iv aa.W,iv aa.H,.slice ah aa.Bits.length ai],eBox aO 24 [iv a5.W,iv a5.H,.slice ac a5.Bits.length ae],eBox aj 24 [iv p0.W,iv p0.H,.slice a6 p0.Bits.length a7],eBox al 24 [iv p1.W,iv p1.H,.slice a8 p1.Bits.length a9]] [fRep r_api_Grid (.agg #[iv p0.W,iv p0.H,.slice a6 p0.Bits.length a7]) p0,fRep r_api_Grid (.agg #[iv a5.W,iv a5.H,.slice ac a5.Bits.length ae]) a5] [0,1,2,3] [9,6] S (wN d) d callee16 d (by decide) d d (fun E1 w1 S1=>c_compare_Nearest E1 w1 p0 (.agg #[iv p0.W,iv p0.H,.slice a6 p0.Bits.length a7]) a5 (.agg #[iv a5.W,iv a5.H,.slice ac a5.Bits.length ae]) p2 af bO S1) d (lb d) fun ci a w S=>?_
 obtain rfl:ci=.agg #[iv af.2.2.1.X,iv af.2.2.1.Y]:=S.mem.know (i:=0) (e:=fRep r_api_Point (ci) af.2.2.1) d
 refine sM S fun a S=>?_
 refine sExtract (vs:=[iv af.1,iv af.2.1,.agg #[iv af.2.2.1.X,iv af.2.2.1.Y],iv af.2.2.2]) (iv af.1) S (wN d) d d d d (lb d) fun a S=>sExtract (vs:=[iv af.1,iv af.2.1,.agg #[iv af.2.2.1.X,iv af.2.2.1.Y],iv af.2.2.2]) (iv af.2.1) S (wN d) d d d d (lb d) fun a S=>sExtract (vs:=[iv af.1,iv af.2.1,.agg #[iv af.2.2.1.X,iv af.2.2.1.Y],iv af.2.2.2]) (.agg #[iv af.2.2.1.X,iv af.2.2.1.Y]) S (wN d) d d d d (lb d) fun a S=>sExtract (vs:=[iv af.1,iv af.2.1,.agg #[iv af.2.2.1.X,iv af.2.2.1.Y],iv af.2.2.2]) (iv af.2.2.2) S (wN d) d d d d (lb d) fun a S=>sAlloc (.agg #[iv 0,iv 0]) S (wN d) d d [iv 0,iv 0] d d (lb d) fun a bP w S=>sN S fun a S=>?_
 refine sN S fun a S=>?_
 refine sStore (p:=bP) (off:=0) (T:=33) (vs:=[iv 0,iv 0]) (v:=.agg #[iv af.2.2.1.X,iv af.2.2.1.Y]) 0 [iv af.2.2.1.X,iv af.2.2.1.Y] S (wN d) d d d d d d d (by simp) d fun a w S=>sN S fun a S=>?_
 refine lT (bN _ _ (sSeq (fun cP bQ=>sRegion (sLoadN (p:=aj) (off:=0) (T:=24) (vs:=[iv p0.W,iv p0.H,.slice a6 p0.Bits.length a7]) 3 [iv p0.W,iv p0.H,.slice a6 p0.Bits.length a7] S (wN d) d d d d d d d (lb d) fun a S=>sLoadN (p:=al) (off:=0) (T:=24) (vs:=[iv p1.W,iv p1.H,.slice a8 p1.Bits.length a9]) 4 [iv p1.W,iv p1.H,.slice a8 p1.Bits.length a9] S (wN d) d d d d d d d (lb d) fun a S=>sM S fun a S=>?_))))
 obtain ⟨ab,bR,h⟩:=bS h
 refine sCall (X:=Value) (f:=16) (vs:=[.agg #[iv p0.W,iv p0.H,.slice a6 p0.Bits.length a7],.agg #[iv p1.W,iv p1.H,.slice a8 p1.Bits.length a9],iv p2]) (val:=c_compare_Nearest_val ab) (B':=fun _=>[]) (D':=c_compare_Nearest_D ab) [] [eBox bP 33 [iv af.2.2.1.X,iv af.2.2.1.Y],eBox aX 24 [iv aa.W,iv aa.H,.slice ah aa.Bits.length ai],eBox aO 24 [iv a5.W,iv a5.H,.slice ac a5.Bits.length ae],eBox aj 24 [iv p0.W,iv p0.H,.slice a6 p0.Bits.length a7],eBox al 24 [iv p1.W,iv p1.H,.slice a8 p1.Bits.length a9]] [fRep r_api_Grid (.agg #[iv p0.W,iv p0.H,.slice a6 p0.Bits.length a7]) p0,fRep r_api_Grid (.agg #[iv p1.W,iv p1.H,.slice a8 p1.Bits.length a9]) p1] [0,1,2,3,4] [10,5] S (wN d) d callee16 d (by decide) d d (fun E1 w1 S1=>c_compare_Nearest E1 w1 p0 (.agg #[iv p0.W,iv p0.H,.slice a6 p0.Bits.length a7]) p1 (.agg #[iv p1.W,iv p1.H,.slice a8 p1.Bits.length a9]) p2 ab bR S1) d (lb d) fun cj a w S=>?_
 obtain rfl:cj=.agg #[iv ab.2.2.1.X,iv ab.2.2.1.Y]:=S.mem.know (i:=0) (e:=fRep r_api_Point (cj) ab.2.2.1) d
 refine sM S fun a S=>?_
 refine sExtract (vs:=[iv ab.1,iv ab.2.1,.agg #[iv ab.2.2.1.X,iv ab.2.2.1.Y],iv ab.2.2.2]) (iv ab.1) S (wN d) d d d d (lb d) fun a S=>sExtract (vs:=[iv ab.1,iv ab.2.1,.agg #[iv ab.2.2.1.X,iv ab.2.2.1.Y],iv ab.2.2.2]) (iv ab.2.1) S (wN d) d d d d (lb d) fun a S=>sExtract (vs:=[iv ab.1,iv ab.2.1,.agg #[iv ab.2.2.1.X,iv ab.2.2.1.Y],iv ab.2.2.2]) (.agg #[iv ab.2.2.1.X,iv ab.2.2.1.Y]) S (wN d) d d d d (lb d) fun a S=>sExtract (vs:=[iv ab.1,iv ab.2.1,.agg #[iv ab.2.2.1.X,iv ab.2.2.1.Y],iv ab.2.2.2]) (iv ab.2.2.2) S (wN d) d d d d (lb d) fun a S=>sAlloc (.agg #[iv 0,iv 0]) S (wN d) d d [iv 0,iv 0] d d (lb d) fun a ck w S=>sN S fun a S=>?_
 refine sN S fun a S=>?_
 refine sStore (p:=ck) (off:=0) (T:=33) (vs:=[iv 0,iv 0]) (v:=.agg #[iv ab.2.2.1.X,iv ab.2.2.1.Y]) 0 [iv ab.2.2.1.X,iv ab.2.2.1.Y] S (wN d) d d d d d d d (by simp) d fun a w S=>sN S fun a S=>?_
 refine lT (bQ _ _ (sSeq (fun cQ bU=>sRegion (sLoadN (p:=aO) (off:=0) (T:=24) (vs:=[iv a5.W,iv a5.H,.slice ac a5.Bits.length ae]) 3 [iv a5.W,iv a5.H,.slice ac a5.Bits.length ae] S (wN d) d d d d d d d (lb d) fun a S=>sLoadN (p:=aX) (off:=0) (T:=24) (vs:=[iv aa.W,iv aa.H,.slice ah aa.Bits.length ai]) 2 [iv aa.W,iv aa.H,.slice ah aa.Bits.length ai] S (wN d) d d d d d d d (lb d) fun a S=>sM S fun a S=>?_))))
 obtain ⟨ag,bV,h⟩:=bS h
 refine sCall (X:=Value) (f:=16) (vs:=[.agg #[iv a5.W,iv a5.H,.slice ac a5.Bits.length ae],.agg #[iv aa.W,iv aa.H,.slice ah aa.Bits.length ai],iv p2]) (val:=c_compare_Nearest_val ag) (B':=fun _=>[]) (D':=c_compare_Nearest_D ag) [] [eBox ck 33 [iv ab.2.2.1.X,iv ab.2.2.1.Y],eBox bP 33 [iv af.2.2.1.X,iv af.2.2.1.Y],eBox aX 24 [iv aa.W,iv aa.H,.slice ah aa.Bits.length ai],eBox aO 24 [iv a5.W,iv a5.H,.slice ac a5.Bits.length ae],eBox aj 24 [iv p0.W,iv p0.H,.slice a6 p0.Bits.length a7],eBox al 24 [iv p1.W,iv p1.H,.slice a8 p1.Bits.length a9]] [fRep r_api_Grid (.agg #[iv a5.W,iv a5.H,.slice ac a5.Bits.length ae]) a5,fRep r_api_Grid (.agg #[iv aa.W,iv aa.H,.slice ah aa.Bits.length ai]) aa] [0,1,2,3,4,5] [8,3] S (wN d) d callee16 d (by decide) d d (fun E1 w1 S1=>c_compare_Nearest E1 w1 a5 (.agg #[iv a5.W,iv a5.H,.slice ac a5.Bits.length ae]) aa (.agg #[iv aa.W,iv aa.H,.slice ah aa.Bits.length ai]) p2 ag bV S1) d (lb d) fun cl a w S=>?_
 obtain rfl:cl=.agg #[iv ag.2.2.1.X,iv ag.2.2.1.Y]:=S.mem.know (i:=0) (e:=fRep r_api_Point (cl) ag.2.2.1) d
 refine sM S fun a S=>?_
 refine sExtract (vs:=[iv ag.1,iv ag.2.1,.agg #[iv ag.2.2.1.X,iv ag.2.2.1.Y],iv ag.2.2.2]) (iv ag.1) S (wN d) d d d d (lb d) fun a S=>sExtract (vs:=[iv ag.1,iv ag.2.1,.agg #[iv ag.2.2.1.X,iv ag.2.2.1.Y],iv ag.2.2.2]) (iv ag.2.1) S (wN d) d d d d (lb d) fun a S=>sExtract (vs:=[iv ag.1,iv ag.2.1,.agg #[iv ag.2.2.1.X,iv ag.2.2.1.Y],iv ag.2.2.2]) (.agg #[iv ag.2.2.1.X,iv ag.2.2.1.Y]) S (wN d) d d d d (lb d) fun a S=>sExtract (vs:=[iv ag.1,iv ag.2.1,.agg #[iv ag.2.2.1.X,iv ag.2.2.1.Y],iv ag.2.2.2]) (iv ag.2.2.2) S (wN d) d d d d (lb d) fun a S=>sAlloc (.agg #[iv 0,iv 0]) S (wN d) d d [iv 0,iv 0] d d (lb d) fun a cy w S=>sN S fun a S=>?_
 refine sN S fun a S=>?_
 refine sStore (p:=cy) (off:=0) (T:=33) (vs:=[iv 0,iv 0]) (v:=.agg #[iv ag.2.2.1.X,iv ag.2.2.1.Y]) 0 [iv ag.2.2.1.X,iv ag.2.2.1.Y] S (wN d) d d d d d d d (by simp) d fun a w S=>sN S fun a S=>?_
 refine lT (bU _ _ (sSeq (fun cR bW=>sRegion (sLoadN (p:=aj) (off:=0) (T:=24) (vs:=[iv p0.W,iv p0.H,.slice a6 p0.Bits.length a7]) 5 [iv p0.W,iv p0.H,.slice a6 p0.Bits.length a7] S (wN d) d d d d d d d (lb d) fun a S=>sLoadN (p:=al) (off:=0) (T:=24) (vs:=[iv p1.W,iv p1.H,.slice a8 p1.Bits.length a9]) 6 [iv p1.W,iv p1.H,.slice a8 p1.Bits.length a9] S (wN d) d d d d d d d (lb d) fun a S=>?_))))
 obtain ⟨au,bX,h⟩:=bS h
 have S1:=S.mem
 refine sCq [.agg #[iv p0.W,iv p0.H,.slice a6 p0.Bits.length a7],.agg #[iv p1.W,iv p1.H,.slice a8 p1.Bits.length a9]] (.tuple #[iv au.1,iv au.2]) S callee14 (S1.quiet [12,7] d) (fun E1 w1 S1=>c_compare_Cells E1 w1 p0 (.agg #[iv p0.W,iv p0.H,.slice a6 p0.Bits.length a7]) p1 (.agg #[iv p1.W,iv p1.H,.slice a8 p1.Bits.length a9]) au bX S1) fun a w S=>?_
 refine sM S fun a S=>?_
 refine sExtract (vs:=[iv au.1,iv au.2]) (iv au.1) S (wN d) d d d d (lb d) fun a S=>sExtract (vs:=[iv au.1,iv au.2]) (iv au.2) S (wN d) d d d d (lb d) fun a S=>sN S fun a S=>?_
 refine sN S fun a S=>?_
 refine lT (bW _ _ (sSeq (fun cS bY=>sRegion (sLoadN (p:=aO) (off:=0) (T:=24) (vs:=[iv a5.W,iv a5.H,.slice ac a5.Bits.length ae]) 4 [iv a5.W,iv a5.H,.slice ac a5.Bits.length ae] S (wN d) d d d d d d d (lb d) fun a S=>sLoadN (p:=aX) (off:=0) (T:=24) (vs:=[iv aa.W,iv aa.H,.slice ah aa.Bits.length ai]) 3 [iv aa.W,iv aa.H,.slice ah aa.Bits.length ai] S (wN d) d d d d d d d (lb d) fun a S=>?_))))
 obtain ⟨av,bZ,h⟩:=bS h
 have S1:=S.mem
 refine sCq [.agg #[iv a5.W,iv a5.H,.slice ac a5.Bits.length ae],.agg #[iv aa.W,iv aa.H,.slice ah aa.Bits.length ai]] (.tuple #[iv av.1,iv av.2]) S callee14 (S1.quiet [9,4] d) (fun E1 w1 S1=>c_compare_Cells E1 w1 a5 (.agg #[iv a5.W,iv a5.H,.slice ac a5.Bits.length ae]) aa (.agg #[iv aa.W,iv aa.H,.slice ah aa.Bits.length ai]) av bZ S1) fun a w S=>?_
 refine sM S fun a S=>?_
 refine sExtract (vs:=[iv av.1,iv av.2]) (iv av.1) S (wN d) d d d d (lb d) fun a S=>sExtract (vs:=[iv av.1,iv av.2]) (iv av.2) S (wN d) d d d d (lb d) fun a S=>sN S fun a S=>?_
 refine sN S fun a S=>?_
 refine lT (bY _ _ (sSeq (fun cT c7=>?_)))
 obtain ⟨cz,h,cA⟩:=bS h
 refine sCut (fun a w=>∃ c8,c8=cz∧St [] E [] w0 171 a w [(2,iv p2),(6,.pointer (some ⟨aj,0,none⟩)),(7,.pointer (some ⟨al,0,none⟩)),(13,.bool aw),(20,iv ab.1),(148,.bool c8)] [eBox aj 24 [iv p0.W,iv p0.H,.slice a6 p0.Bits.length a7],eBox al 24 [iv p1.W,iv p1.H,.slice a8 p1.Bits.length a9]] [fRep (rL rB) (.slice a6 p0.Bits.length a7) p0.Bits,fRep (rL rB) (.slice a8 p1.Bits.length a9) p1.Bits]) ?_ (fun a w hI=>?_)
 rotate_left
 ·obtain ⟨c8,rfl,S⟩:=hI
  have h:=cA
  try dsimp only at h
  rcases iS h with ⟨aV,h⟩ | ⟨aV,h⟩
  ·refine sCondT S d aV (sSeq (fun cU c9=>sRegion (sN S fun a S=>?_)))
   refine lT (c9 _ _ ?_)
   obtain rfl:=tS h
   exact wp_ret (rThen (sRet (.bool false) S (rsl1 d (rvT (t:=12) (v:=.bool false) S d)) ⟨(),d,S.mem.sel [] [] (by decide) d d⟩))
  refine sCondF S d aV (wp_skip (leafT (c7 _ _ ?_)))
  obtain ⟨ca,h,bf⟩:=bS h
  refine sCut (fun a w=>.inl ()=ca∧St [] E [] w0 171 a w [(13,.bool aw)] [] []) ?_ (fun a w hI=>?_)
  rotate_left
  ·obtain ⟨rfl,S⟩:=hI
   have h:=bf
   try dsimp only at h
   refine sSeq (fun cB bg=>sRegion (sM S fun a S=>?_))
   refine sN S fun a S=>?_
   refine lT (bg _ _ ?_)
   obtain rfl:=tS h
   exact wp_ret (sRet (.bool aw) S (rsl1 d (rvT (t:=12) (v:=.bool aw) S d)) ⟨(),d,S.mem.sel [] [] (by decide) d d⟩)
  refine sSeq (fun cC bh=>sRegion (sN S fun a S=>?_))
  refine lT (bh _ _ (wp_block ?_))
  obtain ⟨cD,hl,bi⟩:=bS h
  refine sLoop hl (fun s0 a w=>match s0 with | ap=>St [] E [] w0 171 a w [(2,iv p2),(6,.pointer (some ⟨aj,0,none⟩)),(7,.pointer (some ⟨al,0,none⟩)),(13,.bool aw),(20,iv ab.1),(32,iv ap)] [eBox aj 24 [iv p0.W,iv p0.H,.slice a6 p0.Bits.length a7],eBox al 24 [iv p1.W,iv p1.H,.slice a8 p1.Bits.length a9]] [fRep (rL rB) (.slice a6 p0.Bits.length a7) p0.Bits,fRep (rL rB) (.slice a8 p1.Bits.length a9) p1.Bits]) (S.fix [0,1] [0,1] (by decide) d d d) ?_
  clear hl h
  intro ap a w c0 hI h aP
  unfold raddlelaw46_CompareGroup_l1 at h
  dsimp only at h hI
  have S:=hI
  refine sSeq (fun cE bj=>sSeq (fun cF bk=>sRegion (sM S fun a S=>?_)))
  refine sM S fun a S=>?_
  refine sBin _ S (wN d) d d d (bLt _ _ _ _ .i64 ap p2) d (lb d) fun a S=>lT (bk _ _ ?_)
  rcases iS h with ⟨aL,h⟩ | ⟨aL,h⟩
  rotate_left
  ·refine sCondF S d aL ?_
   obtain rfl:=tS h
   obtain rfl:=aP _ d
   have h:=bi
   try dsimp only at h
   exact wp_exit (xThen (xThen (xHit (leafT (⟨Option.some.inj h,S.fix [] [] (by decide) d d d⟩)))))
  refine sCondT S d aL (wp_skip (leafT (bj _ _ ?_)))
  refine sSeq (fun cG bl=>wp_block ?_)
  refine sSeq (fun cH bm=>sRegion (sLoadN (p:=aj) (off:=0) (T:=24) (vs:=[iv p0.W,iv p0.H,.slice a6 p0.Bits.length a7]) 0 [iv p0.W,iv p0.H,.slice a6 p0.Bits.length a7] S (wN d) d d d d d d d (lb d) fun a S=>sLoadN (p:=al) (off:=0) (T:=24) (vs:=[iv p1.W,iv p1.H,.slice a8 p1.Bits.length a9]) 1 [iv p1.W,iv p1.H,.slice a8 p1.Bits.length a9] S (wN d) d d d d d d d (lb d) fun a S=>sM S fun a S=>?_))
  obtain ⟨a0,bo,h⟩:=bS h
  have S:=S.learn (fRep r_api_Grid (.agg #[iv p0.W,iv p0.H,.slice a6 p0.Bits.length a7]) p0) ⟨_,d,S.mem.know (i:=0) (e:=fRep (rL rB) (.slice a6 p0.Bits.length a7) p0.Bits) d⟩
  have S:=S.learn (fRep r_api_Grid (.agg #[iv p1.W,iv p1.H,.slice a8 p1.Bits.length a9]) p1) ⟨_,d,S.mem.know (i:=2) (e:=fRep (rL rB) (.slice a8 p1.Bits.length a9) p1.Bits) d⟩
  refine sCall (X:=Value) (f:=16) (vs:=[.agg #[iv p0.W,iv p0.H,.slice a6 p0.Bits.length a7],.agg #[iv p1.W,iv p1.H,.slice a8 p1.Bits.length a9],iv ap]) (val:=c_compare_Nearest_val a0) (B':=fun _=>[]) (D':=c_compare_Nearest_D a0) [] [eBox aj 24 [iv p0.W,iv p0.H,.slice a6 p0.Bits.length a7],eBox al 24 [iv p1.W,iv p1.H,.slice a8 p1.Bits.length a9]] [fRep r_api_Grid (.agg #[iv p0.W,iv p0.H,.slice a6 p0.Bits.length a7]) p0,fRep r_api_Grid (.agg #[iv p1.W,iv p1.H,.slice a8 p1.Bits.length a9]) p1] [0,1] [1,0] S (wN d) d callee16 d (by decide) d d (fun E1 w1 S1=>c_compare_Nearest E1 w1 p0 (.agg #[iv p0.W,iv p0.H,.slice a6 p0.Bits.length a7]) p1 (.agg #[iv p1.W,iv p1.H,.slice a8 p1.Bits.length a9]) ap a0 bo S1) d (lb d) fun bp a w S=>?_
  obtain rfl:bp=.agg #[iv a0.2.2.1.X,iv a0.2.2.1.Y]:=S.mem.know (i:=0) (e:=fRep r_api_Point (bp) a0.2.2.1) d
  refine sM S fun a S=>?_
  refine sExtract (vs:=[iv a0.1,iv a0.2.1,.agg #[iv a0.2.2.1.X,iv a0.2.2.1.Y],iv a0.2.2.2]) (iv a0.1) S (wN d) d d d d (lb d) fun a S=>sExtract (vs:=[iv a0.1,iv a0.2.1,.agg #[iv a0.2.2.1.X,iv a0.2.2.1.Y],iv a0.2.2.2]) (iv a0.2.1) S (wN d) d d d d (lb d) fun a S=>sExtract (vs:=[iv a0.1,iv a0.2.1,.agg #[iv a0.2.2.1.X,iv a0.2.2.1.Y],iv a0.2.2.2]) (.agg #[iv a0.2.2.1.X,iv a0.2.2.1.Y]) S (wN d) d d d d (lb d) fun a S=>sExtract (vs:=[iv a0.1,iv a0.2.1,.agg #[iv a0.2.2.1.X,iv a0.2.2.1.Y],iv a0.2.2.2]) (iv a0.2.2.2) S (wN d) d d d d (lb d) fun a S=>sAlloc (.agg #[iv 0,iv 0]) S (wN d) d d [iv 0,iv 0] d d (lb d) fun a cb w S=>sN S fun a S=>?_
  refine sN S fun a S=>?_
  refine sStore (p:=cb) (off:=0) (T:=33) (vs:=[iv 0,iv 0]) (v:=.agg #[iv a0.2.2.1.X,iv a0.2.2.1.Y]) 0 [iv a0.2.2.1.X,iv a0.2.2.1.Y] S (wN d) d d d d d d d (by simp) d fun a w S=>sN S fun a S=>?_
  refine lT (bm _ _ ?_)
  obtain ⟨cc,h,cd⟩:=bS h
  refine sCut (fun a w=>∃ aW,aW=cc∧St [] E [] w0 171 a w [(2,iv p2),(6,.pointer (some ⟨aj,0,none⟩)),(7,.pointer (some ⟨al,0,none⟩)),(13,.bool aw),(20,iv ab.1),(32,iv ap),(169,.bool aW)] [eBox aj 24 [iv p0.W,iv p0.H,.slice a6 p0.Bits.length a7],eBox al 24 [iv p1.W,iv p1.H,.slice a8 p1.Bits.length a9]] [fRep (rL rB) (.slice a6 p0.Bits.length a7) p0.Bits,fRep (rL rB) (.slice a8 p1.Bits.length a9) p1.Bits]) ?_ (fun a w hI=>?_)
  rotate_left
  ·obtain ⟨aW,rfl,S⟩:=hI
   have h:=cd
   try dsimp only at h
   rcases iS h with ⟨aM,h⟩ | ⟨aM,h⟩
   rotate_left
   ·refine sCondF S d aM (wp_skip (leafB (leafT (bl _ _ ?_))))
    refine sRegion (sM S fun a S=>?_)
    refine sBin _ S (wN d) d d d (bAdd _ _ _ _ ap 1) d (lb d) fun a S=>sN S fun a S=>?_
    exact lT (⟨w64 (ap + 1),(Option.some.inj h).symm,(S.fix [0,1] [0,1] (by decide) d d d)⟩)
   refine sCondT S d aM (sSeq (fun cI bq=>sRegion (sN S fun a S=>?_)))
   refine lT (bq _ _ ?_)
   obtain rfl:=tS h
   obtain rfl:=aP _ d
   have h:=bi
   try dsimp only at h
   obtain rfl:=tS h
   have h:=bf
   try dsimp only at h
   obtain rfl:=tS h
   exact wp_ret (rBlock (rThen (rThen (rBlock (rThen (sRet (.bool false) S (rsl1 d (rvT (t:=12) (v:=.bool false) S d)) ⟨(),d,S.mem.sel [] [] (by decide) d d⟩))))))
  refine sRegion (sM S fun a S=>?_)
  refine sBin _ S (wN d) d d d (bNe _ _ _ _ .i64 a0.2.2.2 0) d (lb d) fun a S=>sM S fun a S=>?_
  rcases iS h with ⟨ak,h⟩ | ⟨ak,h⟩
  ·refine sSkN 3 2 false 165 S d d ak d fun a S=>sPickT (.bool true) S (wN d) d d ak d d (lb d) fun a S=>?_
   exact lT (⟨true,Option.some.inj h,S.fix [1,2] [3,4] (by decide) d d d⟩)
  refine sMove (iv a0.1) S (wG 2 false 165 d d d ak) (.inl d) d d (lb d) fun a S=>sMove (iv ab.1) S (wG 2 false 165 d d d ak) (.inl d) d d (lb d) fun a S=>sBin _ S (wG 2 false 165 d d d ak) d d d (bLt _ _ _ _ .i64 a0.1 ab.1) d (lb d) fun a S=>sPickF (.bool (decide (a0.1 < ab.1))) S (wN d) d d ak d d (lb d) fun a S=>?_
  exact lT (⟨decide (a0.1 < ab.1),Option.some.inj h,S.fix [1,2] [3,4] (by decide) d d d⟩)
 refine sRegion (sM S fun a S=>?_)
 refine sBin _ S (wN d) d d d (bNe _ _ _ _ .i64 af.2.2.2 0) d (lb d) fun a S=>sM S fun a S=>?_
 rcases iS h with ⟨aG,h⟩ | ⟨aG,h⟩
 ·refine sSkN 2 2 false 119 S d d aG d fun a S=>sPickT (.bool true) S (wN d) d d aG d d (lb d) fun a S=>sM S fun a S=>?_
  refine sSkN 2 6 false 123 S d d d d fun a S=>sPickT (.bool true) S (wN d) d d d d d (lb d) fun a S=>sM S fun a S=>?_
  refine sSkN 2 10 false 127 S d d d d fun a S=>sPickT (.bool true) S (wN d) d d d d d (lb d) fun a S=>sM S fun a S=>?_
  refine sSkN 2 14 false 131 S d d d d fun a S=>sPickT (.bool true) S (wN d) d d d d d (lb d) fun a S=>sM S fun a S=>?_
  refine sSkN 2 18 false 135 S d d d d fun a S=>sPickT (.bool true) S (wN d) d d d d d (lb d) fun a S=>sM S fun a S=>?_
  refine sSkN 3 22 false 139 S d d d d fun a S=>sPickT (.bool true) S (wN d) d d d d d (lb d) fun a S=>sM S fun a S=>?_
  refine sSkN 3 27 false 144 S d d d d fun a S=>sPickT (.bool true) S (wN d) d d d d d (lb d) fun a S=>?_
  exact lT (⟨true,Option.some.inj h,S.fix [5,6] [13,14] (by decide) d d d⟩)
 refine sMove (iv ab.2.2.2) S (wG 2 false 119 d d d aG) (.inl d) d d (lb d) fun a S=>sBin _ S (wG 2 false 119 d d d aG) d d d (bNe _ _ _ _ .i64 ab.2.2.2 0) d (lb d) fun a S=>sPickF (.bool (ab.2.2.2 != 0)) S (wN d) d d aG d d (lb d) fun a S=>sM S fun a S=>?_
 rcases iS h with ⟨aH,h⟩ | ⟨aH,h⟩
 ·refine sSkN 2 6 false 123 S d d aH d fun a S=>sPickT (.bool true) S (wN d) d d aH d d (lb d) fun a S=>sM S fun a S=>?_
  refine sSkN 2 10 false 127 S d d d d fun a S=>sPickT (.bool true) S (wN d) d d d d d (lb d) fun a S=>sM S fun a S=>?_
  refine sSkN 2 14 false 131 S d d d d fun a S=>sPickT (.bool true) S (wN d) d d d d d (lb d) fun a S=>sM S fun a S=>?_
  refine sSkN 2 18 false 135 S d d d d fun a S=>sPickT (.bool true) S (wN d) d d d d d (lb d) fun a S=>sM S fun a S=>?_
  refine sSkN 3 22 false 139 S d d d d fun a S=>sPickT (.bool true) S (wN d) d d d d d (lb d) fun a S=>sM S fun a S=>?_
  refine sSkN 3 27 false 144 S d d d d fun a S=>sPickT (.bool true) S (wN d) d d d d d (lb d) fun a S=>?_
  exact lT (⟨true,Option.some.inj h,S.fix [5,6] [13,14] (by decide) d d d⟩)
 refine sMove (iv ag.2.2.2) S (wG 6 false 123 d d d aH) (.inl d) d d (lb d) fun a S=>sBin _ S (wG 6 false 123 d d d aH) d d d (bNe _ _ _ _ .i64 ag.2.2.2 0) d (lb d) fun a S=>sPickF (.bool (ag.2.2.2 != 0)) S (wN d) d d aH d d (lb d) fun a S=>sM S fun a S=>?_
 rcases iS h with ⟨aI,h⟩ | ⟨aI,h⟩
 ·refine sSkN 2 10 false 127 S d d aI d fun a S=>sPickT (.bool true) S (wN d) d d aI d d (lb d) fun a S=>sM S fun a S=>?_
  refine sSkN 2 14 false 131 S d d d d fun a S=>sPickT (.bool true) S (wN d) d d d d d (lb d) fun a S=>sM S fun a S=>?_
  refine sSkN 2 18 false 135 S d d d d fun a S=>sPickT (.bool true) S (wN d) d d d d d (lb d) fun a S=>sM S fun a S=>?_
  refine sSkN 3 22 false 139 S d d d d fun a S=>sPickT (.bool true) S (wN d) d d d d d (lb d) fun a S=>sM S fun a S=>?_
  refine sSkN 3 27 false 144 S d d d d fun a S=>sPickT (.bool true) S (wN d) d d d d d (lb d) fun a S=>?_
  exact lT (⟨true,Option.some.inj h,S.fix [5,6] [13,14] (by decide) d d d⟩)
 refine sMove (iv au.2) S (wG 10 false 127 d d d aI) (.inl d) d d (lb d) fun a S=>sBin _ S (wG 10 false 127 d d d aI) d d d (bNe _ _ _ _ .i64 au.2 0) d (lb d) fun a S=>sPickF (.bool (au.2 != 0)) S (wN d) d d aI d d (lb d) fun a S=>sM S fun a S=>?_
 rcases iS h with ⟨aJ,h⟩ | ⟨aJ,h⟩
 ·refine sSkN 2 14 false 131 S d d aJ d fun a S=>sPickT (.bool true) S (wN d) d d aJ d d (lb d) fun a S=>sM S fun a S=>?_
  refine sSkN 2 18 false 135 S d d d d fun a S=>sPickT (.bool true) S (wN d) d d d d d (lb d) fun a S=>sM S fun a S=>?_
  refine sSkN 3 22 false 139 S d d d d fun a S=>sPickT (.bool true) S (wN d) d d d d d (lb d) fun a S=>sM S fun a S=>?_
  refine sSkN 3 27 false 144 S d d d d fun a S=>sPickT (.bool true) S (wN d) d d d d d (lb d) fun a S=>?_
  exact lT (⟨true,Option.some.inj h,S.fix [5,6] [13,14] (by decide) d d d⟩)
 refine sMove (iv av.2) S (wG 14 false 131 d d d aJ) (.inl d) d d (lb d) fun a S=>sBin _ S (wG 14 false 131 d d d aJ) d d d (bNe _ _ _ _ .i64 av.2 0) d (lb d) fun a S=>sPickF (.bool (av.2 != 0)) S (wN d) d d aJ d d (lb d) fun a S=>sM S fun a S=>?_
 rcases iS h with ⟨aK,h⟩ | ⟨aK,h⟩
 ·refine sSkN 2 18 false 135 S d d aK d fun a S=>sPickT (.bool true) S (wN d) d d aK d d (lb d) fun a S=>sM S fun a S=>?_
  refine sSkN 3 22 false 139 S d d d d fun a S=>sPickT (.bool true) S (wN d) d d d d d (lb d) fun a S=>sM S fun a S=>?_
  refine sSkN 3 27 false 144 S d d d d fun a S=>sPickT (.bool true) S (wN d) d d d d d (lb d) fun a S=>?_
  exact lT (⟨true,Option.some.inj h,S.fix [5,6] [13,14] (by decide) d d d⟩)
 refine sMove (iv af.1) S (wG 18 false 135 d d d aK) (.inl d) d d (lb d) fun a S=>sBin _ S (wG 18 false 135 d d d aK) d d d (bNe _ _ _ _ .i64 af.1 0) d (lb d) fun a S=>sPickF (.bool (af.1 != 0)) S (wN d) d d aK d d (lb d) fun a S=>sM S fun a S=>?_
 rcases iS h with ⟨ax,h⟩ | ⟨ax,h⟩
 ·refine sSkN 3 22 false 139 S d d ax d fun a S=>sPickT (.bool true) S (wN d) d d ax d d (lb d) fun a S=>sM S fun a S=>?_
  refine sSkN 3 27 false 144 S d d d d fun a S=>sPickT (.bool true) S (wN d) d d d d d (lb d) fun a S=>?_
  exact lT (⟨true,Option.some.inj h,S.fix [5,6] [13,14] (by decide) d d d⟩)
 refine sMove (iv ab.1) S (wG 22 false 139 d d d ax) (.inl d) d d (lb d) fun a S=>sMove (iv ag.1) S (wG 22 false 139 d d d ax) (.inl d) d d (lb d) fun a S=>sBin _ S (wG 22 false 139 d d d ax) d d d (bNe _ _ _ _ .i64 ab.1 ag.1) d (lb d) fun a S=>sPickF (.bool (ab.1 != ag.1)) S (wN d) d d ax d d (lb d) fun a S=>sM S fun a S=>?_
 rcases iS h with ⟨ay,h⟩ | ⟨ay,h⟩
 ·refine sSkN 3 27 false 144 S d d ay d fun a S=>sPickT (.bool true) S (wN d) d d ay d d (lb d) fun a S=>?_
  exact lT (⟨true,Option.some.inj h,S.fix [5,6] [13,14] (by decide) d d d⟩)
 refine sMove (iv au.1) S (wG 27 false 144 d d d ay) (.inl d) d d (lb d) fun a S=>sMove (iv av.1) S (wG 27 false 144 d d d ay) (.inl d) d d (lb d) fun a S=>sBin _ S (wG 27 false 144 d d d ay) d d d (bNe _ _ _ _ .i64 au.1 av.1) d (lb d) fun a S=>sPickF (.bool (au.1 != av.1)) S (wN d) d d ay d d (lb d) fun a S=>?_
 exact lT (⟨au.1 != av.1,Option.some.inj h,S.fix [5,6] [13,14] (by decide) d d d⟩)
theorem rmod_int {n:Nat} (n0:1 ≤ n) (n1:n ≤ 64) (z:Int):∃ x:Nat,x < n∧F_raddleref01_Mod z (n:Int)=some (x:Int):=by
 have hn:¬ (n:Int)=0:=by omega
 have e0:=Int.emod_nonneg z hn
 have e1:=Int.emod_lt_of_pos z (show (0:Int) < n by omega)
 have ht:z.tmod (n:Int)=z % (n:Int) ∨ z.tmod (n:Int)=z % (n:Int) - n:=by
  by_cases hz:0 ≤ z
  ·exact .inl (Int.tmod_eq_emod_of_nonneg hz)
  ·rw [Int.tmod_eq_emod]
   by_cases hd:(n:Int) ∣ z
   ·left; simp [hd]
   ·right
    have hc:¬ (0 ≤ z ∨ (n:Int) ∣ z):=by rintro (h | h); exact hz h; exact hd h
    rw [if_neg hc]
    have:((n:Int).natAbs:Int)=n:=by omega
    rw [this]
 obtain ⟨x,hx⟩:∃ x:Nat,z % (n:Int)=x:=⟨(z % (n:Int)).toNat,by omega⟩
 refine ⟨x,by omega,?_⟩
 unfold F_raddleref01_Mod
 have hr:remI z (n:Int)=some (z.tmod (n:Int)):=by unfold remI; rw [if_neg hn]
 rw [hr,Option.bind_some]
 rcases ht with h | h
 ·rw [h,hx,wadd (by omega),rem_nat n0,Option.bind_some,Nat.add_mod_right,Nat.mod_eq_of_lt (by omega)]
 ·rw [h,w64_of (by omega) (by omega),show z % (n:Int) - (n:Int) + (n:Int)=(x:Int) by omega,rem_nat n0,Option.bind_some,Nat.mod_eq_of_lt (by omega)]
theorem rshifted_gen {g:api_Grid} {w h:Nat} (G:Gr g w h) {x y:Nat} (hx:x < w) (hy:y < h) {dx dy:Int} (k1:F_raddleref01_Mod dx (w:Int)=some (x:Int)) (k2:F_raddleref01_Mod dy (h:Int)=some (y:Int)):F_raddleref01_Shifted g dx dy=some (shS g w h x y):=by
 have w0:=G.w0
 have h0:=G.h0
 have w1:=G.w1
 have h1:=G.h1
 unfold F_raddleref01_Shifted
 rw [G.hw,G.hh,rzero_eq w1 h1]
 generalize hZ:(⟨(w:Int),(h:Int),List.replicate (w * h) false⟩:api_Grid)=Z
 simp only [Option.bind_some]
 have zW:Z.W=(w:Int):=by rw [← hZ]
 have zH:Z.H=(h:Int):=by rw [← hZ]
 have zB:Z.Bits=List.replicate (w * h) false:=by rw [← hZ]
 have hb:=setsC (l1:=fun p=>raddleref01_Shifted_l1 g dx p dy Z) (l2:=raddleref01_Shifted_l2 g dx dy Z) w h (fun p=>(p + x) % w) (fun q=>(q + y) % h) (fun X=>(X + (w - x)) % w) (fun Y=>(Y + (h - y)) % h) (cell g w)
  (fun p hp=>⟨Nat.mod_lt _ w0,by rw [around_sh w0 hx,Nat.mod_eq_of_lt hp]⟩) (fun p hp=>⟨Nat.mod_lt _ w0,by rw [around_sh2 w0 hx,Nat.mod_eq_of_lt hp]⟩)
  (fun p hp=>⟨Nat.mod_lt _ h0,by rw [around_sh h0 hy,Nat.mod_eq_of_lt hp]⟩) (fun p hp=>⟨Nat.mod_lt _ h0,by rw [around_sh2 h0 hy,Nat.mod_eq_of_lt hp]⟩)
  (fun p q s hp hq hs=>by
   have k3:=rmod_eq (x:=p + x) w0 w1 (by omega)
   have k4:=rmod_eq (x:=q + y) h0 h1 (by omega)
   unfold raddleref01_Shifted_l1
   simp only [G.hh,G.hw,zW,zH,dT (show (q:Int) < (h:Int) by omega),if_true,k1,k2,Option.bind_some,wadd (show p + x ≤ 9223372036854775807 by omega),wadd (show q + y ≤ 9223372036854775807 by omega),k3,k4,rat_eq G hp hq,rset_eq (w:=w) (h:=h) w1 h1 hs (Nat.mod_lt (p + x) w0) (Nat.mod_lt (q + y) h0),w64_succ (show q < 9223372036854775807 by omega)])
  (fun p s=>by
   unfold raddleref01_Shifted_l1
   simp only [G.hh,dF (show ¬ (h:Int) < (h:Int) by omega),Bool.false_eq_true,if_false])
  (fun p s t hp ht=>by
   unfold raddleref01_Shifted_l2
   simp only [G.hw,dT (show (p:Int) < (w:Int) by omega),if_true,ht,Option.bind_some,w64_succ (show p < 9223372036854775807 by omega)])
  (fun s=>by
   unfold raddleref01_Shifted_l2
   simp only [G.hw,dF (show ¬ (w:Int) < (w:Int) by omega),Bool.false_eq_true,if_false])
 simp only [zW,zH,zB,hb,Option.bind_some]
 rfl
theorem okG_mono {g k:Int} (h:k ≤ g) {m:Mo} (hm:okG k m):okG g m:=by
 obtain ⟨a1,a2,a3,a4⟩:=hm
 exact ⟨fun q=>by have:=a1 q; omega,fun q=>by have:=a2 q; omega,fun q=>by have:=a3 q; omega,fun q=>by have:=a4 q; omega⟩
theorem uN_conj {a b a' b':api_Grid} {w h:Nat} {grp:Int} (A:Gr a w h) (A':Gr a' w h) (g0:0 ≤ grp) (g3:grp ≤ 3) (gs:1 < grp→w=h) {m:Mo} (hm:okG grp m) (ea:ext a' w h=act m (ext a w h)) (eb:ext b' w h=act m (ext b w h)):uN a' b' w h grp ≤ uN a b w h grp:=by
 obtain ⟨op,x,y,h1,h2,h3,-,h4,h5⟩:=uN_at b A g0 g3 gs
 have m1:=moOf_ok (w:=w) (h:=h) (x:=x) (y:=y) g0 g3 h1
 have d1:(moOf w h op x y).e=true→w=h:=fun q=>gs (by have:=m1.2.2.1 q; omega)
 have d2:m.e=true→w=h:=fun q=>gs (by have:=hm.2.2.1 q; omega)
 have k1:=uN_le (b:=b') A' g0 g3 gs (okG_cmp hm (okG_cmp m1 (okG_inv hm)))
 rw [← act_act,← act_act,ea,act_inv,eb,act_dst (act_per (ext_per a w h) _ d1) (ext_per b w h) _ d2] at k1
 omega
theorem law_CompareGroup' (hal:F_raddlelaw46_alive=some true) (a b:api_Grid) (grp op dx dy:Int) (wa:wf_api_Grid a) (wb:wf_api_Grid b) (wg:InK .i64 grp) (wo:InK .i64 op) (wx:InK .i64 dx) (wy:InK .i64 dy):F_raddlelaw46_CompareGroup a b grp op dx dy=some true:=by
 unfold F_raddlelaw46_CompareGroup
 rw [hal,rgreat46_eq,rgreat46_eq,rstart_eq,last_eq]
 by_cases h1:36 < a.Bits.length∧a.W ≤ 16∧a.H ≤ 16 ∨ 4200 < a.Bits.length
 ·simp only [dT h1,if_true,Option.bind_some]
 by_cases h2:36 < b.Bits.length∧b.W ≤ 16∧b.H ≤ 16 ∨ 4200 < b.Bits.length
 ·simp only [dF h1,dT h2,Bool.false_eq_true,if_false,if_true,Option.bind_some]
 by_cases s1:startS a b grp=0
 case neg=>simp only [dF h1,dF h2,nT s1,Bool.false_eq_true,if_false,if_true,Option.bind_some]
 by_cases o1:op < 0
 ·simp only [dF h1,dF h2,nF s1,dT o1,Bool.false_eq_true,if_false,if_true,Option.bind_some]
 by_cases o2:((lastN grp:Nat):Int) < op
 ·simp only [dF h1,dF h2,nF s1,dF o1,dT o2,Bool.false_eq_true,if_false,if_true,Option.bind_some]
 obtain ⟨w,h,A,B,hw,hh,g0,g3,gs⟩:=start_ok s1
 obtain ⟨o,rfl⟩:∃ o:Nat,op=o:=⟨op.toNat,by omega⟩
 have ho:o < lastN grp + 1:=by omega
 have K:=last_kp g0 g3 gs (w:=w) (h:=h)
 obtain ⟨x,hx,kx⟩:=rmod_int A.w0 A.w1 dx
 obtain ⟨y,hy,ky⟩:=rmod_int A.h0 A.h1 dy
 have MA:=apB_gr A K ho
 have MB:=apB_gr B K ho
 have SA:=shS_gr (x:=x) (y:=y) MA
 have SB:=shS_gr (x:=x) (y:=y) MB
 have rA:F_raddleref07_Applied a (o:Int)=some (apB a w h (o:Int)):=rapplied_eq A _
 have rB:F_raddleref07_Applied b (o:Int)=some (apB b w h (o:Int)):=rapplied_eq B _
 have m1:=moOf_ok (w:=w) (h:=h) (x:=x) (y:=y) g0 g3 ho
 have d1:(moOf w h o x y).e=true→w=h:=fun q=>gs (by have:=m1.2.2.1 q; omega)
 have eA:=mv_ext A K ho hx hy
 have eB:=mv_ext B K ho hx hy
 have shA:=rshifted_gen MA hx hy kx ky
 have shB:=rshifted_gen MB hx hy kx ky
 simp only [dF h1,dF h2,nF s1,dF o1,dF o2,Bool.false_eq_true,if_false,Bool.not_true,Option.bind_some,rA,rB,shA,shB]
 generalize shS (apB a w h (o:Int)) w h x y=a' at *
 generalize shS (apB b w h (o:Int)) w h x y=b' at *
 have s2:=start_of A SA hw hh g0 g3 gs
 have s3:=start_of SA SB hw hh g0 g3 gs
 have u0:uN a a' w h grp=0:=by
  have:=uN_le (b:=a') A g0 g3 gs m1
  rw [← eA,dst_self] at this
  omega
 have u1:uN a b w h grp=uN a' b' w h grp:=by
  refine Nat.le_antisymm ?_ (uN_conj A SA g0 g3 gs m1 eA eB)
  exact uN_conj SA A g0 g3 gs (okG_inv m1) (by rw [eA,act_inv]) (by rw [eB,act_inv])
 have u2:dl a.Bits b.Bits (w * h)=dl a'.Bits b'.Bits (w * h):=by
  rw [dl_dst,dl_dst,eA,eB,act_dst (ext_per a w h) (ext_per b w h) _ d1]
 have n1:=nearS_ok A s2
 have n2:=nearS_ok A s1
 have n3:=nearS_ok SA s3
 have v1:(stT a a' w h ((lastN grp + 1) * h * w)).1=((uN a a' w h grp:Nat):Int):=rfl
 have v2:(stT a b w h ((lastN grp + 1) * h * w)).1=((uN a b w h grp:Nat):Int):=rfl
 have v3:(stT a' b' w h ((lastN grp + 1) * h * w)).1=((uN a' b' w h grp:Nat):Int):=rfl
 rw [v1,u0] at n1
 rw [v2] at n2
 rw [v3,← u1] at n3
 obtain ⟨gn,hgn⟩:∃ gn:Nat,grp=gn:=⟨grp.toNat,by omega⟩
 have hlp:whileO (raddlelaw46_CompareGroup_l1 grp a b (nearS a b grp)) 0=some (.inr ()):=by
  refine loop_same gn _ (fun k hk=>?_) ?_
  ·have sk:=start_of A B hw hh (show (0:Int) ≤ (k:Int) by omega) (show (k:Int) ≤ 3 by omega) (fun q=>gs (by omega))
   have nk:=nearS_ok A sk
   have vk:(stT a b w h ((lastN (k:Int) + 1) * h * w)).1=((uN a b w h (k:Int):Nat):Int):=rfl
   rw [vk] at nk
   obtain ⟨op',x',y',i1,i2,i3,-,i4,i5⟩:=uN_at b A (show (0:Int) ≤ (k:Int) by omega) (show (k:Int) ≤ 3 by omega) (fun q=>gs (by omega))
   have mk:=okG_mono (show (k:Int) ≤ grp by omega) (moOf_ok (w:=w) (h:=h) (x:=x') (y:=y') (show (0:Int) ≤ (k:Int) by omega) (show (k:Int) ≤ 3 by omega) i1)
   have le:=uN_le (b:=b) A g0 g3 gs mk
   unfold raddlelaw46_CompareGroup_l1
   simp only [dT (show (k:Int) < grp by omega),if_true,nearest_eq,nk,n2,Option.bind_some,bne_self_eq_false,Bool.false_eq_true,if_false,dF (show ¬ ((uN a b w h (k:Int):Nat):Int) < ((uN a b w h grp:Nat):Int) by omega),w64_succ (show k < 9223372036854775807 by omega)]
  ·unfold raddlelaw46_CompareGroup_l1
   simp only [dF (show ¬ ((gn:Nat):Int) < grp by omega),Bool.false_eq_true,if_false]
 rw [n2] at hlp
 simp only [nearest_eq,n1,n2,n3,hlp,(cells_eq _ _).1,cellsS_ok A B,cellsS_ok SA SB,← u2,bne_self_eq_false,Bool.false_eq_true,if_false,Option.bind_some,Int.natCast_zero]
theorem law_CompareGroup (a b:api_Grid) (grp op dx dy:Int) (wa:wf_api_Grid a) (wb:wf_api_Grid b) (wg:InK .i64 grp) (wo:InK .i64 op) (wx:InK .i64 dx) (wy:InK .i64 dy):F_raddlelaw46_CompareGroup a b grp op dx dy=some true:=law_CompareGroup' k_raddlelaw46_alive a b grp op dx dy wa wb wg wo wx wy
namespace frameCompareGroup
open Go.ChangeShapes Go.WideShapes Go.ChangeAt Go.Joins
theorem own:ownKnob Try.prog.godebug=none:=by kernel_rfl
theorem laidOut:laidOutB Try.prog=true:=by kernel_rfl
theorem lifted (os:Os) (started:os.Started) (H:Type) (enc:TypeId × Value→H) :
 ReturnsInHanded {} Try.checked os 7 .any (Rows.compareGroupSpec.pre6 enc Try.prog Try.f7 Rows.compareGroupRow.domain false) (Rows.compareGroupSpec.post enc Try.prog Try.f7 false true false false):=by
 refine returnsInHanded_of_change (C:=Try.checked) own started (by kernel_rfl) Try.func7
  (ChangeSpec.witness6 (enc:=enc) (C:=Try.checked) false ⟨#[],#[.agg #[iv 0,iv 0,.slice none 0 0],.agg #[iv 0,iv 0,.slice none 0 0],.int .i64 0,.int .i64 0,.int .i64 0,.int .i64 0],[]⟩ 8 (by kernel_rfl) (by kernel_rfl) (by kernel_rfl) (by kernel_rfl)) ?_
 intro W base args ds gs before hval0 hW hcnd _
 have hval:∀ (j:Nat) t v,Try.f7.params[j]?=some t→args[j]?=some v→Value.okWide Try.prog W .any base t v:=hval0
 have hW':=hW
 obtain ⟨p,q,hA0,hV,rfl,hfz,hnd⟩:=hW
 have hA:DataW.TrodAll enc Try.prog W 0 (fun _=>true) true Try.f7.params.toList args.toList ds p:=hA0
 rw [Try.params7] at hA hval
 obtain ⟨v0,vs0,d0,ds0,p0,q0,hargs,rfl,rfl,h0,r0⟩:=trodAll_cons hA
 obtain ⟨v1,vs1,d1,ds1,p1,q1,rfl,rfl,rfl,h1,r1⟩:=trodAll_cons r0
 obtain ⟨v2,vs2,d2,ds2,p2,q2,rfl,rfl,rfl,h2,r2⟩:=trodAll_cons r1
 obtain ⟨v3,vs3,d3,ds3,p3,q3,rfl,rfl,rfl,h3,r3⟩:=trodAll_cons r2
 obtain ⟨v4,vs4,d4,ds4,p4,q4,rfl,rfl,rfl,h4,r4⟩:=trodAll_cons r3
 obtain ⟨v5,vs5,d5,ds5,p5,q5,rfl,rfl,rfl,h5,r5⟩:=trodAll_cons r4
 obtain ⟨rfl,rfl,rfl⟩:=trodAll_nil r5
 obtain rfl:args=#[v0,v1,v2,v3,v4,v5]:=by cases args; simp_all
 obtain ⟨rfl,rfl⟩:=trodVars_none hV
 have k0:=h0
 have lt0:∀ x ∈ p0,x.block < W.heap.size:=by obtain ⟨m,hm⟩:=k0; exact DataW.trod_lt m _ _ _ hm
 have k1:=h1
 have lt1:∀ x ∈ p1,x.block < W.heap.size:=by obtain ⟨m,hm⟩:=k1; exact DataW.trod_lt m _ _ _ hm
 have k2:=h2
 have lt2:∀ x ∈ p2,x.block < W.heap.size:=by obtain ⟨m,hm⟩:=k2; exact DataW.trod_lt m _ _ _ hm
 have k3:=h3
 have lt3:∀ x ∈ p3,x.block < W.heap.size:=by obtain ⟨m,hm⟩:=k3; exact DataW.trod_lt m _ _ _ hm
 have k4:=h4
 have lt4:∀ x ∈ p4,x.block < W.heap.size:=by obtain ⟨m,hm⟩:=k4; exact DataW.trod_lt m _ _ _ hm
 have k5:=h5
 have lt5:∀ x ∈ p5,x.block < W.heap.size:=by obtain ⟨m,hm⟩:=k5; exact DataW.trod_lt m _ _ _ hm
 obtain ⟨x0,rep0,wf0⟩:=top_agg Try.underlying24 aggr_api_Grid op_api_Grid (hval 0 _ v0 rfl rfl) h0
 obtain ⟨x1,rep1,wf1⟩:=top_agg Try.underlying24 aggr_api_Grid op_api_Grid (hval 1 _ v1 rfl rfl) h1
 obtain ⟨x2,rfl,rfl,rfl,wf2⟩:=open_int Try.underlying3 (hval 2 _ v2 rfl rfl) h2
 obtain ⟨x3,rfl,rfl,rfl,wf3⟩:=open_int Try.underlying3 (hval 3 _ v3 rfl rfl) h3
 obtain ⟨x4,rfl,rfl,rfl,wf4⟩:=open_int Try.underlying3 (hval 4 _ v4 rfl rfl) h4
 obtain ⟨x5,rfl,rfl,rfl,wf5⟩:=open_int Try.underlying3 (hval 5 _ v5 rfl rfl) h5
 clear hA0 hval0
 refine (c_raddlelaw46_CompareGroup (fun _=>False) W x0 v0 x1 v1 x2 x3 x4 x5 true (law_CompareGroup x0 x1 x2 x3 x4 x5 wf0 wf1 wf2 wf3 wf4 wf5) (St0.start (by intro d hd; simp only [List.mem_cons,List.not_mem_nil,or_false] at hd; rcases hd with rfl | rfl; exact rep0; exact rep1))).mono fun e W' hr=>?_
 obtain ⟨_,he,hS⟩:=hr
 have bel:=hS.chg.below
 subst he
 exact ⟨_,rfl,_,_,_,[],_,[],hW',trodAll_mk1 (shut_bool Try.underlying4 _),(trodAll_cons_mk (Below.trod laidOut (by kernel_rfl) (of_decide_eq_true (by kernel_rfl)) k0 bel lt0) (trodAll_cons_mk (Below.trod laidOut (by kernel_rfl) (of_decide_eq_true (by kernel_rfl)) k1 bel lt1) (trodAll_cons_mk (Below.trod laidOut (by kernel_rfl) (of_decide_eq_true (by kernel_rfl)) k2 bel lt2) (trodAll_cons_mk (Below.trod laidOut (by kernel_rfl) (of_decide_eq_true (by kernel_rfl)) k3 bel lt3) (trodAll_cons_mk (Below.trod laidOut (by kernel_rfl) (of_decide_eq_true (by kernel_rfl)) k4 bel lt4) (trodAll_cons_mk (Below.trod laidOut (by kernel_rfl) (of_decide_eq_true (by kernel_rfl)) k5 bel lt5) trodAll_mk0)))))),rfl,bel.frame _,fun h=>by cases h⟩
theorem over:Rows.compareGroupRow.holds Try.pinned (OpenSpec.ofChange Rows.compareGroupSpec):=
 OpenClaim.holds_of_wide 7 Try.f7 rfl rfl rfl rfl rfl rfl rfl ⟨rfl,rfl,rfl,rfl,rfl⟩ rfl rfl rfl rfl rfl (by kernel_rfl) Try.func7 (by kernel_rfl)
  (of_decide_eq_true (by kernel_rfl)) (by unfold Func.isWrapper; first | (rw [if_pos (by decide +kernel)]; kernel_rfl) | (rw [if_neg (by decide +kernel)]; exact ⟨rfl,rfl⟩))
  (fun os started H enc _=>lifted os started H enc)
end frameCompareGroup
theorem compareGroup_holds:Rows.CompareGroupSaid:=frameCompareGroup.over
end Go.Proofs.Ytffikfajljbmnaa
