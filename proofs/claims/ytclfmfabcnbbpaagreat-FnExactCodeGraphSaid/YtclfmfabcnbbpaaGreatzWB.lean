/- Words of binary codes: the program. -/
import Derived.Test.YtclfmfabcnbbpaaGreatProg
import Derived.KernelRfl
import Derived.Test.YtclfmfabcnbbpaaGreatzWA
import Derived.Test.YtclfmfabcnbbpaaGreatzPG
import Derived.Test.YtclfmfabcnbbpaaGreatzK20
set_option linter.unusedSimpArgs false
set_option linter.unusedVariables false
set_option maxHeartbeats 4000000
set_option maxRecDepth 100000
open Go.Operand renaming tmp→t'
open Option renaming none→n',some→s'
open List renaming range→w7,getD_eq_getElem?_getD→qE,getElem?_set→xR,length_set→w6,length_map→w8,getElem?_map→qX,getElem?_eq_getElem→qB,getElem?_set_self→qY,map_set→xL,take_zero→qO,map_congr_left→xC,take_succ_cons→qI
open Go.Av.SW renaming block→q8
open Go.Av.FunPost renaming three→qQ
open Int renaming eq_ofNat_of_zero_le→wC,toNat_natCast→wA
namespace Go.Proofs.YtclfmfabcnbbpaaGreat
open Go.Av
abbrev f_impl_highFirst : Nat:=50
def c_impl_highFirst : SC :=
 .seq (.reg [⟨s' 6,.mv (.const (.slice none 0 0)),n'⟩] [0,1,2]) (.seq (.reg [⟨s' 8,.mv (t' 0),n'⟩,⟨s' 9,.mv (t' 1),n'⟩,⟨s' 10,.mv (t' 2),n'⟩,
 ⟨s' 11,.call 75 [(t' 8),(t' 9),(t' 10)],n'⟩,⟨s' 7,.mv (t' 11),n'⟩] [7]) (.seq (.reg [⟨s' 12,.mv (t' 7),n'⟩,⟨s' 13,.call 76 [(t' 12)],n'⟩] [7]) (.seq (.reg [⟨s' 14,.mv (t' 7),n'⟩,
 ⟨s' 6,.mv (t' 14),n'⟩] [6]) (.ret))))
theorem s_impl_highFirst : stripF Tryz.prog 50 [[0,1,2],[7],[7],[6]] = some (c_impl_highFirst,[.tmp 6],15):=by kernel_rfl
abbrev f_slices_Reverse_Lint64_int64 : Nat:=76
def c_slices_Reverse_Lint64_int64 : SC :=
 .seq (.reg [⟨s' 4,.mv (t' 0),n'⟩,⟨s' 5,.len (t' 4),n'⟩,⟨s' 6,.bin .sub (t' 5) (.const (.int .i64 1)),n'⟩,⟨s' 2,.mv (.const (.int .i64 0)),n'⟩,⟨s' 3,.mv (t' 6),n'⟩] [0,2,3])
 (.block 0 (.loop [0,2,3] (.seq (.seq (.reg [⟨s' 7,.mv (t' 2),n'⟩,⟨s' 8,.mv (t' 3),n'⟩,⟨s' 9,.bin .lss (t' 7) (t' 8),n'⟩] [0,2,3,9]) (.cond (t' 9) (.skip) (.exit 0)))
 (.seq (.block 1 (.reg [⟨s' 14,.mv (t' 0),n'⟩,⟨s' 15,.mv (t' 2),n'⟩,⟨s' 16,.mv (t' 0),n'⟩,⟨s' 17,.mv (t' 3),n'⟩,⟨s' 18,.mv (t' 0),n'⟩,⟨s' 19,.mv (t' 3),n'⟩,
 ⟨s' 20,.iaddr 1 (t' 18) (t' 19),n'⟩,⟨s' 21,.load 1 false (t' 20),n'⟩,⟨s' 22,.mv (t' 0),n'⟩,⟨s' 23,.mv (t' 2),n'⟩,⟨s' 24,.iaddr 1 (t' 22) (t' 23),n'⟩,
 ⟨s' 25,.load 1 false (t' 24),n'⟩,⟨s' 26,.iaddr 1 (t' 14) (t' 15),n'⟩,⟨n',.store 1 (t' 26) (t' 21),n'⟩,⟨s' 27,.iaddr 1 (t' 16) (t' 17),n'⟩,
 ⟨n',.store 1 (t' 27) (t' 25),n'⟩] [0,2,3])) (.reg [⟨s' 10,.mv (t' 2),n'⟩,⟨s' 11,.bin .add (t' 10) (.const (.int .i64 1)),n'⟩,⟨s' 12,.mv (t' 3),n'⟩,
 ⟨s' 13,.bin .sub (t' 12) (.const (.int .i64 1)),n'⟩,⟨s' 2,.mv (t' 11),n'⟩,⟨s' 3,.mv (t' 13),n'⟩] [0,2,3])))))
theorem s_slices_Reverse_Lint64_int64 : stripF Tryz.prog 76 [[0,2,3],[0,2,3],[0,2,3,9],[0,2,3],[0,2,3]] = some (c_slices_Reverse_Lint64_int64,[],28):=by kernel_rfl
def revL (xs : List Int) (i : Nat) : List Int:=(w7 xs.length).map fun j=>if j < i ∨ xs.length ≤ j + i then xs.getD (xs.length - 1 - j) 0 else xs.getD j 0
theorem revL_len (xs : List Int) (i : Nat) : (revL xs i).length = xs.length:=by simp [revL]
theorem revL_get (xs : List Int) (i : Nat) {j : Nat} (h : j < xs.length) : (revL xs i).getD j 0 = if j < i ∨ xs.length ≤ j + i then xs.getD (xs.length - 1 - j) 0 else xs.getD j 0:=map_range_getD _ h
theorem revL_zero (xs : List Int) : revL xs 0 = xs:=by
 refine getD_extW (revL_len _ _) fun i hi=>?_
 rw [revL_len] at hi
 rw [revL_get _ _ hi,if_neg (by omega)]
theorem getD_setW (xs : List Int) (i : Nat) (x : Int) {j : Nat} (h : j < xs.length) : (xs.set i x).getD j 0 = if i = j then x else xs.getD j 0:=by
 rw [qE,xR]
 by_cases e : i = j
 ·subst e
  rw [if_pos rfl,if_pos h,if_pos rfl];rfl
 ·rw [if_neg e,if_neg e,qE]
theorem revL_step {xs : List Int} {i : Nat} (h : i + (i + 1) < xs.length) : ((revL xs i).set i (xs.getD (xs.length - 1 - i) 0)).set (xs.length - 1 - i) (xs.getD i 0) = revL xs (i + 1):=by
 refine getD_extW (by simp [revL_len]) fun j hj=>?_
 rw [w6,w6,revL_len] at hj
 rw [getD_setW _ _ _ (by rw [w6,revL_len];exact hj),getD_setW _ _ _ (by rw [revL_len];exact hj),revL_get _ _ hj,revL_get _ _ hj]
 by_cases e1 : xs.length - 1 - i = j
 ·rw [if_pos e1,if_pos (by omega),show xs.length - 1 - j = i by omega]
 ·rw [if_neg e1]
  by_cases e2 : i = j
  ·rw [if_pos e2,if_pos (by omega),e2]
  ·rw [if_neg e2]
   by_cases e3 : j < i ∨ xs.length ≤ j + i
   ·rw [if_pos e3,if_pos (by omega)]
   ·rw [if_neg e3,if_neg (by omega)]
theorem revL_done {xs : List Int} {i : Nat} (h : xs.length ≤ i + i + 1) : revL xs i = xs.reverse:=by
 refine getD_extW (by simp [revL_len]) fun j hj=>?_
 rw [revL_len] at hj
 have e : xs.reverse.getD j 0 = xs.getD (xs.length - 1 - j) 0:=by
  rw [qE,List.getElem?_reverse hj,qE]
 rw [revL_get _ _ hj,e]
 split
 ·rfl
 ·rw [show xs.length - 1 - j = j by omega]
theorem reverse_ok (H : List Blk) (r ver ty n : Nat) (xs : List Int) (hr : H[r]? = some ⟨ver,ty,1,xs.map I⟩) (hn : xs.length = n) (hl : n ≤ 100) :
  ACalls Tryz.prog f_slices_Reverse_Lint64_int64 [.nm r ver 0 n] H (fun v H'=>H' = H.set r ⟨ver,ty,1,xs.reverse.map I⟩):=by
 have hrl:=(List.getElem?_eq_some_iff.1 hr).1
 have hH0 : H = H.set r ⟨ver,ty,1,(revL xs 0).map I⟩:=by
  rw [revL_zero]
  refine List.ext_getElem? fun i=>?_
  rw [xR]
  by_cases e : r = i
  ·subst e
   rw [if_pos rfl,if_pos hrl,hr]
  ·rw [if_neg e]
 have hv0 : aview H (.nm r ver 0 n) = some (n,xs.map I):=view_nm hr (by rw [w8,hn])
 refine ACalls.introB s_slices_Reverse_Lint64_int64 (by simp) ?_;intro hB hA;unfold c_slices_Reverse_Lint64_int64;simp (disch:=(first|omega|(simp only [go_sem];try omega))) only [go_sem,Nat.reduceAdd,Nat.reduceEqDiff,Nat.reduceLeDiff,reduceIte,w64_id,cast_succ]
 repeat (first|(with_reducible first|refine SW.seq ?_|refine q8 ?_|refine SW.rowC ?_|refine SW.skip ?_|refine SW.exit ?_|intro _|refine And.intro (by omega) ?_)|simp (disch:=(first|omega|(simp only [go_sem];try omega))) only [go_sem,Nat.reduceAdd,Nat.reduceEqDiff,Nat.reduceLeDiff,reduceIte,w64_id,cast_succ,hv0])
 refine SW.loopE (fun E0 H0 q E' H'=>∃ i : Nat,i ≤ n ∧ q = n - i ∧ E' = aput (aput E0 2 (I i)) 3 (I ((n : Int) - 1 - i)) ∧ H' = H.set r ⟨ver,ty,1,(revL xs i).map I⟩) n ⟨0,by omega,by omega,by simp [go_sem],hH0⟩ ?_
 rintro q E' H' ⟨i,hi,rfl,rfl,rfl⟩
 simp (disch:=(first|omega|(simp only [go_sem];try omega))) only [go_sem,Nat.reduceAdd,Nat.reduceEqDiff,Nat.reduceLeDiff,reduceIte,w64_id,cast_succ]
 repeat (first|(with_reducible first|refine SW.seq ?_|refine q8 ?_|refine SW.rowC ?_|refine SW.skip ?_|refine SW.exit ?_|intro _|refine And.intro (by omega) ?_)|simp (disch:=(first|omega|(simp only [go_sem];try omega))) only [go_sem,Nat.reduceAdd,Nat.reduceEqDiff,Nat.reduceLeDiff,reduceIte,w64_id,cast_succ])
 (first|refine SW.condD rfl (fun h2=>?_) (fun h2=>?_)|refine SW.condN rfl (fun h2=>?_) (fun h2=>?_)|refine SW.condNB rfl (fun h2=>?_) (fun h2=>?_)|refine SW.condB rfl (fun h2=>?_) (fun h2=>?_))
 ·have hin : i + (i + 1) < xs.length:=by omega
  obtain ⟨j,hj⟩ : ∃ j : Nat,(n : Int) - 1 - i = j:=⟨n - 1 - i,by omega⟩
  have hjn : xs.length - 1 - i = j:=by omega
  have hst:=revL_step hin
  rw [hjn] at hst
  have g1:=revL_get xs i (j:=i) (by omega)
  rw [if_neg (by omega)] at g1
  have g2:=revL_get xs i (j:=j) (by omega)
  rw [if_neg (by omega)] at g2
  have hL:=revL_len xs i
  generalize revL xs i = L at *
  have f1 : (L.map I)[i]? = some (I (xs.getD i 0)):=by rw [← g1,qX,qE,qB (by omega)];rfl
  have f2 : (L.map I)[j]? = some (I (xs.getD j 0)):=by rw [← g2,qX,qE,qB (by omega)];rfl
  have hv : aview (H.set r ⟨ver,ty,1,L.map I⟩) (.nm r ver 0 n) = some (n,L.map I):=view_nm (qY hrl) (by rw [w8,hL,hn])
  have hs1 : ∀ x,astore (H.set r ⟨ver,ty,1,L.map I⟩) [I x] (.el (.nm r ver 0 n) i) = some (H.set r ⟨ver,ty,1,(L.set i x).map I⟩):=fun x=>by
   rw [store_nm (qY hrl) (by rw [w8];omega),List.set_set,xL]
  have hv2 : ∀ x,aview (H.set r ⟨ver,ty,1,(L.set i x).map I⟩) (.nm r ver 0 n) = some (n,(L.set i x).map I):=fun x=>view_nm (qY hrl) (by rw [w8,w6,hL,hn])
  have hs2 : ∀ x y,astore (H.set r ⟨ver,ty,1,(L.set i x).map I⟩) [I y] (.el (.nm r ver 0 n) j) = some (H.set r ⟨ver,ty,1,((L.set i x).set j y).map I⟩):=fun x y=>by
   rw [store_nm (qY hrl) (by rw [w8,w6];omega),List.set_set,xL,xL,xL]
  repeat (first|(with_reducible first|refine SW.seq ?_|refine q8 ?_|refine SW.rowC ?_|refine SW.skip ?_|refine SW.exit ?_|intro _|refine And.intro (by omega) ?_)|simp (disch:=(first|omega|(simp only [go_sem];try omega))) only [go_sem,Nat.reduceAdd,Nat.reduceEqDiff,Nat.reduceLeDiff,reduceIte,w64_id,cast_succ,hj,hv,f1,f2,hs1,hv2,hs2])
  refine SLoop.next (n - (i + 1)) (by omega) ⟨i + 1,by omega,rfl,?_,by rw [hst]⟩
  rw [show ((n : Int) - 1 - ((i + 1 : Nat) : Int)) = (j : Int) - 1 by omega]
  simp [go_sem]
 ·have hin : xs.length ≤ i + i + 1:=by omega
  rw [revL_done hin]
  repeat (first|(with_reducible first|refine SW.seq ?_|refine q8 ?_|refine SW.rowC ?_|refine SW.skip ?_|refine SW.exit ?_|intro _|refine And.intro (by omega) ?_)|simp (disch:=(first|omega|(simp only [go_sem];try omega))) only [go_sem,Nat.reduceAdd,Nat.reduceEqDiff,Nat.reduceLeDiff,reduceIte,w64_id,cast_succ])
  refine ⟨_,rfl,GR.of rfl⟩
theorem highFirst_new (a p n : Nat) (h1 : 1 ≤ p) (hp : p ≤ 4096) (ha : a ≤ 100000) (hn : n ≤ 64) : NewD Tryz.prog f_impl_highFirst [I a,I p,I n] (digL p n a).reverse:=by
 intro H
 refine ACalls.introB s_impl_highFirst (by simp) ?_;intro hB hA;unfold c_impl_highFirst;simp (disch:=(first|omega|(simp only [go_sem];try omega))) only [go_sem,Nat.reduceAdd,Nat.reduceEqDiff,Nat.reduceLeDiff,reduceIte,w64_id,cast_succ]
 repeat (first|(with_reducible first|refine SW.seq ?_|refine q8 ?_|refine SW.rowC ?_|refine SW.skip ?_|refine SW.exit ?_|intro _|refine And.intro (by omega) ?_)|simp (disch:=(first|omega|(simp only [go_sem];try omega))) only [go_sem,Nat.reduceAdd,Nat.reduceEqDiff,Nat.reduceLeDiff,reduceIte,w64_id,cast_succ])
 refine (digitsOf_new a p n h1 hp ha hn _).mono ?_
 rintro r H1 ⟨rfl,rfl⟩
 repeat (first|(with_reducible first|refine SW.seq ?_|refine q8 ?_|refine SW.rowC ?_|refine SW.skip ?_|refine SW.exit ?_|intro _|refine And.intro (by omega) ?_)|simp (disch:=(first|omega|(simp only [go_sem];try omega))) only [go_sem,Nat.reduceAdd,Nat.reduceEqDiff,Nat.reduceLeDiff,reduceIte,w64_id,cast_succ])
 refine (reverse_ok _ H.length 0 2 _ (digL p n a) (by simp) rfl (by rw [digL_len];omega)).mono ?_
 rintro r H1 rfl
 repeat (first|(with_reducible first|refine SW.seq ?_|refine q8 ?_|refine SW.rowC ?_|refine SW.skip ?_|refine SW.exit ?_|intro _|refine And.intro (by omega) ?_)|simp (disch:=(first|omega|(simp only [go_sem];try omega))) only [go_sem,Nat.reduceAdd,Nat.reduceEqDiff,Nat.reduceLeDiff,reduceIte,w64_id,cast_succ])
 refine SW.ret ?_;(try simp only [go_sem]);(first|refine FunPost.one ?_|refine FunPost.two ?_|refine qQ ?_);(try simp (disch:=(first|omega|(simp only [go_sem];try omega))) only [go_sem,Nat.reduceAdd,Nat.reduceEqDiff,Nat.reduceLeDiff,reduceIte,w64_id,cast_succ])
 exact GR.of ⟨by rw [List.length_reverse],rfl⟩
end Go.Proofs.YtclfmfabcnbbpaaGreat
namespace Go.Proofs.YtclfmfabcnbbpaaGreat
open Go.Av
abbrev f_impl_arithmetic_encode : Nat:=49
def c_impl_arithmetic_encode : SC :=
 .seq (.reg [⟨s' 3,.box 76 (t' 0),n'⟩,⟨s' 6,.mv (.const (.slice none 0 0)),n'⟩] [1,2,3]) (.seq (.reg [⟨s' 10,.mv (t' 1),n'⟩,⟨s' 11,.iaddr 1 (t' 10) (.const (.int .i64 0)),n'⟩,
 ⟨s' 12,.load 1 false (t' 11),n'⟩,⟨s' 13,.len (t' 12),n'⟩,⟨s' 14,.mslice 2 8 (.int .i64 0) (t' 13) (t' 13),n'⟩,⟨s' 7,.mv (t' 14),n'⟩] [1,2,3,7]) (.seq (.seq (.reg [
 ⟨s' 15,.mv (t' 2),n'⟩,⟨s' 16,.len (t' 15),n'⟩,⟨s' 17,.mv (.const (.int .i64 0)),n'⟩] [1,3,7,15,16,17]) (.block 0 (.loop [1,3,7,15,16,17] (.seq (.reg [
 ⟨s' 18,.bin .lss (t' 17) (t' 16),n'⟩] [1,3,7,15,16,17,18]) (.seq (.cond (t' 18) (.skip) (.exit 0)) (.seq (.block 1 (.seq (.reg [⟨s' 19,.mv (t' 17),n'⟩,
 ⟨s' 20,.iaddr 1 (t' 15) (t' 17),n'⟩,⟨s' 21,.load 1 false (t' 20),n'⟩,⟨s' 8,.mv (t' 19),n'⟩,⟨s' 9,.mv (t' 21),n'⟩] [1,3,7,8,9,15,16,17]) (.reg [⟨s' 22,.load 5 true (t' 3),n'⟩,
 ⟨s' 23,.mv (t' 7),n'⟩,⟨s' 24,.mv (t' 1),n'⟩,⟨s' 25,.mv (t' 8),n'⟩,⟨s' 26,.iaddr 1 (t' 24) (t' 25),n'⟩,⟨s' 27,.load 1 false (t' 26),n'⟩,⟨s' 28,.mv (t' 9),n'⟩,
 ⟨s' 29,.call 72 [(t' 22),(t' 23),(t' 27),(t' 28)],n'⟩] [1,3,7,15,16,17]))) (.reg [⟨s' 30,.bin .add (t' 17) (.const (.int .i64 1)),n'⟩,
 ⟨s' 17,.mv (t' 30),n'⟩] [1,3,7,15,16,17]))))))) (.seq (.reg [⟨s' 31,.mv (t' 7),n'⟩,⟨s' 6,.mv (t' 31),n'⟩] [6]) (.ret))))
theorem s_impl_arithmetic_encode : stripF Tryz.prog 49 [[1,2,3],[1,2,3,7],[1,3,7,15,16,17],[1,3,7,15,16,17],[1,3,7,15,16,17,18],[1,3,7,8,9,15,16,17],[1,3,7,15,16,17,1000007],[1,3,7,15,16,17],[6]] = some (c_impl_arithmetic_encode,[.tmp 6],32):=by kernel_rfl
theorem digL_getD (p : Nat) : ∀ (n a i : Nat),i < n → (digL p n a).getD i 0 = ((a / p ^ i % p : Nat) : Int)
 | n + 1,a,0,_=>by rw [digL,List.getD_cons_zero,Nat.pow_zero,Nat.div_one]
 | n + 1,a,i + 1,h=>by
  rw [digL,List.getD_cons_succ,digL_getD p n (a / p) i (by omega),Nat.div_div_eq_div_mul,Nat.pow_succ,Nat.mul_comm p]
theorem hi_get (n k i : Nat) (h : i < k) : (digL 2 k n).reverse.getD i 0 = ((n / 2 ^ (k - 1 - i) % 2 : Nat) : Int):=by
 rw [qE,List.getElem?_reverse (by rw [digL_len];exact h),digL_len,← qE,digL_getD _ _ _ _ (by omega)]
def wI (w : Nat) (m : List (List Int)) (n i : Nat) : List Int:=wR w (m.take i).reverse (n / 2 ^ (m.length - i))
theorem wI_zero (w : Nat) (m : List (List Int)) (n : Nat) : wI w m n 0 = List.replicate w 0:=by unfold wI;rw [qO];rfl
theorem wI_succ (w : Nat) (m : List (List Int)) (n i : Nat) (h : i < m.length) : wI w m n (i + 1) = stV (wI w m n i) (m.getD i []) (n / 2 ^ (m.length - 1 - i) % 2):=by
 unfold wI
 have e : m.getD i [] = m[i]:=by rw [qE,qB h];rfl
 rw [List.take_succ_eq_append_getElem h,List.reverse_append,List.reverse_singleton,List.singleton_append,wR,e,show m.length - (i + 1) = m.length - 1 - i by omega,Nat.div_div_eq_div_mul,← Nat.pow_succ,show (m.length - 1 - i).succ = m.length - i by omega]
theorem wI_done (w : Nat) (m : List (List Int)) (n : Nat) : wI w m n m.length = wR w m.reverse n:=by
 unfold wI;rw [List.take_length,Nat.sub_self,Nat.pow_zero,Nat.div_one]
theorem wI_len (w : Nat) (m : List (List Int)) (n i : Nat) : (wI w m n i).length = w:=wR_len _ _ _
theorem wI_bit (w : Nat) (m : List (List Int)) (n i : Nat) : Bit (wI w m n i):=wR_bit _ _ _
def Two (F1 F3 : Nat → Nat → Int) : Prop:=∀ a b,a < 2 → b < 2 → F1 a b = ((a + b : Nat) : Int) % 2 ∧ F3 a b = ((a * b : Nat) : Int)
theorem adT_two {F1 F3 : Nat → Nat → Int} (h : Two F1 F3) {xs ys : List Int} {w f : Nat} (hx : xs.length = w) (hbx : Bit xs) (hby : Bit ys) (hf : f < 2) : adT F1 F3 f xs ys w = stV xs ys f:=by
 have e0 : (w7 w).map (adX F1 F3 f xs ys) = (w7 w).map fun i=>(xs.getD i 0 + (f : Int) * ys.getD i 0) % 2:=by
  refine xC fun i _=>?_
  have h1:=hbx.getD i
  have h2:=hby.getD i
  obtain ⟨a,ha⟩:=wC h1.1
  obtain ⟨b,hb⟩:=wC h2.1
  unfold adX
  rw [ha] at h1 ⊢
  rw [hb] at h2 ⊢
  rw [wA,wA,(h f b hf (by omega)).2,wA]
  have hfb : f * b < 2:=by rcases lt_two hf with rfl|rfl <;> omega
  rw [(h a (f * b) (by omega) hfb).1]
  simp
 unfold adT
 rw [e0,List.drop_eq_nil_of_le (by omega),List.append_nil]
 rcases lt_two hf with rfl|rfl
 ·refine getD_extW (by simp [stV,hx]) fun i hi=>?_
  rw [map_range_getD _ (by simpa using hi)]
  have h1:=hbx.getD i
  unfold stV
  rw [if_pos rfl]
  omega
 ·unfold stV addV
  rw [if_neg (by omega),hx]
  refine xC fun i _=>?_
  omega
theorem encode_fn (F1 F2 F3 : Nat → Nat → Int) (m : List (List Int)) (w n : Nat) (h2 : Two F1 F3) (hk : 1 ≤ m.length ∧ m.length ≤ 32) (hw : w ≤ 100) (hm : ∀ r ∈ m,r.length = w ∧ Bit r) :
  PFn Tryz.prog f_impl_arithmetic_encode [arT 2 F1 F2 F3,ilSS m,ilS (digL 2 m.length n).reverse] (ilS (wR w m.reverse n)):=by
 intro H
 have hget : ∀ i,i < m.length → (m.getD i []).length = w ∧ Bit (m.getD i []):=fun i hi=>by
  have e : m.getD i [] = m[i]:=by rw [qE,qB hi];rfl
  rw [e];exact hm _ (List.getElem_mem _)
 have hg0:=(hget 0 (by omega)).1
 have hdl:=digL_len 2 m.length n
 have hdr : (digL 2 m.length n).reverse.length = m.length:=by rw [List.length_reverse,hdl]
 have hhi:=hi_get n m.length
 generalize hdg : (digL 2 m.length n).reverse = dg at *
 have hm0 : ¬ m.length = 0:=by omega
 unfold arT
 refine ACalls.introB s_impl_arithmetic_encode (by simp) ?_;intro hB hA;unfold c_impl_arithmetic_encode;simp (maxSteps:=1000000) (disch:=(first|omega|(simp only [go_sem];try omega))) only [go_sem,Nat.reduceAdd,Nat.reduceEqDiff,Nat.reduceLeDiff,Nat.reduceMul,Nat.reduceLT,reduceIte,Int.reduceToNat,w64_id,cast_succ]
 repeat (first|(with_reducible first|refine SW.seq ?_|refine q8 ?_|refine SW.rowC ?_|refine SW.skip ?_|refine SW.exit ?_|intro _|refine And.intro (by omega) ?_)|simp (maxSteps:=1000000) (disch:=(first|omega|(simp only [go_sem];try omega))) only [go_sem,Nat.reduceAdd,Nat.reduceEqDiff,Nat.reduceLeDiff,Nat.reduceMul,Nat.reduceLT,reduceIte,Int.reduceToNat,w64_id,cast_succ,hg0])
 rw [← wI_zero w m n]
 generalize hbx : (⟨0,tyAr,1,[I ((2 : Nat) : Int),ilSS (tabG F1 2 2),ilSS (tabG F2 2 2),ilSS (tabG F3 2 2),ilS (invL F3 2)]⟩ : Blk) = bx
 rw [hdr]
 refine SW.loopE (fun E0 H0 q E' H'=>∃ i : Nat,i ≤ m.length ∧ q = m.length - i ∧ E' = aput E0 17 (I i) ∧ H' = H ++ [bx,⟨0,2,1,(wI w m n i).map I⟩]) m.length ⟨0,by omega,by omega,rfl,rfl⟩ ?_
 rintro q E' Z ⟨i,hi,rfl,rfl,hZ⟩
 simp (maxSteps:=1000000) (disch:=(first|omega|(simp only [go_sem];try omega))) only [go_sem,Nat.reduceAdd,Nat.reduceEqDiff,Nat.reduceLeDiff,Nat.reduceMul,Nat.reduceLT,reduceIte,Int.reduceToNat,w64_id,cast_succ]
 repeat (first|(with_reducible first|refine SW.seq ?_|refine q8 ?_|refine SW.rowC ?_|refine SW.skip ?_|refine SW.exit ?_|intro _|refine And.intro (by omega) ?_)|simp (maxSteps:=1000000) (disch:=(first|omega|(simp only [go_sem];try omega))) only [go_sem,Nat.reduceAdd,Nat.reduceEqDiff,Nat.reduceLeDiff,Nat.reduceMul,Nat.reduceLT,reduceIte,Int.reduceToNat,w64_id,cast_succ,hdr])
 (first|refine SW.condD rfl (fun h3=>?_) (fun h3=>?_)|refine SW.condN rfl (fun h3=>?_) (fun h3=>?_)|refine SW.condNB rfl (fun h3=>?_) (fun h3=>?_)|refine SW.condB rfl (fun h3=>?_) (fun h3=>?_))
 ·have him : i < m.length:=by omega
  have hd:=hhi i him
  have hd2:=Nat.mod_lt (n / 2 ^ (m.length - 1 - i)) (show 0 < 2 by omega)
  have hs:=wI_succ w m n i him
  obtain ⟨hrw,hrb⟩:=hget i him
  have hwl:=wI_len w m n i
  have hwb:=wI_bit w m n i
  generalize n / 2 ^ (m.length - 1 - i) % 2 = d at *
  generalize hrow : m.getD i [] = row at *
  have hat:=adT_two h2 hwl hwb hrb hd2
  rw [← hs] at hat
  generalize wI w m n i = xs at *
  have hzb : Z[H.length]? = some bx:=by rw [hZ];simp
  have hzr : Z[H.length + 1]? = some ⟨0,2,1,xs.map I⟩:=by rw [hZ];simp
  rw [← hbx] at hzb
  have hza:=fun o=>pc_alive (off:=o) hzb
  have hzl:=fun o=>pc_ld (off:=o) hzb
  have hzs : acells Z 5 (.pc H.length 0 0) = some [I ((2 : Nat) : Int),ilSS (tabG F1 2 2),ilSS (tabG F2 2 2),ilSS (tabG F3 2 2),ilS (invL F3 2)]:=pc_lds hzb (by simp)
  have h3b : ∀ a b,a < 2 → b < 2 → 0 ≤ F3 a b ∧ F3 a b < ((2 : Nat) : Int):=fun a b ha hb=>by
   rw [(h2 a b ha hb).2]
   rcases lt_two ha with rfl|rfl <;> rcases lt_two hb with rfl|rfl <;> decide
  have hadd:=addTimes_ok Z 2 F1 F2 F3 (by omega) (H.length + 1) 0 2 w (ilS row) xs row d hzr hwl hrw hw hd2 (fun b=>rd_ilS _ _) hwb hrb h3b
  rw [hat] at hadd
  repeat (first|(with_reducible first|refine SW.seq ?_|refine q8 ?_|refine SW.rowC ?_|refine SW.skip ?_|refine SW.exit ?_|intro _|refine And.intro (by omega) ?_)|simp (maxSteps:=1000000) (disch:=(first|omega|(simp only [go_sem];try omega))) only [go_sem,Nat.reduceAdd,Nat.reduceEqDiff,Nat.reduceLeDiff,Nat.reduceMul,Nat.reduceLT,reduceIte,Int.reduceToNat,w64_id,cast_succ,hdr,hd,hrow,hza,hzl,hzs])
  refine hadd.mono ?_
  rintro v Z2 ⟨ext,rfl⟩
  have hZs : ∀ b,Z.set (H.length + 1) b = H ++ [bx,b]:=fun b=>by
   rw [hZ,List.set_append_right _ _ (by omega),Nat.add_sub_cancel_left];rfl
  have hbb : ∀ k,BB k [bx]:=fun k=>by
   rw [← hbx];(simp only [go_sem,Nat.reduceAdd,Nat.reduceEqDiff,reduceIte,go_sem,and_self,and_true,true_and,implies_true,qI,qO,and_true,true_and];try omega)
  rw [hZs]
  repeat (first|(with_reducible first|refine SW.seq ?_|refine q8 ?_|refine SW.rowC ?_|refine SW.skip ?_|refine SW.exit ?_|intro _|refine And.intro (by omega) ?_)|simp (maxSteps:=1000000) (disch:=(first|omega|(simp only [go_sem];try omega))) only [go_sem,Nat.reduceAdd,Nat.reduceEqDiff,Nat.reduceLeDiff,Nat.reduceMul,Nat.reduceLT,reduceIte,Int.reduceToNat,w64_id,cast_succ])
  refine SLoop.nextT 2 (m.length - (i + 1)) hB (by omega) (by omega) (by simp) ?_ ?_ ⟨i + 1,by omega,rfl,by simp [go_sem],by simp⟩
  ·(simp only [go_sem,Nat.reduceAdd,Nat.reduceEqDiff,reduceIte,go_sem,and_self,and_true,true_and,implies_true,qI,qO,and_true,true_and];try omega)
  ·have:=hbb (H.length + 2)
   simp only [BB_cons,BB_nil,and_true] at this
   simp only [qI,qO,BB_cons,BB_nil,and_true]
   exact ⟨this,by (simp only [go_sem,Nat.reduceAdd,Nat.reduceEqDiff,reduceIte,go_sem,and_self,and_true,true_and,implies_true,qI,qO,and_true,true_and];try omega)⟩
 ·have him : i = m.length:=by omega
  subst him
  rw [wI_done] at hZ
  subst hZ
  repeat (first|(with_reducible first|refine SW.seq ?_|refine q8 ?_|refine SW.rowC ?_|refine SW.skip ?_|refine SW.exit ?_|intro _|refine And.intro (by omega) ?_)|simp (maxSteps:=1000000) (disch:=(first|omega|(simp only [go_sem];try omega))) only [go_sem,Nat.reduceAdd,Nat.reduceEqDiff,Nat.reduceLeDiff,Nat.reduceMul,Nat.reduceLT,reduceIte,Int.reduceToNat,w64_id,cast_succ])
  refine SW.ret ?_;(try simp only [go_sem]);(first|refine FunPost.one ?_|refine FunPost.two ?_|refine qQ ?_);(try simp (maxSteps:=1000000) (disch:=(first|omega|(simp only [go_sem];try omega))) only [go_sem,Nat.reduceAdd,Nat.reduceEqDiff,Nat.reduceLeDiff,Nat.reduceMul,Nat.reduceLT,reduceIte,Int.reduceToNat,w64_id,cast_succ])
  have hfb:=froz_rowI (H:=H ++ [bx,(⟨0,2,1,(wR w m.reverse n).map I⟩ : Blk)]) (b:=H.length) (r:=H.length + 1) (ver:=0) (ty:=2) (xs:=wR w m.reverse n) (by omega) (by simp)
  rw [wR_len] at hfb
  exact GR.froz hfb ⟨rfl,rfl⟩
end Go.Proofs.YtclfmfabcnbbpaaGreat