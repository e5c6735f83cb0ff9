/- sort.SliceStable, the plain part: what its steps do to an array. No conditions beyond the array's length. -/
import Derived.Sort.LotA
import Derived.Sort.LotD2
namespace Go.Proofs.YtipklbjbgbbgpaaGreat.PStab
open Go
set_option linter.unusedSectionVars false
namespace stab
open Go.Sort
variable {α:Type} [Inhabited α] {lt:α→α→Bool}
/-- Blocks of n from a and from b exchanged. -/
def SwapR (a b n:Nat) (d d':Array α):Prop:=d'.size=d.size∧∀ t,d'[t]! = if a≤t∧t<a+n then d[t - a+b]! else if b≤t∧t<b+n then d[t - b+a]! else d[t]!
theorem swapR_zero (a b:Nat) (d:Array α):SwapR a b 0 d d:=⟨rfl,fun t=>by rw[if_neg (by omega),if_neg (by omega)]⟩
theorem swapR_step {a b i:Nat} {d e:Array α} (h:SwapR a b i d e) (hab:a+i<b) (hb:b+i<d.size):SwapR a b (i+1) d (swp e (a+i) (b+i)):=by
 refine⟨by rw[size_swp];exact h.1,fun t=>?_⟩
 have hs:=h.1
 rw[swp_get e (by omega) (by omega),h.2,h.2,h.2]
 repeat' split
 all_goals first|(exfalso;omega)|rfl|(congr 1;omega)
/-- The parts from a to m and from m to b exchanged. -/
def Rot (a m b:Nat) (d d':Array α):Prop:=d'.size=d.size∧∀ t,d'[t]! = if a≤t∧t<b then(if t<a+(b - m) then d[t - a+m]! else d[t - (b - m)]!) else d[t]!
theorem rot_left {a m b:Nat} {d e e':Array α} {j:Nat} (hj:b=m+j) (h1:a+j<m) (h:SwapR a m j d e) (h':Rot (a+j) m b e e'):Rot a m b d e':=by
 refine⟨h'.1.trans h.1,fun t=>?_⟩
 rw[h'.2,h.2,h.2,h.2]
 repeat' split
 all_goals first|(exfalso;omega)|rfl|(congr 1;omega)
theorem rot_right {a m b:Nat} {d e e':Array α} {i:Nat} (hi:m=a+i) (h1:m<b - i) (h:SwapR a (b - i) i d e) (h':Rot a m (b - i) e e'):Rot a m b d e':=by
 refine⟨h'.1.trans h.1,fun t=>?_⟩
 rw[h'.2,h.2,h.2,h.2]
 repeat' split
 all_goals first|(exfalso;omega)|rfl|(congr 1;omega)
theorem rot_last {a m b:Nat} {d e:Array α} {i:Nat} (hi:m=a+i) (hb:b=m+i) (h:SwapR a m i d e):Rot a m b d e:=by
 refine⟨h.1,fun t=>?_⟩
 rw[h.2]
 repeat' split
 all_goals first|(exfalso;omega)|rfl|(congr 1;omega)
theorem rot_id_left {a b:Nat} (d:Array α):Rot a a b d d:=⟨rfl,fun t=>by
 repeat' split
 all_goals first|(exfalso;omega)|rfl|(congr 1;omega)⟩
theorem rot_id_right {a b:Nat} (d:Array α):Rot a b b d d:=⟨rfl,fun t=>by
 repeat' split
 all_goals first|(exfalso;omega)|rfl|(congr 1;omega)⟩
/-- The first element carried up to place k. -/
def Up (a k:Nat) (d d':Array α):Prop:=d'.size=d.size∧∀ t,d'[t]! = if t=k then d[a]! else if a≤t∧t<k then d[t+1]! else d[t]!
theorem up_zero (a:Nat) (d:Array α):Up a a d d:=⟨rfl,fun t=>by
 repeat' split
 all_goals first|(exfalso;omega)|(subst_vars;rfl)|rfl⟩
theorem up_step {a k:Nat} {d e:Array α} (h:Up a k d e) (hk:a≤k) (hs:k+1<d.size):Up a (k+1) d (swp e k (k+1)):=by
 refine⟨by rw[size_swp];exact h.1,fun t=>?_⟩
 have hz:=h.1
 rw[swp_get e (by omega) (by omega),h.2,h.2,h.2]
 repeat' split
 all_goals first|(exfalso;omega)|rfl|(congr 1;omega)
/-- The element at m carried down to place k. -/
def Down (m k:Nat) (d d':Array α):Prop:=d'.size=d.size∧∀ t,d'[t]! = if t=k then d[m]! else if k<t∧t≤m then d[t - 1]! else d[t]!
theorem down_zero (m:Nat) (d:Array α):Down m m d d:=⟨rfl,fun t=>by
 repeat' split
 all_goals first|(exfalso;omega)|(subst_vars;rfl)|rfl⟩
theorem down_step {m k:Nat} {d e:Array α} (h:Down m (k+1) d e) (hk:k+1≤m) (hs:m<d.size):Down m k d (swp e (k+1) k):=by
 refine⟨by rw[size_swp];exact h.1,fun t=>?_⟩
 have hz:=h.1
 rw[swp_get e (by omega) (by omega),h.2,h.2,h.2]
 repeat' split
 all_goals first|(exfalso;omega)|rfl|(congr 1;omega)
theorem ge_of (hO:SWO lt) {x y z:α} (h1:lt x y=false) (h2:lt x z=true):lt y z=true:=by
 cases h:lt y z with
 | true=>rfl
 | false=>rw[hO.ntrans x y z h1 h] at h2;cases h2
theorem lt_of (hO:SWO lt) {x y z:α} (h1:lt x y=true) (h2:lt z y=false):lt x z=true:=by
 cases h:lt x z with
 | true=>rfl
 | false=>rw[hO.ntrans x z y h h2] at h1;cases h1
/-- All below i are less than x, none from j on. -/
def Find1 (lt:α→α→Bool) (d:Array α) (a m b i j:Nat):Prop:=m≤i∧i≤j∧j≤b∧(∀ t,m≤t→t<i→lt d[t]! d[a]! = true)∧∀ t,j≤t→t<b→lt d[t]! d[a]! = false
theorem find1_true (hO:SWO lt) {d:Array α} {a m b i j h:Nat} (hs:SortedIn lt m b d) (hf:Find1 lt d a m b i j) (hi:i≤h) (hj:h<j) (hl:lt d[h]! d[a]! = true):Find1 lt d a m b (h+1) j:=by
 obtain⟨f1,f2,f3,f4,f5⟩:=hf
 refine⟨by omega,by omega,f3,fun t h1 h2=>?_,f5⟩
 by_cases e:t=h
 ·rw[e];exact hl
 ·exact ge_of hO (hs t h h1 (by omega) (by omega)) hl
theorem find1_false (hO:SWO lt) {d:Array α} {a m b i j h:Nat} (hs:SortedIn lt m b d) (hf:Find1 lt d a m b i j) (hi:i≤h) (hj:h<j) (hl:lt d[h]! d[a]! = false):Find1 lt d a m b i h:=by
 obtain⟨f1,f2,f3,f4,f5⟩:=hf
 refine⟨f1,hi,by omega,f4,fun t h1 h2=>?_⟩
 by_cases e:t=h
 ·rw[e];exact hl
 ·exact hO.ntrans _ _ _ (hs h t (by omega) (by omega) h2) hl
/-- x is not less than any below i, and less than all from j on. -/
def Find2 (lt:α→α→Bool) (d:Array α) (a m i j:Nat):Prop:=a≤i∧i≤j∧j≤m∧(∀ t,a≤t→t<i→lt d[m]! d[t]! = false)∧∀ t,j≤t→t<m→lt d[m]! d[t]! = true
theorem find2_false (hO:SWO lt) {d:Array α} {a m i j h:Nat} (hs:SortedIn lt a m d) (hf:Find2 lt d a m i j) (hi:i≤h) (hj:h<j) (hl:lt d[m]! d[h]! = false):Find2 lt d a m (h+1) j:=by
 obtain⟨f1,f2,f3,f4,f5⟩:=hf
 refine⟨by omega,by omega,f3,fun t h1 h2=>?_,f5⟩
 by_cases e:t=h
 ·rw[e];exact hl
 ·exact hO.ntrans _ _ _ hl (hs t h h1 (by omega) (by omega))
theorem find2_true (hO:SWO lt) {d:Array α} {a m i j h:Nat} (hs:SortedIn lt a m d) (hf:Find2 lt d a m i j) (hi:i≤h) (hj:h<j) (hl:lt d[m]! d[h]! = true):Find2 lt d a m i h:=by
 obtain⟨f1,f2,f3,f4,f5⟩:=hf
 refine⟨f1,hi,by omega,f4,fun t h1 h2=>?_⟩
 by_cases e:t=h
 ·rw[e];exact hl
 ·exact lt_of hO hl (hs h t (by omega) (by omega) h2)
/-- The cut of both halves: c's fellow is p - c. -/
def Find3 (lt:α→α→Bool) (d:Array α) (p lo hi i j:Nat):Prop:=lo≤i∧i≤j∧j≤hi∧(∀ c,lo≤c→c<i→lt d[p - c]! d[c]! = false)∧∀ c,j≤c→c<hi→lt d[p - c]! d[c]! = true
theorem find3_false (hO:SWO lt) {d:Array α} {a m b p lo hi i j h:Nat} (h1:SortedIn lt a m d) (h2:SortedIn lt m b d) (hr:∀ c,lo≤c→c<hi→a≤c∧c<m∧c≤p∧m≤p - c∧p - c<b) (hf:Find3 lt d p lo hi i j) (hi':i≤h) (hj:h<j) (hl:lt d[p - h]! d[h]! = false):Find3 lt d p lo hi (h+1) j:=by
 obtain⟨f1,f2,f3,f4,f5⟩:=hf
 refine⟨by omega,by omega,f3,fun t g1 g2=>?_,f5⟩
 have r1:=hr t g1 (by omega)
 have r2:=hr h (by omega) (by omega)
 by_cases e:t=h
 ·rw[e];exact hl
 ·exact hO.ntrans _ _ _ (h2 (p - h) (p - t) (by omega) (by omega) (by omega)) (hO.ntrans _ _ _ hl (h1 t h (by omega) (by omega) (by omega)))
theorem find3_true (hO:SWO lt) {d:Array α} {a m b p lo hi i j h:Nat} (h1:SortedIn lt a m d) (h2:SortedIn lt m b d) (hr:∀ c,lo≤c→c<hi→a≤c∧c<m∧c≤p∧m≤p - c∧p - c<b) (hf:Find3 lt d p lo hi i j) (hi':i≤h) (hj:h<j) (hl:lt d[p - h]! d[h]! = true):Find3 lt d p lo hi i h:=by
 obtain⟨f1,f2,f3,f4,f5⟩:=hf
 refine⟨f1,hi',by omega,f4,fun t g1 g2=>?_⟩
 have r1:=hr t (by omega) g2
 have r2:=hr h (by omega) (by omega)
 by_cases e:t=h
 ·rw[e];exact hl
 ·exact lt_of hO (ge_of hO (h2 (p - t) (p - h) (by omega) (by omega) (by omega)) hl) (h1 h t (by omega) (by omega) (by omega))
theorem up_sorted (hO:SWO lt) {a b i:Nat} {d e:Array α} (hs:SortedIn lt (a+1) b d) (hf:Find1 lt d a (a+1) b i i) (h:Up a (i - 1) d e):SortedIn lt a b e:=by
 obtain⟨f1,_,f3,f4,f5⟩:=hf
 intro x y h1 h2 h3
 rw[h.2,h.2]
 have key:∀ u v,a+1≤u→u<v→v<b→lt d[v]! d[u]! = false:=fun u v=>hs u v
 by_cases ey:y=i - 1
 ·rw[if_pos ey,if_neg (by omega),if_pos (by omega)]
  exact hO.asymmA (f4 (x+1) (by omega) (by omega))
 ·rw[if_neg ey]
  by_cases ex:x=i - 1
  ·rw[if_pos ex,if_neg (by omega)]
   exact f5 y (by omega) h3
  ·rw[if_neg ex]
   by_cases hy:a≤y∧y<i - 1
   ·rw[if_pos hy,if_pos (by omega)]
    exact key _ _ (by omega) (by omega) (by omega)
   ·rw[if_neg hy]
    by_cases hx:a≤x∧x<i - 1
    ·rw[if_pos hx]
     exact key _ _ (by omega) (by omega) (by omega)
    ·rw[if_neg hx]
     exact key _ _ (by omega) (by omega) (by omega)
theorem down_sorted (hO:SWO lt) {a m i:Nat} {d e:Array α} (hs:SortedIn lt a m d) (hf:Find2 lt d a m i i) (h:Down m i d e):SortedIn lt a (m+1) e:=by
 obtain⟨f1,_,f3,f4,f5⟩:=hf
 intro x y h1 h2 h3
 rw[h.2,h.2]
 by_cases ey:y=i
 ·rw[if_pos ey,if_neg (by omega),if_neg (by omega)]
  exact f4 x h1 (by omega)
 ·rw[if_neg ey]
  by_cases ex:x=i
  ·rw[if_pos ex,if_pos (by omega)]
   exact hO.asymmA (f5 (y - 1) (by omega) (by omega))
  ·rw[if_neg ex]
   by_cases hx:i<x∧x≤m
   ·rw[if_pos hx,if_pos (by omega)]
    exact hs _ _ (by omega) (by omega) (by omega)
   ·rw[if_neg hx]
    by_cases hy:i<y∧y≤m
    ·rw[if_pos hy]
     exact hs _ _ (by omega) (by omega) (by omega)
    ·rw[if_neg hy]
     exact hs _ _ (by omega) (by omega) (by omega)
/-- Behind the exchange of the middle parts: four sorted parts, and nothing in the right half is less than anything in the left one. -/
theorem cut_sorted (hO:SWO lt) {a m b mid st en:Nat} {d e:Array α} (h1:SortedIn lt a m d) (h2:SortedIn lt m b d) (hst:a≤st) (hsm:st≤m) (hen:m≤en) (heb:en≤b) (hmid:en+st=mid+m)
  (hlo:st=a∨en=b∨lt d[en]! d[st - 1]! = false) (hhi:st=m∨en=m∨lt d[en - 1]! d[st]! = true) (h:Rot st m en d e) :
  SortedIn lt a st e∧SortedIn lt st mid e∧SortedIn lt mid en e∧SortedIn lt en b e∧∀ x y,a≤x→x<mid→mid≤y→y<b→lt e[y]! e[x]! = false:=by
 have le1:∀ u v,a≤u→u≤v→v<m→lt d[v]! d[u]! = false:=fun u v g1 g2 g3=>by
  by_cases q:u=v
  ·subst q;exact hO.irrefl _
  ·exact h1 u v g1 (by omega) g3
 have le2:∀ u v,m≤u→u≤v→v<b→lt d[v]! d[u]! = false:=fun u v g1 g2 g3=>by
  by_cases q:u=v
  ·subst q;exact hO.irrefl _
  ·exact h2 u v g1 (by omega) g3
 have r1:∀ t,a≤t→t<st→e[t]! = d[t]! := fun t _ _=>by rw[h.2,if_neg (by omega)]
 have r2:∀ t,st≤t→t<mid→e[t]! = d[t - st+m]! := fun t _ _=>by rw[h.2,if_pos (by omega),if_pos (by omega)]
 have r3:∀ t,mid≤t→t<en→e[t]! = d[t - (en - m)]! := fun t _ _=>by rw[h.2,if_pos (by omega),if_neg (by omega)]
 have r4:∀ t,en≤t→t<b→e[t]! = d[t]! := fun t _ _=>by rw[h.2,if_neg (by omega)]
 refine⟨fun x y g1 g2 g3=>?_,fun x y g1 g2 g3=>?_,fun x y g1 g2 g3=>?_,fun x y g1 g2 g3=>?_,fun x y g1 g2 g3 g4=>?_⟩
 ·rw[r1 x g1 (by omega),r1 y (by omega) g3];exact le1 _ _ (by omega) (by omega) (by omega)
 ·rw[r2 x g1 (by omega),r2 y (by omega) g3];exact le2 _ _ (by omega) (by omega) (by omega)
 ·rw[r3 x g1 (by omega),r3 y (by omega) g3];exact le1 _ _ (by omega) (by omega) (by omega)
 ·rw[r4 x g1 (by omega),r4 y (by omega) g3];exact le2 _ _ (by omega) (by omega) (by omega)
 ·by_cases c1:x<st
  ·rw[r1 x g1 c1]
   by_cases c2:y<en
   ·rw[r3 y g3 c2];exact le1 _ _ (by omega) (by omega) (by omega)
   ·rw[r4 y (by omega) g4]
    rcases hlo with q|q|q
    ·omega
    ·omega
    ·exact hO.ntrans _ _ _ (le2 en y hen (by omega) g4) (hO.ntrans _ _ _ q (le1 x (st - 1) g1 (by omega) (by omega)))
  ·rw[r2 x (by omega) g2]
   by_cases c2:y<en
   ·rw[r3 y g3 c2]
    rcases hhi with q|q|q
    ·omega
    ·omega
    ·exact hO.ntrans _ _ _ (le1 st _ hst (by omega) (by omega)) (hO.ntrans _ _ _ (hO.asymmA q) (le2 _ (en - 1) (by omega) (by omega) (by omega)))
   ·rw[r4 y (by omega) g4];exact le2 _ _ (by omega) (by omega) (by omega)
/-- Two halves, each sorted anew. -/
theorem halves {a mid b:Nat} {e e1 e2:Array α} (hb:b≤e.size) (hab:a≤mid) (hmb:mid≤b) (hx:∀ x y,a≤x→x<mid→mid≤y→y<b→lt e[y]! e[x]! = false) (p1:PermIn a mid e e1) (s1:SortedIn lt a mid e1) (p2:PermIn mid b e1 e2) (s2:SortedIn lt mid b e2):PermIn a b e e2∧SortedIn lt a b e2:=by
 have z1:e1.size=e.size:=p1.1
 refine⟨permIn_trans _ _ _ _ _ (permIn_mono _ _ _ _ _ _ (Nat.le_refl _) hmb hb p1) (permIn_mono _ _ _ _ _ _ hab (Nat.le_refl _) (by omega) p2),fun x y g1 g2 g3=>?_⟩
 have k2:∀ u v,a≤u→u<mid→mid≤v→v<b→lt e2[v]! e2[u]! = false:=by
  intro u v q1 q2 q3 q4
  rw[p2.2.1 u (.inl q2)]
  refine permIn_all e1 e2 mid b (fun z=>lt z e1[u]! = false) (by omega) p2 (fun y' w1 w2=>?_) v q3 q4
  rw[p1.2.1 y' (.inr w1)]
  exact permIn_all e e1 a mid (fun z=>lt e[y']! z=false) (by omega) p1 (fun x' w3 w4=>hx x' y' w3 w4 w1 w2) u q1 q2
 by_cases c1:y<mid
 ·rw[p2.2.1 x (.inl (by omega)),p2.2.1 y (.inl c1)]
  exact s1 x y g1 g2 c1
 ·by_cases c2:x<mid
  ·exact k2 x y g1 c2 (by omega) g3
  ·exact s2 x y (by omega) g2 g3
/-- Where the cut is looked for: a half's own place. -/
def Half (a m b mid lo hi:Nat):Prop:=(mid<m∧lo=mid+m - b∧hi=mid)∨(m≤mid∧lo=a∧hi=m)
theorem half_range {a m b mid lo hi:Nat} (ham:a<m) (hmb:m<b) (hmid:mid=(a+b) / 2) (h:Half a m b mid lo hi):lo≤hi∧∀ c,lo≤c→c<hi→a≤c∧c<m∧c≤mid+m - 1∧m≤mid+m - 1 - c∧mid+m - 1 - c<b:=by
 rcases h with⟨h1,rfl,rfl⟩|⟨h1,rfl,rfl⟩
 ·exact⟨by omega,fun c _ _=>by omega⟩
 ·exact⟨by omega,fun c _ _=>by omega⟩
theorem cut_ends {a m b mid lo hi st en:Nat} {d:Array α} (ham:a<m) (hmb:m<b) (hmid:mid=(a+b) / 2) (h:Half a m b mid lo hi) (hf:Find3 lt d (mid+m - 1) lo hi st st) (hen:en=mid+m - st) :
  a≤st∧st≤m∧st≤mid∧m≤en∧mid≤en∧en≤b∧en+st=mid+m∧(st=a∨en=b∨lt d[en]! d[st - 1]! = false)∧(st=m∨en=m∨lt d[en - 1]! d[st]! = true):=by
 obtain⟨f1,_,f3,f4,f5⟩:=hf
 have hlo:st=lo∨lt d[en]! d[st - 1]! = false:=by
  by_cases e:st=lo
  ·exact .inl e
  ·have:=f4 (st - 1) (by omega) (by omega)
   rw[show mid+m - 1 - (st - 1)=en by omega] at this
   exact .inr this
 have hhi:st=hi∨lt d[en - 1]! d[st]! = true:=by
  by_cases e:st=hi
  ·exact .inl e
  ·have:=f5 st (Nat.le_refl _) (by omega)
   rw[show mid+m - 1 - st=en - 1 by omega] at this
   exact .inr this
 rcases h with⟨h1,rfl,rfl⟩|⟨h1,rfl,rfl⟩
 ·exact⟨by omega,by omega,by omega,by omega,by omega,by omega,by omega,by rcases hlo with q|q;exact .inr (.inl (by omega));exact .inr (.inr q),by rcases hhi with q|q;exact .inr (.inl (by omega));exact .inr (.inr q)⟩
 ·exact⟨by omega,by omega,by omega,by omega,by omega,by omega,by omega,by rcases hlo with q|q;exact .inl q;exact .inr (.inr q),by rcases hhi with q|q;exact .inl q;exact .inr (.inr q)⟩
theorem rot_none {st m en:Nat} (d:Array α) (h1:st≤m) (h2:m≤en) (h:¬ (st<m∧m<en)):Rot st m en d d:=by
 by_cases e:st=m
 ·subst e;exact rot_id_left d
 ·have e2:en=m:=by omega
  subst e2;exact rot_id_right d
theorem left_none {a st mid:Nat} {d:Array α} (h1:SortedIn lt a st d) (h2:SortedIn lt st mid d) (ha:a≤st) (hm:st≤mid) (h:¬ (a<st∧st<mid)):SortedIn lt a mid d:=by
 by_cases e:a=st
 ·subst e;exact h2
 ·have e2:st=mid:=by omega
  subst e2;exact h1
end stab
end Go.Proofs.YtipklbjbgbbgpaaGreat.PStab
