/- sort.SliceStable at elements of k cells, whatever their number: a sorted permutation. No conditions beyond the row's length and what is asked of the two closures. -/
import Derived.Ground.GgtProg
import Derived.Test.YtipklbjbgbbgpaaGreatSShiftToPassStabS
namespace Go.Proofs.YtipklbjbgbbgpaaGreat.PStab
open Go Go.RowKit Go.Proofs.YtipklbjbgbbgpaaGreatW.PrintWords Go.Proofs.YtipklbjbgbbgpaaGreatW.PrintLast Go.Proofs.YtipklbjbgbbgpaaGreatW.PrintMore
set_option linter.unusedVariables false
set_option linter.unusedSimpArgs false
set_option linter.unusedSectionVars false
namespace stab
open Go.Shelf Go.Sort Go.Lib Go.RowKit
section
variable {α:Type} [Inhabited α] {lt:α→α→Bool}
theorem dvd_gap {bs s a:Nat} (h1:bs ∣ s) (h2:bs ∣ a) (h:s<a):s+bs≤a:=by
 obtain⟨x,rfl⟩:=h1
 obtain⟨y,rfl⟩:=h2
 have hxy:x<y:=Nat.lt_of_mul_lt_mul_left h
 have:=Nat.mul_le_mul_left bs (show x+1≤y from hxy)
 rw[Nat.mul_add,Nat.mul_one] at this
 exact this
/-- Whole runs of bs up to a. -/
def Whole (lt:α→α→Bool) (bs a:Nat) (d:Array α):Prop:=∀ s,bs ∣ s→s<a→SortedIn lt s (s+bs) d
/-- Runs of bs from a on, the last one cut at n. -/
def Runs (lt:α→α→Bool) (bs a n:Nat) (d:Array α):Prop:=∀ s,bs ∣ s→a≤s→s<n→SortedIn lt s (min (s+bs) n) d
theorem sorted_keep {a b x y:Nat} {d e:Array α} (h:SortedIn lt x y d) (p:PermIn a b d e) (hd:y≤a∨b≤x):SortedIn lt x y e:=SortedIn.congr h (fun i h1 h2=>p.2.1 i (by omega))
theorem whole_step {bs a b:Nat} {d e:Array α} (h:Whole lt bs a d) (ha:bs ∣ a) (hb:b=a+bs) (p:PermIn a b d e) (s:SortedIn lt a b e):Whole lt bs b e:=by
 intro x hx hxb
 by_cases c:x<a
 ·exact sorted_keep (h x hx c) p (.inl (dvd_gap hx ha c))
 ·by_cases c2:x=a
  ·subst c2;subst hb;exact s
  ·have:=dvd_gap ha hx (by omega)
   omega
theorem whole_last {bs a n:Nat} {d e:Array α} (h:Whole lt bs a d) (ha:bs ∣ a) (han:a≤n) (hn:n≤a+bs) (p:PermIn a n d e) (s:SortedIn lt a n e):Runs lt bs 0 n e:=by
 intro x hx _ hxn
 by_cases c:x<a
 ·have:=dvd_gap hx ha c
  rw[Nat.min_eq_left (by omega)]
  exact sorted_keep (h x hx c) p (.inl this)
 ·by_cases c2:x=a
  ·subst c2;rw[Nat.min_eq_right (by omega)];exact s
  ·have:=dvd_gap ha hx (by omega)
   omega
theorem runs_step {bs a b n:Nat} {d e:Array α} (h:Runs lt bs a n d) (hab:a≤b) (p:PermIn a b d e):Runs lt bs b n e:=fun x hx h1 h2=>sorted_keep (h x hx (by omega) h2) p (.inr h1)
theorem runs_one {bs a n:Nat} {d:Array α} (h:Runs lt bs a n d) {x y:Nat} (hx:bs ∣ x) (h1:a≤x) (h2:x<n) (hy:y=min (x+bs) n):SortedIn lt x y d:=hy ▸ h x hx h1 h2
theorem whole_zero (bs:Nat) (d:Array α):Whole lt bs 0 d:=fun _ _ h=>absurd h (Nat.not_lt_zero _)
theorem dvd_two {bs a:Nat} (h:2*bs ∣ a):bs ∣ a:=Nat.dvd_trans ⟨2,by rw[Nat.mul_comm]⟩ h
end
section
variable {α:Type} [Inhabited α] {enc:α→List Value} {k:Nat} {lt:α→α→Bool} {g:Nat} {lb:Array Value} {sf:Nat} {sb:Array Value} {blk off n:Nat}
set_option maxHeartbeats 16000000 in
set_option maxRecDepth 100000 in
theorem stable.calls (hO:SWO lt) {W:World} {d:Array α} (D:Dat enc k lt g lb sf sb blk off n W) (hH:HoldsK enc k W blk off d) (hn:d.size=n) :
  Calls Tryz.prog 74 #[.agg #[.func (.func g) #[] lb,.func (.func sf) #[] sb],.int .i64 n] W fun e w'=>e = .returned (.tuple #[])∧∃ d',SWK enc k W blk off d' w'∧PermIn 0 n d d'∧SortedIn lt 0 n d':=by
 have hsmall:=D.small
 have H1:SWK enc k W blk off d (box g lb sf sb W):=box_swk hH
 have HH:=am (H1.holds D.hblk hH rfl)
 have HB:=am (H1.lt D.hblk)
 have HD:=am (D.on H1 hn)
 have H0:=am (SWK.start HH.out)
 have HW:=am H1
 have HBK:=am D.hblk
 clear H1 D hH
 have hu:=Tryz.underlying108
 go_enter Tryz.func74,Tryz.ntmps74
 go_wp2
 go_loopw [5,6] (fun v v6 wr=>∃(a:Nat) (dk:Array α),v = .int .i64 a∧v6 = .int .i64 ((a:Int)+20)∧a≤n∧Aside0 (20 ∣ a)∧Aside0 (SWK enc k (box g lb sf sb W) blk off dk wr)∧Aside0 (Whole lt 20 a dk)∧Aside0 (PermIn 0 n d dk)) (fun v _ _=>n - (intOf v).toNat)
 case atStart=>exact⟨0,d,rfl,by first|rfl|(congr 1;done)|(congr 1;omega),by omega,⟨⟨0,rfl⟩⟩,H0,⟨whole_zero _ _⟩,⟨permIn_refl _ _ _⟩⟩
 case round =>
  clear H0
  obtain⟨a,dk,rfl,rfl,han,HV,HS,HR,HP⟩:=hrel
  have hds:dk.size=n:=HP.out.1.trans hn
  obtain⟨c0,c1⟩:=box_cells HBK.out HS.out
  by_cases e:a+20≤n
  ·have ez:(a:Int)+20≤(n:Int):=by omega
   have hc:=insSort.calls hO (HD.out.on HS.out hds) (HS.out.holds HB.out HH.out (by omega)) hds a (a+20) (by omega) e
   rw[show((a+20:Nat):Int)=(a:Int)+20 by omega] at hc
   have HC:=am hc
   clear hc
   go_wp2_with (go_at_call 100;refine HC.out.mono ?_;rintro e w1 ⟨rfl,d1,q1,q2,q3⟩)
   go_roundw
   case rel=>exact⟨a+20,d1,by first|rfl|(congr 1;done)|(congr 1;omega),by first|rfl|(congr 1;done)|(congr 1;omega),by omega,⟨by have:=HV.out;omega⟩,⟨swk_comp HS.out HB.out q1 q2.1⟩,⟨whole_step HR.out HV.out rfl q2 q3⟩,⟨permIn_trans _ _ _ _ _ HP.out (permIn_mono _ _ _ _ _ _ (by omega) e (by omega) q2)⟩⟩
   case measure=>first|(simp [intOf];done)|(simp [intOf];omega)
  ·have ez:¬ ((a:Int)+20≤(n:Int)):=by omega
   have hc:=insSort.calls hO (HD.out.on HS.out hds) (HS.out.holds HB.out HH.out (by omega)) hds a n han (Nat.le_refl _)
   have HC:=am hc
   clear hc
   go_wp2_with (go_at_call 100;refine HC.out.mono ?_;rintro e w1 ⟨rfl,d1,q1,q2,q3⟩)
   have HS1:=am (swk_comp HS.out HB.out q1 q2.1)
   have HP1:=am (permIn_trans _ _ _ _ _ HP.out (permIn_mono _ _ _ _ _ _ (Nat.zero_le a) (Nat.le_refl n) (by omega) q2))
   have HR1:=am (whole_last HR.out HV.out han (by omega) q2 q3)
   clear HC HS HP HR c0 c1 q1 q2 q3
   go_loopw [4] (fun v wr=>∃(bs:Nat) (dk:Array α),v = .int .i64 bs∧20≤bs∧bs≤2*n+20∧Aside0 (SWK enc k (box g lb sf sb W) blk off dk wr)∧Aside0 (Runs lt bs 0 n dk)∧Aside0 (PermIn 0 n d dk)) (fun v _=>n - (intOf v).toNat)
   case atStart=>exact⟨20,d1,rfl,by omega,by omega,HS1,HR1,HP1⟩
   case round =>
    clear HS1 HR1 HP1 hds
    obtain⟨bs,dk,rfl,hb1,hb2,HS,HR,HP⟩:=hrel
    have hds:dk.size=n:=HP.out.1.trans hn
    obtain⟨c0,c1⟩:=box_cells HBK.out HS.out
    by_cases e2:bs<n
    ·have e2z:(bs:Int)<(n:Int):=by omega
     go_wp2
     go_loopw [5,6] (fun v v6 wq=>∃(a:Nat) (dj:Array α),v = .int .i64 a∧v6 = .int .i64 ((a:Int)+2*(bs:Int))∧a≤n∧Aside0 (2*bs ∣ a)∧Aside0 (SWK enc k (box g lb sf sb W) blk off dj wq)∧Aside0 (Whole lt (2*bs) a dj)∧Aside0 (Runs lt bs a n dj)∧Aside0 (PermIn 0 n d dj)) (fun v _ _=>n - (intOf v).toNat)
     case atStart=>exact⟨0,dk,rfl,by first|rfl|(congr 1;done)|(congr 1;omega),by omega,⟨⟨0,rfl⟩⟩,HS,⟨whole_zero _ _⟩,HR,HP⟩
     case round =>
      clear HS HR HP hds c0 c1
      obtain⟨a,dj,rfl,rfl,han,HV,HS,HWH,HR,HP⟩:=hrel
      have hds:dj.size=n:=HP.out.1.trans hn
      obtain⟨c0,c1⟩:=box_cells HBK.out HS.out
      by_cases e3:a+2*bs≤n
      ·have e3z:(a:Int)+2*(bs:Int)≤(n:Int):=by omega
       have hc:=symMerge.calls hO (2*bs) (HD.out.on HS.out hds) (HS.out.holds HB.out HH.out (by omega)) hds a (a+bs) (a+2*bs) (by omega) (by omega) (by omega) e3 (runs_one HR.out (dvd_two HV.out) (Nat.le_refl _) (by omega) (by omega)) (runs_one HR.out (Nat.dvd_add (dvd_two HV.out) (Nat.dvd_refl _)) (by omega) (by omega) (by omega))
       rw[show((a+bs:Nat):Int)=(a:Int)+(bs:Int) by omega,show((a+2*bs:Nat):Int)=(a:Int)+2*(bs:Int) by omega] at hc
       have HC:=am hc
       clear hc
       go_wp2_with (go_at_call 101;refine HC.out.mono ?_;rintro e w1 ⟨rfl,d2,q1,q2,q3⟩)
       go_roundw
       case rel=>exact⟨a+2*bs,d2,by first|rfl|(congr 1;done)|(congr 1;omega),by first|rfl|(congr 1;done)|(congr 1;omega),by omega,⟨Nat.dvd_add HV.out (Nat.dvd_refl _)⟩,⟨swk_comp HS.out HB.out q1 q2.1⟩,⟨whole_step HWH.out HV.out rfl q2 q3⟩,⟨runs_step HR.out (by omega) q2⟩,⟨permIn_trans _ _ _ _ _ HP.out (permIn_mono _ _ _ _ _ _ (by omega) e3 (by omega) q2)⟩⟩
       case measure=>first|(simp [intOf];done)|(simp [intOf];omega)
      ·have e3z:¬ ((a:Int)+2*(bs:Int)≤(n:Int)):=by omega
       by_cases e4:a+bs<n
       ·have e4z:(a:Int)+(bs:Int)<(n:Int):=by omega
        have hc:=symMerge.calls hO (2*bs) (HD.out.on HS.out hds) (HS.out.holds HB.out HH.out (by omega)) hds a (a+bs) n (by omega) (by omega) e4 (Nat.le_refl _) (runs_one HR.out (dvd_two HV.out) (Nat.le_refl _) (by omega) (by omega)) (runs_one HR.out (Nat.dvd_add (dvd_two HV.out) (Nat.dvd_refl _)) (by omega) (by omega) (by omega))
        rw[show((a+bs:Nat):Int)=(a:Int)+(bs:Int) by omega] at hc
        have HC:=am hc
        clear hc
        go_wp2_with (go_at_call 101;refine HC.out.mono ?_;rintro e w1 ⟨rfl,d2,q1,q2,q3⟩)
        go_roundw
        case rel=>exact⟨2*bs,d2,by first|rfl|(congr 1;done)|(congr 1;omega),by omega,by omega,⟨swk_comp HS.out HB.out q1 q2.1⟩,⟨whole_last HWH.out HV.out han (by omega) q2 q3⟩,⟨permIn_trans _ _ _ _ _ HP.out (permIn_mono _ _ _ _ _ _ (by omega) (Nat.le_refl _) (by omega) q2)⟩⟩
        case measure=>first|(simp [intOf];done)|(simp [intOf];omega)
       ·have e4z:¬ ((a:Int)+(bs:Int)<(n:Int)):=by omega
        have hso:SortedIn lt a n dj:=by
         by_cases hz:a<n
         ·exact runs_one HR.out (dvd_two HV.out) (Nat.le_refl _) hz (by omega)
         ·exact fun i j _ _ _=>by omega
        have HSO:=am hso
        clear hso
        go_wp2
        go_roundw
        case rel=>exact⟨2*bs,dj,by first|rfl|(congr 1;done)|(congr 1;omega),by omega,by omega,HS,⟨whole_last HWH.out HV.out han (by omega) (permIn_refl _ _ _) HSO.out⟩,HP⟩
        case measure=>first|(simp [intOf];done)|(simp [intOf];omega)
    ·have e2z:¬ ((bs:Int)<(n:Int)):=by omega
     go_wp2
     go_end0
     exact⟨rfl,dk,swk_comp HW.out HBK.out HS.out (by omega),HP.out,(by
      by_cases hz:n=0
      ·exact fun i j _ _ _=>by omega
      ·exact runs_one HR.out (Nat.dvd_zero _) (Nat.le_refl _) (by omega) (by omega))⟩
end
end stab
end Go.Proofs.YtipklbjbgbbgpaaGreat.PStab
