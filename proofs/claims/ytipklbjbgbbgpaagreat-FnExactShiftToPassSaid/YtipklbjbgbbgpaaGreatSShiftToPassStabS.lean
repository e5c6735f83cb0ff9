/- sort.SliceStable: two sorted halves merged. No conditions beyond the row's length and what is asked of the two closures. -/
import Derived.Test.YtipklbjbgbbgpaaGreatSShiftToPassStabW
namespace Go.Proofs.YtipklbjbgbbgpaaGreat.PStab
open Go Go.RowKit Go.Proofs.YtipklbjbgbbgpaaGreatW.PrintWords Go.Proofs.YtipklbjbgbbgpaaGreatW.PrintLast Go.Proofs.YtipklbjbgbbgpaaGreatW.PrintMore
set_option linter.unusedVariables false
set_option linter.unusedSimpArgs false
set_option linter.unusedSectionVars false
namespace stab
open Go.Shelf Go.Sort Go.Lib Go.RowKit
variable {α:Type} [Inhabited α] {enc:α→List Value} {k:Nat} {lt:α→α→Bool} {g:Nat} {lb:Array Value} {sf:Nat} {sb:Array Value} {blk off n:Nat}
set_option maxHeartbeats 16000000 in
set_option maxRecDepth 100000 in
theorem symMerge.calls (hO:SWO lt):∀(N:Nat) {W:World} {d:Array α},Dat enc k lt g lb sf sb blk off n W→HoldsK enc k W blk off d→d.size=n→∀(a m b:Nat),b - a≤N→a<m→m<b→b≤n→SortedIn lt a m d→SortedIn lt m b d →
  Calls Tryz.prog 101 #[.agg #[.func (.func g) #[] lb,.func (.func sf) #[] sb],.int .i64 a,.int .i64 m,.int .i64 b] W fun e w'=>e = .returned (.tuple #[])∧∃ d',SWK enc k W blk off d' w'∧PermIn a b d d'∧SortedIn lt a b d':=by
 intro N
 induction N with
 | zero=>intro W d _ _ _ a m b;omega
 | succ N ih =>
 intro W d D hH hn a m b hN ham hmb hb s1 s2
 have hsmall:=D.small
 have eg:=D.eg
 have H1:SWK enc k W blk off d (box g lb sf sb W):=box_swk hH
 have HH:=am (H1.holds D.hblk hH rfl)
 have HB:=am (H1.lt D.hblk)
 have HD:=am (D.on H1 hn)
 have H0:=am (SWK.start HH.out)
 have HW:=am H1
 have HBK:=am D.hblk
 have S1:=am s1
 have S2:=am s2
 have IH:=am @ih
 clear H1 D hH s1 s2 ih
 have hu:=Tryz.underlying108
 by_cases e1:m - a=1
 ·have e1z:(m:Int) - (a:Int)=1:=by omega
  go_enter Tryz.func101,Tryz.ntmps101
  go_wp2
  go_loopw [8,9] (fun v v9 wr=>∃(i j:Nat),v = .int .i64 i∧v9 = .int .i64 j∧i≤j∧m≤i∧j≤b∧Aside0 (SWK enc k (box g lb sf sb W) blk off d wr)∧Aside0 (Find1 lt d a m b i j)) (fun v v9 _=>(intOf v9).toNat - (intOf v).toNat)
  case atStart=>exact⟨m,b,rfl,rfl,by omega,by omega,by omega,H0,⟨by omega,by omega,by omega,fun t _ _=>by omega,fun t _ _=>by omega⟩⟩
  case round =>
   clear H0
   obtain⟨i,j,rfl,rfl,hij,hmi,hjb,HS,HF⟩:=hrel
   obtain⟨c0,c1⟩:=box_cells HBK.out HS.out
   by_cases e:i<j
   ·have ez:(i:Int)<(j:Int):=by omega
    obtain⟨h,hh⟩:∃ h,h=(i+j) / 2:=⟨_,rfl⟩
    have hl:=HD.out.less wr d HS.out hn h a (by omega) (by omega)
    rw[show((h:Nat):Int)=((i:Int)+(j:Int)) / 2 by omega] at hl
    cases hlv:lt d[h]! d[a]! with
    | true =>
     rw[hlv] at hl
     have HLV:=am hlv
     clear hlv
     go_wp2_with (go_at_fn g;refine hl.mono ?_;rintro e w' ⟨rfl,hq⟩)
     go_roundw
     case rel=>exact⟨h+1,j,by first|rfl|(congr 1;done)|(congr 1;omega),rfl,by omega,by omega,by omega,⟨swk_comp HS.out HB.out hq rfl⟩,⟨find1_true hO S2.out HF.out (by omega) (by omega) HLV.out⟩⟩
     case measure=>first|(simp [intOf];done)|(simp [intOf];omega)
    | false =>
     rw[hlv] at hl
     have HLV:=am hlv
     clear hlv
     go_wp2_with (go_at_fn g;refine hl.mono ?_;rintro e w' ⟨rfl,hq⟩)
     go_roundw
     case rel=>exact⟨i,h,rfl,by first|rfl|(congr 1;done)|(congr 1;omega),by omega,by omega,by omega,⟨swk_comp HS.out HB.out hq rfl⟩,⟨find1_false hO S2.out HF.out (by omega) (by omega) HLV.out⟩⟩
     case measure=>first|(simp [intOf];done)|(simp [intOf];omega)
   ·have ez:¬ ((i:Int)<(j:Int)):=by omega
    have ej:i=j:=by omega
    subst ej
    go_wp2
    go_loopw [11] (fun v wq=>∃(c:Nat) (dk:Array α),v = .int .i64 c∧a≤c∧c≤i - 1∧Aside0 (SWK enc k (box g lb sf sb W) blk off dk wq)∧Aside0 (Up a c d dk)∧Aside0 (PermIn a b d dk)) (fun v _=>i - (intOf v).toNat)
    case atStart=>exact⟨a,d,rfl,by omega,by omega,HS,⟨up_zero a d⟩,⟨permIn_refl _ _ _⟩⟩
    case round =>
     clear c0 c1 HS
     obtain⟨c,dk,rfl,hac,hci,HS,HU,HP⟩:=hrel
     obtain⟨c0,c1⟩:=box_cells HBK.out HS.out
     have hds:dk.size=n:=HP.out.1.trans hn
     by_cases ec:c<i - 1
     ·have ecz:(c:Int)<(i:Int) - 1:=by omega
      have hs:=HD.out.swap wr dk (HS.out.holds HB.out HH.out (by omega)) hds c (c+1) (by omega) (by omega)
      have hw:=HS.out.swap HD.out.hk HB.out c (c+1) (by omega) (by omega)
      obtain⟨w2,hw2⟩:∃ w2,w2=(wr.setCells blk (off+c*k) (enc dk[c+1]!)).setCells blk (off+(c+1)*k) (enc dk[c]!):=⟨_,rfl⟩
      rw[← hw2] at hs hw
      have HS2:=am hw
      clear hw hw2
      rw[show((c+1:Nat):Int)=(c:Int)+1 by omega] at hs
      go_wp2
      go_roundw
      case rel=>exact⟨c+1,_,by congr 1,by omega,by omega,HS2,⟨up_step HU.out hac (by omega)⟩,⟨permIn_trans _ _ _ _ _ HP.out (swp_permIn _ _ _ _ _ (by omega) (by omega) (by omega) (by omega) (by omega))⟩⟩
      case measure=>first|(simp [intOf];done)|(simp [intOf];omega)
     ·have ecz:¬ ((c:Int)<(i:Int) - 1):=by omega
      have ec2:c=i - 1:=by omega
      subst ec2
      go_wp2
      first|go_end0|((try simp only[Exit.inBlock,Exit.then]);refine bodyPost_ret (results_none rfl _ _ _) rfl ?_)
      have em:m=a+1:=by omega
      subst em
      exact⟨rfl,dk,swk_comp HW.out HBK.out HS.out (by omega),HP.out,up_sorted hO S2.out HF.out HU.out⟩
 ·have e1z:¬ ((m:Int) - (a:Int)=1):=by omega
  have e1b:((m:Int) - (a:Int) == 1)=false:=by simp [e1z]
  by_cases e2:b - m=1
  ·have e2z:(b:Int) - (m:Int)=1:=by omega
   have e2b:((b:Int) - (m:Int) == 1)=true:=by simp [e2z]
   go_enter Tryz.func101,Tryz.ntmps101
   go_wp2
   (try rw[e1b])
   (try rw[e2b])
   go_loopw [12,13] (fun v v9 wr=>∃(i j:Nat),v = .int .i64 i∧v9 = .int .i64 j∧i≤j∧a≤i∧j≤m∧Aside0 (SWK enc k (box g lb sf sb W) blk off d wr)∧Aside0 (Find2 lt d a m i j)) (fun v v9 _=>(intOf v9).toNat - (intOf v).toNat)
   case atStart=>exact⟨a,m,rfl,rfl,by omega,by omega,by omega,H0,⟨by omega,by omega,by omega,fun t _ _=>by omega,fun t _ _=>by omega⟩⟩
   case round =>
    clear H0
    obtain⟨i,j,rfl,rfl,hij,hai,hjm,HS,HF⟩:=hrel
    obtain⟨c0,c1⟩:=box_cells HBK.out HS.out
    by_cases e:i<j
    ·have ez:(i:Int)<(j:Int):=by omega
     obtain⟨h,hh⟩:∃ h,h=(i+j) / 2:=⟨_,rfl⟩
     have hl:=HD.out.less wr d HS.out hn m h (by omega) (by omega)
     rw[show((h:Nat):Int)=((i:Int)+(j:Int)) / 2 by omega] at hl
     cases hlv:lt d[m]! d[h]! with
     | false =>
      rw[hlv] at hl
      have HLV:=am hlv
      clear hlv
      go_wp2_with (go_at_fn g;refine hl.mono ?_;rintro e w' ⟨rfl,hq⟩)
      go_roundw
      case rel=>exact⟨h+1,j,by first|rfl|(congr 1;done)|(congr 1;omega),rfl,by omega,by omega,by omega,⟨swk_comp HS.out HB.out hq rfl⟩,⟨find2_false hO S1.out HF.out (by omega) (by omega) HLV.out⟩⟩
      case measure=>first|(simp [intOf];done)|(simp [intOf];omega)
     | true =>
      rw[hlv] at hl
      have HLV:=am hlv
      clear hlv
      go_wp2_with (go_at_fn g;refine hl.mono ?_;rintro e w' ⟨rfl,hq⟩)
      go_roundw
      case rel=>exact⟨i,h,rfl,by first|rfl|(congr 1;done)|(congr 1;omega),by omega,by omega,by omega,⟨swk_comp HS.out HB.out hq rfl⟩,⟨find2_true hO S1.out HF.out (by omega) (by omega) HLV.out⟩⟩
      case measure=>first|(simp [intOf];done)|(simp [intOf];omega)
    ·have ez:¬ ((i:Int)<(j:Int)):=by omega
     have ej:i=j:=by omega
     subst ej
     go_wp2
     go_loopw [15] (fun v wq=>∃(c:Nat) (dk:Array α),v = .int .i64 c∧i≤c∧c≤m∧Aside0 (SWK enc k (box g lb sf sb W) blk off dk wq)∧Aside0 (Down m c d dk)∧Aside0 (PermIn a b d dk)) (fun v _=>(intOf v).toNat)
     case atStart=>exact⟨m,d,rfl,by omega,by omega,HS,⟨down_zero m d⟩,⟨permIn_refl _ _ _⟩⟩
     case round =>
      clear c0 c1 HS
      obtain⟨c,dk,rfl,hic,hcm,HS,HU,HP⟩:=hrel
      obtain⟨c0,c1⟩:=box_cells HBK.out HS.out
      have hds:dk.size=n:=HP.out.1.trans hn
      by_cases ec:i<c
      ·obtain⟨c',rfl⟩:∃ c',c=c'+1:=⟨c - 1,by omega⟩
       have ecz:(i:Int)<((c'+1:Nat):Int):=by omega
       have hs:=HD.out.swap wr dk (HS.out.holds HB.out HH.out (by omega)) hds (c'+1) c' (by omega) (by omega)
       have hw:=HS.out.swap HD.out.hk HB.out (c'+1) c' (by omega) (by omega)
       obtain⟨w2,hw2⟩:∃ w2,w2=(wr.setCells blk (off+(c'+1)*k) (enc dk[c']!)).setCells blk (off+c'*k) (enc dk[c'+1]!):=⟨_,rfl⟩
       rw[← hw2] at hs hw
       have HS2:=am hw
       clear hw hw2
       rw[show((c'+1:Nat):Int)=(c':Int)+1 by omega] at hs
       go_wp2
       go_roundw
       case rel=>exact⟨c',_,by first|rfl|(congr 1;done)|(congr 1;omega),by omega,by omega,HS2,⟨down_step HU.out hcm (by omega)⟩,⟨permIn_trans _ _ _ _ _ HP.out (swp_permIn _ _ _ _ _ (by omega) (by omega) (by omega) (by omega) (by omega))⟩⟩
       case measure=>first|(simp [intOf];done)|(simp [intOf];omega)
      ·have ecz:¬ ((i:Int)<(c:Int)):=by omega
       have ec2:c=i:=by omega
       subst ec2
       go_wp2
       first|go_end0|((try simp only[Exit.inBlock,Exit.then]);refine bodyPost_ret (results_none rfl _ _ _) rfl ?_)
       have eb:b=m+1:=by omega
       subst eb
       exact⟨rfl,dk,swk_comp HW.out HBK.out HS.out (by omega),HP.out,down_sorted hO S1.out HF.out HU.out⟩
  ·have e2z:¬ ((b:Int) - (m:Int)=1):=by omega
   have e2b:((b:Int) - (m:Int) == 1)=false:=by simp [e2z]
   obtain⟨mid,hmid⟩:∃ mid,mid=(a+b) / 2:=⟨_,rfl⟩
   have hmz:(mid:Int)=((a:Int)+(b:Int)) / 2:=by omega
   by_cases e3_:mid<m
   ·have e3:mid<m:=by assumption
    have e3z:((a:Int)+(b:Int)) / 2<(m:Int):=by omega
    have e3b:decide (((a:Int)+(b:Int)) / 2<(m:Int))=true:=by simp;omega
    obtain⟨lo,hlo⟩:∃ lo,lo=mid+m - b:=⟨_,rfl⟩
    obtain⟨hi,hhi⟩:∃ hi,hi=mid:=⟨_,rfl⟩
    have hhalf:Half a m b mid lo hi := .inl ⟨e3,hlo,hhi⟩
    have HHF:=am hhalf
    obtain⟨hlh,hr⟩:=half_range ham hmb hmid hhalf
    have HR:=am hr
    clear hhalf hr
    go_enter Tryz.func101,Tryz.ntmps101
    go_wp2
    (try rw[e1b])
    (try rw[e2b])
    (try rw[e3b])
    go_loopw [18,19] (fun v v9 wr=>∃(i j:Nat),v = .int .i64 i∧v9 = .int .i64 j∧lo≤i∧i≤j∧j≤hi∧Aside0 (SWK enc k (box g lb sf sb W) blk off d wr)∧Aside0 (Find3 lt d (mid+m - 1) lo hi i j)) (fun v v9 _=>(intOf v9).toNat - (intOf v).toNat)
    case atStart=>exact⟨lo,hi,by first|rfl|(congr 1;done)|(congr 1;omega),by first|rfl|(congr 1;done)|(congr 1;omega),by omega,by omega,by omega,H0,⟨by omega,by omega,by omega,fun t _ _=>by omega,fun t _ _=>by omega⟩⟩
    case round =>
     clear H0
     obtain⟨i,j,rfl,rfl,hli,hij,hjh,HS,HF⟩:=hrel
     obtain⟨c0,c1⟩:=box_cells HBK.out HS.out
     by_cases e:i<j
     ·have ez:(i:Int)<(j:Int):=by omega
      obtain⟨h,hh⟩:∃ h,h=(i+j) / 2:=⟨_,rfl⟩
      have hrh:=HR.out h (by omega) (by omega)
      have hl:=HD.out.less wr d HS.out hn (mid+m - 1 - h) h (by omega) (by omega)
      rw[show((mid+m - 1 - h:Nat):Int)=((a:Int)+(b:Int)) / 2+(m:Int) - 1 - ((i:Int)+(j:Int)) / 2 by omega,show((h:Nat):Int)=((i:Int)+(j:Int)) / 2 by omega] at hl
      cases hlv:lt d[mid+m - 1 - h]! d[h]! with
      | false =>
       rw[hlv] at hl
       have HLV:=am hlv
       clear hlv
       go_wp2_with (go_at_fn g;refine hl.mono ?_;rintro e w' ⟨rfl,hq⟩)
       go_roundw
       case rel=>exact⟨h+1,j,by first|rfl|(congr 1;done)|(congr 1;omega),rfl,by omega,by omega,by omega,⟨swk_comp HS.out HB.out hq rfl⟩,⟨find3_false hO S1.out S2.out HR.out HF.out (by omega) (by omega) HLV.out⟩⟩
       case measure=>first|(simp [intOf];done)|(simp [intOf];omega)
      | true =>
       rw[hlv] at hl
       have HLV:=am hlv
       clear hlv
       go_wp2_with (go_at_fn g;refine hl.mono ?_;rintro e w' ⟨rfl,hq⟩)
       go_roundw
       case rel=>exact⟨i,h,rfl,by first|rfl|(congr 1;done)|(congr 1;omega),by omega,by omega,by omega,⟨swk_comp HS.out HB.out hq rfl⟩,⟨find3_true hO S1.out S2.out HR.out HF.out (by omega) (by omega) HLV.out⟩⟩
       case measure=>first|(simp [intOf];done)|(simp [intOf];omega)
     ·have ez:¬ ((i:Int)<(j:Int)):=by omega
      have ej:i=j:=by omega
      subst ej
      obtain⟨en,hen⟩:∃ en,en=mid+m - i:=⟨_,rfl⟩
      obtain⟨g1,g2,g3,g4,g5,g6,g7,g8,g9⟩:=cut_ends ham hmb hmid HHF.out HF.out hen
      have henz:(en:Int)=((a:Int)+(b:Int)) / 2+(m:Int) - (i:Int):=by omega
      have HE:=am (And.intro g8 g9)
      clear g8 g9 HHF HR HF
      by_cases kA:i<m
      ·by_cases kB:i<mid
       ·by_cases kC:a<i
        ·by_cases kE:en<b
         ·have hza:(i:Int)<(m:Int):=by omega
          have hzb:(m:Int)<((a:Int)+(b:Int)) / 2+(m:Int) - (i:Int):=by omega
          have hzc:(a:Int)<(i:Int):=by omega
          have hzd:(i:Int)<((a:Int)+(b:Int)) / 2:=by omega
          have hze:((a:Int)+(b:Int)) / 2<((a:Int)+(b:Int)) / 2+(m:Int) - (i:Int):=by omega
          have hzf:((a:Int)+(b:Int)) / 2+(m:Int) - (i:Int)<(b:Int):=by omega
          have hrt:=rotate.calls (HD.out.on HS.out hn) (HS.out.holds HB.out HH.out rfl) hn i m en kA (by omega) (by omega)
          rw[henz] at hrt
          have HRT:=am hrt
          clear hrt
          have TOK1:=True.intro
          go_wp2_with (first|(go_at_call 108;refine HRT.out.mono ?_;rintro e w1 ⟨rfl,d1,q1,q2,q3⟩;have HS1:=am (swk_comp HS.out HB.out q1 q3.1);have HP1:=am (permIn_mono _ _ _ _ _ _ g1 g6 (by omega) q3);have HC_:=am (cut_sorted (e:=d1) hO S1.out S2.out g1 g2 g4 g6 g7 HE.out.1 HE.out.2 q2);have z1:d1.size=n:=q3.1.trans hn;obtain⟨x0_,x1_⟩:=box_cells HBK.out HS1.out;clear q1 q2 q3)|(clear TOK1;go_at_call 101;(have hL:=IH.out (HD.out.on HS1.out z1) (HS1.out.holds HB.out HH.out (by omega)) z1 a i mid (by omega) kC kB (by omega) HC_.out.1 HC_.out.2.1);rw[hmz] at hL;refine hL.mono ?_;rintro e w2 ⟨rfl,d2,q1,q2,q3⟩;have HS2:=am (swk_comp HS1.out HB.out q1 q2.1);have HL2:=am (And.intro q2 q3);have z2:d2.size=n:=q2.1.trans z1;obtain⟨y0_,y1_⟩:=box_cells HBK.out HS2.out;clear q1 q2 q3 hL)|(go_at_call 101;(have hR:=IH.out (HD.out.on HS2.out z2) (HS2.out.holds HB.out HH.out (by omega)) z2 mid en b (by omega) (by omega) kE hb (SortedIn.congr (d':=d2) HC_.out.2.2.1 (fun u_ v_ _=>HL2.out.1.2.1 u_ (.inr v_))) (SortedIn.congr (d':=d2) HC_.out.2.2.2.1 (fun u_ v_ _=>HL2.out.1.2.1 u_ (.inr (by omega)))));rw[hmz,henz] at hR;refine hR.mono ?_;rintro e w3 ⟨rfl,d3,q1,q2,q3⟩;have HS3:=am (swk_comp HS2.out HB.out q1 q2.1);have HL3:=am (And.intro q2 q3);have z3:d3.size=n:=q2.1.trans z2;clear q1 q2 q3 hR))
          first|go_end0|((try simp only[Exit.inBlock,Exit.then]);refine bodyPost_ret (results_none rfl _ _ _) rfl ?_)
          have hfin:=halves (by omega) (by omega) (by omega) HC_.out.2.2.2.2 HL2.out.1 HL2.out.2 HL3.out.1 HL3.out.2
          exact⟨rfl,d3,swk_comp HW.out HBK.out HS3.out (by omega),permIn_trans _ _ _ _ _ HP1.out hfin.1,hfin.2⟩
         ·have hza:(i:Int)<(m:Int):=by omega
          have hzb:(m:Int)<((a:Int)+(b:Int)) / 2+(m:Int) - (i:Int):=by omega
          have hzc:(a:Int)<(i:Int):=by omega
          have hzd:(i:Int)<((a:Int)+(b:Int)) / 2:=by omega
          have hze:((a:Int)+(b:Int)) / 2<((a:Int)+(b:Int)) / 2+(m:Int) - (i:Int):=by omega
          have hzf:¬ (((a:Int)+(b:Int)) / 2+(m:Int) - (i:Int)<(b:Int)):=by omega
          have hrt:=rotate.calls (HD.out.on HS.out hn) (HS.out.holds HB.out HH.out rfl) hn i m en kA (by omega) (by omega)
          rw[henz] at hrt
          have HRT:=am hrt
          clear hrt
          have TOK1:=True.intro
          go_wp2_with (first|(go_at_call 108;refine HRT.out.mono ?_;rintro e w1 ⟨rfl,d1,q1,q2,q3⟩;have HS1:=am (swk_comp HS.out HB.out q1 q3.1);have HP1:=am (permIn_mono _ _ _ _ _ _ g1 g6 (by omega) q3);have HC_:=am (cut_sorted (e:=d1) hO S1.out S2.out g1 g2 g4 g6 g7 HE.out.1 HE.out.2 q2);have z1:d1.size=n:=q3.1.trans hn;obtain⟨x0_,x1_⟩:=box_cells HBK.out HS1.out;clear q1 q2 q3)|(clear TOK1;go_at_call 101;(have hL:=IH.out (HD.out.on HS1.out z1) (HS1.out.holds HB.out HH.out (by omega)) z1 a i mid (by omega) kC kB (by omega) HC_.out.1 HC_.out.2.1);rw[hmz] at hL;refine hL.mono ?_;rintro e w2 ⟨rfl,d2,q1,q2,q3⟩;have HS2:=am (swk_comp HS1.out HB.out q1 q2.1);have HL2:=am (And.intro q2 q3);have z2:d2.size=n:=q2.1.trans z1;obtain⟨y0_,y1_⟩:=box_cells HBK.out HS2.out;clear q1 q2 q3 hL))
          first|go_end0|((try simp only[Exit.inBlock,Exit.then]);refine bodyPost_ret (results_none rfl _ _ _) rfl ?_)
          have hfin:=halves (by omega) (by omega) (by omega) HC_.out.2.2.2.2 HL2.out.1 HL2.out.2 (And.intro (permIn_refl d2 mid b) (left_none (SortedIn.congr (d':=d2) HC_.out.2.2.1 (fun u_ v_ _=>HL2.out.1.2.1 u_ (.inr v_))) (SortedIn.congr (d':=d2) HC_.out.2.2.2.1 (fun u_ v_ _=>HL2.out.1.2.1 u_ (.inr (by omega)))) g5 g6 (by omega))).1 (And.intro (permIn_refl d2 mid b) (left_none (SortedIn.congr (d':=d2) HC_.out.2.2.1 (fun u_ v_ _=>HL2.out.1.2.1 u_ (.inr v_))) (SortedIn.congr (d':=d2) HC_.out.2.2.2.1 (fun u_ v_ _=>HL2.out.1.2.1 u_ (.inr (by omega)))) g5 g6 (by omega))).2
          exact⟨rfl,d2,swk_comp HW.out HBK.out HS2.out (by omega),permIn_trans _ _ _ _ _ HP1.out hfin.1,hfin.2⟩
        ·by_cases kE:en<b
         ·have hza:(i:Int)<(m:Int):=by omega
          have hzb:(m:Int)<((a:Int)+(b:Int)) / 2+(m:Int) - (i:Int):=by omega
          have hzc:¬ ((a:Int)<(i:Int)):=by omega
          have hzd:(i:Int)<((a:Int)+(b:Int)) / 2:=by omega
          have hze:((a:Int)+(b:Int)) / 2<((a:Int)+(b:Int)) / 2+(m:Int) - (i:Int):=by omega
          have hzf:((a:Int)+(b:Int)) / 2+(m:Int) - (i:Int)<(b:Int):=by omega
          have hrt:=rotate.calls (HD.out.on HS.out hn) (HS.out.holds HB.out HH.out rfl) hn i m en kA (by omega) (by omega)
          rw[henz] at hrt
          have HRT:=am hrt
          clear hrt
          go_wp2_with (first|(go_at_call 108;refine HRT.out.mono ?_;rintro e w1 ⟨rfl,d1,q1,q2,q3⟩;have HS1:=am (swk_comp HS.out HB.out q1 q3.1);have HP1:=am (permIn_mono _ _ _ _ _ _ g1 g6 (by omega) q3);have HC_:=am (cut_sorted (e:=d1) hO S1.out S2.out g1 g2 g4 g6 g7 HE.out.1 HE.out.2 q2);have z1:d1.size=n:=q3.1.trans hn;obtain⟨x0_,x1_⟩:=box_cells HBK.out HS1.out;clear q1 q2 q3)|(go_at_call 101;(have hR:=IH.out (HD.out.on HS1.out z1) (HS1.out.holds HB.out HH.out (by omega)) z1 mid en b (by omega) (by omega) kE hb (SortedIn.congr (d':=d1) HC_.out.2.2.1 (fun u_ v_ _=>(And.intro (permIn_refl d1 a mid) (left_none HC_.out.1 HC_.out.2.1 g1 g3 (by omega))).1.2.1 u_ (.inr v_))) (SortedIn.congr (d':=d1) HC_.out.2.2.2.1 (fun u_ v_ _=>(And.intro (permIn_refl d1 a mid) (left_none HC_.out.1 HC_.out.2.1 g1 g3 (by omega))).1.2.1 u_ (.inr (by omega)))));rw[hmz,henz] at hR;refine hR.mono ?_;rintro e w3 ⟨rfl,d3,q1,q2,q3⟩;have HS3:=am (swk_comp HS1.out HB.out q1 q2.1);have HL3:=am (And.intro q2 q3);have z3:d3.size=n:=q2.1.trans z1;clear q1 q2 q3 hR))
          first|go_end0|((try simp only[Exit.inBlock,Exit.then]);refine bodyPost_ret (results_none rfl _ _ _) rfl ?_)
          have hfin:=halves (by omega) (by omega) (by omega) HC_.out.2.2.2.2 (And.intro (permIn_refl d1 a mid) (left_none HC_.out.1 HC_.out.2.1 g1 g3 (by omega))).1 (And.intro (permIn_refl d1 a mid) (left_none HC_.out.1 HC_.out.2.1 g1 g3 (by omega))).2 HL3.out.1 HL3.out.2
          exact⟨rfl,d3,swk_comp HW.out HBK.out HS3.out (by omega),permIn_trans _ _ _ _ _ HP1.out hfin.1,hfin.2⟩
         ·have hza:(i:Int)<(m:Int):=by omega
          have hzb:(m:Int)<((a:Int)+(b:Int)) / 2+(m:Int) - (i:Int):=by omega
          have hzc:¬ ((a:Int)<(i:Int)):=by omega
          have hzd:(i:Int)<((a:Int)+(b:Int)) / 2:=by omega
          have hze:((a:Int)+(b:Int)) / 2<((a:Int)+(b:Int)) / 2+(m:Int) - (i:Int):=by omega
          have hzf:¬ (((a:Int)+(b:Int)) / 2+(m:Int) - (i:Int)<(b:Int)):=by omega
          have hrt:=rotate.calls (HD.out.on HS.out hn) (HS.out.holds HB.out HH.out rfl) hn i m en kA (by omega) (by omega)
          rw[henz] at hrt
          have HRT:=am hrt
          clear hrt
          go_wp2_with (first|(go_at_call 108;refine HRT.out.mono ?_;rintro e w1 ⟨rfl,d1,q1,q2,q3⟩;have HS1:=am (swk_comp HS.out HB.out q1 q3.1);have HP1:=am (permIn_mono _ _ _ _ _ _ g1 g6 (by omega) q3);have HC_:=am (cut_sorted (e:=d1) hO S1.out S2.out g1 g2 g4 g6 g7 HE.out.1 HE.out.2 q2);have z1:d1.size=n:=q3.1.trans hn;obtain⟨x0_,x1_⟩:=box_cells HBK.out HS1.out;clear q1 q2 q3))
          first|go_end0|((try simp only[Exit.inBlock,Exit.then]);refine bodyPost_ret (results_none rfl _ _ _) rfl ?_)
          have hfin:=halves (by omega) (by omega) (by omega) HC_.out.2.2.2.2 (And.intro (permIn_refl d1 a mid) (left_none HC_.out.1 HC_.out.2.1 g1 g3 (by omega))).1 (And.intro (permIn_refl d1 a mid) (left_none HC_.out.1 HC_.out.2.1 g1 g3 (by omega))).2 (And.intro (permIn_refl d1 mid b) (left_none (SortedIn.congr (d':=d1) HC_.out.2.2.1 (fun u_ v_ _=>(And.intro (permIn_refl d1 a mid) (left_none HC_.out.1 HC_.out.2.1 g1 g3 (by omega))).1.2.1 u_ (.inr v_))) (SortedIn.congr (d':=d1) HC_.out.2.2.2.1 (fun u_ v_ _=>(And.intro (permIn_refl d1 a mid) (left_none HC_.out.1 HC_.out.2.1 g1 g3 (by omega))).1.2.1 u_ (.inr (by omega)))) g5 g6 (by omega))).1 (And.intro (permIn_refl d1 mid b) (left_none (SortedIn.congr (d':=d1) HC_.out.2.2.1 (fun u_ v_ _=>(And.intro (permIn_refl d1 a mid) (left_none HC_.out.1 HC_.out.2.1 g1 g3 (by omega))).1.2.1 u_ (.inr v_))) (SortedIn.congr (d':=d1) HC_.out.2.2.2.1 (fun u_ v_ _=>(And.intro (permIn_refl d1 a mid) (left_none HC_.out.1 HC_.out.2.1 g1 g3 (by omega))).1.2.1 u_ (.inr (by omega)))) g5 g6 (by omega))).2
          exact⟨rfl,d1,swk_comp HW.out HBK.out HS1.out (by omega),permIn_trans _ _ _ _ _ HP1.out hfin.1,hfin.2⟩
       ·by_cases kC:a<i
        ·by_cases kE:en<b
         ·have hza:(i:Int)<(m:Int):=by omega
          have hzb:¬ ((m:Int)<((a:Int)+(b:Int)) / 2+(m:Int) - (i:Int)):=by omega
          have hzc:(a:Int)<(i:Int):=by omega
          have hzd:¬ ((i:Int)<((a:Int)+(b:Int)) / 2):=by omega
          have hze:((a:Int)+(b:Int)) / 2<((a:Int)+(b:Int)) / 2+(m:Int) - (i:Int):=by omega
          have hzf:((a:Int)+(b:Int)) / 2+(m:Int) - (i:Int)<(b:Int):=by omega
          have HC_:=am (cut_sorted (e:=d) hO S1.out S2.out g1 g2 g4 g6 g7 HE.out.1 HE.out.2 (rot_none d g2 g4 (by omega)))
          have z1:d.size=n:=hn
          go_wp2_with (first|(go_at_call 101;(have hR:=IH.out (HD.out.on HS.out z1) (HS.out.holds HB.out HH.out (by omega)) z1 mid en b (by omega) (by omega) kE hb (SortedIn.congr (d':=d) HC_.out.2.2.1 (fun u_ v_ _=>(And.intro (permIn_refl d a mid) (left_none HC_.out.1 HC_.out.2.1 g1 g3 (by omega))).1.2.1 u_ (.inr v_))) (SortedIn.congr (d':=d) HC_.out.2.2.2.1 (fun u_ v_ _=>(And.intro (permIn_refl d a mid) (left_none HC_.out.1 HC_.out.2.1 g1 g3 (by omega))).1.2.1 u_ (.inr (by omega)))));rw[hmz,henz] at hR;refine hR.mono ?_;rintro e w3 ⟨rfl,d3,q1,q2,q3⟩;have HS3:=am (swk_comp HS.out HB.out q1 q2.1);have HL3:=am (And.intro q2 q3);have z3:d3.size=n:=q2.1.trans z1;clear q1 q2 q3 hR))
          first|go_end0|((try simp only[Exit.inBlock,Exit.then]);refine bodyPost_ret (results_none rfl _ _ _) rfl ?_)
          have hfin:=halves (by omega) (by omega) (by omega) HC_.out.2.2.2.2 (And.intro (permIn_refl d a mid) (left_none HC_.out.1 HC_.out.2.1 g1 g3 (by omega))).1 (And.intro (permIn_refl d a mid) (left_none HC_.out.1 HC_.out.2.1 g1 g3 (by omega))).2 HL3.out.1 HL3.out.2
          exact⟨rfl,d3,swk_comp HW.out HBK.out HS3.out (by omega),permIn_trans _ _ _ _ _ (permIn_refl d a b) hfin.1,hfin.2⟩
         ·exfalso;omega
        ·exfalso;omega
      ·exfalso;omega
   ·have e3:¬ mid<m:=by assumption
    have e3z:¬ (((a:Int)+(b:Int)) / 2<(m:Int)):=by omega
    have e3b:decide (((a:Int)+(b:Int)) / 2<(m:Int))=false:=by simp;omega
    obtain⟨lo,hlo⟩:∃ lo,lo=a:=⟨_,rfl⟩
    obtain⟨hi,hhi⟩:∃ hi,hi=m:=⟨_,rfl⟩
    have hhalf:Half a m b mid lo hi := .inr ⟨by omega,hlo,hhi⟩
    have HHF:=am hhalf
    obtain⟨hlh,hr⟩:=half_range ham hmb hmid hhalf
    have HR:=am hr
    clear hhalf hr
    go_enter Tryz.func101,Tryz.ntmps101
    go_wp2
    (try rw[e1b])
    (try rw[e2b])
    (try rw[e3b])
    go_loopw [18,19] (fun v v9 wr=>∃(i j:Nat),v = .int .i64 i∧v9 = .int .i64 j∧lo≤i∧i≤j∧j≤hi∧Aside0 (SWK enc k (box g lb sf sb W) blk off d wr)∧Aside0 (Find3 lt d (mid+m - 1) lo hi i j)) (fun v v9 _=>(intOf v9).toNat - (intOf v).toNat)
    case atStart=>exact⟨lo,hi,by first|rfl|(congr 1;done)|(congr 1;omega),by first|rfl|(congr 1;done)|(congr 1;omega),by omega,by omega,by omega,H0,⟨by omega,by omega,by omega,fun t _ _=>by omega,fun t _ _=>by omega⟩⟩
    case round =>
     clear H0
     obtain⟨i,j,rfl,rfl,hli,hij,hjh,HS,HF⟩:=hrel
     obtain⟨c0,c1⟩:=box_cells HBK.out HS.out
     by_cases e:i<j
     ·have ez:(i:Int)<(j:Int):=by omega
      obtain⟨h,hh⟩:∃ h,h=(i+j) / 2:=⟨_,rfl⟩
      have hrh:=HR.out h (by omega) (by omega)
      have hl:=HD.out.less wr d HS.out hn (mid+m - 1 - h) h (by omega) (by omega)
      rw[show((mid+m - 1 - h:Nat):Int)=((a:Int)+(b:Int)) / 2+(m:Int) - 1 - ((i:Int)+(j:Int)) / 2 by omega,show((h:Nat):Int)=((i:Int)+(j:Int)) / 2 by omega] at hl
      cases hlv:lt d[mid+m - 1 - h]! d[h]! with
      | false =>
       rw[hlv] at hl
       have HLV:=am hlv
       clear hlv
       go_wp2_with (go_at_fn g;refine hl.mono ?_;rintro e w' ⟨rfl,hq⟩)
       go_roundw
       case rel=>exact⟨h+1,j,by first|rfl|(congr 1;done)|(congr 1;omega),rfl,by omega,by omega,by omega,⟨swk_comp HS.out HB.out hq rfl⟩,⟨find3_false hO S1.out S2.out HR.out HF.out (by omega) (by omega) HLV.out⟩⟩
       case measure=>first|(simp [intOf];done)|(simp [intOf];omega)
      | true =>
       rw[hlv] at hl
       have HLV:=am hlv
       clear hlv
       go_wp2_with (go_at_fn g;refine hl.mono ?_;rintro e w' ⟨rfl,hq⟩)
       go_roundw
       case rel=>exact⟨i,h,rfl,by first|rfl|(congr 1;done)|(congr 1;omega),by omega,by omega,by omega,⟨swk_comp HS.out HB.out hq rfl⟩,⟨find3_true hO S1.out S2.out HR.out HF.out (by omega) (by omega) HLV.out⟩⟩
       case measure=>first|(simp [intOf];done)|(simp [intOf];omega)
     ·have ez:¬ ((i:Int)<(j:Int)):=by omega
      have ej:i=j:=by omega
      subst ej
      obtain⟨en,hen⟩:∃ en,en=mid+m - i:=⟨_,rfl⟩
      obtain⟨g1,g2,g3,g4,g5,g6,g7,g8,g9⟩:=cut_ends ham hmb hmid HHF.out HF.out hen
      have henz:(en:Int)=((a:Int)+(b:Int)) / 2+(m:Int) - (i:Int):=by omega
      have HE:=am (And.intro g8 g9)
      clear g8 g9 HHF HR HF
      by_cases kA:i<m
      ·by_cases kB:i<mid
       ·by_cases kC:a<i
        ·by_cases kE:en<b
         ·have hza:(i:Int)<(m:Int):=by omega
          have hzb:(m:Int)<((a:Int)+(b:Int)) / 2+(m:Int) - (i:Int):=by omega
          have hzc:(a:Int)<(i:Int):=by omega
          have hzd:(i:Int)<((a:Int)+(b:Int)) / 2:=by omega
          have hze:((a:Int)+(b:Int)) / 2<((a:Int)+(b:Int)) / 2+(m:Int) - (i:Int):=by omega
          have hzf:((a:Int)+(b:Int)) / 2+(m:Int) - (i:Int)<(b:Int):=by omega
          have hrt:=rotate.calls (HD.out.on HS.out hn) (HS.out.holds HB.out HH.out rfl) hn i m en kA (by omega) (by omega)
          rw[henz] at hrt
          have HRT:=am hrt
          clear hrt
          have TOK1:=True.intro
          go_wp2_with (first|(go_at_call 108;refine HRT.out.mono ?_;rintro e w1 ⟨rfl,d1,q1,q2,q3⟩;have HS1:=am (swk_comp HS.out HB.out q1 q3.1);have HP1:=am (permIn_mono _ _ _ _ _ _ g1 g6 (by omega) q3);have HC_:=am (cut_sorted (e:=d1) hO S1.out S2.out g1 g2 g4 g6 g7 HE.out.1 HE.out.2 q2);have z1:d1.size=n:=q3.1.trans hn;obtain⟨x0_,x1_⟩:=box_cells HBK.out HS1.out;clear q1 q2 q3)|(clear TOK1;go_at_call 101;(have hL:=IH.out (HD.out.on HS1.out z1) (HS1.out.holds HB.out HH.out (by omega)) z1 a i mid (by omega) kC kB (by omega) HC_.out.1 HC_.out.2.1);rw[hmz] at hL;refine hL.mono ?_;rintro e w2 ⟨rfl,d2,q1,q2,q3⟩;have HS2:=am (swk_comp HS1.out HB.out q1 q2.1);have HL2:=am (And.intro q2 q3);have z2:d2.size=n:=q2.1.trans z1;obtain⟨y0_,y1_⟩:=box_cells HBK.out HS2.out;clear q1 q2 q3 hL)|(go_at_call 101;(have hR:=IH.out (HD.out.on HS2.out z2) (HS2.out.holds HB.out HH.out (by omega)) z2 mid en b (by omega) (by omega) kE hb (SortedIn.congr (d':=d2) HC_.out.2.2.1 (fun u_ v_ _=>HL2.out.1.2.1 u_ (.inr v_))) (SortedIn.congr (d':=d2) HC_.out.2.2.2.1 (fun u_ v_ _=>HL2.out.1.2.1 u_ (.inr (by omega)))));rw[hmz,henz] at hR;refine hR.mono ?_;rintro e w3 ⟨rfl,d3,q1,q2,q3⟩;have HS3:=am (swk_comp HS2.out HB.out q1 q2.1);have HL3:=am (And.intro q2 q3);have z3:d3.size=n:=q2.1.trans z2;clear q1 q2 q3 hR))
          first|go_end0|((try simp only[Exit.inBlock,Exit.then]);refine bodyPost_ret (results_none rfl _ _ _) rfl ?_)
          have hfin:=halves (by omega) (by omega) (by omega) HC_.out.2.2.2.2 HL2.out.1 HL2.out.2 HL3.out.1 HL3.out.2
          exact⟨rfl,d3,swk_comp HW.out HBK.out HS3.out (by omega),permIn_trans _ _ _ _ _ HP1.out hfin.1,hfin.2⟩
         ·exfalso;omega
        ·by_cases kE:en<b
         ·have hza:(i:Int)<(m:Int):=by omega
          have hzb:(m:Int)<((a:Int)+(b:Int)) / 2+(m:Int) - (i:Int):=by omega
          have hzc:¬ ((a:Int)<(i:Int)):=by omega
          have hzd:(i:Int)<((a:Int)+(b:Int)) / 2:=by omega
          have hze:((a:Int)+(b:Int)) / 2<((a:Int)+(b:Int)) / 2+(m:Int) - (i:Int):=by omega
          have hzf:((a:Int)+(b:Int)) / 2+(m:Int) - (i:Int)<(b:Int):=by omega
          have hrt:=rotate.calls (HD.out.on HS.out hn) (HS.out.holds HB.out HH.out rfl) hn i m en kA (by omega) (by omega)
          rw[henz] at hrt
          have HRT:=am hrt
          clear hrt
          go_wp2_with (first|(go_at_call 108;refine HRT.out.mono ?_;rintro e w1 ⟨rfl,d1,q1,q2,q3⟩;have HS1:=am (swk_comp HS.out HB.out q1 q3.1);have HP1:=am (permIn_mono _ _ _ _ _ _ g1 g6 (by omega) q3);have HC_:=am (cut_sorted (e:=d1) hO S1.out S2.out g1 g2 g4 g6 g7 HE.out.1 HE.out.2 q2);have z1:d1.size=n:=q3.1.trans hn;obtain⟨x0_,x1_⟩:=box_cells HBK.out HS1.out;clear q1 q2 q3)|(go_at_call 101;(have hR:=IH.out (HD.out.on HS1.out z1) (HS1.out.holds HB.out HH.out (by omega)) z1 mid en b (by omega) (by omega) kE hb (SortedIn.congr (d':=d1) HC_.out.2.2.1 (fun u_ v_ _=>(And.intro (permIn_refl d1 a mid) (left_none HC_.out.1 HC_.out.2.1 g1 g3 (by omega))).1.2.1 u_ (.inr v_))) (SortedIn.congr (d':=d1) HC_.out.2.2.2.1 (fun u_ v_ _=>(And.intro (permIn_refl d1 a mid) (left_none HC_.out.1 HC_.out.2.1 g1 g3 (by omega))).1.2.1 u_ (.inr (by omega)))));rw[hmz,henz] at hR;refine hR.mono ?_;rintro e w3 ⟨rfl,d3,q1,q2,q3⟩;have HS3:=am (swk_comp HS1.out HB.out q1 q2.1);have HL3:=am (And.intro q2 q3);have z3:d3.size=n:=q2.1.trans z1;clear q1 q2 q3 hR))
          first|go_end0|((try simp only[Exit.inBlock,Exit.then]);refine bodyPost_ret (results_none rfl _ _ _) rfl ?_)
          have hfin:=halves (by omega) (by omega) (by omega) HC_.out.2.2.2.2 (And.intro (permIn_refl d1 a mid) (left_none HC_.out.1 HC_.out.2.1 g1 g3 (by omega))).1 (And.intro (permIn_refl d1 a mid) (left_none HC_.out.1 HC_.out.2.1 g1 g3 (by omega))).2 HL3.out.1 HL3.out.2
          exact⟨rfl,d3,swk_comp HW.out HBK.out HS3.out (by omega),permIn_trans _ _ _ _ _ HP1.out hfin.1,hfin.2⟩
         ·have hza:(i:Int)<(m:Int):=by omega
          have hzb:(m:Int)<((a:Int)+(b:Int)) / 2+(m:Int) - (i:Int):=by omega
          have hzc:¬ ((a:Int)<(i:Int)):=by omega
          have hzd:(i:Int)<((a:Int)+(b:Int)) / 2:=by omega
          have hze:((a:Int)+(b:Int)) / 2<((a:Int)+(b:Int)) / 2+(m:Int) - (i:Int):=by omega
          have hzf:¬ (((a:Int)+(b:Int)) / 2+(m:Int) - (i:Int)<(b:Int)):=by omega
          have hrt:=rotate.calls (HD.out.on HS.out hn) (HS.out.holds HB.out HH.out rfl) hn i m en kA (by omega) (by omega)
          rw[henz] at hrt
          have HRT:=am hrt
          clear hrt
          go_wp2_with (first|(go_at_call 108;refine HRT.out.mono ?_;rintro e w1 ⟨rfl,d1,q1,q2,q3⟩;have HS1:=am (swk_comp HS.out HB.out q1 q3.1);have HP1:=am (permIn_mono _ _ _ _ _ _ g1 g6 (by omega) q3);have HC_:=am (cut_sorted (e:=d1) hO S1.out S2.out g1 g2 g4 g6 g7 HE.out.1 HE.out.2 q2);have z1:d1.size=n:=q3.1.trans hn;obtain⟨x0_,x1_⟩:=box_cells HBK.out HS1.out;clear q1 q2 q3))
          first|go_end0|((try simp only[Exit.inBlock,Exit.then]);refine bodyPost_ret (results_none rfl _ _ _) rfl ?_)
          have hfin:=halves (by omega) (by omega) (by omega) HC_.out.2.2.2.2 (And.intro (permIn_refl d1 a mid) (left_none HC_.out.1 HC_.out.2.1 g1 g3 (by omega))).1 (And.intro (permIn_refl d1 a mid) (left_none HC_.out.1 HC_.out.2.1 g1 g3 (by omega))).2 (And.intro (permIn_refl d1 mid b) (left_none (SortedIn.congr (d':=d1) HC_.out.2.2.1 (fun u_ v_ _=>(And.intro (permIn_refl d1 a mid) (left_none HC_.out.1 HC_.out.2.1 g1 g3 (by omega))).1.2.1 u_ (.inr v_))) (SortedIn.congr (d':=d1) HC_.out.2.2.2.1 (fun u_ v_ _=>(And.intro (permIn_refl d1 a mid) (left_none HC_.out.1 HC_.out.2.1 g1 g3 (by omega))).1.2.1 u_ (.inr (by omega)))) g5 g6 (by omega))).1 (And.intro (permIn_refl d1 mid b) (left_none (SortedIn.congr (d':=d1) HC_.out.2.2.1 (fun u_ v_ _=>(And.intro (permIn_refl d1 a mid) (left_none HC_.out.1 HC_.out.2.1 g1 g3 (by omega))).1.2.1 u_ (.inr v_))) (SortedIn.congr (d':=d1) HC_.out.2.2.2.1 (fun u_ v_ _=>(And.intro (permIn_refl d1 a mid) (left_none HC_.out.1 HC_.out.2.1 g1 g3 (by omega))).1.2.1 u_ (.inr (by omega)))) g5 g6 (by omega))).2
          exact⟨rfl,d1,swk_comp HW.out HBK.out HS1.out (by omega),permIn_trans _ _ _ _ _ HP1.out hfin.1,hfin.2⟩
       ·exfalso;omega
      ·by_cases kB:i<mid
       ·by_cases kC:a<i
        ·by_cases kE:en<b
         ·have hza:¬ ((i:Int)<(m:Int)):=by omega
          have hzb:(m:Int)<((a:Int)+(b:Int)) / 2+(m:Int) - (i:Int):=by omega
          have hzc:(a:Int)<(i:Int):=by omega
          have hzd:(i:Int)<((a:Int)+(b:Int)) / 2:=by omega
          have hze:¬ (((a:Int)+(b:Int)) / 2<((a:Int)+(b:Int)) / 2+(m:Int) - (i:Int)):=by omega
          have hzf:((a:Int)+(b:Int)) / 2+(m:Int) - (i:Int)<(b:Int):=by omega
          have HC_:=am (cut_sorted (e:=d) hO S1.out S2.out g1 g2 g4 g6 g7 HE.out.1 HE.out.2 (rot_none d g2 g4 (by omega)))
          have z1:d.size=n:=hn
          have TOK1:=True.intro
          go_wp2_with (first|(clear TOK1;go_at_call 101;(have hL:=IH.out (HD.out.on HS.out z1) (HS.out.holds HB.out HH.out (by omega)) z1 a i mid (by omega) kC kB (by omega) HC_.out.1 HC_.out.2.1);rw[hmz] at hL;refine hL.mono ?_;rintro e w2 ⟨rfl,d2,q1,q2,q3⟩;have HS2:=am (swk_comp HS.out HB.out q1 q2.1);have HL2:=am (And.intro q2 q3);have z2:d2.size=n:=q2.1.trans z1;obtain⟨y0_,y1_⟩:=box_cells HBK.out HS2.out;clear q1 q2 q3 hL))
          first|go_end0|((try simp only[Exit.inBlock,Exit.then]);refine bodyPost_ret (results_none rfl _ _ _) rfl ?_)
          have hfin:=halves (by omega) (by omega) (by omega) HC_.out.2.2.2.2 HL2.out.1 HL2.out.2 (And.intro (permIn_refl d2 mid b) (left_none (SortedIn.congr (d':=d2) HC_.out.2.2.1 (fun u_ v_ _=>HL2.out.1.2.1 u_ (.inr v_))) (SortedIn.congr (d':=d2) HC_.out.2.2.2.1 (fun u_ v_ _=>HL2.out.1.2.1 u_ (.inr (by omega)))) g5 g6 (by omega))).1 (And.intro (permIn_refl d2 mid b) (left_none (SortedIn.congr (d':=d2) HC_.out.2.2.1 (fun u_ v_ _=>HL2.out.1.2.1 u_ (.inr v_))) (SortedIn.congr (d':=d2) HC_.out.2.2.2.1 (fun u_ v_ _=>HL2.out.1.2.1 u_ (.inr (by omega)))) g5 g6 (by omega))).2
          exact⟨rfl,d2,swk_comp HW.out HBK.out HS2.out (by omega),permIn_trans _ _ _ _ _ (permIn_refl d a b) hfin.1,hfin.2⟩
         ·exfalso;omega
        ·exfalso;omega
       ·by_cases kC:a<i
        ·by_cases kE:en<b
         ·have hza:¬ ((i:Int)<(m:Int)):=by omega
          have hzb:¬ ((m:Int)<((a:Int)+(b:Int)) / 2+(m:Int) - (i:Int)):=by omega
          have hzc:(a:Int)<(i:Int):=by omega
          have hzd:¬ ((i:Int)<((a:Int)+(b:Int)) / 2):=by omega
          have hze:¬ (((a:Int)+(b:Int)) / 2<((a:Int)+(b:Int)) / 2+(m:Int) - (i:Int)):=by omega
          have hzf:((a:Int)+(b:Int)) / 2+(m:Int) - (i:Int)<(b:Int):=by omega
          have HC_:=am (cut_sorted (e:=d) hO S1.out S2.out g1 g2 g4 g6 g7 HE.out.1 HE.out.2 (rot_none d g2 g4 (by omega)))
          have z1:d.size=n:=hn
          go_wp2
          first|go_end0|((try simp only[Exit.inBlock,Exit.then]);refine bodyPost_ret (results_none rfl _ _ _) rfl ?_)
          have hfin:=halves (by omega) (by omega) (by omega) HC_.out.2.2.2.2 (And.intro (permIn_refl d a mid) (left_none HC_.out.1 HC_.out.2.1 g1 g3 (by omega))).1 (And.intro (permIn_refl d a mid) (left_none HC_.out.1 HC_.out.2.1 g1 g3 (by omega))).2 (And.intro (permIn_refl d mid b) (left_none (SortedIn.congr (d':=d) HC_.out.2.2.1 (fun u_ v_ _=>(And.intro (permIn_refl d a mid) (left_none HC_.out.1 HC_.out.2.1 g1 g3 (by omega))).1.2.1 u_ (.inr v_))) (SortedIn.congr (d':=d) HC_.out.2.2.2.1 (fun u_ v_ _=>(And.intro (permIn_refl d a mid) (left_none HC_.out.1 HC_.out.2.1 g1 g3 (by omega))).1.2.1 u_ (.inr (by omega)))) g5 g6 (by omega))).1 (And.intro (permIn_refl d mid b) (left_none (SortedIn.congr (d':=d) HC_.out.2.2.1 (fun u_ v_ _=>(And.intro (permIn_refl d a mid) (left_none HC_.out.1 HC_.out.2.1 g1 g3 (by omega))).1.2.1 u_ (.inr v_))) (SortedIn.congr (d':=d) HC_.out.2.2.2.1 (fun u_ v_ _=>(And.intro (permIn_refl d a mid) (left_none HC_.out.1 HC_.out.2.1 g1 g3 (by omega))).1.2.1 u_ (.inr (by omega)))) g5 g6 (by omega))).2
          exact⟨rfl,d,swk_comp HW.out HBK.out HS.out (by omega),permIn_trans _ _ _ _ _ (permIn_refl d a b) hfin.1,hfin.2⟩
         ·exfalso;omega
        ·exfalso;omega
end stab
end Go.Proofs.YtipklbjbgbbgpaaGreat.PStab
