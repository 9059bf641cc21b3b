import Derived.Test.YtfhjjfibblcklaaPFnExactReadPolicyy0
import Derived.Test.YtfhjjfibblcklaaPFnExactReadPolicyy3
namespace Go.Proofs.Ytfhjjfibblcklaa.PFnExactReadPolicy
open Go.RowKit Go.Proofs.YtfhjjfibblcklaaW.PrintWords Go.Proofs.YtfhjjfibblcklaaW.PrintLast Go.Proofs.YtfhjjfibblcklaaW.PrintMore Go.Proofs.YtfhjjfibblcklaaW.Z
open Kd
attribute [local go_sem] isS max2_int min2_int max_two min_two max_three min_three max_four min_four
set_option linter.unusedVariables false
set_option linter.unusedSimpArgs false
def spec_CallNumber.l0:Nat→ByteArray→List ByteArray→Int→Option (Int)
  | 0,_,_,_=>none
  | k+1,i,ak,ad=>if ad<(ak.length:Int)then(if 0≤ad then(if(rdOf ByteArray.empty ak ad).toList=i.toList then(some ad)else(spec_CallNumber.l0 k i ak (wrap64 (ad+1))))else(none))else(some (-1))
def spec_CallNumber.f (k:Nat) (L:ByteArray):Option (Int):=(spec_CallNames.f).bind fun s=>(spec_CallNumber.l0 k L s 0)
set_option maxHeartbeats 8000000 in
set_option maxRecDepth 100000 in
theorem spec_CallNumber.calls {k:Nat}{L:ByteArray}{r:Int}{w:World}(h:spec_CallNumber.f k L=some r) :
 Calls Try.prog 57 #[.string L] w fun e w'=>e= .returned (.int .i64 r)∧Below w.heap.size w w':=by
 have HB:=rW w
 unfold spec_CallNumber.f at h;have H:=h
 clear h;replace H:=bE H;obtain⟨s,aU,H⟩:=H;have H':=aM H;clear H;go_enter Try.func57,Try.ntmps57
 go_wp2_with (first|((with_reducible refine gF 75 ?_);refine gY (some 5) Try.func75 (spec_CallNames.calls aU.out) ?_;rintro aV bA ⟨ah,hb⟩;have aW:=rL ah;replace HB:=sB hb;(try clear hb);(try clear ah)))
 go_loopg [4] k (fun kq aX w'=> ∃ (o:Int),aX= .int .i64 o∧Aside0 (spec_CallNumber.l0 kq L s o=some r)∧Aside0 (kq≤k)∧Aside0 (Kd.R Kd.string 9 w' w.heap.size (fun _=>True) aV s)∧Aside0 (Below w.heap.size w w'))
 case atStart=>exact⟨(0),rS,H',⟨Nat.le_refl _⟩,⟨mR aW⟩,⟨cB⟩⟩
 case round=>
  clear H';obtain⟨o,rfl,HA,HK1,O,HB⟩:=hrel
  cases gk with
  | zero=>exact absurd HA.out (by simp[spec_CallNumber.l0])
  | succ k1=>
   have H:=HA.out;clear HA;simp only[spec_CallNumber.l0]at H;by_cases m:o<(s.length:Int)
   ·rw[if_pos m]at H;have az:=decide_eq_true m;clear m;replace H:=gD H;obtain⟨aA,H⟩:=H;by_cases ae:(rdOf ByteArray.empty s o).toList=L.toList
    ·rw[if_pos ae]at H;obtain⟨aY,aZ⟩:=eT ae;clear ae;obtain rfl:=Option.some.inj H;obtain⟨bB,bC,a0⟩:=R_slice O.out;subst a0;have v:0≤(o:Int):=dA;have x:o<(s.length:Int):=dA;obtain⟨a1,al,a2⟩:=at_string (R_reads' O.out).2.2 o v x;cases al;replace v:=eq_true v;replace x:=eq_true x;go_wp2;go_ret;exact⟨rE,cB⟩
    ·rw[if_neg ae]at H;obtain⟨aY,aZ⟩:=eF ae;have H':=aM H;clear H;obtain⟨bD,bF,a3⟩:=R_slice O.out;subst a3;have v:0≤(o:Int):=dA;have x:o<(s.length:Int):=dA;obtain⟨a1,al,a2⟩:=at_string (R_reads' O.out).2.2 o v x;cases al;replace v:=eq_true v;replace x:=eq_true x;go_wp2;go_roundg k1
     case measure=>exact oK
     case rel=>exact⟨(wrap64 (o+1)),rS,H',⟨oK⟩,⟨mR O⟩,⟨cB⟩⟩
   ·rw[if_neg m]at H;have az:=decide_eq_false m;clear m;obtain rfl:=Option.some.inj H;obtain⟨bG,bH,a4⟩:=R_slice O.out;subst a4;go_wp2;go_ret;exact⟨rE,cB⟩
def spec_l09In.l0:Nat→List Int→Int→Int→Option (Bool)
  | 0,_,_,_=>none
  | k+1,i,p,l=>if l<(i.length:Int)then(if 0≤l then(if(rd i l)=p then(some true)else(spec_l09In.l0 k i p (wrap64 (l+1))))else(none))else(some false)
def spec_l09In.f (k:Nat) (a:List Int) (b:Int):Option (Bool):=spec_l09In.l0 k a b 0
set_option maxHeartbeats 8000000 in
set_option maxRecDepth 100000 in
theorem spec_l09In.calls {k:Nat}{aC:Option Addr}{aD:Nat}{a:List Int}{b:Int}{r:Bool}{w:World}(h:spec_l09In.f k a b=some r)(aE:Kd.C (Kd.int .i64) w aC a.length a)(aG:a.length≤aD) :
 Calls Try.prog 58 #[.slice aC a.length aD,.int .i64 b] w fun e w'=>e= .returned (.bool r)∧Drawn0 w w':=by
 have HR0:=aM aE;have HC0:=aM aG;clear aE aG;have H:(spec_l09In.l0 k a b 0)=some r:=h;clear h;have H':=aM H;clear H;go_enter Try.func58,Try.ntmps58;go_wp2
 go_loopg [5] k (fun kq y w'=> ∃ (c:Int),y= .int .i64 c∧Aside0 (spec_l09In.l0 kq a b c=some r)∧Aside0 (kq≤k)∧Drawn0 w w')
 case atStart=>exact⟨(0),rS,H',⟨Nat.le_refl _⟩,by repeat(first|exact Drawn0.refl _|apply Drawn0.step)⟩
 case round=>
  clear H';obtain⟨c,rfl,HA,HK1,⟨m1,rfl⟩⟩:=hrel
  cases gk with
  | zero=>exact absurd HA.out (by simp[spec_l09In.l0])
  | succ k1=>
   have H:=HA.out;clear HA;simp only[spec_l09In.l0]at H;by_cases U:c<(a.length:Int)
   ·rw[if_pos U]at H;have a5:=decide_eq_true U;clear U;replace H:=gD H;obtain⟨az,H⟩:=H;by_cases af:(rd a c)=b
    ·rw[if_pos af]at H;obtain⟨aA,a6⟩:=eT af;clear af;obtain rfl:=Option.some.inj H;have z:0≤(c:Int):=dA;have A:c<(a.length:Int):=dA;obtain⟨a7,am,a8⟩:=at_int HR0.out c z A;cases am;replace z:=eq_true z;replace A:=eq_true A;go_wp2;go_ret
     exact⟨by first|rfl|(simp;done)|(simp[*];done),by repeat(first|exact Drawn0.refl _|apply Drawn0.step)⟩
    ·rw[if_neg af]at H;obtain⟨aA,a6⟩:=eF af;have H':=aM H;clear H;have z:0≤(c:Int):=dA;have A:c<(a.length:Int):=dA;obtain⟨a7,am,a8⟩:=at_int HR0.out c z A;cases am;replace z:=eq_true z;replace A:=eq_true A;go_wp2;go_roundg k1
     case measure=>exact oK
     case rel=>exact⟨(wrap64 (c+1)),rS,H',⟨oK⟩,by repeat(first|exact Drawn0.refl _|apply Drawn0.step)⟩
   ·rw[if_neg U]at H;have a5:=decide_eq_false U;clear U;obtain rfl:=Option.some.inj H;go_wp2;go_ret
    exact⟨by first|rfl|(simp;done)|(simp[*];done),by repeat(first|exact Drawn0.refl _|apply Drawn0.step)⟩
mutual
def spec_l10Put.l0:Nat→List Int→Int→List Int→Int→Option (List Int)
  | 0,_,_,_,_=>none
  | k+1,i,p,l,W=>if W<(i.length:Int)then(if 0≤W then(if(rd i W)<p then(if l.length<17592186044416 then(spec_l10Put.l0 k i p (l ++ [rd i W]) (wrap64 (W+1)))else(none))else(spec_l10Put.l0 k i p l (wrap64 (W+1))))else(none))else(if l.length<17592186044416 then(spec_l10Put.l1 k i p (l ++ [p]) 0)else(none))
def spec_l10Put.l1:Nat→List Int→Int→List Int→Int→Option (List Int)
  | 0,_,_,_,_=>none
  | k+1,i,p,l,X=>if X<(i.length:Int)then(if 0≤X then(if(rd i X)>p then(if l.length<17592186044416 then(spec_l10Put.l1 k i p (l ++ [rd i X]) (wrap64 (X+1)))else(none))else(spec_l10Put.l1 k i p l (wrap64 (X+1))))else(none))else(some l)
end
def spec_l10Put.f (k:Nat) (a:List Int) (b:Int):Option (List Int):=(spec_l09In.f k a b).bind fun an=>(if an=true then(some a)else(spec_l10Put.l0 k a b (([] :List Int)) 0))
theorem q4x0 {P:Prop} (h:P:=by repeat(first|(with_reducible first|exact HK.out|apply Kept.alloc|apply Kept.drewN|apply Kept.drew)|exact HK.out)):P:=h
set_option maxHeartbeats 8000000 in
set_option maxRecDepth 100000 in
theorem spec_l10Put.calls (k:Nat) (P0_:Nat→Prop) (u9000_:Value) (a:List Int) (b:Int) (r:List Int) (w0 w:World) (hB:Below w0.heap.size w0 w) (ah:Kd.R (Kd.int .i64) 3 w w0.heap.size P0_ u9000_ a) (h:spec_l10Put.f k a b=some r) :
 Calls Try.prog 59 #[u9000_,.int .i64 b] w fun e w'=> ∃ v0_:Value,e= .returned (v0_)∧Kd.R (Kd.int .i64) 3 w' w0.heap.size (fun k_=>(P0_ k_∨w.heap.size≤k_)) v0_ r∧Below w0.heap.size w0 w'∧Kept w w' (fun k_=>P0_ k_):=by
 have q:=aM (show Kd.R (Kd.int .i64) 3 w w0.heap.size (fun k_=>(P0_ k_∨w.heap.size≤k_)) u9000_ a from R_mono ah (fun k_ hk=>(.inl hk)))
 have HK:=aM (Kept.refl w (fun k_=>P0_ k_))
 have HW0:=aM hB.size;have HB:=aM hB;clear hB
 unfold spec_l10Put.f at h;have H:=h
 clear h;replace H:=bE H;obtain⟨an,aH,H⟩:=H;by_cases m:an=true
 ·subst m;replace H:=iT H;obtain rfl:=Option.some.inj H;obtain⟨bI,bJ,a9⟩:=R_slice q.out;subst a9;go_enter Try.func59,Try.ntmps59
  go_wp2_with (first|((with_reducible refine gF 58 ?_);refine gX (some 10) Try.func58 (spec_l09In.calls aH.out (rX q) ((rY q))) ?_;rintro w' ⟨nd,rfl⟩))
  go_ret;exact⟨_,rE,mR q,cB,q4x0⟩
 ·replace m:=Bool.eq_false_iff.mpr m;subst m;replace H:=iF H;obtain⟨ba,ao⟩ : ∃ y_:List Int,Aside0 (y_=(([] :List Int))):=⟨_,⟨rfl⟩⟩;rw[← ao.out]at H;have H':=aM H;clear H;obtain⟨ag,D,bb⟩:=R_slice q.out;subst bb;go_enter Try.func59,Try.ntmps59
  go_wp2_with (first|((with_reducible refine gF 58 ?_);refine gX (some 10) Try.func58 (spec_l09In.calls aH.out (rX q) ((rY q))) ?_;rintro w' ⟨nd,rfl⟩)|((with_reducible refine gN 12 ?_);refine R_lit (Kd.int .i64) _ 3 ?hg (N:=12) ?hd (xs:=([] :List Int)) (inner:=[]) (ok:=fun _=>True) (okp:=fun _=>True) ?hr ?hp (fun _ hk=>hk) trivial (Below.refl _ _) (Nat.le_refl _) (by simp) ?_;(case hd=>rfl);(case hg=>rfl);(case hr=>exact rG);(case hp=>exact(Reps.none _ _));intro bL bM Y hb hg_ hnew_;clear hg_ hnew_;(first|rw[← ao.out]at Y|(simp only[Int.reduceToNat]at Y;rw[← ao.out]at Y));have bd:=aM (R_lower (R_new' (R_newM (M:=fun k_=>(P0_ k_∨w.heap.size≤k_)) Y (by first|exact HK.out.1|exact(show Kept w _ (fun k_=>P0_ k_)from q4x0).1) (fun k_ h_=> .inr h_)) (R_lt (mR q))) (below_size cB));replace q:=eB q (R_base Y) hb;replace HK:=aM (Kept.below (S:=(fun k_=>P0_ k_)) q4x0 hb);replace HB:=sB hb;clear hb Y))
  go_loopg [5,6] k (fun kq y be w'=> ∃ (c:List Int) (j:Int),be= .int .i64 j∧Aside0 (spec_l10Put.l0 kq a b c j=some r)∧Aside0 (kq≤k)∧Aside0 (Kd.R (Kd.int .i64) 3 w' w0.heap.size (fun k_=>(P0_ k_∨w.heap.size≤k_)∧some k_≠(y:Value).ownBlock) (.slice ag a.length D) a)∧Aside0 (Kd.R (Kd.int .i64) 3 w' w0.heap.size (fun k_=>(P0_ k_∨w.heap.size≤k_)∧some k_≠((.slice ag a.length D):Value).ownBlock) y c)∧Aside0 (Kept w w' (fun k_=>P0_ k_))∧Aside0 (Below w0.heap.size w0 w'))
  case atStart=>exact⟨(ba),(0),rS,H',⟨Nat.le_refl _⟩,⟨mR q⟩,⟨rM bd (fun _ hk=>⟨hk.1.1,hk.2⟩)⟩,⟨q4x0⟩,⟨cB⟩⟩
  case round=>
   clear H';(try clear m);obtain⟨c,j,rfl,HA,HK1,d,n,HK,HB⟩:=hrel
   cases gk with
   | zero=>exact absurd HA.out (by simp[spec_l10Put.l0])
   | succ k1=>
    have H:=HA.out;clear HA;simp only[spec_l10Put.l0]at H;by_cases E:j<(a.length:Int)
    ·rw[if_pos E]at H;have aI:=decide_eq_true E;clear E;replace H:=gD H;obtain⟨bf,H⟩:=H;by_cases G:(rd a j)<b
     ·rw[if_pos G]at H;have aJ:=decide_eq_true G;clear G;replace H:=gC H;obtain⟨ap,H⟩:=H;have bg:=aM ap;clear ap;obtain⟨bh,aK⟩ : ∃ y_:List Int,Aside0 (y_=(c ++ [rd a j])):=⟨_,⟨rfl⟩⟩;rw[← aK.out]at H;have H':=aM H;clear H;have t:0≤(j:Int):=dA;have u:j<(a.length:Int):=dA;obtain⟨aq,ar,aN⟩:=at_int (R_reads' d.out).2.2 j t u;cases ar;replace t:=eq_true t;replace u:=eq_true u;have ai:0≤(j:Int):=dA;have aj:j<(a.length:Int):=dA;obtain⟨bi,bj,bk⟩:=at_int (R_reads' d.out).2.2 j ai aj
      obtain rfl:aq=bi:=(by injection bj)
      replace ai:=eq_true ai;replace aj:=eq_true aj
      go_wp2_with (first|((with_reducible refine gA 25 30 ?_);at_builtin;refine R_append (Kd.int .i64) (w0:=w0) w0.heap.size rfl (.tmp 25) (.tmp 30) 40 3 (.int .i64 0) 8 rfl Try.underlying40 info3 rfl (by decide) (by omega) u5 c (rd a j) [.int .i64 (rd a j)] (fun k_=>(P0_ k_∨w.heap.size≤k_)∧some k_≠(.slice (some aq) a.length D:Value).ownBlock) (fun _=>False) rfl rfl ?aP (fun _ hk=>hk.elim) ?aF ?aO ?aB ?aS ?aL ?_;(case aP=>exact rfl);(case aB=>exact cB);(case aF=>exact(fun k_ hk=>⟨(.inr (Nat.le_trans (by first|exact HK.out.1|exact(show Kept w _ (fun k_=>P0_ k_)from q4x0).1) hk)),Kd.fresh' (R_lt (mR d)) k_ hk⟩));(case aO=>exact(mR n));(case aS=>exact(below_size cB));(case aL=>have:=bg.out;omega);intro bN bO ho hb hg hat;rw[← aK.out]at ho;replace d:=aM (R_after (ok:=(fun k_=>(P0_ k_∨w.heap.size≤k_))) (mR d) hg hat);replace HB:=aM hb;replace HK:=aM (Kept.of_grown (S:=(fun k_=>P0_ k_)) hg q4x0 (fun k_ e_=>(n.out.1 k_ e_).1));have bl:=aM ho;clear n ho hb hg hat))
      go_roundg k1
      case measure=>exact oK
      case rel=>exact⟨(bh),(wrap64 (j+1)),rS,H',⟨oK⟩,⟨mR d⟩,⟨mR bl⟩,⟨q4x0⟩,⟨cB⟩⟩
     ·rw[if_neg G]at H;have aJ:=decide_eq_false G;clear G;have H':=aM H;clear H;have t:0≤(j:Int):=dA;have u:j<(a.length:Int):=dA;obtain⟨aq,ar,aN⟩:=at_int (R_reads' d.out).2.2 j t u;cases ar;replace t:=eq_true t;replace u:=eq_true u;go_wp2;go_roundg k1
      case measure=>exact oK
      case rel=>exact⟨(c),(wrap64 (j+1)),rS,H',⟨oK⟩,⟨mR d⟩,⟨mR n⟩,⟨q4x0⟩,⟨cB⟩⟩
    ·rw[if_neg E]at H;have aI:=decide_eq_false E;clear E;replace H:=gC H;obtain⟨au,H⟩:=H;have bm:=aM au;clear au;obtain⟨bn,aQ⟩ : ∃ y_:List Int,Aside0 (y_=(c ++ [b])):=⟨_,⟨rfl⟩⟩;rw[← aQ.out]at H;have H':=aM H;clear H
     go_wp2_with (first|((with_reducible refine gA 32 34 ?_);at_builtin;refine R_append (Kd.int .i64) (w0:=w0) w0.heap.size rfl (.tmp 32) (.tmp 34) 40 3 (.int .i64 0) 8 rfl Try.underlying40 info3 rfl (by decide) (by omega) u5 c b [.int .i64 b] (fun k_=>(P0_ k_∨w.heap.size≤k_)∧some k_≠(.slice ag a.length D:Value).ownBlock) (fun _=>False) rfl rfl ?aP (fun _ hk=>hk.elim) ?aF ?aO ?aB ?aS ?aL ?_;(case aP=>exact rfl);(case aB=>exact cB);(case aF=>exact(fun k_ hk=>⟨(.inr (Nat.le_trans (by first|exact HK.out.1|exact(show Kept w _ (fun k_=>P0_ k_)from q4x0).1) hk)),Kd.fresh' (R_lt (mR d)) k_ hk⟩));(case aO=>exact(mR n));(case aS=>exact(below_size cB));(case aL=>have:=bm.out;omega);intro bP bQ ho hb hg hat;rw[← aQ.out]at ho;replace d:=aM (R_after (ok:=(fun k_=>(P0_ k_∨w.heap.size≤k_))) (mR d) hg hat);replace HB:=aM hb;replace HK:=aM (Kept.of_grown (S:=(fun k_=>P0_ k_)) hg q4x0 (fun k_ e_=>(n.out.1 k_ e_).1));have bo:=aM ho;clear n ho hb hg hat))
     go_loopg [5,7] k1 (fun kq y bp w'=> ∃ (aa:List Int) (g:Int),bp= .int .i64 g∧Aside0 (spec_l10Put.l1 kq a b aa g=some r)∧Aside0 (kq≤k1)∧Aside0 (Kd.R (Kd.int .i64) 3 w' w0.heap.size (fun k_=>(P0_ k_∨w.heap.size≤k_)∧some k_≠(y:Value).ownBlock) (.slice ag a.length D) a)∧Aside0 (Kd.R (Kd.int .i64) 3 w' w0.heap.size (fun k_=>(P0_ k_∨w.heap.size≤k_)∧some k_≠((.slice ag a.length D):Value).ownBlock) y aa)∧Aside0 (Kept w w' (fun k_=>P0_ k_))∧Aside0 (Below w0.heap.size w0 w'))
     case atStart=>exact⟨(bn),(0),rS,H',⟨Nat.le_refl _⟩,⟨mR d⟩,⟨mR bo⟩,⟨q4x0⟩,⟨cB⟩⟩
     case round=>
      clear H';(try clear m);(try clear E);(try clear aI);(try clear bR);(try clear bf);(try clear G);(try clear aJ);(try clear ap);(try clear au);(try clear aN);(try clear bk);(try clear t);(try clear ai);(try clear u);(try clear aj);obtain⟨aa,g,rfl,HA,HK2,d,n,HK,HB⟩:=hrel
      cases gk with
      | zero=>exact absurd HA.out (by simp[spec_l10Put.l1])
      | succ k2=>
       have H:=HA.out;clear HA;simp only[spec_l10Put.l1]at H;by_cases ab:g<(a.length:Int)
       ·rw[if_pos ab]at H;have bq:=decide_eq_true ab;clear ab;replace H:=gD H;obtain⟨bS,H⟩:=H;by_cases ac:(rd a g)>b
        ·rw[if_pos ac]at H;have br:decide (b<(rd a g))=true:=decide_eq_true ac;clear ac;replace H:=gC H;obtain⟨aR,H⟩:=H;have bs:=aM aR;clear aR;obtain⟨bu,aT⟩ : ∃ y_:List Int,Aside0 (y_=(aa ++ [rd a g])):=⟨_,⟨rfl⟩⟩;rw[← aT.out]at H;have H':=aM H;clear H;have I:0≤(g:Int):=dA;have J:g<(a.length:Int):=dA;obtain⟨av,aw,bv⟩:=at_int (R_reads' d.out).2.2 g I J;cases aw;replace I:=eq_true I;replace J:=eq_true J;have ax:0≤(g:Int):=dA;have ay:g<(a.length:Int):=dA;obtain⟨bw,bx,bT⟩:=at_int (R_reads' d.out).2.2 g ax ay
         obtain rfl:av=bw:=(by injection bx)
         replace ax:=eq_true ax;replace ay:=eq_true ay
         go_wp2_with (first|((with_reducible refine gA 48 53 ?_);at_builtin;refine R_append (Kd.int .i64) (w0:=w0) w0.heap.size rfl (.tmp 48) (.tmp 53) 40 3 (.int .i64 0) 8 rfl Try.underlying40 info3 rfl (by decide) (by omega) u5 aa (rd a g) [.int .i64 (rd a g)] (fun k_=>(P0_ k_∨w.heap.size≤k_)∧some k_≠(.slice (some av) a.length D:Value).ownBlock) (fun _=>False) rfl rfl ?aP (fun _ hk=>hk.elim) ?aF ?aO ?aB ?aS ?aL ?_;(case aP=>exact rfl);(case aB=>exact cB);(case aF=>exact(fun k_ hk=>⟨(.inr (Nat.le_trans (by first|exact HK.out.1|exact(show Kept w _ (fun k_=>P0_ k_)from q4x0).1) hk)),Kd.fresh' (R_lt (mR d)) k_ hk⟩));(case aO=>exact(mR n));(case aS=>exact(below_size cB));(case aL=>have:=bs.out;omega);intro bU bV ho hb hg hat;rw[← aT.out]at ho;replace d:=aM (R_after (ok:=(fun k_=>(P0_ k_∨w.heap.size≤k_))) (mR d) hg hat);replace HB:=aM hb;replace HK:=aM (Kept.of_grown (S:=(fun k_=>P0_ k_)) hg q4x0 (fun k_ e_=>(n.out.1 k_ e_).1));have bz:=aM ho;clear n ho hb hg hat))
         go_roundg k2
         case measure=>have:=HK1.out;have:=HK2.out;omega
         case rel=>exact⟨(bu),(wrap64 (g+1)),rS,H',⟨by have:=HK1.out;have:=HK2.out;omega⟩,⟨mR d⟩,⟨mR bz⟩,⟨q4x0⟩,⟨cB⟩⟩
        ·rw[if_neg ac]at H;have br:decide (b<(rd a g))=false:=decide_eq_false ac;clear ac;have H':=aM H;clear H;have I:0≤(g:Int):=dA;have J:g<(a.length:Int):=dA;obtain⟨av,aw,bv⟩:=at_int (R_reads' d.out).2.2 g I J;cases aw;replace I:=eq_true I;replace J:=eq_true J;go_wp2;go_roundg k2
         case measure=>have:=HK1.out;have:=HK2.out;omega
         case rel=>exact⟨(aa),(wrap64 (g+1)),rS,H',⟨by have:=HK1.out;have:=HK2.out;omega⟩,⟨mR d⟩,⟨mR n⟩,⟨q4x0⟩,⟨cB⟩⟩
       ·rw[if_neg ab]at H;have bq:=decide_eq_false ab;clear ab;obtain rfl:=Option.some.inj H;go_wp2;go_ret
        exact⟨_,rE,by(with_reducible repeat(first|apply R_alloc|apply R_drewN|apply R_drew));exact R_mono n.out (fun _ hk=>hk.1),cB,q4x0⟩
end Go.Proofs.Ytfhjjfibblcklaa.PFnExactReadPolicy
