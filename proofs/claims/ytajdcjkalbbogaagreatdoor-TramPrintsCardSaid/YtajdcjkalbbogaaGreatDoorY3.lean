/- A part of the proof. -/
import Derived.Test.YtajdcjkalbbogaaGreatDoorY2
set_option maxRecDepth 100000
set_option maxHeartbeats 8000000
set_option linter.all false
namespace Go.AL
section
variable{P:Program}{GI:World->Prop}{n:Nat}{ro:Option Nat}{old:Old}{S:an}{H:ao}{Q:eW}
def SW.last (hG:ar GI) (hm:P.follows .mixedOrders=true) {x:Code} (hc:kY x=true) {ac:ah} (oI:dw P n x=ac) (bW:∀ d∈ac.names,¬ old.bx d) (K:an→ao→Prop) (h:bD P GI ac (aN K) S H)
  (hy:∀S' H',K S' H'->Q .normal old S' H'):SW P GI n ro x Q old S H:=by
 subst oI;intro w0 g a w m cq ho R;refine ae1 (jb hG cq hm x (aN K) g S H a w hc bW ho R h) ?_;intro e a' w' hq
 cases e with
 |normal=>
  obtain⟨g',S',H',h1,h2,h3⟩:=hq;exact⟨g',S',H',h2,by rw[h1];exact hy S' H' h3⟩
 |exit id=>obtain⟨_,_,_,_,_,h⟩:=hq;exact h.elim
 |ret=>obtain⟨_,_,_,_,_,h⟩:=hq;exact h.elim
 |panic ch=>obtain⟨_,_,_,_,_,_,_,_,_,_,h⟩:=hq;exact h.elim
 |goto l=>exact hq.elim
 |outgrown=>exact hq.elim
end
end Go.AL
