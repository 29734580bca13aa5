/- A part of the proof. -/
import Derived.Test.YtajdcjkalbbogaaGreatDoorZ2
set_option maxRecDepth 100000
set_option maxHeartbeats 8000000
set_option linter.all false
namespace Go.AL
section
variable{P:Program}{GI:World->Prop}{n:Nat}{ro:Option Nat}{old:Old}{S:au}{H:aD}{Q:fG}
def SW.last (hG:aQ GI) (hm:P.follows .mixedOrders=true) {x:Code} (hc:lX x=true) {ac:ah} (pA:ez P n x=ac) (du:∀ d∈ac.names,¬ old.bx d) (K:au→aD→Prop) (h:cW P GI ac (aq K) S H)
  (hy:∀S' H',K S' H'->Q .normal old S' H'):SW P GI n ro x Q old S H:=by
 subst pA;intro w0 g a w m dI ho R;refine afR (jI hG dI hm x (aq K) g S H a w hc du ho R h) ?_;intro e a' w' hq
 cases e with
 |normal=>
  obtain⟨g',S',H',h1,h2,h3⟩:=hq;exact⟨g',S',H',h2,by rw[h1];exact hy S' H' h3⟩
 |exit id=>obtain⟨_,_,_,_,_,h⟩:=hq;exact h.elim
 |ret=>obtain⟨_,_,_,_,_,h⟩:=hq;exact h.elim
 |panic ch=>obtain⟨_,_,_,_,_,_,_,_,_,_,h⟩:=hq;exact h.elim
 |goto l=>exact hq.elim
 |outgrown=>exact hq.elim
end
end Go.AL
