import Derived.Test.YtggfmlobpmndoaaGreatDoorVsW5
import Derived.Test.YtggfmlobpmndoaaGreatDoorVsQga
set_option linter.all false
namespace Go.Vs
noncomputable section
def zRow:Row:=([],((0,[]),((0,[]),(0,false))))
theorem noCell_len {c:Cell}(h:noCell c=true):c.2.length=0:=by rw[noCell_eq h];rfl
theorem rowOk_sm {r:Row}(h:rowOk r=true):smR 60 r:=by
 obtain⟨a,b,c,d,e,_⟩:=rowOk_has h
 have h1:=(nameOk_len a).2
 refine⟨by omega, ?_, ?_⟩
 ·by_cases h2:r.2.2.2.1=2
  ·rw[rOldOk,if_pos h2] at d
   have:=noCell_len d;omega
  ·have:=(rOldOk_some d h2).2.2.1;omega
 ·by_cases h2:r.2.2.2.1=1
  ·rw[rNewOk,if_pos h2] at e
   have:=noCell_len e;omega
  ·have:=(rNewOk_some e h2).2.2;omega
theorem pRow_some {t q:List UInt8}{r:Row}(h:pRow0 t=some (r,q)):pRow t=if rowOk r=true then some (r,q) else none:=by
 unfold pRow;rw[h]
theorem pRow_none {t:List UInt8}(h:pRow0 t=none):pRow t=none:=by
 unfold pRow;rw[h]
theorem Rd.of {l:List UInt8}{a:Int}(h:0<=a/\a<=l.length):Rd l a (suf l a):=⟨h.1,h.2,rfl⟩
theorem pRow_len {t q:List UInt8}{r:Row}(h:pRow0 t=some (r,q)):r.1.length<=60:=by
 unfold pRow0 at h
 split at h
 ·cases h
 ·rename_i hk
  have:=(textB_of hk).2
  repeat (first | (split at h;· cases h) | split at h)
  all_goals first | (cases h;done) | (simp only[Option.some.injEq,Prod.mk.injEq] at h;obtain⟨rfl,rfl⟩:=h;exact this)
end
end Go.Vs
