/- Parts. -/
import Derived.Test.YthimlgffanlomaaGreatDoorQL3
import Derived.Test.YthimlgffanlomaaGreatDoorQL4
set_option linter.all false
namespace Go.Proofs.Kn
open Go Go.Ev
set_option maxRecDepth 100000
noncomputable def qEE (o:Option (Ex×St)) (rs:List ResultVar):Bool:=
 match o with
 |some (.ret,st)=>(match st.mks with
  |[]=>(match vO (E x0) st.tm st.h rs with
   |some [.val (.bool true)]=>true
   |_=>false)
  |_=>false)
 |_=>false
theorem qGC {o:Option (Ex×St)} {rs:List ResultVar} (h:qEE o rs=true): ∃st,o=some (.ret,st)/\st.mks=[]/\vO (E x0) st.tm st.h rs=some [.val (.bool true)]:=by
 unfold qEE at h;split at h
 ·rename_i st;split at h
  ·rename_i hm;split at h
   ·rename_i hr;exact ⟨st,rfl,hm,hr⟩
   ·cases h
  ·cases h
 ·cases h
theorem stepEnd:qEE ((ev (E x0) 100000 2000).code none cd6 kst6) [.tmp 0]=true:=by kernel_rfl
theorem isSeqs:(qBQ cd0 && qBQ cd1 && qBQ cd2 && qBQ cd3 && qBQ cd4 && qBQ cd5)=true:=by kernel_rfl
theorem body8:Tryz.f6.body=some cd0:=by kernel_rfl
theorem results8:Tryz.f6.results.toList=[.tmp 0]:=by kernel_rfl
theorem ft8:(E x0).ft.get 6=some Tryz.f6:=by kernel_rfl
theorem kst0_eq:kst0={tm:=argsTo [] 0 .e,nt:=([]:List AV).length+(Tryz.f6.ntmps - ([]:List AV).length),h:={t:= .e,n:=0},mks:=[]}:=by kernel_rfl
theorem known_ok (w:World):Calls Tryz.prog 6 #[] w fun e w'=>e= .returned (.bool true)/\RowKit.Below w.heap.size w w':=by
 obtain ⟨st,h1,h2,h3⟩:=qGC stepEnd;have hs:=isSeqs;simp only [Bool.and_eq_true] at hs;obtain ⟨⟨⟨⟨⟨q0,q1⟩,q2⟩,q3⟩,q4⟩,q5⟩:=hs;have hE:SemC (E x0) none cd6 kst6 .ret st:=SemC.of (xG x0 100000 2000).1 h1;have hall:SemC (E x0) none cd0 kst0 .ret st:=
  SemC.step q0 step0<|SemC.step q1 step1<|SemC.step q2 step2<|SemC.step q3 step3<|SemC.step q4 step4<|SemC.step q5 step5 hE
 rw [kst0_eq] at hall;obtain ⟨n1,hc⟩:=SemC.enter (ftok x0) qAu ft8 body8 hall (by rw [h2];rfl) (.inr rfl) (by rw [results8];exact h3);have:=hc st.h.n (Nat.le_refl _) noCtx w [] (good_none _ w) (fun _ _ h=>by cases h) RL.nil;refine callsIn_wide.1 (this.mono ?_);rintro e w' ⟨c',hst,y,rfl,hy⟩;refine ⟨?_,hst.belowOf⟩;simp only [zJ,R] at hy;rw [hy]
end Go.Proofs.Kn
