/- Parts of the proof, joined by a program. -/
import Derived.Test.YtmklipblkmlojaaGreatDoorQL3
import Derived.Test.YtmklipblkmlojaaGreatDoorQL4
set_option linter.all false
namespace Go.Proofs.Kn
open Go Go.Ev
set_option maxRecDepth 100000
noncomputable def qB3 (o:Option (Ex×St)) (rs:List ResultVar):Bool:=
 match o with
 |some (.ret,st)=>(match st.mks with
  |[]=>(match vE (E x0) st.tm st.h rs with
   |some [.val (.bool true)]=>true
   |_=>false)
  |_=>false)
 |_=>false
theorem qDv {o:Option (Ex×St)} {rs:List ResultVar} (h:qB3 o rs=true): ∃st,o=some (.ret,st)/\st.mks=[]/\vE (E x0) st.tm st.h rs=some [.val (.bool true)]:=by
 unfold qB3 at h;split at h
 ·rename_i st;split at h
  ·rename_i hm;split at h
   ·rename_i hr;exact ⟨st,rfl,hm,hr⟩
   ·cases h
  ·cases h
 ·cases h
theorem stepEnd:qB3 ((ev (E x0) 100000 2000).code none cd10 kst10) [.tmp 0]=true:=by kernel_rfl
theorem isSeqs:(uB cd0 && uB cd1 && uB cd2 && uB cd3 && uB cd4 && uB cd5 && uB cd6 && uB cd7 && uB cd8 && uB cd9)=true:=by kernel_rfl
theorem body8:Tryz.f7.body=some cd0:=by kernel_rfl
theorem results8:Tryz.f7.results.toList=[.tmp 0]:=by kernel_rfl
theorem ft8:(E x0).ft.get 7=some Tryz.f7:=by kernel_rfl
theorem kst0_eq:kst0={tm:=argsTo [] 0 .e,nt:=([]:List AV).length+(Tryz.f7.ntmps - ([]:List AV).length),h:={t:= .e,n:=0},mks:=[]}:=by kernel_rfl
theorem known_ok (w:World):Calls Tryz.prog 7 #[] w fun e w'=>e= .returned (.bool true)/\RowKit.Below w.heap.size w w':=by
 obtain ⟨st,h1,h2,h3⟩:=qDv stepEnd;have hs:=isSeqs;simp only [Bool.and_eq_true] at hs;obtain ⟨⟨⟨⟨⟨⟨⟨⟨⟨q0,q1⟩,q2⟩,q3⟩,q4⟩,q5⟩,q6⟩,q7⟩,q8⟩,q9⟩:=hs;have hE:SemC (E x0) none cd10 kst10 .ret st:=SemC.of (zR x0 100000 2000).1 h1;have hall:SemC (E x0) none cd0 kst0 .ret st:=
  SemC.step q0 step0<|SemC.step q1 step1<|SemC.step q2 step2<|SemC.step q3 step3<|SemC.step q4 step4<|SemC.step q5 step5<|SemC.step q6 step6<|SemC.step q7 step7<|SemC.step q8 step8<|SemC.step q9 step9 hE
 rw [kst0_eq] at hall;obtain ⟨n1,hc⟩:=SemC.enter (ftok x0) wO ft8 body8 hall (by rw [h2];rfl) (.inr rfl) (by rw [results8];exact h3);have:=hc st.h.n (Nat.le_refl _) noCtx w [] (good_none _ w) (fun _ _ h=>by cases h) RL.nil;refine callsIn_wide.1 (this.mono ?_);rintro e w' ⟨c',hst,y,rfl,hy⟩;refine ⟨?_,hst.belowOf⟩;simp only [zB,R] at hy;rw [hy]
end Go.Proofs.Kn
