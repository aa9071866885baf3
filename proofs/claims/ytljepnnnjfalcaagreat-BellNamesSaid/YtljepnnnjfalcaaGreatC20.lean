/- A condition generator over the model's code, proved sound: what a function's body must come to is told as conditions on plain data. Conditions: none of ours. -/
import Derived.Calls
import GoSem.Step
set_option autoImplicit false
set_option linter.all false
namespace Go.VM
open Go
theorem ask_dr {α:Type}:∀ (x:Ask α) (w:World),w.drawn≤(w.ask x).2.drawn
 | .done a,w=>Nat.le_refl _
 | .ask what range k,w=>by
   rw [World.ask]
   split
   ·exact ask_dr _ _
   ·exact Nat.le_trans (Nat.le_succ _) (ask_dr _ { w with drawn:=w.drawn + 1 })
theorem sys_dr (w:World) (c:Sys):w.drawn≤(w.sys c).2.drawn:=by
 unfold World.sys
 have:=ask_dr (Kernel.perform c w.os) w
 split
 ·exact Nat.le_refl _
 ·rename_i r os w' h
  rw [h] at this; exact this
theorem freeze_dr (w:World) (a:Addr) (n:Nat):(w.freeze a n).drawn = w.drawn:=by
 unfold World.freeze; split <;> rfl
def _root_.Go.Result.wo {α:Type}:Result α→World
 | .ok _ w=>w
 | .halt _ w=>w
theorem bindE {α β ε:Type} {x:Except ε α} {f:α→Except ε β} {b:β} (h:(x >>= f) = .ok b):∃ a,x = .ok a∧f a = .ok b:=by
 cases x with
 | error e=>cases h
 | ok a=>exact ⟨a,rfl,h⟩
theorem viewStore_dr {w w':World} {p:Program} {at_:Addr} {u:TypeId} {a:Addr} {v:Value} {b:Bool} {t:List Addr} (h:w.viewStore p at_ u a v b = .ok (w',t)):w'.drawn = w.drawn:=by
 unfold World.viewStore at h
 have key:∀ (r:Except String (World × List Addr)),r = .ok (w',t)→(∀ x,r = .ok x→x.1.drawn = w.drawn)→w'.drawn = w.drawn:=fun r hr hx=>hx _ hr
 refine key _ h (fun x hx=>?_)
 clear h key
 repeat' first
  | (cases hx; done)
  | (cases hx; rfl)
  | (obtain ⟨a1,hy,hx2⟩:=bindE hx; clear hx; have hx:=hx2; clear hx2)
  | split at hx
theorem farStore_dr {w w':World} {p:Program} {a:Addr} {v:Value} {b:Bool} {t:List Addr} (h:w.farStore p a v b = .ok (w',t)):w'.drawn = w.drawn:=by
 unfold World.farStore at h
 split at h
 ·split at h
  ·rename_i hr
   cases h; exact viewStore_dr hr
  ·cases h
 ·cases h
theorem run_dr {α:Type} {p:Program}:∀ (s:Sem α) (w:World),w.drawn≤(s.run p w).wo.drawn:=by
 intro s
 induction s with
 | pure a=>exact fun w=>Nat.le_refl _
 | load m a k ih =>
   intro w; simp only [Sem.run]
   split
   ·exact ih _ w
   ·split
    ·exact ih _ w
    ·exact Nat.le_refl _
 | store m a v k ih =>
   intro w
   have gen:w.drawn≤(match w.cell? a with
    | some _=>if w.frozen? a then Result.halt (.unsupported (.unsafePointer "a write to bytes that a string shares")) w else k.run p (w.setCell a v)
    | none=>match w.farStore p a v (m == Mode.atomic) with
      | .ok (w,_)=>k.run p w
      | .error h=>.halt h w).wo.drawn:=by
    split
    ·split
     ·exact Nat.le_refl _
     ·exact ih (w.setCell a v)
    ·split
     ·rename_i h
      exact Nat.le_trans (Nat.le_of_eq (farStore_dr h).symm) (ih _)
     ·exact Nat.le_refl _
   cases v <;> first | exact Nat.le_refl _ | exact gen
 | new o k ih=>exact fun w=>ih _ { w with heap:=w.heap.push o }
 | shape r k ih=>exact fun w=>ih _ w
 | freeze a n k ih=>intro w; simp only [Sem.run]; have:=ih (w.freeze a n); rwa [freeze_dr] at this
 | frozen a k ih=>exact fun w=>ih _ w
 | getObj r k ih =>
   intro w; simp only [Sem.run]
   split
   ·exact Nat.le_refl _
   ·exact ih _ w
   ·exact Nat.le_refl _
 | setObj r o k ih =>
   intro w; simp only [Sem.run]
   split
   ·exact Nat.le_refl _
   ·exact ih { w with heap:=w.heap.setIfInBounds r o }
   ·exact Nat.le_refl _
 | choose q k ih =>
   intro w; simp only [Sem.run]
   split
   ·exact ih _ w
   ·exact Nat.le_trans (Nat.le_succ _) (ih _ { w with drawn:=w.drawn + 1 })
 | sys c k ih=>exact fun w=>Nat.le_trans (sys_dr w c) (ih _ _)
 | program k ih=>exact fun w=>ih _ w
 | mark m k ih=>exact fun w=>ih w
 | halt h=>exact fun w=>Nat.le_refl _
theorem runT_dr {α:Type} {p:Program}:∀ (s:Sem α) (w:World) (es:Array Event),w.drawn≤(s.runT p w es).1.wo.drawn:=by
 intro s
 induction s with
 | pure a=>exact fun w es=>Nat.le_refl _
 | load m a k ih =>
   intro w es; simp only [Sem.runT]
   split
   ·exact ih _ w _
   ·split
    ·exact ih _ w _
    ·exact Nat.le_refl _
 | store m a v k ih =>
   intro w es
   have gen:w.drawn≤(match w.cell? a with
    | some _=>if w.frozen? a then (Result.halt (.unsupported (.unsafePointer "a write to bytes that a string shares")) w,es) else k.runT p (w.setCell a v) (es.push ⟨.cell a,true,m == Mode.atomic⟩)
    | none=>match w.farStore p a v (m == Mode.atomic) with
      | .ok (w,touched)=>k.runT p w (es ++ touched.toArray.map (fun x=>(⟨.cell x,true,m == Mode.atomic⟩:Event)))
      | .error h=>(.halt h w,es)).1.wo.drawn:=by
    split
    ·split
     ·exact Nat.le_refl _
     ·exact ih (w.setCell a v) _
    ·split
     ·rename_i h
      exact Nat.le_trans (Nat.le_of_eq (farStore_dr h).symm) (ih _ _)
     ·exact Nat.le_refl _
   cases v <;> first | exact Nat.le_refl _ | exact gen
 | new o k ih=>exact fun w es=>ih _ { w with heap:=w.heap.push o } _
 | shape r k ih=>exact fun w es=>ih _ w _
 | freeze a n k ih=>intro w es; simp only [Sem.runT]; have:=ih (w.freeze a n) es; rwa [freeze_dr] at this
 | frozen a k ih=>exact fun w es=>ih _ w _
 | getObj r k ih =>
   intro w es; simp only [Sem.runT]
   split
   ·exact Nat.le_refl _
   ·exact ih _ w _
   ·exact Nat.le_refl _
 | setObj r o k ih =>
   intro w es; simp only [Sem.runT]
   split
   ·exact Nat.le_refl _
   ·exact ih { w with heap:=w.heap.setIfInBounds r o } _
   ·exact Nat.le_refl _
 | choose q k ih =>
   intro w es; simp only [Sem.runT]
   split
   ·exact ih _ w _
   ·exact Nat.le_trans (Nat.le_succ _) (ih _ { w with drawn:=w.drawn + 1 } _)
 | sys c k ih=>exact fun w es=>Nat.le_trans (sys_dr w c) (ih _ _ _)
 | program k ih=>exact fun w es=>ih _ w _
 | mark m k ih=>exact fun w es=>ih w _
 | halt h=>exact fun w es=>Nat.le_refl _
theorem YC {α:Type} {p:Program} {s:Sem α} {w w':World} {a:α} (h:s.run p w = .ok a w'):w.drawn≤w'.drawn:=by
 have:=run_dr (p:=p) s w; rw [h] at this; exact this
theorem XH {α:Type} {p:Program} {s:Sem α} {w w':World} {a:Halt} (h:s.run p w = .halt a w'):w.drawn≤w'.drawn:=by
 have:=run_dr (p:=p) s w; rw [h] at this; exact this
theorem runT_ok {α:Type} {p:Program} {s:Sem α} {w w':World} {a:α} {es es':Array Event} (h:s.runT p w es = (.ok a w',es')):w.drawn≤w'.drawn:=by
 have:=runT_dr (p:=p) s w es; rw [h] at this; exact this
theorem Xt {α:Type} {p:Program} {s:Sem α} {w w':World} {a:Halt} {es es':Array Event} (h:s.runT p w es = (.halt a w',es')):w.drawn≤w'.drawn:=by
 have:=runT_dr (p:=p) s w es; rw [h] at this; exact this
theorem YD {α:Type} {p:Program} {s:Sem α} {w w':World} {a:α} {es:Array Event} (h:(s.runT p w es).1 = .ok a w'):w.drawn≤w'.drawn:=by
 have:=runT_dr (p:=p) s w es; rw [h] at this; exact this
theorem Y9 {α:Type} {p:Program} {s:Sem α} {w w':World} {a:Halt} {es:Array Event} (h:(s.runT p w es).1 = .halt a w'):w.drawn≤w'.drawn:=by
 have:=runT_dr (p:=p) s w es; rw [h] at this; exact this
def GD (n:Nat):GStep→Prop
 | .go _ w _ | .comm _ _ _ _ w _ | .spawn _ _ w _ | .count _ w _ | .timer _ _ w _ | .alone _ _ w _ | .newcoro _ _ _ w _ | .coroswitch _ _ _ w _ | .collect _ w _ | .watch _ w _=>n≤w.drawn
 | .ended ..=>True
theorem GD.after {n:Nat} {g:GStep} (es:Array Event) (h:GD n g):GD n (g.after es):=by cases g <;> exact h
theorem GD.mono {n m:Nat} {g:GStep} (h:GD m g) (hn:n≤m):GD n g:=by cases g <;> first | exact Nat.le_trans hn h | trivial
theorem GD.ite {n:Nat} {c:Prop} [Decidable c] {a b:GStep} (ha:GD n a) (hb:GD n b):GD n (if c then a else b):=by split <;> assumption
theorem Xk {n:Nat} {w:World} (fr:Frame) (m:String) (h:n≤w.drawn):GD n (endThrow fr m w):=h
theorem endThrow_go {n:Nat} {w w':World} {fr:Frame} {m:String} {g:Goroutine} {es:Array Event} (he:endThrow fr m w = .go g w' es) (h:n≤w.drawn):n≤w'.drawn:=by
 have:=Xk (n:=n) fr m h
 rw [he] at this; exact this
theorem endPrinting_dr {n:Nat} {w:World} (p:Program) (fr:Frame) (v:Value) (h:n≤w.drawn):GD n (endPrinting p fr v w):=by
 unfold endPrinting
 simp only
 split
 ·exact h
 ·trivial
theorem endFatal_dr {n:Nat} {w:World} (p:Program) (fr:Frame) (cs:List Frame) (d:Option Dying) (m:String) (h:n≤w.drawn):GD n (endFatal p fr cs d m w):=by
 unfold endFatal
 simp only
 split
 ·rename_i hr
  exact Nat.le_trans h (YC hr)
 ·trivial
 ·trivial
theorem endWith_dr {n:Nat} {w:World} (fd:Nat) (t:ByteArray) (o:Outcome):GD n (endWith w fd t o):=by
 unfold endWith
 simp only
 split
 ·split <;> trivial
 ·trivial
 ·trivial
theorem writeOn_dr {n:Nat} {w:World} (p:Program) (fr:Frame) (d:Dying) (f:Fatal) (h:n≤w.drawn):GD n (writeOn p fr d f w):=by
 unfold writeOn
 simp only
 split
 ·trivial
 ·split
  ·rename_i hr
   exact Nat.le_trans h (runT_ok hr)
  ·rename_i hr
   exact Nat.le_trans h (Xt hr)
  ·trivial
  ·trivial
theorem die_dr {n:Nat} {w:World} (p:Program) (fr:Frame) (d:Dying) (h:n≤w.drawn):GD n (die p fr d w):=by
 unfold die
 split
 ·exact writeOn_dr p fr d _ h
 ·simp only
  split
  ·split
   ·exact h
   ·exact endWith_dr _ _ _
  ·split
   ·exact h
   ·split
    ·rename_i hr
     exact Nat.le_trans h (YC hr)
    ·trivial
   ·refine GD.after _ ?_
    split
    all_goals first | trivial | skip
    all_goals
     rename_i hr
     first | exact Nat.le_trans h (by first | exact YC hr | exact XH hr | exact runT_ok hr | exact Xt hr | exact YD hr | exact Y9 hr) | exact endPrinting_dr _ _ _ (Nat.le_trans h (by first | exact YC hr | exact XH hr | exact runT_ok hr | exact Xt hr | exact YD hr | exact Y9 hr))
   ·trivial
theorem Y3 {n:Nat} {w:World} (p:Program) (main:Bool) (fr:Frame) (cs:List Frame) (d:Option Dying) (v:Value) (h:n≤w.drawn):GD n (doReturn p main fr cs d v w):=by
 unfold doReturn
 repeat' first | exact h | trivial | split
theorem callDeferred_dr {n:Nat} {w:World} (p:Program) (fr:Frame) (cs:List Frame) (d:Option Dying) (df:Deferred) (h:n≤w.drawn):GD n (callDeferred p fr cs d df w):=by
 unfold callDeferred
 refine GD.ite trivial ?_
 simp only
 refine GD.after _ ?_
 split
 all_goals rename_i hr
 all_goals first
  | trivial
  | exact Nat.le_trans h (by first | exact YC hr | exact XH hr | exact runT_ok hr | exact Xt hr | exact YD hr | exact Y9 hr)
  | exact endFatal_dr _ _ _ _ _ (Nat.le_trans h (by first | exact YC hr | exact XH hr | exact runT_ok hr | exact Xt hr | exact YD hr | exact Y9 hr))
  | exact Xk _ _ (Nat.le_trans h (by first | exact YC hr | exact XH hr | exact runT_ok hr | exact Xt hr | exact YD hr | exact Y9 hr))
  | skip
 split <;> exact Nat.le_trans h (YD hr)
theorem unwind_dr {n:Nat} {w:World} (p:Program) (main:Bool) (fr:Frame) (cs:List Frame) (d:Option Dying) (h:n≤w.drawn):GD n (unwind p main fr cs d w):=by
 unfold unwind
 split
 ·simp only
  refine GD.after _ ?_
  split
  ·rename_i hr; exact Nat.le_trans h (YD hr)
  ·trivial
 ·exact callDeferred_dr _ _ _ _ _ h
 ·split
  ·trivial
  ·split
   ·trivial
   split
   ·exact h
   ·split
    ·split
     ·exact h
     ·split
      ·rename_i hr; exact Nat.le_trans h (YC hr)
      ·trivial
      ·trivial
    ·split
     ·exact endPrinting_dr _ _ _ h
     ·trivial
  ·split
   ·exact Y3 _ _ _ _ _ _ h
   ·simp only
    refine GD.after _ ?_
    split
    ·rename_i hr; exact Y3 _ _ _ _ _ _ (Nat.le_trans h (YD hr))
    ·trivial
    ·trivial
theorem early_dr {n:Nat} {w:World} (p:Program) (fr:Frame) (cs:List Frame) (d:Option Dying) (g:Nat) (h:n≤w.drawn):GD n (early p fr cs d g w):=by
 have ny:∀ w:World,n≤w.drawn→GD n (match w.heap[g]? with
  | some (.pending c elem)=>.go { frame:=fr,callers:=cs,status:=.running,dying:=d } { w with heap:=w.heap.setIfInBounds g (.cells c elem) }
  | _=>.ended (.stuck "early: the variable does not wait" (fr.pos p)) w):=fun w h=>by
  split
  ·exact h
  ·trivial
 unfold early
 simp only
 split
 ·exact ny w h
 split
 ·trivial
 split
 ·exact ny w h
 split
 ·exact ny w h
 split
 ·trivial
 ·exact h
 ·trivial
 ·exact ny w h
 ·split
  ·exact h
  split
  ·exact ny w h
  split
  ·rename_i hr; exact ny _ (Nat.le_trans h (YC hr))
  ·rename_i hr; exact Nat.le_trans h (YC hr)
  ·trivial
theorem apply_dr {n:Nat} {w:World} (p:Program) (listen:Bool) (fr:Frame) (cs:List Frame) (d:Option Dying) (s:Sem Next) (h:n≤w.drawn):GD n (stepG.apply p listen fr cs d s w):=by
 unfold stepG.apply
 simp only
 refine GD.after _ ?_
 have hl:∀ x:Result Next × Array Event,x = (if listen = true then s.runT p w #[] else (s.run p w,#[]))→w.drawn≤x.1.wo.drawn:=fun x hx=>by
  rw [hx]; split
  ·exact runT_dr _ _ _
  ·exact run_dr _ _
 generalize hx:(if listen = true then s.runT p w #[] else (s.run p w,#[])) = x at *
 have hl:=Nat.le_trans h (hl x rfl)
 obtain ⟨r,es⟩:=x
 clear hx
 simp only at hl ⊢
 cases r with
 | ok a w' =>
   have hl:n≤w'.drawn:=hl
   cases a <;> try simp only
   all_goals first
    | exact hl
    | exact GD.ite (Xk _ _ hl) hl
    | (split <;> first | exact hl | exact Xk _ _ hl)
    | skip
 | halt a w' =>
   have hl:n≤w'.drawn:=hl
   cases a <;> try simp only
   all_goals first
    | exact hl
    | trivial
    | exact endFatal_dr _ _ _ _ _ hl
    | exact Xk _ _ hl
    | skip
   rename_i _ u _
   cases u
   all_goals first
    | trivial
    | exact early_dr _ _ _ _ _ hl
theorem oper_dr {n:Nat} {w:World} (p:Program) (listen:Bool) (fr:Frame) (cs:List Frame) (d:Option Dying) (h:n≤w.drawn):GD n (stepG.oper p listen fr cs d w):=by
 unfold stepG.oper
 split
 ·trivial
 ·split <;> exact apply_dr _ _ _ _ _ _ h
theorem exec_dr {n:Nat} {w:World} (p:Program) (main listen:Bool) (fr:Frame) (cs:List Frame) (d:Option Dying) (h:n≤w.drawn):GD n (stepG.exec p main listen fr cs d w):=by
 unfold stepG.exec
 simp only
 split
 all_goals first
  | exact h
  | trivial
  | exact apply_dr _ _ _ _ _ _ h
  | skip
 ·split
  ·exact GD.ite h trivial
  ·refine GD.after _ ?_
   split
   ·rename_i hr; exact Y3 _ _ _ _ _ _ (Nat.le_trans h (YD hr))
   ·trivial
 ·split
  ·exact GD.ite h trivial
  ·refine GD.after _ ?_
   split
   ·rename_i hr; exact Y3 _ _ _ _ _ _ (Nat.le_trans h (YD hr))
   ·trivial
 ·split
  ·exact h
  ·trivial
 ·unfold Option.elim
  split
  ·exact h
  ·split
   ·exact GD.ite h trivial
   ·refine GD.after _ ?_
    split
    ·rename_i hr; exact Y3 _ _ _ _ _ _ (Nat.le_trans h (YD hr))
    ·trivial
 ·unfold Option.elim
  split
  ·exact h
  ·split
   ·exact GD.ite h trivial
   ·refine GD.after _ ?_
    split
    ·rename_i hr; exact Y3 _ _ _ _ _ _ (Nat.le_trans h (YD hr))
    ·trivial
 ·refine GD.after _ ?_
  split
  ·rename_i hr; exact apply_dr _ _ _ _ _ _ (Nat.le_trans h (YD hr))
  ·trivial
 ·refine GD.after _ ?_
  split
  ·rename_i hr; exact Nat.le_trans h (YD hr)
  ·rename_i hr; exact Nat.le_trans h (Y9 hr)
  ·trivial
 ·unfold Option.elim
  split
  ·exact apply_dr _ _ _ _ _ _ h
  ·trivial
 ·refine GD.ite h ?_
  split
  ·rename_i hr; exact Nat.le_trans h (YC hr)
  ·trivial
 ·exact GD.ite (oper_dr _ _ _ _ _ h) h
theorem stepG_dr {n:Nat} {w:World} (p:Program) (main:Bool) (g:Goroutine) (listen:Bool) (h:n≤w.drawn):GD n (stepG p main g w listen):=by
 unfold stepG
 simp only
 split
 ·exact die_dr _ _ _ h
 ·exact exec_dr _ _ _ _ _ _ h
 ·exact unwind_dr _ _ _ _ _ h
def SD (n:Nat):Stepped→Prop
 | .next m=>n≤m.world.drawn
 | .ended ..=>True
theorem SD.ite {n:Nat} {c:Prop} [Decidable c] {a b:Stepped} (ha:SD n a) (hb:SD n b):SD n (if c then a else b):=by split <;> assumption
theorem SD.ite1 {n:Nat} {β:Type} {c:Prop} [Decidable c] {a b:Stepped × β} (ha:SD n a.1) (hb:SD n b.1):SD n (if c then a else b).1:=by split <;> assumption
theorem waitingAt_dr {rest:Rest} {cases:Array CommCase} {w w':World} (h:waitingAt rest cases w = some w'):w'.drawn = w.drawn:=by
 unfold waitingAt at h
 split at h
 ·split at h
  ·cases h; rfl
  ·cases h
 ·cases h; rfl
theorem communicate_dr {n:Nat} {w:World} (p:Program) (rest:Rest) (gs:Array Goroutine) (i:Nat) (g:Goroutine) (cases:Array CommCase) (blocking:Bool) (shape:CommShape) (h:n≤w.drawn):SD n (communicate p rest gs i g cases blocking shape w).1:=by
 unfold communicate
 simp only
 refine SD.ite1 trivial (SD.ite1 (SD.ite1 ?_ h) ?_)
 ·split
  ·rename_i hr; exact Nat.le_trans h (Nat.le_of_eq (waitingAt_dr hr).symm)
  ·trivial
 ·split
  ·trivial
  ·rename_i hr
   have h:=Nat.le_trans h (YC hr)
   split
   ·split
    ·rename_i hr2; exact Nat.le_trans h (XH hr2)
    ·trivial
   ·exact h
   ·exact h
   ·split
    ·exact h
    ·split
     ·rename_i hr2; have h2:=YC hr2; exact Nat.le_trans h h2
     ·trivial
   ·exact h
   ·exact h
   ·trivial
theorem look_dr {n:Nat} {w:World} (p:Program) (gs:Array Goroutine) (rest:Rest) (h:n≤w.drawn):SD n (look p gs rest w):=by
 unfold look
 split
 ·simp only
  refine SD.ite trivial ?_
  split
  ·trivial
  ·split
   ·rename_i hr; have h2:=YC hr; exact Nat.le_trans h h2
   ·trivial
   ·trivial
 ·trivial
theorem serve_dr {n:Nat} {m:Machine} (p:Program) (k:Nat) (h:n≤m.world.drawn):SD n (serve p m k):=by
 unfold serve
 split
 ·trivial
 ·exact h
 ·simp only
  split
  ·trivial
  ·exact h
theorem drain_dr (w:World) (c:Nat):(drain w c).2.drawn = w.drawn:=by unfold drain; split <;> rfl
theorem retime_dr (m:Machine) (k:Nat) (t:Timer) (a b:Nat):(retime m k t a b).2.world.drawn = m.world.drawn:=by
 unfold retime
 simp only
 split
 ·exact drain_dr _ _
 ·rfl
theorem timerOp_dr {m m':Machine} {op:TimerOp} {v:Value} (h:timerOp m op = .ok (v,m')):m'.world.drawn = m.world.drawn:=by
 have op1:∀ (var:Addr) (m1:Machine),timerOp.opened m var = some m1→m1.world.drawn = m.world.drawn:=fun var m1 h=>by
  unfold timerOp.opened at h
  split at h
  ·split at h
   ·cases h; rfl
   ·cases h
  ·cases h; rfl
 have nm:∀ (m1:Machine) (var:Addr) (f:Nat→Timer→Value × Machine),(∀ k t,(f k t).2.world.drawn = m1.world.drawn)→∀ r,timerOp.named m var f = .ok r→r.2.world.drawn = m1.world.drawn:=fun m1 var f hf r h=>by
  unfold timerOp.named at h
  split at h
  ·cases h; exact hf _ _
  ·cases h
 unfold timerOp at h
 split at h
 ·split at h
  ·cases h; rfl
  ·split at h
   ·split at h
    ·cases h
    ·cases h; rfl
   ·cases h
 ·exact nm m _ _ (fun k t=>retime_dr _ _ _ _ _) _ h
 ·split at h
  ·rename_i m1 hm1
   exact (nm m1 _ _ (fun k t=>retime_dr _ _ _ _ _) _ h).trans (op1 _ _ hm1)
  ·cases h
 ·cases h; rfl
theorem gsrun_dr {n:Nat} (p:Program) (m:Machine) (i:Nat) (listen:Bool) (h:n≤m.world.drawn):SD n (runT p m i listen).1:=by
 unfold runT
 simp only
 generalize hs:stepG p (i == 0) _ m.world listen = s
 have hg:GD n s:=by rw [← hs]; exact stepG_dr _ _ _ _ h
 clear hs
 cases s
 all_goals first
  | exact hg
  | trivial
  | exact communicate_dr _ _ _ _ _ _ _ _ hg
  | exact look_dr _ _ _ hg
  | skip
 ·simp only
  exact SD.ite trivial hg
 ·have hg':n≤_:=hg
  simp only
  split
  ·rename_i ht
   exact Nat.le_trans hg' (Nat.le_of_eq (timerOp_dr ht).symm)
  ·split
   ·rename_i he
    exact endThrow_go he hg'
   ·trivial
  ·trivial
  ·trivial
 ·have hg':n≤_:=hg
  simp only
  split
  ·exact hg
  ·split
   ·rename_i he
    exact endThrow_go he hg'
   ·trivial
  ·trivial
def MD (n:Nat):Move→Prop
 | .goroutine m _=>n≤m.world.drawn
 | .machine s _=>SD n s
theorem askOn_dr {n:Nat} (p:Program) (m:Machine) (h:n≤m.world.drawn):MD n (askOn p m):=by
 have pick:∀ (rs:List Nat) (m:Machine),n≤m.world.drawn→MD n (match (choose (.sched rs.length)).run p m.world with
   | .halt _ w=>.machine (.ended (.stuck "sched" "") w)
   | .ok k world =>
     if rs.length≤1 then .goroutine { m with world } (rs.getD k 0) else
     match (choose (.extern "sched.slice" 65536)).run p world with
     | .halt _ w=>.machine (.ended (.stuck "sched.slice" "") w)
     | .ok n world=>.goroutine { m with world,rest:={ m.rest with slice:=if n = 0 then none else some (rs.getD k 0,n) } } (rs.getD k 0)):=fun rs m h=>by
  split
  ·trivial
  ·rename_i hr
   have h:=Nat.le_trans h (YC hr)
   split
   ·exact h
   ·split
    ·trivial
    ·rename_i hr2; exact Nat.le_trans h (YC hr2)
 unfold askOn
 simp only
 split
 ·trivial
 ·rename_i hr
  have h:=Nat.le_trans h (YC hr)
  split
  ·exact serve_dr _ _ h
  ·split
   ·split
    ·exact h
    ·split
     ·exact h
     ·split <;> trivial
   ·split
    ·refine pick (runnable m.gs m.world.os.mono) { m with world:=_ } ?_; exact h
    ·split
     ·trivial
     ·rename_i hr2; have h2:=YC hr2; refine pick (runnable m.gs m.world.os.mono) { m with world:=_ } ?_; exact Nat.le_trans h h2
     ·rename_i hr2; have h2:=YC hr2; exact Nat.le_trans h h2
     ·rename_i hr2; have h2:=YC hr2; refine pick _ _ ?_; exact Nat.le_trans h h2
theorem askG_dr {n:Nat} (p:Program) (m:Machine) (h:n≤m.world.drawn):MD n (ask p m):=by
 unfold ask
 split
 ·split
  ·trivial
  ·rename_i hr
   have h:=Nat.le_trans h (YC hr)
   split
   ·rename_i he
    have:=look_dr (n:=n) p m.gs m.rest h
    rw [he] at this
    exact askOn_dr _ _ this
   ·exact look_dr _ _ _ h
  ·rename_i hr
   exact askOn_dr _ _ (Nat.le_trans h (YC hr))
 ·exact askOn_dr _ _ h
theorem move_dr {n:Nat} (p:Program) (m:Machine) (h:n≤m.world.drawn):MD n (move p m):=by
 unfold move
 split
 ·split
  ·exact h
  ·trivial
 ·split
  ·split
   ·exact h
   ·exact askG_dr _ _ h
  ·exact askG_dr _ _ h
theorem step_dr {p:Program} {m m':Machine} (h:step p m = .next m'):m.world.drawn≤m'.world.drawn:=by
 have hm:=move_dr (n:=m.world.drawn) p m (Nat.le_refl _)
 unfold step stepT at h
 cases he:move p m with
 | goroutine m1 i =>
   rw [he] at hm h
   have:=gsrun_dr p m1 i true hm
   have h':(runT p m1 i true).1 = Stepped.next m':=h
   rw [h'] at this; exact this
 | machine s ops =>
   rw [he] at hm h
   have h':s = Stepped.next m':=h
   rw [h'] at hm; exact hm
theorem steps_dr {p:Program} {m m':Machine} (h:Steps p m m'):m.world.drawn≤m'.world.drawn:=by
 obtain ⟨n,hn⟩:=h
 induction n generalizing m with
 | zero=>simp only [runN,Stepped.next.injEq] at hn; rw [hn]; exact Nat.le_refl _
 | succ n ih =>
   rw [runN] at hn
   split at hn
   ·rename_i h1
    exact Nat.le_trans (step_dr h1) (ih hn)
   ·rename_i h1
    cases hs:step p m with
    | next m1=>exact absurd hs (h1 m1)
    | ended o w=>rw [hs] at hn; cases hn
theorem calls_dr {P:Program} {g:FuncId} {args:Array Value} {w:World} {Q:Value→World→Prop} (h:Calls P g args w fun e w'=>∃ v,e = .returned v∧Q v w'):Calls P g args w fun e w'=>∃ v,e = .returned v∧Q v w'∧w.drawn≤w'.drawn:=fun cs=>by
 obtain ⟨e,w',fr,⟨v,rfl,h1⟩,h2,h3⟩:=h cs
 exact ⟨_,w',fr,⟨v,rfl,h1,steps_dr h2⟩,h2,h3⟩
end Go.VM
