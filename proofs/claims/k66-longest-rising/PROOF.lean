import PyProof.Rows.All
import Wide.All
import OpenK.AllK
import Wide.FinOn
import HandS.ForMost
import HandS.Exc
import HandS.Conv
import HandS.Deep
import HandS.Style
import HandS.TupAny
import HandS.TupMul
import HandS.WideBits
import HandS.IsInst
import HandS.CallLocal
import HandS.Defaults
import KE.DataEq
import KE.KRevSl
import KE.SortData
import HandS.Iter
import HandS.Zip
import KE.GoesEnum
import HandS.More
import HandS.TupSets
import HandS.WordsExc
import HandS.Head0
import HandS.Head1
import HandS.Head2
import HandS.HeadEnd
import HandS.HeadHook1
import HandS.HeadHook2
import HandS.Sort
import PyProof.ListNew
import KE.KTurns
import PySem.Challenge.RW_barredpatterns_k66_whole_longest_rising
set_option Elab.async false
set_option linter.all false
set_option maxRecDepth 100000
set_option maxHeartbeats 4000000
/-! G: an executable mirror over the hand layer. -/
namespace G
open PySem PySem.Spec PyProof.Rows L2

/-- a value of the mirror -/
inductive W where
  | non | bl (b : Bool) | int (i : Int) | str (x : Str)
  | tup (ws : List W)
  /-- a list that nobody changes -/
  | fl (ws : List W)
  /-- a list that is read alone (the script) -/
  | ro (ws : List W)
  | loc (n : Nat)
  | fn (x : Str)
  deriving Inhabited

inductive O where
  | lst (ws : List W)

structure Hm where
  nx : Nat
  os : List (Nat × O)

def Hm.empty : Hm := ⟨0, []⟩
def lk : List (Nat × O) → Nat → Option O
  | [], _ => none
  | (m, o) :: r, n => if m = n then some o else lk r n
def Hm.get (h : Hm) (n : Nat) : Option O := lk h.os n
def st : List (Nat × O) → Nat → O → List (Nat × O)
  | [], _, _ => []
  | (m, o) :: r, n, u => if m = n then (m, u) :: r else (m, o) :: st r n u
def Hm.set (h : Hm) (n : Nat) (o : O) : Hm := ⟨h.nx, st h.os n o⟩
def Hm.new (h : Hm) (o : O) : Hm := ⟨h.nx + 1, (h.nx, o) :: h.os⟩

/-- a list that is told to the walk and never written -/
def RoL (K : PySem.W.Frag) (H : Hp) (a : Addr) (xs : List V) : Prop := (∃ o, H a = some (.frz o (.lst xs))) ∨
    ∃ (o : Obj) (its : Array Value) (n : Nat), K.lookup a = some o ∧ o.cls = .type "list" ∧ o.dict = none ∧ o.data = .seq its n ∧ its.size ≤ sizeLine ∧ Vals xs its.toList
theorem RoL.sq {K : PySem.W.Frag} {H : Hp} {a : Addr} {xs : List V} (r : RoL K H a xs) : SqL K H a xs := by
  rcases r with ⟨o, e⟩ | r
  · exact .inl (.inr ⟨o, e⟩)
  · exact .inr r

section
variable (K : PySem.W.Frag) (mg : Str → Option Value)
mutual
inductive RV (F : Addr → Prop) (ρ : List Addr) (H : Hp) : W → V → Prop
  | non : RV F ρ H .non .non
  | bl (b : Bool) : RV F ρ H (.bl b) (.bl b)
  | int (i : Int) : RV F ρ H (.int i) (.int i)
  | str (x : Str) : RV F ρ H (.str x) (.str x)
  | tup {a : Addr} {vs : List V} {ws : List W} : SqT K H a vs → RVs F ρ H ws vs → RV F ρ H (.tup ws) (.ref a)
  | fl {a : Addr} {vs : List V} {ws : List W} : F a → H a = some (.lst vs) → RVs F ρ H ws vs → RV F ρ H (.fl ws) (.ref a)
  | ro {a : Addr} {vs : List V} {ws : List W} : RoL K H a vs → RVs F ρ H ws vs → RV F ρ H (.ro ws) (.ref a)
  | loc {a : Addr} {n : Nat} : ρ[n]? = some a → RV F ρ H (.loc n) (.ref a)
  | fn {x : Str} {f : Addr} : mg x = some (.ref f) → RV F ρ H (.fn x) (.ref f)
inductive RVs (F : Addr → Prop) (ρ : List Addr) (H : Hp) : List W → List V → Prop
  | nil : RVs F ρ H [] []
  | cons {w : W} {v : V} {ws : List W} {vs : List V} : RV F ρ H w v → RVs F ρ H ws vs → RVs F ρ H (w :: ws) (v :: vs)
end
def Live (ρ : List Addr) (h : Hm) (a : Addr) : Prop := ∃ p ∈ h.os, ρ[p.1]? = some a
def RO (F : Addr → Prop) (ρ : List Addr) (H : Hp) : O → Addr → Prop
  | .lst ws, a => ∃ vs, H a = some (.lst vs) ∧ RVs K mg F ρ H ws vs
structure Good (F : Addr → Prop) (ρ : List Addr) (h : Hm) (H : Hp) : Prop where
  nx : h.nx = ρ.length
  key : (h.os.map (·.1)).Nodup
  inj : ∀ p ∈ h.os, ∀ q ∈ h.os, ρ[p.1]? = ρ[q.1]? → p.1 = q.1
  obj : ∀ p ∈ h.os, ∃ a, ρ[p.1]? = some a ∧ ¬ F a ∧ RO K mg F ρ H p.2 a
  fr : ∀ a, F a → ∃ o, H a = some o
end
/-- what may have happened -/
structure Ext (F : Addr → Prop) (ρ : List Addr) (h : Hm) (H : Hp) (F' : Addr → Prop) (ρ' : List Addr) (h' : Hm) (H' : Hp) : Prop where
  rho : ∃ more, ρ' = ρ ++ more
  fF : ∀ a, F a → F' a
  fN : ∀ a, F' a → F a ∨ H a = none ∨ Live ρ h a
  keep : ∀ a o, H a = some o → ¬ Live ρ h a → H' a = some o
  live : ∀ a, Live ρ' h' a → Live ρ h a ∨ H a = none

section
variable {K : PySem.W.Frag} {mg : Str → Option Value} {F F1 F2 : Addr → Prop} {ρ ρ1 ρ2 : List Addr} {h h1 h2 : Hm} {H H1 H2 : Hp}
theorem Ext.refl : Ext F ρ h H F ρ h H := ⟨⟨[], by simp⟩, fun _ h => h, fun _ h => .inl h, fun _ _ h _ => h, fun _ h => .inl h⟩
theorem Ext.trans (a : Ext F ρ h H F1 ρ1 h1 H1) (b : Ext F1 ρ1 h1 H1 F2 ρ2 h2 H2) : Ext F ρ h H F2 ρ2 h2 H2 := by
  have hn : ∀ x, H1 x = none → H x = none ∨ Live ρ h x := fun x e => by
    by_cases hl : Live ρ h x
    · exact .inr hl
    · cases q : H x with
      | none => exact .inl rfl
      | some o => rw [a.keep x o q hl] at e; cases e
  refine ⟨?_, fun x hx => b.fF x (a.fF x hx), fun x hx => ?_, fun x o e hl => ?_, fun x hx => ?_⟩
  · obtain ⟨m1, e1⟩ := a.rho
    obtain ⟨m2, e2⟩ := b.rho
    exact ⟨m1 ++ m2, by rw [e2, e1, List.append_assoc]⟩
  · rcases b.fN x hx with q | q | q
    · exact a.fN x q
    · exact .inr (hn x q)
    · rcases a.live x q with r | r
      · exact .inr (.inr r)
      · exact .inr (.inl r)
  · refine b.keep x o (a.keep x o e hl) fun q => ?_
    rcases a.live x q with r | r
    · exact hl r
    · rw [e] at r; cases r
  · rcases b.live x hx with q | q
    · exact a.live x q
    · exact (hn x q).symm
theorem Good.lst (g : Good K mg F ρ h H) {a : Addr} (l : Live ρ h a) : ¬ F a ∧ ∃ vs, H a = some (.lst vs) := by
  obtain ⟨p, hp, e⟩ := l
  obtain ⟨b, e2, nf, ro⟩ := g.obj p hp
  rw [e] at e2; cases e2
  refine ⟨nf, ?_⟩
  match p, ro with
  | (n, .lst ws), ro => obtain ⟨vs, q, _⟩ := ro; exact ⟨vs, q⟩
theorem get_app {ρ more : List Addr} {n : Nat} {a : Addr} (e : ρ[n]? = some a) : (ρ ++ more)[n]? = some a := by
  rw [List.getElem?_append_left (by exact (List.getElem?_eq_some_iff.mp e).1)]; exact e
theorem Ext.tup (x : Ext F ρ h H F1 ρ1 h1 H1) (g : Good K mg F ρ h H) {a : Addr} {vs : List V} (q : SqT K H a vs) : SqT K H1 a vs := by
  rcases q with (q | ⟨o, q⟩) | q
  · exact .inl (.inl (x.keep a _ q fun l => by obtain ⟨_, vs', e⟩ := g.lst l; rw [q] at e; cases e))
  · exact .inl (.inr ⟨o, x.keep a _ q fun l => by obtain ⟨_, vs', e⟩ := g.lst l; rw [q] at e; cases e⟩)
  · exact .inr q
/-- a value stays -/
theorem Ext.rv (x : Ext F ρ h H F1 ρ1 h1 H1) (g : Good K mg F ρ h H) : ∀ {w : W} {v : V}, RV K mg F ρ H w v → RV K mg F1 ρ1 H1 w v := by
  intro w v r
  refine RV.rec (K := K) (mg := mg) (motive_1 := fun w v _ => RV K mg F1 ρ1 H1 w v) (motive_2 := fun ws vs _ => RVs K mg F1 ρ1 H1 ws vs) .non .bl .int .str ?_ ?_ ?_ ?_ ?_ .nil ?_ r
  · intro a vs ws q _ ih; exact .tup (x.tup g q) ih
  · intro a vs ws f q _ ih
    exact .fl (x.fF a f) (x.keep a _ q fun l => (g.lst l).1 f) ih
  · intro a vs ws q _ ih
    refine .ro ?_ ih
    rcases q with ⟨o, q⟩ | q
    · exact .inl ⟨o, x.keep a _ q fun l => by obtain ⟨_, vs', e⟩ := g.lst l; rw [q] at e; cases e⟩
    · exact .inr q
  · intro a n e
    obtain ⟨more, rfl⟩ := x.rho
    exact .loc (get_app e)
  · intro x f e; exact .fn e
  · intro w v ws vs _ _ a b; exact .cons a b
theorem Ext.rvs (x : Ext F ρ h H F1 ρ1 h1 H1) (g : Good K mg F ρ h H) : ∀ {ws : List W} {vs : List V}, RVs K mg F ρ H ws vs → RVs K mg F1 ρ1 H1 ws vs
  | _, _, .nil => .nil
  | _, _, .cons a b => .cons (x.rv g a) (x.rvs g b)
theorem RVs.length : ∀ {ws : List W} {vs : List V}, RVs K mg F ρ H ws vs → ws.length = vs.length
  | _, _, .nil => rfl
  | _, _, .cons _ b => by rw [List.length_cons, List.length_cons, b.length]
theorem RVs.get : ∀ {ws : List W} {vs : List V} {i : Nat} {w : W}, RVs K mg F ρ H ws vs → ws[i]? = some w → ∃ v, vs[i]? = some v ∧ RV K mg F ρ H w v
  | _, _, _, _, .nil, e => by simp at e
  | _, _, 0, _, .cons a _, e => by simp at e; subst e; exact ⟨_, rfl, a⟩
  | _, _, i + 1, w, .cons _ b, e => by
    obtain ⟨v, e1, r⟩ := RVs.get (i := i) b (by simpa using e)
    exact ⟨v, by simpa using e1, r⟩
theorem RVs.append : ∀ {ws ws' : List W} {vs vs' : List V}, RVs K mg F ρ H ws vs → RVs K mg F ρ H ws' vs' → RVs K mg F ρ H (ws ++ ws') (vs ++ vs')
  | _, _, _, _, .nil, b => b
  | _, _, _, _, .cons r a, b => .cons r (a.append b)
theorem RVs.take : ∀ {ws : List W} {vs : List V} (n : Nat), RVs K mg F ρ H ws vs → RVs K mg F ρ H (ws.take n) (vs.take n)
  | _, _, 0, _ => .nil
  | _, _, _ + 1, .nil => .nil
  | _, _, n + 1, .cons a b => .cons a (b.take n)
theorem RVs.drop : ∀ {ws : List W} {vs : List V} (n : Nat), RVs K mg F ρ H ws vs → RVs K mg F ρ H (ws.drop n) (vs.drop n)
  | _, _, 0, r => r
  | _, _, _ + 1, .nil => .nil
  | _, _, n + 1, .cons _ b => b.drop n
theorem RVs.set {w : W} {v : V} (r : RV K mg F ρ H w v) : ∀ {ws : List W} {vs : List V} (n : Nat), RVs K mg F ρ H ws vs → RVs K mg F ρ H (ws.set n w) (vs.set n v)
  | _, _, _, .nil => .nil
  | _, _, 0, .cons _ b => .cons r b
  | _, _, n + 1, .cons a b => .cons a (RVs.set r n b)
theorem RVs.eraseIdx : ∀ {ws : List W} {vs : List V} (n : Nat), RVs K mg F ρ H ws vs → RVs K mg F ρ H (ws.eraseIdx n) (vs.eraseIdx n)
  | _, _, _, .nil => .nil
  | _, _, 0, .cons _ b => b
  | _, _, n + 1, .cons a b => .cons a (b.eraseIdx n)
theorem RVs.reverse {ws : List W} {vs : List V} (r : RVs K mg F ρ H ws vs) : RVs K mg F ρ H ws.reverse vs.reverse := by
  induction ws generalizing vs with
  | nil => cases r; exact .nil
  | cons w ws ih =>
    cases r with
    | cons a b =>
      rw [List.reverse_cons, List.reverse_cons]
      exact (ih b).append (.cons a .nil)
/-- slots -/
abbrev Sw := List (Option W)
def RS (K : PySem.W.Frag) (mg : Str → Option Value) (F : Addr → Prop) (ρ : List Addr) (H : Hp) (sw : Sw) (σ : L2.St) : Prop :=
  sw.length = σ.length ∧ ∀ (i : Nat) (w : W), sw[i]? = some (some w) → ∃ v, σ[i]? = some (some v) ∧ RV K mg F ρ H w v
theorem Ext.rs (x : Ext F ρ h H F1 ρ1 h1 H1) (g : Good K mg F ρ h H) {sw : Sw} {σ : L2.St} (r : RS K mg F ρ H sw σ) : RS K mg F1 ρ1 H1 sw σ :=
  ⟨r.1, fun i w e => by obtain ⟨v, e1, q⟩ := r.2 i w e; exact ⟨v, e1, x.rv g q⟩⟩
theorem RS.set {sw : Sw} {σ : L2.St} (r : RS K mg F ρ H sw σ) {w : W} {v : V} (q : RV K mg F ρ H w v) (i : Nat) : RS K mg F ρ H (sw.set i (some w)) (σ.set i (some v)) := by
  refine ⟨by rw [List.length_set, List.length_set, r.1], fun j w' e => ?_⟩
  by_cases hj : i = j
  · subst hj
    by_cases hl : i < sw.length
    · rw [List.getElem?_set_self hl] at e
      cases e
      exact ⟨v, List.getElem?_set_self (by rw [← r.1]; exact hl), q⟩
    · rw [List.getElem?_eq_none (by rw [List.length_set]; omega)] at e; cases e
  · rw [List.getElem?_set_ne hj] at e
    rw [List.getElem?_set_ne hj]
    exact r.2 j w' e
theorem RS.wipe {sw : Sw} {σ : L2.St} (r : RS K mg F ρ H sw σ) (i : Nat) : RS K mg F ρ H (sw.set i none) (σ.set i none) := by
  refine ⟨by rw [List.length_set, List.length_set, r.1], fun j w' e => ?_⟩
  by_cases hj : i = j
  · subst hj
    by_cases hl : i < sw.length
    · rw [List.getElem?_set_self hl] at e; cases e
    · rw [List.getElem?_eq_none (by rw [List.length_set]; omega)] at e; cases e
  · rw [List.getElem?_set_ne hj] at e
    rw [List.getElem?_set_ne hj]
    exact r.2 j w' e
end

/-! ### mirrors and their readings -/
abbrev ME := Sw → Hm → Option (W × Hm)
abbrev MT := Sw → Hm → Option (Bool × Hm)
abbrev MA := Sw → Hm → Option (List W × Hm)
inductive R where
  | nx (sw : Sw) (h : Hm) | ret (w : W) (h : Hm) | bk (sw : Sw) (h : Hm) | ct (sw : Sw) (h : Hm)
abbrev MS := Sw → Hm → Option R

section
variable (K : PySem.W.Frag) (mg : Str → Option Value)
/-- whatever comes next -/
def Fut (F : Addr → Prop) (ρ : List Addr) (h : Hm) (H : Hp) (w : W) (h' : Hm) (Q : VK) : Prop :=
  ∀ F' ρ' H' v, Ext F ρ h H F' ρ' h' H' → Good K mg F' ρ' h' H' → RV K mg F' ρ' H' w v → Q v H'
def FutT (F : Addr → Prop) (ρ : List Addr) (h : Hm) (H : Hp) (h' : Hm) (Q : Hp → Prop) : Prop :=
  ∀ F' ρ' H', Ext F ρ h H F' ρ' h' H' → Good K mg F' ρ' h' H' → Q H'
def FutA (F : Addr → Prop) (ρ : List Addr) (h : Hm) (H : Hp) (ws : List W) (h' : Hm) (Q : List V → Hp → Prop) : Prop :=
  ∀ F' ρ' H' vs, Ext F ρ h H F' ρ' h' H' → Good K mg F' ρ' h' H' → RVs K mg F' ρ' H' ws vs → Q vs H'
def FutS (F : Addr → Prop) (ρ : List Addr) (h : Hm) (H : Hp) (sw : Sw) (h' : Hm) (Q : L2.St → Hp → Prop) : Prop :=
  ∀ F' ρ' H' σ', Ext F ρ h H F' ρ' h' H' → Good K mg F' ρ' h' H' → RS K mg F' ρ' H' sw σ' → Q σ' H'
def tE (m : ME) : TE := fun σ H Q => ∃ F ρ h sw w h', Good K mg F ρ h H ∧ RS K mg F ρ H sw σ ∧ m sw h = some (w, h') ∧ Fut K mg F ρ h H w h' Q
def tT (m : MT) : TT := fun σ H Q => ∃ F ρ h sw b h', Good K mg F ρ h H ∧ RS K mg F ρ H sw σ ∧ m sw h = some (b, h') ∧ FutT K mg F ρ h H h' (Q b)
def tA (m : MA) : TA := fun σ H Q => ∃ F ρ h sw ws h', Good K mg F ρ h H ∧ RS K mg F ρ H sw σ ∧ m sw h = some (ws, h') ∧ FutA K mg F ρ h H ws h' Q
def FutR (F : Addr → Prop) (ρ : List Addr) (h : Hm) (H : Hp) (D : Ends) : R → Prop
  | .nx sw h' => FutS K mg F ρ h H sw h' D.nx
  | .bk sw h' => FutS K mg F ρ h H sw h' D.bk
  | .ct sw h' => FutS K mg F ρ h H sw h' D.ct
  | .ret w h' => Fut K mg F ρ h H w h' D.rt
def tS (m : MS) : TS := fun D σ H => ∃ F ρ h sw r, Good K mg F ρ h H ∧ RS K mg F ρ H sw σ ∧ m sw h = some r ∧ FutR K mg F ρ h H D r
end
section
variable {K : PySem.W.Frag} {mg : Str → Option Value} {F F1 : Addr → Prop} {ρ ρ1 : List Addr} {h h1 h2 : Hm} {H H1 : Hp}
theorem Fut.step {w : W} {Q : VK} (x : Ext F ρ h H F1 ρ1 h1 H1) (q : Fut K mg F ρ h H w h2 Q) : Fut K mg F1 ρ1 h1 H1 w h2 Q := fun F' ρ' H' v y g r => q F' ρ' H' v (x.trans y) g r
theorem FutT.step {Q : Hp → Prop} (x : Ext F ρ h H F1 ρ1 h1 H1) (q : FutT K mg F ρ h H h2 Q) : FutT K mg F1 ρ1 h1 H1 h2 Q := fun F' ρ' H' y g => q F' ρ' H' (x.trans y) g
theorem FutA.step {ws : List W} {Q : List V → Hp → Prop} (x : Ext F ρ h H F1 ρ1 h1 H1) (q : FutA K mg F ρ h H ws h2 Q) : FutA K mg F1 ρ1 h1 H1 ws h2 Q := fun F' ρ' H' v y g r => q F' ρ' H' v (x.trans y) g r
theorem FutS.step {sw : Sw} {Q : L2.St → Hp → Prop} (x : Ext F ρ h H F1 ρ1 h1 H1) (q : FutS K mg F ρ h H sw h2 Q) : FutS K mg F1 ρ1 h1 H1 sw h2 Q := fun F' ρ' H' v y g r => q F' ρ' H' v (x.trans y) g r
theorem FutR.step {D : Ends} {r : R} (x : Ext F ρ h H F1 ρ1 h1 H1) (q : FutR K mg F ρ h H D r) : FutR K mg F1 ρ1 h1 H1 D r := by
  cases r with
  | nx _ _ => exact FutS.step x q
  | bk _ _ => exact FutS.step x q
  | ct _ _ => exact FutS.step x q
  | ret _ _ => exact Fut.step x q
theorem Fut.here {w : W} {v : V} {Q : VK} (q : Fut K mg F ρ h H w h Q) (g : Good K mg F ρ h H) (r : RV K mg F ρ H w v) : Q v H := q F ρ H v .refl g r
end
section
variable {X : Cx}
theorem le_E {e : Expr} {t t' : TE} (p : PE X e t) (l : ∀ σ H Q, t' σ H Q → t σ H Q) : PE X e t' := ⟨fun pins s σ H Q I h => p.run pins s σ H Q I (l σ H Q h)⟩
theorem le_T {e : Expr} {t t' : TT} (p : PT X e t) (l : ∀ σ H Q, t' σ H Q → t σ H Q) : PT X e t' := ⟨fun pins s σ H Q I h => p.run pins s σ H Q I (l σ H Q h)⟩
theorem le_W {e : Expr} {t t' : TT} (p : PW X e t) (l : ∀ σ H Q, t' σ H Q → t σ H Q) : PW X e t' := ⟨fun wh pins s σ H Q I h => p.run wh pins s σ H Q I (l σ H Q h)⟩
theorem le_Ts {e : List Expr} {t t' : TT} (p : PTs X e t) (l : ∀ σ H Q, t' σ H Q → t σ H Q) : PTs X e t' := ⟨fun pins s σ H Q I h => p.run pins s σ H Q I (l σ H Q h)⟩
theorem le_A {e : List Expr} {t t' : TA} (p : PA X e t) (l : ∀ σ H Q, t' σ H Q → t σ H Q) : PA X e t' := ⟨fun pos pins s σ H Q I h => p.run pos pins s σ H Q I (l σ H Q h)⟩
theorem le_S {e : Stmt} {t t' : TS} (p : PS X e t) (l : ∀ D σ H, t' D σ H → t D σ H) : PS X e t' := ⟨fun pins s σ H D I h => p.run pins s σ H D I (l D σ H h)⟩
theorem le_Ss {e : List Stmt} {t t' : TS} (p : PSs X e t) (l : ∀ D σ H, t' D σ H → t D σ H) : PSs X e t' := ⟨fun pins s σ H D I h => p.run pins s σ H D I (l D σ H h)⟩
abbrev GE (X : Cx) (e : Expr) (m : ME) : Prop := PE X e (tE X.K X.mg m)
abbrev GT (X : Cx) (e : Expr) (m : MT) : Prop := PT X e (tT X.K X.mg m)
abbrev GW (X : Cx) (e : Expr) (m : MT) : Prop := PW X e (tT X.K X.mg m)
abbrev GA (X : Cx) (es : List Expr) (m : MA) : Prop := PA X es (tA X.K X.mg m)
abbrev GS (X : Cx) (s : Stmt) (m : MS) : Prop := PS X s (tS X.K X.mg m)
abbrev GSs (X : Cx) (s : List Stmt) (m : MS) : Prop := PSs X s (tS X.K X.mg m)

/-! ### names, constants -/
def mVar (i : Nat) : ME := fun sw h => match sw[i]? with
  | some (some w) => some (w, h)
  | _ => none
def mC (w : W) : ME := fun _ h => some (w, h)
theorem g_var {i : Nat} {e : Expr} (p : PE X e (tVar i)) : GE X e (mVar i) := le_E p fun σ H Q ⟨F, ρ, h, sw, w, h', g, rs, e, q⟩ => by
  unfold mVar at e
  split at e
  · rename_i w0 e0
    cases e
    obtain ⟨v, e1, r⟩ := rs.2 i _ e0
    exact ⟨v, e1, q.here g r⟩
  · cases e
theorem g_c {v : V} {w : W} {e : Expr} (p : PE X e (tC v)) (r : ∀ F ρ H, RV X.K X.mg F ρ H w v) : GE X e (mC w) := le_E p fun σ H Q ⟨F, ρ, h, sw, w', h', g, rs, e, q⟩ => by
  cases e; exact q.here g (r F ρ H)

/-! ### operations -/
abbrev MO2 := W → W → Hm → Option (W × Hm)
def OpW (K : PySem.W.Frag) (mg : Str → Option Value) (r : R2) (o : MO2) : Prop := ∀ F ρ h H x y a b w h' Q, Good K mg F ρ h H → RV K mg F ρ H a x → RV K mg F ρ H b y → o a b h = some (w, h') → Fut K mg F ρ h H w h' Q → r x y H Q
def mOp2 (o : MO2) (ma mb : ME) : ME := fun sw h => (ma sw h).bind fun p => (mb sw p.2).bind fun q => o p.1 q.1 q.2
theorem t_op2 {K : PySem.W.Frag} {mg : Str → Option Value} {r : R2} {o : MO2} {ma mb : ME} (w : OpW K mg r o) (σ : L2.St) (H : Hp) (Q : VK) (t : tE K mg (mOp2 o ma mb) σ H Q) : tOp r (tE K mg ma) (tE K mg mb) σ H Q := by
  obtain ⟨F, ρ, h, sw, w', h', g, rs, e, q⟩ := t
  unfold mOp2 at e
  cases ea : ma sw h with
  | none => rw [ea] at e; cases e
  | some p =>
    rw [ea] at e
    refine ⟨F, ρ, h, sw, p.1, p.2, g, rs, ea, fun F1 ρ1 H1 x e1 g1 r1 => ?_⟩
    have e : ((mb sw p.2).bind fun q => o p.1 q.1 q.2) = some (w', h') := e
    cases eb : mb sw p.2 with
    | none => rw [eb] at e; cases e
    | some p2 =>
      rw [eb] at e
      refine ⟨F1, ρ1, p.2, sw, p2.1, p2.2, g1, e1.rs g rs, eb, fun F2 ρ2 H2 y e2 g2 r2 => ?_⟩
      exact w F2 ρ2 p2.2 H2 x y p.1 p2.1 w' h' Q g2 (e2.rv g1 r1) r2 e ((q.step e1).step e2)
theorem g_op {a b : Expr} {op : Operator} {pos : Pos} {r : R2} {o : MO2} {ma mb : ME} (ho : OpR X (binaryOp op) r) (w : OpW X.K X.mg r o) (ha : GE X a ma) (hb : GE X b mb) : GE X (.BinOp a op b pos) (mOp2 o ma mb) :=
  le_E (pe_op ho ha hb) (t_op2 w)
theorem g_cmp {a b : Expr} {op : CmpOp} {pos : Pos} {r : R2} {o : MO2} {ma mb : ME} (ho : OpR X (compareOp op) r) (w : OpW X.K X.mg r o) (ha : GE X a ma) (hb : GE X b mb) (hm : behindInMarks op b = false) : GE X (.Compare a [op] [b] pos) (mOp2 o ma mb) :=
  le_E (pe_cmpR ho ha hb hm) (t_op2 w)
end
end G

set_option Elab.async false
set_option linter.all false
set_option maxRecDepth 100000
set_option maxHeartbeats 4000000
namespace G
open PySem PySem.Spec PyProof.Rows L2

def mk (own : Bool) (ws : List W) (h : Hm) : W × Hm := if own then (.loc h.nx, h.new (.lst ws)) else (.fl ws, h)

section
variable {K : PySem.W.Frag} {mg : Str → Option Value} {F F1 F2 : Addr → Prop} {ρ ρ1 ρ2 : List Addr} {h h1 h2 : Hm} {H H1 H2 : Hp}
theorem Good.lt (g : Good K mg F ρ h H) {p : Nat × O} (hp : p ∈ h.os) : p.1 < ρ.length := by
  obtain ⟨a, e, _⟩ := g.obj p hp
  exact (List.getElem?_eq_some_iff.mp e).1
theorem live_app {more : List Addr} {a : Addr} (g : Good K mg F ρ h H) (l : Live (ρ ++ more) h a) : Live ρ h a := by
  obtain ⟨p, hp, e⟩ := l
  refine ⟨p, hp, ?_⟩
  rw [List.getElem?_append_left (g.lt hp)] at e
  exact e
/-- RV where what is tracked changes at one address that no value names by its content -/
theorem rv_upd {D : Addr} {o : HO} (hD : ∀ vs, H D ≠ some (.tup vs)) (hZ : ∀ b u, H D ≠ some (.frz b u)) (nF : ¬ F D) {w : W} {v : V} (r : RV K mg F ρ H w v) : RV K mg F ρ (upd H D o) w v := by
  refine RV.rec (K := K) (mg := mg) (motive_1 := fun w v _ => RV K mg F ρ (upd H D o) w v) (motive_2 := fun ws vs _ => RVs K mg F ρ (upd H D o) ws vs) .non .bl .int .str ?_ ?_ ?_ ?_ ?_ .nil ?_ r
  · intro a vs ws q _ ih
    refine .tup ?_ ih
    rcases q with (q | ⟨b, q⟩) | q
    · exact .inl (.inl (by rw [upd_ne (fun z => by rw [z] at q; exact hD _ q)]; exact q))
    · exact .inl (.inr ⟨b, by rw [upd_ne (fun z => by rw [z] at q; exact hZ _ _ q)]; exact q⟩)
    · exact .inr q
  · intro a vs ws f q _ ih
    exact .fl f (by rw [upd_ne (show a ≠ D from fun z => nF (by rw [← z]; exact f))]; exact q) ih
  · intro a vs ws q _ ih
    refine .ro ?_ ih
    rcases q with ⟨b, q⟩ | q
    · exact .inl ⟨b, by rw [upd_ne (fun z => by rw [z] at q; exact hZ _ _ q)]; exact q⟩
    · exact .inr q
  · intro a n e; exact .loc e
  · intro x f e; exact .fn e
  · intro w v ws vs _ _ a b; exact .cons a b
theorem rvs_of {ws : List W} {vs : List V} (r : RVs K mg F ρ H ws vs) (f : ∀ w v, RV K mg F ρ H w v → RV K mg F1 ρ1 H1 w v) : RVs K mg F1 ρ1 H1 ws vs := by
  induction ws generalizing vs with
  | nil => cases r; exact .nil
  | cons w ws ih => cases r with | cons a b => exact .cons (f _ _ a) (ih b)
theorem rv_mono {more : List Addr} (hF : ∀ a, F a → F1 a) {w : W} {v : V} (r : RV K mg F ρ H w v) : RV K mg F1 (ρ ++ more) H w v := by
  refine RV.rec (K := K) (mg := mg) (motive_1 := fun w v _ => RV K mg F1 (ρ ++ more) H w v) (motive_2 := fun ws vs _ => RVs K mg F1 (ρ ++ more) H ws vs) .non .bl .int .str ?_ ?_ ?_ ?_ ?_ .nil ?_ r
  · intro a vs ws q _ ih; exact .tup q ih
  · intro a vs ws f q _ ih; exact .fl (hF a f) q ih
  · intro a vs ws q _ ih; exact .ro q ih
  · intro a n e; exact .loc (get_app e)
  · intro x f e; exact .fn e
  · intro w v ws vs _ _ a b; exact .cons a b
/-- a tracked list that nobody of us names becomes ours -/
theorem mk_ok (own : Bool) {ws : List W} {vs : List V} {D : Addr} (g : Good K mg F ρ h H) (e : H D = some (.lst vs)) (nF : ¬ F D) (nL : ¬ Live ρ h D) (r : RVs K mg F ρ H ws vs) :
    ∃ F' ρ', Good K mg F' ρ' (mk own ws h).2 H ∧ RV K mg F' ρ' H (mk own ws h).1 (.ref D) ∧ (∃ more, ρ' = ρ ++ more) ∧ (∀ a, F a → F' a) ∧ (∀ a, F' a → F a ∨ a = D) ∧ ∀ a, Live ρ' (mk own ws h).2 a → Live ρ h a ∨ a = D := by
  cases own with
  | false =>
    refine ⟨fun a => F a ∨ a = D, ρ, ⟨g.nx, g.key, g.inj, fun p hp => ?_, fun a ha => ?_⟩, .fl (.inr rfl) e ?_, ⟨[], by simp⟩, fun _ q => .inl q, fun _ q => q, fun _ q => .inl q⟩
    · obtain ⟨a, e1, nf, ro⟩ := g.obj p hp
      refine ⟨a, e1, fun z => ?_, ?_⟩
      · rcases z with z | z
        · exact nf z
        · exact nL ⟨p, hp, by rw [e1, z]⟩
      · match p, ro with
        | (n, .lst ws'), ro =>
          obtain ⟨vs', q1, q2⟩ := ro
          refine ⟨vs', q1, rvs_of q2 fun w v q => ?_⟩
          have := rv_mono (more := []) (F1 := fun a => F a ∨ a = D) (fun a q => .inl q) q
          rw [List.append_nil] at this
          exact this
    · rcases ha with ha | rfl
      · exact g.fr a ha
      · exact ⟨_, e⟩
    · refine rvs_of r fun w v q => ?_
      have := rv_mono (more := []) (F1 := fun a => F a ∨ a = D) (fun a q => .inl q) q
      rw [List.append_nil] at this
      exact this
  | true =>
    have hnx : h.nx = ρ.length := g.nx
    have inj1 : ∀ p ∈ h.os, ∀ a, ρ[p.1]? = some a → a ≠ D := fun p hp a e1 z => nL ⟨p, hp, by rw [e1, z]⟩
    refine ⟨F, ρ ++ [D], ⟨?_, ?_, ?_, ?_, g.fr⟩, .loc ?_, ⟨[D], rfl⟩, fun _ q => q, fun _ q => .inl q, ?_⟩
    · show h.nx + 1 = (ρ ++ [D]).length
      rw [hnx]; simp
    · show (((h.nx, O.lst ws) :: h.os).map (·.1)).Nodup
      rw [List.map_cons, List.nodup_cons]
      refine ⟨fun hm => ?_, g.key⟩
      obtain ⟨p, hp, ep⟩ := List.mem_map.mp hm
      have := g.lt hp
      omega
    · intro p hp q hq eq
      have hp : p ∈ (h.nx, O.lst ws) :: h.os := hp
      have hq : q ∈ (h.nx, O.lst ws) :: h.os := hq
      rcases List.mem_cons.mp hp with rfl | hp <;> rcases List.mem_cons.mp hq with rfl | hq
      · rfl
      · obtain ⟨a, e1, _⟩ := g.obj q hq
        rw [get_app e1] at eq
        have e2 : (ρ ++ [D])[h.nx]? = some D := by rw [hnx]; simp
        rw [show ((h.nx, O.lst ws) : Nat × O).1 = h.nx from rfl, e2] at eq
        exact absurd (Option.some.inj eq).symm (inj1 q hq a e1)
      · obtain ⟨a, e1, _⟩ := g.obj p hp
        rw [get_app e1] at eq
        have e2 : (ρ ++ [D])[h.nx]? = some D := by rw [hnx]; simp
        rw [show ((h.nx, O.lst ws) : Nat × O).1 = h.nx from rfl, e2] at eq
        exact absurd (Option.some.inj eq) (inj1 p hp a e1)
      · refine g.inj p hp q hq ?_
        rw [List.getElem?_append_left (g.lt hp), List.getElem?_append_left (g.lt hq)] at eq
        exact eq
    · intro p hp
      have hp : p ∈ (h.nx, O.lst ws) :: h.os := hp
      rcases List.mem_cons.mp hp with rfl | hp
      · refine ⟨D, by show (ρ ++ [D])[h.nx]? = _; rw [hnx]; simp, nF, vs, e, rvs_of r fun w v q => rv_mono (fun a q => q) q⟩
      · obtain ⟨a, e1, nf, ro⟩ := g.obj p hp
        refine ⟨a, get_app e1, nf, ?_⟩
        match p, ro with
        | (n, .lst ws'), ro =>
          obtain ⟨vs', q1, q2⟩ := ro
          exact ⟨vs', q1, rvs_of q2 fun w v q => rv_mono (fun a q => q) q⟩
    · show (ρ ++ [D])[h.nx]? = some D
      rw [hnx]; simp
    · rintro a ⟨p, hp, ep⟩
      have hp : p ∈ (h.nx, O.lst ws) :: h.os := hp
      rcases List.mem_cons.mp hp with rfl | hp
      · have e2 : (ρ ++ [D])[h.nx]? = some D := by rw [hnx]; simp
        rw [show ((h.nx, O.lst ws) : Nat × O).1 = h.nx from rfl, e2] at ep
        exact .inr (Option.some.inj ep).symm
      · exact .inl (live_app g ⟨p, hp, ep⟩)
theorem Good.upd_new {p : Addr} {o : HO} (g : Good K mg F ρ h H) (n : H p = none) : Good K mg F ρ h (upd H p o) ∧ Ext F ρ h H F ρ h (upd H p o) := by
  have ne : ∀ a u, H a = some u → a ≠ p := fun a u e z => by rw [z, n] at e; cases e
  have x : Ext F ρ h H F ρ h (upd H p o) := ⟨⟨[], by simp⟩, fun _ q => q, fun _ q => .inl q, fun a u e _ => by rw [upd_ne (ne a u e)]; exact e, fun _ q => .inl q⟩
  refine ⟨⟨g.nx, g.key, g.inj, fun q hq => ?_, fun a ha => ?_⟩, x⟩
  · obtain ⟨a, e1, nf, ro⟩ := g.obj q hq
    refine ⟨a, e1, nf, ?_⟩
    match q, ro with
    | (m, .lst ws'), ro =>
      obtain ⟨vs', q1, q2⟩ := ro
      exact ⟨vs', by rw [upd_ne (ne _ _ q1)]; exact q1, x.rvs g q2⟩
  · obtain ⟨u, e⟩ := g.fr a ha
    exact ⟨u, by rw [upd_ne (ne _ _ e)]; exact e⟩
theorem not_F_new {p : Addr} (g : Good K mg F ρ h H) (n : H p = none) : ¬ F p := fun q => by
  obtain ⟨o, e⟩ := g.fr p q
  rw [n] at e; cases e
theorem not_live_new {p : Addr} (g : Good K mg F ρ h H) (n : H p = none) : ¬ Live ρ h p := fun q => by
  obtain ⟨_, vs, e⟩ := g.lst q
  rw [n] at e; cases e
/-- a new list -/
theorem new_lst (own : Bool) {ws : List W} {vs : List V} {Q : VK} (g : Good K mg F ρ h H) (r : RVs K mg F ρ H ws vs) (q : Fut K mg F ρ h H (mk own ws h).1 (mk own ws h).2 Q) : ∀ p, H p = none → Q (.ref p) (upd H p (.lst vs)) := by
  intro p n
  obtain ⟨g1, x1⟩ := g.upd_new (o := .lst vs) n
  obtain ⟨F', ρ', g2, rv, hr, hF, hN, hL⟩ := mk_ok own (D := p) g1 upd_same (not_F_new g n) (not_live_new g n) (x1.rvs g r)
  refine q F' ρ' _ _ ⟨hr, hF, fun a ha => ?_, fun a o e l => x1.keep a o e l, fun a ha => ?_⟩ g2 rv
  · rcases hN a ha with z | rfl
    · exact .inl z
    · exact .inr (.inl n)
  · rcases hL a ha with z | rfl
    · exact .inl z
    · exact .inr n
theorem new_tup {ws : List W} {vs : List V} {Q : VK} (g : Good K mg F ρ h H) (r : RVs K mg F ρ H ws vs) (q : Fut K mg F ρ h H (.tup ws) h Q) : ∀ p, H p = none → Q (.ref p) (upd H p (.tup vs)) := by
  intro p n
  obtain ⟨g1, x1⟩ := g.upd_new (o := .tup vs) n
  exact q F ρ _ _ x1 g1 (.tup (.inl (.inl upd_same)) (x1.rvs g r))
theorem lk_mem : ∀ {os : List (Nat × O)} {n : Nat} {o : O}, lk os n = some o → (n, o) ∈ os
  | (m, u) :: r, n, o, e => by
    unfold lk at e
    split at e
    · rename_i q; cases e; subst q; exact List.mem_cons_self
    · exact List.mem_cons_of_mem _ (lk_mem e)
theorem st_keys : ∀ (os : List (Nat × O)) (n : Nat) (o : O), (st os n o).map (·.1) = os.map (·.1)
  | [], _, _ => rfl
  | (m, u) :: r, n, o => by
    unfold st
    split
    · rfl
    · rw [List.map_cons, List.map_cons, st_keys r n o]
theorem st_mem : ∀ {os : List (Nat × O)} {n : Nat} {o : O} {p : Nat × O}, (os.map (·.1)).Nodup → p ∈ st os n o → (p = (n, o)) ∨ (p ∈ os ∧ p.1 ≠ n)
  | (m, u) :: r, n, o, p, nd, hp => by
    rw [List.map_cons, List.nodup_cons] at nd
    unfold st at hp
    split at hp
    · rename_i q
      subst q
      rcases List.mem_cons.mp hp with rfl | hp
      · exact .inl rfl
      · refine .inr ⟨List.mem_cons_of_mem _ hp, fun z => nd.1 ?_⟩
        have z : p.1 = m := z
        show m ∈ r.map (·.1)
        rw [← z]; exact List.mem_map_of_mem (f := Prod.fst) hp
    · rename_i q
      rcases List.mem_cons.mp hp with rfl | hp
      · exact .inr ⟨List.mem_cons_self, q⟩
      · rcases st_mem nd.2 hp with z | ⟨z1, z2⟩
        · exact .inl z
        · exact .inr ⟨List.mem_cons_of_mem _ z1, z2⟩
/-- a list of ours is at hand -/
theorem Good.at (g : Good K mg F ρ h H) {n : Nat} {ws : List W} (e : h.get n = some (.lst ws)) : ∃ a vs, ρ[n]? = some a ∧ ¬ F a ∧ H a = some (.lst vs) ∧ RVs K mg F ρ H ws vs ∧ Live ρ h a := by
  have hm := lk_mem e
  obtain ⟨a, e1, nf, vs, e2, r⟩ := g.obj _ hm
  exact ⟨a, vs, e1, nf, e2, r, _, hm, e1⟩
/-- .. and is written -/
theorem Good.wr (g : Good K mg F ρ h H) {n : Nat} {a : Addr} {ws ws' : List W} {vs' : List V} (e : h.get n = some (.lst ws)) (ea : ρ[n]? = some a) (r : RVs K mg F ρ H ws' vs') :
    Good K mg F ρ (h.set n (.lst ws')) (upd H a (.lst vs')) ∧ Ext F ρ h H F ρ (h.set n (.lst ws')) (upd H a (.lst vs')) := by
  obtain ⟨a', vs, e1, nf, e2, r0, lv⟩ := g.at e
  rw [ea] at e1; cases e1
  have live' : ∀ b, Live ρ (h.set n (.lst ws')) b → Live ρ h b := fun b ⟨p, hp, ep⟩ => by
    rcases st_mem g.key hp with rfl | ⟨hp, _⟩
    · exact ⟨(n, .lst ws), lk_mem e, ep⟩
    · exact ⟨p, hp, ep⟩
  have up : ∀ {w : W} {v : V}, RV K mg F ρ H w v → RV K mg F ρ (upd H a (.lst vs')) w v := fun q => rv_upd (fun vs z => by rw [e2] at z; cases z) (fun b u z => by rw [e2] at z; cases z) nf q
  refine ⟨⟨g.nx, by rw [show (h.set n (.lst ws')).os = st h.os n (.lst ws') from rfl, st_keys]; exact g.key, fun p hp q hq eq => ?_, fun p hp => ?_, fun b hb => ?_⟩, ⟨⟨[], by simp⟩, fun _ q => q, fun _ q => .inl q, fun b o eb nl => ?_, fun b hb => .inl (live' b hb)⟩⟩
  · rcases st_mem g.key hp with rfl | ⟨hp, n1⟩ <;> rcases st_mem g.key hq with rfl | ⟨hq, n2⟩
    · rfl
    · exact g.inj (n, .lst ws) (lk_mem e) q hq eq
    · exact g.inj p hp (n, .lst ws) (lk_mem e) eq
    · exact g.inj p hp q hq eq
  · rcases st_mem g.key hp with rfl | ⟨hp, n1⟩
    · exact ⟨a, ea, nf, vs', upd_same, rvs_of r fun w v q => up q⟩
    · obtain ⟨b, e3, nf3, ro⟩ := g.obj p hp
      have nb : b ≠ a := fun z => n1 (g.inj p hp (n, .lst ws) (lk_mem e) (by rw [e3, z]; exact ea.symm))
      refine ⟨b, e3, nf3, ?_⟩
      match p, ro with
      | (m, .lst ws2), ro =>
        obtain ⟨vs2, q1, q2⟩ := ro
        exact ⟨vs2, by rw [upd_ne nb]; exact q1, rvs_of q2 fun w v q => up q⟩
  · obtain ⟨o, eo⟩ := g.fr b hb
    exact ⟨o, by rw [upd_ne (show b ≠ a from fun z => nf (by rw [← z]; exact hb))]; exact eo⟩
  · rw [upd_ne (show b ≠ a from fun z => nl (by rw [z]; exact lv))]; exact eb
end

section
variable {X : Cx}
/-! ### arguments, calls of built-ins -/
def mNil : MA := fun _ h => some ([], h)
def mCons (m : ME) (ms : MA) : MA := fun sw h => (m sw h).bind fun p => (ms sw p.2).bind fun q => some (p.1 :: q.1, q.2)
theorem ga_nil : GA X [] mNil := le_A pa_nil fun σ H Q ⟨F, ρ, h, sw, ws, h', g, rs, e, q⟩ => by
  cases e; exact q F ρ H [] .refl g .nil
theorem t_cons {K : PySem.W.Frag} {mg : Str → Option Value} {m : ME} {ms : MA} (σ : L2.St) (H : Hp) (Q : List V → Hp → Prop) (t : tA K mg (mCons m ms) σ H Q) : tCons (tE K mg m) (tA K mg ms) σ H Q := by
  obtain ⟨F, ρ, h, sw, ws, h', g, rs, e, q⟩ := t
  unfold mCons at e
  cases ea : m sw h with
  | none => rw [ea] at e; cases e
  | some p =>
    rw [ea] at e
    refine ⟨F, ρ, h, sw, p.1, p.2, g, rs, ea, fun F1 ρ1 H1 x e1 g1 r1 => ?_⟩
    have e : ((ms sw p.2).bind fun q => some (p.1 :: q.1, q.2)) = some (ws, h') := e
    cases eb : ms sw p.2 with
    | none => rw [eb] at e; cases e
    | some p2 =>
      rw [eb] at e
      have e : some (p.1 :: p2.1, p2.2) = some (ws, h') := e
      cases e
      exact ⟨F1, ρ1, p.2, sw, p2.1, p2.2, g1, e1.rs g rs, eb, fun F2 ρ2 H2 y e2 g2 r2 => q F2 ρ2 H2 _ (e1.trans e2) g2 (.cons (e2.rv g1 r1) r2)⟩
theorem ga_cons {e : Expr} {es : List Expr} {m : ME} {ms : MA} (he : GE X e m) (hs : GA X es ms) (h1 : starEach (e :: es) X.env = (false, eval e X.env) :: starEach es X.env := by rfl) : GA X (e :: es) (mCons m ms) := le_A (pa_cons he hs h1) t_cons

abbrev MO := List W → Hm → Option (W × Hm)
def CW (K : PySem.W.Frag) (mg : Str → Option Value) (r : List V → Hp → VK → Prop) (o : MO) : Prop := ∀ F ρ h H xs as w h' Q, Good K mg F ρ h H → RVs K mg F ρ H as xs → o as h = some (w, h') → Fut K mg F ρ h H w h' Q → r xs H Q
def mApp (o : MO) (ma : MA) : ME := fun sw h => (ma sw h).bind fun p => o p.1 p.2
theorem t_app {K : PySem.W.Frag} {mg : Str → Option Value} {r : List V → Hp → VK → Prop} {o : MO} {ma : MA} (w : CW K mg r o) (σ : L2.St) (H : Hp) (Q : VK) (t : tE K mg (mApp o ma) σ H Q) : tCB r (tA K mg ma) σ H Q := by
  obtain ⟨F, ρ, h, sw, w', h', g, rs, e, q⟩ := t
  unfold mApp at e
  cases ea : ma sw h with
  | none => rw [ea] at e; cases e
  | some p =>
    rw [ea] at e
    exact ⟨F, ρ, h, sw, p.1, p.2, g, rs, ea, fun F1 ρ1 H1 xs e1 g1 r1 => w F1 ρ1 p.2 H1 xs p.1 w' h' Q g1 r1 e (q.step e1)⟩

/-! ### displays -/
def mTup (ma : MA) : ME := fun sw h => (ma sw h).bind fun p => if p.1.length < 100000 then some (.tup p.1, p.2) else none
def mLst (own : Bool) (ma : MA) : ME := fun sw h => (ma sw h).bind fun p => if p.1.length < 100000 then some (mk own p.1 p.2) else none
theorem t_tup {K : PySem.W.Frag} {mg : Str → Option Value} {ma : MA} (σ : L2.St) (H : Hp) (Q : VK) (t : tE K mg (mTup ma) σ H Q) : tTup (tA K mg ma) σ H Q := by
  obtain ⟨F, ρ, h, sw, w', h', g, rs, e, q⟩ := t
  unfold mTup at e
  cases ea : ma sw h with
  | none => rw [ea] at e; cases e
  | some p =>
    rw [ea] at e
    refine ⟨F, ρ, h, sw, p.1, p.2, g, rs, ea, fun F1 ρ1 H1 xs e1 g1 r1 => ?_⟩
    have e : (if p.1.length < 100000 then some (W.tup p.1, p.2) else none) = some (w', h') := e
    split at e
    · rename_i hl
      cases e
      refine ⟨?_, new_tup g1 r1 (q.step e1)⟩
      rw [← r1.length, sizeLine_eq]; omega
    · cases e
theorem t_lst {K : PySem.W.Frag} {mg : Str → Option Value} {own : Bool} {ma : MA} (σ : L2.St) (H : Hp) (Q : VK) (t : tE K mg (mLst own ma) σ H Q) : tLst (tA K mg ma) σ H Q := by
  obtain ⟨F, ρ, h, sw, w', h', g, rs, e, q⟩ := t
  unfold mLst at e
  cases ea : ma sw h with
  | none => rw [ea] at e; cases e
  | some p =>
    rw [ea] at e
    refine ⟨F, ρ, h, sw, p.1, p.2, g, rs, ea, fun F1 ρ1 H1 xs e1 g1 r1 => ?_⟩
    have e : (if p.1.length < 100000 then some (mk own p.1 p.2) else none) = some (w', h') := e
    split at e
    · rename_i hl
      have e : mk own p.1 p.2 = (w', h') := Option.some.inj e
      refine ⟨?_, new_lst own g1 r1 ?_⟩
      · rw [← r1.length, sizeLine_eq]; omega
      · rw [e]; exact q.step e1
    · cases e
end
end G

set_option Elab.async false
set_option linter.all false
set_option maxRecDepth 100000
set_option maxHeartbeats 4000000
namespace G
open PySem PySem.Spec PyProof.Rows L2
theorem bind_some {α β : Type} {x : Option α} {f : α → Option β} {b : β} (e : x.bind f = some b) : ∃ a, x = some a ∧ f a = some b := by
  cases x with
  | none => cases e
  | some a => exact ⟨a, rfl, e⟩
section
variable {X : Cx} {K : PySem.W.Frag} {mg : Str → Option Value}
/-! ### tests -/
def mTb (m : ME) : MT := fun sw h => (m sw h).bind fun p => match p.1 with
  | .bl b => some (b, p.2)
  | _ => none
theorem t_tb {m : ME} (σ : L2.St) (H : Hp) (Q : Bool → Hp → Prop) (t : tT K mg (mTb m) σ H Q) : tE K mg m σ H fun x H1 => ∃ c, x = .bl c ∧ Q c H1 := by
  obtain ⟨F, ρ, h, sw, b, h', g, rs, e, q⟩ := t
  obtain ⟨⟨w, h1⟩, ea, e⟩ := bind_some e
  cases w with
  | bl c =>
    cases e
    refine ⟨F, ρ, h, sw, .bl b, _, g, rs, ea, fun F1 ρ1 H1 v x1 g1 r1 => ?_⟩
    cases r1
    exact ⟨b, rfl, q F1 ρ1 H1 x1 g1⟩
  | _ => cases e
theorem gt_val {e : Expr} {m : ME} (he : GE X e m) (hw : ∀ whole, isTrue e X.env whole = (do let v ← whole; standAt e.pos; holding [v] (truthy v)) := by intro _; rfl) : GT X e (mTb m) := le_T (pt_val he hw) t_tb
theorem gt_cmp {a b : Expr} {op : CmpOp} {pos : Pos} {r : R2} {o : MO2} {ma mb : ME} (ho : OpR X (compareOp op) r) (w : OpW X.K X.mg r o) (ha : GE X a ma) (hb : GE X b mb) (hm : behindInMarks op b = false) : GT X (.Compare a [op] [b] pos) (mTb (mOp2 o ma mb)) :=
  le_T (pt_cmpR ho ha hb hm) fun σ H Q t => t_op2 w σ H _ (t_tb σ H Q t)
def mNot (m : MT) : MT := fun sw h => (m sw h).bind fun p => some (!p.1, p.2)
theorem gt_not {a : Expr} {pos : Pos} {m : MT} (ha : GT X a m) : GT X (.UnaryOp .Not a pos) (mNot m) := le_T (pt_not ha) fun σ H Q t => by
  obtain ⟨F, ρ, h, sw, b, h', g, rs, e, q⟩ := t
  obtain ⟨⟨c, h1⟩, ea, e⟩ := bind_some e
  cases e
  exact ⟨F, ρ, h, sw, c, _, g, rs, ea, q⟩
/-- a test as a value -/
def mOfT (m : MT) : ME := fun sw h => (m sw h).bind fun p => some (.bl p.1, p.2)
def mAndT (a b : MT) : MT := fun sw h => (a sw h).bind fun p => if p.1 = true then b sw p.2 else some (false, p.2)
def mOrT (a b : MT) : MT := fun sw h => (a sw h).bind fun p => if p.1 = true then some (true, p.2) else b sw p.2
theorem t_andT {a b : MT} (σ : L2.St) (H : Hp) (Q : Bool → Hp → Prop) (t : tT K mg (mAndT a b) σ H Q) : tAnd (tT K mg a) (tT K mg b) σ H Q := by
  obtain ⟨F, ρ, h, sw, c, h', g, rs, e, q⟩ := t
  obtain ⟨⟨d, h1⟩, ea, e⟩ := bind_some e
  refine ⟨F, ρ, h, sw, d, h1, g, rs, ea, fun F1 ρ1 H1 x1 g1 => ?_⟩
  cases d with
  | true =>
    rw [if_pos rfl]
    exact ⟨F1, ρ1, h1, sw, c, h', g1, x1.rs g rs, by simpa using e, q.step x1⟩
  | false =>
    rw [if_neg (by simp)]
    have e : some (false, h1) = some (c, h') := by simpa using e
    cases e
    exact q F1 ρ1 H1 x1 g1
theorem t_orT {a b : MT} (σ : L2.St) (H : Hp) (Q : Bool → Hp → Prop) (t : tT K mg (mOrT a b) σ H Q) : tOr (tT K mg a) (tT K mg b) σ H Q := by
  obtain ⟨F, ρ, h, sw, c, h', g, rs, e, q⟩ := t
  obtain ⟨⟨d, h1⟩, ea, e⟩ := bind_some e
  refine ⟨F, ρ, h, sw, d, h1, g, rs, ea, fun F1 ρ1 H1 x1 g1 => ?_⟩
  cases d with
  | false =>
    rw [if_neg (by simp)]
    exact ⟨F1, ρ1, h1, sw, c, h', g1, x1.rs g rs, by simpa using e, q.step x1⟩
  | true =>
    rw [if_pos rfl]
    have e : some (true, h1) = some (c, h') := by simpa using e
    cases e
    exact q F1 ρ1 H1 x1 g1
theorem gw_and1 {a : Expr} {pos : Pos} {m : MT} (ha : GT X a m) : GW X (.BoolOp .And [a] pos) m := pw_and1 ha
theorem gw_or1 {a : Expr} {pos : Pos} {m : MT} (ha : GT X a m) : GW X (.BoolOp .Or [a] pos) m := pw_or1 ha
theorem gw_and {a b : Expr} {rest : List Expr} {pos : Pos} {m n : MT} (ha : GT X a m) (hb : GW X (.BoolOp .And (b :: rest) pos) n) : GW X (.BoolOp .And (a :: b :: rest) pos) (mAndT m n) := le_W (pw_and ha hb) t_andT
theorem gw_or {a b : Expr} {rest : List Expr} {pos : Pos} {m n : MT} (ha : GT X a m) (hb : GW X (.BoolOp .Or (b :: rest) pos) n) : GW X (.BoolOp .Or (a :: b :: rest) pos) (mOrT m n) := le_W (pw_or ha hb) t_orT
theorem gt_w {e : Expr} {m : MT} (h : GW X e m) : GT X e m := h.pt
/-- and, or as values (bools, but the last) -/
def mAnd (a b : ME) : ME := fun sw h => (a sw h).bind fun p => match p.1 with
  | .bl true => b sw p.2
  | .bl false => some (.bl false, p.2)
  | _ => none
def mOr (a b : ME) : ME := fun sw h => (a sw h).bind fun p => match p.1 with
  | .bl false => b sw p.2
  | .bl true => some (.bl true, p.2)
  | _ => none
theorem t_and {a b : ME} (σ : L2.St) (H : Hp) (Q : VK) (t : tE K mg (mAnd a b) σ H Q) : tAndV (tE K mg a) (tE K mg b) σ H Q := by
  obtain ⟨F, ρ, h, sw, c, h', g, rs, e, q⟩ := t
  obtain ⟨⟨d, h1⟩, ea, e⟩ := bind_some e
  refine ⟨F, ρ, h, sw, d, h1, g, rs, ea, fun F1 ρ1 H1 v x1 g1 r1 => ?_⟩
  cases d with
  | bl d =>
    cases r1
    refine ⟨d, rfl, ?_⟩
    cases d with
    | true =>
      rw [if_pos rfl]
      exact ⟨F1, ρ1, h1, sw, c, h', g1, x1.rs g rs, e, q.step x1⟩
    | false =>
      rw [if_neg (by simp)]
      cases e
      exact q F1 ρ1 H1 _ x1 g1 (.bl false)
  | _ => cases e
theorem t_or {a b : ME} (σ : L2.St) (H : Hp) (Q : VK) (t : tE K mg (mOr a b) σ H Q) : tOrV (tE K mg a) (tE K mg b) σ H Q := by
  obtain ⟨F, ρ, h, sw, c, h', g, rs, e, q⟩ := t
  obtain ⟨⟨d, h1⟩, ea, e⟩ := bind_some e
  refine ⟨F, ρ, h, sw, d, h1, g, rs, ea, fun F1 ρ1 H1 v x1 g1 r1 => ?_⟩
  cases d with
  | bl d =>
    cases r1
    refine ⟨d, rfl, ?_⟩
    cases d with
    | false =>
      rw [if_neg (by simp)]
      exact ⟨F1, ρ1, h1, sw, c, h', g1, x1.rs g rs, e, q.step x1⟩
    | true =>
      rw [if_pos rfl]
      cases e
      exact q F1 ρ1 H1 _ x1 g1 (.bl true)
  | _ => cases e
theorem ge_one {op : BoolOp} {a : Expr} {pos : Pos} {m : ME} (ha : GE X a m) : GE X (.BoolOp op [a] pos) m := pe_one ha
theorem ge_and {a b : Expr} {rest : List Expr} {pos : Pos} {m n : ME} (ha : GE X a m) (hb : GE X (.BoolOp .And (b :: rest) pos) n) : GE X (.BoolOp .And (a :: b :: rest) pos) (mAnd m n) := le_E (pe_and ha hb) t_and
theorem ge_or {a b : Expr} {rest : List Expr} {pos : Pos} {m n : ME} (ha : GE X a m) (hb : GE X (.BoolOp .Or (b :: rest) pos) n) : GE X (.BoolOp .Or (a :: b :: rest) pos) (mOr m n) := le_E (pe_or ha hb) t_or
def mNotV (m : ME) : ME := fun sw h => (m sw h).bind fun p => match p.1 with
  | .bl b => some (.bl (!b), p.2)
  | _ => none
theorem ge_not {a : Expr} {pos : Pos} {m : ME} (ha : GE X a m) : GE X (.UnaryOp .Not a pos) (mNotV m) := le_E (pe_not ha) fun σ H Q t => by
  obtain ⟨F, ρ, h, sw, c, h', g, rs, e, q⟩ := t
  obtain ⟨⟨d, h1⟩, ea, e⟩ := bind_some e
  refine ⟨F, ρ, h, sw, d, h1, g, rs, ea, fun F1 ρ1 H1 v x1 g1 r1 => ?_⟩
  cases d with
  | bl d =>
    cases r1
    cases e
    exact ⟨d, rfl, q F1 ρ1 H1 _ x1 g1 (.bl _)⟩
  | _ => cases e
def mIfE (c : MT) (a b : ME) : ME := fun sw h => (c sw h).bind fun p => if p.1 = true then a sw p.2 else b sw p.2
theorem ge_if {c a b : Expr} {pos : Pos} {mc : MT} {ma mb : ME} (hc : GT X c mc) (ha : GE X a ma) (hb : GE X b mb) : GE X (.IfExp c a b pos) (mIfE mc ma mb) := le_E (pe_ifExp hc ha hb) fun σ H Q t => by
  obtain ⟨F, ρ, h, sw, c, h', g, rs, e, q⟩ := t
  obtain ⟨⟨d, h1⟩, ea, e⟩ := bind_some e
  refine ⟨F, ρ, h, sw, d, h1, g, rs, ea, fun F1 ρ1 H1 x1 g1 => ?_⟩
  cases d with
  | true => rw [if_pos rfl]; exact ⟨F1, ρ1, h1, sw, c, h', g1, x1.rs g rs, by simpa using e, q.step x1⟩
  | false => rw [if_neg (by simp)]; exact ⟨F1, ρ1, h1, sw, c, h', g1, x1.rs g rs, by simpa using e, q.step x1⟩
/-- a < b < c -/
def mChain (o o' : MO2) (ma mb mc : ME) : ME := fun sw h => (ma sw h).bind fun p => (mb sw p.2).bind fun p2 => (o p.1 p2.1 p2.2).bind fun z => match z.1 with
  | .bl true => (mc sw z.2).bind fun p3 => o' p2.1 p3.1 p3.2
  | .bl false => some (.bl false, z.2)
  | _ => none
theorem t_chain {r r' : R2} {o o' : MO2} {ma mb mc : ME} (w : OpW K mg r o) (w' : OpW K mg r' o') (σ : L2.St) (H : Hp) (Q : VK) (t : tE K mg (mChain o o' ma mb mc) σ H Q) : tChain r r' (tE K mg ma) (tE K mg mb) (tE K mg mc) σ H Q := by
  obtain ⟨F, ρ, h, sw, wv, h', g, rs, e, q⟩ := t
  obtain ⟨⟨a, h1⟩, ea, e⟩ := bind_some e
  obtain ⟨⟨b, h2⟩, eb, e⟩ := bind_some e
  obtain ⟨⟨z, h3⟩, ez, e⟩ := bind_some e
  refine ⟨F, ρ, h, sw, a, h1, g, rs, ea, fun F1 ρ1 H1 x x1 g1 r1 => ?_⟩
  refine ⟨F1, ρ1, h1, sw, b, h2, g1, x1.rs g rs, eb, fun F2 ρ2 H2 y x2 g2 r2 => ?_⟩
  refine w F2 ρ2 h2 H2 x y a b z h3 _ g2 (x2.rv g1 r1) r2 ez fun F3 ρ3 H3 v x3 g3 r3 => ?_
  cases z with
  | bl d =>
    cases r3
    refine ⟨d, rfl, ?_⟩
    cases d with
    | true =>
      rw [if_pos rfl]
      obtain ⟨⟨c, h4⟩, ec, e⟩ := bind_some e
      refine ⟨F3, ρ3, h3, sw, c, h4, g3, ((x1.trans x2).trans x3).rs g rs, ec, fun F4 ρ4 H4 u x4 g4 r4 => ?_⟩
      exact w' F4 ρ4 h4 H4 y u b c wv h' Q g4 ((x3.trans x4).rv g2 r2) r4 e (q.step (((x1.trans x2).trans x3).trans x4))
    | false =>
      rw [if_neg (by simp)]
      cases e
      exact q F3 ρ3 H3 _ ((x1.trans x2).trans x3) g3 (.bl false)
  | _ => cases e
/-! ### statements -/
def mNext : MS := fun sw h => some (.nx sw h)
def mSeq (a b : MS) : MS := fun sw h => (a sw h).bind fun r => match r with
  | .nx sw' h' => b sw' h'
  | r => some r
theorem gss_nil : GSs X [] mNext := le_Ss pss_nil fun D σ H ⟨F, ρ, h, sw, r, g, rs, e, q⟩ => by
  cases e; exact q F ρ H σ .refl g rs
theorem t_seq {a b : MS} (D : Ends) (σ : L2.St) (H : Hp) (t : tS K mg (mSeq a b) D σ H) : tSeq (tS K mg a) (tS K mg b) D σ H := by
  obtain ⟨F, ρ, h, sw, r, g, rs, e, q⟩ := t
  obtain ⟨r1, ea, e⟩ := bind_some e
  refine ⟨F, ρ, h, sw, r1, g, rs, ea, ?_⟩
  cases r1 with
  | nx sw1 h1 => exact fun F1 ρ1 H1 σ1 x1 g1 rs1 => ⟨F1, ρ1, h1, sw1, r, g1, rs1, e, q.step x1⟩
  | bk sw1 h1 => cases e; exact q
  | ct sw1 h1 => cases e; exact q
  | ret w1 h1 => cases e; exact q
theorem gss_cons {s : Stmt} {rest : List Stmt} {a b : MS} (h1 : GS X s a) (h2 : GSs X rest b) : GSs X (s :: rest) (mSeq a b) := le_Ss (pss_cons h1 h2) t_seq
theorem gss_one {s : Stmt} {a : MS} (h1 : GS X s a) : GSs X [s] a := pss_one h1
def mBreak : MS := fun sw h => some (.bk sw h)
def mCont : MS := fun sw h => some (.ct sw h)
theorem gs_break {pos : Pos} : GS X (.Break pos) mBreak := le_S ps_break fun D σ H ⟨F, ρ, h, sw, r, g, rs, e, q⟩ => by cases e; exact q F ρ H σ .refl g rs
theorem gs_cont {pos : Pos} : GS X (.Continue pos) mCont := le_S ps_continue fun D σ H ⟨F, ρ, h, sw, r, g, rs, e, q⟩ => by cases e; exact q F ρ H σ .refl g rs
theorem gs_pass {pos : Pos} : GS X (.Pass pos) mNext := le_S ps_pass fun D σ H ⟨F, ρ, h, sw, r, g, rs, e, q⟩ => by cases e; exact q F ρ H σ .refl g rs
def mNever : MS := fun _ _ => none
theorem gs_never {s : Stmt} : GS X s mNever := le_S ps_never fun D σ H ⟨F, ρ, h, sw, r, g, rs, e, q⟩ => by cases e
theorem gss_never {s : List Stmt} : GSs X s mNever := le_Ss pss_never fun D σ H ⟨F, ρ, h, sw, r, g, rs, e, q⟩ => by cases e
def mDrop (m : ME) : MS := fun sw h => (m sw h).bind fun p => some (.nx sw p.2)
theorem gs_expr {e : Expr} {pos : Pos} {m : ME} (he : GE X e m) (hs : swapsWith e none pos.line X.env = pure false := by rfl) : GS X (.Expr e pos) (mDrop m) := le_S (ps_expr he hs) fun D σ H ⟨F, ρ, h, sw, r, g, rs, e, q⟩ => by
  obtain ⟨⟨w, h1⟩, ea, e⟩ := bind_some e
  cases e
  exact ⟨F, ρ, h, sw, w, h1, g, rs, ea, fun F1 ρ1 H1 v x1 g1 r1 => q F1 ρ1 H1 σ x1 g1 (x1.rs g rs)⟩
def mRet (m : ME) : MS := fun sw h => (m sw h).bind fun p => some (.ret p.1 p.2)
theorem gs_ret {e : Expr} {pos : Pos} {m : ME} (he : GE X e m) : GS X (.Return (some e) pos) (mRet m) := le_S (ps_ret he) fun D σ H ⟨F, ρ, h, sw, r, g, rs, e, q⟩ => by
  obtain ⟨⟨w, h1⟩, ea, e⟩ := bind_some e
  cases e
  exact ⟨F, ρ, h, sw, w, h1, g, rs, ea, q⟩
def mRetN : MS := fun _ h => some (.ret .non h)
theorem gs_retN {pos : Pos} : GS X (.Return none pos) mRetN := le_S ps_retN fun D σ H ⟨F, ρ, h, sw, r, g, rs, e, q⟩ => by cases e; exact q F ρ H _ .refl g .non
def mIf (c : MT) (a b : MS) : MS := fun sw h => (c sw h).bind fun p => if p.1 = true then a sw p.2 else b sw p.2
theorem gs_if {c : Expr} {a b : List Stmt} {pos : Pos} {mc : MT} {ma mb : MS} (hc : GT X c mc) (ha : GSs X a ma) (hb : GSs X b mb) : GS X (.If c a b pos) (mIf mc ma mb) := le_S (ps_if hc ha hb) fun D σ H ⟨F, ρ, h, sw, r, g, rs, e, q⟩ => by
  obtain ⟨⟨d, h1⟩, ea, e⟩ := bind_some e
  refine ⟨F, ρ, h, sw, d, h1, g, rs, ea, fun F1 ρ1 H1 x1 g1 => ?_⟩
  cases d with
  | true => rw [if_pos rfl]; exact ⟨F1, ρ1, h1, sw, r, g1, x1.rs g rs, by simpa using e, q.step x1⟩
  | false => rw [if_neg (by simp)]; exact ⟨F1, ρ1, h1, sw, r, g1, x1.rs g rs, by simpa using e, q.step x1⟩
def mSet (i : Nat) (m : ME) : MS := fun sw h => (m sw h).bind fun p => some (.nx (sw.set i (some p.1)) p.2)
theorem t_set {i : Nat} {m : ME} (D : Ends) (σ : L2.St) (H : Hp) (t : tS K mg (mSet i m) D σ H) : tAsg (tE K mg m) (gName i) D σ H := by
  obtain ⟨F, ρ, h, sw, r, g, rs, e, q⟩ := t
  obtain ⟨⟨w, h1⟩, ea, e⟩ := bind_some e
  cases e
  exact ⟨F, ρ, h, sw, w, h1, g, rs, ea, fun F1 ρ1 H1 v x1 g1 r1 => q F1 ρ1 H1 _ x1 g1 ((x1.rs g rs).set r1 i)⟩
theorem gs_set {i : Nat} {x : Str} {e : Expr} {pos pos' : Pos} {m : ME} (hN : X.N.Nodup) (hi : X.N[i]? = some x) (hx : Loc X.env.scope x) (he : GE X e m) (hs : swapsWith e (some (.Name x pos')) pos.line X.env = pure false := by rfl) (hf : X.fn x = true ∨ X.env.scope.names.lookup x = some .local := by first | exact .inl rfl | exact .inr rfl | assumption) :
    GS X (.Assign [.Name x pos'] e pos) (mSet i m) := le_S (ps_set hN hi hx he hs hf) t_set
/-- a, b = e, e' -/
def mPar (i j : Nat) (ma : MA) : MS := fun sw h => (ma sw h).bind fun p => match p.1 with
  | [a, b] => some (.nx ((sw.set i (some a)).set j (some b)) p.2)
  | _ => none
theorem t_par {i j : Nat} {ma : MA} (D : Ends) (σ : L2.St) (H : Hp) (t : tS K mg (mPar i j ma) D σ H) : tPar i j (tA K mg ma) D σ H := by
  obtain ⟨F, ρ, h, sw, r, g, rs, e, q⟩ := t
  obtain ⟨⟨ws, h1⟩, ea, e⟩ := bind_some e
  refine ⟨F, ρ, h, sw, ws, h1, g, rs, ea, fun F1 ρ1 H1 vs x1 g1 r1 => ?_⟩
  match ws, r1, e with
  | [a, b], .cons ra (.cons rb .nil), e =>
    cases e
    exact ⟨_, _, rfl, q F1 ρ1 H1 _ x1 g1 (((x1.rs g rs).set ra i).set rb j)⟩
def mPar3 (i j l : Nat) (ma : MA) : MS := fun sw h => (ma sw h).bind fun p => match p.1 with
  | [a, b, c] => some (.nx (((sw.set i (some a)).set j (some b)).set l (some c)) p.2)
  | _ => none
theorem t_par3 {i j l : Nat} {ma : MA} (D : Ends) (σ : L2.St) (H : Hp) (t : tS K mg (mPar3 i j l ma) D σ H) : tPar3 i j l (tA K mg ma) D σ H := by
  obtain ⟨F, ρ, h, sw, r, g, rs, e, q⟩ := t
  obtain ⟨⟨ws, h1⟩, ea, e⟩ := bind_some e
  refine ⟨F, ρ, h, sw, ws, h1, g, rs, ea, fun F1 ρ1 H1 vs x1 g1 r1 => ?_⟩
  match ws, r1, e with
  | [a, b, c], .cons ra (.cons rb (.cons rc .nil)), e =>
    cases e
    exact ⟨_, _, _, rfl, q F1 ρ1 H1 _ x1 g1 ((((x1.rs g rs).set ra i).set rb j).set rc l)⟩
/-! ### while -/
def wh (c : MT) (b : MS) : Nat → MS
  | 0 => fun _ _ => none
  | n + 1 => fun sw h => (c sw h).bind fun p => if p.1 = true then (b sw p.2).bind fun r => (match r with
      | .nx sw' h' => wh c b n sw' h'
      | .ct sw' h' => wh c b n sw' h'
      | .bk sw' h' => some (.nx sw' h')
      | .ret w h' => some (.ret w h')) else some (.nx sw p.2)
theorem t_while {c : MT} {b : MS} {n : Nat} (D : Ends) (σ : L2.St) (H : Hp) (t : tS K mg (wh c b n) D σ H) : tWhile (tT K mg c) (tS K mg b) D σ H := by
  refine ⟨fun m σ H => tS K mg (wh c b m) D σ H, ⟨n, t⟩, fun m σ H t => ?_⟩
  obtain ⟨F, ρ, h, sw, r, g, rs, e, q⟩ := t
  cases m with
  | zero => cases e
  | succ m =>
    unfold wh at e
    obtain ⟨⟨d, h1⟩, ea, e⟩ := bind_some e
    refine ⟨F, ρ, h, sw, d, h1, g, rs, ea, fun F1 ρ1 H1 x1 g1 => ?_⟩
    cases d with
    | false =>
      rw [if_neg (by simp)]
      have e : some (R.nx sw h1) = some r := by simpa using e
      cases e
      exact q F1 ρ1 H1 σ x1 g1 (x1.rs g rs)
    | true =>
      rw [if_pos rfl]
      have e : ((b sw h1).bind fun r => (match r with
        | .nx sw' h' => wh c b m sw' h'
        | .ct sw' h' => wh c b m sw' h'
        | .bk sw' h' => some (.nx sw' h')
        | .ret w h' => some (.ret w h'))) = some r := by simpa using e
      obtain ⟨r1, eb, e⟩ := bind_some e
      refine ⟨fun σ' H' => tS K mg (wh c b m) D σ' H', fun σ' H' t => ⟨m, Nat.lt_succ_self m, t⟩, F1, ρ1, h1, sw, r1, g1, x1.rs g rs, eb, ?_⟩
      cases r1 with
      | nx sw1 h1 => exact fun F2 ρ2 H2 σ2 x2 g2 rs2 => ⟨F2, ρ2, h1, sw1, r, g2, rs2, e, (q.step x1).step x2⟩
      | ct sw1 h1 => exact fun F2 ρ2 H2 σ2 x2 g2 rs2 => ⟨F2, ρ2, h1, sw1, r, g2, rs2, e, (q.step x1).step x2⟩
      | bk sw1 h1 => cases e; exact FutS.step x1 q
      | ret w1 h1 => cases e; exact Fut.step x1 q
theorem gs_while {c : Expr} {body : List Stmt} {pos : Pos} {mc : MT} {mb : MS} (n : Nat) (hp : PassesOwn (model X.prog X.w) X.A X.env X.xe) (hc : GT X c mc) (hb : GSs X body mb) : GS X (.While c body [] pos) (wh mc mb n) := le_S (ps_while hp hc hb) t_while
end
end G

set_option Elab.async false
set_option linter.all false
set_option maxRecDepth 100000
set_option maxHeartbeats 4000000
namespace G
open PySem PySem.Spec PyProof.Rows L2
structure Src where
  yld : Nat → Hm → Option (Option W)
abbrev MI := Sw → Hm → Option (Src × Hm)
abbrev MG := W → Sw → Option Sw
section
variable (K : PySem.W.Frag) (mg : Str → Option Value)
def SrcOk (F : Addr → Prop) (ρ : List Addr) (h : Hm) (H : Hp) (s : Src) (J : It) : Prop := ∀ F1 ρ1 h1 H1 i, Ext F ρ h H F1 ρ1 h1 H1 → Good K mg F1 ρ1 h1 H1 →
  (s.yld i h1 = some none → J.stop i H1) ∧ ∀ w, s.yld i h1 = some (some w) → J.go i H1 ∧ ∀ x H2, J.yld i H1 x H2 → ∃ F2 ρ2, Ext F1 ρ1 h1 H1 F2 ρ2 h1 H2 ∧ Good K mg F2 ρ2 h1 H2 ∧ RV K mg F2 ρ2 H2 w x
def tI (m : MI) : TI := fun σ H R => ∃ F ρ h sw s h', Good K mg F ρ h H ∧ RS K mg F ρ H sw σ ∧ m sw h = some (s, h') ∧ ∀ F' ρ' H' J, Ext F ρ h H F' ρ' h' H' → Good K mg F' ρ' h' H' → SrcOk K mg F' ρ' h' H' s J → R J H'
def tG (ix : List Nat) (m : MG) : TG := fun v σ H Q => ∃ F ρ h sw w sw', Good K mg F ρ h H ∧ RS K mg F ρ H sw σ ∧ RV K mg F ρ H w v ∧ m w sw = some sw' ∧
  ∀ σ', RS K mg F ρ H sw' σ' → σ'.length = σ.length → (∀ j : Nat, j ∉ ix → σ'[j]? = σ[j]?) → Q σ' H
end
abbrev GI (X : Cx) (tg iter : Expr) (m : MI) : Prop := PI X tg iter (tI X.K X.mg m)
abbrev GG (X : Cx) (tg : Expr) (ix : List Nat) (m : MG) : Prop := PG X tg (tG X.K X.mg ix m)
theorem le_G {X : Cx} {tg : Expr} {t t' : TG} (p : PG X tg t) (l : ∀ v σ H Q, t' v σ H Q → t v σ H Q) : PG X tg t' := ⟨fun pins s σ H v u Q I r h => p.run pins s σ H v u Q I r (l v σ H Q h)⟩
theorem le_I {X : Cx} {tg it : Expr} {t t' : TI} (p : PI X tg it t) (l : ∀ σ H Q, t' σ H Q → t σ H Q) : PI X tg it t' := ⟨fun pins s σ H R I h => p.run pins s σ H R I (l σ H R h)⟩

section
variable {X : Cx} {K : PySem.W.Frag} {mg : Str → Option Value}
/-! ### targets -/
def gN (i : Nat) : MG := fun w sw => some (sw.set i (some w))
theorem gg_name {i : Nat} {x : Str} {pos : Pos} (hN : X.N.Nodup) (hi : X.N[i]? = some x) (hx : Loc X.env.scope x) (hf : X.fn x = true ∨ X.env.scope.names.lookup x = some .local := by first | exact .inl rfl | exact .inr rfl | assumption) : GG X (.Name x pos) [i] (gN i) :=
  le_G (pg_name hN hi hx hf) fun v σ H Q ⟨F, ρ, h, sw, w, sw', g, rs, rv, e, q⟩ => by
    cases e
    exact q _ (rs.set rv i) (by rw [List.length_set]) fun j hj => List.getElem?_set_ne (fun z => hj (by simp [z]))
/-- several names -/
def gL : List Nat → List W → Sw → Option Sw
  | [], [], sw => some sw
  | i :: is, w :: ws, sw => gL is ws (sw.set i (some w))
  | _, _, _ => none
def tGl (K : PySem.W.Frag) (mg : Str → Option Value) (is : List Nat) : TGs := fun vs σ H Q => ∃ F ρ h sw ws sw', Good K mg F ρ h H ∧ RS K mg F ρ H sw σ ∧ RVs K mg F ρ H ws vs ∧ gL is ws sw = some sw' ∧
  ∀ σ', RS K mg F ρ H sw' σ' → σ'.length = σ.length → (∀ j : Nat, j ∉ is → σ'[j]? = σ[j]?) → Q σ' H
theorem ggs_nil : PGs X [] (tGl X.K X.mg []) := ⟨fun pins s σ H vs us Q I r h => pgs_nil.run pins s σ H vs us Q I r (by
  obtain ⟨F, ρ, hm, sw, ws, sw', g, rs, rv, e, q⟩ := h
  cases rv with
  | nil => cases e; exact ⟨rfl, q σ rs rfl fun _ _ => rfl⟩
  | cons a b => cases e)⟩
theorem ggs_cons {i : Nat} {is : List Nat} {x : Str} {pos : Pos} {es : List Expr} (hN : X.N.Nodup) (hi : X.N[i]? = some x) (hx : Loc X.env.scope x) (h2 : PGs X es (tGl X.K X.mg is))
    (hs : (assignEach (.Name x pos :: es) X.env).map (·.2) = assign (.Name x pos) X.env :: (assignEach es X.env).map (·.2) := by rfl) (hf : X.fn x = true ∨ X.env.scope.names.lookup x = some .local := by first | exact .inl rfl | exact .inr rfl | assumption) : PGs X (.Name x pos :: es) (tGl X.K X.mg (i :: is)) :=
  ⟨fun pins s σ H vs us Q I r h => (pgs_cons (pg_name hN hi hx hf) h2 hs).run pins s σ H vs us Q I r (by
    obtain ⟨F, ρ, hm, sw, ws, sw', g, rs, rv, e, q⟩ := h
    cases rv with
    | nil => cases e
    | cons a b =>
      refine ⟨_, _, rfl, F, ρ, hm, _, _, sw', g, rs.set a i, b, e, fun σ' rs' hl hj => q σ' rs' (by rw [hl, List.length_set]) fun j nj => ?_⟩
      rw [hj j fun z => nj (List.mem_cons_of_mem _ z)]
      exact List.getElem?_set_ne fun z => nj (by simp [z]))⟩
def gT (is : List Nat) : MG := fun w sw => match w with
  | .tup ws => gL is ws sw
  | _ => none
theorem gL_len : ∀ {is : List Nat} {ws : List W} {sw sw' : Sw}, gL is ws sw = some sw' → ws.length = is.length
  | [], [], _, _, _ => rfl
  | i :: is, w :: ws, sw, sw', e => by rw [List.length_cons, List.length_cons, gL_len (is := is) (ws := ws) e]
  | [], w :: ws, _, _, e => by cases e
  | i :: is, [], _, _, e => by cases e
theorem gg_tup {is : List Nat} {es : List Expr} {k : Nat} {pos : Pos} (hc : X.calm = true) (h : PGs X es (tGl X.K X.mg is)) (hn : (assignEach es X.env).length = is.length := by rfl) (hst : (assignEach es X.env).findIdx? (·.1) = none := by rfl) : GG X (.Tuple es k pos) is (gT is) :=
  le_G (pg_tup hc h hn hst) fun v σ H Q ⟨F, ρ, hm, sw, w, sw', g, rs, rv, e, q⟩ => by
    cases rv with
    | tup a b =>
      have e : gL is _ sw = some sw' := e
      exact ⟨_, _, rfl, a, by rw [← b.length, gL_len e], F, ρ, hm, sw, _, sw', g, rs, b, e, q⟩
    | _ => cases e
/-! ### for -/
def fo (s : Src) (tg : MG) (b : MS) : Nat → Nat → MS
  | 0, _ => fun _ _ => none
  | n + 1, i => fun sw h => (s.yld i h).bind fun o => match o with
    | none => some (.nx sw h)
    | some w => (tg w sw).bind fun sw1 => (b sw1 h).bind fun r => match r with
      | .nx sw' h' => fo s tg b n (i + 1) sw' h'
      | .ct sw' h' => fo s tg b n (i + 1) sw' h'
      | .bk sw' h' => some (.nx sw' h')
      | .ret w h' => some (.ret w h')
def mFor (n : Nat) (mi : MI) (tg : MG) (b : MS) : MS := fun sw h => (mi sw h).bind fun p => fo p.1 tg b n 0 sw p.2
theorem t_for {ix : List Nat} {mi : MI} {tg : MG} {b : MS} {n : Nat} (D : Ends) (σ : L2.St) (H : Hp) (t : tS K mg (mFor n mi tg b) D σ H) : tFor (tI K mg mi) (tG K mg ix tg) (tS K mg b) D σ H := by
  obtain ⟨F, ρ, h, sw, r, g, rs, e, q⟩ := t
  obtain ⟨⟨s, h0⟩, ei, e⟩ := bind_some e
  refine ⟨F, ρ, h, sw, s, h0, g, rs, ei, fun F0 ρ0 H0 J x0 g0 sok => ?_⟩
  refine ⟨fun i m σ H => ∃ F1 ρ1 h1 sw1, Ext F0 ρ0 h0 H0 F1 ρ1 h1 H ∧ Good K mg F1 ρ1 h1 H ∧ RS K mg F1 ρ1 H sw1 σ ∧ fo s tg b m i sw1 h1 = some r, ⟨n, F0, ρ0, h0, sw, .refl, g0, x0.rs g rs, e⟩, fun i m σ1 H1 hW => ?_⟩
  obtain ⟨F1, ρ1, h1, sw1, x1, g1, rs1, e1⟩ := hW
  have q1 := (q.step x0).step x1
  cases m with
  | zero => cases e1
  | succ m =>
    unfold fo at e1
    obtain ⟨o, eo, e1⟩ := bind_some e1
    obtain ⟨sa, sb⟩ := sok F1 ρ1 h1 H1 i x1 g1
    cases o with
    | none =>
      cases e1
      exact .inl ⟨sa eo, q1 F1 ρ1 H1 σ1 .refl g1 rs1⟩
    | some w =>
      obtain ⟨sw2, eg, e1⟩ := bind_some e1
      obtain ⟨r2, eb, e1⟩ := bind_some e1
      obtain ⟨go, yl⟩ := sb w eo
      refine .inr ⟨go, fun σ' H' => ∃ F1 ρ1 h1 sw1, Ext F0 ρ0 h0 H0 F1 ρ1 h1 H' ∧ Good K mg F1 ρ1 h1 H' ∧ RS K mg F1 ρ1 H' sw1 σ' ∧ fo s tg b m (i + 1) sw1 h1 = some r, fun σ' H' hN => ⟨m, Nat.lt_succ_self m, hN⟩, fun x H2 hy => ?_⟩
      obtain ⟨F2, ρ2, x2, g2, rv2⟩ := yl x H2 hy
      refine ⟨F2, ρ2, h1, sw1, w, sw2, g2, x2.rs g1 rs1, rv2, eg, fun σ3 rs3 _ _ => ?_⟩
      refine ⟨F2, ρ2, h1, sw2, r2, g2, rs3, eb, ?_⟩
      cases r2 with
      | nx sw4 h4 => exact fun F4 ρ4 H4 σ4 x4 g4 rs4 => ⟨F4, ρ4, h4, sw4, (x1.trans x2).trans x4, g4, rs4, e1⟩
      | ct sw4 h4 => exact fun F4 ρ4 H4 σ4 x4 g4 rs4 => ⟨F4, ρ4, h4, sw4, (x1.trans x2).trans x4, g4, rs4, e1⟩
      | bk sw4 h4 => cases e1; exact FutS.step x2 q1
      | ret w4 h4 => cases e1; exact Fut.step x2 q1
theorem gs_for (n : Nat) {ix : List Nat} {tgt iter : Expr} {body : List Stmt} {pos : Pos} {mi : MI} {tg : MG} {mb : MS} (hp : PassesOwn (model X.prog X.w) X.A X.env X.xe) (hc : X.calm = true) (hi : GI X tgt iter mi) (hg : GG X tgt ix tg) (hb : GSs X body mb)
    (hs : ∀ x, foldedSetIterable iter X.env x = pure x := by intro _; rfl) : GS X (.For tgt iter body [] pos) (mFor n mi tg mb) := le_S (ps_for hp hc hi hg hb hs) t_for
/-! ### comprehensions -/
def wipeW (sw : Sw) : List Nat → Sw
  | [] => sw
  | v :: vs => (wipeW sw vs).set v none
theorem rs_wipe {F : Addr → Prop} {ρ : List Addr} {H : Hp} {sw : Sw} {σ : L2.St} (r : RS K mg F ρ H sw σ) : ∀ vs : List Nat, RS K mg F ρ H (wipeW sw vs) (wipe σ vs)
  | [] => r
  | v :: vs => (rs_wipe r vs).wipe v
theorem wipe_get (σ : L2.St) : ∀ (vs : List Nat) (j : Nat), j ∉ vs → (wipe σ vs)[j]? = σ[j]?
  | [], _, _ => rfl
  | v :: vs, j, hj => by
    unfold wipe
    rw [List.getElem?_set_ne (fun z => hj (by simp [z])), wipe_get σ vs j fun z => hj (List.mem_cons_of_mem _ z)]
theorem wipe_in (σ : L2.St) : ∀ (vs : List Nat) (j : Nat), j ∈ vs → j < σ.length → (wipe σ vs)[j]? = some none
  | v :: vs, j, hj, hl => by
    unfold wipe
    by_cases e : v = j
    · subst e; rw [List.getElem?_set_self (by rw [wipe_length]; exact hl)]
    · rw [List.getElem?_set_ne e]
      rcases List.mem_cons.mp hj with z | z
      · exact absurd z.symm e
      · exact wipe_in σ vs j z hl
theorem wipe_eq {σ σ' : L2.St} {vs : List Nat} (hl : σ.length = σ'.length) (hj : ∀ j : Nat, j ∉ vs → σ[j]? = σ'[j]?) : wipe σ vs = wipe σ' vs := by
  apply List.ext_getElem?
  intro j
  by_cases h : j ∈ vs
  · by_cases l : j < σ.length
    · rw [wipe_in σ vs j h l, wipe_in σ' vs j h (by omega)]
    · rw [List.getElem?_eq_none (by rw [wipe_length]; omega), List.getElem?_eq_none (by rw [wipe_length]; omega)]
  · rw [wipe_get σ vs j h, wipe_get σ' vs j h]; exact hj j h
def lc (s : Src) (tg : MG) (t : MT) (m : ME) : Nat → Nat → Sw → Hm → List W → Option (List W × Hm)
  | 0, _ => fun _ _ _ => none
  | n + 1, i => fun sw h acc => (s.yld i h).bind fun o => match o with
    | none => some (acc.reverse, h)
    | some w => (tg w sw).bind fun sw1 => (t sw1 h).bind fun p => if p.1 = true then (m sw1 p.2).bind fun q => lc s tg t m n (i + 1) sw q.2 (q.1 :: acc) else lc s tg t m n (i + 1) sw p.2 acc
def mLc (own : Bool) (vs : List Nat) (mi : MI) (tg : MG) (t : MT) (m : ME) : ME := fun sw h => (mi sw h).bind fun p => (lc p.1 tg t m 100000 0 (wipeW sw vs) p.2 []).bind fun q => some (mk own q.1 q.2)
/-- the list that is made is nobody's yet -/
theorem apart {F F1 : Addr → Prop} {ρ ρ1 : List Addr} {h h1 : Hm} {H H1 : Hp} {D : Addr} {o : HO} (x : Ext F ρ h H F1 ρ1 h1 H1) (e : H D = some o) (nF : ¬ F D) (nL : ¬ Live ρ h D) : H1 D = some o ∧ ¬ F1 D ∧ ¬ Live ρ1 h1 D := by
  refine ⟨x.keep D o e nL, fun z => ?_, fun z => ?_⟩
  · rcases x.fN D z with z | z | z
    · exact nF z
    · rw [e] at z; cases z
    · exact nL z
  · rcases x.live D z with z | z
    · exact nL z
    · rw [e] at z; cases z
theorem good_upd {F : Addr → Prop} {ρ : List Addr} {h : Hm} {H : Hp} {D : Addr} {xs : List V} {o : HO} (g : Good K mg F ρ h H) (e : H D = some (.lst xs)) (nF : ¬ F D) (nL : ¬ Live ρ h D) : Good K mg F ρ h (upd H D o) := by
  have up : ∀ {w : W} {v : V}, RV K mg F ρ H w v → RV K mg F ρ (upd H D o) w v := fun q => rv_upd (fun vs z => by rw [e] at z; cases z) (fun b u z => by rw [e] at z; cases z) nF q
  refine ⟨g.nx, g.key, g.inj, fun p hp => ?_, fun b hb => ?_⟩
  · obtain ⟨a, e1, nf, ro⟩ := g.obj p hp
    refine ⟨a, e1, nf, ?_⟩
    match p, ro with
    | (m, .lst ws'), ro =>
      obtain ⟨vs', q1, q2⟩ := ro
      exact ⟨vs', by rw [upd_ne (show a ≠ D from fun z => nL ⟨_, hp, by rw [e1, z]⟩)]; exact q1, rvs_of q2 fun w v q => up q⟩
  · obtain ⟨u, eu⟩ := g.fr b hb
    exact ⟨u, by rw [upd_ne (show b ≠ D from fun z => nF (by rw [← z]; exact hb))]; exact eu⟩
theorem ext_upd {F F1 : Addr → Prop} {ρ ρ1 : List Addr} {h h1 : Hm} {H H1 : Hp} {D : Addr} {o : HO} (x : Ext F ρ h H F1 ρ1 h1 H1) (n : H D = none) : Ext F ρ h H F1 ρ1 h1 (upd H1 D o) :=
  ⟨x.rho, x.fF, x.fN, fun a u e nl => by rw [upd_ne (show a ≠ D from fun z => by rw [z, n] at e; cases e)]; exact x.keep a u e nl, x.live⟩
theorem t_lc {own : Bool} {ix vs : List Nat} {mi : MI} {tg : MG} {t : MT} {m : ME} (hix : ∀ j ∈ ix, j ∈ vs) (σ : L2.St) (H : Hp) (Q : VK) (tt : tE K mg (mLc own vs mi tg t m) σ H Q) : tLc (tI K mg mi) (tG K mg ix tg) (tT K mg t) (tE K mg m) vs σ H Q := by
  obtain ⟨F, ρ, h, sw, wv, h', g, rs, e, q⟩ := tt
  obtain ⟨⟨s, h0⟩, ei, e⟩ := bind_some e
  obtain ⟨⟨ws, h9⟩, el, e⟩ := bind_some e
  refine ⟨F, ρ, h, sw, s, h0, g, rs, ei, fun F0 ρ0 H0 J x0 g0 sok D nD => ?_⟩
  have rs0 : RS K mg F0 ρ0 H0 (wipeW sw vs) (wipe σ vs) := rs_wipe (x0.rs g rs) vs
  have q0 := q.step x0
  have e : some (mk own ws h9) = some (wv, h') := e
  have e : mk own ws h9 = (wv, h') := Option.some.inj e
  refine ⟨fun i m' H => ∃ F1 ρ1 h1 acc accv, Ext F0 ρ0 h0 H0 F1 ρ1 h1 H ∧ Good K mg F1 ρ1 h1 H ∧ RS K mg F1 ρ1 H (wipeW sw vs) (wipe σ vs) ∧ H D = some (.lst accv) ∧ ¬ F1 D ∧ ¬ Live ρ1 h1 D ∧ RVs K mg F1 ρ1 H acc.reverse accv ∧ acc.length + m' ≤ 100000 ∧ lc s tg t m m' i (wipeW sw vs) h1 acc = some (ws, h9), ⟨100000, ?_⟩, fun i m' H1 hW => ?_⟩
  · obtain ⟨g1, x1⟩ := g0.upd_new (o := .lst []) nD
    exact ⟨F0, ρ0, h0, [], [], x1, g1, x1.rs g0 rs0, upd_same, not_F_new g0 nD, not_live_new g0 nD, .nil, Nat.le_refl _, el⟩
  · obtain ⟨F1, ρ1, h1, acc, accv, x1, g1, rs1, eD, nF, nL, ra, hn, e1⟩ := hW
    cases m' with
    | zero => cases e1
    | succ m' =>
      unfold lc at e1
      obtain ⟨o, eo, e1⟩ := bind_some e1
      obtain ⟨sa, sb⟩ := sok F1 ρ1 h1 H1 i x1 g1
      cases o with
      | none =>
        cases e1
        refine .inl ⟨sa eo, ?_⟩
        obtain ⟨F', ρ', g2, rv, hr, hF, hNn, hL⟩ := mk_ok own g1 eD nF nL ra
        rw [e] at g2 rv hL
        obtain ⟨more, e9⟩ := hr
        obtain ⟨more1, e8⟩ := x1.rho
        refine q0 F' ρ' H1 (.ref D) ⟨⟨more1 ++ more, by rw [e9, e8, List.append_assoc]⟩, fun a ha => hF a (x1.fF a ha), fun a ha => ?_, fun a o eo nl => x1.keep a o eo nl, fun a ha => ?_⟩ g2 rv
        · rcases hNn a ha with z | rfl
          · exact x1.fN a z
          · exact .inr (.inl nD)
        · rcases hL a ha with z | rfl
          · exact x1.live a z
          · exact .inr nD
      | some w =>
        obtain ⟨sw2, eg, e1⟩ := bind_some e1
        obtain ⟨⟨bb, h2⟩, et, e1⟩ := bind_some e1
        obtain ⟨go, yl⟩ := sb w eo
        refine .inr ⟨go, fun H => ∃ F1 ρ1 h1 acc accv, Ext F0 ρ0 h0 H0 F1 ρ1 h1 H ∧ Good K mg F1 ρ1 h1 H ∧ RS K mg F1 ρ1 H (wipeW sw vs) (wipe σ vs) ∧ H D = some (.lst accv) ∧ ¬ F1 D ∧ ¬ Live ρ1 h1 D ∧ RVs K mg F1 ρ1 H acc.reverse accv ∧ acc.length + m' ≤ 100000 ∧ lc s tg t m m' (i + 1) (wipeW sw vs) h1 acc = some (ws, h9), fun H' hN => ⟨m', Nat.lt_succ_self _, hN⟩, fun x H2 hy => ?_⟩
        obtain ⟨F2, ρ2, x2, g2, rv2⟩ := yl x H2 hy
        obtain ⟨eD2, nF2, nL2⟩ := apart x2 eD nF nL
        refine ⟨F2, ρ2, h1, wipeW sw vs, w, sw2, g2, x2.rs g1 rs1, rv2, eg, fun σ3 rs3 hl3 hj3 => ⟨wipe_eq (by rw [hl3, wipe_length]) fun j hj => by rw [hj3 j fun z => hj (hix j z), wipe_get σ vs j hj], ?_⟩⟩
        refine ⟨F2, ρ2, h1, sw2, bb, h2, g2, rs3, et, fun F3 ρ3 H3 x3 g3 => ?_⟩
        obtain ⟨eD3, nF3, nL3⟩ := apart x3 eD2 nF2 nL2
        cases bb with
        | false =>
          rw [if_neg (by simp)]
          have e1 : lc s tg t m m' (i + 1) (wipeW sw vs) h2 acc = some (ws, h9) := by simpa using e1
          exact ⟨F3, ρ3, h2, acc, accv, (x1.trans x2).trans x3, g3, (x2.trans x3).rs g1 rs1, eD3, nF3, nL3, (x2.trans x3).rvs g1 ra, by omega, e1⟩
        | true =>
          rw [if_pos rfl]
          have e1 : ((m sw2 h2).bind fun q => lc s tg t m m' (i + 1) (wipeW sw vs) q.2 (q.1 :: acc)) = some (ws, h9) := by simpa using e1
          obtain ⟨⟨y, h4⟩, em, e1⟩ := bind_some e1
          refine ⟨F3, ρ3, h2, sw2, y, h4, g3, x3.rs g2 rs3, em, fun F4 ρ4 H4 yv x4 g4 r4 => ?_⟩
          obtain ⟨eD4, nF4, nL4⟩ := apart x4 eD3 nF3 nL3
          have up : ∀ w v, RV K mg F4 ρ4 H4 w v → RV K mg F4 ρ4 (upd H4 D (.lst (accv ++ [yv]))) w v := fun w v q => rv_upd (fun vs z => by rw [eD4] at z; cases z) (fun b u z => by rw [eD4] at z; cases z) nF4 q
          have ra4 := ((x2.trans x3).trans x4).rvs g1 ra
          refine ⟨accv, eD4, ?_, F4, ρ4, h4, y :: acc, accv ++ [yv], ext_upd (((x1.trans x2).trans x3).trans x4) nD, good_upd g4 eD4 nF4 nL4, ?_, upd_same, nF4, nL4, ?_, ?_, e1⟩
          · rw [← ra4.length, List.length_reverse, sizeLine_eq]; omega
          · obtain ⟨l1, l2⟩ := ((x2.trans x3).trans x4).rs g1 rs1
            exact ⟨l1, fun i w e => by obtain ⟨v, e1, r⟩ := l2 i w e; exact ⟨v, e1, up _ _ r⟩⟩
          · rw [List.reverse_cons]
            exact rvs_of (ra4.append (.cons r4 .nil)) up
          · rw [List.length_cons]; omega
def mYes : MT := fun _ h => some (true, h)
theorem gts_nil : PTs X [] (tT X.K X.mg mYes) := le_Ts pts_nil fun σ H Q ⟨F, ρ, h, sw, b, h', g, rs, e, q⟩ => by cases e; exact q F ρ H .refl g
end
end G

set_option Elab.async false
set_option linter.all false
set_option maxRecDepth 100000
set_option maxHeartbeats 4000000
namespace G
open PySem PySem.Spec PyProof.Rows L2
section
variable {X : Cx} {K : PySem.W.Frag} {mg : Str → Option Value}
theorem gts_one {c : Expr} {m : MT} (h : GT X c m) : PTs X [c] (tT X.K X.mg m) := pts_one h
theorem ge_lc (own : Bool) {elt tg iter : Expr} {ifs : List Expr} {scope : Scope} {ow : List (Str × Nat)} {ix : List Nat} {pos : Pos} {mi : MI} {mg : MG} {t : MT} {m : ME} (hc : X.calm = true) (hN : X.N.Nodup) (hi : GI X tg iter mi) (ok : BlkOk X.N X.env.scope scope ow)
    (hg : ∀ (s : Shared) (H : Hp) (C : Addr) (cl : List (Str × Addr)) (fp : List Addr), GG (X.blk s H scope (compEnvC scope cl C X.env) fp) tg ix mg) (ht : ∀ (s : Shared) (H : Hp) (C : Addr) (cl : List (Str × Addr)) (fp : List Addr), PTs (X.blk s H scope (compEnvC scope cl C X.env) fp) ifs (tT X.K X.mg t))
    (he : ∀ (s : Shared) (H : Hp) (C : Addr) (cl : List (Str × Addr)) (fp : List Addr), GE (X.blk s H scope (compEnvC scope cl C X.env) fp) elt m) (hix : ∀ j ∈ ix, j ∈ ow.map (·.2) := by decide) (hs : ∀ x, foldedSetIterable iter X.env x = pure x := by intro _; rfl) :
    GE X (.ListComp elt [⟨tg, iter, ifs, 0⟩] scope pos) (mLc own (ow.map (·.2)) mi mg t m) := le_E (pe_lc hc hN hi ok hg ht he hs) (t_lc hix)
theorem gs_setLc (own : Bool) {i : Nat} {y : Str} {py : Pos} {elt tg iter : Expr} {ifs : List Expr} {scope : Scope} {ow : List (Str × Nat)} {ix : List Nat} {pos spos : Pos} {mi : MI} {mg : MG} {t : MT} {m : ME} (hc : X.calm = true) (hN : X.N.Nodup) (hy : X.N[i]? = some y) (hyl : X.env.scope.names.lookup y = some .local)
    (hsw : swapsWith (.ListComp elt [⟨tg, iter, ifs, 0⟩] scope pos) (some (.Name y py)) spos.line X.env = pure true) (hi : GI X tg iter mi) (ok : BlkOk X.N X.env.scope scope ow)
    (hg : ∀ (s : Shared) (H : Hp) (C : Addr) (cl : List (Str × Addr)) (fp : List Addr), GG (X.blk s H scope (compEnvC scope cl C X.env) fp) tg ix mg) (ht : ∀ (s : Shared) (H : Hp) (C : Addr) (cl : List (Str × Addr)) (fp : List Addr), PTs (X.blk s H scope (compEnvC scope cl C X.env) fp) ifs (tT X.K X.mg t))
    (he : ∀ (s : Shared) (H : Hp) (C : Addr) (cl : List (Str × Addr)) (fp : List Addr), GE (X.blk s H scope (compEnvC scope cl C X.env) fp) elt m) (hix : ∀ j ∈ ix, j ∈ ow.map (·.2) := by decide) (hs : ∀ x, foldedSetIterable iter X.env x = pure x := by intro _; rfl) :
    GS X (.Assign [.Name y py] (.ListComp elt [⟨tg, iter, ifs, 0⟩] scope pos) spos) (mSet i (mLc own (ow.map (·.2)) mi mg t m)) :=
  le_S (ps_setLc hc hN hy hyl hsw hi ok hg ht he (hs := hs)) fun D σ H t0 => by
    obtain ⟨F, ρ, h, sw, r, g, rs, e, q⟩ := t0
    obtain ⟨⟨w, h1⟩, ea, e⟩ := bind_some e
    cases e
    exact t_lc hix σ H _ ⟨F, ρ, h, sw, w, h1, g, rs, ea, fun F1 ρ1 H1 v x1 g1 r1 => q F1 ρ1 H1 _ x1 g1 ((x1.rs g rs).set r1 i)⟩

/-! ### defs -/
def spM (K : PySem.W.Frag) (mg : Str → Option Value) (m : MO) (n : Nat) : Sp := fun vs H Q _ => vs.length = n ∧ ∃ F ρ h ws w h', Good K mg F ρ h H ∧ RVs K mg F ρ H ws vs ∧ m ws h = some (w, h') ∧ Fut K mg F ρ h H w h' Q
/-- a body run at its parameters' values; N slots -/
def mDef (N : Nat) (b : MS) : MO := fun ws h => (b (ws.map some ++ List.replicate (N - ws.length) none) h).bind fun r => match r with
  | .ret w h' => some (w, h')
  | .nx _ h' => some (.non, h')
  | _ => none
theorem rs_start {F : Addr → Prop} {ρ : List Addr} {H : Hp} {N : List Str} {ws : List W} {vs : List V} (r : RVs K mg F ρ H ws vs) : RS K mg F ρ H (ws.map some ++ List.replicate (N.length - ws.length) none) (L2.start N vs) := by
  refine ⟨by unfold L2.start; simp [r.length], fun i w e => ?_⟩
  by_cases hl : i < ws.length
  · rw [List.getElem?_append_left (by rw [List.length_map]; exact hl), List.getElem?_map] at e
    cases hw : ws[i]? with
    | none => rw [hw] at e; cases e
    | some w' =>
      rw [hw] at e
      have e : w' = w := by simpa using e
      subst e
      obtain ⟨v, ev, rv⟩ := r.get hw
      refine ⟨v, ?_, rv⟩
      unfold L2.start
      rw [List.getElem?_append_left (by rw [List.length_map, ← r.length]; exact hl), List.getElem?_map, ev]
      rfl
  · rw [List.getElem?_append_right (by rw [List.length_map]; omega), List.getElem?_replicate] at e
    split at e <;> cases e
theorem def_ok {P : Program} {w : World} {base : Heap} {x qual : Str} {params : Arguments} {body : List Stmt} {scope : Scope} {dvs : List V} {kws : List (Str × V)} {f : Addr} {fd : FuncData} {N ps : List Str} {k : Nat} {b : MS} (F : FunD K x qual params body scope dvs kws f fd) (S : FnScope N ps scope)
    (hb : ∀ (cdv : Value) (A : Around) (outer : List Env) (s : Shared) (H : Hp) (E : XK), Room k (A.deeper (envOfC qual scope s.heap.objs.size f cdv)) → GSs (cxOf CX0 P w K mg base N qual scope f cdv A outer s H E).nox body b) :
    FnOk P w K mg base CX0 (k + 1) f fd ps (spM K mg (mDef N.length b) ps.length) :=
  F.ok S (fun vs H Q E h => h.1) fun cdv A outer s H vs Q E hr h => ⟨_, (hb cdv A outer s H E hr).nox, by
    obtain ⟨hl, F, ρ, hm, ws, wv, h', g, r, e, q⟩ := h
    obtain ⟨rr, e1, e⟩ := bind_some e
    refine ⟨F, ρ, hm, _, rr, g, rs_start r, e1, ?_⟩
    cases rr with
    | ret w1 h1 => cases e; exact q
    | nx sw1 h1 =>
      cases e
      exact fun F1 ρ1 H1 σ1 x1 g1 rs1 => q F1 ρ1 H1 .non x1 g1 .non
    | bk _ _ => cases e
    | ct _ _ => cases e⟩
/-! ### values without addresses of ours -/
/-- no object of the mirror's heap in it, to a depth -/
def cld : Nat → W → Bool
  | 0, _ => false
  | d + 1, .tup ws => ws.all (cld d)
  | d + 1, .fl ws => ws.all (cld d)
  | d + 1, .ro ws => ws.all (cld d)
  | _ + 1, .loc _ => false
  | _ + 1, _ => true
theorem rvs_all {F F1 : Addr → Prop} {ρ ρ1 : List Addr} {H H1 : Hp} {p : W → Bool} (f : ∀ w v, p w = true → RV K mg F ρ H w v → RV K mg F1 ρ1 H1 w v) : ∀ {ws : List W} {vs : List V}, ws.all p = true → RVs K mg F ρ H ws vs → RVs K mg F1 ρ1 H1 ws vs
  | _, _, _, .nil => .nil
  | w :: ws, _, e, .cons a b => by
    rw [List.all_cons, Bool.and_eq_true] at e
    exact .cons (f _ _ e.1 a) (rvs_all f e.2 b)
theorem cld_rv {F : Addr → Prop} {ρ ρ1 : List Addr} {H : Hp} : ∀ (d : Nat) (w : W) (v : V), cld d w = true → RV K mg F ρ H w v → RV K mg F ρ1 H w v
  | 0, _, _, e, _ => by cases e
  | d + 1, w, v, e, r => by
    cases r with
    | non => exact .non
    | bl b => exact .bl b
    | int b => exact .int b
    | str b => exact .str b
    | tup a b => exact .tup a (rvs_all (cld_rv d) (by simpa [cld] using e) b)
    | fl f a b => exact .fl f a (rvs_all (cld_rv d) (by simpa [cld] using e) b)
    | ro a b => exact .ro a (rvs_all (cld_rv d) (by simpa [cld] using e) b)
    | loc a => simp [cld] at e
    | fn a => exact .fn a
/-- objects of the mirror's heap read off -/
def cl (h : Hm) : Nat → W → Option W
  | 0, _ => none
  | d + 1, .tup ws => (ws.mapM (cl h d)).map .tup
  | d + 1, .fl ws => (ws.mapM (cl h d)).map .fl
  | d + 1, .ro ws => (ws.mapM (cl h d)).map .ro
  | d + 1, .loc n => match h.get n with
    | some (.lst ws) => (ws.mapM (cl h d)).map .fl
    | _ => none
  | _ + 1, w => some w
theorem mapM_cons {f : W → Option W} {w : W} {ws us : List W} (e : (w :: ws).mapM f = some us) : ∃ u us', f w = some u ∧ ws.mapM f = some us' ∧ us = u :: us' := by
  rw [List.mapM_cons] at e
  obtain ⟨u, e1, e⟩ := bind_some e
  obtain ⟨us', e2, e⟩ := bind_some e
  cases e
  exact ⟨u, us', e1, e2, rfl⟩
theorem rvs_mapM {F F1 : Addr → Prop} {ρ ρ1 : List Addr} {H H1 : Hp} {f : W → Option W} (hf : ∀ w u v, f w = some u → RV K mg F ρ H w v → RV K mg F1 ρ1 H1 u v) : ∀ {ws us : List W} {vs : List V}, ws.mapM f = some us → RVs K mg F ρ H ws vs → RVs K mg F1 ρ1 H1 us vs
  | _, us, _, e, .nil => by
    have e : some [] = some us := e
    cases e; exact .nil
  | w :: ws, us, _, e, .cons a b => by
    obtain ⟨u, us', e1, e2, rfl⟩ := mapM_cons e
    exact .cons (hf _ _ _ e1 a) (rvs_mapM hf e2 b)
theorem cl_rv {F F1 : Addr → Prop} {ρ ρ1 : List Addr} {h : Hm} {H : Hp} (g : Good K mg F ρ h H) (hF : ∀ a, F a → F1 a) (hL : ∀ a, Live ρ h a → F1 a) : ∀ (d : Nat) (w u : W) (v : V), cl h d w = some u → RV K mg F ρ H w v → RV K mg F1 ρ1 H u v
  | 0, _, _, _, e, _ => by cases e
  | d + 1, w, u, v, e, r => by
    cases r with
    | non => cases e; exact .non
    | bl b => cases e; exact .bl b
    | int b => cases e; exact .int b
    | str b => cases e; exact .str b
    | fn a => cases e; exact .fn a
    | tup a b =>
      obtain ⟨us, e1, e2⟩ := Option.map_eq_some_iff.mp (show ((_ : List W).mapM (cl h d)).map W.tup = some u from e)
      subst e2
      exact .tup a (rvs_mapM (cl_rv g hF hL d) e1 b)
    | fl f a b =>
      obtain ⟨us, e1, e2⟩ := Option.map_eq_some_iff.mp (show ((_ : List W).mapM (cl h d)).map W.fl = some u from e)
      subst e2
      exact .fl (hF _ f) a (rvs_mapM (cl_rv g hF hL d) e1 b)
    | ro a b =>
      obtain ⟨us, e1, e2⟩ := Option.map_eq_some_iff.mp (show ((_ : List W).mapM (cl h d)).map W.ro = some u from e)
      subst e2
      exact .ro a (rvs_mapM (cl_rv g hF hL d) e1 b)
    | loc ea =>
      unfold cl at e
      split at e
      · rename_i ws eg
        obtain ⟨us, e1, e2⟩ := Option.map_eq_some_iff.mp e
        subst e2
        obtain ⟨a', vs, ea', nf, eH, rs, lv⟩ := g.at eg
        rw [ea] at ea'; cases ea'
        exact .fl (hL _ lv) eH (rvs_mapM (cl_rv g hF hL d) e1 rs)
      · cases e
def flat : Nat → W → Bool
  | 0, _ => false
  | d + 1, .tup ws => ws.all (flat d)
  | _ + 1, .fl _ => false
  | _ + 1, .ro _ => false
  | _ + 1, .loc _ => false
  | _ + 1, _ => true
theorem flat_rv {F F1 : Addr → Prop} {ρ ρ1 : List Addr} {H : Hp} : ∀ (d : Nat) (w : W) (v : V), flat d w = true → RV K mg F ρ H w v → RV K mg F1 ρ1 H w v
  | 0, _, _, e, _ => by cases e
  | d + 1, w, v, e, r => by
    cases r with
    | non => exact .non
    | bl b => exact .bl b
    | int b => exact .int b
    | str b => exact .str b
    | tup a b => exact .tup a (rvs_all (flat_rv d) (by simpa [flat] using e) b)
    | fl f a b => simp [flat] at e
    | ro a b => simp [flat] at e
    | loc a => simp [flat] at e
    | fn a => exact .fn a
/-! ### calls of defs -/
/-- a def as a function of values that are no objects of ours -/
def pur (m : MO) (ws : List W) : Option W := if ws.all (cld 20) then (m ws .empty).bind fun p => cl p.2 20 p.1 else none
def cF (m : MO) : MO := m
def cP (m : MO) : MO := fun ws h => (pur m ws).bind fun w => some (w, h)
/-- lists of ours lent -/
def cB (m : MO) : MO := fun ws h => (ws.mapM (cl h 20)).bind fun us => (m us .empty).bind fun p => if flat 20 p.1 then some (p.1, h) else none
/-- the list that comes is ours -/
def cO (m : MO) : MO := fun ws h => if ws.all (cld 20) then (m ws .empty).bind fun p => match p.1 with
  | .loc n => match p.2.get n with
    | some (.lst us) => if us.all (cld 20) then some (mk true us h) else none
    | _ => none
  | _ => none else none
theorem good_empty {F : Addr → Prop} {ρ : List Addr} {h : Hm} {H : Hp} (g : Good K mg F ρ h H) : Good K mg F [] .empty H :=
  ⟨rfl, .nil, (fun p hp => by cases hp), (fun p hp => by cases hp), g.fr⟩
theorem no_live (a : Addr) : ¬ Live [] .empty a := fun ⟨p, hp, _⟩ => by cases hp
/-- behind a call that had nothing of ours -/
theorem after {F F' : Addr → Prop} {ρ ρ' : List Addr} {h h' : Hm} {H H' : Hp} (g : Good K mg F ρ h H) (x : Ext F [] .empty H F' ρ' h' H') (g' : Good K mg F' ρ' h' H') (Y : Addr → Prop) (hY : ∀ a, Y a → ¬ F a → F' a ∨ Live ρ' h' a) (hF : ∀ a, F a → Y a) : Good K mg Y ρ h H' ∧ Ext F ρ h H Y ρ h H' := by
  have new : ∀ a, Y a → F a ∨ H a = none := fun a ya => by
    by_cases fa : F a
    · exact .inl fa
    · rcases hY a ya fa with z | z
      · rcases x.fN a z with z | z | z
        · exact .inl z
        · exact .inr z
        · exact absurd z (no_live a)
      · rcases x.live a z with z | z
        · exact absurd z (no_live a)
        · exact .inr z
  have ex : Ext F ρ h H Y ρ h H' := ⟨⟨[], by simp⟩, hF, fun a ya => by rcases new a ya with z | z; exact .inl z; exact .inr (.inl z), fun a o e _ => x.keep a o e (no_live a), fun a l => .inl l⟩
  refine ⟨⟨g.nx, g.key, g.inj, fun p hp => ?_, fun a ya => ?_⟩, ex⟩
  · obtain ⟨a, e1, nf, ro⟩ := g.obj p hp
    have hH : ∃ vs, H a = some (.lst vs) := by
      match p, ro with
      | (m, .lst ws'), ro => obtain ⟨vs', q1, q2⟩ := ro; exact ⟨vs', q1⟩
    refine ⟨a, e1, fun ya => ?_, ?_⟩
    · rcases new a ya with z | z
      · exact nf z
      · obtain ⟨vs, e⟩ := hH; rw [z] at e; cases e
    · match p, ro with
      | (m, .lst ws'), ro =>
        obtain ⟨vs', q1, q2⟩ := ro
        exact ⟨vs', x.keep a _ q1 (no_live a), ex.rvs g q2⟩
  · by_cases fa : F a
    · obtain ⟨o, e⟩ := g.fr a fa
      exact ⟨o, x.keep a o e (no_live a)⟩
    · rcases hY a ya fa with z | z
      · exact g'.fr a z
      · obtain ⟨_, vs, e⟩ := g'.lst z
        exact ⟨_, e⟩
def SpW (K : PySem.W.Frag) (mg : Str → Option Value) (sp : List V → Hp → VK → Prop) (o : MO) : Prop := CW K mg sp o
theorem sp_F {m : MO} {n : Nat} {E : XK} : CW K mg (fun vs H Q => vs.length = n → spM K mg m n vs H Q E) (cF m) := fun F ρ h H xs as w h' Q g r e q hl => ⟨hl, F, ρ, h, as, w, h', g, r, e, q⟩
theorem sp_P {m : MO} {n : Nat} {E : XK} : CW K mg (fun vs H Q => vs.length = n → spM K mg m n vs H Q E) (cP m) := fun F ρ h H xs as w h' Q g r e q hl => by
  obtain ⟨w', e1, e⟩ := bind_some e
  cases e
  unfold pur at e1
  split at e1
  · rename_i hc
    obtain ⟨⟨w0, hc0⟩, e2, e3⟩ := bind_some e1
    refine ⟨hl, F, [], .empty, as, w0, hc0, good_empty g, rvs_all (cld_rv 20) hc r, e2, fun F' ρ' H' v x g' rv => ?_⟩
    obtain ⟨g2, x2⟩ := after g x g' (fun a => F' a ∨ Live ρ' hc0 a) (fun a h _ => h) fun a fa => .inl (x.fF a fa)
    exact q _ ρ H' v x2 g2 (cl_rv g' (fun a h => .inl h) (fun a h => .inr h) 20 w0 w v e3 rv)
  · cases e1
theorem sp_B {m : MO} {n : Nat} {E : XK} : CW K mg (fun vs H Q => vs.length = n → spM K mg m n vs H Q E) (cB m) := fun F ρ h H xs as w h' Q g r e q hl => by
  obtain ⟨us, e1, e⟩ := bind_some e
  obtain ⟨⟨w0, hc0⟩, e2, e⟩ := bind_some e
  have e : (if flat 20 w0 then some (w0, h) else none) = some (w, h') := e
  split at e
  · rename_i hfl
    cases e
    have gl : Good K mg (fun a => F a ∨ Live ρ h a) [] .empty H := ⟨rfl, .nil, (fun p hp => by cases hp), (fun p hp => by cases hp), fun a ha => by
      rcases ha with z | z
      · exact g.fr a z
      · obtain ⟨_, vs, e⟩ := g.lst z; exact ⟨_, e⟩⟩
    refine ⟨hl, _, [], .empty, us, w, hc0, gl, rvs_mapM (cl_rv g (fun a h => .inl h) (fun a h => .inr h) 20) e1 r, e2, fun F' ρ' H' v x g' rv => ?_⟩
    have ex : Ext F ρ h H F ρ h H' := ⟨⟨[], by simp⟩, fun _ h => h, fun _ h => .inl h, fun a o e _ => x.keep a o e (no_live a), fun _ l => .inl l⟩
    refine q F ρ H' v ex ⟨g.nx, g.key, g.inj, fun p hp => ?_, fun a fa => ?_⟩ (flat_rv 20 w v hfl rv)
    · obtain ⟨a, ea, nf, ro⟩ := g.obj p hp
      refine ⟨a, ea, nf, ?_⟩
      match p, ro with
      | (m, .lst ws'), ro =>
        obtain ⟨vs', q1, q2⟩ := ro
        exact ⟨vs', x.keep a _ q1 (no_live a), ex.rvs g q2⟩
    · obtain ⟨o, e⟩ := g.fr a fa
      exact ⟨o, x.keep a o e (no_live a)⟩
  · cases e
theorem sp_O {m : MO} {n : Nat} {E : XK} : CW K mg (fun vs H Q => vs.length = n → spM K mg m n vs H Q E) (cO m) := fun F ρ h H xs as w h' Q g r e q hl => by
  unfold cO at e
  split at e
  · rename_i hc
    obtain ⟨⟨w0, hc0⟩, e2, e⟩ := bind_some e
    refine ⟨hl, F, [], .empty, as, w0, hc0, good_empty g, rvs_all (cld_rv 20) hc r, e2, fun F' ρ' H' v x g' rv => ?_⟩
    cases rv with
    | loc ea =>
      rename_i D nn
      have e : (match hc0.get nn with
        | some (.lst us) => if us.all (cld 20) then some (mk true us h) else none
        | _ => none) = some (w, h') := e
      split at e
      · rename_i us eg
        split at e
        · rename_i hcl
          have e : mk true us h = (w, h') := Option.some.inj e
          obtain ⟨a', vs, ea', nf, eH, rs, lv⟩ := g'.at eg
          rw [ea] at ea'; cases ea'
          obtain ⟨g2, x2⟩ := after g x g' F' (fun a h _ => .inl h) x.fF
          have nD : H D = none := by
            rcases x.live D lv with z | z
            · exact absurd z (no_live D)
            · exact z
          have nL : ¬ Live ρ h D := not_live_new g nD
          obtain ⟨F9, ρ9, g9, rv9, hr, hF, hN, hL⟩ := mk_ok true g2 eH nf nL (rvs_all (cld_rv 20) hcl rs)
          rw [e] at g9 rv9 hL
          refine q F9 ρ9 H' _ ⟨hr, fun a fa => hF a (x.fF a fa), fun a fa => ?_, fun a o eo nl => x.keep a o eo (no_live a), fun a l => ?_⟩ g9 rv9
          · rcases hN a fa with z | rfl
            · rcases x.fN a z with z | z | z
              · exact .inl z
              · exact .inr (.inl z)
              · exact absurd z (no_live a)
            · exact .inr (.inl nD)
          · rcases hL a l with z | rfl
            · exact .inl z
            · exact .inr nD
        · cases e
      · cases e
    | _ => cases e
  · cases e
section
variable {k : Nat} {f : Addr} {fd : FuncData} {ps : List Str} {x : Str} {p pos : Pos} {e : Expr} {es : List Expr}
theorem ge_call {o : MO} {m : MO} {ma : MA} (Fk : FnOk X.prog X.w X.K X.mg X.base CX0 k f fd ps (spM X.K X.mg m ps.length)) (hs : CW X.K X.mg (fun vs H Q => vs.length = ps.length → spM X.K X.mg m ps.length vs H Q E0) o) (hr : Room k X.A) (hg : Gl X x) (hm : X.mg x = some (.ref f)) (hk : PySem.W.keepIn X.K (.ref f) = true) (hb : Binds X.K fd ps [])
    (ha : GA X (e :: es) ma) (hl : (e :: es).length = ps.length) (hlen : ∀ sw h ws h', ma sw h = some (ws, h') → ws.length = ps.length)
    (hdb : (x == ("__debug__" : Str)) = false := by decide) (he : starEach (e :: es) X.env = (false, eval e X.env) :: starEach es X.env := by rfl) (hpl : (backTo pos (starEach es X.env)).any (·.1) = false := by rfl) :
    GE X (.Call (.Name x p) (e :: es) [] pos) (mApp o ma) := le_E (pe_call Fk hr hg hm hk hb .nil pass0 ha hdb he hpl) fun σ H Q t => by
  obtain ⟨F, ρ, h, sw, w', h', g, rs, e, q⟩ := t
  obtain ⟨⟨ws, h1⟩, ea, e⟩ := bind_some e
  refine ⟨F, ρ, h, sw, ws, h1, g, rs, ea, fun F1 ρ1 H1 xs e1 g1 r1 => ?_⟩
  show spM X.K X.mg m ps.length (xs ++ []) H1 Q E0
  rw [List.append_nil]
  exact hs F1 ρ1 h1 H1 xs ws w' h' Q g1 r1 e (q.step e1) (by rw [← r1.length]; exact hlen _ _ _ _ ea)
end
end
end G

set_option Elab.async false
set_option linter.all false
set_option maxRecDepth 100000
set_option maxHeartbeats 4000000
namespace G
open PySem PySem.Spec PyProof.Rows L2
section
variable {X : Cx} {K : PySem.W.Frag} {mg : Str → Option Value}
/-! ### ints -/
def oI (g : Int → Int → W) : MO2 := fun a b h => match a, b with
  | .int i, .int j => some (g i j, h)
  | _, _ => none
def oIc (c : Int → Int → Bool) (g : Int → Int → W) : MO2 := fun a b h => match a, b with
  | .int i, .int j => if c i j then some (g i j, h) else none
  | _, _ => none
theorem w_I {g : Int → Int → V} {gw : Int → Int → W} (hg : ∀ F ρ H i j, RV K mg F ρ H (gw i j) (g i j)) : OpW K mg (rI0 g) (oI gw) := fun F ρ h H x y a b w h' Q gd ra rb e q => by
  cases ra with
  | int i => cases rb with
    | int j => cases e; exact ⟨i, j, rfl, rfl, q.here gd (hg F ρ H i j)⟩
    | _ => cases e
  | _ => cases e
theorem w_Ic {C : Int → Int → Prop} {c : Int → Int → Bool} {g : Int → Int → V} {gw : Int → Int → W} (hg : ∀ F ρ H i j, RV K mg F ρ H (gw i j) (g i j)) (hc : ∀ i j, c i j = true → C i j) : OpW K mg (rI C g) (oIc c gw) := fun F ρ h H x y a b w h' Q gd ra rb e q => by
  cases ra with
  | int i => cases rb with
    | int j =>
      have e : (if c i j then some (gw i j, h) else none) = some (w, h') := e
      split at e
      · rename_i hcc; cases e; exact ⟨i, j, rfl, rfl, hc i j hcc, q.here gd (hg F ρ H i j)⟩
      · cases e
    | _ => cases e
  | _ => cases e
def oSub : MO2 := oI fun i j => .int (i - j)
def oLt : MO2 := oI fun i j => .bl (decide (i < j))
def oLe : MO2 := oI fun i j => .bl (decide (i ≤ j))
def oGt : MO2 := oI fun i j => .bl (decide (j < i))
def oGe : MO2 := oI fun i j => .bl (decide (j ≤ i))
def oMod : MO2 := oIc (fun _ j => decide (0 < j)) fun i j => .int (i % j)
def oDiv : MO2 := oIc (fun _ j => decide (0 < j) && decide (j < 1073741824)) fun i j => .int (i / j)
def oMul : MO2 := oIc (fun i j => (decide (-(2 ^ 64) < i) && decide (i < 2 ^ 64)) || (decide (-(2 ^ 64) < j) && decide (j < 2 ^ 64))) fun i j => .int (i * j)
def oPow : MO2 := oIc (fun i j => decide (0 ≤ j) && decide (j ≤ 1000000) && decide (i.natAbs < 2 ^ 64)) fun i j => .int (i ^ j.toNat)
theorem w_sub : OpW K mg (rI0 fun i j => .int (i - j)) oSub := w_I fun _ _ _ _ _ => .int _
theorem w_mod : OpW K mg (rI (fun _ j => 0 < j) fun i j => .int (i % j)) oMod := w_Ic (fun _ _ _ _ _ => .int _) fun _ _ h => of_decide_eq_true h
theorem w_div : OpW K mg (rI CDiv fun i j => .int (i / j)) oDiv := w_Ic (fun _ _ _ _ _ => .int _) fun _ _ h => by
  rw [Bool.and_eq_true] at h
  exact ⟨of_decide_eq_true h.1, of_decide_eq_true h.2⟩
theorem w_mul : OpW K mg (rI CMul fun i j => .int (i * j)) oMul := w_Ic (fun _ _ _ _ _ => .int _) fun _ _ h => by
  rw [Bool.or_eq_true, Bool.and_eq_true, Bool.and_eq_true] at h
  exact h.imp (fun z => ⟨of_decide_eq_true z.1, of_decide_eq_true z.2⟩) fun z => ⟨of_decide_eq_true z.1, of_decide_eq_true z.2⟩
theorem w_pow : OpW K mg (rI CPow fun i j => .int (i ^ j.toNat)) oPow := w_Ic (fun _ _ _ _ _ => .int _) fun _ _ h => by
  rw [Bool.and_eq_true, Bool.and_eq_true] at h
  exact ⟨of_decide_eq_true h.1.1, of_decide_eq_true h.1.2, of_decide_eq_true h.2⟩
theorem w_lt : OpW K mg (rI0 fun i j => .bl (decide (i < j))) oLt := w_I fun _ _ _ _ _ => .bl _
theorem w_le : OpW K mg (rI0 fun i j => .bl (decide (i ≤ j))) oLe := w_I fun _ _ _ _ _ => .bl _
theorem w_gt : OpW K mg (rI0 fun i j => .bl (decide (j < i))) oGt := w_I fun _ _ _ _ _ => .bl _
theorem w_ge : OpW K mg (rI0 fun i j => .bl (decide (j ≤ i))) oGe := w_I fun _ _ _ _ _ => .bl _
/-! ### either of two -/
def orO (o o' : MO2) : MO2 := fun a b h => match o a b h with
  | some r => some r
  | none => o' a b h
theorem w_or {r r' : R2} {o o' : MO2} (w : OpW K mg r o) (w' : OpW K mg r' o') : OpW K mg (fun x y H Q => r x y H Q ∨ r' x y H Q) (orO o o') := fun F ρ h H x y a b wv h' Q g ra rb e q => by
  unfold orO at e
  split at e
  · rename_i z ez; cases e; exact .inl (w F ρ h H x y a b wv h' Q g ra rb ez q)
  · exact .inr (w' F ρ h H x y a b wv h' Q g ra rb e q)
/-! ### None -/
def oIsN : MO2 := fun a b h => match b with
  | .non => some (.bl (match a with | .non => true | _ => false), h)
  | _ => none
def oNotN : MO2 := fun a b h => match b with
  | .non => some (.bl (match a with | .non => false | _ => true), h)
  | _ => none
theorem w_isN : OpW K mg (fun x y H Q => y = .non ∧ Q (.bl (decide (x = .non))) H) oIsN := fun F ρ h H x y a b w h' Q g ra rb e q => by
  cases rb with
  | non =>
    refine ⟨rfl, ?_⟩
    cases ra <;> (cases e; exact q.here g (.bl _))
  | _ => cases e
theorem w_notN : OpW K mg (fun x y H Q => y = .non ∧ Q (.bl (!decide (x = .non))) H) oNotN := fun F ρ h H x y a b w h' Q g ra rb e q => by
  cases rb with
  | non =>
    refine ⟨rfl, ?_⟩
    cases ra <;> (cases e; exact q.here g (.bl _))
  | _ => cases e
/-! ### sequences -/
def hl (h : Hm) (n : Nat) : Option (List W) := match h.get n with
  | some (.lst ws) => some ws
  | _ => none
theorem hl_eq {h : Hm} {n : Nat} {ws : List W} (e : hl h n = some ws) : h.get n = some (.lst ws) := by
  unfold hl at e
  split at e
  · rename_i us eg; cases e; exact eg
  · cases e
/-- the items of a list at hand -/
def sq (h : Hm) : W → Option (List W)
  | .fl ws => some ws
  | .ro ws => some ws
  | .loc n => hl h n
  | _ => none
theorem sq_ok {F : Addr → Prop} {ρ : List Addr} {h : Hm} {H : Hp} (g : Good K mg F ρ h H) {w : W} {v : V} {ws : List W} (r : RV K mg F ρ H w v) (e : sq h w = some ws) : ∃ a vs, v = .ref a ∧ SqL K H a vs ∧ RVs K mg F ρ H ws vs := by
  cases r with
  | fl f a b => cases e; exact ⟨_, _, rfl, .inl (.inl a), b⟩
  | ro a b => cases e; exact ⟨_, _, rfl, a.sq, b⟩
  | loc ea =>
    obtain ⟨a', vs, ea', nf, eH, rs, lv⟩ := g.at (hl_eq (ws := ws) e)
    rw [ea] at ea'; cases ea'
    exact ⟨_, _, rfl, .inl (.inl eH), rs⟩
  | _ => cases e
/-- a list whose object is known to be one -/
def lq (h : Hm) : W → Option (List W)
  | .fl ws => some ws
  | .loc n => hl h n
  | _ => none
theorem lq_ok {F : Addr → Prop} {ρ : List Addr} {h : Hm} {H : Hp} (g : Good K mg F ρ h H) {w : W} {v : V} {ws : List W} (r : RV K mg F ρ H w v) (e : lq h w = some ws) : ∃ a vs, v = .ref a ∧ H a = some (.lst vs) ∧ RVs K mg F ρ H ws vs := by
  cases r with
  | fl f a b => cases e; exact ⟨_, _, rfl, a, b⟩
  | loc ea =>
    obtain ⟨a', vs, ea', nf, eH, rs, lv⟩ := g.at (hl_eq (ws := ws) e)
    rw [ea] at ea'; cases ea'
    exact ⟨_, _, rfl, eH, rs⟩
  | _ => cases e
/-- the items of a list or a tuple -/
def iq (h : Hm) : W → Option (List W)
  | .tup ws => some ws
  | w => sq h w
theorem iq_ok {F : Addr → Prop} {ρ : List Addr} {h : Hm} {H : Hp} (g : Good K mg F ρ h H) {w : W} {v : V} {ws : List W} (r : RV K mg F ρ H w v) (e : iq h w = some ws) : ∃ a vs, v = .ref a ∧ (SqL K H a vs ∨ SqT K H a vs) ∧ RVs K mg F ρ H ws vs := by
  cases r with
  | tup a b => cases e; exact ⟨_, _, rfl, .inr a, b⟩
  | non => cases e
  | bl _ => cases e
  | int _ => cases e
  | str _ => cases e
  | fn _ => cases e
  | fl f a b => obtain ⟨x, y, z1, z2, z3⟩ := sq_ok g (.fl f a b) e; exact ⟨x, y, z1, .inl z2, z3⟩
  | ro a b => obtain ⟨x, y, z1, z2, z3⟩ := sq_ok g (.ro a b) e; exact ⟨x, y, z1, .inl z2, z3⟩
  | loc a => obtain ⟨x, y, z1, z2, z3⟩ := sq_ok g (.loc a) e; exact ⟨x, y, z1, .inl z2, z3⟩
theorem atI_rv {F : Addr → Prop} {ρ : List Addr} {H : Hp} {ws : List W} {vs : List V} {i : Int} {w : W} (r : RVs K mg F ρ H ws vs) (e : atI ws i = some w) : ∃ v, atI vs i = some v ∧ RV K mg F ρ H w v := by
  unfold atI at e ⊢
  rw [r.length] at e
  obtain ⟨j, ej, e⟩ := bind_some e
  obtain ⟨v, ev, rv⟩ := r.get e
  exact ⟨v, by rw [ej]; exact ev, rv⟩
def oIx : MO2 := fun a b h => match a, b with
  | .tup ws, .int i => (atI ws i).map fun w => (w, h)
  | a, .int i => (sq h a).bind fun ws => (atI ws i).map fun w => (w, h)
  | _, _ => none
theorem w_ix : OpW K mg (fun x y H Q => rIxL K x y H Q ∨ rIxT K x y H Q) oIx := fun F ρ h H x y a b w h' Q g ra rb e q => by
  cases rb with
  | int i =>
    cases ra with
    | tup ta tb =>
      obtain ⟨w0, e1, e2⟩ := Option.map_eq_some_iff.mp (show (atI _ i).map (fun w => (w, h)) = some (w, h') from e)
      cases e2
      obtain ⟨v, ev, rv⟩ := atI_rv tb e1
      exact .inr ⟨_, _, i, v, rfl, rfl, ta, ev, q.here g rv⟩
    | fl f ta tb =>
      obtain ⟨w0, e1, e2⟩ := Option.map_eq_some_iff.mp (show (atI _ i).map (fun w => (w, h)) = some (w, h') from e)
      cases e2
      obtain ⟨v, ev, rv⟩ := atI_rv tb e1
      exact .inl ⟨_, _, i, v, rfl, rfl, .inl (.inl ta), ev, q.here g rv⟩
    | ro ta tb =>
      obtain ⟨w0, e1, e2⟩ := Option.map_eq_some_iff.mp (show (atI _ i).map (fun w => (w, h)) = some (w, h') from e)
      cases e2
      obtain ⟨v, ev, rv⟩ := atI_rv tb e1
      exact .inl ⟨_, _, i, v, rfl, rfl, ta.sq, ev, q.here g rv⟩
    | loc ea =>
      obtain ⟨ws, e1, e2⟩ := bind_some (show (sq h (.loc _)).bind (fun ws => (atI ws i).map fun w => (w, h)) = some (w, h') from e)
      obtain ⟨w0, e3, e4⟩ := Option.map_eq_some_iff.mp e2
      cases e4
      obtain ⟨a, vs, e5, e6, e7⟩ := sq_ok g (.loc ea) e1
      obtain ⟨v, ev, rv⟩ := atI_rv e7 e3
      exact .inl ⟨a, vs, i, v, e5, rfl, e6, ev, q.here g rv⟩
    | _ => cases e
  | _ =>
    cases ra <;> cases e
theorem ge_ix {a b : Expr} {pos : Pos} {ma mb : ME} (ha : GE X a ma) (hb : GE X b mb) (hs : PlainIx b := by exact fun _ _ => rfl) : GE X (.Subscript a b pos) (mOp2 oIx ma mb) := le_E (pe_ix (IxR.or ix_list ix_tup) ha hb hs) (t_op2 w_ix)
def oLen : MO := fun ws h => match ws with
  | [w] => (iq h w).bind fun us => some (.int us.length, h)
  | _ => none
theorem w_len : CW K mg (fun xs H Q => ∃ p ys, xs = [.ref p] ∧ (SqL K H p ys ∨ SqT K H p ys) ∧ Q (.int ys.length) H) oLen := fun F ρ h H xs as w h' Q g r e q => by
  match as, r, e with
  | [a], .cons ra .nil, e =>
    obtain ⟨us, e1, e⟩ := bind_some e
    cases e
    obtain ⟨p, ys, e2, e3, e4⟩ := iq_ok g ra e1
    exact ⟨p, ys, by rw [e2], e3, by rw [← e4.length]; exact q.here g (.int _)⟩
  | [], .nil, e => cases e
  | a :: b :: c, _, e => cases e
def oTuple : MO := fun ws h => match ws with
  | [.tup us] => some (.tup us, h)
  | [w] => (sq h w).bind fun us => some (.tup us, h)
  | _ => none
theorem w_tuple : CW K mg (fun xs H Q => ∃ p ys, xs = [.ref p] ∧ ((SqL K H p ys ∧ ∀ l, H l = none → Q (.ref l) (upd H l (.tup ys))) ∨ (SqT K H p ys ∧ Q (.ref p) H))) oTuple := fun F ρ h H xs as w h' Q g r e q => by
  match as, r, e with
  | [a], .cons ra .nil, e =>
    cases ra with
    | tup ta tb => cases e; exact ⟨_, _, rfl, .inr ⟨ta, q.here g (.tup ta tb)⟩⟩
    | fl f ta tb => cases e; exact ⟨_, _, rfl, .inl ⟨.inl (.inl ta), new_tup g tb q⟩⟩
    | ro ta tb => cases e; exact ⟨_, _, rfl, .inl ⟨ta.sq, new_tup g tb q⟩⟩
    | loc ea =>
      obtain ⟨us, e1, e2⟩ := bind_some (show (sq h (.loc _)).bind (fun us => some (W.tup us, h)) = some (w, h') from e)
      cases e2
      obtain ⟨a, vs, e5, e6, e7⟩ := sq_ok g (.loc ea) e1
      exact ⟨a, vs, by rw [e5], .inl ⟨e6, new_tup g e7 q⟩⟩
    | _ => cases e
  | [], .nil, e => cases e
  | a :: b :: c, _, e => cases a <;> cases e
def oList (own : Bool) : MO := fun ws h => match ws with
  | [w] => (iq h w).bind fun us => some (mk own us h)
  | _ => none
theorem w_list {own : Bool} : CW K mg (fun xs H Q => ∃ p ys, xs = [.ref p] ∧ (SqL K H p ys ∨ SqT K H p ys) ∧ ∀ l, H l = none → Q (.ref l) (upd H l (.lst ys))) (oList own) := fun F ρ h H xs as w h' Q g r e q => by
  match as, r, e with
  | [a], .cons ra .nil, e =>
    obtain ⟨us, e1, e⟩ := bind_some e
    have e : mk own us h = (w, h') := Option.some.inj e
    obtain ⟨p, ys, e2, e3, e4⟩ := iq_ok g ra e1
    exact ⟨p, ys, by rw [e2], e3, new_lst own g e4 (by rw [e]; exact q)⟩
  | [], .nil, e => cases e
  | a :: b :: c, _, e => cases e
/-! ### plus -/
def oCatT : MO2 := fun a b h => match a, b with
  | .tup xs, .tup ys => if xs.length + ys.length < 100000 then some (.tup (xs ++ ys), h) else none
  | _, _ => none
theorem w_catT : OpW K mg (rCatA K) oCatT := fun F ρ h H x y a b w h' Q g ra rb e q => by
  cases ra with
  | tup ta tb => cases rb with
    | tup ua ub =>
      rename_i pa pvs pws qa qvs qws
      have e : (if pws.length + qws.length < 100000 then some (W.tup (pws ++ qws), h) else none) = some (w, h') := e
      split at e
      · rename_i hl
        cases e
        refine ⟨_, _, _, _, rfl, rfl, ta, ua, by rw [← tb.length, ← ub.length, sizeLine_eq]; omega, fun e1 => ?_, fun _ e1 => ?_, fun _ _ => new_tup g (tb.append ub) q⟩
        · subst e1
          cases tb
          rw [List.nil_append] at q
          exact q.here g (.tup ua ub)
        · subst e1
          cases ub
          rw [List.append_nil] at q
          exact q.here g (.tup ta tb)
      · cases e
    | _ => cases e
  | _ => cases e
def oCatL (own : Bool) : MO2 := fun a b h => (lq h a).bind fun xs => (lq h b).bind fun ys => if xs.length + ys.length < 100000 then some (mk own (xs ++ ys) h) else none
theorem w_catL {own : Bool} : OpW K mg rCat (oCatL own) := fun F ρ h H x y a b w h' Q g ra rb e q => by
  obtain ⟨xs, e1, e⟩ := bind_some e
  obtain ⟨ys, e2, e⟩ := bind_some e
  split at e
  · rename_i hl
    have e : mk own (xs ++ ys) h = (w, h') := Option.some.inj e
    obtain ⟨p, vs, e3, e4, e5⟩ := lq_ok g ra e1
    obtain ⟨p', vs', e6, e7, e8⟩ := lq_ok g rb e2
    exact ⟨p, p', vs, vs', e3, e6, e4, e7, by rw [← e5.length, ← e8.length, sizeLine_eq]; omega, new_lst own g (e5.append e8) (by rw [e]; exact q)⟩
  · cases e
def oAddI : MO2 := oI fun i j => .int (i + j)
theorem w_addI : OpW K mg (rI0 fun i j => .int (i + j)) oAddI := w_I fun _ _ _ _ _ => .int _
def oAdd (own : Bool) : MO2 := orO (orO oAddI oCatT) (oCatL own)
theorem or_add : OpR X (binaryOp .Add) (fun x y H Q => (rI0 (fun i j => .int (i + j)) x y H Q ∨ rCatA X.K x y H Q) ∨ rCat x y H Q) := OpR.or (OpR.or op_add op_catA) op_cat
theorem w_add {own : Bool} : OpW K mg (fun x y H Q => (rI0 (fun i j => .int (i + j)) x y H Q ∨ rCatA K x y H Q) ∨ rCat x y H Q) (oAdd own) := w_or (w_or w_addI w_catT) w_catL
/-! ### times -/
def oRep (own : Bool) : MO2 := fun a b h => match b with
  | .int k => (lq h a).bind fun xs => if -(2 ^ 63) ≤ k ∧ k < 2 ^ 63 ∧ xs.length * k.toNat < 100000 then some (mk own (List.replicate k.toNat xs).flatten h) else none
  | _ => none
theorem rvs_rep {F : Addr → Prop} {ρ : List Addr} {H : Hp} {ws : List W} {vs : List V} (r : RVs K mg F ρ H ws vs) : ∀ n : Nat, RVs K mg F ρ H (List.replicate n ws).flatten (List.replicate n vs).flatten
  | 0 => .nil
  | n + 1 => by rw [List.replicate_succ, List.replicate_succ, List.flatten_cons, List.flatten_cons]; exact r.append (rvs_rep r n)
theorem w_rep {own : Bool} : OpW K mg rRep (oRep own) := fun F ρ h H x y a b w h' Q g ra rb e q => by
  cases rb with
  | int k =>
    obtain ⟨xs, e1, e⟩ := bind_some e
    split at e
    · rename_i hl
      have e : mk own (List.replicate k.toNat xs).flatten h = (w, h') := Option.some.inj e
      obtain ⟨p, vs, e3, e4, e5⟩ := lq_ok g ra e1
      exact ⟨p, k, vs, e3, rfl, e4, hl.1, hl.2.1, by rw [← e5.length, sizeLine_eq]; omega, new_lst own g (rvs_rep e5 _) (by rw [e]; exact q)⟩
    · cases e
  | _ => cases e
def oTimes (own : Bool) : MO2 := orO oMul (oRep own)
theorem or_times : OpR X (binaryOp .Mult) (fun x y H Q => rI CMul (fun i j => .int (i * j)) x y H Q ∨ rRep x y H Q) := OpR.or op_mul op_rep
theorem w_times {own : Bool} : OpW K mg (fun x y H Q => rI CMul (fun i j => .int (i * j)) x y H Q ∨ rRep x y H Q) (oTimes own) := w_or w_mul w_rep
end
end G

set_option Elab.async false
set_option linter.all false
set_option maxRecDepth 100000
set_option maxHeartbeats 4000000
namespace G
open PySem PySem.Spec PyProof.Rows L2 PySem.W
/-! ### insertion sort is the stable sort -/
section
variable {α : Type} {le : α → α → Bool}
def insB (le : α → α → Bool) (a : α) : List α → List α
  | [] => [a]
  | b :: l => if le a b then a :: b :: l else b :: insB le a l
def srtB (le : α → α → Bool) : List α → List α
  | [] => []
  | a :: l => insB le a (srtB le l)
theorem insB_mem {a x : α} : ∀ {l : List α}, x ∈ insB le a l → x = a ∨ x ∈ l
  | [], h => by simpa [insB] using h
  | b :: l, h => by
    unfold insB at h
    split at h
    · rcases List.mem_cons.mp h with h | h
      · exact .inl h
      · exact .inr h
    · rcases List.mem_cons.mp h with h | h
      · exact .inr (by simp [h])
      · rcases insB_mem h with h | h
        · exact .inl h
        · exact .inr (List.mem_cons_of_mem _ h)
theorem insB_pw (h : TotalLe le) {a : α} : ∀ {l : List α}, l.Pairwise (fun x y => le x y = true) → (insB le a l).Pairwise (fun x y => le x y = true)
  | [], _ => by simp [insB]
  | b :: l, p => by
    unfold insB
    rw [List.pairwise_cons] at p
    split
    · rename_i hab
      rw [List.pairwise_cons]
      refine ⟨fun x hx => ?_, List.pairwise_cons.mpr p⟩
      rcases List.mem_cons.mp hx with rfl | hx
      · exact hab
      · exact h.trans _ _ _ hab (p.1 x hx)
    · rename_i hab
      have hba : le b a = true := (h.total b a).elim id fun z => absurd z hab
      rw [List.pairwise_cons]
      refine ⟨fun x hx => ?_, insB_pw h p.2⟩
      rcases insB_mem hx with rfl | hx
      · exact hba
      · exact p.1 x hx
theorem srtB_pw (h : TotalLe le) : ∀ l : List α, (srtB le l).Pairwise (fun x y => le x y = true)
  | [] => .nil
  | a :: l => insB_pw h (srtB_pw h l)
theorem insB_filter (h : TotalLe le) {a c : α} : ∀ {l : List α}, l.Pairwise (fun x y => le x y = true) → (insB le a l).filter (sameRank le c) = (a :: l).filter (sameRank le c)
  | [], _ => rfl
  | b :: l, p => by
    unfold insB
    rw [List.pairwise_cons] at p
    split
    · rfl
    · rename_i hab
      rw [List.filter_cons, insB_filter h p.2]
      cases ha : sameRank le c a with
      | false => simp [List.filter_cons, ha]
      | true =>
        have hb : sameRank le c b = false := by
          cases hb : sameRank le c b with
          | false => rfl
          | true =>
            unfold sameRank at ha hb
            rw [Bool.and_eq_true] at ha hb
            exact absurd (h.trans _ _ _ ha.2 hb.1) hab
        simp [List.filter_cons, ha, hb]
theorem srtB_filter (h : TotalLe le) (c : α) : ∀ l : List α, (srtB le l).filter (sameRank le c) = l.filter (sameRank le c)
  | [] => rfl
  | a :: l => by
    show (insB le a (srtB le l)).filter _ = _
    rw [insB_filter h (srtB_pw h l), List.filter_cons, List.filter_cons, srtB_filter h c l]
theorem srtB_eq (h : TotalLe le) (l : List α) : l.mergeSort le = srtB le l := (sort_unique h (srtB_pw h l) fun c => srtB_filter h c l).symm
theorem insB_map {β : Type} {le' : β → β → Bool} (f : α → β) (hf : ∀ a b, le a b = le' (f a) (f b)) (a : α) : ∀ l : List α, (insB le a l).map f = insB le' (f a) (l.map f)
  | [] => rfl
  | b :: l => by
    unfold insB
    rw [List.map_cons]
    show _ = (if le' (f a) (f b) then f a :: f b :: l.map f else f b :: insB le' (f a) (l.map f))
    rw [← hf a b]
    split
    · rfl
    · rw [List.map_cons, insB_map f hf a l]
theorem srtB_map {β : Type} {le' : β → β → Bool} (f : α → β) (hf : ∀ a b, le a b = le' (f a) (f b)) : ∀ l : List α, (srtB le l).map f = srtB le' (l.map f)
  | [] => rfl
  | a :: l => by
    show (insB le a (srtB le l)).map f = insB le' (f a) (srtB le' (l.map f))
    rw [insB_map f hf, srtB_map f hf l]
end
/-- the order of rows of ints -/
def lle : List Int → List Int → Bool
  | [], _ => true
  | _ :: _, [] => false
  | x :: xs, y :: ys => if x = y then lle xs ys else decide (x < y)
theorem lle_eq : ∀ xs ys : List Int, lle xs ys = decide (xs ≤ ys)
  | [], ys => by simp [lle]
  | x :: xs, [] => by simp [lle]
  | x :: xs, y :: ys => by
    unfold lle
    by_cases e : x = y
    · subst e
      rw [if_pos rfl, lle_eq xs ys]
      simp [List.cons_le_cons_iff]
    · rw [if_neg e]
      by_cases l : x < y
      · simp [List.cons_le_cons_iff, l]
      · simp [List.cons_le_cons_iff, l, e]
def intW : W → Option Int
  | .int i => some i
  | _ => none
/-- what an item is sorted by; whether it is a tuple -/
def keyI : W → Option (Bool × List Int)
  | .int i => some (false, [i])
  | .tup ws => (ws.mapM intW).bind fun is => if is = [] then none else some (true, is)
  | _ => none
def leK (a b : (Bool × List Int) × W) : Bool := lle a.1.2 b.1.2
def keyed : List W → Option (List ((Bool × List Int) × W))
  | [] => some []
  | w :: ws => (keyI w).bind fun k => (keyed ws).bind fun r => some ((k, w) :: r)
def sameK : List ((Bool × List Int) × W) → Bool
  | [] => true
  | a :: l => l.all fun b => a.1.1 == b.1.1
def srtW (us : List W) : Option (List W) := (keyed us).bind fun ks => if sameK ks then some ((srtB leK ks).map (·.2)) else none
def oSorted (own : Bool) : MO := fun ws h => match ws with
  | [w] => (iq h w).bind fun us => if us.length < 100000 then (srtW us).bind fun r => some (mk own r h) else none
  | _ => none
theorem dataLe_tups {β : Type} (x : β → List Int) : dataLe false (fun b => PyData.tuple ((x b).map PyData.int)) = fun p q => decide (x p ≤ x q) := by
  funext p q
  show (!dataLt (PyData.tuple ((x q).map PyData.int)) (PyData.tuple ((x p).map PyData.int))) = _
  rw [dataLt_tuple]
  show (!rowLt ((x q).map PyData.int) ((x p).map PyData.int)) = _
  rw [dataLt_ints]
  by_cases h : x q < x p
  · have h' : ¬ x p ≤ x q := fun r => List.not_lt.mpr r h
    simp [h, h']
  · have h' : x p ≤ x q := List.not_lt.mp h
    simp [h, h']
/-- the data of a key -/
def encK (k : Bool × List Int) : PyData := if k.1 then .tuple (k.2.map PyData.int) else .int (k.2.getD 0 0)
abbrev Bq := V × (Bool × List Int) × W
theorem total_lle : TotalLe (fun a b : Bq => lle a.2.1.2 b.2.1.2) := by
  refine ⟨fun a b c h1 h2 => ?_, fun a b => ?_⟩
  · rw [lle_eq, decide_eq_true_eq] at h1 h2 ⊢
    exact List.le_trans h1 h2
  · rw [lle_eq, lle_eq, decide_eq_true_eq, decide_eq_true_eq]
    exact List.le_total _ _
section
variable {K : PySem.W.Frag} {mg : Str → Option Value}
/-- a key, as it stands -/
inductive KeyOk (K : PySem.W.Frag) (H : Hp) : Bool × List Int → V → Prop
  | int (i : Int) : KeyOk K H (false, [i]) (.int i)
  | tup {a : Addr} {is : List Int} : SqT K H a (is.map V.int) → is ≠ [] → KeyOk K H (true, is) (.ref a)
theorem ints_of {F : Addr → Prop} {ρ : List Addr} {H : Hp} : ∀ {ws : List W} {is : List Int} {vs : List V}, (ws.mapM intW) = some is → RVs K mg F ρ H ws vs → vs = is.map V.int
  | [], is, _, e, .nil => by
    have e : some [] = some is := e
    cases e; rfl
  | w :: ws, is, _, e, .cons a b => by
    rw [List.mapM_cons] at e
    obtain ⟨i, e1, e⟩ := bind_some e
    obtain ⟨is', e2, e⟩ := bind_some e
    cases e
    rw [ints_of e2 b]
    cases a with
    | int j => cases e1; rfl
    | _ => cases e1
theorem keyI_ok {F : Addr → Prop} {ρ : List Addr} {H : Hp} {w : W} {v : V} {k : Bool × List Int} (e : keyI w = some k) (r : RV K mg F ρ H w v) : KeyOk K H k v := by
  cases r with
  | int i => cases e; exact .int i
  | tup a b =>
    obtain ⟨is, e1, e⟩ := bind_some (show ((_ : List W).mapM intW).bind (fun is => if is = [] then none else some (true, is)) = some k from e)
    split at e
    · cases e
    · rename_i ne
      cases e
      rw [ints_of e1 b] at a
      exact .tup a ne
  | _ => cases e
end
/-- a new object laid at a place that none of those that stood has -/
theorem inv_laid {X : Cx} {pins : List (Addr × Obj)} {σ : L2.St} {H : Hp} {s : Shared} {a : Addr} {o : HO} {h' : Heap} {tk : Nat} (I : Inv X pins σ H s) (k : ∀ b u, s.heap.get? b = some u → h'.get? b = some u) (hp : ∀ b u, s.heap.get? b = some u → b ≠ a) (new : ObjOk X.prog X.w (upd H a o) h' a o) :
    H a = none ∧ Inv X pins σ (upd H a o) { s with heap := h', toks := tk } := by
  have tr : ∀ b u, H b = some u → b ≠ a := fun b u e => by
    have l := (I.hok b u e).lt
    intro z
    subst z
    cases u with
    | lst xs => obtain ⟨_, _, _, _, q⟩ := I.hok _ _ e; exact hp _ _ q rfl
    | tup xs => obtain ⟨_, _, _, ob, q, _⟩ := I.hok _ _ e; exact hp _ _ q rfl
    | dK kvs => obtain ⟨_, _, _, _, ob, _, _, q, _⟩ := I.hok _ _ e; exact hp _ _ q rfl
    | dT kvs => obtain ⟨_, _, _, _, ob, _, _, q, _⟩ := I.hok _ _ e; exact hp _ _ q rfl
    | set S n => obtain ⟨ob, _, _, _, q, _⟩ := I.hok _ _ e; exact hp _ _ q rfl
    | ins C dx fs => obtain ⟨_, _, _, q, _⟩ := I.hok _ _ e; exact hp _ _ q rfl
    | own y => obtain ⟨_, q⟩ := I.hok _ _ e; exact hp _ _ q rfl
    | xd fs => obtain ⟨_, ⟨_, _, _, q, _⟩, _⟩ := I.hok _ _ e; exact hp _ _ q rfl
    | rng lo hi => obtain ⟨_, _, _, q⟩ := I.hok _ _ e; exact hp _ _ q rfl
    | frz ob u => obtain ⟨q, _⟩ := I.hok _ _ e; exact hp _ _ q rfl
    | tbl ps => exact hp _ _ (show s.heap.get? _ = some _ from I.hok _ _ e) rfl
    | met f y => exact hp _ _ (show s.heap.get? _ = some _ from I.hok _ _ e) rfl
    | ext φ => obtain ⟨_, ⟨_, q⟩, _⟩ := I.hok _ _ e; exact hp _ _ q rfl
  have hn : H a = none := by
    cases q : H a with
    | none => rfl
    | some u => exact absurd rfl (tr a u q)
  refine ⟨hn, I.un (h' := h') (t' := tk) ⟨fun b u q _ _ _ => k b u q, fun b u q _ _ _ => ⟨u.slots, k b u q⟩, fun b u q n _ => by rw [upd_ne (hp b u q)]; exact n, fun b u q _ => ⟨u, k b u q⟩, fun b xs q => by rw [upd_ne (tr b _ q)]; exact q, fun b u xs q => by rw [upd_ne (tr b _ q)]; exact q, fun b ps q => ⟨#[], by rw [upd_ne (tr b _ q), q]; simp⟩⟩ fun b u e => ?_⟩
  by_cases hb : b = a
  · subst hb; rw [upd_same] at e; cases e; exact new
  · rw [upd_ne hb] at e
    exact (I.hok b u e).stay (fun c v _ q => k c v q) (fun c q => by rw [upd_ne (tr c _ q)]; exact q) fun c xs q => by rw [upd_ne (tr c _ q)]; exact q
/-- sorted(x), x a list or a tuple of data -/
theorem sorted_any {prog : Program} {w : World} {A : Around} {E : Value → Shared → Prop} {s : Shared} {β : Type} {R : Value → β → Prop} {enc : β → PyData} {vs : List Value} {bs : List β} {l : Addr} {T : String} {o : Obj} {n : Nat} {Q : Value → Shared → Prop} (hT : T = "list" ∨ T = "tuple")
    (ho : s.heap.get? l = some o) (hc : o.cls = .type T) (hd : o.data = .seq vs.toArray n) (e : EachIs R vs bs) (er : ∀ h' : Heap, (∀ b u, s.heap.get? b = some u → h'.get? b = some u) → EachIs (fun v b => Reads h' v (enc b) []) vs bs) (hal : AllAlike (bs.map enc)) (hk : Sortable (bs.map enc)) (hL : bs.length ≤ sizeLine)
    (hu : ∀ b, b ∈ bs → A.units + 2 + (enc b).depth < cLine)
    (h : ∀ (out : List Value) (h' : Heap) (D : Addr) (c : Nat), out.length = bs.length → EachIs R out (bs.mergeSort (dataLe false enc)) → (∀ b u, s.heap.get? b = some u → b ≠ D) → (∀ b u, s.heap.get? b = some u → h'.get? b = some u) → h'.get? D = some (seqObj "list" out.toArray c) → Q (.ref D) { s with heap := h' }) :
    wpAny (model prog w) A (call (.builtin "sorted") [.ref l]) Q E s := by
  have hz : vs.length ≤ sizeLine := by rw [e.length]; exact hL
  refine Calls.call_function_entry kind_sorted plain_sorted entry_sorted (args_sorted1 _) ?_
  unfold Builtin.«sorted»
  refine wpAny_bind (m := checkCount "sorted" 1 1 _) (wpAny_pure ?_)
  refine wpAny_bind (wpAny_collect_seq (hsz := by rw [List.size_toArray]; exact hz) l hT ho hc hd fun h1 k1 => ?_)
  rw [show vs.toArray.toList = vs by simp]
  refine wpAny_bind (wpAny_newList ?_ hz)
  have hoL : (h1.push (seqObj "list" vs.toArray 0)).get? h1.objs.size = some (seqObj "list" vs.toArray 0) := Heap.get?_push_size _ rfl
  have k2 : ∀ b u, s.heap.get? b = some u → (h1.push (seqObj "list" vs.toArray 0)).get? b = some u := fun b u q => Heap.get?_push_of_some _ (k1 b u q)
  refine wpAny_bind (wpAny_holding ?_)
  refine list_sort_data (s := { s with heap := h1.push (seqObj "list" vs.toArray 0) }) hoL e ((er _ k2).mono fun _ _ r => ⟨[], r, by simp⟩) hal hk hL (fun b hb => ?_) fun out hout eo => ?_
  · have := hu b hb
    show A.in1.units + 1 + (enc b).depth < cLine
    have e9 : A.in1.units = A.units + 1 := rfl
    omega
  · refine wpAny_pure ?_
    obtain ⟨c, hc9⟩ := sortedHeap_at (vs := vs) (out := out.toArray) hoL
    refine ⟨_, rfl, h out (sortedHeap (h1.push (seqObj "list" vs.toArray 0)) h1.objs.size vs out.toArray) h1.objs.size c hout eo ?_ (fun b u q => ?_) hc9⟩
    · exact fun b u q => Nat.ne_of_lt (Heap.lt_size (k1 b u q))
    · have l1 := Heap.lt_size (k1 b u q)
      rw [sortedHeap_old (Nat.ne_of_lt l1) (by rw [Heap.size_push]; exact Nat.lt_succ_of_lt l1)]
      exact k2 b u q
/-- the rule over the layer -/
def rSortK (K : PySem.W.Frag) : List V → Hp → VK → Prop := fun xs H Q => ∃ (p : Addr) (bs : List Bq), xs = [.ref p] ∧ (SqL K H p (bs.map (·.1)) ∨ SqT K H p (bs.map (·.1))) ∧ bs.length ≤ sizeLine ∧ (∀ b ∈ bs, KeyOk K H b.2.1 b.1) ∧ (∀ b ∈ bs, ∀ c ∈ bs, b.2.1.1 = c.2.1.1) ∧
  ∀ l, H l = none → Q (.ref l) (upd H l (.lst ((srtB (fun a b : Bq => lle a.2.1.2 b.2.1.2) bs).map (·.1))))
theorem each_vals {bs : List Bq} : ∀ {us : List Value}, Vals (bs.map (·.1)) us → EachIs (fun v (b : Bq) => RelV b.1 v) us bs := by
  induction bs with
  | nil => intro us r; cases r; exact .nil
  | cons b bs ih => intro us r; cases r with | cons a t => exact .cons a (ih t)
theorem vals_each {bs : List Bq} {us : List Value} (e : EachIs (fun v (b : Bq) => RelV b.1 v) us bs) : Vals (bs.map (·.1)) us := by
  induction bs generalizing us with
  | nil => cases e; exact .nil
  | cons b bs ih => cases e with | cons a t => exact .cons a (ih t)
theorem each_and {α β : Type} {R S : α → β → Prop} {as : List α} {bs : List β} (e : EachIs R as bs) (f : ∀ b ∈ bs, ∀ a, R a b → S a b) : EachIs S as bs := by
  induction bs generalizing as with
  | nil => cases e; exact .nil
  | cons b bs ih => cases e with | cons a t => exact .cons (f b (by simp) _ a) (ih t fun c hc => f c (List.mem_cons_of_mem _ hc))
theorem readsInts {h : Heap} : ∀ {is : List Int} {us : List Value}, Vals (is.map V.int) us → ReadsAll h us (is.map PyData.int) []
  | [], _, r => by cases r; exact .nil
  | i :: is, _, r => by
    cases r with
    | cons a t =>
      obtain ⟨tk, rfl⟩ := a
      exact ReadsAll.cons (as := []) (bs := []) (.int i tk) (readsInts t)
theorem mem_srt {α : Type} {le : α → α → Bool} {l : List α} (h : TotalLe le) {x : α} (hx : x ∈ srtB le l) : x ∈ l := by
  rw [← srtB_eq h] at hx
  exact (List.mergeSort_perm l le).mem_iff.mp hx
theorem cr_sortK {X : Cx} (hu : X.A.units + 64 < cLine) : CallR X (.builtin "sorted") (rSortK X.K) := by
  intro pins s σ H xs us Q I r h
  obtain ⟨p, bs, rfl, hs, hz, hk, hs2, q⟩ := h
  rw [Vals.ref1 r]
  obtain ⟨T, o, n, its, hT, ho, hc, hd, rv⟩ : ∃ (T : String) (o : Obj) (n : Nat) (its : List Value), (T = "list" ∨ T = "tuple") ∧ s.heap.get? p = some o ∧ o.cls = .type T ∧ o.data = .seq its.toArray n ∧ Vals (bs.map (·.1)) its := by
    rcases hs with hs | hs
    · obtain ⟨its, rv, hl, _⟩ := I.list hs
      obtain ⟨o, ho, hc, n, hd⟩ := hl.isList
      exact ⟨_, o, n, its, .inl rfl, ho, hc, hd, rv⟩
    · obtain ⟨its, rv, hl, _⟩ := I.tuple hs
      obtain ⟨o, ho, hc, n, hd⟩ := (show s.heap.IsTuple p its.toArray from hl)
      exact ⟨_, o, n, its, .inr rfl, ho, hc, hd, rv⟩
  have en : (fun b : Bq => encK b.2.1) = fun b : Bq => encK b.2.1 := rfl
  have e0 := each_vals rv
  have hlt : ∀ b ∈ bs, ∀ c ∈ bs, True := fun _ _ _ _ => trivial
  have hread : ∀ h' : Heap, (∀ b u, s.heap.get? b = some u → h'.get? b = some u) → EachIs (fun v (b : Bq) => Reads h' v (encK b.2.1) []) its bs := fun h' kk => each_and e0 fun b hb v rr => by
    have kb := hk b hb
    obtain ⟨bv, bk, bw⟩ := b
    have kb : KeyOk X.K H bk bv := kb
    have rr : RelV bv v := rr
    cases kb with
    | int i => obtain ⟨tk, rfl⟩ := rr; exact .int i tk
    | tup ta ne =>
      cases rr
      obtain ⟨its2, rv2, hl2, _⟩ := I.tuple ta
      obtain ⟨o2, ho2, hc2, n2, hd2⟩ := (show s.heap.IsTuple _ its2.toArray from hl2)
      exact .tuple (kk _ _ ho2) hc2 hd2 (by simpa using readsInts rv2)
  have hal : AllAlike (bs.map fun b : Bq => encK b.2.1) := by
    intro d hd' d' hd2
    obtain ⟨b, hb, rfl⟩ := List.mem_map.mp hd'
    obtain ⟨c, hc2, rfl⟩ := List.mem_map.mp hd2
    have kb := hk b hb; have kc := hk c hc2; have hbc := hs2 b hb c hc2
    obtain ⟨bv, bk, bw⟩ := b
    obtain ⟨cv, ck, cw⟩ := c
    have kb : KeyOk X.K H bk bv := kb
    have kc : KeyOk X.K H ck cv := kc
    cases kb with
    | int i => cases kc with
      | int j => simp [encK, alike]
      | tup _ _ => cases hbc
    | tup _ _ => cases kc with
      | int j => cases hbc
      | tup _ _ =>
        show alike (PyData.tuple _) (PyData.tuple _) = true
        rw [alike]
        exact alike_ints _ _
  have hkk : Sortable (bs.map fun b : Bq => encK b.2.1) := by
    cases bs with
    | nil => exact .inl fun d hd => by cases hd
    | cons b0 bs0 =>
      have k0 := hk b0 (by simp)
      cases hb0 : b0.2.1.1 with
      | false =>
        refine .inr fun d hd' => ?_
        obtain ⟨b, hb, rfl⟩ := List.mem_map.mp hd'
        have hb1 : b.2.1.1 = false := (hs2 b hb b0 (by simp)).trans hb0
        have e9 : encK b.2.1 = PyData.int (b.2.1.2.getD 0 0) := by simp [encK, hb1]
        show encK b.2.1 ≠ .none ∧ ∀ xs, encK b.2.1 ≠ .tuple xs
        rw [e9]
        exact ⟨(fun z => by cases z), fun _ z => by cases z⟩
      | true =>
        refine .inl fun d hd' => ?_
        obtain ⟨b, hb, rfl⟩ := List.mem_map.mp hd'
        have hb1 : b.2.1.1 = true := (hs2 b hb b0 (by simp)).trans hb0
        have kb := hk b hb
        obtain ⟨bv, bk, bw⟩ := b
        have kb : KeyOk X.K H bk bv := kb
        cases kb with
        | int i => cases hb1
        | tup ta ne =>
          rename_i is
          cases is with
          | nil => exact absurd rfl ne
          | cons i is => exact ⟨_, _, rfl⟩
  have hle : bs.mergeSort (dataLe false fun b : Bq => encK b.2.1) = srtB (fun a b : Bq => lle a.2.1.2 b.2.1.2) bs := by
    rw [← srtB_eq total_lle]
    refine sort_congr fun a ha b hb => ?_
    have ka := hk a ha; have kb := hk b hb; have hab := hs2 a ha b hb
    obtain ⟨av, ak, aw⟩ := a
    obtain ⟨bv, bk, bw⟩ := b
    have ka : KeyOk X.K H ak av := ka
    have kb : KeyOk X.K H bk bv := kb
    cases ka with
    | int i => cases kb with
      | int j =>
        have := congrFun (congrFun (dataLe_int (β := Int) id) i) j
        show dataLe false (fun b : Bq => encK b.2.1) _ _ = lle [i] [j]
        rw [lle_eq]
        refine (show _ = dataLe false (fun b : Int => PyData.int (id b)) i j from rfl).trans (this.trans ?_)
        by_cases hij : i ≤ j
        · have : ([i] : List Int) ≤ [j] := by
            rw [List.cons_le_cons_iff]
            rcases Int.lt_or_eq_of_le hij with z | z
            · exact .inl z
            · exact .inr ⟨z, List.le_refl _⟩
          simp [hij, this]
        · have : ¬ ([i] : List Int) ≤ [j] := by
            rw [List.cons_le_cons_iff]
            rintro (z | ⟨z, _⟩) <;> omega
          simp [hij, this]
      | tup _ _ => cases hab
    | tup _ _ => cases kb with
      | int j => cases hab
      | tup _ _ =>
        rename_i is _ _ _ js _ _
        have := congrFun (congrFun (dataLe_tups (β := List Int) id) is) js
        show dataLe false (fun b : Bq => encK b.2.1) _ _ = lle is js
        rw [lle_eq]
        exact (show _ = dataLe false (fun b : List Int => PyData.tuple ((id b).map PyData.int)) is js from rfl).trans this
  refine sorted_any (R := fun v (b : Bq) => RelV b.1 v) (enc := fun b : Bq => encK b.2.1) hT ho hc hd e0 hread hal hkk hz (fun b hb => ?_) fun out h' D c hout eo hD kk hgD => ?_
  · have kb := hk b hb
    obtain ⟨bv, bk, bw⟩ := b
    have kb : KeyOk X.K H bk bv := kb
    cases kb with
    | int i => show X.A.units + 2 + 0 < cLine; omega
    | tup _ _ =>
      show X.A.units + 2 + (PyData.depthAll _ + 1) < cLine
      rw [depth_ints]
      omega
  · rw [hle] at eo
    have vo := vals_each eo
    obtain ⟨hn, I2⟩ := inv_laid (a := D) (o := .lst ((srtB (fun a b : Bq => lle a.2.1.2 b.2.1.2) bs).map (·.1))) (tk := s.toks) I kk hD ⟨by rw [List.length_map, ← eo.length, hout]; exact hz, out, c, vo, hgD⟩
    exact ⟨.ref D, _, I2, rfl, q D hn⟩
section
variable {K : PySem.W.Frag} {mg : Str → Option Value}
theorem total_leK : TotalLe leK := ⟨fun a b c h1 h2 => total_lle.trans (V.non, a) (V.non, b) (V.non, c) h1 h2, fun a b => total_lle.total (V.non, a) (V.non, b)⟩
theorem keyed_bs {F : Addr → Prop} {ρ : List Addr} {H : Hp} : ∀ {ws : List W} {vs : List V} {ks : List ((Bool × List Int) × W)}, RVs K mg F ρ H ws vs → keyed ws = some ks →
    ∃ bs : List Bq, bs.map (·.1) = vs ∧ bs.map (·.2) = ks ∧ (∀ b ∈ bs, KeyOk K H b.2.1 b.1 ∧ RV K mg F ρ H b.2.2 b.1)
  | _, _, _, .nil, e => by cases e; exact ⟨[], rfl, rfl, fun b hb => by cases hb⟩
  | w :: ws, v :: vs, ks, .cons a b, e => by
    obtain ⟨k, e1, e⟩ := bind_some e
    obtain ⟨r, e2, e⟩ := bind_some e
    cases e
    obtain ⟨bs, h1, h2, h3⟩ := keyed_bs b e2
    refine ⟨(v, k, w) :: bs, by rw [List.map_cons, h1], by rw [List.map_cons, h2], fun c hc => ?_⟩
    rcases List.mem_cons.mp hc with rfl | hc
    · exact ⟨keyI_ok e1 a, a⟩
    · exact h3 c hc
theorem w_sorted {own : Bool} : CW K mg (rSortK K) (oSorted own) := fun F ρ h H xs as w h' Q g r e q => by
  match as, r, e with
  | [], .nil, e => cases e
  | _ :: _ :: _, _, e => cases e
  | [a], .cons ra .nil, e =>
    obtain ⟨us, e1, e⟩ := bind_some e
    split at e
    · rename_i hl
      obtain ⟨rr, e2, e⟩ := bind_some e
      have e : mk own rr h = (w, h') := Option.some.inj e
      obtain ⟨p, ys, e3, e4, e5⟩ := iq_ok g ra e1
      unfold srtW at e2
      obtain ⟨ks, e6, e2⟩ := bind_some e2
      split at e2
      · rename_i hk
        have e2 : (srtB leK ks).map (·.2) = rr := Option.some.inj e2
        obtain ⟨bs, h1, h2, h3⟩ := keyed_bs e5 e6
        have hlen : bs.length = us.length := by rw [e5.length, ← h1, List.length_map]
        have hmap : (srtB (fun a b : Bq => lle a.2.1.2 b.2.1.2) bs).map (·.2) = srtB leK ks := by
          rw [← h2]
          exact srtB_map (le := fun a b : Bq => lle a.2.1.2 b.2.1.2) (le' := leK) (fun b : Bq => b.2) (fun _ _ => rfl) bs
        refine ⟨p, bs, by rw [e3], by rw [h1]; exact e4, by rw [hlen, sizeLine_eq]; omega, fun b hb => (h3 b hb).1, fun b hb c hc => ?_, new_lst own g ?_ (by rw [e]; exact q)⟩
        · have hb' : b.2 ∈ ks := by rw [← h2]; exact List.mem_map_of_mem hb
          have hc' : c.2 ∈ ks := by rw [← h2]; exact List.mem_map_of_mem hc
          cases ks with
          | nil => cases hb'
          | cons k0 kr =>
            have all : ∀ z ∈ k0 :: kr, k0.1.1 = z.1.1 := fun z hz => by
              rcases List.mem_cons.mp hz with rfl | hz
              · rfl
              · have := List.all_eq_true.mp (show (kr.all fun b => k0.1.1 == b.1.1) = true from hk) z hz
                simpa using this
            exact (all _ hb').symm.trans (all _ hc')
        · have e2' : (srtB (fun a b : Bq => lle a.2.1.2 b.2.1.2) bs).map (fun b => b.2.2) = rr := by
            rw [← e2, ← hmap, List.map_map]
            rfl
          rw [← e2']
          have gen : ∀ l : List Bq, (∀ b ∈ l, RV K mg F ρ H b.2.2 b.1) → RVs K mg F ρ H (l.map fun b => b.2.2) (l.map (·.1)) := by
            intro l
            induction l with
            | nil => intro _; exact .nil
            | cons b l ih => intro hh; exact .cons (hh b (by simp)) (ih fun c hc => hh c (List.mem_cons_of_mem _ hc))
          exact gen _ fun b hb => (h3 b (mem_srt total_lle hb)).2
      · cases e2
    · cases e
end
end G

set_option Elab.async false
set_option linter.all false
set_option maxRecDepth 100000
set_option maxHeartbeats 4000000
namespace G
open PySem PySem.Spec PyProof.Rows L2
section
variable {X : Cx} {K : PySem.W.Frag} {mg : Str → Option Value}
/-! ### == -/
def pd (h : Hm) : Nat → W → Option PyData
  | 0, _ => none
  | _ + 1, .non => some .none
  | _ + 1, .bl b => some (.bool b)
  | _ + 1, .int i => some (.int i)
  | _ + 1, .str x => some (.str x)
  | d + 1, .tup ws => (ws.mapM (pd h d)).map .tuple
  | d + 1, .fl ws => (ws.mapM (pd h d)).map .list
  | d + 1, .ro ws => (ws.mapM (pd h d)).map .list
  | d + 1, .loc n => (hl h n).bind fun ws => (ws.mapM (pd h d)).map .list
  | _ + 1, .fn _ => none
theorem mapM_cons' {β : Type} {f : W → Option β} {w : W} {ws : List W} {us : List β} (e : (w :: ws).mapM f = some us) : ∃ u us', f w = some u ∧ ws.mapM f = some us' ∧ us = u :: us' := by
  rw [List.mapM_cons] at e
  obtain ⟨u, e1, e⟩ := bind_some e
  obtain ⟨us', e2, e⟩ := bind_some e
  cases e
  exact ⟨u, us', e1, e2, rfl⟩
theorem dpAll {F : Addr → Prop} {ρ : List Addr} {H : Hp} {f : W → Option PyData} (hf : ∀ w v p, f w = some p → RV K mg F ρ H w v → Dp K H v p) : ∀ {ws : List W} {vs : List V} {ps : List PyData}, ws.mapM f = some ps → RVs K mg F ρ H ws vs → DpAll K H vs ps
  | [], _, _, e, .nil => by
    have e : some [] = some _ := e
    cases e; exact .nil
  | w :: ws, _, _, e, .cons a b => by
    obtain ⟨u, us', e1, e2, rfl⟩ := mapM_cons' e
    exact .cons (hf _ _ _ e1 a) (dpAll hf e2 b)
theorem pd_dp {F : Addr → Prop} {ρ : List Addr} {h : Hm} {H : Hp} (g : Good K mg F ρ h H) : ∀ (d : Nat) (w : W) (v : V) (p : PyData), pd h d w = some p → RV K mg F ρ H w v → Dp K H v p
  | 0, _, _, _, e, _ => by cases e
  | d + 1, w, v, p, e, r => by
    cases r with
    | non => cases e; exact .non
    | bl b => cases e; exact .bl b
    | int b => cases e; exact .int b
    | str b => cases e; exact .str b
    | fn a => cases e
    | tup a b =>
      obtain ⟨us, e1, e2⟩ := Option.map_eq_some_iff.mp (show ((_ : List W).mapM (pd h d)).map PyData.tuple = some p from e)
      subst e2
      exact .tup a (dpAll (pd_dp g d) e1 b)
    | fl f a b =>
      obtain ⟨us, e1, e2⟩ := Option.map_eq_some_iff.mp (show ((_ : List W).mapM (pd h d)).map PyData.list = some p from e)
      subst e2
      exact .lst (.inl (.inl a)) (dpAll (pd_dp g d) e1 b)
    | ro a b =>
      obtain ⟨us, e1, e2⟩ := Option.map_eq_some_iff.mp (show ((_ : List W).mapM (pd h d)).map PyData.list = some p from e)
      subst e2
      exact .lst a.sq (dpAll (pd_dp g d) e1 b)
    | loc ea =>
      obtain ⟨ws, e0, e⟩ := bind_some (show (hl h _).bind (fun ws => (ws.mapM (pd h d)).map PyData.list) = some p from e)
      obtain ⟨us, e1, e2⟩ := Option.map_eq_some_iff.mp e
      subst e2
      obtain ⟨a', vs, ea', nf, eH, rs, lv⟩ := g.at (hl_eq e0)
      rw [ea] at ea'; cases ea'
      exact .lst (.inl (.inl eH)) (dpAll (pd_dp g d) e1 rs)
theorem plainAll_of {f : W → Option PyData} {n : Nat} (hf : ∀ w p, f w = some p → p.plain = true ∧ p.depth ≤ n) : ∀ {ws : List W} {ps : List PyData}, ws.mapM f = some ps → PyData.plainAll ps = true ∧ PyData.depthAll ps ≤ n
  | [], _, e => by
    have e : some [] = some _ := e
    cases e; exact ⟨rfl, Nat.zero_le _⟩
  | w :: ws, _, e => by
    obtain ⟨u, us', e1, e2, rfl⟩ := mapM_cons' e
    obtain ⟨a, b⟩ := hf _ _ e1
    obtain ⟨c, d⟩ := plainAll_of hf e2
    refine ⟨?_, ?_⟩
    · show (PyData.plain u && PyData.plainAll us') = true
      rw [a, c]; rfl
    · show max u.depth (PyData.depthAll us') ≤ n
      omega
theorem pd_plain {h : Hm} : ∀ (d : Nat) (w : W) (p : PyData), pd h d w = some p → p.plain = true ∧ p.depth ≤ d
  | 0, _, _, e => by cases e
  | d + 1, w, p, e => by
    cases w with
    | non => cases e; exact ⟨rfl, Nat.zero_le _⟩
    | bl b => cases e; exact ⟨rfl, Nat.zero_le _⟩
    | int b => cases e; exact ⟨rfl, Nat.zero_le _⟩
    | str b => cases e; exact ⟨rfl, Nat.zero_le _⟩
    | fn a => cases e
    | tup ws =>
      obtain ⟨us, e1, e2⟩ := Option.map_eq_some_iff.mp (show (ws.mapM (pd h d)).map PyData.tuple = some p from e)
      subst e2
      obtain ⟨a, b⟩ := plainAll_of (pd_plain d) e1
      exact ⟨a, Nat.succ_le_succ b⟩
    | fl ws =>
      obtain ⟨us, e1, e2⟩ := Option.map_eq_some_iff.mp (show (ws.mapM (pd h d)).map PyData.list = some p from e)
      subst e2
      obtain ⟨a, b⟩ := plainAll_of (pd_plain d) e1
      exact ⟨a, Nat.succ_le_succ b⟩
    | ro ws =>
      obtain ⟨us, e1, e2⟩ := Option.map_eq_some_iff.mp (show (ws.mapM (pd h d)).map PyData.list = some p from e)
      subst e2
      obtain ⟨a, b⟩ := plainAll_of (pd_plain d) e1
      exact ⟨a, Nat.succ_le_succ b⟩
    | loc n =>
      obtain ⟨ws, e0, e⟩ := bind_some (show (hl h n).bind (fun ws => (ws.mapM (pd h d)).map PyData.list) = some p from e)
      obtain ⟨us, e1, e2⟩ := Option.map_eq_some_iff.mp e
      subst e2
      obtain ⟨a, b⟩ := plainAll_of (pd_plain d) e1
      exact ⟨a, Nat.succ_le_succ b⟩
def rEqP (K : PySem.W.Frag) : R2 := fun x y H Q => ∃ d e, Dp K H x d ∧ Dp K H y e ∧ d.plain = true ∧ e.plain = true ∧ d.depth ≤ 30 ∧ Q (.bl (PyData.eqv d e)) H
def rNeP (K : PySem.W.Frag) : R2 := fun x y H Q => ∃ d e, Dp K H x d ∧ Dp K H y e ∧ d.plain = true ∧ e.plain = true ∧ d.depth ≤ 30 ∧ Q (.bl (!PyData.eqv d e)) H
theorem or_eq (hu : X.A.units + 64 < cLine) : OpR X (compareOp .Eq) (rEqP X.K) := by
  intro pins s σ H x y v u Q I rx ry h
  obtain ⟨d, e, hd, he, sd, se, dep, q⟩ := h
  obtain ⟨as, r1⟩ := Dp.reads I d x v hd rx
  obtain ⟨bs, r2⟩ := Dp.reads I e y u he ry
  exact SeqAt.eq_plain r1 r2 sd se (by have := Nat.min_le_left d.depth e.depth; omega) ⟨.bl _, H, I, rfl, q⟩
theorem or_ne (hu : X.A.units + 64 < cLine) : OpR X (compareOp .NotEq) (rNeP X.K) := by
  intro pins s σ H x y v u Q I rx ry h
  obtain ⟨d, e, hd, he, sd, se, dep, q⟩ := h
  obtain ⟨as, r1⟩ := Dp.reads I d x v hd rx
  obtain ⟨bs, r2⟩ := Dp.reads I e y u he ry
  exact SeqAt.ne_plain r1 r2 sd se (by have := Nat.min_le_left d.depth e.depth; omega) ⟨.bl _, H, I, rfl, q⟩
def oEq : MO2 := fun a b h => (pd h 20 a).bind fun d => (pd h 20 b).bind fun e => some (.bl (PyData.eqv d e), h)
def oNe : MO2 := fun a b h => (pd h 20 a).bind fun d => (pd h 20 b).bind fun e => some (.bl (!PyData.eqv d e), h)
theorem w_eq : OpW K mg (rEqP K) oEq := fun F ρ h H x y a b w h' Q g ra rb e q => by
  obtain ⟨d, e1, e⟩ := bind_some e
  obtain ⟨d', e2, e⟩ := bind_some e
  cases e
  obtain ⟨p1, q1⟩ := pd_plain 20 a d e1
  exact ⟨d, d', pd_dp g 20 a x d e1 ra, pd_dp g 20 b y d' e2 rb, p1, (pd_plain 20 b d' e2).1, Nat.le_trans q1 (by decide), q.here g (.bl _)⟩
theorem w_ne : OpW K mg (rNeP K) oNe := fun F ρ h H x y a b w h' Q g ra rb e q => by
  obtain ⟨d, e1, e⟩ := bind_some e
  obtain ⟨d', e2, e⟩ := bind_some e
  cases e
  obtain ⟨p1, q1⟩ := pd_plain 20 a d e1
  exact ⟨d, d', pd_dp g 20 a x d e1 ra, pd_dp g 20 b y d' e2 rb, p1, (pd_plain 20 b d' e2).1, Nat.le_trans q1 (by decide), q.here g (.bl _)⟩
/-! ### in -/
def rInP (K : PySem.W.Frag) (neg : Bool) : R2 := fun x y H Q => ∃ d ds, Dp K H x d ∧ (Dp K H y (.list ds) ∨ Dp K H y (.tuple ds)) ∧ d.plain = true ∧ PyData.plainAll ds = true ∧ d.depth ≤ 30 ∧ Q (.bl (xor neg (ds.any fun z => PyData.eqv z d))) H
theorem or_in (hu : X.A.units + 64 < cLine) : OpR X (compareOp .In) (rInP X.K false) := by
  intro pins s σ H x y v u Q I rx ry h
  obtain ⟨d, ds, hd, hy, sd, se, dep, q⟩ := h
  obtain ⟨as, r1⟩ := Dp.reads I d x v hd rx
  have hm := Nat.min_le_right (PyData.depthAll ds) d.depth
  rw [Bool.false_xor] at q
  rcases hy with hy | hy
  · obtain ⟨bs, r2⟩ := Dp.reads I (.list ds) y u hy ry
    exact SeqAt.in_list_data r2 r1 se sd (by omega) ⟨.bl _, H, I, rfl, q⟩
  · obtain ⟨bs, r2⟩ := Dp.reads I (.tuple ds) y u hy ry
    exact SeqAt.in_tuple_data r2 r1 se sd (by omega) ⟨.bl _, H, I, rfl, q⟩
theorem or_notIn (hu : X.A.units + 64 < cLine) : OpR X (compareOp .NotIn) (rInP X.K true) := by
  intro pins s σ H x y v u Q I rx ry h
  obtain ⟨d, ds, hd, hy, sd, se, dep, q⟩ := h
  obtain ⟨as, r1⟩ := Dp.reads I d x v hd rx
  have hm := Nat.min_le_right (PyData.depthAll ds) d.depth
  rw [Bool.true_xor] at q
  rcases hy with hy | hy
  · obtain ⟨bs, r2⟩ := Dp.reads I (.list ds) y u hy ry
    exact SeqAt.notIn_list_data r2 r1 se sd (by omega) ⟨.bl _, H, I, rfl, q⟩
  · obtain ⟨bs, r2⟩ := Dp.reads I (.tuple ds) y u hy ry
    exact SeqAt.notIn_tuple_data r2 r1 se sd (by omega) ⟨.bl _, H, I, rfl, q⟩
def oIn (neg : Bool) : MO2 := fun a b h => (pd h 20 a).bind fun d => (iq h b).bind fun ws => (ws.mapM (pd h 19)).bind fun ds => some (.bl (xor neg (ds.any fun z => PyData.eqv z d)), h)
theorem iq_pd {F : Addr → Prop} {ρ : List Addr} {h : Hm} {H : Hp} (g : Good K mg F ρ h H) {w : W} {v : V} {ws : List W} {ds : List PyData} (r : RV K mg F ρ H w v) (e : iq h w = some ws) (e2 : ws.mapM (pd h 19) = some ds) : Dp K H v (.list ds) ∨ Dp K H v (.tuple ds) := by
  obtain ⟨a, vs, e3, e4, e5⟩ := iq_ok g r e
  subst e3
  have := dpAll (pd_dp g 19) e2 e5
  rcases e4 with e4 | e4
  · exact .inl (.lst e4 this)
  · exact .inr (.tup e4 this)
theorem w_in {neg : Bool} : OpW K mg (rInP K neg) (oIn neg) := fun F ρ h H x y a b w h' Q g ra rb e q => by
  obtain ⟨d, e1, e⟩ := bind_some e
  obtain ⟨ws, e2, e⟩ := bind_some e
  obtain ⟨ds, e3, e⟩ := bind_some e
  cases e
  obtain ⟨p1, q1⟩ := pd_plain 20 a d e1
  exact ⟨d, ds, pd_dp g 20 a x d e1 ra, iq_pd g rb e2 e3, p1, (plainAll_of (pd_plain 19) e3).1, Nat.le_trans q1 (by decide), q.here g (.bl _)⟩
/-! ### slices -/
abbrev MOpt := Sw → Hm → Option (Option Int × Hm)
def tO (K : PySem.W.Frag) (mg : Str → Option Value) (m : MOpt) : TO := fun σ H Q => ∃ F ρ h sw o h', Good K mg F ρ h H ∧ RS K mg F ρ H sw σ ∧ m sw h = some (o, h') ∧ FutT K mg F ρ h H h' (Q o)
abbrev GO (X : Cx) (e : Option Expr) (m : MOpt) : Prop := PO X e (tO X.K X.mg m)
def mNo : MOpt := fun _ h => some (none, h)
def mPart (m : ME) : MOpt := fun sw h => (m sw h).bind fun p => match p.1 with
  | .int i => some (some i, p.2)
  | _ => none
theorem le_O {e : Option Expr} {t t' : TO} (p : PO X e t) (l : ∀ σ H Q, t' σ H Q → t σ H Q) : PO X e t' := ⟨fun pins s σ H Q I h => p.run pins s σ H Q I (l σ H Q h)⟩
theorem go_no : GO X none mNo := le_O po_none fun σ H Q ⟨F, ρ, h, sw, o, h', g, rs, e, q⟩ => by cases e; exact q F ρ H .refl g
theorem go_some {e : Expr} {m : ME} (he : GE X e m) : GO X (some e) (mPart m) := le_O (po_some he) fun σ H Q ⟨F, ρ, h, sw, o, h', g, rs, e, q⟩ => by
  obtain ⟨⟨w, h1⟩, ea, e⟩ := bind_some e
  refine ⟨F, ρ, h, sw, w, h1, g, rs, ea, fun F1 ρ1 H1 v x1 g1 r1 => ?_⟩
  cases r1 with
  | int i => cases e; exact ⟨i, rfl, q F1 ρ1 H1 x1 g1⟩
  | _ => cases e
def cutW (ws : List W) (lo hi : Option Int) : List W := (ws.drop (HT.sIx ws.length 0 lo)).take (HT.sIx ws.length ws.length hi - HT.sIx ws.length 0 lo)
theorem cut_rv {F : Addr → Prop} {ρ : List Addr} {H : Hp} {ws : List W} {vs : List V} (r : RVs K mg F ρ H ws vs) (lo hi : Option Int) : RVs K mg F ρ H (cutW ws lo hi) (cutV vs lo hi) := by
  unfold cutW cutV
  rw [r.length]
  exact (r.drop _).take _
def oSl (own : Bool) (w : W) (lo hi : Option Int) (h : Hm) : Option (W × Hm) := match w with
  | .tup ws => some (.tup (cutW ws lo hi), h)
  | w => (sq h w).bind fun ws => some (mk own (cutW ws lo hi) h)
def mSl (own : Bool) (m : ME) (ml mh : MOpt) : ME := fun sw h => (m sw h).bind fun p => (ml sw p.2).bind fun l => (mh sw l.2).bind fun u => oSl own p.1 l.1 u.1 u.2
theorem ge_slice (own : Bool) {e : Expr} {lo hi : Option Expr} {p2 pos : Pos} {m : ME} {ml mh : MOpt} (he : GE X e m) (hl : GO X lo ml) (hh : GO X hi mh) : GE X (.Subscript e (.Slice lo hi none p2) pos) (mSl own m ml mh) := le_E (pe_slice (SlR.or sl_tupA sl_list) he hl hh) fun σ H Q ⟨F, ρ, h, sw, w', h', g, rs, e, q⟩ => by
  obtain ⟨⟨w, h1⟩, e1, e⟩ := bind_some e
  obtain ⟨⟨l, h2⟩, e2, e⟩ := bind_some e
  obtain ⟨⟨u, h3⟩, e3, e⟩ := bind_some e
  refine ⟨F, ρ, h, sw, w, h1, g, rs, e1, fun F1 ρ1 H1 v x1 g1 r1 => ?_⟩
  refine ⟨F1, ρ1, h1, sw, l, h2, g1, x1.rs g rs, e2, fun F2 ρ2 H2 x2 g2 => ?_⟩
  refine ⟨F2, ρ2, h2, sw, u, h3, g2, (x1.trans x2).rs g rs, e3, fun F3 ρ3 H3 x3 g3 => ?_⟩
  have r3 := (x2.trans x3).rv g1 r1
  have q3 := q.step ((x1.trans x2).trans x3)
  have seq : ∀ {ws : List W} {a : Addr} {vs : List V}, RVs X.K X.mg F3 ρ3 H3 ws vs → SqL X.K H3 a vs → some (mk own (cutW ws l u) h3) = some (w', h') → rSlL X.K (.ref a) l u H3 Q := fun {ws a vs} r s e => by
    have e : mk own (cutW ws l u) h3 = (w', h') := Option.some.inj e
    exact ⟨a, vs, rfl, s, new_lst own g3 (cut_rv r l u) (by rw [e]; exact q3)⟩
  cases r3 with
  | @tup a vs ws ta tb =>
    cases e
    refine .inl ⟨a, vs, rfl, ta, fun hw => ?_, fun _ => new_tup g3 (cut_rv tb l u) q3⟩
    have : cutW ws l u = ws := by
      unfold cutW
      rw [tb.length, hw.1, hw.2, List.drop_zero, Nat.sub_zero, ← tb.length, List.take_length]
    rw [this] at q3
    exact q3.here g3 (.tup ta tb)
  | fl f ta tb => exact .inr (seq tb (.inl (.inl ta)) e)
  | ro ta tb => exact .inr (seq tb ta.sq e)
  | loc ea =>
    obtain ⟨ws, e4, e5⟩ := bind_some (show (sq h3 (.loc _)).bind (fun ws => some (mk own (cutW ws l u) h3)) = some (w', h') from e)
    obtain ⟨a, vs, e6, e7, e8⟩ := sq_ok g3 (.loc ea) e4
    rw [e6]
    exact .inr (seq e8 e7 e5)
  | _ => cases e
/-! ### e[::-1] -/
theorem adjust_back (n : Nat) : Builtin.Slice.sliceAdjust none none (-1) (n : Int) = ((n : Int) - 1, -1) := by
  unfold Builtin.Slice.sliceAdjust
  simp
theorem places_back (n : Nat) : Builtin.Slice.slicePlaces ((n : Int) - 1) (-1) (-1) = n := by
  unfold Builtin.Slice.slicePlaces
  have h1 : ¬ ((-1 : Int) > 0) := by omega
  simp only [h1, if_false]
  split
  · have : ((n : Int) - 1 - -1 - 1) / - -1 + 1 = n := by
      have e : (- -1 : Int) = 1 := rfl
      rw [e, Int.ediv_one]; omega
    rw [this]; simp
  · have : n = 0 := by omega
    subst this; rfl
theorem pick_back (xs : Array Value) : ((List.range xs.size).filterMap fun (m : Nat) => xs[(((xs.size : Nat) : Int) - 1 + (m : Int) * (-1)).toNat]?).toArray = xs.toList.reverse.toArray := by
  have e1 : (List.range xs.size).filterMap (fun (m : Nat) => xs[(((xs.size : Nat) : Int) - 1 + (m : Int) * (-1)).toNat]?) = ((List.range xs.size).map fun k => xs.size - 1 - k).filterMap (xs[·]?) := by
    rw [List.filterMap_map]
    congr 1
    funext m
    show _ = xs[xs.size - 1 - m]?
    have : (((xs.size : Nat) : Int) - 1 + (m : Int) * (-1)).toNat = xs.size - 1 - m := by omega
    rw [this]
  rw [e1, PySem.W.krv_range, List.filterMap_reverse, PySem.W.krv_all]
theorem getItem_tup_back {prog : Program} {w : World} {A : Around} {E : Value → Shared → Prop} {s : Shared} {t sl : Addr} {items : Array Value} {vs : Value} {Q : Value → Shared → Prop} (ht : IsTup s.heap t items) (hs : s.heap.IsSliceOf sl .none .none vs) (ps : IsPart vs (some (-1)))
    (h : Q (.ref s.heap.objs.size) { s with heap := s.heap.push { cls := .type "tuple", data := .seq items.toList.reverse.toArray } }) (hsz : items.size ≤ sizeLine) : wpAny (model prog w) A (getItem (.ref t) (.ref sl)) Q E s := by
  have hlen : sizeOk (.seq items.toList.reverse.toArray) := by
    show items.toList.reverse.toArray.size ≤ sizeLine
    simpa using hsz
  obtain ⟨os, hos, hcs, hds⟩ := id hs
  have hTs : s.TypeIs (.ref sl) "slice" := ⟨os, hos, hcs⟩
  unfold getItem
  try with_reducible refine wpAny_holding ?_
  first | refine wpAny_bind (wpAny_pure ?_) | skip
  refine wpAny_bind (wpAny_sequenceKey ht.typeIs (by decide) ?_)
  refine wpAny_bind (wpAny_callSpecial?_slot (name := Str.ofString "__getitem__") ht.typeIs PyProof.Rows.slot_tuple_getitem (wpAny_call_entry PyProof.Rows.slot_tuple_getitem ht.typeIs entry_tuple_getitem ?_ (args_tuple_getitem _ _)))
  show wpAny _ _ (Builtin.Tuple.tupleItemsOf (.ref t) >>= _) _ _ s
  refine wpAny_bind (tupleItemsOf_ ht ?_)
  refine wpAny_bind (wpAny_typeOf hTs ?_)
  rw [if_pos (by decide)]
  have sa : ∀ Q2 : Int × Int × Nat → Shared → Prop, ∀ A2 : Around, ∀ E2 : Value → Shared → Prop, Q2 ((items.size : Int) - 1, -1, items.size) s → wpAny (model prog w) A2 (Builtin.Slice.sliceApplied (.ref sl) (pure (items.size : Int))) Q2 E2 s := fun Q2 A2 E2 q => by
    unfold Builtin.Slice.sliceApplied Builtin.Slice.sliceFields
    refine wpAny_bind (wpAny_bind (wpAny_field hos hds (x := .none) rfl (wpAny_bind (wpAny_field hos hds (x := .none) rfl (wpAny_bind (wpAny_field hos hds (x := vs) rfl (wpAny_pure ?_)))))))
    refine wpAny_bind (HT.slicePart_ ps ?_)
    show wpAny _ _ (if ((-1 : Int) == 0) = true then _ else _) _ _ s
    rw [if_neg (by decide)]
    refine wpAny_bind (slicePart_none (wpAny_bind (slicePart_none (wpAny_bind (wpAny_pure ?_)))))
    show wpAny _ _ (match Builtin.Slice.sliceAdjust none none (-1) (items.size : Int) with | (lo, hi) => pure (lo, (-1 : Int), Builtin.Slice.slicePlaces lo hi (-1))) _ _ s
    rw [adjust_back]
    show wpAny _ _ (pure ((items.size : Int) - 1, (-1 : Int), Builtin.Slice.slicePlaces ((items.size : Int) - 1) (-1) (-1))) _ _ s
    rw [places_back]
    exact wpAny_pure q
  refine wpAny_bind (sa _ _ _ ?_)
  show wpAny _ _ (if ((items.size : Int) - 1 == 0 && (-1 : Int) == 1 && items.size == items.size) = true then _ else _) _ _ s
  have hno : ¬ (((items.size : Int) - 1 == 0 && (-1 : Int) == 1 && items.size == items.size) = true) := by simp
  rw [if_neg hno, pick_back]
  first
    | exact wpAny_bind (m := Builtin.Tuple.tupleExact _) (wpAny_newObj_type (wpAny_pure ⟨_, rfl, wpAny_pure h⟩) hlen)
    | exact wpAny_bind (m := Builtin.Tuple.tupleExact _) (wpAny_newObj_type (wpAny_bind (wpAny_pure (wpAny_pure ⟨_, rfl, wpAny_pure h⟩))) hlen)
    | exact wpAny_bind (wpAny_bind (m := Builtin.Tuple.tupleExact _) (wpAny_newObj_type (wpAny_pure (wpAny_pure ⟨_, rfl, wpAny_pure h⟩)) hlen))
    | exact wpAny_bind (wpAny_bind (m := Builtin.Tuple.tupleExact _) (wpAny_newObj_type (wpAny_pure ⟨_, rfl, wpAny_pure h⟩) hlen))
def tRevA (K : PySem.W.Frag) (te : TE) : TE := fun σ H Q => te σ H fun x H1 => ∃ a xs, x = .ref a ∧ ((SqL K H1 a xs ∧ ∀ p, H1 p = none → Q (.ref p) (upd H1 p (.lst xs.reverse))) ∨ (SqT K H1 a xs ∧ ∀ p, H1 p = none → Q (.ref p) (upd H1 p (.tup xs.reverse))))
theorem pe_revA {e : Expr} {te : TE} {k : Nat} {p1 p2 p3 pos : Pos} (he : PE X e te) : PE X (.Subscript e (.Slice none none (some (.UnaryOp .USub (.Constant (.int 1) k p1) p2)) p3) pos) (tRevA X.K te) := by
  refine ⟨fun pins s σ H Q I h => ?_⟩
  refine Subscript_ (thn (he.run pins s σ H _ I h) fun v s1 ⟨x, H1, I1, r1, q1⟩ => ?_)
  obtain ⟨a, xs, ex, q⟩ := q1
  subst ex
  cases r1
  have hst : PO X (some (.UnaryOp .USub (.Constant (.int 1) k p1) p2)) (tPart (tUn (rU fun i => .int (-i)) (tC (.int 1)))) := po_some (pe_un un_neg pe_int)
  refine wpAny_Slice (thn (po_none.run pins s1 σ H1 (fun o H2 => o = none ∧ H2 = H1) I1 ⟨rfl, rfl⟩) fun vl s2 ⟨l, H2, I2, pl, el, e2⟩ => ?_)
  subst el e2
  refine thn (po_none.run pins s2 σ H2 (fun o H3 => o = none ∧ H3 = H2) I2 ⟨rfl, rfl⟩) fun vu s3 ⟨u, H3, I3, pu, eu, e3⟩ => ?_
  subst eu e3
  refine thn (hst.run pins s3 σ H3 (fun o H4 => o = some (-1) ∧ H4 = H3) I3 ⟨1, rfl, -1, rfl, rfl, rfl⟩) fun vs s4 ⟨o, H4, I4, ps, eo, e4⟩ => ?_
  subst eo e4
  have I5 : Inv X pins σ H4 { s4 with heap := s4.heap.push { cls := .type "slice", data := .fields #[vl, vu, vs] } } := I4.kept (t' := s4.toks) fun b ob q => Heap.get?_push_of_some _ q
  show wpAny (model X.prog X.w) X.A (subscriptTail e (.Slice none none (some (.UnaryOp .USub (.Constant (.int 1) k p1) p2)) p3) (.ref a) (.ref s4.heap.objs.size)) (EP X pins σ Q) X.xe { s4 with heap := s4.heap.push { cls := .type "slice", data := .fields #[vl, vu, vs] } }
  rcases q with ⟨hx, q⟩ | ⟨hx, q⟩
  · obtain ⟨its, r, ht, hz⟩ := I5.list hx
    have hlen := r.length
    refine tail_any (ops := [.ref a, .ref s4.heap.objs.size]) ht.isList.typeIs (PySem.slot_list_getitem.lookup) ?_ (by with_unfolding_all rfl)
    refine wpAny_getItem_list_slice ht.isList (Heap.IsSliceOf.new _ vl vu vs) pl pu ps (by decide) ?_ (by rw [List.size_toArray]; omega)
    rw [PySem.W.krv_pick]
    refine ⟨.ref _, _, I5.laid (t' := s4.toks) (o := .lst xs.reverse) (fun b ob q => Heap.get?_push_of_some _ q) (Nat.le_refl _) ?_, rfl, q _ (I5.hok.fresh (Nat.le_refl _))⟩
    exact ⟨by rw [List.length_reverse]; exact hz, _, 0, r.reverse, Heap.get?_push_size _ rfl⟩
  · obtain ⟨its, r, ht, hz⟩ := I5.tuple hx
    have hlen := r.length
    refine tail_any (ops := [.ref a, .ref s4.heap.objs.size]) ht.typeIs (PyProof.Rows.slot_tuple_getitem.lookup) ?_ (by with_unfolding_all rfl)
    cases pl
    cases pu
    refine getItem_tup_back ht (Heap.IsSliceOf.new _ .none .none vs) ps ?_ (by rw [List.size_toArray]; omega)
    refine ⟨.ref _, _, I5.laid (t' := s4.toks) (o := .tup xs.reverse) (fun b ob q => Heap.get?_push_of_some _ q) (Nat.le_refl _) ?_, rfl, q _ (I5.hok.fresh (Nat.le_refl _))⟩
    exact ⟨by rw [List.length_reverse]; exact hz, _, by simpa using r.reverse, IsTup.new _ _⟩
def oRev (own : Bool) (w : W) (h : Hm) : Option (W × Hm) := match w with
  | .tup ws => some (.tup ws.reverse, h)
  | w => (sq h w).bind fun ws => some (mk own ws.reverse h)
def mRev (own : Bool) (m : ME) : ME := fun sw h => (m sw h).bind fun p => oRev own p.1 p.2
theorem ge_rev (own : Bool) {e : Expr} {m : ME} {k : Nat} {p1 p2 p3 pos : Pos} (he : GE X e m) : GE X (.Subscript e (.Slice none none (some (.UnaryOp .USub (.Constant (.int 1) k p1) p2)) p3) pos) (mRev own m) := le_E (pe_revA he) fun σ H Q ⟨F, ρ, h, sw, w', h', g, rs, e, q⟩ => by
  obtain ⟨⟨w, h1⟩, e1, e⟩ := bind_some e
  refine ⟨F, ρ, h, sw, w, h1, g, rs, e1, fun F1 ρ1 H1 v x1 g1 r1 => ?_⟩
  have q1 := q.step x1
  have seq : ∀ {ws : List W} {vs : List V}, RVs X.K X.mg F1 ρ1 H1 ws vs → some (mk own ws.reverse h1) = some (w', h') → ∀ p, H1 p = none → Q (.ref p) (upd H1 p (.lst vs.reverse)) := fun {ws vs} r e => by
    have e : mk own ws.reverse h1 = (w', h') := Option.some.inj e
    exact new_lst own g1 r.reverse (by rw [e]; exact q1)
  cases r1 with
  | @tup a vs ws ta tb =>
    cases e
    exact ⟨a, vs, rfl, .inr ⟨ta, new_tup g1 tb.reverse q1⟩⟩
  | fl f ta tb => exact ⟨_, _, rfl, .inl ⟨.inl (.inl ta), seq tb e⟩⟩
  | ro ta tb => exact ⟨_, _, rfl, .inl ⟨ta.sq, seq tb e⟩⟩
  | loc ea =>
    obtain ⟨ws, e4, e5⟩ := bind_some (show (sq h1 (.loc _)).bind (fun ws => some (mk own ws.reverse h1)) = some (w', h') from e)
    obtain ⟨a, vs, e6, e7, e8⟩ := sq_ok g1 (.loc ea) e4
    exact ⟨a, vs, e6, .inl ⟨e7, seq e8 e5⟩⟩
  | _ => cases e
end
end G

set_option Elab.async false
set_option linter.all false
set_option maxRecDepth 100000
set_option maxHeartbeats 4000000
namespace G
open PySem PySem.Spec PyProof.Rows L2
section
variable {X : Cx} {K : PySem.W.Frag} {mg : Str → Option Value}
/-! ### built-ins of one list of ints, of truth values -/
def intsW : List W → Option (List Int) := List.mapM intW
theorem ints_vs {F : Addr → Prop} {ρ : List Addr} {H : Hp} {ws : List W} {is : List Int} {vs : List V} (e : intsW ws = some is) (r : RVs K mg F ρ H ws vs) : vs = is.map V.int := ints_of e r
def blW : W → Option Bool
  | .bl b => some b
  | _ => none
theorem bls_vs {F : Addr → Prop} {ρ : List Addr} {H : Hp} : ∀ {ws : List W} {bs : List Bool} {vs : List V}, ws.mapM blW = some bs → RVs K mg F ρ H ws vs → vs = bs.map V.bl
  | [], _, _, e, .nil => by
    have e : some [] = some _ := e
    cases e; rfl
  | w :: ws, _, _, e, .cons a b => by
    obtain ⟨u, us', e1, e2, rfl⟩ := mapM_cons' e
    rw [bls_vs e2 b]
    cases a with
    | bl j => cases e1; rfl
    | _ => cases e1
def o1 (f : W → Hm → Option W) : MO := fun ws h => match ws with
  | [w] => (f w h).map fun u => (u, h)
  | _ => none
def fSum (w : W) (h : Hm) : Option W := (sq h w).bind fun ws => (intsW ws).map fun is => .int is.sum
def maxI : List Int → Option Int
  | [] => none
  | i :: is => some (is.foldl (fun a b => if a < b then b else a) i)
def minI : List Int → Option Int
  | [] => none
  | i :: is => some (is.foldl (fun a b => if b < a then b else a) i)
def fMax (w : W) (h : Hm) : Option W := (sq h w).bind fun ws => (intsW ws).bind fun is => (maxI is).map .int
def fMin (w : W) (h : Hm) : Option W := (sq h w).bind fun ws => (intsW ws).bind fun is => (minI is).map .int
def fAll (w : W) (h : Hm) : Option W := (sq h w).bind fun ws => (ws.mapM blW).map fun bs => .bl (bs.all id)
def fAny (w : W) (h : Hm) : Option W := (sq h w).bind fun ws => (ws.mapM blW).map fun bs => .bl (bs.any id)
theorem foldMax : ∀ (is : List Int) (i : Int), (is.foldl (fun a b => if a < b then b else a) i) ∈ i :: is ∧ ∀ y ∈ i :: is, y ≤ is.foldl (fun a b => if a < b then b else a) i
  | [], i => ⟨by simp, fun y hy => by simp at hy; subst hy; exact Int.le_refl _⟩
  | j :: is, i => by
    obtain ⟨a, b⟩ := foldMax is (if i < j then j else i)
    refine ⟨?_, fun y hy => ?_⟩
    · show is.foldl _ (if i < j then j else i) ∈ _
      rcases List.mem_cons.mp a with h | h
      · rw [h]; split <;> simp
      · exact List.mem_cons_of_mem _ (List.mem_cons_of_mem _ h)
    · show y ≤ is.foldl _ (if i < j then j else i)
      have hi := b (if i < j then j else i) (by simp)
      rcases List.mem_cons.mp hy with rfl | hy
      · split at hi <;> split <;> omega
      · rcases List.mem_cons.mp hy with rfl | hy
        · split at hi <;> split <;> omega
        · exact b y (List.mem_cons_of_mem _ hy)
theorem foldMin : ∀ (is : List Int) (i : Int), (is.foldl (fun a b => if b < a then b else a) i) ∈ i :: is ∧ ∀ y ∈ i :: is, is.foldl (fun a b => if b < a then b else a) i ≤ y
  | [], i => ⟨by simp, fun y hy => by simp at hy; subst hy; exact Int.le_refl _⟩
  | j :: is, i => by
    obtain ⟨a, b⟩ := foldMin is (if j < i then j else i)
    refine ⟨?_, fun y hy => ?_⟩
    · show is.foldl _ (if j < i then j else i) ∈ _
      rcases List.mem_cons.mp a with h | h
      · rw [h]; split <;> simp
      · exact List.mem_cons_of_mem _ (List.mem_cons_of_mem _ h)
    · show is.foldl _ (if j < i then j else i) ≤ y
      have hi := b (if j < i then j else i) (by simp)
      rcases List.mem_cons.mp hy with rfl | hy
      · split at hi <;> split <;> omega
      · rcases List.mem_cons.mp hy with rfl | hy
        · split at hi <;> split <;> omega
        · exact b y (List.mem_cons_of_mem _ hy)
theorem w_sum : CW K mg (rSum K) (o1 fSum) := fun F ρ h H xs as w h' Q g r e q => by
  match as, r, e with
  | [], .nil, e => cases e
  | _ :: _ :: _, _, e => cases e
  | [a], .cons ra .nil, e =>
    obtain ⟨u, e1, e2⟩ := Option.map_eq_some_iff.mp (show (fSum a h).map (fun u => (u, h)) = some (w, h') from e)
    cases e2
    obtain ⟨ws, e3, e1⟩ := bind_some e1
    obtain ⟨is, e4, e5⟩ := Option.map_eq_some_iff.mp e1
    subst e5
    obtain ⟨p, vs, e6, e7, e8⟩ := sq_ok g ra e3
    exact ⟨p, is, by rw [e6], by rw [← ints_vs e4 e8]; exact e7, q.here g (.int _)⟩
theorem maxI_ok {is : List Int} {m : Int} (e : maxI is = some m) : m ∈ is ∧ ∀ y ∈ is, y ≤ m := by
  cases is with
  | nil => cases e
  | cons i is => cases e; exact foldMax is i
theorem minI_ok {is : List Int} {m : Int} (e : minI is = some m) : m ∈ is ∧ ∀ y ∈ is, m ≤ y := by
  cases is with
  | nil => cases e
  | cons i is => cases e; exact foldMin is i
theorem w_max : CW K mg (rMax K) (o1 fMax) := fun F ρ h H xs as w h' Q g r e q => by
  match as, r, e with
  | [], .nil, e => cases e
  | _ :: _ :: _, _, e => cases e
  | [a], .cons ra .nil, e =>
    obtain ⟨u, e1, e2⟩ := Option.map_eq_some_iff.mp (show (fMax a h).map (fun u => (u, h)) = some (w, h') from e)
    cases e2
    obtain ⟨ws, e3, e1⟩ := bind_some e1
    obtain ⟨is, e4, e1⟩ := bind_some e1
    obtain ⟨m, e9, e5⟩ := Option.map_eq_some_iff.mp e1
    subst e5
    obtain ⟨p, vs, e6, e7, e8⟩ := sq_ok g ra e3
    obtain ⟨m1, m2⟩ := maxI_ok e9
    refine ⟨p, is, by rw [e6], by rw [← ints_vs e4 e8]; exact e7, List.length_pos_of_mem m1, fun m' h1 h2 => ?_⟩
    have : m' = m := by have a := h2 m m1; have b := m2 m' h1; omega
    rw [this]
    exact q.here g (.int _)
theorem w_min : CW K mg (rMin K) (o1 fMin) := fun F ρ h H xs as w h' Q g r e q => by
  match as, r, e with
  | [], .nil, e => cases e
  | _ :: _ :: _, _, e => cases e
  | [a], .cons ra .nil, e =>
    obtain ⟨u, e1, e2⟩ := Option.map_eq_some_iff.mp (show (fMin a h).map (fun u => (u, h)) = some (w, h') from e)
    cases e2
    obtain ⟨ws, e3, e1⟩ := bind_some e1
    obtain ⟨is, e4, e1⟩ := bind_some e1
    obtain ⟨m, e9, e5⟩ := Option.map_eq_some_iff.mp e1
    subst e5
    obtain ⟨p, vs, e6, e7, e8⟩ := sq_ok g ra e3
    obtain ⟨m1, m2⟩ := minI_ok e9
    refine ⟨p, is, by rw [e6], by rw [← ints_vs e4 e8]; exact e7, List.length_pos_of_mem m1, fun m' h1 h2 => ?_⟩
    have : m' = m := by have a := h2 m m1; have b := m2 m' h1; omega
    rw [this]
    exact q.here g (.int _)
theorem w_all : CW K mg (rAll K) (o1 fAll) := fun F ρ h H xs as w h' Q g r e q => by
  match as, r, e with
  | [], .nil, e => cases e
  | _ :: _ :: _, _, e => cases e
  | [a], .cons ra .nil, e =>
    obtain ⟨u, e1, e2⟩ := Option.map_eq_some_iff.mp (show (fAll a h).map (fun u => (u, h)) = some (w, h') from e)
    cases e2
    obtain ⟨ws, e3, e1⟩ := bind_some e1
    obtain ⟨is, e4, e5⟩ := Option.map_eq_some_iff.mp e1
    subst e5
    obtain ⟨p, vs, e6, e7, e8⟩ := sq_ok g ra e3
    exact ⟨p, is, by rw [e6], by rw [← bls_vs e4 e8]; exact e7, q.here g (.bl _)⟩
theorem w_any : CW K mg (rAny K) (o1 fAny) := fun F ρ h H xs as w h' Q g r e q => by
  match as, r, e with
  | [], .nil, e => cases e
  | _ :: _ :: _, _, e => cases e
  | [a], .cons ra .nil, e =>
    obtain ⟨u, e1, e2⟩ := Option.map_eq_some_iff.mp (show (fAny a h).map (fun u => (u, h)) = some (w, h') from e)
    cases e2
    obtain ⟨ws, e3, e1⟩ := bind_some e1
    obtain ⟨is, e4, e5⟩ := Option.map_eq_some_iff.mp e1
    subst e5
    obtain ⟨p, vs, e6, e7, e8⟩ := sq_ok g ra e3
    exact ⟨p, is, by rw [e6], by rw [← bls_vs e4 e8]; exact e7, q.here g (.bl _)⟩
/-! ### built-ins of ints -/
def oAbs : MO := fun ws h => match ws with
  | [.int i] => some (.int (if i < 0 then -i else i), h)
  | _ => none
theorem w_abs : CW K mg (fun xs H Q => ∃ i, xs = [.int i] ∧ Q (.int (if i < 0 then -i else i)) H) oAbs := fun F ρ h H xs as w h' Q g r e q => by
  match as, r, e with
  | [.int i], .cons (.int _) .nil, e => cases e; exact ⟨i, rfl, q.here g (.int _)⟩
def oInt : MO := fun ws h => match ws with
  | [.int i] => some (.int i, h)
  | [.bl b] => some (.int (if b then 1 else 0), h)
  | _ => none
theorem w_int : CW K mg (fun xs H Q => (∃ i, xs = [.int i] ∧ Q (.int i) H) ∨ ∃ k, xs = [.bl k] ∧ Q (.int (if k then 1 else 0)) H) oInt := fun F ρ h H xs as w h' Q g r e q => by
  match as, r, e with
  | [.int i], .cons (.int _) .nil, e => cases e; exact .inl ⟨i, rfl, q.here g (.int _)⟩
  | [.bl b], .cons (.bl _) .nil, e => cases e; exact .inr ⟨b, rfl, q.here g (.int _)⟩
def oMax2 : MO := fun ws h => match ws with
  | [.int i, .int j] => some (.int (if j > i then j else i), h)
  | _ => none
def oMin2 : MO := fun ws h => match ws with
  | [.int i, .int j] => some (.int (if j < i then j else i), h)
  | _ => none
theorem w_max2 : CW K mg (fun xs H Q => ∃ i j, xs = [.int i, .int j] ∧ Q (.int (if j > i then j else i)) H) oMax2 := fun F ρ h H xs as w h' Q g r e q => by
  match as, r, e with
  | [.int i, .int j], .cons (.int _) (.cons (.int _) .nil), e => cases e; exact ⟨i, j, rfl, q.here g (.int _)⟩
theorem w_min2 : CW K mg (fun xs H Q => ∃ i j, xs = [.int i, .int j] ∧ Q (.int (if j < i then j else i)) H) oMin2 := fun F ρ h H xs as w h' Q g r e q => by
  match as, r, e with
  | [.int i, .int j], .cons (.int _) (.cons (.int _) .nil), e => cases e; exact ⟨i, j, rfl, q.here g (.int _)⟩
def oDivmod : MO := fun ws h => match ws with
  | [.int i, .int j] => if 0 < j ∧ j < 1073741824 then some (.tup [.int (i / j), .int (i % j)], h) else none
  | _ => none
theorem w_divmod : CW K mg (fun xs H Q => ∃ i j, xs = [.int i, .int j] ∧ CDiv i j ∧ ∀ p, H p = none → Q (.ref p) (upd H p (.tup [.int (i / j), .int (i % j)]))) oDivmod := fun F ρ h H xs as w h' Q g r e q => by
  match as, r, e with
  | [.int i, .int j], .cons (.int _) (.cons (.int _) .nil), e =>
    have e : (if 0 < j ∧ j < 1073741824 then some (W.tup [.int (i / j), .int (i % j)], h) else none) = some (w, h') := e
    split at e
    · rename_i hc
      cases e
      exact ⟨i, j, rfl, hc, new_tup g (.cons (.int _) (.cons (.int _) .nil)) q⟩
    · cases e
/-- calls of built-ins and of types -/
theorem ge_blt {id : String} {r : List V → Hp → VK → Prop} {o : MO} {ma : MA} {x : Str} {p pos : Pos} {e : Expr} {es : List Expr} (hc : CallR X (.builtin id) r) (w : CW X.K X.mg r o) (hg : Gl X x) (hm : X.mg x = none) (hv : bootBuiltins x = some (.builtin id)) (ha : GA X (e :: es) ma)
    (hn : x ≠ "__name__" := by decide) (hdb : (x == ("__debug__" : Str)) = false := by decide) (he : starEach (e :: es) X.env = (false, eval e X.env) :: starEach es X.env := by rfl) (hpl : (backTo pos (starEach es X.env)).any (·.1) = false := by rfl) :
    GE X (.Call (.Name x p) (e :: es) [] pos) (mApp o ma) := le_E (pe_callB hc hg hm hv ha hn hdb he hpl) (t_app w)
theorem ge_ty {T : String} {r : List V → Hp → VK → Prop} {o : MO} {ma : MA} {x : Str} {p pos : Pos} {e : Expr} {es : List Expr} (hc : CallR X (.type T) r) (w : CW X.K X.mg r o) (hg : Gl X x) (hm : X.mg x = none) (hv : bootBuiltins x = some (.type T)) (ha : GA X (e :: es) ma)
    (hn : x ≠ "__name__" := by decide) (hdb : (x == ("__debug__" : Str)) = false := by decide) (he : starEach (e :: es) X.env = (false, eval e X.env) :: starEach es X.env := by rfl) (hpl : (backTo pos (starEach es X.env)).any (·.1) = false := by rfl) :
    GE X (.Call (.Name x p) (e :: es) [] pos) (mApp o ma) := le_E (pe_callTy hc hg hm hv ha hn hdb he hpl) (t_app w)
/-! ### isinstance -/
def tyW : W → Option String
  | .non => some "NoneType"
  | .bl _ => some "bool"
  | .int _ => some "int"
  | .str _ => some "str"
  | .tup _ => some "tuple"
  | .fl _ => some "list"
  | .ro _ => none
  | .loc _ => some "list"
  | .fn _ => none
theorem tyW_ok {F : Addr → Prop} {ρ : List Addr} {h : Hm} {H : Hp} (g : Good K mg F ρ h H) {w : W} {v : V} {t : String} (e : tyW w = some t) (hl : ∀ n, w = .loc n → ∃ ws, hl h n = some ws) (r : RV K mg F ρ H w v) : TyX K H v (.type t) := by
  cases r with
  | non => cases e; exact .base .non
  | bl b => cases e; exact .base (.bl b)
  | int b => cases e; exact .base (.int b)
  | str b => cases e; exact .base (.str b)
  | tup a b =>
    cases e
    rcases a with (a | ⟨o, a⟩) | ⟨o, its, n, a, c, _⟩
    · exact .base (.tup a)
    · exact .fTuple a
    · exact .kTuple a c
  | fl f a b => cases e; exact .base (.lst a)
  | ro a b => cases e
  | loc ea =>
    cases e
    obtain ⟨ws, e0⟩ := hl _ rfl
    obtain ⟨a', vs, ea', nf, eH, rs, lv⟩ := g.at (hl_eq e0)
    rw [ea] at ea'; cases ea'
    exact .base (.lst eH)
  | fn a => cases e
def tyN (h : Hm) (w : W) : Option String := match w with
  | .loc n => (hl h n).map fun _ => "list"
  | w => tyW w
theorem tyN_ok {F : Addr → Prop} {ρ : List Addr} {h : Hm} {H : Hp} (g : Good K mg F ρ h H) {w : W} {v : V} {t : String} (e : tyN h w = some t) (r : RV K mg F ρ H w v) : TyX K H v (.type t) := by
  cases w with
  | loc n =>
    obtain ⟨ws, e1, e2⟩ := Option.map_eq_some_iff.mp (show (hl h n).map (fun _ => "list") = some t from e)
    subst e2
    exact tyW_ok g (w := .loc n) rfl (fun m z => by cases z; exact ⟨ws, e1⟩) r
  | non => exact tyW_ok (w := .non) g e (fun _ z => by cases z) r
  | bl x => exact tyW_ok (w := .bl x) g e (fun _ z => by cases z) r
  | int x => exact tyW_ok (w := .int x) g e (fun _ z => by cases z) r
  | str x => exact tyW_ok (w := .str x) g e (fun _ z => by cases z) r
  | tup x => exact tyW_ok (w := .tup x) g e (fun _ z => by cases z) r
  | fl x => exact tyW_ok (w := .fl x) g e (fun _ z => by cases z) r
  | ro x => exact tyW_ok (w := .ro x) g e (fun _ z => by cases z) r
  | fn x => exact tyW_ok (w := .fn x) g e (fun _ z => by cases z) r
def isT (h : Hm) (T : String) (w : W) : Option Bool := (tyN h w).bind fun t => kitB t T
theorem isT_ok {F : Addr → Prop} {ρ : List Addr} {h : Hm} {H : Hp} (g : Good K mg F ρ h H) {w : W} {v : V} {T : String} {b : Bool} (e : isT h T w = some b) (r : RV K mg F ρ H w v) : ∃ t, tyN h w = some t ∧ TyX K H v (.type t) ∧ kitB t T = some b := by
  obtain ⟨t, e1, e2⟩ := bind_some e
  exact ⟨t, e1, tyN_ok g e1 r, e2⟩
def mIsi (T : String) (m : ME) : ME := fun sw h => (m sw h).bind fun p => (isT p.2 T p.1).map fun b => (.bl b, p.2)
theorem ge_isi {T : String} {xT : Str} {e : Expr} {m : ME} {p p2 pos : Pos} (he : GE X e m) (hg : Gl X "isinstance") (hm : X.mg "isinstance" = none) (hgT : Gl X xT) (hmT : X.mg xT = none) (hvT : bootBuiltins xT = some (.type T)) (hn : xT ≠ "__name__" := by decide) (hdb : (xT == ("__debug__" : Str)) = false := by decide)
    (h1 : starEach [e, .Name xT p2] X.env = (false, eval e X.env) :: starEach [.Name xT p2] X.env := by rfl) (h2 : starEach [.Name xT p2] X.env = (false, eval (.Name xT p2) X.env) :: starEach [] X.env := by rfl) (hpl : (backTo pos (starEach [.Name xT p2] X.env)).any (·.1) = false := by rfl) :
    GE X (.Call (.Name "isinstance" p) [e, .Name xT p2] [] pos) (mIsi T m) :=
  le_E (pe_callB call_isi hg hm boot_isinstance (pa_cons he (pa_cons (pe_bltn (v := .ty T) hgT hmT hvT rfl hn hdb) pa_nil h2) h1) (by decide) (by decide) h1 hpl) fun σ H Q ⟨F, ρ, h, sw, w', h', g, rs, e, q⟩ => by
    obtain ⟨⟨w, h1⟩, e1, e⟩ := bind_some e
    obtain ⟨b, e2, e3⟩ := Option.map_eq_some_iff.mp e
    cases e3
    refine ⟨F, ρ, h, sw, w, h1, g, rs, e1, fun F1 ρ1 H1 v x1 g1 r1 => ?_⟩
    obtain ⟨t, tn, ty, kb⟩ := isT_ok g1 e2 r1
    exact ⟨v, .ty T, _, _, b, rfl, .ty T, ty, kit_ty kb, (q.step x1).here g1 (.bl b)⟩
def mIsi2 (T U : String) (m : ME) : ME := fun sw h => (m sw h).bind fun p => (isT p.2 T p.1).bind fun b => (isT p.2 U p.1).map fun c => (.bl (b || c), p.2)
theorem ge_isi2 {T U : String} {xT xU : Str} {e : Expr} {m : ME} {k : Nat} {p p2 p3 p4 pos : Pos} (he : GE X e m) (hg : Gl X "isinstance") (hm : X.mg "isinstance" = none) (hgT : Gl X xT) (hmT : X.mg xT = none) (hvT : bootBuiltins xT = some (.type T)) (hgU : Gl X xU) (hmU : X.mg xU = none) (hvU : bootBuiltins xU = some (.type U))
    (hn : xT ≠ "__name__" := by decide) (hdb : (xT == ("__debug__" : Str)) = false := by decide) (hn2 : xU ≠ "__name__" := by decide) (hdb2 : (xU == ("__debug__" : Str)) = false := by decide)
    (ht : PE X (.Tuple [.Name xT p2, .Name xU p3] k p4) (tTup (tCons (tC (.ty T)) (tCons (tC (.ty U)) tNil))))
    (h1 : starEach [e, .Tuple [.Name xT p2, .Name xU p3] k p4] X.env = (false, eval e X.env) :: starEach [.Tuple [.Name xT p2, .Name xU p3] k p4] X.env := by rfl) (h2 : starEach [.Tuple [.Name xT p2, .Name xU p3] k p4] X.env = (false, eval (.Tuple [.Name xT p2, .Name xU p3] k p4) X.env) :: starEach [] X.env := by rfl)
    (hpl : (backTo pos (starEach [.Tuple [.Name xT p2, .Name xU p3] k p4] X.env)).any (·.1) = false := by rfl) :
    GE X (.Call (.Name "isinstance" p) [e, .Tuple [.Name xT p2, .Name xU p3] k p4] [] pos) (mIsi2 T U m) :=
  le_E (pe_callB call_isiT hg hm boot_isinstance (pa_cons he (pa_cons ht pa_nil h2) h1) (by decide) (by decide) h1 hpl) fun σ H Q ⟨F, ρ, h, sw, w', h', g, rs, e, q⟩ => by
    obtain ⟨⟨w, h1⟩, e1, e⟩ := bind_some e
    obtain ⟨b, e2, e⟩ := bind_some e
    obtain ⟨c, e3, e4⟩ := Option.map_eq_some_iff.mp e
    cases e4
    refine ⟨F, ρ, h, sw, w, h1, g, rs, e1, fun F1 ρ1 H1 v x1 g1 r1 => ?_⟩
    refine ⟨by show 2 ≤ sizeLine; decide, fun tp np => ?_⟩
    obtain ⟨g2, x2⟩ := g1.upd_new (o := .tup [.ty T, .ty U]) np
    obtain ⟨t, tn, ty, kb⟩ := isT_ok g2 e2 (x2.rv g1 r1)
    obtain ⟨t2, tn2, ty2, kc⟩ := isT_ok g2 e3 (x2.rv g1 r1)
    have et : t = t2 := Option.some.inj (tn.symm.trans tn2)
    subst et
    refine ⟨v, tp, [.ty T, .ty U], .type t, [.type T, .type U], b || c, rfl, upd_same, .cons (.ty T) (.cons (.ty U) .nil), ty, ?_, ((q.step x1).step x2).here g2 (.bl _)⟩
    refine kitAny_cons (kit_ty kb) (fun z => ?_) (fun z => by rw [z]; rfl)
    refine kitAny_cons (kit_ty kc) (fun z2 => ?_) (fun z2 => by rw [z2, Bool.or_true])
    rw [z, z2]
    exact kitAny_nil
end
end G

set_option Elab.async false
set_option linter.all false
set_option maxRecDepth 100000
set_option maxHeartbeats 4000000
namespace G
open PySem PySem.Spec PyProof.Rows L2
section
variable {X : Cx} {K : PySem.W.Frag} {mg : Str → Option Value}
/-! ### a list, a tuple -/
def iAny (K : PySem.W.Frag) (tl : TE) : TI := fun σ H R => tl σ H fun x H1 => ∃ a, x = .ref a ∧ (((∃ xs, SqL K H1 a xs) ∧ R (Itl K a) H1) ∨ ((∃ xs, SqT K H1 a xs) ∧ R (Itt K a) H1))
theorem pi_any {tg l : Expr} {tl : TE} (hl : PE X l tl) : PI X tg l (iAny X.K tl) := by
  refine ⟨fun pins s σ H R I h => ?_⟩
  refine thn (hl.run pins s σ H _ I h) fun v s1 ⟨x, H1, I1, r1, q1⟩ => ?_
  obtain ⟨a, e, q1⟩ := q1
  subst e
  cases r1
  rcases q1 with ⟨⟨xs, hq⟩, q⟩ | ⟨⟨xs, hq⟩, q⟩
  · obtain ⟨its, rv, p, hz⟩ := I1.list hq
    refine wpAny_pyIter_list p.isList ?_
    refine ⟨s1.heap.objs.size, [s1.heap.objs.size], _, _, H1, rfl, I1.kept (t' := s1.toks) fun b o e => Heap.get?_push_of_some _ e, turn_list a _, ⟨_, Heap.get?_push_size _ rfl, rfl, rfl⟩, fun b hb => ?_, q⟩
    have e : b = s1.heap.objs.size := by simpa using hb
    subst e
    exact I1.fpOk (Nat.le_refl _) (I1.hok.fresh (Nat.le_refl _))
  · obtain ⟨its, rv, p, hz⟩ := I1.tuple hq
    refine wpAny_pyIter_tuple (show s1.heap.IsTuple a its.toArray from p) ?_
    refine ⟨s1.heap.objs.size, [s1.heap.objs.size], _, _, H1, rfl, I1.kept (t' := s1.toks) fun b o e => Heap.get?_push_of_some _ e, turn_tuple a _, ⟨_, Heap.get?_push_size _ rfl, rfl, rfl⟩, fun b hb => ?_, q⟩
    have e : b = s1.heap.objs.size := by simpa using hb
    subst e
    exact I1.fpOk (Nat.le_refl _) (I1.hok.fresh (Nat.le_refl _))
/-- what is walked, item by item: a value's items as they stand at each turn -/
def itemsAt (w : W) (h : Hm) : Option (List W) := match w with
  | .tup ws => some ws
  | .fl ws => some ws
  | .ro ws => some ws
  | .loc n => hl h n
  | _ => none
def sIt (w : W) : Src := ⟨fun i h => (itemsAt w h).map fun ws => ws[i]?⟩
def mIt (m : ME) : MI := fun sw h => (m sw h).bind fun p => match p.1 with
  | .tup ws => some (sIt p.1, p.2)
  | .fl ws => some (sIt p.1, p.2)
  | .ro ws => some (sIt p.1, p.2)
  | .loc n => (hl p.2 n).bind fun _ => some (sIt p.1, p.2)
  | _ => none
theorem get_none {F : Addr → Prop} {ρ : List Addr} {H : Hp} {ws : List W} {vs : List V} {i : Nat} (r : RVs K mg F ρ H ws vs) (e : ws[i]? = none) : vs.length ≤ i := by
  rw [← r.length]; exact List.getElem?_eq_none_iff.mp e
theorem src_L {F : Addr → Prop} {ρ : List Addr} {h : Hm} {H : Hp} {w : W} {a : Addr} (hs : ∀ F1 ρ1 h1 H1, Ext F ρ h H F1 ρ1 h1 H1 → Good K mg F1 ρ1 h1 H1 → ∀ ws, itemsAt w h1 = some ws → ∃ vs, SqL K H1 a vs ∧ RVs K mg F1 ρ1 H1 ws vs) : SrcOk K mg F ρ h H (sIt w) (Itl K a) := fun F1 ρ1 h1 H1 i x g => by
  refine ⟨fun e => ?_, fun w' e => ?_⟩
  · obtain ⟨ws, e1, e2⟩ := Option.map_eq_some_iff.mp (show (itemsAt w h1).map (fun ws => ws[i]?) = some none from e)
    obtain ⟨vs, s, r⟩ := hs F1 ρ1 h1 H1 x g ws e1
    exact ⟨vs, s, get_none r e2⟩
  · obtain ⟨ws, e1, e2⟩ := Option.map_eq_some_iff.mp (show (itemsAt w h1).map (fun ws => ws[i]?) = some (some w') from e)
    obtain ⟨vs, s, r⟩ := hs F1 ρ1 h1 H1 x g ws e1
    obtain ⟨v, ev, rv⟩ := r.get e2
    refine ⟨⟨vs, v, s, ev⟩, fun y H2 hy => ?_⟩
    obtain ⟨rfl, hy⟩ := hy
    have : y = v := Option.some.inj ((hy vs s).symm.trans ev)
    subst this
    exact ⟨F1, ρ1, .refl, g, rv⟩
theorem src_T {F : Addr → Prop} {ρ : List Addr} {h : Hm} {H : Hp} {ws : List W} {vs : List V} {a : Addr} (g0 : Good K mg F ρ h H) (s0 : SqT K H a vs) (r0 : RVs K mg F ρ H ws vs) : SrcOk K mg F ρ h H (sIt (.tup ws)) (Itt K a) := fun F1 ρ1 h1 H1 i x g => by
  have s := x.tup g0 s0
  have r := x.rvs g0 r0
  refine ⟨fun e => ?_, fun w' e => ?_⟩
  · have e2 : ws[i]? = none := Option.some.inj e
    exact ⟨vs, s, get_none r e2⟩
  · have e2 : ws[i]? = some w' := Option.some.inj e
    obtain ⟨v, ev, rv⟩ := r.get e2
    refine ⟨⟨vs, v, s, ev⟩, fun y H2 hy => ?_⟩
    obtain ⟨rfl, hy⟩ := hy
    have : y = v := Option.some.inj ((hy vs s).symm.trans ev)
    subst this
    exact ⟨F1, ρ1, .refl, g, rv⟩
theorem stay_fl {F : Addr → Prop} {ρ : List Addr} {h : Hm} {H : Hp} {ws : List W} {vs : List V} {a : Addr} (g0 : Good K mg F ρ h H) (f : F a) (e0 : H a = some (.lst vs)) (r0 : RVs K mg F ρ H ws vs) : ∀ F1 ρ1 h1 H1, Ext F ρ h H F1 ρ1 h1 H1 → Good K mg F1 ρ1 h1 H1 → ∀ us, itemsAt (.fl ws) h1 = some us → ∃ vs, SqL K H1 a vs ∧ RVs K mg F1 ρ1 H1 us vs := fun F1 ρ1 h1 H1 x g us e => by
  cases e
  exact ⟨vs, .inl (.inl (x.keep a _ e0 fun l => (g0.lst l).1 f)), x.rvs g0 r0⟩
theorem stay_ro {F : Addr → Prop} {ρ : List Addr} {h : Hm} {H : Hp} {ws : List W} {vs : List V} {a : Addr} (g0 : Good K mg F ρ h H) (e0 : RoL K H a vs) (r0 : RVs K mg F ρ H ws vs) : ∀ F1 ρ1 h1 H1, Ext F ρ h H F1 ρ1 h1 H1 → Good K mg F1 ρ1 h1 H1 → ∀ us, itemsAt (.ro ws) h1 = some us → ∃ vs, SqL K H1 a vs ∧ RVs K mg F1 ρ1 H1 us vs := fun F1 ρ1 h1 H1 x g us e => by
  cases e
  refine ⟨vs, ?_, x.rvs g0 r0⟩
  rcases e0 with ⟨o, e0⟩ | e0
  · exact .inl (.inr ⟨o, x.keep a _ e0 fun l => by obtain ⟨_, vs', e⟩ := g0.lst l; rw [e0] at e; cases e⟩)
  · exact .inr e0
theorem stay_loc {F : Addr → Prop} {ρ : List Addr} {h : Hm} {H : Hp} {n : Nat} {a : Addr} (ea : ρ[n]? = some a) : ∀ F1 ρ1 h1 H1, Ext F ρ h H F1 ρ1 h1 H1 → Good K mg F1 ρ1 h1 H1 → ∀ us, itemsAt (.loc n) h1 = some us → ∃ vs, SqL K H1 a vs ∧ RVs K mg F1 ρ1 H1 us vs := fun F1 ρ1 h1 H1 x g us e => by
  obtain ⟨a', vs, ea', nf, eH, rs, lv⟩ := g.at (hl_eq (show hl h1 n = some us from e))
  obtain ⟨more, rfl⟩ := x.rho
  rw [get_app ea] at ea'; cases ea'
  exact ⟨vs, .inl (.inl eH), rs⟩
theorem gi_any {tg l : Expr} {m : ME} (hl : GE X l m) : GI X tg l (mIt m) := le_I (pi_any hl) fun σ H R ⟨F, ρ, h, sw, s, h', g, rs, e, q⟩ => by
  obtain ⟨⟨w, h1⟩, e1, e⟩ := bind_some e
  refine ⟨F, ρ, h, sw, w, h1, g, rs, e1, fun F1 ρ1 H1 v x1 g1 r1 => ?_⟩
  cases r1 with
  | tup ta tb => cases e; exact ⟨_, rfl, .inr ⟨⟨_, ta⟩, q F1 ρ1 H1 _ x1 g1 (src_T g1 ta tb)⟩⟩
  | fl f ta tb => cases e; exact ⟨_, rfl, .inl ⟨⟨_, .inl (.inl ta)⟩, q F1 ρ1 H1 _ x1 g1 (src_L (stay_fl g1 f ta tb))⟩⟩
  | ro ta tb => cases e; exact ⟨_, rfl, .inl ⟨⟨_, ta.sq⟩, q F1 ρ1 H1 _ x1 g1 (src_L (stay_ro g1 ta tb))⟩⟩
  | loc ea =>
    obtain ⟨ws, e2, e⟩ := bind_some e
    cases e
    obtain ⟨a', vs, ea', nf, eH, rs', lv⟩ := g1.at (hl_eq e2)
    rw [ea] at ea'; cases ea'
    exact ⟨_, rfl, .inl ⟨⟨_, .inl (.inl eH)⟩, q F1 ρ1 H1 _ x1 g1 (src_L (stay_loc ea))⟩⟩
  | _ => cases e
/-! ### range -/
def sRg (lo c : Int) (n : Nat) : Src := ⟨fun i _ => some (if i < n then some (.int (lo + (i : Nat) * c)) else none)⟩
theorem src_R {F : Addr → Prop} {ρ : List Addr} {h : Hm} {H : Hp} {lo : Int} {n : Nat} : SrcOk K mg F ρ h H (sRg lo 1 n) (Itr lo n) := fun F1 ρ1 h1 H1 i x g => by
  refine ⟨fun e => ?_, fun w' e => ?_⟩
  · have e : (if i < n then some (W.int (lo + (i : Nat) * 1)) else none) = none := Option.some.inj e
    split at e
    · cases e
    · show n ≤ i; omega
  · have e : (if i < n then some (W.int (lo + (i : Nat) * 1)) else none) = some w' := Option.some.inj e
    split at e
    · rename_i hi
      cases e
      refine ⟨hi, fun y H2 hy => ?_⟩
      obtain ⟨rfl, rfl⟩ := hy
      rw [Int.mul_one]
      exact ⟨F1, ρ1, .refl, g, .int _⟩
    · cases e
theorem src_Rc {F : Addr → Prop} {ρ : List Addr} {h : Hm} {H : Hp} {lo c : Int} {n : Nat} : SrcOk K mg F ρ h H (sRg lo c n) (Itc lo c n) := fun F1 ρ1 h1 H1 i x g => by
  refine ⟨fun e => ?_, fun w' e => ?_⟩
  · have e : (if i < n then some (W.int (lo + (i : Nat) * c)) else none) = none := Option.some.inj e
    split at e
    · cases e
    · show n ≤ i; omega
  · have e : (if i < n then some (W.int (lo + (i : Nat) * c)) else none) = some w' := Option.some.inj e
    split at e
    · rename_i hi
      cases e
      refine ⟨hi, fun y H2 hy => ?_⟩
      obtain ⟨rfl, rfl⟩ := hy
      exact ⟨F1, ρ1, .refl, g, .int _⟩
    · cases e
def okR (i : Int) : Bool := decide (-(2 ^ 62) ≤ i) && decide (i < 2 ^ 62)
theorem okR_of {i : Int} (h : okR i = true) : -(2 ^ 62) ≤ i ∧ i < 2 ^ 62 := by
  unfold okR at h
  rw [Bool.and_eq_true] at h
  exact ⟨of_decide_eq_true h.1, of_decide_eq_true h.2⟩
def mRg1 (ma : MA) : MI := fun sw h => (ma sw h).bind fun p => match p.1 with
  | [.int j] => if okR j then some (sRg 0 1 j.toNat, p.2) else none
  | _ => none
def mRg2 (ma : MA) : MI := fun sw h => (ma sw h).bind fun p => match p.1 with
  | [.int i, .int j] => if okR i && okR j then some (sRg i 1 (j - i).toNat, p.2) else none
  | _ => none
/-- range(i, j, -1) -/
def mRgD (ma : MA) : MI := fun sw h => (ma sw h).bind fun p => match p.1 with
  | [.int i, .int j, .int c] => if c = -1 ∧ (okR i && okR j) = true then some (sRg i (-1) (i - j).toNat, p.2) else none
  | _ => none
theorem gi_rg1 {tg a : Expr} {ma : MA} {p pos : Pos} (hg : Gl X "range") (hm : X.mg "range" = none) (ha : GA X [a] ma) (hs : starEach [a] X.env = [(false, eval a X.env)] := by rfl) : GI X tg (.Call (.Name "range" p) [a] [] pos) (mRg1 ma) := le_I (pi_range1 hg hm ha hs) fun σ H R ⟨F, ρ, h, sw, s, h', g, rs, e, q⟩ => by
  obtain ⟨⟨ws, h1⟩, e1, e⟩ := bind_some e
  refine ⟨F, ρ, h, sw, ws, h1, g, rs, e1, fun F1 ρ1 H1 vs x1 g1 r1 => ?_⟩
  match ws, r1, e with
  | [.int j], .cons (.int _) .nil, e =>
    have e : (if okR j then some (sRg 0 1 j.toNat, h1) else none) = some (s, h') := e
    split at e
    · rename_i hj
      cases e
      exact ⟨j, rfl, (okR_of hj).1, (okR_of hj).2, q F1 ρ1 H1 _ x1 g1 src_R⟩
    · cases e
theorem gi_rg2 {tg a b : Expr} {ma : MA} {p pos : Pos} (hg : Gl X "range") (hm : X.mg "range" = none) (ha : GA X [a, b] ma) (hs : starEach [a, b] X.env = [(false, eval a X.env), (false, eval b X.env)] := by rfl) (hs2 : starEach [b] X.env = [(false, eval b X.env)] := by rfl) : GI X tg (.Call (.Name "range" p) [a, b] [] pos) (mRg2 ma) := le_I (pi_range2 hg hm ha hs hs2) fun σ H R ⟨F, ρ, h, sw, s, h', g, rs, e, q⟩ => by
  obtain ⟨⟨ws, h1⟩, e1, e⟩ := bind_some e
  refine ⟨F, ρ, h, sw, ws, h1, g, rs, e1, fun F1 ρ1 H1 vs x1 g1 r1 => ?_⟩
  match ws, r1, e with
  | [.int i, .int j], .cons (.int _) (.cons (.int _) .nil), e =>
    have e : (if okR i && okR j then some (sRg i 1 (j - i).toNat, h1) else none) = some (s, h') := e
    split at e
    · rename_i hj
      rw [Bool.and_eq_true] at hj
      cases e
      exact ⟨i, j, rfl, ⟨(okR_of hj.1).1, (okR_of hj.1).2, (okR_of hj.2).1, (okR_of hj.2).2⟩, q F1 ρ1 H1 _ x1 g1 src_R⟩
    · cases e
theorem gi_rgD {tg a b c : Expr} {ma : MA} {p pos : Pos} (hg : Gl X "range") (hm : X.mg "range" = none) (ha : GA X [a, b, c] ma) (hs : starEach [a, b, c] X.env = (false, eval a X.env) :: starEach [b, c] X.env := by rfl) (hpl : (backTo pos (starEach [b, c] X.env)).any (·.1) = false := by rfl) : GI X tg (.Call (.Name "range" p) [a, b, c] [] pos) (mRgD ma) := le_I (pi_range3 hg hm ha hs hpl) fun σ H R ⟨F, ρ, h, sw, s, h', g, rs, e, q⟩ => by
  obtain ⟨⟨ws, h1⟩, e1, e⟩ := bind_some e
  refine ⟨F, ρ, h, sw, ws, h1, g, rs, e1, fun F1 ρ1 H1 vs x1 g1 r1 => ?_⟩
  match ws, r1, e with
  | [.int i, .int j, .int c], .cons (.int _) (.cons (.int _) (.cons (.int _) .nil)), e =>
    have e : (if c = -1 ∧ (okR i && okR j) = true then some (sRg i (-1) (i - j).toNat, h1) else none) = some (s, h') := e
    split at e
    · rename_i hj
      obtain ⟨hc1, hj⟩ := hj
      rw [Bool.and_eq_true] at hj
      cases e
      subst hc1
      exact ⟨i, j, -1, (i - j).toNat, rfl, .neg (okR_of hj.1).1 (okR_of hj.1).2 (okR_of hj.2).1 (okR_of hj.2).2, q F1 ρ1 H1 _ x1 g1 src_Rc⟩
    · cases e
/-- list(range(..)), tuple(range(..)) -/
def rgW (a b : Int) : List W := (List.range (b - a).toNat).map fun i => .int (a + (i : Nat))
theorem rg_rv {F : Addr → Prop} {ρ : List Addr} {H : Hp} (a b : Int) : RVs K mg F ρ H (rgW a b) (rgV a b) := by
  unfold rgW rgV
  generalize List.range (b - a).toNat = l
  induction l with
  | nil => exact .nil
  | cons x l ih => exact .cons (.int _) ih
def okRg (a b : Int) : Bool := okR a && okR b && decide ((b - a).toNat ≤ 100000)
theorem okRg_of {a b : Int} (h : okRg a b = true) : RgOk a b := by
  unfold okRg at h
  rw [Bool.and_eq_true, Bool.and_eq_true] at h
  have h3 := of_decide_eq_true h.2
  exact ⟨(okR_of h.1.1).1, (okR_of h.1.1).2, (okR_of h.1.2).1, (okR_of h.1.2).2, Nat.le_trans h3 (by decide)⟩
abbrev MR := Sw → Hm → Option (Int × Int × Hm)
def tRg (K : PySem.W.Frag) (mg : Str → Option Value) (m : MR) : L2.St → Hp → (Int → Int → Hp → Prop) → Prop := fun σ H Q => ∃ F ρ h sw a b h', Good K mg F ρ h H ∧ RS K mg F ρ H sw σ ∧ m sw h = some (a, b, h') ∧ FutT K mg F ρ h H h' (Q a b)
def mR1 (m : ME) : MR := fun sw h => (m sw h).bind fun p => match p.1 with
  | .int n => some (0, n, p.2)
  | _ => none
def mR2 (m n : ME) : MR := fun sw h => (m sw h).bind fun p => (n sw p.2).bind fun q => match p.1, q.1 with
  | .int i, .int j => some (i, j, q.2)
  | _, _ => none
theorem le_Rg {e : Expr} {t t' : L2.St → Hp → (Int → Int → Hp → Prop) → Prop} (p : PRg X e t) (l : ∀ σ H Q, t' σ H Q → t σ H Q) : PRg X e t' := fun pins s σ H Q I h => p pins s σ H Q I (l σ H Q h)
theorem gr_1 {a : Expr} {m : ME} {p pos : Pos} (hg : Gl X "range") (hm : X.mg "range" = none) (ha : GE X a m) (na : starEach [a] X.env = (false, eval a X.env) :: starEach [] X.env := by rfl) : PRg X (.Call (.Name "range" p) [a] [] pos) (tRg X.K X.mg (mR1 m)) := le_Rg (prg_1 hg hm ha na) fun σ H Q ⟨F, ρ, h, sw, a, b, h', g, rs, e, q⟩ => by
  obtain ⟨⟨w, h1⟩, e1, e⟩ := bind_some e
  refine ⟨F, ρ, h, sw, w, h1, g, rs, e1, fun F1 ρ1 H1 v x1 g1 r1 => ?_⟩
  cases r1 with
  | int n => cases e; exact ⟨_, rfl, q F1 ρ1 H1 x1 g1⟩
  | _ => cases e
theorem gr_2 {a b : Expr} {m n : ME} {p pos : Pos} (hg : Gl X "range") (hm : X.mg "range" = none) (ha : GE X a m) (hb : GE X b n) (h2 : starEach [a, b] X.env = (false, eval a X.env) :: starEach [b] X.env := by rfl) (h1 : starEach [b] X.env = (false, eval b X.env) :: starEach [] X.env := by rfl) (hp : (backTo pos (starEach [b] X.env)).any (·.1) = false := by rfl) : PRg X (.Call (.Name "range" p) [a, b] [] pos) (tRg X.K X.mg (mR2 m n)) := le_Rg (prg_2 hg hm ha hb h2 h1 hp) fun σ H Q ⟨F, ρ, h, sw, a, b, h', g, rs, e, q⟩ => by
  obtain ⟨⟨w, h1⟩, e1, e⟩ := bind_some e
  obtain ⟨⟨w2, h2⟩, e2, e⟩ := bind_some e
  refine ⟨F, ρ, h, sw, w, h1, g, rs, e1, fun F1 ρ1 H1 v x1 g1 r1 => ?_⟩
  refine ⟨F1, ρ1, h1, sw, w2, h2, g1, x1.rs g rs, e2, fun F2 ρ2 H2 u x2 g2 r2 => ?_⟩
  cases r1 with
  | int n => cases r2 with
    | int j => cases e; exact ⟨_, _, rfl, rfl, q F2 ρ2 H2 (x1.trans x2) g2⟩
    | _ => cases e
  | _ => cases e
def mLstRg (own : Bool) (m : MR) : ME := fun sw h => (m sw h).bind fun p => if okRg p.1 p.2.1 then some (mk own (rgW p.1 p.2.1) p.2.2) else none
def mTupRg (m : MR) : ME := fun sw h => (m sw h).bind fun p => if okRg p.1 p.2.1 then some (.tup (rgW p.1 p.2.1), p.2.2) else none
theorem ge_lstRg (own : Bool) {e : Expr} {m : MR} {p pos : Pos} (hc : X.calm = true) (hg : Gl X "list") (hm : X.mg "list" = none) (he : PRg X e (tRg X.K X.mg m)) (na : starEach [e] X.env = (false, eval e X.env) :: starEach [] X.env := by rfl) : GE X (.Call (.Name "list" p) [e] [] pos) (mLstRg own m) := le_E (pe_listRg hc hg hm he na) fun σ H Q ⟨F, ρ, h, sw, w', h', g, rs, e, q⟩ => by
  obtain ⟨⟨a, b, h1⟩, e1, e⟩ := bind_some e
  refine ⟨F, ρ, h, sw, a, b, h1, g, rs, e1, fun F1 ρ1 H1 x1 g1 => ?_⟩
  have e : (if okRg a b then some (mk own (rgW a b) h1) else none) = some (w', h') := e
  split at e
  · rename_i hk
    have e : mk own (rgW a b) h1 = (w', h') := Option.some.inj e
    exact ⟨okRg_of hk, new_lst own g1 (rg_rv a b) (by rw [e]; exact q.step x1)⟩
  · cases e
theorem ge_tupRg {e : Expr} {m : MR} {p pos : Pos} (hc : X.calm = true) (hg : Gl X "tuple") (hm : X.mg "tuple" = none) (he : PRg X e (tRg X.K X.mg m)) (na : starEach [e] X.env = (false, eval e X.env) :: starEach [] X.env := by rfl) : GE X (.Call (.Name "tuple" p) [e] [] pos) (mTupRg m) := le_E (pe_tupRg hc hg hm he na) fun σ H Q ⟨F, ρ, h, sw, w', h', g, rs, e, q⟩ => by
  obtain ⟨⟨a, b, h1⟩, e1, e⟩ := bind_some e
  refine ⟨F, ρ, h, sw, a, b, h1, g, rs, e1, fun F1 ρ1 H1 x1 g1 => ?_⟩
  have e : (if okRg a b then some (W.tup (rgW a b), h1) else none) = some (w', h') := e
  split at e
  · rename_i hk
    cases e
    exact ⟨okRg_of hk, new_tup g1 (rg_rv a b) (q.step x1)⟩
  · cases e
end
end G

set_option Elab.async false
set_option linter.all false
set_option maxRecDepth 100000
set_option maxHeartbeats 4000000
namespace G
open PySem PySem.Spec PyProof.Rows L2
set_option maxHeartbeats 8000000 in
theorem meets_enum1 {v : Value} {o : Obj} {H : Heap → Prop} (B : Begins v o H) :
    Meets (Builtin.«enumerate.__new__» ⟨[.type "enumerate", v], []⟩) (fun _ R s => H s.heap ∧
      R (.ok (.ret (.ref (s.heap.push o).objs.size))) { s with heap := (s.heap.push o).push { cls := .type "enumerate", data := .fields #[.none, .bool false, .ref s.heap.objs.size, rawInt 0, .none, .none] } }) :=
  .of_wp fun prog w A R s h => by
    obtain ⟨hp, g, d, tk, os⟩ := s; obtain ⟨h1, h⟩ := h
    have hsub := sub_enumerate
    have q1 : ∀ {A' : Around} {E : Value → Shared → Prop} {Q : Value → Shared → Prop}, Q (.ref hp.objs.size) ⟨hp.push o, g, d, tk, os⟩ → wpAny (model prog w) A' (pyIter v) Q E ⟨hp, g, d, tk, os⟩ :=
      fun q => B.iter prog w _ _ ⟨hp, g, d, tk, os⟩ _ h1 q
    wp_walk using q1
    refine wpAny_stack_any fun st => wpAny_pure ?_
    split
    · rename_i c _ _ _ _ _
      cases (c == Value.type "enumerate")
      · wp_walk using q1
        exact ⟨_, rfl, h⟩
      · wp_walk using q1
        exact ⟨_, rfl, h⟩
    · wp_walk using q1
      exact ⟨_, rfl, h⟩
theorem enum_call {prog : Program} {w : World} {A : Around} {E : Value → Shared → Prop} {s : Shared} {v : Value} {o : Obj} {H : Heap → Prop} {Q : Value → Shared → Prop} (B : Begins v o H) (h1 : H s.heap)
    (h : ∀ h', IsEnum h' (s.heap.objs.size + 1) s.heap.objs.size 0 .none → h'.get? s.heap.objs.size = some o → h'.objs.size = s.heap.objs.size + 2 →
      (∀ b o, s.heap.get? b = some o → h'.get? b = some o) → Q (.ref (s.heap.objs.size + 1)) { s with heap := h' }) :
    wpAny (model prog w) A (call (.type "enumerate") [v]) Q E s := by
  refine callType_new F.called_enumerate (by decide) (F.typeCall_enumerate_1 _) (F.newCall_enumerate_1 _) (fun obj => F.args_object_init_2 obj _) F.entry_enumerate_new (meets_enum1 B) ⟨h1, ?_⟩
  have hz : (s.heap.push o).objs.size = s.heap.objs.size + 1 := Heap.size_push ..
  show _ ∧ _
  rw [hz]
  have he : IsEnum ((s.heap.push o).push { cls := .type "enumerate", data := .fields #[.none, .bool false, .ref s.heap.objs.size, rawInt 0, .none, .none] }) (s.heap.objs.size + 1) s.heap.objs.size 0 .none := by
    have := Heap.get?_push_size (s.heap.push o) (o := { cls := .type "enumerate", data := .fields #[.none, .bool false, .ref s.heap.objs.size, rawInt 0, .none, .none] }) rfl
    rw [hz] at this; exact this
  refine ⟨⟨_, he, rfl⟩, h _ he (Heap.get?_push_of_some _ (Heap.get?_push_size _ B.free)) (by rw [Heap.size_push, hz]) fun b o x => Heap.get?_push_of_some _ (Heap.get?_push_of_some _ x)⟩
theorem enum_endT {prog : Program} {w : World} {A : Around} {E : Value → Shared → Prop} {s : Shared} {e it l : Addr} {i : Nat} {items : Array Value} {old : Value} {Q : Option Value → Shared → Prop} (hh : A.handled = none)
    (he : IsEnum s.heap e it i old) (hit : s.heap.IsTupleIter it l i) (hl : s.heap.IsTuple l items) (hx : items[i]? = none)
    (hQ : ∀ h', Heap.ExtBut it s.heap h' → Q none { s with heap := h' }) : wpAny (model prog w) A (pyNext (.ref e)) Q E s := by
  have hT : s.TypeIs (.ref e) "enumerate" := ⟨_, he, rfl⟩
  unfold pyNext
  refine wpAny_bind (wpAny_attempt (wpAny_callSpecial?_slot (name := Str.ofString "__next__") hT F.slot_enumerate_next (wpAny_call_entry F.slot_enumerate_next hT F.entry_enumerate_next ?_ (F.args_enumerate_next_1 _))))
  show wpAny _ _ (field (.ref e) 2 >>= _) _ _ _
  refine wpAny_bind (wpAny_field he rfl (x := .ref it) rfl ?_)
  refine wpAny_bind (wpAny_nextOf_tuple_end hh hit hl hx fun h' x he' hx' => ?_)
  obtain ⟨o, ho, hc⟩ := hx'
  refine wpAny_bind (wpAny_isInstance (T := "StopIteration") (b := true) ⟨o, ho, hc⟩ isSubtype_stop ?_)
  exact wpAny_pure (hQ _ he')
/-- over a tuple -/
def IteT (K : PySem.W.Frag) (a : Addr) : It :=
  ⟨fun i H => ∃ (xs : List V) (x : V), SqT K H a xs ∧ xs[i]? = some x, fun i H v H' => ∃ T x, v = .ref T ∧ H T = none ∧ H' = upd H T (.tup [.int (i : Nat), x]) ∧ ∀ xs, SqT K H a xs → xs[i]? = some x, fun i H => ∃ xs : List V, SqT K H a xs ∧ xs.length ≤ i⟩
theorem turn_enumT {P : Program} {w : World} {K : PySem.W.Frag} {elts : List Expr} {kk : Nat} {tpos : Pos} (a e it : Addr) (hae : a ≠ e) (hai : a ≠ it) :
    Turn P w K (.Tuple elts kk tpos) (IteT K a) [e, it] e (fun i h => (∃ old, IsEnum h e it ((i : Nat) : Int) old) ∧ h.IsTupleIter it a i ∧ e ≠ it) where
  mem := by simp
  obj := fun i h st b hb => by
    obtain ⟨⟨old, he⟩, ⟨o, ho, hc, hd⟩, _⟩ := st
    have e' : b = e ∨ b = it := by simpa using hb
    rcases e' with z | z
    · rw [z]; exact ⟨_, he, fun v q => nomatch q⟩
    · rw [z]; exact ⟨o, ho, fun v q => by rw [hd] at q; cases q⟩
  keep := fun i h h' st k => let ⟨⟨old, he⟩, hi, hne⟩ := st; ⟨⟨old, k e (by simp) _ he⟩, hi.at fun o q => k it (by simp) o q, hne⟩
  item := by
    intro X hP hw hK hc i pins s σ H E I hf st hg
    subst hP hw hK
    obtain ⟨⟨old, he⟩, hit, hne⟩ := st
    obtain ⟨xs, x, hq, hx⟩ := hg
    obtain ⟨its, rv, p, hz⟩ := I.tuple hq
    have ht : s.heap.IsTuple a its.toArray := p
    obtain ⟨u, hu, ru⟩ := rv.get hx
    have hel : e < s.heap.objs.size := Heap.lt_size he
    have hil : it < s.heap.objs.size := by obtain ⟨_, q, _⟩ := hit; exact Heap.lt_size q
    have hlt : i < its.toArray.size := by
      rw [List.size_toArray]
      exact (List.getElem?_eq_some_iff.mp hu).1
    refine wpAny_pyNext_enum_itemD (Draws.tuple (prog := X.prog) (w := X.w) (A := X.A.in1) (I.ok.hd hc) it a hai its.toArray) he ⟨hit, ht⟩ hlt hne (by simp only [List.mem_cons, List.not_mem_nil, or_false, not_or]; exact ⟨hne, Ne.symm hae⟩) fun u' h' tk hu' ho hst' hT hsz hk => ?_
    have eu : u' = u := by
      have h2 : its.toArray[i]? = some u := by simpa using hu
      exact Option.some.inj (hu'.symm.trans h2)
    subst eu
    refine ⟨_, rfl, wpAny_letOwnedTupleGo_enum (s := { s with heap := h', toks := tk + 1 }) ho fun h'' he' sb => ?_⟩
    have hT2 : h''.get? s.heap.objs.size = some { cls := .type "tuple", data := .seq #[.int i tk, u'] } := (sb.2 _ (Nat.ne_of_gt hel)).trans hT
    have new : ObjOk X.prog X.w (upd H s.heap.objs.size (.tup [.int (i : Nat), x])) h'' s.heap.objs.size (.tup [.int (i : Nat), x]) :=
      ⟨by show 2 ≤ sizeLine; decide, [.int i tk, u'], .cons ⟨_, rfl⟩ (.cons ru .nil), ⟨_, hT2, rfl, _, rfl⟩⟩
    have I1 : Inv X pins σ (upd H s.heap.objs.size (.tup [.int (i : Nat), x])) { s with heap := h'', toks := tk + 1 } :=
      I.turnedNew (ch := [e, it]) (fun b ob hb q => (sb.2 b (fun z => hb (by simp [z]))).trans (hk b ob (fun z => hb (by simp [z])) (fun z => hb (by simp [z])) q)) hf (Nat.le_refl _) new
    refine ⟨.ref s.heap.objs.size, _, I1, rfl, ⟨_, x, rfl, I.hok.fresh (Nat.le_refl _), rfl, fun ys hy => ?_⟩, ⟨⟨u', ?_⟩, hst'.1.at fun o q => (sb.2 it (Ne.symm hne)).trans q, hne⟩, fun b hb => ?_⟩
    · obtain ⟨its2, rv2, p2, _⟩ := I.tuple hy
      have : its2 = its := by
        obtain ⟨o1, a1, b1, n1, c1⟩ := (show s.heap.IsTuple a its.toArray from p)
        obtain ⟨o2, a2, b2, n2, c2⟩ := (show s.heap.IsTuple a its2.toArray from p2)
        rw [a1] at a2; cases a2
        rw [c1] at c2
        have := (Data.seq.inj c2).1
        simpa using this.symm
      subst this
      rw [Vals.inj rv2 rv]; exact hx
    · have e1 : ((i + 1 : Nat) : Int) = (i : Int) + 1 := by omega
      rw [e1]; exact he'
    · have hb' : b < s.heap.objs.size := by
        have e' : b = e ∨ b = it := by simpa using hb
        rcases e' with z | z
        · rw [z]; exact hel
        · rw [z]; exact hil
      rw [upd_ne (Nat.ne_of_lt hb')]
      exact (hf b hb).1
  done := by
    intro X hP hw hK hc i pins s σ H E I hf st hg
    subst hP hw hK
    obtain ⟨⟨old, he⟩, hit, hne⟩ := st
    obtain ⟨xs, hq, hx⟩ := hg
    obtain ⟨its, rv, p, hz⟩ := I.tuple hq
    have ht : s.heap.IsTuple a its.toArray := p
    obtain ⟨f0, f1, f2, f3, f4, f5⟩ := hf it (by simp)
    have hl := rv.length
    exact enum_endT (I.ok.hd hc) he hit ht (by simp; omega) fun h' eb => ⟨rfl, I.turned (t' := s.toks) (fun b o hb q => eb b o hb q) f0 f1 f3 f4 f5⟩
  self := fun A i s Q E st h => let ⟨⟨_, he⟩, _⟩ := st; wpAny_pyIter_enum he h
section
variable {X : Cx} {K : PySem.W.Frag} {mg : Str → Option Value}
def iEnumA (K : PySem.W.Frag) (ta : TA) : TI := fun σ H R => ta σ H fun vs H1 => ∃ a, vs = [.ref a] ∧ (((∃ xs, SqL K H1 a xs) ∧ R (Ite K a) H1) ∨ ((∃ xs, SqT K H1 a xs) ∧ R (IteT K a) H1))
theorem pi_enumA {e : Expr} {ta : TA} {p pos tpos : Pos} {elts : List Expr} {kk : Nat} (hg : Gl X "enumerate") (hm : X.mg "enumerate" = none) (ha : PA X [e] ta) (hs : starEach [e] X.env = [(false, eval e X.env)] := by rfl) :
    PI X (.Tuple elts kk tpos) (.Call (.Name "enumerate" p) [e] [] pos) (iEnumA X.K ta) := by
  refine ⟨fun pins s σ H R I h => ?_⟩
  refine Call_ (ld_blt I hg hm boot_enumerate (PyProof.Rows.callWith_type1 (thn (ha.run pos pins s σ H _ I h) fun us s1 ⟨vs, H1, I1, r1, q1⟩ => ?_) hs rfl))
  obtain ⟨a, ex, q⟩ := q1
  subst ex
  have two : ∀ b, b ∈ [s1.heap.objs.size + 1, s1.heap.objs.size] → s1.heap.objs.size ≤ b := fun b hb => by
    have e' : b = s1.heap.objs.size + 1 ∨ b = s1.heap.objs.size := by simpa using hb
    rcases e' with z | z
    · rw [z]; exact Nat.le_add_right _ _
    · rw [z]; exact Nat.le_refl _
  cases r1 with
  | cons r rr =>
    cases rr
    cases r
    rcases q with ⟨⟨xs, hq⟩, q⟩ | ⟨⟨xs, hq⟩, q⟩
    · obtain ⟨its, rv, p', hz⟩ := I1.list hq
      refine call_enumerate_list p'.isList fun h' he hit hsz hk => wpAny_pyIter_enum he ?_
      have I2 : Inv X pins σ H1 { s1 with heap := h' } := I1.kept (t' := s1.toks) hk
      exact ⟨s1.heap.objs.size + 1, [s1.heap.objs.size + 1, s1.heap.objs.size], _, _, H1, rfl, I2, turn_enum a (s1.heap.objs.size + 1) s1.heap.objs.size, ⟨⟨.none, he⟩, hit, Nat.succ_ne_self _⟩, fun b hb => I1.fpOk (two b hb) (I1.hok.fresh (two b hb)), q⟩
    · obtain ⟨its, rv, p', hz⟩ := I1.tuple hq
      have ht : s1.heap.IsTuple a its.toArray := p'
      have hal : a < s1.heap.objs.size := by obtain ⟨o, ho, _⟩ := ht; exact Heap.lt_size ho
      refine enum_call (begins_tuple a its.toArray) ht fun h' he hit hsz hk => wpAny_pyIter_enum he ?_
      have I2 : Inv X pins σ H1 { s1 with heap := h' } := I1.kept (t' := s1.toks) hk
      exact ⟨s1.heap.objs.size + 1, [s1.heap.objs.size + 1, s1.heap.objs.size], _, _, H1, rfl, I2, turn_enumT a (s1.heap.objs.size + 1) s1.heap.objs.size (Nat.ne_of_lt (Nat.lt_succ_of_lt hal)) (Nat.ne_of_lt hal), ⟨⟨.none, he⟩, ⟨_, hit, rfl, rfl⟩, Nat.succ_ne_self _⟩, fun b hb => I1.fpOk (two b hb) (I1.hok.fresh (two b hb)), q⟩
/-- enumerate(w) -/
def sEn (w : W) : Src := ⟨fun i h => (itemsAt w h).map fun ws => ws[i]?.map fun x => .tup [.int (i : Nat), x]⟩
def mEn (ma : MA) : MI := fun sw h => (ma sw h).bind fun p => match p.1 with
  | [.tup ws] => some (sEn (.tup ws), p.2)
  | [.fl ws] => some (sEn (.fl ws), p.2)
  | [.ro ws] => some (sEn (.ro ws), p.2)
  | [.loc n] => (hl p.2 n).bind fun _ => some (sEn (.loc n), p.2)
  | _ => none
theorem pair_rv {F : Addr → Prop} {ρ : List Addr} {h : Hm} {H : Hp} {T : Addr} {x y : V} {w u : W} (g : Good K mg F ρ h H) (n : H T = none) (r1 : RV K mg F ρ H w x) (r2 : RV K mg F ρ H u y) : ∃ F2 ρ2, Ext F ρ h H F2 ρ2 h (upd H T (.tup [x, y])) ∧ Good K mg F2 ρ2 h (upd H T (.tup [x, y])) ∧ RV K mg F2 ρ2 (upd H T (.tup [x, y])) (.tup [w, u]) (.ref T) := by
  obtain ⟨g1, x1⟩ := g.upd_new (o := .tup [x, y]) n
  exact ⟨F, ρ, x1, g1, .tup (.inl (.inl upd_same)) (.cons (x1.rv g r1) (.cons (x1.rv g r2) .nil))⟩
theorem src_EL {F : Addr → Prop} {ρ : List Addr} {h : Hm} {H : Hp} {w : W} {a : Addr} (hs : ∀ F1 ρ1 h1 H1, Ext F ρ h H F1 ρ1 h1 H1 → Good K mg F1 ρ1 h1 H1 → ∀ ws, itemsAt w h1 = some ws → ∃ vs, SqL K H1 a vs ∧ RVs K mg F1 ρ1 H1 ws vs) : SrcOk K mg F ρ h H (sEn w) (Ite K a) := fun F1 ρ1 h1 H1 i x g => by
  refine ⟨fun e => ?_, fun w' e => ?_⟩
  · obtain ⟨ws, e1, e2⟩ := Option.map_eq_some_iff.mp (show (itemsAt w h1).map (fun ws => ws[i]?.map fun x => W.tup [.int (i : Nat), x]) = some none from e)
    obtain ⟨vs, s, r⟩ := hs F1 ρ1 h1 H1 x g ws e1
    exact ⟨vs, s, get_none r (Option.map_eq_none_iff.mp e2)⟩
  · obtain ⟨ws, e1, e2⟩ := Option.map_eq_some_iff.mp (show (itemsAt w h1).map (fun ws => ws[i]?.map fun x => W.tup [.int (i : Nat), x]) = some (some w') from e)
    obtain ⟨wi, e3, e4⟩ := Option.map_eq_some_iff.mp e2
    subst e4
    obtain ⟨vs, s, r⟩ := hs F1 ρ1 h1 H1 x g ws e1
    obtain ⟨v, ev, rv⟩ := r.get e3
    refine ⟨⟨vs, v, s, ev⟩, fun y H2 hy => ?_⟩
    obtain ⟨T, z, rfl, nT, rfl, hz⟩ := hy
    have : z = v := Option.some.inj ((hz vs s).symm.trans ev)
    subst this
    exact pair_rv g nT (.int _) rv
theorem src_ET {F : Addr → Prop} {ρ : List Addr} {h : Hm} {H : Hp} {ws : List W} {vs : List V} {a : Addr} (g0 : Good K mg F ρ h H) (s0 : SqT K H a vs) (r0 : RVs K mg F ρ H ws vs) : SrcOk K mg F ρ h H (sEn (.tup ws)) (IteT K a) := fun F1 ρ1 h1 H1 i x g => by
  have s := x.tup g0 s0
  have r := x.rvs g0 r0
  refine ⟨fun e => ?_, fun w' e => ?_⟩
  · have e2 : ws[i]?.map (fun x => W.tup [.int (i : Nat), x]) = none := Option.some.inj e
    exact ⟨vs, s, get_none r (Option.map_eq_none_iff.mp e2)⟩
  · have e2 : ws[i]?.map (fun x => W.tup [.int (i : Nat), x]) = some w' := Option.some.inj e
    obtain ⟨wi, e3, e4⟩ := Option.map_eq_some_iff.mp e2
    subst e4
    obtain ⟨v, ev, rv⟩ := r.get e3
    refine ⟨⟨vs, v, s, ev⟩, fun y H2 hy => ?_⟩
    obtain ⟨T, z, rfl, nT, rfl, hz⟩ := hy
    have : z = v := Option.some.inj ((hz vs s).symm.trans ev)
    subst this
    exact pair_rv g nT (.int _) rv
theorem gi_enum {e : Expr} {ma : MA} {p pos tpos : Pos} {elts : List Expr} {kk : Nat} (hg : Gl X "enumerate") (hm : X.mg "enumerate" = none) (ha : GA X [e] ma) (hs : starEach [e] X.env = [(false, eval e X.env)] := by rfl) : GI X (.Tuple elts kk tpos) (.Call (.Name "enumerate" p) [e] [] pos) (mEn ma) := le_I (pi_enumA hg hm ha hs) fun σ H R ⟨F, ρ, h, sw, s, h', g, rs, e, q⟩ => by
  obtain ⟨⟨ws, h1⟩, e1, e⟩ := bind_some e
  refine ⟨F, ρ, h, sw, ws, h1, g, rs, e1, fun F1 ρ1 H1 vs x1 g1 r1 => ?_⟩
  match ws, r1, e with
  | [.tup us], .cons (.tup ta tb) .nil, e => cases e; exact ⟨_, rfl, .inr ⟨⟨_, ta⟩, q F1 ρ1 H1 _ x1 g1 (src_ET g1 ta tb)⟩⟩
  | [.fl us], .cons (.fl f ta tb) .nil, e => cases e; exact ⟨_, rfl, .inl ⟨⟨_, .inl (.inl ta)⟩, q F1 ρ1 H1 _ x1 g1 (src_EL (stay_fl g1 f ta tb))⟩⟩
  | [.ro us], .cons (.ro ta tb) .nil, e => cases e; exact ⟨_, rfl, .inl ⟨⟨_, ta.sq⟩, q F1 ρ1 H1 _ x1 g1 (src_EL (stay_ro g1 ta tb))⟩⟩
  | [.loc n], .cons (.loc ea) .nil, e =>
    obtain ⟨ws, e2, e⟩ := bind_some (show (hl h1 n).bind (fun _ => some (sEn (.loc n), h1)) = some (s, h') from e)
    cases e
    obtain ⟨a', vs, ea', nf, eH, rs', lv⟩ := g1.at (hl_eq e2)
    rw [ea] at ea'; cases ea'
    exact ⟨_, rfl, .inl ⟨⟨_, .inl (.inl eH)⟩, q F1 ρ1 H1 _ x1 g1 (src_EL (stay_loc ea))⟩⟩
/-- zip(w, u): two lists, two tuples -/
def sZp (w u : W) : Src := ⟨fun i h => (itemsAt w h).bind fun ws => (itemsAt u h).map fun us => match ws[i]?, us[i]? with
  | some x, some y => some (.tup [x, y])
  | _, _ => none⟩
def isTp : W → Bool
  | .tup _ => true
  | _ => false
def mZp (ma : MA) : MI := fun sw h => (ma sw h).bind fun p => match p.1 with
  | [w, u] => if isTp w == isTp u then (itemsAt w p.2).bind fun _ => (itemsAt u p.2).bind fun _ => some (sZp w u, p.2) else none
  | _ => none
theorem stay_any {F : Addr → Prop} {ρ : List Addr} {h : Hm} {H : Hp} {w : W} {v : V} {ws : List W} (g0 : Good K mg F ρ h H) (r : RV K mg F ρ H w v) (hw : isTp w = false) (e : itemsAt w h = some ws) : ∃ a vs, v = .ref a ∧ SqL K H a vs ∧ ∀ F1 ρ1 h1 H1, Ext F ρ h H F1 ρ1 h1 H1 → Good K mg F1 ρ1 h1 H1 → ∀ us, itemsAt w h1 = some us → ∃ vs, SqL K H1 a vs ∧ RVs K mg F1 ρ1 H1 us vs := by
  cases r with
  | fl f a b => exact ⟨_, _, rfl, .inl (.inl a), stay_fl g0 f a b⟩
  | ro a b => exact ⟨_, _, rfl, a.sq, stay_ro g0 a b⟩
  | loc ea =>
    obtain ⟨a', vs, ea', nf, eH, rs', lv⟩ := g0.at (hl_eq (show hl h _ = some ws from e))
    rw [ea] at ea'; cases ea'
    exact ⟨_, _, rfl, .inl (.inl eH), stay_loc ea⟩
  | tup a b => cases hw
  | _ => cases e
theorem gi_zip {e e2 : Expr} {ma : MA} {p pos tpos : Pos} {elts : List Expr} {kk : Nat} (hg : Gl X "zip") (hm : X.mg "zip" = none) (ha : GA X [e, e2] ma)
    (hs : starEach [e, e2] X.env = (false, eval e X.env) :: starEach [e2] X.env := by rfl) (hpl : (backTo pos (starEach [e2] X.env)).any (·.1) = false := by rfl) : GI X (.Tuple elts kk tpos) (.Call (.Name "zip" p) [e, e2] [] pos) (mZp ma) := le_I (RZ.pi_zipA hg hm ha hs hpl) fun σ H R ⟨F, ρ, h, sw, s, h', g, rs, e, q⟩ => by
  obtain ⟨⟨ws, h1⟩, e1, e⟩ := bind_some e
  refine ⟨F, ρ, h, sw, ws, h1, g, rs, e1, fun F1 ρ1 H1 vs x1 g1 r1 => ?_⟩
  match ws, r1, e with
  | [w, u], .cons rw (.cons ru .nil), e =>
    have e : (if isTp w == isTp u then (itemsAt w h1).bind fun _ => (itemsAt u h1).bind fun _ => some (sZp w u, h1) else none) = some (s, h') := e
    split at e
    · rename_i ht
      obtain ⟨iw, e3, e⟩ := bind_some e
      obtain ⟨iu, e4, e⟩ := bind_some e
      cases e
      cases hw : isTp w with
      | false =>
        have hu : isTp u = false := by rw [hw] at ht; simpa using ht
        obtain ⟨a, va, rfl, sa, ka⟩ := stay_any g1 rw hw e3
        obtain ⟨b, vb, rfl, sb, kb⟩ := stay_any g1 ru hu e4
        refine ⟨a, b, va, vb, rfl, .inl ⟨sa, sb, q F1 ρ1 H1 _ x1 g1 fun F2 ρ2 h2 H2 i x g2 => ⟨fun e => ?_, fun w' e => ?_⟩⟩⟩
        · obtain ⟨ws, e5, e⟩ := bind_some e
          obtain ⟨us, e6, e7⟩ := Option.map_eq_some_iff.mp e
          obtain ⟨va2, s2, r2⟩ := ka _ _ _ _ x g2 ws e5
          obtain ⟨vb2, s3, r3⟩ := kb _ _ _ _ x g2 us e6
          refine ⟨va2, vb2, s2, s3, ?_⟩
          cases h5 : ws[i]? with
          | none => exact .inl (get_none r2 h5)
          | some z => cases h6 : us[i]? with
            | none => exact .inr (get_none r3 h6)
            | some z2 => rw [h5, h6] at e7; cases e7
        · obtain ⟨ws, e5, e⟩ := bind_some e
          obtain ⟨us, e6, e7⟩ := Option.map_eq_some_iff.mp e
          obtain ⟨va2, s2, r2⟩ := ka _ _ _ _ x g2 ws e5
          obtain ⟨vb2, s3, r3⟩ := kb _ _ _ _ x g2 us e6
          cases h5 : ws[i]? with
          | none => rw [h5] at e7; cases e7
          | some z => cases h6 : us[i]? with
            | none => rw [h5, h6] at e7; cases e7
            | some z2 =>
              rw [h5, h6] at e7
              cases e7
              obtain ⟨v5, q5, p5⟩ := r2.get h5
              obtain ⟨v6, q6, p6⟩ := r3.get h6
              refine ⟨⟨va2, vb2, v5, v6, s2, s3, q5, q6⟩, fun y H3 hy => ?_⟩
              obtain ⟨T, y1, y2, rfl, nT, rfl, hy1, hy2⟩ := hy
              have e8 : y1 = v5 := Option.some.inj ((hy1 va2 s2).symm.trans q5)
              have e9 : y2 = v6 := Option.some.inj ((hy2 vb2 s3).symm.trans q6)
              subst e8 e9
              exact pair_rv g2 nT p5 p6
      | true =>
        have hu : isTp u = true := by rw [hw] at ht; simpa using ht
        cases rw with
        | @tup a va wa ta tb =>
          cases ru with
          | @tup b vb wb ua ub =>
            refine ⟨a, b, va, vb, rfl, .inr ⟨ta, ua, q F1 ρ1 H1 _ x1 g1 fun F2 ρ2 h2 H2 i x g2 => ⟨fun e => ?_, fun w' e => ?_⟩⟩⟩
            · refine ⟨va, vb, x.tup g1 ta, x.tup g1 ua, ?_⟩
              have e7 : (match wa[i]?, wb[i]? with | some x, some y => some (W.tup [x, y]) | _, _ => none) = none := Option.some.inj e
              cases h5 : wa[i]? with
              | none => exact .inl (get_none tb h5)
              | some z => cases h6 : wb[i]? with
                | none => exact .inr (get_none ub h6)
                | some z2 => rw [h5, h6] at e7; cases e7
            · have e7 : (match wa[i]?, wb[i]? with | some x, some y => some (W.tup [x, y]) | _, _ => none) = some w' := Option.some.inj e
              cases h5 : wa[i]? with
              | none => rw [h5] at e7; cases e7
              | some z => cases h6 : wb[i]? with
                | none => rw [h5, h6] at e7; cases e7
                | some z2 =>
                  rw [h5, h6] at e7
                  cases e7
                  obtain ⟨v5, q5, p5⟩ := (x.rvs g1 tb).get h5
                  obtain ⟨v6, q6, p6⟩ := (x.rvs g1 ub).get h6
                  refine ⟨⟨va, vb, v5, v6, x.tup g1 ta, x.tup g1 ua, q5, q6⟩, fun y H3 hy => ?_⟩
                  obtain ⟨T, y1, y2, rfl, nT, rfl, hy1, hy2⟩ := hy
                  have e8 : y1 = v5 := Option.some.inj ((hy1 va (x.tup g1 ta)).symm.trans q5)
                  have e9 : y2 = v6 := Option.some.inj ((hy2 vb (x.tup g1 ua)).symm.trans q6)
                  subst e8 e9
                  exact pair_rv g2 nT p5 p6
          | _ => cases hu
        | _ => cases hw
    · cases e
end
end G

set_option Elab.async false
set_option linter.all false
set_option maxRecDepth 100000
set_option maxHeartbeats 4000000
namespace G
open PySem PySem.Spec PyProof.Rows L2
section
variable {X : Cx} {K : PySem.W.Frag} {mg : Str → Option Value}
/-! ### methods of lists -/
abbrev MM := W → List W → Hm → Option (W × Hm)
def MW (K : PySem.W.Frag) (mg : Str → Option Value) (r : V → List V → Hp → VK → Prop) (o : MM) : Prop := ∀ F ρ h H x xs a as w h' Q, Good K mg F ρ h H → RV K mg F ρ H a x → RVs K mg F ρ H as xs → o a as h = some (w, h') → Fut K mg F ρ h H w h' Q → r x xs H Q
def isL (h : Hm) (w : W) : Bool := (sq h w).isSome
def mMeth (o : MM) (mo : ME) (ma : MA) : ME := fun sw h => (mo sw h).bind fun p => if isL p.2 p.1 then (ma sw p.2).bind fun q => o p.1 q.1 q.2 else none
theorem isL_ty {F : Addr → Prop} {ρ : List Addr} {h : Hm} {H : Hp} (g : Good K mg F ρ h H) {w : W} {v : V} (r : RV K mg F ρ H w v) (e : isL h w = true) : tyV K "list" v H := by
  obtain ⟨ws, e1⟩ := Option.isSome_iff_exists.mp e
  obtain ⟨a, vs, e2, e3, e4⟩ := sq_ok g r e1
  subst e2
  exact .inl ⟨rfl, vs, e3⟩
theorem t_meth {r : V → List V → Hp → VK → Prop} {o : MM} {mo : ME} {ma : MA} (w : MW K mg r o) (σ : L2.St) (H : Hp) (Q : VK) (t : tE K mg (mMeth o mo ma) σ H Q) : tBM K "list" r (tE K mg mo) (tA K mg ma) σ H Q := by
  obtain ⟨F, ρ, h, sw, w', h', g, rs, e, q⟩ := t
  obtain ⟨⟨a, h1⟩, e1, e⟩ := bind_some e
  have e : (if isL h1 a then (ma sw h1).bind fun q => o a q.1 q.2 else none) = some (w', h') := e
  split at e
  · rename_i hi
    obtain ⟨⟨as, h2⟩, e2, e⟩ := bind_some e
    refine ⟨F, ρ, h, sw, a, h1, g, rs, e1, fun F1 ρ1 H1 x x1 g1 r1 => ⟨isL_ty g1 r1 hi, F1, ρ1, h1, sw, as, h2, g1, x1.rs g rs, e2, fun F2 ρ2 H2 xs x2 g2 r2 => ?_⟩⟩
    exact w F2 ρ2 h2 H2 x xs a as w' h' Q g2 (x2.rv g1 r1) r2 e ((q.step x1).step x2)
  · cases e
theorem t_meth0 {r : V → List V → Hp → VK → Prop} {o : MM} {mo : ME} (w : MW K mg r o) (σ : L2.St) (H : Hp) (Q : VK) (t : tE K mg (mMeth o mo mNil) σ H Q) : tBM0 K "list" r (tE K mg mo) σ H Q := by
  obtain ⟨F, ρ, h, sw, w', h', g, rs, e, q⟩ := t
  obtain ⟨⟨a, h1⟩, e1, e⟩ := bind_some e
  have e : (if isL h1 a then (mNil sw h1).bind fun q => o a q.1 q.2 else none) = some (w', h') := e
  split at e
  · rename_i hi
    exact ⟨F, ρ, h, sw, a, h1, g, rs, e1, fun F1 ρ1 H1 x x1 g1 r1 => ⟨isL_ty g1 r1 hi, w F1 ρ1 h1 H1 x [] a [] w' h' Q g1 r1 .nil e (q.step x1)⟩⟩
  · cases e
theorem ge_meth {id : String} {name : Str} {r : V → List V → Hp → VK → Prop} {om : MM} {o e : Expr} {es : List Expr} {apos cpos : Pos} {mo : ME} {ma : MA} (slot : Slot "list" name id) (hty : typeOf (.builtin id) = pure (.type "method_descriptor")) (hm : MtR X id r) (w : MW X.K X.mg r om) (ho : GE X o mo) (ha : GA X (e :: es) ma)
    (hbase : attributeBase o name X.env (eval o X.env) = eval o X.env := by rfl)
    (hfew : ((backTo cpos (starEach (e :: es) X.env)).all (fun x => !x.1) && (backToKw cpos (keywordEach [] X.env)).all (fun x => x.1.isSome) && decide ((e :: es).length + ([] : List Keyword).length + (if ([] : List Keyword).isEmpty then 0 else 1) < 30)) = true := by rfl)
    (hline : (apos.endLine == cpos.line) = true := by rfl) (hs : starEach (e :: es) X.env = (false, eval e X.env) :: starEach es X.env := by rfl) (hplain : (backTo cpos (starEach es X.env)).any (·.1) = false := by rfl) :
    GE X (.Call (.Attribute o name apos) (e :: es) [] cpos) (mMeth om mo ma) := le_E (pe_bm PySem.F.plainAttrs_list slot hty hm ho ha hbase hfew hline hs hplain) (t_meth w)
theorem ge_meth0 {id : String} {name : Str} {r : V → List V → Hp → VK → Prop} {om : MM} {o : Expr} {apos cpos : Pos} {mo : ME} (slot : Slot "list" name id) (hty : typeOf (.builtin id) = pure (.type "method_descriptor")) (hm : MtR X id r) (w : MW X.K X.mg r om) (ho : GE X o mo)
    (hbase : attributeBase o name X.env (eval o X.env) = eval o X.env := by rfl) (hline : (apos.endLine == cpos.line) = true := by rfl) : GE X (.Call (.Attribute o name apos) [] [] cpos) (mMeth om mo mNil) := le_E (pe_bm0 PySem.F.plainAttrs_list slot hty hm ho hbase hline) (t_meth0 w)
/-- an own list written -/
theorem wr_fut {F : Addr → Prop} {ρ : List Addr} {h : Hm} {H : Hp} {n : Nat} {x : V} {ws ws' : List W} {Q : Hp → Prop} (g : Good K mg F ρ h H) (r : RV K mg F ρ H (.loc n) x) (e : hl h n = some ws) (q : ∀ F' ρ' H', Ext F ρ h H F' ρ' (h.set n (.lst ws')) H' → Good K mg F' ρ' (h.set n (.lst ws')) H' → Q H') :
    ∃ a vs, x = .ref a ∧ H a = some (.lst vs) ∧ RVs K mg F ρ H ws vs ∧ ∀ vs', RVs K mg F ρ H ws' vs' → Q (upd H a (.lst vs')) := by
  cases r with
  | loc ea =>
    obtain ⟨a', vs, ea', nf, eH, rs, lv⟩ := g.at (hl_eq e)
    rw [ea] at ea'; cases ea'
    refine ⟨_, vs, rfl, eH, rs, fun vs' r' => ?_⟩
    obtain ⟨g2, x2⟩ := g.wr (hl_eq e) ea r'
    exact q F ρ _ x2 g2
def oApp : MM := fun a as h => match a, as with
  | .loc n, [w] => (hl h n).bind fun ws => if ws.length < 100000 then some (.non, h.set n (.lst (ws ++ [w]))) else none
  | _, _ => none
theorem w_app : MW K mg rAppend oApp := fun F ρ h H x xs a as w h' Q g ra rs e q => by
  match a, as, ra, rs, e with
  | .loc n, [w1], ra, .cons r1 .nil, e =>
    obtain ⟨ws, e1, e⟩ := bind_some (show (hl h n).bind (fun ws => if ws.length < 100000 then some (W.non, h.set n (.lst (ws ++ [w1]))) else none) = some (w, h') from e)
    split at e
    · rename_i hl
      cases e
      obtain ⟨l, vs, ex, eH, rv, k⟩ := wr_fut (ws' := ws ++ [w1]) (Q := Q .non) g ra e1 fun F' ρ' H' x' g' => q F' ρ' H' .non x' g' .non
      exact ⟨l, vs, _, ex, rfl, eH, by rw [← rv.length, sizeLine_eq]; omega, k _ (rv.append (.cons r1 .nil))⟩
    · cases e
def oExt : MM := fun a as h => match a, as with
  | .loc n, [w] => (hl h n).bind fun ws => (lq h w).bind fun us => if ws.length + us.length < 100000 then some (.non, h.set n (.lst (ws ++ us))) else none
  | _, _ => none
theorem w_ext : MW K mg rExtend oExt := fun F ρ h H x xs a as w h' Q g ra rs e q => by
  match a, as, ra, rs, e with
  | .loc n, [w1], ra, .cons r1 .nil, e =>
    obtain ⟨ws, e1, e⟩ := bind_some (show (hl h n).bind (fun ws => (lq h w1).bind fun us => if ws.length + us.length < 100000 then some (W.non, h.set n (.lst (ws ++ us))) else none) = some (w, h') from e)
    obtain ⟨us, e2, e⟩ := bind_some e
    split at e
    · rename_i hl
      cases e
      obtain ⟨b, zs, eb, eHb, rz⟩ := lq_ok g r1 e2
      obtain ⟨l, vs, ex, eH, rv, k⟩ := wr_fut (ws' := ws ++ us) (Q := Q .non) g ra e1 fun F' ρ' H' x' g' => q F' ρ' H' .non x' g' .non
      exact ⟨l, b, vs, zs, ex, by rw [eb], eH, eHb, by rw [← rv.length, ← rz.length, sizeLine_eq]; omega, k _ (rv.append rz)⟩
    · cases e
theorem rvs_dropLast {F : Addr → Prop} {ρ : List Addr} {H : Hp} {ws : List W} {vs : List V} (r : RVs K mg F ρ H ws vs) : RVs K mg F ρ H ws.dropLast vs.dropLast := by
  rw [List.dropLast_eq_take, List.dropLast_eq_take, r.length]; exact r.take _
def oPop : MM := fun a as h => match a, as with
  | .loc n, [] => (hl h n).bind fun ws => ws[ws.length - 1]?.map fun w => (w, h.set n (.lst ws.dropLast))
  | _, _ => none
theorem w_pop : MW K mg rPop oPop := fun F ρ h H x xs a as w h' Q g ra rs e q => by
  match a, as, ra, rs, e with
  | .loc n, [], ra, .nil, e =>
    obtain ⟨ws, e1, e⟩ := bind_some (show (hl h n).bind (fun ws => ws[ws.length - 1]?.map fun w => (w, h.set n (.lst ws.dropLast))) = some (w, h') from e)
    obtain ⟨w0, e2, e3⟩ := Option.map_eq_some_iff.mp e
    cases e3
    cases ra with
    | loc ea =>
      obtain ⟨a', vs, ea', nf, eH, rv, lv⟩ := g.at (hl_eq e1)
      rw [ea] at ea'; cases ea'
      rw [rv.length] at e2
      obtain ⟨v, ev, r0⟩ := rv.get e2
      obtain ⟨g2, x2⟩ := g.wr (hl_eq e1) ea (rvs_dropLast rv)
      exact ⟨_, vs, v, rfl, rfl, eH, ev, q F ρ _ v x2 g2 (x2.rv g r0)⟩
def oPopAt : MM := fun a as h => match a, as with
  | .loc n, [.int i] => (hl h n).bind fun ws => if -(2 ^ 63) ≤ i ∧ i < 2 ^ 63 then (seqIndex? i ws.length).bind fun k => ws[k]?.map fun w => (w, h.set n (.lst (ws.eraseIdx k))) else none
  | _, _ => none
theorem w_popAt : MW K mg rPopAt oPopAt := fun F ρ h H x xs a as w h' Q g ra rs e q => by
  match a, as, ra, rs, e with
  | .loc n, [.int i], ra, .cons (.int _) .nil, e =>
    obtain ⟨ws, e1, e⟩ := bind_some (show (hl h n).bind (fun ws => if -(2 ^ 63) ≤ i ∧ i < 2 ^ 63 then (seqIndex? i ws.length).bind fun k => ws[k]?.map fun w => (w, h.set n (.lst (ws.eraseIdx k))) else none) = some (w, h') from e)
    split at e
    · rename_i hi
      obtain ⟨k, ek, e⟩ := bind_some e
      obtain ⟨w0, e2, e3⟩ := Option.map_eq_some_iff.mp e
      cases e3
      cases ra with
      | loc ea =>
        obtain ⟨a', vs, ea', nf, eH, rv, lv⟩ := g.at (hl_eq e1)
        rw [ea] at ea'; cases ea'
        obtain ⟨v, ev, r0⟩ := rv.get e2
        obtain ⟨g2, x2⟩ := g.wr (hl_eq e1) ea (rv.eraseIdx k)
        exact ⟨_, vs, i, k, v, rfl, rfl, eH, hi.1, hi.2, by rw [← rv.length]; exact ek, ev, q F ρ _ v x2 g2 (x2.rv g r0)⟩
    · cases e
def rInsert : V → List V → Hp → VK → Prop := fun x vs H Q => ∃ (l : Addr) (xs : List V) (i : Int) (y : V), x = .ref l ∧ vs = [.int i, y] ∧ H l = some (.lst xs) ∧ xs.length < sizeLine ∧ 0 ≤ i ∧ i < 2 ^ 63 ∧ Q .non (upd H l (.lst (xs.take i.toNat ++ [y] ++ xs.drop i.toNat)))
theorem mt_ins : MtR X "list.insert" rInsert := mt_insert
def oIns : MM := fun a as h => match a, as with
  | .loc n, [.int i, w] => (hl h n).bind fun ws => if 0 ≤ i ∧ i < 2 ^ 63 ∧ ws.length < 100000 then some (.non, h.set n (.lst (ws.take i.toNat ++ [w] ++ ws.drop i.toNat))) else none
  | _, _ => none
theorem w_ins : MW K mg rInsert oIns := fun F ρ h H x xs a as w h' Q g ra rs e q => by
  match a, as, ra, rs, e with
  | .loc n, [.int i, w1], ra, .cons (.int _) (.cons r1 .nil), e =>
    obtain ⟨ws, e1, e⟩ := bind_some (show (hl h n).bind (fun ws => if 0 ≤ i ∧ i < 2 ^ 63 ∧ ws.length < 100000 then some (W.non, h.set n (.lst (ws.take i.toNat ++ [w1] ++ ws.drop i.toNat))) else none) = some (w, h') from e)
    split at e
    · rename_i hl
      cases e
      obtain ⟨l, vs, ex, eH, rv, k⟩ := wr_fut (ws' := ws.take i.toNat ++ [w1] ++ ws.drop i.toNat) (Q := Q .non) g ra e1 fun F' ρ' H' x' g' => q F' ρ' H' .non x' g' .non
      exact ⟨l, vs, i, _, ex, rfl, eH, by rw [← rv.length, sizeLine_eq]; omega, hl.1, hl.2.1, k _ (((rv.take _).append (.cons r1 .nil)).append (rv.drop _))⟩
    · cases e
/-- xs.index(i), ints -/
def ixOf (i : Int) : List Int → Option Nat
  | [] => none
  | j :: r => if j = i then some 0 else (ixOf i r).map (· + 1)
def oIndex : MM := fun a as h => match as with
  | [.int i] => (sq h a).bind fun ws => (intsW ws).bind fun is => (ixOf i is).map fun k => (.int (k : Nat), h)
  | _ => none
theorem ixOf_ok {i : Int} : ∀ {is : List Int} {k : Nat}, ixOf i is = some k → is[k]? = some i ∧ ∀ (m : Nat) (j : Int), m < k → is[m]? = some j → j ≠ i
  | j :: r, k, e => by
    unfold ixOf at e
    split at e
    · rename_i h
      cases e
      exact ⟨by simp [h], fun m j hm => by omega⟩
    · rename_i h
      obtain ⟨k', e1, rfl⟩ := Option.map_eq_some_iff.mp e
      obtain ⟨a, b⟩ := ixOf_ok e1
      refine ⟨by simpa using a, fun m j' hm ej => ?_⟩
      cases m with
      | zero => simp at ej; rw [← ej]; exact h
      | succ m => exact b m j' (by omega) (by simpa using ej)
theorem w_index : MW K mg (rIndex K) oIndex := fun F ρ h H x xs a as w h' Q g ra rs e q => by
  match as, rs, e with
  | [.int i], .cons (.int _) .nil, e =>
    obtain ⟨ws, e1, e⟩ := bind_some (show (sq h a).bind (fun ws => (intsW ws).bind fun is => (ixOf i is).map fun k => (W.int (k : Nat), h)) = some (w, h') from e)
    obtain ⟨is, e2, e⟩ := bind_some e
    obtain ⟨k, e3, e4⟩ := Option.map_eq_some_iff.mp e
    cases e4
    obtain ⟨p, vs, e5, e6, e7⟩ := sq_ok g ra e1
    have ev := ints_vs e2 e7
    subst ev
    obtain ⟨k1, k2⟩ := ixOf_ok e3
    refine ⟨p, is.map V.int, .int i, k, .int i, e5, rfl, e6, rfl, ?_, by rw [List.getElem?_map, k1]; rfl, ?_, fun m z hm ez => ?_, q.here g (.int _)⟩
    · rw [List.all_map]; exact List.all_eq_true.mpr fun _ _ => rfl
    · show (i == i) = true; simp
    · rw [List.getElem?_map] at ez
      obtain ⟨j, ej, rfl⟩ := Option.map_eq_some_iff.mp ez
      show (j == i) = false
      have := k2 m j hm ej
      simpa using this
/-! ### assignments to places -/
abbrev MGH := W → Sw → Hm → Option (Sw × Hm)
def tGH (K : PySem.W.Frag) (mg : Str → Option Value) (m : MGH) : TG := fun v σ H Q => ∃ F ρ h sw w sw' h', Good K mg F ρ h H ∧ RS K mg F ρ H sw σ ∧ RV K mg F ρ H w v ∧ m w sw h = some (sw', h') ∧ FutS K mg F ρ h H sw' h' Q
abbrev GGH (X : Cx) (tg : Expr) (m : MGH) : Prop := PG X tg (tGH X.K X.mg m)
def hN (i : Nat) : MGH := fun w sw h => some (sw.set i (some w), h)
theorem gh_name {i : Nat} {x : Str} {pos : Pos} (hN' : X.N.Nodup) (hi : X.N[i]? = some x) (hx : Loc X.env.scope x) (hf : X.fn x = true ∨ X.env.scope.names.lookup x = some .local := by first | exact .inl rfl | exact .inr rfl | assumption) : GGH X (.Name x pos) (hN i) :=
  le_G (pg_name hN' hi hx hf) fun v σ H Q ⟨F, ρ, h, sw, w, sw', h', g, rs, rv, e, q⟩ => by
    cases e
    exact q F ρ H _ .refl g (rs.set rv i)
def hSub (mo mi : ME) : MGH := fun w sw h => (mo sw h).bind fun p => (mi sw p.2).bind fun q => match p.1, q.1 with
  | .loc n, .int k => (hl q.2 n).bind fun ws => (ixN ws.length k).map fun j => (sw, q.2.set n (.lst (ws.set j w)))
  | _, _ => none
theorem gh_sub {o i : Expr} {pos : Pos} {mo mi : ME} (ho : GE X o mo) (hi : GE X i mi)
    (ha : ∀ v, assign (.Subscript o i pos) X.env v = (do
      let ov ← holding [v] (eval o X.env)
      let iv ← holding [v, ov] (eval i X.env)
      standAt pos
      holding [v, ov, iv] (setItem ov iv v)
      release [v, ov, iv] []) := by intro _; rfl) : GGH X (.Subscript o i pos) (hSub mo mi) :=
  le_G (pg_sub ho hi set_list ha) fun v σ H Q ⟨F, ρ, h, sw, w, sw', h', g, rs, rv, e, q⟩ => by
    obtain ⟨⟨a, h1⟩, e1, e⟩ := bind_some e
    obtain ⟨⟨b, h2⟩, e2, e⟩ := bind_some e
    refine ⟨F, ρ, h, sw, a, h1, g, rs, e1, fun F1 ρ1 H1 x x1 g1 r1 => ?_⟩
    refine ⟨F1, ρ1, h1, sw, b, h2, g1, x1.rs g rs, e2, fun F2 ρ2 H2 y x2 g2 r2 => ?_⟩
    have ra := x2.rv g1 r1
    match a, b, ra, r2, e with
    | .loc n, .int k, .loc ea, .int _, e =>
      obtain ⟨ws, e3, e⟩ := bind_some (show (hl h2 n).bind (fun ws => (ixN ws.length k).map fun j => (sw, h2.set n (.lst (ws.set j w)))) = some (sw', h') from e)
      obtain ⟨j, e4, e5⟩ := Option.map_eq_some_iff.mp e
      cases e5
      obtain ⟨a', vs, ea', nf, eH, rvs, lv⟩ := g2.at (hl_eq e3)
      rw [ea] at ea'; cases ea'
      have x12 := x1.trans x2
      obtain ⟨g3, x3⟩ := g2.wr (hl_eq e3) ea (RVs.set (x12.rv g rv) j rvs)
      refine ⟨_, vs, k, j, rfl, rfl, eH, by rw [← rvs.length]; exact e4, ?_⟩
      exact q F2 ρ2 _ σ (x12.trans x3) g3 ((x12.trans x3).rs g rs)
def hL : List MGH → List W → Sw → Hm → Option (Sw × Hm)
  | [], [], sw, h => some (sw, h)
  | m :: ms, w :: ws, sw, h => (m w sw h).bind fun p => hL ms ws p.1 p.2
  | _, _, _, _ => none
def tGLH (K : PySem.W.Frag) (mg : Str → Option Value) (ms : List MGH) : TGs := fun vs σ H Q => ∃ F ρ h sw ws sw' h', Good K mg F ρ h H ∧ RS K mg F ρ H sw σ ∧ RVs K mg F ρ H ws vs ∧ hL ms ws sw h = some (sw', h') ∧ FutS K mg F ρ h H sw' h' Q
theorem ghs_nil : PGs X [] (tGLH X.K X.mg []) := ⟨fun pins s σ H vs us Q I r h => pgs_nil.run pins s σ H vs us Q I r (by
  obtain ⟨F, ρ, hm, sw, ws, sw', h', g, rs, rv, e, q⟩ := h
  cases rv with
  | nil => cases e; exact ⟨rfl, q F ρ H σ .refl g rs⟩
  | cons a b => cases e)⟩
theorem ghs_cons {tg : Expr} {es : List Expr} {m : MGH} {ms : List MGH} (h1 : GGH X tg m) (h2 : PGs X es (tGLH X.K X.mg ms)) (hs : (assignEach (tg :: es) X.env).map (·.2) = assign tg X.env :: (assignEach es X.env).map (·.2) := by rfl) : PGs X (tg :: es) (tGLH X.K X.mg (m :: ms)) :=
  ⟨fun pins s σ H vs us Q I r h => (pgs_cons h1 h2 hs).run pins s σ H vs us Q I r (by
    obtain ⟨F, ρ, hm, sw, ws, sw', h', g, rs, rv, e, q⟩ := h
    cases rv with
    | nil => cases e
    | cons a b =>
      obtain ⟨⟨sw1, h1⟩, e1, e⟩ := bind_some e
      exact ⟨_, _, rfl, F, ρ, hm, sw, _, sw1, h1, g, rs, a, e1, fun F1 ρ1 H1 σ1 x1 g1 rs1 => ⟨F1, ρ1, h1, sw1, _, sw', h', g1, rs1, x1.rvs g b, e, q.step x1⟩⟩)⟩
def hT (ms : List MGH) : MGH := fun w sw h => match w with
  | .tup ws => hL ms ws sw h
  | _ => none
theorem hL_len : ∀ {ms : List MGH} {ws : List W} {sw : Sw} {h : Hm} {p : Sw × Hm}, hL ms ws sw h = some p → ws.length = ms.length
  | [], [], _, _, _, _ => rfl
  | m :: ms, w :: ws, sw, h, p, e => by
    obtain ⟨q, e1, e⟩ := bind_some e
    rw [List.length_cons, List.length_cons, hL_len e]
  | [], w :: ws, _, _, _, e => by cases e
  | m :: ms, [], _, _, _, e => by cases e
theorem gh_tup {ms : List MGH} {es : List Expr} {k : Nat} {pos : Pos} (hc : X.calm = true) (h : PGs X es (tGLH X.K X.mg ms)) (hn : (assignEach es X.env).length = ms.length := by rfl) (hst : (assignEach es X.env).findIdx? (·.1) = none := by rfl) : GGH X (.Tuple es k pos) (hT ms) :=
  le_G (pg_tup hc h hn hst) fun v σ H Q ⟨F, ρ, hm, sw, w, sw', h', g, rs, rv, e, q⟩ => by
    cases rv with
    | tup a b =>
      have e : hL ms _ sw hm = some (sw', h') := e
      exact ⟨_, _, rfl, a, by rw [← b.length, hL_len e], F, ρ, hm, sw, _, sw', h', g, rs, b, e, q⟩
    | _ => cases e
def mAsg (m : ME) (g : MGH) : MS := fun sw h => (m sw h).bind fun p => (g p.1 sw p.2).bind fun q => some (.nx q.1 q.2)
theorem gs_asg {tg e : Expr} {pos : Pos} {m : ME} {gh : MGH} (he : GE X e m) (hg : GGH X tg gh) (hs : swapsWithSole [tg] e pos.line X.env = pure false := by rfl) (hw : swappedStores [tg] e X.env = pure none := by rfl)
    (h1 : (assignEach [tg] X.env).map (·.2) = [assign tg X.env] := by rfl) : GS X (.Assign [tg] e pos) (mAsg m gh) := le_S (ps_asg he hg hs hw h1) fun D σ H ⟨F, ρ, h, sw, r, g, rs, e, q⟩ => by
  obtain ⟨⟨w, h1⟩, e1, e⟩ := bind_some e
  obtain ⟨⟨sw2, h2⟩, e2, e⟩ := bind_some e
  cases e
  exact ⟨F, ρ, h, sw, w, h1, g, rs, e1, fun F1 ρ1 H1 v x1 g1 r1 => ⟨F1, ρ1, h1, sw, w, sw2, h2, g1, x1.rs g rs, r1, e2, FutS.step x1 q⟩⟩
end
end G

set_option Elab.async false
set_option linter.all false
set_option maxRecDepth 100000
set_option maxHeartbeats 4000000
namespace G
open PySem PySem.Spec PyProof.Rows L2
section
variable {X : Cx} {K : PySem.W.Frag} {mg : Str → Option Value}
/-! ### len(set(xs)), xs a list of tuples of ints -/
def ndup : List (List Int) → List (List Int)
  | [] => []
  | k :: r => if (ndup r).contains k then ndup r else k :: ndup r
theorem ndup_mem {x : List Int} : ∀ {l : List (List Int)}, x ∈ ndup l ↔ x ∈ l
  | [] => by simp [ndup]
  | k :: r => by
    unfold ndup
    split
    · rename_i h
      rw [ndup_mem, List.mem_cons]
      have hk : k ∈ r := ndup_mem.mp (by simpa using h)
      exact ⟨.inr, fun z => z.elim (fun z => z ▸ hk) id⟩
    · rw [List.mem_cons, List.mem_cons, ndup_mem]
theorem ndup_nd : ∀ l : List (List Int), (ndup l).Nodup
  | [] => .nil
  | k :: r => by
    unfold ndup
    split
    · exact ndup_nd r
    · rename_i h
      exact List.nodup_cons.mpr ⟨by simpa using h, ndup_nd r⟩
theorem nd_le : ∀ (a b : List (List Int)), a.Nodup → (∀ x ∈ a, x ∈ b) → a.length ≤ b.length
  | [], _, _, _ => Nat.zero_le _
  | x :: a, b, nd, h => by
    rw [List.nodup_cons] at nd
    have hx := h x (by simp)
    have := nd_le a (b.erase x) nd.2 fun y hy => (List.mem_erase_of_ne (show y ≠ x from fun z => nd.1 (by rw [← z]; exact hy))).mpr (h y (by simp [hy]))
    rw [List.length_erase_of_mem hx] at this
    have := List.length_pos_of_mem hx
    rw [List.length_cons]; omega
theorem nd_len {a b : List (List Int)} (ha : a.Nodup) (hb : b.Nodup) (h : ∀ x, x ∈ a ↔ x ∈ b) : a.length = b.length :=
  Nat.le_antisymm (nd_le a b ha fun x hx => (h x).mp hx) (nd_le b a hb fun x hx => (h x).mpr hx)
def tLenSetT (K : PySem.W.Frag) (ta : TE) : TE := fun σ H Q => ta σ H fun x H1 => ∃ (l : Addr) (ks : List (Addr × List Int)), x = V.ref l ∧ SqL K H1 l (ks.map fun p => V.ref p.1) ∧ (∀ p ∈ ks, SqT K H1 p.1 (p.2.map V.int)) ∧ ks.length < 64 ∧ Q (.int (ndup (ks.map (·.2))).length) H1
theorem pe_lenSetT {a : Expr} {ta : TE} {p p2 q pos : Pos} (hc : X.calm = true) (hu : X.A.units + 64 < cLine) (hg : Gl X "len") (hm : X.mg "len" = none) (hg2 : Gl X "set") (hm2 : X.mg "set" = none) (ha : PE X a ta)
    (na : starEach [a] X.env = (false, eval a X.env) :: starEach [] X.env := by rfl) : PE X (.Call (.Name "len" p) [.Call (.Name "set" p2) [a] [] q] [] pos) (tLenSetT X.K ta) := by
  refine ⟨fun pins s σ H Q I h => ?_⟩
  refine Call_ (ld_blt I hg hm PySem.boot_len ?_)
  refine PyProof.Rows.callWith_builtin1 (PyProof.Rows.args_cons ?_ rfl) rfl rfl
  refine Call_ (ld_blt I hg2 hm2 PyProof.Rows.boot_set ?_)
  refine PyProof.Rows.callWith_type1 (PyProof.Rows.args_cons (thn (ha.run pins s σ H _ I h) fun v s1 ⟨x, H1, I1, r1, q1⟩ => PyProof.Rows.args_nil ?_) na) na rfl
  obtain ⟨l, ks, rfl, hq, hk, hf, q1⟩ := q1
  cases r1
  obtain ⟨its, r, pl, hz⟩ := I1.list hq
  refine call_set_tups (P := X.prog) (w := X.w) ks (I1.ok.hd hc) pl.isList (by simpa using refs_of_vals r) (fun p hp => I1.isT (hk p hp)) hf (by omega) fun h' tk L es ep t R gt kk => ?_
  refine PyProof.Rows.args_nil ?_
  obtain ⟨o, ho, hex, hd⟩ := R.ob
  have R' : SetTR X.prog X.w ({ s1 with heap := h', toks := tk } : Shared).heap s1.heap.objs.size L es ep t := R
  have I2 : Inv X pins σ H1 { s1 with heap := h', toks := tk } := I1.kept kk
  have hsz : es.size = L.length := R'.size
  have hll : L.length = (ndup (ks.map (·.2))).length := by
    rw [show L.length = (L.map (·.2)).length by rw [List.length_map]]
    refine nd_len R.nd (ndup_nd _) fun x => ?_
    rw [ndup_mem]
    refine ⟨fun hx => ?_, fun hx => ?_⟩
    · obtain ⟨p, hp, rfl⟩ := List.mem_map.mp hx
      exact List.mem_map_of_mem (f := Prod.snd) (List.mem_of_mem_take (gt.sub p hp))
    · obtain ⟨p, hp, rfl⟩ := List.mem_map.mp hx
      exact gt.all p (by rw [List.take_length]; exact hp)
  have hn : (es.size : Int) = ((ndup (ks.map (·.2))).length : Int) := by rw [hsz, hll]
  refine call_len_set ho hex hd R'.fits (by have := R.few; omega) ⟨.int (ndup (ks.map (·.2))).length, H1, I2.tok _, ⟨_, by rw [hn]⟩, q1⟩
def tupIs : W → Option (List Int)
  | .tup us => intsW us
  | _ => none
def fLenSet (w : W) (h : Hm) : Option W := (sq h w).bind fun ws => if ws.length < 64 then (ws.mapM tupIs).map fun ks => .int (ndup ks).length else none
def mLenSet (m : ME) : ME := fun sw h => (m sw h).bind fun p => (fLenSet p.1 p.2).map fun u => (u, p.2)
theorem tups_ks {F : Addr → Prop} {ρ : List Addr} {H : Hp} : ∀ {ws : List W} {vs : List V} {ks : List (List Int)}, RVs K mg F ρ H ws vs → (ws.mapM tupIs) = some ks → ∃ ps : List (Addr × List Int), vs = ps.map (fun p => V.ref p.1) ∧ ps.map (·.2) = ks ∧ ∀ p ∈ ps, SqT K H p.1 (p.2.map V.int)
  | _, _, _, .nil, e => by
    have e : some [] = some _ := e
    cases e; exact ⟨[], rfl, rfl, fun p hp => by cases hp⟩
  | w :: ws, _, ks, .cons a b, e => by
    obtain ⟨k, ks', e1, e2, rfl⟩ := mapM_cons' e
    obtain ⟨ps, h1, h2, h3⟩ := tups_ks b e2
    cases a with
    | @tup ad vs ws ta tb =>
      have ev := ints_vs (show intsW ws = some k from e1) tb
      subst ev
      refine ⟨(ad, k) :: ps, by rw [h1]; rfl, by rw [List.map_cons, h2], fun p hp => ?_⟩
      rcases List.mem_cons.mp hp with rfl | hp
      · exact ta
      · exact h3 p hp
    | _ => cases e1
theorem ge_lenSet {a : Expr} {m : ME} {p p2 q pos : Pos} (hc : X.calm = true) (hu : X.A.units + 64 < cLine) (hg : Gl X "len") (hm : X.mg "len" = none) (hg2 : Gl X "set") (hm2 : X.mg "set" = none) (ha : GE X a m)
    (na : starEach [a] X.env = (false, eval a X.env) :: starEach [] X.env := by rfl) : GE X (.Call (.Name "len" p) [.Call (.Name "set" p2) [a] [] q] [] pos) (mLenSet m) := le_E (pe_lenSetT hc hu hg hm hg2 hm2 ha na) fun σ H Q ⟨F, ρ, h, sw, w', h', g, rs, e, q⟩ => by
  obtain ⟨⟨w, h1⟩, e1, e⟩ := bind_some e
  obtain ⟨u, e2, e3⟩ := Option.map_eq_some_iff.mp e
  cases e3
  refine ⟨F, ρ, h, sw, w, h1, g, rs, e1, fun F1 ρ1 H1 v x1 g1 r1 => ?_⟩
  obtain ⟨ws, e4, e2⟩ := bind_some e2
  split at e2
  · rename_i hl
    obtain ⟨ks, e5, e6⟩ := Option.map_eq_some_iff.mp e2
    subst e6
    obtain ⟨p, vs, e7, e8, e9⟩ := sq_ok g1 r1 e4
    obtain ⟨ps, h1, h2, h3⟩ := tups_ks e9 e5
    refine ⟨p, ps, e7, by rw [← h1]; exact e8, h3, ?_, ?_⟩
    · have := congrArg List.length h1
      rw [List.length_map, ← e9.length] at this
      omega
    · rw [h2]
      exact (q.step x1).here g1 (.int _)
  · cases e2
/-! ### calls by keywords alone -/
/-- what is at the places of perm -/
def prm {α : Type} (perm : List Nat) (zs : List α) : List α := perm.filterMap (zs[·]?)
def KB (K : PySem.W.Frag) (fd : FuncData) (ps ks : List Str) (perm : List Nat) : Prop := ∀ (s : Shared) (ws : List Value), K.In s.heap → ws.length = ks.length → BindsTo s fd ⟨[], ks.zip ws⟩ (ps.zip (prm perm ws))
theorem vals_prm {zs : List V} {ws : List Value} (r : Vals zs ws) (perm : List Nat) : Vals (prm perm zs) (prm perm ws) := by
  unfold prm
  induction perm with
  | nil => exact .nil
  | cons i perm ih =>
    cases hz : zs[i]? with
    | none =>
      have hw : ws[i]? = none := Vals.none_of r hz
      simp only [List.filterMap_cons, hz, hw]
      exact ih
    | some z =>
      obtain ⟨u, hu, ru⟩ := r.get hz
      simp only [List.filterMap_cons, hz, hu]
      exact .cons ru ih
def tCallK0 (n : Nat) (perm : List Nat) (sp : Sp) (E : XK) (tk : TA) : TE := fun σ H Q => tk σ H fun zs H2 => zs.length = n ∧ sp (prm perm zs) H2 Q E
theorem pe_callK0 {CX : CXT} {k : Nat} {f : Addr} {fd : FuncData} {ps ks : List Str} {sp : Sp} {E : XK} {x : Str} {p pos : Pos} {kws : List Keyword} {tk : TA} {perm : List Nat} (F : FnOk X.prog X.w X.K X.mg X.base CX k f fd ps sp) (hr : Room k X.A) (hg : Gl X x) (hm : X.mg x = some (.ref f)) (hk : PySem.W.keepIn X.K (.ref f) = true) (hb : KB X.K fd ps ks perm) (hx : Passes CX X E)
    (hkw : PK X kws tk) (hall : (backToKw pos (keywordEach kws X.env)).all (·.1.isSome) = true := by rfl) (hks : (backToKw pos (keywordEach kws X.env)).filterMap (·.1) = ks := by rfl)
    (hdb : (x == ("__debug__" : Str)) = false := by decide)
    (hpl : ((backTo pos (starEach [] X.env)).any (·.1) || (backToKw pos (keywordEach kws X.env)).any (·.1.isNone)) = false := by rfl) :
    PE X (.Call (.Name x p) [] kws pos) (tCallK0 ks.length perm sp E tk) := by
  refine ⟨fun pins s σ H Q I h => ?_⟩
  refine wpAny_Call_Name_kw (ld_glob I hg hm ?_ hdb)
  refine PySem.W.callWith_KW0 (h₀ := X.base) I.ok.mod.kin hk hall ?_ hpl
  refine thn (hkw.run pos pins s σ H _ I h) fun ws s2 ⟨zs, H2, I2, rz, hl, q2⟩ => ⟨I2.kIn, ?_⟩
  rw [hks]
  have r2 := vals_prm rz perm
  refine wpAny_call (codeAny_mono (F.run X.A X.stack s2 H2 ⟨[], ks.zip ws⟩ (prm perm ws) (prm perm zs) Q E hr I2.env0 (hb s2 ws I2.kIn (by rw [← rz.length]; exact hl)) r2 q2) fun r s' hq => ?_)
  cases r with
  | error e => exact hx pins σ H2 s2 e s' I2 hq
  | ok fl =>
    cases fl with
    | ret u => exact I2.after hq
    | next => exact False.elim hq
    | brk => exact False.elim hq
    | cont => exact False.elim hq
theorem gk_nil : PK X [] (tA X.K X.mg mNil) := ⟨fun pos pins s σ H Q I h => pk_nil.run pos pins s σ H Q I (by
  obtain ⟨F, ρ, h, sw, ws, h', g, rs, e, q⟩ := h
  cases e; exact q F ρ H [] .refl g .nil)⟩
theorem gk_cons {e : Expr} {nm : Option Str} {kpos : Pos} {kws : List Keyword} {m : ME} {ms : MA} (he : GE X e m) (hs : PK X kws (tA X.K X.mg ms)) : PK X (⟨nm, e, kpos⟩ :: kws) (tA X.K X.mg (mCons m ms)) := ⟨fun pos pins s σ H Q I h => (pk_cons he hs).run pos pins s σ H Q I (t_cons σ H Q h)⟩
/-- how many arguments -/
def Len (ma : MA) (n : Nat) : Prop := ∀ sw h ws h', ma sw h = some (ws, h') → ws.length = n
theorem len_nil : Len mNil 0 := fun sw h ws h' e => by cases e; rfl
theorem len_cons {m : ME} {ms : MA} {n : Nat} (l : Len ms n) : Len (mCons m ms) (n + 1) := fun sw h ws h' e => by
  obtain ⟨⟨w, h1⟩, e1, e⟩ := bind_some e
  obtain ⟨⟨us, h2⟩, e2, e⟩ := bind_some e
  cases e
  rw [List.length_cons, l _ _ _ _ e2]
def mAppK (o : MO) (perm : List Nat) (ma : MA) : ME := fun sw h => (ma sw h).bind fun p => o (prm perm p.1) p.2
theorem rvs_prm {F : Addr → Prop} {ρ : List Addr} {H : Hp} {ws : List W} {vs : List V} (r : RVs K mg F ρ H ws vs) (perm : List Nat) : RVs K mg F ρ H (prm perm ws) (prm perm vs) := by
  unfold prm
  induction perm with
  | nil => exact .nil
  | cons i perm ih =>
    cases hz : ws[i]? with
    | none =>
      have hw : vs[i]? = none := List.getElem?_eq_none_iff.mpr (by rw [← r.length]; exact List.getElem?_eq_none_iff.mp hz)
      simp only [List.filterMap_cons, hz, hw]
      exact ih
    | some z =>
      obtain ⟨u, hu, ru⟩ := r.get hz
      simp only [List.filterMap_cons, hz, hu]
      exact .cons ru ih
theorem prm_len {α : Type} {perm : List Nat} {zs : List α} (h : ∀ i ∈ perm, i < zs.length) : (prm perm zs).length = perm.length := by
  unfold prm
  induction perm with
  | nil => rfl
  | cons i perm ih =>
    have hi := h i (by simp)
    have e : zs[i]? = some zs[i] := List.getElem?_eq_getElem hi
    simp only [List.filterMap_cons, e, List.length_cons]
    rw [ih fun j hj => h j (by simp [hj])]
theorem ge_callK {o : MO} {m : MO} {ma : MA} {k : Nat} {f : Addr} {fd : FuncData} {ps ks : List Str} {x : Str} {p pos : Pos} {kws : List Keyword} {perm : List Nat} (Fk : FnOk X.prog X.w X.K X.mg X.base CX0 k f fd ps (spM X.K X.mg m ps.length)) (hs : CW X.K X.mg (fun vs H Q => vs.length = ps.length → spM X.K X.mg m ps.length vs H Q E0) o) (hr : Room k X.A) (hg : Gl X x) (hm : X.mg x = some (.ref f)) (hk : PySem.W.keepIn X.K (.ref f) = true) (hb : KB X.K fd ps ks perm)
    (ha : PK X kws (tA X.K X.mg ma)) (hl : Len ma ks.length) (hp : perm.length = ps.length) (hpi : ∀ i ∈ perm, i < ks.length)
    (hall : (backToKw pos (keywordEach kws X.env)).all (·.1.isSome) = true := by rfl) (hks : (backToKw pos (keywordEach kws X.env)).filterMap (·.1) = ks := by rfl) (hdb : (x == ("__debug__" : Str)) = false := by decide)
    (hpl : ((backTo pos (starEach [] X.env)).any (·.1) || (backToKw pos (keywordEach kws X.env)).any (·.1.isNone)) = false := by rfl) :
    GE X (.Call (.Name x p) [] kws pos) (mAppK o perm ma) := le_E (pe_callK0 Fk hr hg hm hk hb pass0 ha hall hks hdb hpl) fun σ H Q t => by
  obtain ⟨F, ρ, h, sw, w', h', g, rs, e, q⟩ := t
  obtain ⟨⟨ws, h1⟩, ea, e⟩ := bind_some e
  have hwl := hl _ _ _ _ ea
  refine ⟨F, ρ, h, sw, ws, h1, g, rs, ea, fun F1 ρ1 H1 xs e1 g1 r1 => ⟨by rw [← r1.length]; exact hwl, ?_⟩⟩
  exact hs F1 ρ1 h1 H1 (prm perm xs) (prm perm ws) w' h' Q g1 (rvs_prm r1 perm) e (q.step e1) (by rw [prm_len fun i hi => by rw [← r1.length, hwl]; exact hpi i hi]; exact hp)
/-! ### calls through a name of the def: of several defs by name -/
def tCallG (i : Nat) (S : Str → Option (Addr × Sp)) (mg : Str → Option Value) (t : TA) : TE := fun σ H Q => ∃ x f sp, S x = some (f, sp) ∧ mg x = some (.ref f) ∧ σ[i]? = some (some (.ref f)) ∧ t σ H fun vs H1 => sp vs H1 Q E0
theorem pe_callG {k : Nat} {i : Nat} {x : Str} {p pos : Pos} {e : Expr} {es : List Expr} {t : TA} {S : Str → Option (Addr × Sp)} (A : ∀ y f sp, S y = some (f, sp) → Held X.prog X.w X.K X.mg X.base k f sp) (hr : Room k X.A) (hN : X.N[i]? = some x) (hv : Vis X.env.scope x) (ha : PA X (e :: es) t)
    (hdb : (x == ("__debug__" : Str)) = false := by decide) (hcd : (x == ("__classdict__" : Str)) = false := by decide)
    (he : starEach (e :: es) X.env = (false, eval e X.env) :: starEach es X.env := by rfl) (hpl : (backTo pos (starEach es X.env)).any (·.1) = false := by rfl) : PE X (.Call (.Name x p) (e :: es) [] pos) (tCallG i S X.mg t) := by
  refine ⟨fun pins s σ H Q I h => ?_⟩
  obtain ⟨y, f, sp, hS, hmg, hs, ht⟩ := h
  obtain ⟨fd, ps, F, hk, hb⟩ := (A y f sp hS).ex
  refine (pe_callL (i := i) (f := f) (sp := sp) (dvs := []) (E := E0) F hr hN hv hk hb .nil pass0 ha hdb hcd he hpl).run pins s σ H Q I ⟨hs, ?_⟩
  have e0 : (fun (vs : List V) (H1 : Hp) => sp (vs ++ []) H1 Q E0) = fun vs H1 => sp vs H1 Q E0 := by
    funext vs H1
    rw [List.append_nil]
  show t σ H (fun vs H1 => sp (vs ++ []) H1 Q E0)
  rw [e0]
  exact ht
/-- the mirror: M tells each name's -/
def mCallG (i n : Nat) (M : Str → Option MO) (ma : MA) : ME := fun sw h => match sw[i]? with
  | some (some (.fn x)) => (M x).bind fun o => (ma sw h).bind fun p => o p.1 p.2
  | _ => none
theorem ge_callG {k : Nat} {i n : Nat} {x : Str} {p pos : Pos} {e : Expr} {es : List Expr} {ma : MA} {M : Str → Option MO} {S : Str → Option (Addr × Sp)} (A : ∀ y f sp, S y = some (f, sp) → Held X.prog X.w X.K X.mg X.base k f sp)
    (hS : ∀ y o, M y = some o → ∃ f m, S y = some (f, spM X.K X.mg m n) ∧ X.mg y = some (.ref f) ∧ CW X.K X.mg (fun vs H Q => vs.length = n → spM X.K X.mg m n vs H Q E0) o) (hr : Room k X.A) (hN : X.N[i]? = some x) (hv : Vis X.env.scope x) (ha : GA X (e :: es) ma) (hl : Len ma n)
    (hdb : (x == ("__debug__" : Str)) = false := by decide) (hcd : (x == ("__classdict__" : Str)) = false := by decide)
    (he : starEach (e :: es) X.env = (false, eval e X.env) :: starEach es X.env := by rfl) (hpl : (backTo pos (starEach es X.env)).any (·.1) = false := by rfl) : GE X (.Call (.Name x p) (e :: es) [] pos) (mCallG i n M ma) := le_E (pe_callG A hr hN hv ha hdb hcd he hpl) fun σ H Q ⟨F, ρ, h, sw, w', h', g, rs, e, q⟩ => by
  unfold mCallG at e
  split at e
  · rename_i y ey
    obtain ⟨o, e1, e⟩ := bind_some e
    obtain ⟨⟨ws, h1⟩, e2, e⟩ := bind_some e
    obtain ⟨f, m, s1, s2, s3⟩ := hS y o e1
    obtain ⟨v, ev, rv⟩ := rs.2 i _ ey
    cases rv with
    | fn ef =>
      rw [s2] at ef
      have ef := Option.some.inj ef
      cases ef
      refine ⟨y, f, _, s1, s2, ev, F, ρ, h, sw, ws, h1, g, rs, e2, fun F1 ρ1 H1 xs x1 g1 r1 => ?_⟩
      exact s3 F1 ρ1 h1 H1 xs ws w' h' Q g1 r1 e (q.step x1) (by rw [← r1.length]; exact hl _ _ _ _ e2)
  · cases e
end
end G

set_option Elab.async false
set_option linter.all false
set_option maxRecDepth 100000
set_option maxHeartbeats 4000000
namespace G
open PySem PySem.Spec PyProof.Rows L2
section
variable {X : Cx} {K : PySem.W.Frag} {mg : Str → Option Value}
theorem ge_tup {es : List Expr} {x1 : Nat} {pos : Pos} {ma : MA} (ha : GA X es ma) : GE X (.Tuple es x1 pos) (mTup ma) := le_E (pe_tup ha) t_tup
theorem ge_lst (own : Bool) {es : List Expr} {pos : Pos} {ma : MA} (ha : GA X es ma) : GE X (.List es pos) (mLst own ma) := le_E (pe_lst ha) t_lst
def mNeg (m : ME) : ME := fun sw h => (m sw h).bind fun p => match p.1 with
  | .int i => some (.int (-i), p.2)
  | _ => none
theorem ge_neg {a : Expr} {pos : Pos} {m : ME} (ha : GE X a m) : GE X (.UnaryOp .USub a pos) (mNeg m) := le_E (pe_un un_neg ha) fun σ H Q ⟨F, ρ, h, sw, w', h', g, rs, e, q⟩ => by
  obtain ⟨⟨w, h1⟩, e1, e⟩ := bind_some e
  refine ⟨F, ρ, h, sw, w, h1, g, rs, e1, fun F1 ρ1 H1 v x1 g1 r1 => ?_⟩
  cases r1 with
  | int i => cases e; exact ⟨i, rfl, q F1 ρ1 H1 _ x1 g1 (.int _)⟩
  | _ => cases e
theorem ge_chain {op op' : CmpOp} {a b c : Expr} {pos : Pos} {r r' : R2} {o o' : MO2} {ma mb mc : ME} (ho : OpR X (compareOp op) r) (w : OpW X.K X.mg r o) (ho' : OpR X (compareOp op') r') (w' : OpW X.K X.mg r' o') (ha : GE X a ma) (hb : GE X b mb) (hc : GE X c mc) (p : PE X (.Compare a [op, op'] [b, c] pos) (tChain r r' (tE X.K X.mg ma) (tE X.K X.mg mb) (tE X.K X.mg mc))) : GE X (.Compare a [op, op'] [b, c] pos) (mChain o o' ma mb mc) := le_E p (t_chain w w')
theorem gt_chain {op op' : CmpOp} {a b c : Expr} {pos : Pos} {r r' : R2} {o o' : MO2} {ma mb mc : ME} (w : OpW X.K X.mg r o) (w' : OpW X.K X.mg r' o') (p : PT X (.Compare a [op, op'] [b, c] pos) (tTest (tChain r r' (tE X.K X.mg ma) (tE X.K X.mg mb) (tE X.K X.mg mc)))) : GT X (.Compare a [op, op'] [b, c] pos) (mTb (mChain o o' ma mb mc)) := le_T p fun σ H Q t => t_chain w w' σ H _ (t_tb σ H Q t)
theorem gs_par {i j : Nat} {x y : Str} {a b : Expr} {ma : MA} {px py pt pos : Pos} {kt k2 : Nat} {pt2 : Pos} (hc : X.calm = true) (hN : X.N.Nodup) (hi : X.N[i]? = some x) (hj : X.N[j]? = some y) (hij : i ≠ j) (hx : X.env.scope.names.lookup x = some .local) (hy : X.env.scope.names.lookup y = some .local) (ha : GA X [a, b] ma)
    (hw : swappedStores [.Tuple [.Name x px, .Name y py] kt pt] (.Tuple [a, b] k2 pt2) X.env = pure (some [x, y])) (hs : swapsWithSole [.Tuple [.Name x px, .Name y py] kt pt] (.Tuple [a, b] k2 pt2) pos.line X.env = pure false := by rfl) :
    GS X (.Assign [.Tuple [.Name x px, .Name y py] kt pt] (.Tuple [a, b] k2 pt2) pos) (mPar i j ma) := le_S (ps_par hc hN hi hj hij hx hy ha hw hs) t_par
theorem gs_par3 {i j l : Nat} {x y z : Str} {a b c : Expr} {ma : MA} {px py pz pt pos : Pos} {kt k2 : Nat} {pt2 : Pos} (hc : X.calm = true) (hN : X.N.Nodup) (hi : X.N[i]? = some x) (hj : X.N[j]? = some y) (hl : X.N[l]? = some z) (hij : i ≠ j) (hil : i ≠ l) (hjl : j ≠ l) (hx : X.env.scope.names.lookup x = some .local) (hy : X.env.scope.names.lookup y = some .local) (hz : X.env.scope.names.lookup z = some .local) (ha : GA X [a, b, c] ma)
    (hw : swappedStores [.Tuple [.Name x px, .Name y py, .Name z pz] kt pt] (.Tuple [a, b, c] k2 pt2) X.env = pure (some [x, y, z])) (hs : swapsWithSole [.Tuple [.Name x px, .Name y py, .Name z pz] kt pt] (.Tuple [a, b, c] k2 pt2) pos.line X.env = pure false := by rfl) :
    GS X (.Assign [.Tuple [.Name x px, .Name y py, .Name z pz] kt pt] (.Tuple [a, b, c] k2 pt2) pos) (mPar3 i j l ma) := le_S (ps_par3 hc hN hi hj hl hij hil hjl hx hy hz ha hw hs) t_par3
/-- a call that writes our lists: what it made besides is let go -/
def clN (k : Nat) (h : Hm) : Nat → W → Option W
  | 0, _ => none
  | d + 1, .tup ws => (ws.mapM (clN k h d)).map .tup
  | d + 1, .fl ws => (ws.mapM (clN k h d)).map .fl
  | d + 1, .ro ws => (ws.mapM (clN k h d)).map .ro
  | d + 1, .loc n => if k ≤ n then (hl h n).bind fun ws => (ws.mapM (clN k h d)).map .fl else none
  | _ + 1, w => some w
def oldOs (k : Nat) : List (Nat × O) → List (Nat × O)
  | [] => []
  | (n, .lst ws) :: r => if n < k then (n, .lst ws) :: oldOs k r else oldOs k r
def cldO (k : Nat) : List (Nat × O) → Bool
  | [] => true
  | (n, .lst ws) :: r => (decide (k ≤ n) || ws.all (cld 20)) && cldO k r
def cG (m : MO) : MO := fun ws h => (m ws h).bind fun p => (clN h.nx p.2 20 p.1).bind fun w => if cldO h.nx p.2.os then some (w, ⟨h.nx, oldOs h.nx p.2.os⟩) else none
theorem clN_rv {k : Nat} {F F1 : Addr → Prop} {ρ ρ1 : List Addr} {h : Hm} {H : Hp} (g : Good K mg F ρ h H) (hF : ∀ a, F a → F1 a) (hL : ∀ p ∈ h.os, k ≤ p.1 → ∀ a, ρ[p.1]? = some a → F1 a) : ∀ (d : Nat) (w u : W) (v : V), clN k h d w = some u → RV K mg F ρ H w v → RV K mg F1 ρ1 H u v
  | 0, _, _, _, e, _ => by cases e
  | d + 1, w, u, v, e, r => by
    cases r with
    | non => cases e; exact .non
    | bl b => cases e; exact .bl b
    | int b => cases e; exact .int b
    | str b => cases e; exact .str b
    | fn a => cases e; exact .fn a
    | tup a b =>
      obtain ⟨us, e1, e2⟩ := Option.map_eq_some_iff.mp (show ((_ : List W).mapM (clN k h d)).map W.tup = some u from e)
      subst e2
      exact .tup a (rvs_mapM (clN_rv g hF hL d) e1 b)
    | fl f a b =>
      obtain ⟨us, e1, e2⟩ := Option.map_eq_some_iff.mp (show ((_ : List W).mapM (clN k h d)).map W.fl = some u from e)
      subst e2
      exact .fl (hF _ f) a (rvs_mapM (clN_rv g hF hL d) e1 b)
    | ro a b =>
      obtain ⟨us, e1, e2⟩ := Option.map_eq_some_iff.mp (show ((_ : List W).mapM (clN k h d)).map W.ro = some u from e)
      subst e2
      exact .ro a (rvs_mapM (clN_rv g hF hL d) e1 b)
    | @loc a n ea =>
      have e : (if k ≤ n then (hl h n).bind fun ws => (ws.mapM (clN k h d)).map W.fl else none) = some u := e
      split at e
      · rename_i hk
        obtain ⟨ws, e0, e⟩ := bind_some e
        obtain ⟨us, e1, e2⟩ := Option.map_eq_some_iff.mp e
        subst e2
        obtain ⟨a', vs, ea', nf, eH, rs, lv⟩ := g.at (hl_eq e0)
        rw [ea] at ea'; cases ea'
        exact .fl (hL _ (lk_mem (hl_eq e0)) hk _ ea) eH (rvs_mapM (clN_rv g hF hL d) e1 rs)
      · cases e
theorem oldOs_mem {k : Nat} {p : Nat × O} : ∀ {os : List (Nat × O)}, p ∈ oldOs k os → p ∈ os ∧ p.1 < k
  | (n, .lst ws) :: r, h => by
    unfold oldOs at h
    split at h
    · rename_i hn
      rcases List.mem_cons.mp h with rfl | h
      · exact ⟨by simp, hn⟩
      · obtain ⟨a, b⟩ := oldOs_mem h; exact ⟨by simp [a], b⟩
    · obtain ⟨a, b⟩ := oldOs_mem h; exact ⟨by simp [a], b⟩
theorem oldOs_sub (k : Nat) : ∀ os : List (Nat × O), List.Sublist ((oldOs k os).map (·.1)) (os.map (·.1))
  | [] => .slnil
  | (n, .lst ws) :: r => by
    unfold oldOs
    split
    · exact (oldOs_sub k r).cons_cons _
    · exact (oldOs_sub k r).cons _
theorem cldO_mem {k n : Nat} {ws : List W} : ∀ {os : List (Nat × O)}, cldO k os = true → (n, O.lst ws) ∈ os → n < k → ws.all (cld 20) = true
  | (m, .lst us) :: r, e, h, hn => by
    unfold cldO at e
    rw [Bool.and_eq_true, Bool.or_eq_true] at e
    rcases List.mem_cons.mp h with z | h
    · cases z
      rcases e.1 with z | z
      · have := of_decide_eq_true z; omega
      · exact z
    · exact cldO_mem e.2 h hn
theorem sp_G {m : MO} {n : Nat} {E : XK} : CW K mg (fun vs H Q => vs.length = n → spM K mg m n vs H Q E) (cG m) := fun F ρ h H xs as w h' Q g r e q hl => by
  obtain ⟨⟨w0, h0⟩, e1, e⟩ := bind_some e
  obtain ⟨w1, e2, e⟩ := bind_some e
  have e : (if cldO h.nx h0.os then some (w1, (⟨h.nx, oldOs h.nx h0.os⟩ : Hm)) else none) = some (w, h') := e
  split at e
  · rename_i hcl
    cases e
    refine ⟨hl, F, ρ, h, as, w0, h0, g, r, e1, fun F' ρ' H' v x g' rv => ?_⟩
    obtain ⟨more, er⟩ := x.rho
    have hnx : h.nx = ρ.length := g.nx
    have old : ∀ n a, n < h.nx → (ρ'[n]? = some a ↔ ρ[n]? = some a) := fun n a hn => by
      rw [er, List.getElem?_append_left (by omega)]
    have newF : ∀ a, (∃ p ∈ h0.os, h.nx ≤ p.1 ∧ ρ'[p.1]? = some a) → Live ρ' h0 a := fun a ⟨p, hp, _, ep⟩ => ⟨p, hp, ep⟩
    have ex : Ext F ρ h H (fun a => F' a ∨ ∃ p ∈ h0.os, h.nx ≤ p.1 ∧ ρ'[p.1]? = some a) ρ ⟨h.nx, oldOs h.nx h0.os⟩ H' := by
      refine ⟨⟨[], by simp⟩, fun a fa => .inl (x.fF a fa), fun a fa => ?_, x.keep, fun a l => ?_⟩
      · rcases fa with fa | fa
        · exact x.fN a fa
        · exact (x.live a (newF a fa)).elim (fun z => .inr (.inr z)) fun z => .inr (.inl z)
      · obtain ⟨p, hp, ep⟩ := l
        obtain ⟨hp1, hp2⟩ := oldOs_mem hp
        exact x.live a ⟨p, hp1, (old _ _ hp2).mpr ep⟩
    refine q _ ρ H' v ex ⟨hnx, (oldOs_sub h.nx h0.os).nodup g'.key, fun p hp p2 hp2 eq => ?_, fun p hp => ?_, fun a fa => ?_⟩ ?_
    · obtain ⟨a1, b1⟩ := oldOs_mem hp
      obtain ⟨a2, b2⟩ := oldOs_mem hp2
      refine g'.inj p a1 p2 a2 ?_
      rw [er, List.getElem?_append_left (by omega), List.getElem?_append_left (by omega)]
      exact eq
    · obtain ⟨a1, b1⟩ := oldOs_mem hp
      obtain ⟨a, ea, nf, ro⟩ := g'.obj p a1
      refine ⟨a, (old _ _ b1).mp ea, fun fa => ?_, ?_⟩
      · rcases fa with fa | ⟨p2, hp2, hk2, ep2⟩
        · exact nf fa
        · have := g'.inj p a1 p2 hp2 (by rw [ea, ep2])
          omega
      · match p, ro, a1, b1 with
        | (n, .lst ws), ro, a1, b1 =>
          obtain ⟨vs, q1, q2⟩ := ro
          refine ⟨vs, q1, rvs_all (p := cld 20) (fun w v c r => ?_) (cldO_mem hcl a1 b1) q2⟩
          have r2 := rv_mono (more := []) (F1 := fun a => F' a ∨ ∃ p ∈ h0.os, h.nx ≤ p.1 ∧ ρ'[p.1]? = some a) (fun a z => .inl z) (cld_rv (ρ1 := ρ) 20 w v c r)
          rw [List.append_nil] at r2
          exact r2
    · rcases fa with fa | fa
      · exact g'.fr a fa
      · obtain ⟨_, vs, e⟩ := g'.lst (newF a fa); exact ⟨_, e⟩
    · exact clN_rv g' (fun a z => .inl z) (fun p hp hk a ep => .inr ⟨p, hp, hk, ep⟩) 20 w0 w v e2 rv
  · cases e
/-- the value that comes, its list ours -/
def cOw (m : MO) : MO := fun ws h => match cO m ws h with
  | some r => some r
  | none => cP m ws h
theorem sp_Ow {m : MO} {n : Nat} {E : XK} : CW K mg (fun vs H Q => vs.length = n → spM K mg m n vs H Q E) (cOw m) := fun F ρ h H xs as w h' Q g r e q hl => by
  unfold cOw at e
  split at e
  · rename_i z ez; cases e; exact sp_O F ρ h H xs as w h' Q g r ez q hl
  · exact sp_P F ρ h H xs as w h' Q g r e q hl
theorem fn0 {P : Program} {w : World} {base : Heap} {f : Addr} {fd : FuncData} {ps : List Str} {k : Nat} : FnOk P w K mg base CX0 k f fd ps (spM K mg (fun _ _ => none) ps.length) :=
  ⟨fun vs H Q E h => h.1, fun A outer s H args us vs Q E hr he hb hv hs => by obtain ⟨_, F, ρ, h, ws, w, h', _, _, e, _⟩ := hs; cases e⟩
/-- the law's own promise: the script is a list that is read -/
def spLaw (K : PySem.W.Frag) (mg : Str → Option Value) (m : MO) : Sp := fun vs H Q E => spM K mg m 1 vs H Q E
theorem law_sp {m : MO} (hm : ∀ ns : List Int, ns.length ≤ 63 → ∃ h', m [.ro (ns.map W.int)] .empty = some (.bl true, h')) {H : Hp} {a : Addr} {ns : List Int} (hl : ns.length ≤ 63) (hS : RoL K H a (ns.map V.int)) : spM K mg m 1 [.ref a] H (fun v _ => v = .bl true) fun _ _ _ => False := by
  obtain ⟨h', e⟩ := hm ns hl
  have rv : RVs K mg (fun _ => False) [] H (ns.map W.int) (ns.map V.int) := by
    clear hl hS e hm
    induction ns with
    | nil => exact .nil
    | cons n ns ih => exact .cons (.int n) ih
  refine ⟨rfl, fun _ => False, [], .empty, [.ro (ns.map W.int)], .bl true, h', ⟨rfl, .nil, (fun p hp => by cases hp), (fun p hp => by cases hp), fun _ z => z.elim⟩, .cons (.ro hS rv) .nil, e, fun F' ρ' H' v x g r => ?_⟩
  cases r; rfl
end
end G

set_option Elab.async false
set_option linter.all false
set_option maxRecDepth 100000
set_option maxHeartbeats 4000000
namespace G
open PySem PySem.Spec PyProof.Rows L2 PySem.W
open PySem.Calls in
/-- sorted(x), x of one item or none -/
theorem sorted_few {prog : Program} {w : World} {A : Around} {E : Value → Shared → Prop} {s : Shared} {vs : List Value} {l : Addr} {T : String} {o : Obj} {n : Nat} {Q : Value → Shared → Prop} (hT : T = "list" ∨ T = "tuple")
    (ho : s.heap.get? l = some o) (hc : o.cls = .type T) (hd : o.data = .seq vs.toArray n) (hL : vs.length < 2)
    (h : ∀ (h' : Heap) (D : Addr) (c : Nat), (∀ b u, s.heap.get? b = some u → b ≠ D) → (∀ b u, s.heap.get? b = some u → h'.get? b = some u) → h'.get? D = some (seqObj "list" vs.toArray c) → Q (.ref D) { s with heap := h' }) :
    wpAny (model prog w) A (call (.builtin "sorted") [.ref l]) Q E s := by
  have hz : vs.length ≤ sizeLine := by rw [sizeLine_eq]; omega
  refine Calls.call_function_entry kind_sorted plain_sorted entry_sorted (args_sorted1 _) ?_
  unfold Builtin.«sorted»
  refine wpAny_bind (m := checkCount "sorted" 1 1 _) (wpAny_pure ?_)
  refine wpAny_bind (wpAny_collect_seq (hsz := by rw [List.size_toArray]; exact hz) l hT ho hc hd fun h1 k1 => ?_)
  rw [show vs.toArray.toList = vs by simp]
  refine wpAny_bind (wpAny_newList ?_ hz)
  have hoL : (h1.push (seqObj "list" vs.toArray 0)).get? h1.objs.size = some (seqObj "list" vs.toArray 0) := Heap.get?_push_size _ rfl
  have k2 : ∀ b u, s.heap.get? b = some u → (h1.push (seqObj "list" vs.toArray 0)).get? b = some u := fun b u q => Heap.get?_push_of_some _ (k1 b u q)
  refine wpAny_bind (wpAny_holding ?_)
  refine wpAny_call_entry (s := { s with heap := h1.push (seqObj "list" vs.toArray 0) }) slot_list_sort ⟨_, hoL, rfl⟩ entry_list_sort (Srt.list_sort_any hoL hz (fun h2 => absurd h2 (by omega)) fun out hout => ⟨_, rfl, ?_⟩) (args_list_sort _)
  refine wpAny_pure ?_
  obtain ⟨c, hc9⟩ := sortedHeap_at (vs := vs) (out := out.toArray) hoL
  have e : out = vs := by
    match vs, hL, hout with
    | [], _, hout => exact List.Perm.eq_nil hout
    | [v], _, hout => exact List.perm_singleton.mp hout
  subst e
  refine ⟨_, rfl, h (sortedHeap (h1.push (seqObj "list" out.toArray 0)) h1.objs.size out out.toArray) h1.objs.size c ?_ (fun b u q => ?_) hc9⟩
  · exact fun b u q => Nat.ne_of_lt (Heap.lt_size (k1 b u q))
  · have l1 := Heap.lt_size (k1 b u q)
    rw [sortedHeap_old (Nat.ne_of_lt l1) (by rw [Heap.size_push]; exact Nat.lt_succ_of_lt l1)]
    exact k2 b u q
def rFew (K : PySem.W.Frag) : List V → Hp → VK → Prop := fun xs H Q => ∃ (p : Addr) (vs : List V), xs = [.ref p] ∧ (SqL K H p vs ∨ SqT K H p vs) ∧ vs.length < 2 ∧ ∀ l, H l = none → Q (.ref l) (upd H l (.lst vs))
theorem cr_few {X : Cx} : CallR X (.builtin "sorted") (rFew X.K) := by
  intro pins s σ H xs us Q I r h
  obtain ⟨p, vs, rfl, hs, hz, q⟩ := h
  rw [Vals.ref1 r]
  obtain ⟨T, o, n, its, hT, ho, hc, hd, rv⟩ : ∃ (T : String) (o : Obj) (n : Nat) (its : List Value), (T = "list" ∨ T = "tuple") ∧ s.heap.get? p = some o ∧ o.cls = .type T ∧ o.data = .seq its.toArray n ∧ Vals vs its := by
    rcases hs with hs | hs
    · obtain ⟨its, rv, hl, _⟩ := I.list hs
      obtain ⟨o, ho, hc, n, hd⟩ := hl.isList
      exact ⟨_, o, n, its, .inl rfl, ho, hc, hd, rv⟩
    · obtain ⟨its, rv, hl, _⟩ := I.tuple hs
      obtain ⟨o, ho, hc, n, hd⟩ := (show s.heap.IsTuple p its.toArray from hl)
      exact ⟨_, o, n, its, .inr rfl, ho, hc, hd, rv⟩
  refine sorted_few hT ho hc hd (by rw [← rv.length]; exact hz) fun h' D c hD kk hgD => ?_
  obtain ⟨hn, I2⟩ := inv_laid (a := D) (o := .lst vs) (tk := s.toks) I kk hD ⟨by rw [sizeLine_eq]; omega, its, c, rv, hgD⟩
  exact ⟨.ref D, _, I2, rfl, q D hn⟩
def rSort2 (K : PySem.W.Frag) : List V → Hp → VK → Prop := fun xs H Q => rFew K xs H Q ∨ rSortK K xs H Q
theorem cr_sort2 {X : Cx} (hu : X.A.units + 64 < cLine) : CallR X (.builtin "sorted") (rSort2 X.K) := by
  intro pins s σ H xs us Q I r h
  rcases h with h | h
  · exact cr_few pins s σ H xs us Q I r h
  · exact cr_sortK hu pins s σ H xs us Q I r h
def oSort2 (own : Bool) : MO := fun ws h => match ws with
  | [w] => (iq h w).bind fun us => if us.length < 2 then some (mk own us h) else oSorted own [w] h
  | _ => none
theorem w_sort2 {K : PySem.W.Frag} {mg : Str → Option Value} {own : Bool} : CW K mg (rSort2 K) (oSort2 own) := fun F ρ h H xs as w h' Q g r e q => by
  match as, r, e with
  | [], .nil, e => cases e
  | _ :: _ :: _, _, e => cases e
  | [a], .cons ra .nil, e =>
    obtain ⟨us, e1, e⟩ := bind_some e
    split at e
    · rename_i hl
      have e : mk own us h = (w, h') := Option.some.inj e
      obtain ⟨p, ys, e3, e4, e5⟩ := iq_ok g ra e1
      exact .inl ⟨p, ys, by rw [e3], e4, by rw [← e5.length]; exact hl, new_lst own g e5 (by rw [e]; exact q)⟩
    · exact .inr (w_sorted F ρ h H _ _ w h' Q g (.cons ra .nil) e q)
end G

set_option Elab.async false
set_option linter.all false
set_option maxRecDepth 100000
set_option maxHeartbeats 4000000
namespace G
open PySem PySem.Spec PyProof.Rows L2
/-! list(zip(x, y)) of two lists -/
theorem nolen_zip : typeLookup (.type "zip") "__len__" = pure none := by rw [typeLookup_type, builtinLookup_eq_fast]; kernel_rfl
theorem nohint_zip : typeLookup (.type "zip") "__length_hint__" = pure none := by rw [typeLookup_type, builtinLookup_eq_fast]; kernel_rfl
theorem nA {a b : Nat} (h : a < b ∨ b < a) : @Ne Addr a b := fun e => by have : a = b := e; omega
abbrev IsZipB (h : Heap) (z TI TO : Addr) (f0 : Value) (b : Bool) : Prop :=
  h.get? z = some { cls := .type "zip", dict := none, data := .fields #[f0, .bool b, .bool false, .ref TI, .ref TO], slots := #[] }
section
variable {prog : Program} {w : World} {A : Around} {E : Value → Shared → Prop} {s : Shared}
theorem wpAny_alive {a : Addr} {o : Obj} {Q : Option Obj → Shared → Prop} (h : s.heap.get? a = some o) (q : Q (some o) s) : wpAny (model prog w) A (loadIfAlive a) Q E s := fun Γ p _ => by
  show Sem.wp _ _ (Sem.loadIfAlive a .pure) _ _ p s
  rw [Sem.wp_loadIfAlive, h]
  exact q
theorem owned_free_alive {z TI TO old : Addr} {b : Bool} {oo : Obj} {Q : Bool → Shared → Prop} (hz : IsZipB s.heap z TI TO (rawInt old) b) (hold : s.heap.get? old = some oo)
    (q : ∀ h', IsZipB h' z TI TO (rawInt old) true → Heap.SameBut z s.heap h' → Q false { s with heap := h' }) : wpAny (model prog w) A (Builtin.SmallTypes.ownedTupleIsFree (.ref z)) Q E s := by
  unfold Builtin.SmallTypes.ownedTupleIsFree
  refine wpAny_bind (wpAny_field hz rfl (x := rawInt old) rfl ?_)
  show wpAny _ _ (loadIfAlive ((old : Int)).toNat >>= _) _ _ _
  refine wpAny_bind (wpAny_alive (o := oo) (by rw [Int.toNat_natCast]; exact hold) ?_)
  simp only [Option.isNone_some, Bool.false_eq_true, if_false]
  refine wpAny_bind (wpAny_field hz rfl (x := .bool b) rfl ?_)
  cases b with
  | true =>
    rw [if_neg (by decide)]
    exact wpAny_pure (q s.heap hz ⟨rfl, fun _ _ => rfl⟩)
  | false =>
    rw [if_pos (by decide)]
    refine wpAny_bind (wpAny_setField_rec hz (by simp) fun h₁ hz₁ hs₁ => ?_)
    exact wpAny_pure (q h₁ hz₁ hs₁)
theorem zip_next_old {z TI TO i1 i2 l1 l2 old : Addr} {k1 k2 : Nat} {xs ys : Array Value} {x y a b : Value} {bb : Bool} {oo : Obj} {Q : Value → Shared → Prop} (D : ZipApart z TI TO i1 i2 l1 l2)
    (hz : IsZipB s.heap z TI TO (rawInt old) bb) (hold : s.heap.get? old = some oo) (hTI : IsPair s.heap TI (.ref i1) (.ref i2)) 
    (h1 : s.heap.IsListIter i1 l1 k1) (h2 : s.heap.IsListIter i2 l2 k2) (hl1 : s.heap.IsList l1 xs) (hl2 : s.heap.IsList l2 ys) (hx : xs[k1]? = some x) (hy : ys[k2]? = some y)
    (hQ : ∀ h', IsZipB h' z TI TO (rawInt old) true → h'.IsListIter i1 l1 (k1 + 1) → h'.IsListIter i2 l2 (k2 + 1) → IsPair h' s.heap.objs.size x y → h'.objs.size = s.heap.objs.size + 1 →
      (∀ c o, c ≠ z → c ≠ i1 → c ≠ i2 → s.heap.get? c = some o → h'.get? c = some o) → Q (.ref s.heap.objs.size) { s with heap := h' }) :
    wpAny (model prog w) A (Builtin.«zip.__next__» ⟨[.ref z], []⟩) (fun fin s' => ∃ v, fin = .done (.ret v) ∧ Q v s') E s := by
  show wpAny _ _ (field (.ref z) 2 >>= _) _ _ _
  refine wpAny_bind (wpAny_field hz rfl (x := .bool false) rfl ?_)
  show wpAny _ _ (field (.ref z) 3 >>= _) _ _ _
  refine wpAny_bind (wpAny_field hz rfl (x := .ref TI) rfl ?_)
  refine wpAny_bind (wpAny_seqItems hTI rfl ?_)
  show wpAny _ _ (Builtin.SmallTypes.ownedTupleIsFree (.ref z) >>= _) _ _ _
  refine wpAny_bind (owned_free_alive hz hold fun h₁ hz₁ hs₁ => ?_)
  simp only [Bool.false_eq_true, if_false]
  refine wpAny_bind ?_
  first
  | rw [List.forIn_toArray]
  | (rw [← Array.forIn_toList]; simp only [List.toList_toArray])
  | rw [← Array.forIn_toList]
  simp only [List.forIn_cons, List.forIn_nil]
  refine wpAny_bind (wpAny_bind (wpAny_holding ?_))
  show wpAny _ _ (Builtin.SmallTypes.nextOf (.ref i1) >>= _) _ _ _
  refine wpAny_bind (wpAny_nextOf_list_item (h1.extBut hs₁.extBut D.i1z) (hl1.extBut hs₁.extBut D.l1z) hx fun h₂ h1₂ hs₂ => wpAny_pure ?_)
  refine wpAny_pure ?_
  refine wpAny_bind (wpAny_bind (wpAny_holding ?_))
  show wpAny _ _ (Builtin.SmallTypes.nextOf (.ref i2) >>= _) _ _ _
  refine wpAny_bind (wpAny_nextOf_list_item ((h2.extBut hs₁.extBut D.i2z).extBut hs₂.extBut D.i12.symm)
    ((hl2.extBut hs₁.extBut D.l2z).extBut hs₂.extBut D.l2i1) hy fun h₄ h2₄ hs₄ => wpAny_pure ?_)
  refine wpAny_pure ?_
  refine wpAny_pure ?_
  show wpAny _ _ (newTuple [x, y] >>= _) _ _ _
  refine wpAny_bind (wpAny_newTuple ?_)
  have hsz : h₄.objs.size = s.heap.objs.size := by rw [hs₄.1, hs₂.1, hs₁.1]
  have hz₄ : IsZipB h₄ z TI TO (rawInt old) true := hs₄.extBut _ _ D.i2z.symm (hs₂.extBut _ _ D.i1z.symm hz₁)
  have hk₄ : ∀ c o, c ≠ z → c ≠ i1 → c ≠ i2 → s.heap.get? c = some o → h₄.get? c = some o := fun c o c1 c3 c4 e => hs₄.extBut _ _ c4 (hs₂.extBut _ _ c3 (hs₁.extBut _ _ c1 e))
  have h1₄ : h₄.IsListIter i1 l1 (k1 + 1) := h1₂.extBut hs₄.extBut D.i12
  refine wpAny_pure ⟨_, rfl, ?_⟩
  show Q (.ref h₄.objs.size) _
  have up : ∀ c o, h₄.get? c = some o → (h₄.push { cls := .type "tuple", data := .seq #[x, y] }).get? c = some o := fun c o e => Heap.get?_push_of_some _ e
  have hT : IsPair (h₄.push { cls := .type "tuple", data := .seq #[x, y] }) h₄.objs.size x y := Heap.get?_push_size _ rfl
  rw [hsz] at hT ⊢
  exact hQ _ (up _ _ hz₄) (h1₄.at fun o e => up _ o e) (h2₄.at fun o e => up _ o e) hT (by rw [Heap.size_push, hsz]) fun c o c1 c3 c4 e => up c o (hk₄ c o c1 c3 c4 e)
theorem zip_end_old {z TI TO i1 i2 l1 l2 old : Addr} {k1 k2 : Nat} {xs ys : Array Value} {bb : Bool} {oo : Obj} {Q : Fin → Shared → Prop} (hh : A.handled = none) (D : ZipApart z TI TO i1 i2 l1 l2)
    (hz : IsZipB s.heap z TI TO (rawInt old) bb) (hold : s.heap.get? old = some oo) (hTI : IsPair s.heap TI (.ref i1) (.ref i2))
    (h1 : s.heap.IsListIter i1 l1 k1) (h2 : s.heap.IsListIter i2 l2 k2) (hl1 : s.heap.IsList l1 xs) (hl2 : s.heap.IsList l2 ys) (hend : xs[k1]? = none ∨ ys[k2]? = none)
    (hE : ∀ h' e, (∀ c o, c ≠ z → c ≠ i1 → c ≠ i2 → s.heap.get? c = some o → h'.get? c = some o) → (∃ o, h'.get? e = some o ∧ o.cls = .type "StopIteration") → E (.ref e) { s with heap := h' }) :
    wpAny (model prog w) A (Builtin.«zip.__next__» ⟨[.ref z], []⟩) Q E s := by
  show wpAny _ _ (field (.ref z) 2 >>= _) _ _ _
  refine wpAny_bind (wpAny_field hz rfl (x := .bool false) rfl ?_)
  show wpAny _ _ (field (.ref z) 3 >>= _) _ _ _
  refine wpAny_bind (wpAny_field hz rfl (x := .ref TI) rfl ?_)
  refine wpAny_bind (wpAny_seqItems hTI rfl ?_)
  show wpAny _ _ (Builtin.SmallTypes.ownedTupleIsFree (.ref z) >>= _) _ _ _
  refine wpAny_bind (owned_free_alive hz hold fun h₁ hz₁ hs₁ => ?_)
  simp only [Bool.false_eq_true, if_false]
  refine wpAny_bind ?_
  first
  | rw [List.forIn_toArray]
  | (rw [← Array.forIn_toList]; simp only [List.toList_toArray])
  | rw [← Array.forIn_toList]
  simp only [List.forIn_cons, List.forIn_nil]
  refine wpAny_bind (wpAny_bind (wpAny_holding ?_))
  show wpAny _ _ (Builtin.SmallTypes.nextOf (.ref i1) >>= _) _ _ _
  cases hx : xs[k1]? with
  | none =>
    refine wpAny_bind (wpAny_nextOf_list_end hh (h1.extBut hs₁.extBut D.i1z) (hl1.extBut hs₁.extBut D.l1z) hx fun h₂ e hs₂ he => ?_)
    exact hE h₂ e (fun c o c1 c3 _ x => hs₂ _ _ c3 (hs₁.extBut _ _ c1 x)) he
  | some x =>
    have hy : ys[k2]? = none := by rcases hend with h | h; rw [hx] at h; cases h; exact h
    refine wpAny_bind (wpAny_nextOf_list_item (h1.extBut hs₁.extBut D.i1z) (hl1.extBut hs₁.extBut D.l1z) hx fun h₂ h1₂ hs₂ => wpAny_pure ?_)
    refine wpAny_pure ?_
    refine wpAny_bind (wpAny_bind (wpAny_holding ?_))
    show wpAny _ _ (Builtin.SmallTypes.nextOf (.ref i2) >>= _) _ _ _
    refine wpAny_bind (wpAny_nextOf_list_end hh ((h2.extBut hs₁.extBut D.i2z).extBut hs₂.extBut D.i12.symm)
      ((hl2.extBut hs₁.extBut D.l2z).extBut hs₂.extBut D.l2i1) hy fun h₄ e hs₄ he => ?_)
    exact hE h₄ e (fun c o c1 c3 c4 x => hs₄ _ _ c4 (hs₂.extBut _ _ c3 (hs₁.extBut _ _ c1 x))) he
/-- pyNext of a zip whose last tuple stands -/
theorem pyNext_zip_old {z TI TO i1 i2 l1 l2 old : Addr} {k1 k2 : Nat} {xs ys : Array Value} {x y : Value} {bb : Bool} {oo : Obj} {Q : Option Value → Shared → Prop} (D : ZipApart z TI TO i1 i2 l1 l2)
    (hz : IsZipB s.heap z TI TO (rawInt old) bb) (hold : s.heap.get? old = some oo) (hTI : IsPair s.heap TI (.ref i1) (.ref i2)) 
    (h1 : s.heap.IsListIter i1 l1 k1) (h2 : s.heap.IsListIter i2 l2 k2) (hl1 : s.heap.IsList l1 xs) (hl2 : s.heap.IsList l2 ys) (hx : xs[k1]? = some x) (hy : ys[k2]? = some y)
    (hQ : ∀ h', IsZipB h' z TI TO (rawInt old) true → h'.IsListIter i1 l1 (k1 + 1) → h'.IsListIter i2 l2 (k2 + 1) → IsPair h' s.heap.objs.size x y → h'.objs.size = s.heap.objs.size + 1 →
      (∀ c o, c ≠ z → c ≠ i1 → c ≠ i2 → s.heap.get? c = some o → h'.get? c = some o) → Q (some (.ref s.heap.objs.size)) { s with heap := h' }) :
    wpAny (model prog w) A (pyNext (.ref z)) Q E s := by
  have hT : s.TypeIs (.ref z) "zip" := ⟨_, hz, rfl⟩
  unfold pyNext
  exact wpAny_bind (wpAny_attempt (wpAny_callSpecial?_slot (name := Str.ofString "__next__") hT F.slot_zip_next
    (wpAny_call_entry F.slot_zip_next hT F.entry_zip_next
      (zip_next_old (a := .none) (b := .none) D hz hold hTI h1 h2 hl1 hl2 hx hy fun h' a1 a2 a3 a4 a5 a6 => wpAny_pure (hQ h' a1 a2 a3 a4 a5 a6)) (F.args_zip_next_1 _))))
theorem pyNext_zip_end {z TI TO i1 i2 l1 l2 old : Addr} {k1 k2 : Nat} {xs ys : Array Value} {bb : Bool} {oo : Obj} {Q : Option Value → Shared → Prop} (hh : A.handled = none) (D : ZipApart z TI TO i1 i2 l1 l2)
    (hz : IsZipB s.heap z TI TO (rawInt old) bb) (hold : s.heap.get? old = some oo) (hTI : IsPair s.heap TI (.ref i1) (.ref i2))
    (h1 : s.heap.IsListIter i1 l1 k1) (h2 : s.heap.IsListIter i2 l2 k2) (hl1 : s.heap.IsList l1 xs) (hl2 : s.heap.IsList l2 ys) (hend : xs[k1]? = none ∨ ys[k2]? = none)
    (hQ : ∀ h', (∀ c o, c ≠ z → c ≠ i1 → c ≠ i2 → s.heap.get? c = some o → h'.get? c = some o) → Q none { s with heap := h' }) : wpAny (model prog w) A (pyNext (.ref z)) Q E s := by
  have hT : s.TypeIs (.ref z) "zip" := ⟨_, hz, rfl⟩
  unfold pyNext
  refine wpAny_bind (wpAny_attempt (wpAny_callSpecial?_slot (name := Str.ofString "__next__") hT F.slot_zip_next
    (wpAny_call_entry F.slot_zip_next hT F.entry_zip_next (zip_end_old hh D hz hold hTI h1 h2 hl1 hl2 hend fun h' e hk he => ?_) (F.args_zip_next_1 _))))
  obtain ⟨o, ho, hc⟩ := he
  refine wpAny_bind (wpAny_isInstance (T := "StopIteration") (b := true) ⟨o, ho, hc⟩ isSubtype_stop ?_)
  exact wpAny_pure (hQ _ hk)
/-- where list(zip(l1, l2)) stands behind k turns; n the first new address -/
structure Zs (h0 h : Heap) (n l1 l2 : Nat) (xs ys : Array Value) (k : Nat) (ts : List Nat) : Prop where
  kp : ∀ (b : Nat) o, h0.get? b = some o → h.get? b = some o
  hS : ∃ c, h.get? (n + 5) = some { cls := .type "list", dict := none, data := .seq (ts.map Value.ref).toArray c, slots := #[] }
  TI : IsPair h (n + 2) (.ref n) (.ref (n + 1))
  i1 : h.IsListIter n l1 k
  i2 : h.IsListIter (n + 1) l2 k
  zz : (IsZip h (n + 4) (n + 2) (n + 3) .none ∧ ∃ a b, IsPair h (n + 3) a b) ∨ ∃ (old : Nat) (oo : Obj) (b : Bool), IsZipB h (n + 4) (n + 2) (n + 3) (rawInt old) b ∧ h.get? old = some oo ∧ n + 5 < old
  len : ts.length = k
  it : ∀ (j : Nat) (t : Nat), ts[j]? = some t → ∃ x y, xs[j]? = some x ∧ ys[j]? = some y ∧ IsPair h t x y
  new : ∀ t ∈ ts, n + 5 < t ∧ t < h.objs.size
  nd : ts.Nodup
theorem extend_zip {A : Around} {R : Result → Shared → Prop} {h0 : Heap} {n l1 l2 : Nat} {xs ys : Array Value} {res : Value} (hn : n = h0.objs.size) (hh : A.handled = none) (hl1 : h0.IsList l1 xs) (hl2 : h0.IsList l2 ys) (hz1 : xs.size ≤ sizeLine) :
    ∀ (m k : Nat) (ts : List Nat) (s : Shared), min xs.size ys.size - k = m → k ≤ min xs.size ys.size → Zs h0 s.heap n l1 l2 xs ys k ts →
    (∀ (h' : Heap) (c : Nat) (ts : List Nat), (∀ (b : Nat) o, h0.get? b = some o → h'.get? b = some o) → h'.get? (n + 5) = some { cls := .type "list", dict := none, data := .seq (ts.map Value.ref).toArray c, slots := #[] } → ts.length = min xs.size ys.size →
      (∀ (j : Nat) (t : Nat), ts[j]? = some t → ∃ x y, xs[j]? = some x ∧ ys[j]? = some y ∧ IsPair h' t x y) → (∀ t ∈ ts, n + 5 < t) → ts.Nodup → R (.ok (.ret res)) { s with heap := h' }) →
    codeAny (model prog w) A (.builtin "list.extend.loop" ⟨[.ref (n + 5), .ref (n + 4), res], []⟩) R s := by
  have L1 : l1 < n := by rw [hn]; obtain ⟨o, ho, _⟩ := hl1; exact Heap.lt_size ho
  have L2 : l2 < n := by rw [hn]; obtain ⟨o, ho, _⟩ := hl2; exact Heap.lt_size ho
  have D : ZipApart (n + 4) (n + 2) (n + 3) n (n + 1) l1 l2 := PySem.W.ktu_apart n l1 l2 L1 L2
  have old0 : ∀ (b : Nat) o, h0.get? b = some o → b < n := fun b o e => by rw [hn]; exact Heap.lt_size e
  intro m
  induction m with
  | zero =>
    intro k ts s hk hi Z hR
    obtain ⟨c, ZS⟩ := Z.hS
    have hend : xs[k]? = none ∨ ys[k]? = none := by
      have : xs.size ≤ k ∨ ys.size ≤ k := by omega
      rcases this with q | q
      · left; simp; omega
      · right; simp; omega
    have hl1' : s.heap.IsList l1 xs := by obtain ⟨o, ho, r⟩ := hl1; exact ⟨o, Z.kp _ _ ho, r⟩
    have hl2' : s.heap.IsList l2 ys := by obtain ⟨o, ho, r⟩ := hl2; exact ⟨o, Z.kp _ _ ho, r⟩
    refine codeAny_builtin F.entry_extend_loop ?_
    rw [Around.under_plainId F.plain_extend_loop _]
    show wpAny _ A.in1 (pyNext (.ref (n + 4)) >>= _) _ _ s
    have fin : ∀ h' : Heap, (∀ (c : Nat) o, c ≠ n + 4 → c ≠ n + 3 → c ≠ n → c ≠ n + 1 → s.heap.get? c = some o → h'.get? c = some o) → R (.ok (.ret res)) { s with heap := h' } := fun h' kk => by
      refine hR h' c ts (fun b o e => ?_) (kk _ _ (by omega) (by omega) (by omega) (by omega) ZS) (by rw [Z.len]; omega) (fun j t e => ?_) (fun t ht => (Z.new t ht).1) Z.nd
      · have := old0 b o e
        exact kk b o (by omega) (by omega) (by omega) (by omega) (Z.kp b o e)
      · obtain ⟨x, y, e1, e2, e3⟩ := Z.it j t e
        have := (Z.new t (List.mem_of_getElem? e)).1
        exact ⟨x, y, e1, e2, kk _ _ (by omega) (by omega) (by omega) (by omega) e3⟩
    rcases Z.zz with ⟨z0, a, b, z1⟩ | ⟨old, oo, b, z0, z1, z2⟩
    · refine wpAny_bind (wpAny_pyNext_zip_end hh D z0 Z.TI z1 Z.i1 Z.i2 hl1' hl2' hend fun h' kk => ?_)
      exact wpAny_pure (fin h' kk)
    · refine wpAny_bind (pyNext_zip_end hh D z0 z1 Z.TI Z.i1 Z.i2 hl1' hl2' hend fun h' kk => ?_)
      exact wpAny_pure (fin h' fun c o c1 _ c3 c4 e => kk c o c1 c3 c4 e)
  | succ m ih =>
    intro k ts s hk hi Z hR
    obtain ⟨c, ZS⟩ := Z.hS
    have hlt1 : k < xs.size := by omega
    have hlt2 : k < ys.size := by omega
    have hx : xs[k]? = some xs[k] := by simp
    have hy : ys[k]? = some ys[k] := by simp
    have hl1' : s.heap.IsList l1 xs := by obtain ⟨o, ho, r⟩ := hl1; exact ⟨o, Z.kp _ _ ho, r⟩
    have hl2' : s.heap.IsList l2 ys := by obtain ⟨o, ho, r⟩ := hl2; exact ⟨o, Z.kp _ _ ho, r⟩
    have hSlt : n + 5 < s.heap.objs.size := Heap.lt_size ZS
    refine codeAny_builtin F.entry_extend_loop ?_
    rw [Around.under_plainId F.plain_extend_loop _]
    show wpAny _ A.in1 (pyNext (.ref (n + 4)) >>= _) _ _ s
    have fin : ∀ h' : Heap, (∀ (c : Nat) o, c ≠ n + 4 → c ≠ n + 3 → c ≠ n → c ≠ n + 1 → s.heap.get? c = some o → h'.get? c = some o) → (∃ (old : Nat) (oo : Obj) (b : Bool), IsZipB h' (n + 4) (n + 2) (n + 3) (rawInt old) b ∧ h'.get? old = some oo ∧ n + 5 < old) → h'.IsListIter n l1 (k + 1) → h'.IsListIter (n + 1) l2 (k + 1) →
        IsPair h' s.heap.objs.size xs[k] ys[k] → h'.objs.size = s.heap.objs.size + 1 → wpAny (model prog w) A.in1 (updateSeq (n + 5) (·.push (.ref s.heap.objs.size)) >>= fun _ => again (.builtin "list.extend.loop" ⟨[.ref (n + 5), .ref (n + 4), res], []⟩)) (fun fin s' => match fin with | .done f => R (.ok f) s' | .again c' => c'.quiet = true ∧ codeAny (model prog w) A c' R s') (fun e s' => R (.error e) s') { s with heap := h' } := fun h' kk hz h1 h2 hT hsz => by
      have hS' := kk _ _ (by omega) (by omega) (by omega) (by omega) ZS
      refine wpAny_bind ?_
      have hsz9 : ((ts.map Value.ref).toArray).size = k := by simp [Z.len]
      refine wpAny_updateSeq hS' rfl (wpAny_pure ⟨plainId_quiet F.plain_extend_loop _, ih (k + 1) (ts ++ [s.heap.objs.size]) _ (by omega) (by omega) ?_ fun h9 c9 ts9 a1 a2 a3 a4 a5 a6 => hR h9 c9 ts9 a1 a2 a3 a4 a5 a6⟩) (by rw [hsz9]; omega) (by show ((ts.map Value.ref).toArray.push _).size ≤ sizeLine + 1; rw [Array.size_push, hsz9]; omega)
      have oth : ∀ (b : Nat) o, b ≠ n + 5 → h'.get? b = some o → (h'.update (n + 5) (Obj.mapSeq (·.push (.ref s.heap.objs.size)))).get? b = some o := fun b o hb e => (Heap.get?_update_other _ _ (Ne.symm hb)).trans e
      refine ⟨fun b o e => ?_, ?_, oth _ _ (by omega) (kk _ _ (by omega) (by omega) (by omega) (by omega) Z.TI), h1.at fun o e => oth _ o (by omega) e, h2.at fun o e => oth _ o (by omega) e, ?_, by rw [List.length_append, Z.len]; rfl, fun j t e => ?_, fun t ht => ?_, ?_⟩
      · have := old0 b o e
        exact oth _ _ (by omega) (kk b o (by omega) (by omega) (by omega) (by omega) (Z.kp b o e))
      · have e9 := Heap.get?_update_self (Obj.mapSeq (·.push (Value.ref s.heap.objs.size))) hS' rfl
        rw [show (List.map Value.ref (ts ++ [s.heap.objs.size])).toArray = (List.map Value.ref ts).toArray.push (.ref s.heap.objs.size) by simp]
        exact ⟨_, e9⟩
      · obtain ⟨old, oo, b, z0, z1, z2⟩ := hz
        exact .inr ⟨old, oo, b, oth _ _ (by omega) z0, oth _ _ (by omega) z1, z2⟩
      · by_cases hj : j < ts.length
        · rw [List.getElem?_append_left hj] at e
          obtain ⟨x, y, e1, e2, e3⟩ := Z.it j t e
          have := (Z.new t (List.mem_of_getElem? e)).1
          exact ⟨x, y, e1, e2, oth _ _ (by omega) (kk _ _ (by omega) (by omega) (by omega) (by omega) e3)⟩
        · rw [List.getElem?_append_right (by omega)] at e
          have hj0 : j - ts.length = 0 := by
            by_cases q : j - ts.length = 0
            · exact q
            · rw [List.getElem?_eq_none (by simp; omega)] at e; cases e
          rw [hj0] at e
          have e : s.heap.objs.size = t := by simpa using e
          have ej : j = k := by have := Z.len; omega
          subst ej
          subst e
          exact ⟨_, _, hx, hy, oth _ _ (by omega) hT⟩
      · have hs9 : (h'.update (n + 5) (Obj.mapSeq (·.push (.ref s.heap.objs.size)))).objs.size = h'.objs.size := (Heap.SameBut.update ..).1
        rw [hs9, hsz]
        rcases List.mem_append.mp ht with ht | ht
        · have := Z.new t ht; omega
        · have : t = s.heap.objs.size := by simpa using ht
          omega
      · rw [List.nodup_append]
        refine ⟨Z.nd, by simp, fun a ha b hb => ?_⟩
        have := (Z.new a ha).2
        have : b = s.heap.objs.size := by simpa using hb
        omega
    rcases Z.zz with ⟨z0, a, b, z1⟩ | ⟨old, oo, b, z0, z1, z2⟩
    · refine wpAny_bind (wpAny_pyNext_zip_item D z0 Z.TI z1 Z.i1 Z.i2 hl1' hl2' hx hy fun h' a1 a2 a3 a4 a5 a6 kk => ?_)
      exact fin h' kk ⟨_, _, _, a1, a5, hSlt⟩ a3 a4 a5 a6
    · refine wpAny_bind (pyNext_zip_old D z0 z1 Z.TI Z.i1 Z.i2 hl1' hl2' hx hy fun h' a1 a3 a4 a5 a6 kk => ?_)
      exact fin h' (fun c o c1 _ c3 c4 e => kk c o c1 c3 c4 e) ⟨_, _, _, a1, kk old _ (nA (by omega)) (nA (by omega)) (nA (by omega)) z1, z2⟩ a3 a4 a5 a6
theorem call_list_zip {A : Around} {E : Value → Shared → Prop} {s : Shared} {h0 : Heap} {n l1 l2 : Nat} {xs ys : Array Value} {Q : Value → Shared → Prop} (hn : n = h0.objs.size) (hh : A.handled = none) (hl1 : h0.IsList l1 xs) (hl2 : h0.IsList l2 ys) (hz1 : xs.size ≤ sizeLine)
    (hz : IsZip s.heap (n + 4) (n + 2) (n + 3) .none) (hTI : IsPair s.heap (n + 2) (.ref n) (.ref (n + 1))) (hTO : IsPair s.heap (n + 3) .none .none) (hi1 : s.heap.IsListIter n l1 0) (hi2 : s.heap.IsListIter (n + 1) l2 0) (hsz : s.heap.objs.size = n + 5) (kp : ∀ (b : Nat) o, h0.get? b = some o → s.heap.get? b = some o)
    (hQ : ∀ (h' : Heap) (c : Nat) (ts : List Nat), (∀ (b : Nat) o, h0.get? b = some o → h'.get? b = some o) → h'.get? (n + 5) = some { cls := .type "list", dict := none, data := .seq (ts.map Value.ref).toArray c, slots := #[] } → ts.length = min xs.size ys.size →
      (∀ (j : Nat) (t : Nat), ts[j]? = some t → ∃ x y, xs[j]? = some x ∧ ys[j]? = some y ∧ IsPair h' t x y) → (∀ t ∈ ts, n + 5 < t) → ts.Nodup → Q (.ref (n + 5)) { s with heap := h' }) :
    wpAny (model prog w) A (call (.type "list") [.ref (n + 4)]) Q E s := by
  refine callType_codes (Q₁ := fun obj s₁ => obj = .ref s.heap.objs.size ∧ s₁ = { s with heap := s.heap.push { cls := .type "list", data := .seq #[] } }) F.called_list (F.typeCall_list_1 _) F.entry_list_init
    (code_list_new _ ⟨rfl, rfl⟩) fun obj s₁ h₁ => ?_
  obtain ⟨rfl, rfl⟩ := h₁
  have hS : (s.heap.push { cls := .type "list", data := .seq #[] }).get? s.heap.objs.size = some { cls := .type "list", data := .seq #[] } := Heap.get?_push_size _ rfl
  refine ⟨⟨_, hS, rfl⟩, F.args_list_init_2 _ _, ?_⟩
  rw [hsz] at hS ⊢
  have k1 : ∀ (b : Nat) o, s.heap.get? b = some o → (s.heap.push { cls := .type "list", data := .seq #[] }).get? b = some o := fun b o e => Heap.get?_push_of_some _ e
  have sz1 : (s.heap.push { cls := .type "list", data := .seq #[] }).objs.size = n + 6 := by rw [Heap.size_push, hsz]
  generalize s.heap.push { cls := .type "list", data := .seq #[] } = h1 at hS k1 sz1 ⊢
  show wpAny _ A.in1.in1 (do let old ← Builtin.List.listItems (.ref (n + 5)); Builtin.List.listUpdate (.ref (n + 5)) (fun _ => #[]); letGo old.toList.reverse; Builtin.List.listExtendWith (.ref (n + 5)) (.ref (n + 4)) .none) _ _ _
  refine wpAny_bind ?_
  unfold Builtin.List.listItems
  refine wpAny_bind (wpAny_seqItems hS rfl (wpAny_pure ?_))
  show wpAny _ A.in1.in1 (updateSeq (n + 5) (fun _ => #[]) >>= fun _ => letGo (#[] : Array Value).toList.reverse >>= fun _ => Builtin.List.listExtendWith (.ref (n + 5)) (.ref (n + 4)) .none) _ _ _
  refine wpAny_bind (wpAny_updateSeq hS rfl ?_)
  have hS2 := Heap.get?_update_self (Obj.mapSeq (fun _ => (#[] : Array Value))) hS rfl
  have oth : ∀ (b : Nat) o, b ≠ n + 5 → h1.get? b = some o → (h1.update (n + 5) (Obj.mapSeq (fun _ => (#[] : Array Value)))).get? b = some o :=
    fun b o hb e => (Heap.get?_update_other _ _ (Ne.symm hb)).trans e
  have sz2 : (h1.update (n + 5) (Obj.mapSeq (fun _ => (#[] : Array Value)))).objs.size = n + 6 := (Heap.SameBut.update ..).1.trans sz1
  generalize h1.update (n + 5) (Obj.mapSeq (fun _ => (#[] : Array Value))) = h2 at hS2 oth sz2 ⊢
  refine wpAny_bind (wpAny_letGo ?_)
  have hz2 : IsZip h2 (n + 4) (n + 2) (n + 3) .none := oth _ _ (nA (by omega)) (k1 _ _ hz)
  have hT : ∀ s' : Shared, s'.heap = h2 → s'.TypeIs (.ref (n + 4)) "zip" := fun s' e => ⟨_, by rw [e]; exact hz2, rfl⟩
  unfold Builtin.List.listExtendWith
  refine wpAny_bind (wpAny_typeOf (hT _ rfl) ?_)
  have e1 : Builtin.List.listSameRef (.ref (n + 5)) (.ref (n + 4)) = false := by simp [Builtin.List.listSameRef]
  have e2 : (Value.type "zip" == Value.type "list") = false := by decide
  have e3 : (Value.type "zip" == Value.type "tuple") = false := by decide
  simp only [e1, e2, e3, Bool.or_false, Bool.false_eq_true, if_false]
  refine wpAny_bind (wpAny_pyIter_zip hz2 ?_)
  refine wpAny_bind (wpAny_holding ?_)
  unfold Builtin.List.listLengthHint
  refine wpAny_bind (wpAny_specialOf (hT _ rfl) nolen_zip ?_)
  show wpAny _ A.in1.in1 (specialOf (Value.ref (n + 4)) (Str.ofString "__length_hint__") >>= _) _ _ _
  refine wpAny_bind (wpAny_specialOf (hT _ rfl) nohint_zip ?_)
  refine wpAny_pure ?_
  show wpAny _ A.in1.in1 (rule "list.extend.makes-room" >>= fun _ => Builtin.List.listTouch (.ref (n + 5)) >>= fun _ =>
    again (.builtin "list.extend.loop" ⟨[.ref (n + 5), .ref (n + 4), .none], []⟩)) _ _ _
  refine wpAny_bind (wpAny_rule ?_)
  refine wpAny_bind ?_
  show wpAny _ A.in1.in1 (updateSeq (n + 5) (·.push .none) >>= fun _ => updateSeq (n + 5) (·.pop)) _ _ _
  refine wpAny_bind (wpAny_updateSeq hS2 rfl ?_)
  have hS3 := Heap.get?_update_self (Obj.mapSeq (·.push Value.none)) hS2 rfl
  have oth3 : ∀ (b : Nat) o, b ≠ n + 5 → h2.get? b = some o → (h2.update (n + 5) (Obj.mapSeq (·.push Value.none))).get? b = some o := fun b o hb e => (Heap.get?_update_other _ _ (Ne.symm hb)).trans e
  have sz3 : (h2.update (n + 5) (Obj.mapSeq (·.push Value.none))).objs.size = n + 6 := (Heap.SameBut.update ..).1.trans sz2
  generalize h2.update (n + 5) (Obj.mapSeq (·.push Value.none)) = h3 at hS3 oth3 sz3 ⊢
  refine wpAny_updateSeq (hz := by seq_fits) hS3 rfl ?_
  have hS4 := Heap.get?_update_self (Obj.mapSeq (·.pop)) hS3 rfl
  have oth4 : ∀ (b : Nat) o, b ≠ n + 5 → h3.get? b = some o → (h3.update (n + 5) (Obj.mapSeq (·.pop))).get? b = some o := fun b o hb e => (Heap.get?_update_other _ _ (Ne.symm hb)).trans e
  have sz4 : (h3.update (n + 5) (Obj.mapSeq (·.pop))).objs.size = n + 6 := (Heap.SameBut.update ..).1.trans sz3
  generalize h3.update (n + 5) (Obj.mapSeq (·.pop)) = h4 at hS4 oth4 sz4 ⊢
  have all : ∀ (b : Nat) o, b ≠ n + 5 → s.heap.get? b = some o → h4.get? b = some o := fun b o hb e => oth4 b o hb (oth3 b o hb (oth b o hb (k1 b o e)))
  refine wpAny_pure ⟨plainId_quiet F.plain_extend_loop _, extend_zip (A := A.in1) hn hh hl1 hl2 hz1 _ 0 [] { s with heap := h4 } rfl (Nat.zero_le _) ⟨fun b o e => ?_, ⟨_, hS4⟩, all _ _ (nA (by omega)) hTI, hi1.at fun o e => all _ o (nA (by omega)) e, hi2.at fun o e => all _ o (nA (by omega)) e, .inl ⟨all _ _ (nA (by omega)) hz, _, _, all _ _ (nA (by omega)) hTO⟩, rfl, fun j t e => by simp at e, fun t ht => (by cases ht), .nil⟩ fun h' c ts a1 a2 a3 a4 a5 a6 => ?_⟩
  · have : b < n := by rw [hn]; exact Heap.lt_size e
    exact all b o (by omega) (kp b o e)
  · exact ⟨rfl, hQ h' c ts a1 a2 a3 a4 a5 a6⟩
end
/-- new objects laid beside all that stood -/
theorem inv_many {X : Cx} {pins : List (Addr × Obj)} {σ : L2.St} {H H' : Hp} {s : Shared} {h' : Heap} {tk : Nat} (I : Inv X pins σ H s) (k : ∀ b u, s.heap.get? b = some u → h'.get? b = some u) (hp : ∀ b u, s.heap.get? b = some u → H' b = H b)
    (new : ∀ b o, H' b = some o → H b = none → ObjOk X.prog X.w H' h' b o) : Inv X pins σ H' { s with heap := h', toks := tk } := by
  have st : ∀ b u, H b = some u → ∃ v, s.heap.get? b = some v := fun b u e => by
    cases u with
    | lst xs => obtain ⟨_, _, _, _, q⟩ := I.hok _ _ e; exact ⟨_, q⟩
    | tup xs => obtain ⟨_, _, _, ob, q, _⟩ := I.hok _ _ e; exact ⟨_, q⟩
    | dK kvs => obtain ⟨_, _, _, _, ob, _, _, q, _⟩ := I.hok _ _ e; exact ⟨_, q⟩
    | dT kvs => obtain ⟨_, _, _, _, ob, _, _, q, _⟩ := I.hok _ _ e; exact ⟨_, q⟩
    | set S n => obtain ⟨ob, _, _, _, q, _⟩ := I.hok _ _ e; exact ⟨_, q⟩
    | ins C dx fs => obtain ⟨_, _, _, q, _⟩ := I.hok _ _ e; exact ⟨_, q⟩
    | own y => obtain ⟨_, q⟩ := I.hok _ _ e; exact ⟨_, q⟩
    | xd fs => obtain ⟨_, ⟨_, _, _, q, _⟩, _⟩ := I.hok _ _ e; exact ⟨_, q⟩
    | rng lo hi => obtain ⟨_, _, _, q⟩ := I.hok _ _ e; exact ⟨_, q⟩
    | frz ob u => obtain ⟨q, _⟩ := I.hok _ _ e; exact ⟨_, q⟩
    | tbl ps => exact ⟨_, show s.heap.get? _ = some _ from I.hok _ _ e⟩
    | met f y => exact ⟨_, show s.heap.get? _ = some _ from I.hok _ _ e⟩
    | ext φ => obtain ⟨_, ⟨_, q⟩, _⟩ := I.hok _ _ e; exact ⟨_, q⟩
  have tr : ∀ b u, H b = some u → H' b = some u := fun b u e => by obtain ⟨v, q⟩ := st b u e; rw [hp b v q]; exact e
  refine I.un (h' := h') (t' := tk) ⟨fun b u q _ _ _ => k b u q, fun b u q _ _ _ => ⟨u.slots, k b u q⟩, fun b u q n _ => by rw [hp b u q]; exact n, fun b u q _ => ⟨u, k b u q⟩, fun b xs q => tr b _ q, fun b u xs q => tr b _ q, fun b ps q => ⟨#[], by rw [tr b _ q]; simp⟩⟩ fun b u e => ?_
  by_cases hb : ∃ v, s.heap.get? b = some v
  · obtain ⟨v, q⟩ := hb
    rw [hp b v q] at e
    exact (I.hok b u e).stay (fun c v _ q => k c v q) (fun c q => tr c _ q) fun c xs q => tr c _ q
  · cases q : H b with
    | none => exact new b u e q
    | some v => exact absurd (st b v q) hb
def tupU (H : Hp) : List Nat → List V → List V → Hp
  | t :: ts, y :: ys, z :: zs => upd (tupU H ts ys zs) t (.tup [y, z])
  | _, _, _ => H
theorem tupU_out {H : Hp} {b : Addr} : ∀ {ts : List Nat} {ys zs : List V}, b ∉ ts → tupU H ts ys zs b = H b
  | [], _, _, _ => by unfold tupU; rfl
  | t :: ts, [], _, _ => by unfold tupU; rfl
  | t :: ts, y :: ys, [], _ => by unfold tupU; rfl
  | t :: ts, y :: ys, z :: zs, h => by
    unfold tupU
    rw [upd_ne (show b ≠ t from fun e => h (by simp [e])), tupU_out fun e => h (by simp [e])]
theorem tupU_in {H : Hp} {b : Addr} {o : HO} : ∀ {ts : List Nat} {ys zs : List V}, b ∈ ts → ts.length = min ys.length zs.length → tupU H ts ys zs b = some o → ∃ (j : Nat) (y z : V), ts[j]? = some b ∧ ys[j]? = some y ∧ zs[j]? = some z ∧ o = .tup [y, z]
  | t :: ts, [], _, _, h, _ => by simp at h
  | t :: ts, y :: ys, [], _, h, _ => by simp at h
  | t :: ts, y :: ys, z :: zs, hb, h, e => by
    unfold tupU at e
    by_cases q : b = t
    · subst q
      rw [upd_same] at e
      cases e
      exact ⟨0, y, z, rfl, rfl, rfl, rfl⟩
    · rw [upd_ne q] at e
      obtain ⟨j, y', z', h1, h2, h3, h4⟩ := tupU_in (ts := ts) (by rcases List.mem_cons.mp hb with w | w; exact absurd w q; exact w) (by simp at h; omega) e
      exact ⟨j + 1, y', z', by simpa using h1, by simpa using h2, by simpa using h3, h4⟩
def tLstZip (K : PySem.W.Frag) (ta : TA) : TE := fun σ H Q => ta σ H fun vs H1 => ∃ (a b : Addr) (ys zs : List V), vs = [.ref a, .ref b] ∧ SqL K H1 a ys ∧ SqL K H1 b zs ∧
  ∀ (D : Nat) (ts : List Nat), ts.Nodup → D ∉ ts → (∀ t ∈ ts, H1 t = none) → H1 D = none → ts.length = min ys.length zs.length → Q (.ref D) (upd (tupU H1 ts ys zs) D (.lst (ts.map V.ref)))
theorem vals_refs (ts : List Nat) : Vals (ts.map V.ref) (ts.map Value.ref) := by
  induction ts with
  | nil => exact .nil
  | cons t ts ih => exact .cons rfl ih
theorem pe_lstZip {X : Cx} {e e2 : Expr} {ta : TA} {p p2 pos pos2 : Pos} (hc : X.calm = true) (hg : Gl X "list") (hm : X.mg "list" = none) (hg2 : Gl X "zip") (hm2 : X.mg "zip" = none) (ha : PA X [e, e2] ta)
    (na : starEach [.Call (.Name "zip" p2) [e, e2] [] pos2] X.env = (false, eval (.Call (.Name "zip" p2) [e, e2] [] pos2) X.env) :: starEach [] X.env := by rfl)
    (hs : starEach [e, e2] X.env = (false, eval e X.env) :: starEach [e2] X.env := by rfl) (hpl : (backTo pos2 (starEach [e2] X.env)).any (·.1) = false := by rfl) :
    PE X (.Call (.Name "list" p) [.Call (.Name "zip" p2) [e, e2] [] pos2] [] pos) (tLstZip X.K ta) := by
  refine ⟨fun pins s σ H Q I h => ?_⟩
  refine Call_ (ld_blt I hg hm boot_list (PyProof.Rows.callWith_type1 (PyProof.Rows.args_cons ?_ na) na rfl))
  refine Call_ (ld_blt I hg2 hm2 PyProof.Rows.boot_zip (PyProof.Rows.callWith_type1 (thn (ha.run pos2 pins s σ H _ I h) fun us s1 ⟨vs, H1, I1, r1, q1⟩ => ?_) hs hpl))
  obtain ⟨a, b, ys, zs, rfl, hqx, hqy, q⟩ := q1
  cases r1 with
  | cons r rr =>
    cases rr with
    | cons r' rr =>
      cases rr
      cases r
      cases r'
      obtain ⟨its, rv, p1, hz1⟩ := I1.list hqx
      obtain ⟨its2, rv2, p2, hz2⟩ := I1.list hqy
      refine call_zip_2 p1.isList p2.isList fun h' hz hTI hTO h1 h2 hsz hk => PyProof.Rows.args_nil ?_
      refine call_list_zip (n := s1.heap.objs.size) (s := { s1 with heap := h' }) rfl (I1.ok.hd hc) p1.isList p2.isList (by rw [List.size_toArray, ← rv.length]; exact hz1) hz hTI hTO h1 h2 hsz (fun b o e => hk b o e) fun h9 c ts a1 a2 a3 a4 a5 a6 => ?_
      have n1 : ∀ (t : Nat) u, s1.heap.get? t = some u → t < s1.heap.objs.size := fun t u e => Heap.lt_size e
      have nts : ∀ (t : Nat) u, s1.heap.get? t = some u → t ∉ ts := fun t u e z => by have := n1 t u e; have := a5 t z; omega
      have I9 : Inv X pins σ (upd (tupU H1 ts ys zs) (s1.heap.objs.size + 5) (.lst (ts.map V.ref))) { s1 with heap := h9, toks := s1.toks } := inv_many I1 a1 (fun t u e => by
        rw [upd_ne (nA (by have := n1 t u e; omega)), tupU_out (nts t u e)]) fun t o e nn => by
        by_cases hD : t = s1.heap.objs.size + 5
        · subst hD
          rw [upd_same] at e
          cases e
          refine ⟨?_, ts.map Value.ref, c, vals_refs ts, a2⟩
          rw [List.length_map, a3]
          have := rv.length
          simp only [List.size_toArray]
          omega
        · rw [upd_ne hD] at e
          by_cases ht : t ∈ ts
          · obtain ⟨j, y, z, e1, e2, e3, rfl⟩ := tupU_in ht (by rw [a3, List.size_toArray, List.size_toArray, rv.length, rv2.length]) e
            obtain ⟨x', y', e4, e5, e6⟩ := a4 j t e1
            obtain ⟨u, hu, ru⟩ := rv.get e2
            obtain ⟨u2, hu2, ru2⟩ := rv2.get e3
            have hu' : x' = u := by have : its[j]? = some x' := by simpa using e4
                                    rw [hu] at this; exact (Option.some.inj this).symm
            have hu2' : y' = u2 := by have : its2[j]? = some y' := by simpa using e5
                                      rw [hu2] at this; exact (Option.some.inj this).symm
            subst hu' hu2'
            exact ⟨by show 2 ≤ sizeLine; decide, [x', y'], .cons ru (.cons ru2 .nil), ⟨_, e6, rfl, _, rfl⟩⟩
          · rw [tupU_out ht] at e
            rw [nn] at e; cases e
      exact ⟨.ref (s1.heap.objs.size + 5), _, I9, rfl, q _ ts a6 (fun z => by have := a5 _ z; omega) (fun t ht => I1.hok.fresh (by have := a5 t ht; show s1.heap.objs.size ≤ t; omega)) (I1.hok.fresh (by show s1.heap.objs.size ≤ s1.heap.objs.size + 5; omega)) (by rw [a3, List.size_toArray, List.size_toArray, rv.length, rv2.length])⟩
def zpW : List W → List W → List W
  | x :: xs, y :: ys => .tup [x, y] :: zpW xs ys
  | _, _ => []
def mLstZip (own : Bool) (ma : MA) : ME := fun sw h => (ma sw h).bind fun p => match p.1 with
  | [w, u] => if isTp w || isTp u then none else (itemsAt w p.2).bind fun ws => (itemsAt u p.2).bind fun us => some (mk own (zpW ws us) p.2)
  | _ => none
section
variable {X : Cx} {K : PySem.W.Frag} {mg : Str → Option Value}
theorem tupU_good {F : Addr → Prop} {ρ : List Addr} {h : Hm} {H : Hp} : ∀ {ws us : List W} {ys zs : List V} {ts : List Nat}, Good K mg F ρ h H → RVs K mg F ρ H ws ys → RVs K mg F ρ H us zs → ts.Nodup → (∀ t ∈ ts, H t = none) → ts.length = min ys.length zs.length →
    Good K mg F ρ h (tupU H ts ys zs) ∧ Ext F ρ h H F ρ h (tupU H ts ys zs) ∧ RVs K mg F ρ (tupU H ts ys zs) (zpW ws us) (ts.map V.ref)
  | [], us, _, zs, ts, g, .nil, ru, nd, nn, hl => by
    have e : ts = [] := List.length_eq_zero_iff.mp (by simpa using hl)
    subst e
    exact ⟨g, .refl, .nil⟩
  | w :: ws, [], _, _, ts, g, .cons a b, .nil, nd, nn, hl => by
    have e : ts = [] := List.length_eq_zero_iff.mp (by simpa using hl)
    subst e
    exact ⟨g, .refl, .nil⟩
  | w :: ws, u :: us, y :: ys, z :: zs, [], g, .cons a b, .cons c d, nd, nn, hl => by simp at hl
  | w :: ws, u :: us, y :: ys, z :: zs, t :: ts, g, .cons a b, .cons c d, nd, nn, hl => by
    rw [List.nodup_cons] at nd
    obtain ⟨g1, x1, r1⟩ := tupU_good (ts := ts) g b d nd.2 (fun q hq => nn q (by simp [hq])) (by simp at hl; omega)
    have nt : tupU H ts ys zs t = none := (tupU_out nd.1).trans (nn t (by simp))
    obtain ⟨g2, x2⟩ := g1.upd_new (o := .tup [y, z]) nt
    refine ⟨g2, x1.trans x2, .cons (.tup (.inl (.inl upd_same)) (.cons ((x1.trans x2).rv g a) (.cons ((x1.trans x2).rv g c) .nil))) (x2.rvs g1 r1)⟩
theorem ge_lstZip (own : Bool) {e e2 : Expr} {ma : MA} {p p2 pos pos2 : Pos} (hc : X.calm = true) (hg : Gl X "list") (hm : X.mg "list" = none) (hg2 : Gl X "zip") (hm2 : X.mg "zip" = none) (ha : GA X [e, e2] ma)
    (na : starEach [.Call (.Name "zip" p2) [e, e2] [] pos2] X.env = (false, eval (.Call (.Name "zip" p2) [e, e2] [] pos2) X.env) :: starEach [] X.env := by rfl)
    (hs : starEach [e, e2] X.env = (false, eval e X.env) :: starEach [e2] X.env := by rfl) (hpl : (backTo pos2 (starEach [e2] X.env)).any (·.1) = false := by rfl) :
    GE X (.Call (.Name "list" p) [.Call (.Name "zip" p2) [e, e2] [] pos2] [] pos) (mLstZip own ma) := le_E (pe_lstZip hc hg hm hg2 hm2 ha na hs hpl) fun σ H Q ⟨F, ρ, h, sw, w', h', g, rs, e, q⟩ => by
  obtain ⟨⟨ws, h1⟩, e1, e⟩ := bind_some e
  refine ⟨F, ρ, h, sw, ws, h1, g, rs, e1, fun F1 ρ1 H1 vs x1 g1 r1 => ?_⟩
  match ws, r1, e with
  | [w, u], .cons rw (.cons ru .nil), e =>
    have e : (if isTp w || isTp u then none else (itemsAt w h1).bind fun ws => (itemsAt u h1).bind fun us => some (mk own (zpW ws us) h1)) = some (w', h') := e
    split at e
    · cases e
    · rename_i ht
      have hw : isTp w = false := by cases q : isTp w with | false => rfl | true => rw [q] at ht; exact absurd rfl ht
      have hu : isTp u = false := by cases q : isTp u with | false => rfl | true => rw [q, Bool.or_true] at ht; exact absurd rfl ht
      obtain ⟨iw, e3, e⟩ := bind_some e
      obtain ⟨iu, e4, e⟩ := bind_some e
      have e : mk own (zpW iw iu) h1 = (w', h') := Option.some.inj e
      obtain ⟨a, va, rfl, sa, ka⟩ := stay_any g1 rw hw e3
      obtain ⟨b, vb, rfl, sb, kb⟩ := stay_any g1 ru hu e4
      obtain ⟨va2, s2, r2⟩ := ka _ _ _ _ .refl g1 iw e3
      obtain ⟨vb2, s3, r3⟩ := kb _ _ _ _ .refl g1 iu e4
      refine ⟨a, b, va2, vb2, rfl, s2, s3, fun D ts nd nD nn dn hl => ?_⟩
      obtain ⟨g2, x2, r4⟩ := tupU_good g1 r2 r3 nd nn hl
      exact new_lst own g2 r4 (by rw [e]; exact (q.step x1).step x2) D ((tupU_out nD).trans dn)
  | [], .nil, e => cases e
  | [_], .cons _ .nil, e => cases e
  | _ :: _ :: _ :: _, _, e => cases e
end
end G

set_option Elab.async false
set_option linter.all false
set_option maxRecDepth 100000
set_option maxHeartbeats 4000000
namespace G
open PySem PySem.Spec PyProof.Rows L2
/-! the mirror run: heaps, loops -/
theorem lk_st {n m : Nat} {o : O} : ∀ {os : List (Nat × O)}, lk (st os n o) m = if n = m then (lk os n).map fun _ => o else lk os m
  | [] => by unfold st lk; split <;> rfl
  | (k, u) :: r => by
    unfold st
    by_cases hk : k = n
    · rw [if_pos hk]
      subst hk
      unfold lk
      by_cases hm : k = m
      · subst hm; simp
      · simp [hm]
    · rw [if_neg hk]
      conv => lhs; unfold lk
      by_cases hm : k = m
      · subst hm
        rw [if_pos rfl, if_neg (fun e => hk e.symm)]
        unfold lk; simp
      · rw [if_neg hm, lk_st]
        by_cases hn : n = m
        · subst hn
          rw [if_pos rfl, if_pos rfl]
          conv => rhs; unfold lk
          rw [if_neg hk]
        · rw [if_neg hn, if_neg hn]
          conv => rhs; unfold lk
          rw [if_neg hm]
/-- all keys below, all lists closed -/
structure HOk (h : Hm) : Prop where
  kb : ∀ q ∈ h.os, q.1 < h.nx
  cl : ∀ n ws, (n, O.lst ws) ∈ h.os → ws.all (cld 20) = true
theorem HOk.empty : HOk .empty := ⟨fun q hq => (by cases hq), fun n ws hq => (by cases hq)⟩
theorem stm_mem {n : Nat} {o : O} {q : Nat × O} : ∀ {os : List (Nat × O)}, q ∈ st os n o → q ∈ os ∨ (q = (n, o) ∧ ∃ u, (n, u) ∈ os)
  | [], h => by cases h
  | (k, u) :: r, h => by
    unfold st at h
    split at h
    · rename_i hk
      subst hk
      rcases List.mem_cons.mp h with rfl | h
      · exact .inr ⟨rfl, u, by simp⟩
      · exact .inl (by simp [h])
    · rcases List.mem_cons.mp h with rfl | h
      · exact .inl (by simp)
      · rcases stm_mem h with h | ⟨h, v, hv⟩
        · exact .inl (by simp [h])
        · exact .inr ⟨h, v, by simp [hv]⟩
theorem HOk.set {h : Hm} (k : HOk h) (n : Nat) {ws : List W} (hw : ws.all (cld 20) = true) : HOk (h.set n (.lst ws)) := by
  refine ⟨fun q hq => ?_, fun m us hq => ?_⟩
  · rcases stm_mem hq with z | ⟨rfl, u, z⟩
    · exact k.kb q z
    · exact k.kb (n, u) z
  · rcases stm_mem hq with z | ⟨z, u, _⟩
    · exact k.cl m us z
    · cases z; exact hw
theorem HOk.new {h : Hm} (k : HOk h) {ws : List W} (hw : ws.all (cld 20) = true) : HOk (h.new (.lst ws)) := by
  refine ⟨fun q hq => ?_, fun m us hq => ?_⟩
  · show q.1 < h.nx + 1
    rcases List.mem_cons.mp hq with rfl | z
    · exact Nat.lt_succ_self _
    · have := k.kb q z; omega
  · rcases List.mem_cons.mp hq with z | z
    · cases z; exact hw
    · exact k.cl m us z
theorem get_set_self {h : Hm} {n : Nat} {o u : O} (e : h.get n = some u) : (h.set n o).get n = some o := by
  show lk (st h.os n o) n = _
  rw [lk_st, if_pos rfl]
  have : lk h.os n = some u := e
  rw [this]; rfl
theorem get_set_ne {h : Hm} {n m : Nat} {o : O} (e : n ≠ m) : (h.set n o).get m = h.get m := by
  show lk (st h.os n o) m = _
  rw [lk_st, if_neg e]; rfl
theorem get_new_self {h : Hm} {o : O} : (h.new o).get h.nx = some o := by
  show lk ((h.nx, o) :: h.os) h.nx = _
  unfold lk; simp
theorem get_new_ne {h : Hm} {m : Nat} {o : O} (e : h.nx ≠ m) : (h.new o).get m = h.get m := by
  show lk ((h.nx, o) :: h.os) m = _
  unfold lk; rw [if_neg e]; rfl
theorem lk_some {n : Nat} {o : O} : ∀ {os : List (Nat × O)}, lk os n = some o → (n, o) ∈ os
  | (k, u) :: r, e => by
    unfold lk at e
    split at e
    · rename_i hk; subst hk; cases e; simp
    · exact List.mem_cons_of_mem _ (lk_some e)
theorem HOk.lt {h : Hm} (k : HOk h) {n : Nat} {o : O} (e : h.get n = some o) : n < h.nx := k.kb _ (lk_some e)
theorem HOk.lcl {h : Hm} (k : HOk h) {n : Nat} {ws : List W} (e : h.get n = some (.lst ws)) : ws.all (cld 20) = true := k.cl _ _ (lk_some e)
theorem hl_of {h : Hm} {n : Nat} {ws : List W} (e : h.get n = some (.lst ws)) : hl h n = some ws := by unfold hl; rw [e]
theorem oldOs_get {k n : Nat} (hn : n < k) : ∀ os : List (Nat × O), lk (oldOs k os) n = lk os n
  | [] => rfl
  | (m, .lst ws) :: r => by
    unfold oldOs
    by_cases hm : m < k
    · rw [if_pos hm]
      unfold lk
      rw [oldOs_get hn r]
    · rw [if_neg hm]
      conv => rhs; unfold lk
      rw [if_neg (by omega), oldOs_get hn r]
theorem oldOs_all {k : Nat} : ∀ {os : List (Nat × O)}, (∀ q ∈ os, q.1 < k) → oldOs k os = os
  | [], _ => rfl
  | (m, .lst ws) :: r, h => by
    unfold oldOs
    rw [if_pos (h (m, .lst ws) (by simp)), oldOs_all fun q hq => h q (by simp [hq])]
theorem cldO_ok {k : Nat} : ∀ {os : List (Nat × O)}, (∀ n ws, (n, O.lst ws) ∈ os → ws.all (cld 20) = true) → cldO k os = true
  | [], _ => rfl
  | (m, .lst ws) :: r, h => by
    unfold cldO
    rw [h m ws (by simp), cldO_ok fun n us hq => h n us (by simp [hq])]
    simp
/-- values that a call leaves as they are -/
def pl : Nat → W → Bool
  | 0, _ => false
  | d + 1, .tup ws => ws.all (pl d)
  | d + 1, .fl ws => ws.all (pl d)
  | d + 1, .ro ws => ws.all (pl d)
  | _ + 1, .loc _ => false
  | _ + 1, _ => true
theorem mapM_id {f : W → Option W} : ∀ {ws : List W}, (∀ w ∈ ws, f w = some w) → ws.mapM f = some ws
  | [], _ => rfl
  | w :: ws, h => by
    rw [List.mapM_cons, h w (by simp), mapM_id fun u hu => h u (by simp [hu])]
    rfl
theorem cl_pl {h : Hm} : ∀ (d : Nat) (w : W), cld d w = true → cl h d w = some w
  | 0, _, e => by cases e
  | d + 1, .tup ws, e => by
    show (ws.mapM (cl h d)).map W.tup = _
    rw [mapM_id fun w hw => cl_pl d w (List.all_eq_true.mp (show ws.all (cld d) = true from e) w hw)]; rfl
  | d + 1, .fl ws, e => by
    show (ws.mapM (cl h d)).map W.fl = _
    rw [mapM_id fun w hw => cl_pl d w (List.all_eq_true.mp (show ws.all (cld d) = true from e) w hw)]; rfl
  | d + 1, .ro ws, e => by
    show (ws.mapM (cl h d)).map W.ro = _
    rw [mapM_id fun w hw => cl_pl d w (List.all_eq_true.mp (show ws.all (cld d) = true from e) w hw)]; rfl
  | d + 1, .loc n, e => by cases e
  | d + 1, .non, _ => rfl
  | d + 1, .bl _, _ => rfl
  | d + 1, .int _, _ => rfl
  | d + 1, .str _, _ => rfl
  | d + 1, .fn _, _ => rfl
theorem clN_pl {k : Nat} {h : Hm} : ∀ (d : Nat) (w : W), cld d w = true → clN k h d w = some w
  | 0, _, e => by cases e
  | d + 1, .tup ws, e => by
    show (ws.mapM (clN k h d)).map W.tup = _
    rw [mapM_id fun w hw => clN_pl d w (List.all_eq_true.mp (show ws.all (cld d) = true from e) w hw)]; rfl
  | d + 1, .fl ws, e => by
    show (ws.mapM (clN k h d)).map W.fl = _
    rw [mapM_id fun w hw => clN_pl d w (List.all_eq_true.mp (show ws.all (cld d) = true from e) w hw)]; rfl
  | d + 1, .ro ws, e => by
    show (ws.mapM (clN k h d)).map W.ro = _
    rw [mapM_id fun w hw => clN_pl d w (List.all_eq_true.mp (show ws.all (cld d) = true from e) w hw)]; rfl
  | d + 1, .loc n, e => by cases e
  | d + 1, .non, _ => rfl
  | d + 1, .bl _, _ => rfl
  | d + 1, .int _, _ => rfl
  | d + 1, .str _, _ => rfl
  | d + 1, .fn _, _ => rfl
/-- a pure call whose value is plain -/
theorem cP_of {m : MO} {ws : List W} {w : W} {h' : Hm} (hw : ws.all (cld 20) = true) (e : m ws .empty = some (w, h')) (hp : cld 20 w = true) (h : Hm) : cP m ws h = some (w, h) := by
  unfold cP pur
  rw [if_pos hw, e]
  show ((cl h' 20 w).bind fun w => some (w, h)) = _
  rw [cl_pl 20 w hp]; rfl
/-- its value a list that it made -/
theorem cP_loc {m : MO} {ws us : List W} {n : Nat} {h' : Hm} (hw : ws.all (cld 20) = true) (e : m ws .empty = some (.loc n, h')) (hg : h'.get n = some (.lst us)) (hp : us.all (cld 19) = true) (h : Hm) : cP m ws h = some (.fl us, h) := by
  unfold cP pur
  rw [if_pos hw, e]
  show ((cl h' 20 (.loc n)).bind fun w => some (w, h)) = _
  have : cl h' 20 (.loc n) = some (.fl us) := by
    show (match h'.get n with
      | some (.lst ws) => (ws.mapM (cl h' 19)).map W.fl
      | _ => none) = _
    rw [hg]
    show (us.mapM (cl h' 19)).map W.fl = _
    rw [mapM_id fun w hw => cl_pl 19 w (List.all_eq_true.mp hp w hw)]; rfl
  rw [this]; rfl
theorem cO_of {m : MO} {ws us : List W} {n : Nat} {h' : Hm} (hw : ws.all (cld 20) = true) (e : m ws .empty = some (.loc n, h')) (hg : h'.get n = some (.lst us)) (hp : us.all (cld 20) = true) (h : Hm) : cOw m ws h = some (.loc h.nx, h.new (.lst us)) := by
  have : cO m ws h = some (.loc h.nx, h.new (.lst us)) := by
    unfold cO
    rw [if_pos hw, e]
    show (match h'.get n with
      | some (.lst us) => if us.all (cld 20) then some (mk true us h) else none
      | _ => none) = _
    rw [hg]
    show (if us.all (cld 20) then some (mk true us h) else none) = _
    rw [if_pos hp]; rfl
  unfold cOw
  rw [this]
/-- its value no list of its own -/
theorem cO_no {m : MO} {ws : List W} {w : W} {h' : Hm} (hw : ws.all (cld 20) = true) (e : m ws .empty = some (w, h')) (hp : cld 20 w = true) (h : Hm) : cOw m ws h = some (w, h) := by
  have : cO m ws h = none := by
    unfold cO
    rw [if_pos hw, e]
    cases w <;> first | rfl | cases hp
  unfold cOw
  rw [this]
  exact cP_of hw e hp h
theorem cG_of {m : MO} {ws : List W} {w : W} {h h' : Hm} (e : m ws h = some (w, h')) (hp : cld 20 w = true) (k : HOk h') : cG m ws h = some (w, ⟨h.nx, oldOs h.nx h'.os⟩) := by
  unfold cG
  rw [e]
  show ((clN h.nx h' 20 w).bind fun w => if cldO h.nx h'.os then some (w, (⟨h.nx, oldOs h.nx h'.os⟩ : Hm)) else none) = _
  rw [clN_pl 20 w hp]
  show (if cldO h.nx h'.os then some (w, (⟨h.nx, oldOs h.nx h'.os⟩ : Hm)) else none) = _
  rw [if_pos (cldO_ok k.cl)]
/-- no list made -/
theorem cG_same {m : MO} {ws : List W} {w : W} {h h' : Hm} (e : m ws h = some (w, h')) (hp : cld 20 w = true) (k : HOk h') (hn : h'.nx = h.nx) : cG m ws h = some (w, h') := by
  rw [cG_of e hp k, oldOs_all fun q hq => by rw [← hn]; exact k.kb q hq, ← hn]
theorem HOk.old {h : Hm} (k : HOk h) (n : Nat) : HOk ⟨n, oldOs n h.os⟩ := ⟨fun q hq => (oldOs_mem hq).2, fun m ws hq => k.cl m ws (oldOs_mem hq).1⟩
/-! ### loops -/
/-- an invariant by turns -/
theorem fo_inv {s : Src} {tg : MG} {b : MS} (N : Nat) (R : Nat → Sw → Hm → Prop)
    (step : ∀ i, i < N → ∀ sw h, R i sw h → ∃ w sw1 sw2 h2, s.yld i h = some (some w) ∧ tg w sw = some sw1 ∧ b sw1 h = some (.nx sw2 h2) ∧ R (i + 1) sw2 h2)
    (stop : ∀ sw h, R N sw h → s.yld N h = some none) :
    ∀ (m i : Nat) (n : Nat) (sw : Sw) (h : Hm), N - i = m → i ≤ N → m < n → R i sw h → ∃ sw' h', fo s tg b n i sw h = some (.nx sw' h') ∧ R N sw' h'
  | 0, i, n + 1, sw, h, hm, hi, _, r => by
    have e : i = N := by omega
    subst e
    refine ⟨sw, h, ?_, r⟩
    unfold fo
    rw [stop sw h r]; rfl
  | m + 1, i, n + 1, sw, h, hm, hi, hn, r => by
    have hlt : i < N := by omega
    obtain ⟨w, sw1, sw2, h2, e1, e2, e3, r2⟩ := step i hlt sw h r
    obtain ⟨sw', h', e4, r4⟩ := fo_inv N R step stop m (i + 1) n sw2 h2 (by omega) hlt (by omega) r2
    refine ⟨sw', h', ?_, r4⟩
    unfold fo
    rw [e1]
    show (tg w sw).bind _ = _
    rw [e2]
    show (b sw1 h).bind _ = _
    rw [e3]
    exact e4
/-- while, by a measure -/
theorem wh_inv {c : MT} {b : MS} (I : Nat → Sw → Hm → Prop) (J : Sw → Hm → Prop)
    (step : ∀ k sw h, I k sw h → (∃ h1, c sw h = some (false, h1) ∧ J sw h1) ∨ ∃ h1 sw2 h2 k2, c sw h = some (true, h1) ∧ b sw h1 = some (.nx sw2 h2) ∧ k2 < k ∧ I k2 sw2 h2) :
    ∀ (n k : Nat) (sw : Sw) (h : Hm), k < n → I k sw h → ∃ sw' h', wh c b n sw h = some (.nx sw' h') ∧ J sw' h'
  | n + 1, k, sw, h, hn, i => by
    rcases step k sw h i with ⟨h1, e, j⟩ | ⟨h1, sw2, h2, k2, e1, e2, hk, i2⟩
    · refine ⟨sw, h1, ?_, j⟩
      unfold wh
      rw [e]; rfl
    · obtain ⟨sw', h', e3, j⟩ := wh_inv I J step n k2 sw2 h2 (by omega) i2
      refine ⟨sw', h', ?_, j⟩
      unfold wh
      rw [e1]
      show (b sw h1).bind _ = _
      rw [e2]
      exact e3
/-- a comprehension whose parts change nothing -/
theorem lc_pure {s : Src} {tg : MG} {t : MT} {m : ME} {sw : Sw} {h : Hm} (items : List W) (keep : W → Bool) (val : W → W) (hy : ∀ i w, items[i]? = some w → s.yld i h = some (some w)) (hs : s.yld items.length h = some none)
    (step : ∀ w ∈ items, ∃ sw1, tg w sw = some sw1 ∧ t sw1 h = some (keep w, h) ∧ (keep w = true → m sw1 h = some (val w, h))) :
    ∀ (k i n : Nat) (acc : List W), items.length - i = k → i ≤ items.length → k < n → lc s tg t m n i sw h acc = some (acc.reverse ++ ((items.drop i).filter keep).map val, h)
  | 0, i, n + 1, acc, hk, hi, _ => by
    have e : i = items.length := by omega
    subst e
    unfold lc
    rw [hs]
    simp
  | k + 1, i, n + 1, acc, hk, hi, hn => by
    have hlt : i < items.length := by omega
    obtain ⟨sw1, e1, e2, e3⟩ := step items[i] (List.getElem_mem hlt)
    unfold lc
    rw [hy i items[i] (List.getElem?_eq_getElem hlt)]
    show (tg items[i] sw).bind _ = _
    rw [e1]
    show (t sw1 h).bind _ = _
    rw [e2]
    show (if keep items[i] = true then (m sw1 h).bind fun q => lc s tg t m n (i + 1) sw q.2 (q.1 :: acc) else lc s tg t m n (i + 1) sw h acc) = _
    rw [List.drop_eq_getElem_cons hlt]
    split
    · rename_i hkp
      rw [e3 hkp]
      show lc s tg t m n (i + 1) sw h (val items[i] :: acc) = _
      rw [lc_pure items keep val hy hs step k (i + 1) n _ (by omega) hlt (by omega), List.filter_cons_of_pos hkp, List.map_cons, List.reverse_cons, List.append_assoc]
      rfl
    · rename_i hkp
      rw [lc_pure items keep val hy hs step k (i + 1) n _ (by omega) hlt (by omega), List.filter_cons_of_neg hkp]
theorem mLc_pure {own : Bool} {vs : List Nat} {mi : MI} {tg : MG} {t : MT} {m : ME} {sw : Sw} {h : Hm} {s : Src} (items : List W) (keep : W → Bool) (val : W → W) (hi : mi sw h = some (s, h)) (hy : ∀ i w, items[i]? = some w → s.yld i h = some (some w)) (hs : s.yld items.length h = some none)
    (step : ∀ w ∈ items, ∃ sw1, tg w (wipeW sw vs) = some sw1 ∧ t sw1 h = some (keep w, h) ∧ (keep w = true → m sw1 h = some (val w, h))) (hl : items.length < 100000) :
    mLc own vs mi tg t m sw h = some (mk own ((items.filter keep).map val) h) := by
  unfold mLc
  rw [hi]
  show (lc s tg t m 100000 0 (wipeW sw vs) h []).bind _ = _
  rw [lc_pure items keep val hy hs step _ 0 100000 [] rfl (Nat.zero_le _) (by omega)]
  simp
/-- the items of a range, of a list -/
def rgI (n : Nat) : List W := (List.range n).map fun i => W.int (i : Nat)
theorem yld_rg {lo : Int} {n : Nat} {h : Hm} : (∀ i w, ((List.range n).map fun (i : Nat) => W.int (lo + i))[i]? = some w → (sRg lo 1 n).yld i h = some (some w)) ∧ (sRg lo 1 n).yld n h = some none := by
  refine ⟨fun i w e => ?_, ?_⟩
  · rw [List.getElem?_map] at e
    by_cases hi : i < n
    · rw [List.getElem?_range hi] at e
      have e : W.int (lo + (i : Nat)) = w := by simpa using e
      show some (if i < n then some (W.int (lo + (i : Nat) * 1)) else none) = _
      rw [if_pos hi, Int.mul_one, e]
    · rw [List.getElem?_eq_none (by simp; omega)] at e; cases e
  · show some (if n < n then _ else none) = _
    rw [if_neg (Nat.lt_irrefl _)]
theorem yld_tup {ws : List W} {h : Hm} : (∀ i w, ws[i]? = some w → (sIt (.tup ws)).yld i h = some (some w)) ∧ (sIt (.tup ws)).yld ws.length h = some none := by
  refine ⟨fun i w e => ?_, ?_⟩
  · show some (ws[i]?) = _; rw [e]
  · show some (ws[ws.length]?) = _; simp
theorem yld_fl {ws : List W} {h : Hm} : (∀ i w, ws[i]? = some w → (sIt (.fl ws)).yld i h = some (some w)) ∧ (sIt (.fl ws)).yld ws.length h = some none := by
  refine ⟨fun i w e => ?_, ?_⟩
  · show some (ws[i]?) = _; rw [e]
  · show some (ws[ws.length]?) = _; simp
theorem sq_loc {h : Hm} {n : Nat} : sq h (.loc n) = hl h n := rfl
theorem sq_fl {h : Hm} {ws : List W} : sq h (.fl ws) = some ws := rfl
theorem sq_ro {h : Hm} {ws : List W} : sq h (.ro ws) = some ws := rfl
theorem sq_tup {h : Hm} {ws : List W} : sq h (.tup ws) = none := rfl
theorem lq_loc {h : Hm} {n : Nat} : lq h (.loc n) = hl h n := rfl
theorem lq_fl {h : Hm} {ws : List W} : lq h (.fl ws) = some ws := rfl
theorem lq_tup {h : Hm} {ws : List W} : lq h (.tup ws) = none := rfl
theorem iq_loc {h : Hm} {n : Nat} : iq h (.loc n) = hl h n := rfl
theorem iq_fl {h : Hm} {ws : List W} : iq h (.fl ws) = some ws := rfl
theorem iq_tup {h : Hm} {ws : List W} : iq h (.tup ws) = some ws := rfl
theorem mk_f {ws : List W} {h : Hm} : mk false ws h = (.fl ws, h) := rfl
theorem mk_t {ws : List W} {h : Hm} : mk true ws h = (.loc h.nx, h.new (.lst ws)) := rfl
theorem for_inv {mi : MI} {s : Src} {tg : MG} {b : MS} {n : Nat} {sw0 : Sw} {h0 h1 : Hm} (N : Nat) (R : Nat → Sw → Hm → Prop) (hi : mi sw0 h0 = some (s, h1))
    (step : ∀ i, i < N → ∀ sw h, R i sw h → ∃ w sw1 sw2 h2, s.yld i h = some (some w) ∧ tg w sw = some sw1 ∧ b sw1 h = some (.nx sw2 h2) ∧ R (i + 1) sw2 h2)
    (stop : ∀ sw h, R N sw h → s.yld N h = some none) (hn : N < n) (r : R 0 sw0 h1) : ∃ sw' h', mFor n mi tg b sw0 h0 = some (.nx sw' h') ∧ R N sw' h' := by
  obtain ⟨sw', h', e, q⟩ := fo_inv N R step stop N 0 n sw0 h1 rfl (Nat.zero_le _) hn r
  refine ⟨sw', h', ?_, q⟩
  unfold mFor
  rw [hi]
  exact e
/-- a comprehension over anything, the heap as it is -/
theorem lc_run {own : Bool} {vs : List Nat} {mi : MI} {tg : MG} {t : MT} {m : ME} {sw : Sw} {h h1 : Hm} {s : Src} (items : List W) (keep : W → Bool) (val : W → W) (hi : mi sw h = some (s, h1)) (hy : ∀ i w, items[i]? = some w → s.yld i h1 = some (some w)) (hs : s.yld items.length h1 = some none)
    (step : ∀ w ∈ items, ∃ sw1, tg w (wipeW sw vs) = some sw1 ∧ t sw1 h1 = some (keep w, h1) ∧ (keep w = true → m sw1 h1 = some (val w, h1))) (hl : items.length < 100000) :
    mLc own vs mi tg t m sw h = some (mk own ((items.filter keep).map val) h1) := by
  unfold mLc
  rw [hi]
  show (lc s tg t m 100000 0 (wipeW sw vs) h1 []).bind _ = _
  rw [lc_pure items keep val hy hs step _ 0 100000 [] rfl (Nat.zero_le _) (by omega)]
  simp
end G

set_option Elab.async false
set_option linter.all false
set_option maxRecDepth 100000
set_option maxHeartbeats 4000000
namespace G
open PySem PySem.Spec PyProof.Rows L2
/-! the mirror evaluated, step by step -/
section
variable {sw sw' sw2 : Sw} {h h' h1 h2 h3 : Hm} {a b : MS} {m n : ME} {ma : MA} {c d : MT} {w u v : W} {ws us : List W} {o : MO2} {mo : MO} {r : Option R} {i j k : Nat}
theorem e_seq (e1 : a sw h = some (.nx sw' h')) (e2 : b sw' h' = r) : mSeq a b sw h = r := by unfold mSeq; rw [e1]; exact e2
theorem e_seqR (e1 : a sw h = some (.ret w h')) : mSeq a b sw h = some (.ret w h') := by unfold mSeq; rw [e1]; rfl
theorem e_ifT (e1 : c sw h = some (true, h')) (e2 : a sw h' = r) : mIf c a b sw h = r := by unfold mIf; rw [e1]; exact e2
theorem e_ifF (e1 : c sw h = some (false, h')) (e2 : b sw h' = r) : mIf c a b sw h = r := by unfold mIf; rw [e1]; exact e2
theorem e_next : mNext sw h = some (.nx sw h) := rfl
theorem e_set (e1 : m sw h = some (w, h')) : mSet i m sw h = some (.nx (sw.set i (some w)) h') := by unfold mSet; rw [e1]; rfl
theorem e_ret (e1 : m sw h = some (w, h')) : mRet m sw h = some (.ret w h') := by unfold mRet; rw [e1]; rfl
theorem e_drop (e1 : m sw h = some (w, h')) : mDrop m sw h = some (.nx sw h') := by unfold mDrop; rw [e1]; rfl
theorem e_par (e1 : ma sw h = some ([u, v], h')) : mPar i j ma sw h = some (.nx ((sw.set i (some u)).set j (some v)) h') := by unfold mPar; rw [e1]; rfl
theorem e_par3 (e1 : ma sw h = some ([u, v, w], h')) : mPar3 i j k ma sw h = some (.nx (((sw.set i (some u)).set j (some v)).set k (some w)) h') := by unfold mPar3; rw [e1]; rfl
theorem e_asg {g : MGH} (e1 : m sw h = some (w, h1)) (e2 : g w sw h1 = some (sw2, h2)) : mAsg m g sw h = some (.nx sw2 h2) := by unfold mAsg; rw [e1]; show (g w sw h1).bind _ = _; rw [e2]; rfl
theorem e_hN : hN i w sw h = some (sw.set i (some w), h) := rfl
theorem e_hSub {mi : ME} {q : Int} {p : Nat} (e1 : m sw h = some (.loc i, h1)) (e2 : mi sw h1 = some (.int q, h2)) (e3 : hl h2 i = some ws) (e4 : ixN ws.length q = some p) : hSub m mi w sw h = some (sw, h2.set i (.lst (ws.set p w))) := by
  unfold hSub; rw [e1]; show (mi sw h1).bind _ = _; rw [e2]; show (hl h2 i).bind _ = _; rw [e3]; show (ixN ws.length q).map _ = _; rw [e4]; rfl
theorem e_hT {ms : List MGH} {q : Option (Sw × Hm)} (e : hL ms ws sw h = q) : hT ms (.tup ws) sw h = q := e
theorem e_hL0 : hL [] [] sw h = some (sw, h) := rfl
theorem e_hL1 {g : MGH} {ms : List MGH} {q : Option (Sw × Hm)} (e1 : g w sw h = some (sw', h')) (e2 : hL ms ws sw' h' = q) : hL (g :: ms) (w :: ws) sw h = q := by
  show (g w sw h).bind _ = _; rw [e1]; exact e2
theorem e_var (e : sw[i]? = some (some w)) : mVar i sw h = some (w, h) := by unfold mVar; rw [e]
theorem e_c : mC w sw h = some (w, h) := rfl
theorem e_op2 {q : Option (W × Hm)} (e1 : m sw h = some (u, h1)) (e2 : n sw h1 = some (v, h2)) (e3 : o u v h2 = q) : mOp2 o m n sw h = q := by unfold mOp2; rw [e1]; show (n sw h1).bind _ = _; rw [e2]; exact e3
theorem e_app {q : Option (W × Hm)} (e1 : ma sw h = some (ws, h1)) (e2 : mo ws h1 = q) : mApp mo ma sw h = q := by unfold mApp; rw [e1]; exact e2
theorem e_appK {q : Option (W × Hm)} {perm : List Nat} (e1 : ma sw h = some (ws, h1)) (e2 : mo (prm perm ws) h1 = q) : mAppK mo perm ma sw h = q := by unfold mAppK; rw [e1]; exact e2
theorem e_nil : mNil sw h = some ([], h) := rfl
theorem e_cons {ms : MA} (e1 : m sw h = some (w, h1)) (e2 : ms sw h1 = some (ws, h2)) : mCons m ms sw h = some (w :: ws, h2) := by unfold mCons; rw [e1]; show (ms sw h1).bind _ = _; rw [e2]; rfl
theorem e_tb {q : Bool} (e1 : m sw h = some (.bl q, h')) : mTb m sw h = some (q, h') := by unfold mTb; rw [e1]; rfl
theorem e_not {q : Bool} (e1 : c sw h = some (q, h')) : mNot c sw h = some (!q, h') := by unfold mNot; rw [e1]; rfl
theorem e_yes : mYes sw h = some (true, h) := rfl
theorem e_andT {q : Option (Bool × Hm)} (e1 : c sw h = some (true, h')) (e2 : d sw h' = q) : mAndT c d sw h = q := by unfold mAndT; rw [e1]; exact e2
theorem e_andF (e1 : c sw h = some (false, h')) : mAndT c d sw h = some (false, h') := by unfold mAndT; rw [e1]; rfl
theorem e_orT (e1 : c sw h = some (true, h')) : mOrT c d sw h = some (true, h') := by unfold mOrT; rw [e1]; rfl
theorem e_orF {q : Option (Bool × Hm)} (e1 : c sw h = some (false, h')) (e2 : d sw h' = q) : mOrT c d sw h = q := by unfold mOrT; rw [e1]; exact e2
/-- both sides known -/
theorem e_andB {p q : Bool} (e1 : c sw h = some (p, h)) (e2 : d sw h = some (q, h)) : mAndT c d sw h = some (p && q, h) := by cases p with | true => exact e_andT e1 e2 | false => exact e_andF e1
theorem e_orB {p q : Bool} (e1 : c sw h = some (p, h)) (e2 : d sw h = some (q, h)) : mOrT c d sw h = some (p || q, h) := by cases p with | true => exact e_orT e1 | false => exact e_orF e1 e2
theorem e_and1 {q : Option (W × Hm)} (e1 : m sw h = some (.bl true, h')) (e2 : n sw h' = q) : mAnd m n sw h = q := by unfold mAnd; rw [e1]; exact e2
theorem e_and0 (e1 : m sw h = some (.bl false, h')) : mAnd m n sw h = some (.bl false, h') := by unfold mAnd; rw [e1]; rfl
theorem e_notV {q : Bool} (e1 : m sw h = some (.bl q, h')) : mNotV m sw h = some (.bl (!q), h') := by unfold mNotV; rw [e1]; rfl
theorem e_ifeT {q : Option (W × Hm)} (e1 : c sw h = some (true, h')) (e2 : m sw h' = q) : mIfE c m n sw h = q := by unfold mIfE; rw [e1]; exact e2
theorem e_ifeF {q : Option (W × Hm)} (e1 : c sw h = some (false, h')) (e2 : n sw h' = q) : mIfE c m n sw h = q := by unfold mIfE; rw [e1]; exact e2
theorem e_neg {q : Int} (e1 : m sw h = some (.int q, h')) : mNeg m sw h = some (.int (-q), h') := by unfold mNeg; rw [e1]; rfl
theorem e_tup (e1 : ma sw h = some (ws, h')) (e2 : ws.length < 100000) : mTup ma sw h = some (.tup ws, h') := by unfold mTup; rw [e1]; show (if ws.length < 100000 then _ else _) = _; rw [if_pos e2]
theorem e_lstF (e1 : ma sw h = some (ws, h')) (e2 : ws.length < 100000) : mLst false ma sw h = some (.fl ws, h') := by unfold mLst; rw [e1]; show (if ws.length < 100000 then _ else _) = _; rw [if_pos e2]; rfl
theorem e_lstT (e1 : ma sw h = some (ws, h')) (e2 : ws.length < 100000) : mLst true ma sw h = some (.loc h'.nx, h'.new (.lst ws)) := by unfold mLst; rw [e1]; show (if ws.length < 100000 then _ else _) = _; rw [if_pos e2]; rfl
/-! operations -/
theorem o_gt {x y : Int} : oGt (.int x) (.int y) h = some (.bl (decide (y < x)), h) := rfl
theorem o_lt {x y : Int} : oLt (.int x) (.int y) h = some (.bl (decide (x < y)), h) := rfl
theorem o_le {x y : Int} : oLe (.int x) (.int y) h = some (.bl (decide (x ≤ y)), h) := rfl
theorem o_ge {x y : Int} : oGe (.int x) (.int y) h = some (.bl (decide (y ≤ x)), h) := rfl
theorem o_sub {x y : Int} : oSub (.int x) (.int y) h = some (.int (x - y), h) := rfl
theorem o_add {own : Bool} {x y : Int} : oAdd own (.int x) (.int y) h = some (.int (x + y), h) := rfl
theorem o_mul {own : Bool} {x y : Int} (e : -(2 ^ 64) < y ∧ y < 2 ^ 64) : oTimes own (.int x) (.int y) h = some (.int (x * y), h) := by
  have : oMul (.int x) (.int y) h = some (.int (x * y), h) := by
    show (if ((decide (-(2 ^ 64) < x) && decide (x < 2 ^ 64)) || (decide (-(2 ^ 64) < y) && decide (y < 2 ^ 64))) = true then some (W.int (x * y), h) else none) = _
    rw [if_pos (by simp; omega)]
  unfold oTimes orO; rw [this]
theorem o_mulL {own : Bool} {x y : Int} (e : -(2 ^ 64) < x ∧ x < 2 ^ 64) : oTimes own (.int x) (.int y) h = some (.int (x * y), h) := by
  have : oMul (.int x) (.int y) h = some (.int (x * y), h) := by
    show (if ((decide (-(2 ^ 64) < x) && decide (x < 2 ^ 64)) || (decide (-(2 ^ 64) < y) && decide (y < 2 ^ 64))) = true then some (W.int (x * y), h) else none) = _
    rw [if_pos (by simp; omega)]
  unfold oTimes orO; rw [this]
theorem o_mod {x y : Int} (e : 0 < y) : oMod (.int x) (.int y) h = some (.int (x % y), h) := by
  show (if decide (0 < y) = true then some (W.int (x % y), h) else none) = _
  rw [if_pos (decide_eq_true e)]
theorem o_div {x y : Int} (e : 0 < y ∧ y < 1073741824) : oDiv (.int x) (.int y) h = some (.int (x / y), h) := by
  show (if (decide (0 < y) && decide (y < 1073741824)) = true then some (W.int (x / y), h) else none) = _
  rw [if_pos (by simp [e.1, e.2])]
theorem o_divmod {x y : Int} (e : 0 < y ∧ y < 1073741824) : oDivmod [.int x, .int y] h = some (.tup [.int (x / y), .int (x % y)], h) := by
  show (if 0 < y ∧ y < 1073741824 then _ else _) = _
  rw [if_pos e]
theorem o_int {x : Int} : oInt [.int x] h = some (.int x, h) := rfl
theorem o_ixL {q : Int} {p : Nat} (e1 : hl h i = some ws) (e2 : ixN ws.length q = some p) (e3 : ws[p]? = some w) : oIx (.loc i) (.int q) h = some (w, h) := by
  show (hl h i).bind _ = _
  rw [e1]
  show (atI ws q).map _ = _
  unfold atI
  rw [e2]
  show (ws[p]?).map _ = _
  rw [e3]; rfl
theorem o_ixF {q : Int} {p : Nat} (e2 : ixN ws.length q = some p) (e3 : ws[p]? = some w) : oIx (.fl ws) (.int q) h = some (w, h) := by
  show ((some ws).bind fun ws => (atI ws q).map fun w => (w, h)) = _
  show (atI ws q).map _ = _
  unfold atI
  rw [e2]
  show (ws[p]?).map _ = _
  rw [e3]; rfl
theorem o_ixO {q : Int} {p : Nat} (e2 : ixN ws.length q = some p) (e3 : ws[p]? = some w) : oIx (.ro ws) (.int q) h = some (w, h) := by
  show ((some ws).bind fun ws => (atI ws q).map fun w => (w, h)) = _
  show (atI ws q).map _ = _
  unfold atI
  rw [e2]
  show (ws[p]?).map _ = _
  rw [e3]; rfl
theorem o_ixT {q : Int} {p : Nat} (e2 : ixN ws.length q = some p) (e3 : ws[p]? = some w) : oIx (.tup ws) (.int q) h = some (w, h) := by
  show (atI ws q).map _ = _
  unfold atI
  rw [e2]
  show (ws[p]?).map _ = _
  rw [e3]; rfl
theorem ix_pos {n : Nat} {p : Nat} {q : Int} (e : q = p) (hp : p < n) : ixN n q = some p := by
  subst e; unfold ixN; rw [if_pos (by omega), if_pos (by omega)]; simp
theorem o_lenL (e : hl h i = some ws) : oLen [.loc i] h = some (.int ws.length, h) := by
  show ((hl h i).bind fun us => some (W.int us.length, h)) = _
  rw [e]; rfl
theorem o_tupL (e : hl h i = some ws) : oTuple [.loc i] h = some (.tup ws, h) := by
  show ((hl h i).bind fun us => some (W.tup us, h)) = _
  rw [e]; rfl
theorem o_tupT : oTuple [.tup ws] h = some (.tup ws, h) := rfl
theorem o_tupF : oTuple [.fl ws] h = some (.tup ws, h) := rfl
theorem o_lenT : oLen [.tup ws] h = some (.int ws.length, h) := rfl
theorem o_lenF : oLen [.fl ws] h = some (.int ws.length, h) := rfl
theorem o_lenO : oLen [.ro ws] h = some (.int ws.length, h) := rfl
theorem ix0 {n : Nat} : ixN (n + 1) 0 = some 0 := by unfold ixN; rw [if_pos (by omega), if_pos (by omega)]; rfl
theorem ix1 {n : Nat} : ixN (n + 2) 1 = some 1 := by unfold ixN; rw [if_pos (by omega), if_pos (by omega)]; rfl
theorem o_ixL0 (e : hl h i = some (w :: ws)) : oIx (.loc i) (.int 0) h = some (w, h) := o_ixL e (ix0 (n := ws.length)) rfl
theorem o_ixL1 (e : hl h i = some (u :: w :: ws)) : oIx (.loc i) (.int 1) h = some (w, h) := o_ixL e (ix1 (n := ws.length)) rfl
theorem hl_set (e : hl h i = some us) : hl (h.set i (.lst ws)) i = some ws := hl_of (get_set_self (hl_eq e))
theorem e_hSub0 {mi : ME} (e1 : m sw h = some (.loc i, h1)) (e2 : mi sw h1 = some (.int 0, h2)) (e3 : hl h2 i = some (u :: ws)) : hSub m mi w sw h = some (sw, h2.set i (.lst (w :: ws))) := e_hSub e1 e2 e3 (ix0 (n := ws.length))
theorem e_hSub1 {mi : ME} (e1 : m sw h = some (.loc i, h1)) (e2 : mi sw h1 = some (.int 1, h2)) (e3 : hl h2 i = some (v :: u :: ws)) : hSub m mi w sw h = some (sw, h2.set i (.lst (v :: w :: ws))) := e_hSub e1 e2 e3 (ix1 (n := ws.length))
theorem e_def {N : Nat} {vs : List W} (e : b (vs.map some ++ List.replicate (N - vs.length) none) h = some (.ret w h')) : mDef N b vs h = some (w, h') := by unfold mDef; rw [e]; rfl
theorem e_defN {N : Nat} {vs : List W} (e : b (vs.map some ++ List.replicate (N - vs.length) none) h = some (.nx sw h')) : mDef N b vs h = some (.non, h') := by unfold mDef; rw [e]; rfl
theorem e_retT (e1 : c sw h = some (true, h')) (e2 : a sw h' = r) : mSeq (mIf c a mNext) b sw h = (mSeq a b sw h') := by
  unfold mSeq mIf; rw [e1]; rfl
end
end G

set_option Elab.async false
set_option linter.all false
set_option maxRecDepth 100000
set_option maxHeartbeats 4000000
namespace G
open PySem PySem.Spec PyProof.Rows L2 PySem.W
section
variable {sw : Sw} {h h' : Hm} {m : ME} {w : W}
/-! kinds -/
theorem e_isi {T : String} {b : Bool} (e1 : m sw h = some (w, h')) (e2 : isT h' T w = some b) : mIsi T m sw h = some (.bl b, h') := by unfold mIsi; rw [e1]; show (isT h' T w).map _ = _; rw [e2]; rfl
theorem is_int_int {i : Int} : isT h "int" (.int i) = some true := by rfl
theorem is_bool_int {i : Int} : isT h "bool" (.int i) = some false := by rfl
theorem is_tuple_tup {ws : List W} : isT h "tuple" (.tup ws) = some true := by rfl
theorem is_bool_tup {ws : List W} : isT h "bool" (.tup ws) = some false := by rfl
theorem is_int_tup {ws : List W} : isT h "int" (.tup ws) = some false := by rfl
theorem is_str_tup {ws : List W} : isT h "str" (.tup ws) = some false := by rfl
theorem is_list_tup {ws : List W} : isT h "list" (.tup ws) = some false := by rfl
theorem is_bool_fl {ws : List W} : isT h "bool" (.fl ws) = some false := by rfl
theorem is_int_fl {ws : List W} : isT h "int" (.fl ws) = some false := by rfl
theorem is_str_fl {ws : List W} : isT h "str" (.fl ws) = some false := by rfl
theorem is_list_fl {ws : List W} : isT h "list" (.fl ws) = some true := by rfl
/-! equality of data of ints -/
theorem pd_ints {d : Nat} : ∀ is : List Int, (is.map W.int).mapM (pd h (d + 1)) = some (is.map PyData.int)
  | [] => rfl
  | i :: is => by rw [List.map_cons, List.mapM_cons, pd_ints is]; rfl
theorem eqv_ints : ∀ is js : List Int, PyData.eqvAll (is.map PyData.int) (js.map PyData.int) = decide (is = js)
  | [], [] => by simp [PyData.eqvAll]
  | [], _ :: _ => by simp [PyData.eqvAll]
  | _ :: _, [] => by simp [PyData.eqvAll]
  | i :: is, j :: js => by
    rw [List.map_cons, List.map_cons, PyData.eqvAll, eqv_ints is js, PyData.eqv]
    by_cases e : i = j <;> simp [e]
theorem o_eq_int {x y : Int} : oEq (.int x) (.int y) h = some (.bl (x == y), h) := rfl
theorem o_ne_int {x y : Int} : oNe (.int x) (.int y) h = some (.bl (!(x == y)), h) := rfl
theorem o_eq_bl {x y : Bool} : oEq (.bl x) (.bl y) h = some (.bl (x == y), h) := rfl
theorem pd_tupI {d : Nat} {is : List Int} : pd h (d + 2) (.tup (is.map W.int)) = some (.tuple (is.map .int)) := by
  show ((is.map W.int).mapM (pd h (d + 1))).map PyData.tuple = _
  rw [pd_ints]; rfl
theorem pd_flI {d : Nat} {is : List Int} : pd h (d + 2) (.fl (is.map W.int)) = some (.list (is.map .int)) := by
  show ((is.map W.int).mapM (pd h (d + 1))).map PyData.list = _
  rw [pd_ints]; rfl
theorem pd_locI {d n : Nat} {is : List Int} (e : hl h n = some (is.map W.int)) : pd h (d + 2) (.loc n) = some (.list (is.map .int)) := by
  show ((hl h n).bind fun ws => (ws.mapM (pd h (d + 1))).map PyData.list) = _
  rw [e]
  show ((is.map W.int).mapM (pd h (d + 1))).map PyData.list = _
  rw [pd_ints]; rfl
theorem o_eqD {a b : W} {x y : PyData} (e1 : pd h 20 a = some x) (e2 : pd h 20 b = some y) : oEq a b h = some (.bl (PyData.eqv x y), h) := by unfold oEq; rw [e1, e2]; rfl
theorem o_neD {a b : W} {x y : PyData} (e1 : pd h 20 a = some x) (e2 : pd h 20 b = some y) : oNe a b h = some (.bl (!PyData.eqv x y), h) := by unfold oNe; rw [e1, e2]; rfl
theorem o_eq_tup {is js : List Int} : oEq (.tup (is.map W.int)) (.tup (js.map W.int)) h = some (.bl (decide (is = js)), h) := by
  rw [o_eqD (pd_tupI (d := 18)) (pd_tupI (d := 18)), PyData.eqv, eqv_ints]
theorem o_ne_tup {is js : List Int} : oNe (.tup (is.map W.int)) (.tup (js.map W.int)) h = some (.bl (!decide (is = js)), h) := by
  rw [o_neD (pd_tupI (d := 18)) (pd_tupI (d := 18)), PyData.eqv, eqv_ints]
theorem o_eq_fl {is js : List Int} : oEq (.fl (is.map W.int)) (.fl (js.map W.int)) h = some (.bl (decide (is = js)), h) := by
  rw [o_eqD (pd_flI (d := 18)) (pd_flI (d := 18)), PyData.eqv, eqv_ints]
theorem o_ne_locfl {n : Nat} {is js : List Int} (e : hl h n = some (is.map W.int)) : oNe (.loc n) (.fl (js.map W.int)) h = some (.bl (!decide (is = js)), h) := by
  rw [o_neD (pd_locI (d := 18) e) (pd_flI (d := 18)), PyData.eqv, eqv_ints]
theorem o_eq_locfl {n : Nat} {is js : List Int} (e : hl h n = some (is.map W.int)) : oEq (.loc n) (.fl (js.map W.int)) h = some (.bl (decide (is = js)), h) := by
  rw [o_eqD (pd_locI (d := 18) e) (pd_flI (d := 18)), PyData.eqv, eqv_ints]
/-! sorted -/
def leI (a b : Int) : Bool := decide (a ≤ b)
theorem total_leI : TotalLe leI := ⟨fun a b c h1 h2 => decide_eq_true (Int.le_trans (of_decide_eq_true h1) (of_decide_eq_true h2)), fun a b => by
  rcases Int.le_total a b with z | z
  · exact .inl (decide_eq_true z)
  · exact .inr (decide_eq_true z)⟩
theorem keyed_ints : ∀ is : List Int, keyed (is.map W.int) = some (is.map fun i => ((false, [i]), W.int i))
  | [] => rfl
  | i :: is => by
    rw [List.map_cons, keyed, keyed_ints is]; rfl
theorem sameK_ints : ∀ is : List Int, sameK (is.map fun i => ((false, [i]), W.int i)) = true
  | [] => rfl
  | i :: is => by
    rw [List.map_cons, sameK, List.all_map]
    exact List.all_eq_true.mpr fun _ _ => rfl
theorem lle_one (a b : Int) : lle [a] [b] = leI a b := by
  unfold lle leI
  by_cases e : a = b
  · subst e; simp [lle]
  · rw [if_neg e]
    by_cases l : a < b
    · rw [decide_eq_true l, decide_eq_true (by omega)]
    · rw [decide_eq_false l, decide_eq_false (by omega)]
theorem srtW_ints (is : List Int) : srtW (is.map W.int) = some ((srtB leI is).map W.int) := by
  unfold srtW
  rw [keyed_ints]
  show (if sameK _ = true then some ((srtB leK _).map (·.2)) else none) = _
  rw [if_pos (sameK_ints is), ← srtB_map (le := leI) (le' := leK) (fun i : Int => ((false, [i]), W.int i)) (fun a b => (lle_one a b).symm) is, List.map_map]
  rfl
theorem srtB_perm {α : Type} {le : α → α → Bool} (T : TotalLe le) (l : List α) : (srtB le l).Perm l := by rw [← srtB_eq T]; exact List.mergeSort_perm l le
theorem o_sort_ints {own : Bool} {is : List Int} {w : W} (e : iq h w = some (is.map W.int)) (hl : is.length < 100000) : oSort2 own [w] h = some (mk own ((srtB leI is).map W.int) h) := by
  show ((iq h w).bind fun us => if us.length < 2 then some (mk own us h) else oSorted own [w] h) = _
  rw [e]
  show (if (is.map W.int).length < 2 then some (mk own (is.map W.int) h) else oSorted own [w] h) = _
  split
  · rename_i h2
    match is, h2 with
    | [], _ => rfl
    | [i], _ => rfl
    | _ :: _ :: _, h2 => simp at h2; omega
  · show ((iq h w).bind fun us => if us.length < 100000 then (srtW us).bind fun r => some (mk own r h) else none) = _
    rw [e]
    show (if (is.map W.int).length < 100000 then (srtW (is.map W.int)).bind fun r => some (mk own r h) else none) = _
    rw [if_pos (by rw [List.length_map]; exact hl), srtW_ints]; rfl
/-- tuples of ints, none empty -/
def tupI (is : List Int) : W := .tup (is.map W.int)
theorem intsM : ∀ is : List Int, (is.map W.int).mapM intW = some is
  | [] => rfl
  | i :: is => by rw [List.map_cons, List.mapM_cons, intsM is]; rfl
theorem keyed_tups : ∀ cs : List (List Int), (∀ c ∈ cs, c ≠ []) → keyed (cs.map tupI) = some (cs.map fun c => ((true, c), tupI c))
  | [], _ => rfl
  | c :: cs, hc => by
    rw [List.map_cons, keyed, keyed_tups cs fun d hd => hc d (by simp [hd])]
    show (keyI (.tup (c.map W.int))).bind _ = _
    have : keyI (.tup (c.map W.int)) = some (true, c) := by
      show (((c.map W.int).mapM intW).bind fun is => if is = [] then none else some (true, is)) = _
      rw [intsM]
      show (if c = [] then none else some (true, c)) = _
      rw [if_neg (hc c (by simp))]
    rw [this]; rfl
theorem sameK_tups : ∀ cs : List (List Int), sameK (cs.map fun c => ((true, c), tupI c)) = true
  | [] => rfl
  | i :: is => by
    rw [List.map_cons, sameK, List.all_map]
    exact List.all_eq_true.mpr fun _ _ => rfl
theorem srtW_tups (cs : List (List Int)) (hc : ∀ c ∈ cs, c ≠ []) : srtW (cs.map tupI) = some ((srtB lle cs).map tupI) := by
  unfold srtW
  rw [keyed_tups cs hc]
  show (if sameK _ = true then some ((srtB leK _).map (·.2)) else none) = _
  rw [if_pos (sameK_tups cs), ← srtB_map (le := lle) (le' := leK) (fun c : List Int => ((true, c), tupI c)) (fun a b => rfl) cs, List.map_map]
  rfl
theorem total_lleI : TotalLe lle := ⟨fun a b c h1 h2 => by rw [lle_eq, decide_eq_true_eq] at *; exact List.le_trans h1 h2, fun a b => by rw [lle_eq, lle_eq, decide_eq_true_eq, decide_eq_true_eq]; exact List.le_total _ _⟩
theorem lle_anti {a b : List Int} (h1 : lle a b = true) (h2 : lle b a = true) : a = b := by
  rw [lle_eq, decide_eq_true_eq] at h1 h2
  exact List.le_antisymm h1 h2
/-- the first of the sorted: the least -/
theorem srt_head {cs : List (List Int)} {g : List Int} (hg : g ∈ cs) (hl : ∀ c ∈ cs, lle g c = true) : (srtB lle cs)[0]? = some g := by
  have hp := srtB_perm total_lleI cs
  have hw := srtB_pw total_lleI cs
  cases e : srtB lle cs with
  | nil => rw [e] at hp; have := hp.symm.subset hg; cases this
  | cons a l =>
    rw [e] at hp hw
    have ha : a ∈ cs := hp.subset (by simp)
    have h1 := hl a ha
    have h2 : lle a g = true := by
      rcases List.mem_cons.mp (hp.symm.subset hg) with z | z
      · rw [z]; rw [lle_eq, decide_eq_true_eq]; exact List.le_refl _
      · exact (List.pairwise_cons.mp hw).1 g z
    rw [lle_anti h2 h1]; rfl
theorem o_sort_tups {own : Bool} {cs : List (List Int)} {w : W} (e : iq h w = some (cs.map tupI)) (hl : cs.length < 100000) (hc : 2 ≤ cs.length → ∀ c ∈ cs, c ≠ []) : oSort2 own [w] h = some (mk own ((srtB lle cs).map tupI) h) := by
  show ((iq h w).bind fun us => if us.length < 2 then some (mk own us h) else oSorted own [w] h) = _
  rw [e]
  show (if (cs.map tupI).length < 2 then some (mk own (cs.map tupI) h) else oSorted own [w] h) = _
  split
  · rename_i h2
    match cs, h2 with
    | [], _ => rfl
    | [i], _ => rfl
    | _ :: _ :: _, h2 => simp at h2; omega
  · rename_i h2
    show ((iq h w).bind fun us => if us.length < 100000 then (srtW us).bind fun r => some (mk own r h) else none) = _
    rw [e]
    show (if (cs.map tupI).length < 100000 then (srtW (cs.map tupI)).bind fun r => some (mk own r h) else none) = _
    rw [if_pos (by rw [List.length_map]; exact hl), srtW_tups cs (hc (by rw [List.length_map] at h2; omega))]; rfl
theorem orO_none {o o' : MO2} {a b : W} (e : o a b h = none) : orO o o' a b h = o' a b h := by unfold orO; rw [e]
theorem orO_some {o o' : MO2} {a b : W} {q : W × Hm} (e : o a b h = some q) : orO o o' a b h = some q := by unfold orO; rw [e]
theorem o_catF {own : Bool} {xs ys : List W} (hl : xs.length + ys.length < 100000) : oAdd own (.fl xs) (.fl ys) h = some (mk own (xs ++ ys) h) := by
  unfold oAdd
  rw [orO_none (o := orO oAddI oCatT) rfl]
  simp only [oCatL, lq_fl, Option.bind_some]
  exact if_pos hl
theorem o_catT2 {own : Bool} {xs ys : List W} (hl : xs.length + ys.length < 100000) : oAdd own (.tup xs) (.tup ys) h = some (.tup (xs ++ ys), h) := by
  unfold oAdd
  have : oCatT (.tup xs) (.tup ys) h = some (.tup (xs ++ ys), h) := by
    simp only [oCatT]
    exact if_pos hl
  exact orO_some ((orO_none (o := oAddI) rfl).trans this)
theorem rep_eq {own : Bool} {xs : List W} {z : Int} (c : -(2 ^ 63) ≤ z ∧ z < 2 ^ 63 ∧ xs.length * z.toNat < 100000) : oRep own (.fl xs) (.int z) h = some (mk own (List.replicate z.toNat xs).flatten h) := by
  unfold oRep
  exact if_pos c
theorem o_rep {own : Bool} {xs : List W} {k : Nat} (hk : k < 1000) (hl : xs.length * k < 100000) : oTimes own (.fl xs) (.int k) h = some (mk own (List.replicate k xs).flatten h) := by
  unfold oTimes
  rw [orO_none (o := oMul) rfl, rep_eq ⟨by omega, by omega, by rw [Int.toNat_natCast]; exact hl⟩, Int.toNat_natCast]
end
end G

set_option Elab.async false
set_option linter.all false
set_option maxRecDepth 100000
set_option maxHeartbeats 4000000
/-! the mirror of the law -/
namespace K66
open PySem PySem.Spec PyProof.Rows L2 G
def m__law_draw : MO := mDef 3 (mSeq (mIf (mTb (mOp2 (oGt) (mOp2 oIx (mVar 0) (mC (.int 0))) (mC (.int 0)))) (mSeq (mAsg (mApp (oDivmod) (mCons (mOp2 oIx (mVar 0) (mC (.int 0))) (mCons (mVar 1) (mNil)))) (hT [hSub (mVar 0) (mC (.int 0)), hN 2]))
    (mRet (mVar 2))) (mNext))
    (mSeq (mAsg (mOp2 oMod (mApp (oInt) (mCons (mOp2 (oAdd false) (mOp2 (oTimes false) (mOp2 oIx (mVar 0) (mC (.int 1))) (mC (.int 40709))) (mC (.int 8623))) (mNil))) (mC (.int 2147483587))) (hSub (mVar 0) (mC (.int 1))))
    (mRet (mOp2 oMod (mApp (oInt) (mCons (mOp2 oDiv (mOp2 oMod (mApp (oInt) (mCons (mOp2 (oTimes false) (mOp2 oIx (mVar 0) (mC (.int 1))) (mOp2 oIx (mVar 0) (mC (.int 1)))) (mNil))) (mC (.int 2147483629))) (mC (.int 23))) (mNil))) (mVar 1)))))
def bd__law_mixed_0 : MS := mDrop (mMeth oApp (mVar 3) (mCons (mMeth oPopAt (mVar 2) (mCons (mApp (cG m__law_draw) (mCons (mVar 0) (mCons (mApp (oLen) (mCons (mVar 2) (mNil))) (mNil)))) (mNil))) (mNil)))
def ts__law_mixed_1 : MT := mTb (mOp2 (oNe) (mVar 2) (mLst false (mNil)))
def m__law_mixed : MO := mDef 4 (mSeq (mPar 2 3 (mCons (mLstRg true (mR1 (mVar 1))) (mCons (mLst true (mNil)) (mNil))))
    (mSeq (wh (ts__law_mixed_1) (bd__law_mixed_0) 100000)
    (mRet (mApp (oTuple) (mCons (mVar 3) (mNil))))))
def bd__law_row_0 : MS := mIf (mTb (mOp2 (oGt) (mVar 3) (mC (.int 0)))) (mSeq (mSet 10 (mMeth oPopAt (mVar 2) (mCons (mApp (cG m__law_draw) (mCons (mVar 0) (mCons (mVar 3) (mNil)))) (mNil))))
    (mDrop (mMeth oIns (mVar 2) (mCons (mApp (cG m__law_draw) (mCons (mVar 0) (mCons (mVar 3) (mNil)))) (mCons (mVar 10) (mNil)))))) (mNext)
def it__law_row_1 : MI := mRg1 (mCons (mApp (cG m__law_draw) (mCons (mVar 0) (mCons (mC (.int 4)) (mNil)))) (mNil))
def bd__law_row_2 : MS := mIf (mAndT (mTb (mOp2 (oLt) (mVar 8) (mVar 3))) (mOrT (mTb (mOp2 (oEq) (mVar 7) (mLst false (mNil)))) (mTb (mOp2 (oEq) (mApp (cG m__law_draw) (mCons (mVar 0) (mCons (mC (.int 2)) (mNil)))) (mC (.int 0)))))) (mSeq (mDrop (mMeth oApp (mVar 7) (mCons (mVar 8) (mNil))))
    (mSet 8 (mOp2 (oAdd false) (mVar 8) (mC (.int 1))))) (mDrop (mMeth oApp (mVar 6) (mCons (mMeth oPop (mVar 7) mNil) (mNil))))
def ts__law_row_3 : MT := mTb (mOp2 (oLt) (mApp (oLen) (mCons (mVar 6) (mNil))) (mVar 3))
def lc__law_row_4 : ME := mLc false [10] (mRg1 (mCons (mVar 3) (mNil))) (gN 10) (mYes) (mMeth oIndex (mVar 6) (mCons (mVar 10) (mNil)))
def bd__law_row_5 : MS := mSeq (mSet 9 (mOp2 (oAdd false) (mC (.int 1)) (mApp (cG m__law_draw) (mCons (mVar 0) (mCons (mOp2 oSub (mVar 3) (mApp (oLen) (mCons (mVar 6) (mNil)))) (mNil))))))
    (mDrop (mMeth oExt (mVar 6) (mCons (mRev false (mLstRg false (mR2 (mApp (oLen) (mCons (mVar 6) (mNil))) (mOp2 (oAdd false) (mApp (oLen) (mCons (mVar 6) (mNil))) (mVar 9))))) (mNil))))
def ts__law_row_6 : MT := mTb (mOp2 (oLt) (mApp (oLen) (mCons (mVar 6) (mNil))) (mVar 3))
def m__law_row : MO := mDef 11 (mSeq (mPar 3 4 (mCons (mApp (cG m__law_draw) (mCons (mVar 0) (mCons (mOp2 (oAdd false) (mVar 1) (mC (.int 1))) (mNil)))) (mCons (mApp (cG m__law_draw) (mCons (mVar 0) (mCons (mC (.int 5)) (mNil)))) (mNil))))
    (mSeq (mSet 2 (mLstRg true (mR1 (mVar 3))))
    (mSeq (mIf (mTb (mOp2 (oEq) (mVar 4) (mC (.int 0)))) (mRet (mApp (cG m__law_mixed) (mCons (mVar 0) (mCons (mVar 3) (mNil))))) (mNext))
    (mSeq (mIf (mTb (mOp2 (oEq) (mVar 4) (mC (.int 1)))) (mSeq (mFor 100000 (it__law_row_1) (gN 5) (bd__law_row_0))
    (mRet (mApp (oTuple) (mCons (mVar 2) (mNil))))) (mNext))
    (mSeq (mIf (mTb (mOp2 (oEq) (mVar 4) (mC (.int 2)))) (mSeq (mAsg (mTup (mCons (mLst true (mNil)) (mCons (mLst true (mNil)) (mCons (mC (.int 0)) (mNil))))) (hT [hN 7, hN 6, hN 8]))
    (mSeq (wh (ts__law_row_3) (bd__law_row_2) 100000)
    (mRet (mIfE (mTb (mOp2 (oEq) (mApp (cG m__law_draw) (mCons (mVar 0) (mCons (mC (.int 2)) (mNil)))) (mC (.int 0)))) (mApp (oTuple) (mCons (mVar 6) (mNil))) (mApp (oTuple) (mCons (lc__law_row_4) (mNil))))))) (mNext))
    (mSeq (mIf (mTb (mOp2 (oEq) (mVar 4) (mC (.int 3)))) (mSeq (mSet 6 (mLst true (mNil)))
    (mSeq (wh (ts__law_row_6) (bd__law_row_5) 100000)
    (mRet (mApp (oTuple) (mCons (mVar 6) (mNil)))))) (mNext))
    (mRet (mRev true (mApp (cG m__law_mixed) (mCons (mVar 0) (mCons (mVar 3) (mNil))))))))))))
def m_is_integer : MO := mDef 1 (mRet (mAnd (mIsi "int" (mVar 0)) (mNotV (mIsi "bool" (mVar 0)))))
def m_is_count : MO := mDef 1 (mRet (mAnd (mApp (cP m_is_integer) (mCons (mVar 0) (mNil))) (mOp2 (oGe) (mVar 0) (mC (.int 0)))))
def lc_is_row_value_0 : ME := mLc false [1] (mIt (mVar 0)) (gN 1) (mYes) (mApp (cP m_is_count) (mCons (mVar 1) (mNil)))
def m_is_row_value : MO := mDef 2 (mSeq (mIf (mOrT (mNot (mTb (mIsi "tuple" (mVar 0)))) (mOrT (mTb (mOp2 (oGt) (mApp (oLen) (mCons (mVar 0) (mNil))) (mC (.int 9)))) (mNot (mTb (mApp (o1 fAll) (mCons (lc_is_row_value_0) (mNil))))))) (mRet (mC (.bl false))) (mNext))
    (mRet (mOp2 (oEq) (mApp (oSort2 false) (mCons (mVar 0) (mNil))) (mLstRg false (mR1 (mApp (oLen) (mCons (mVar 0) (mNil))))))))
def m_want_row : MO := mDef 1 (mIf (mNot (mTb (mApp (cP m_is_row_value) (mCons (mVar 0) (mNil))))) (mNever) (mNext))
def m_does_fall : MO := mDef 2 (mRet (mOp2 (oGt) (mVar 0) (mVar 1)))
def m_does_rise : MO := mDef 2 (mRet (mOp2 (oLt) (mVar 0) (mVar 1)))
def Mv (y : PySem.Str) : Option MO := if y = "does_fall" then some (cP m_does_fall) else if y = "does_rise" then some (cP m_does_rise) else none
def lc_lengths_from_0 : ME := mLc false [5] (mRg2 (mCons (mOp2 (oAdd false) (mVar 3) (mC (.int 1))) (mCons (mApp (oLen) (mCons (mVar 0) (mNil))) (mNil)))) (gN 5) (mTb (mCallG 1 2 Mv (mCons (mOp2 oIx (mVar 0) (mVar 3)) (mCons (mOp2 oIx (mVar 0) (mVar 5)) (mNil))))) (mOp2 oIx (mVar 2) (mVar 5))
def bd_lengths_from_1 : MS := mSeq (mSet 4 (lc_lengths_from_0))
    (mAsg (mOp2 (oAdd false) (mC (.int 1)) (mApp (o1 fMax) (mCons (mOp2 (oAdd false) (mLst false (mCons (mC (.int 0)) (mNil))) (mVar 4)) (mNil)))) (hSub (mVar 2) (mVar 3)))
def it_lengths_from_2 : MI := mRgD (mCons (mOp2 oSub (mApp (oLen) (mCons (mVar 0) (mNil))) (mC (.int 1))) (mCons (mNeg (mC (.int 1))) (mCons (mNeg (mC (.int 1))) (mNil))))
def m_lengths_from : MO := mDef 6 (mSeq (mSet 2 (mOp2 (oTimes true) (mLst false (mCons (mC (.int 1)) (mNil))) (mApp (oLen) (mCons (mVar 0) (mNil)))))
    (mSeq (mFor 100000 (it_lengths_from_2) (gN 3) (bd_lengths_from_1))
    (mRet (mVar 2))))
def m_ends_at : MO := mDef 3 (mSeq (mDrop (mApp (cP m_want_row) (mCons (mVar 0) (mNil))))
    (mSeq (mPar 1 2 (mCons (mApp (cP m_lengths_from) (mCons (mRev false (mVar 0)) (mCons (mC (.fn "does_fall")) (mNil)))) (mCons (mApp (cP m_lengths_from) (mCons (mRev false (mVar 0)) (mCons (mC (.fn "does_rise")) (mNil)))) (mNil))))
    (mRet (mRev true (mLstZip false (mCons (mVar 1) (mCons (mVar 2) (mNil))))))))
def lc__law_all_0 : ME := mLc false [5] (mIt (mVar 2)) (gN 5) (mOrT (mTb (mOp2 (oEq) (mVar 5) (mTup (mNil)))) (mTb (mOp2 (oEq) (mOp2 (oLt) (mOp2 oIx (mVar 0) (mOp2 oIx (mVar 5) (mOp2 oSub (mApp (oLen) (mCons (mVar 5) (mNil))) (mC (.int 1))))) (mVar 4)) (mVar 1)))) (mOp2 (oAdd false) (mVar 5) (mTup (mCons (mVar 3) (mNil))))
def bd__law_all_1 : MS := mSet 2 (mOp2 (oAdd false) (mVar 2) (lc__law_all_0))
def it__law_all_2 : MI := mEn (mCons (mVar 0) (mNil))
def m__law_all : MO := mDef 6 (mSeq (mSet 2 (mLst false (mCons (mTup (mNil)) (mNil))))
    (mSeq (mFor 100000 (it__law_all_2) (gT [3, 4]) (bd__law_all_1))
    (mRet (mVar 2))))
def lc__law_longest_0 : ME := mLc false [4] (mIt (mVar 2)) (gN 4) (mYes) (mApp (oLen) (mCons (mVar 4) (mNil)))
def lc__law_longest_1 : ME := mLc false [4] (mIt (mVar 2)) (gN 4) (mTb (mOp2 (oEq) (mApp (oLen) (mCons (mVar 4) (mNil))) (mVar 3))) (mVar 4)
def m__law_longest : MO := mDef 5 (mSeq (mSet 2 (mApp (cP m__law_all) (mCons (mVar 0) (mCons (mVar 1) (mNil)))))
    (mSeq (mSet 3 (mApp (o1 fMax) (mCons (lc__law_longest_0) (mNil))))
    (mRet (mOp2 oIx (mApp (oSort2 false) (mCons (lc__law_longest_1) (mNil))) (mC (.int 0))))))
def b_m__law_is (m : MO) : MO := mDef 4 (mSeq (mIf (mTb (mOp2 (oIsN) (mVar 1) (mC .non))) (mRet (mOp2 (oIsN) (mVar 0) (mC .non))) (mNext))
    (mSeq (mIf (mTb (mIsi "bool" (mVar 1))) (mRet (mAnd (mIsi "bool" (mVar 0)) (mOp2 (oEq) (mVar 0) (mVar 1)))) (mNext))
    (mSeq (mIf (mTb (mIsi "int" (mVar 1))) (mRet (mAnd (mIsi "int" (mVar 0)) (mAnd (mNotV (mIsi "bool" (mVar 0))) (mOp2 (oEq) (mVar 0) (mVar 1))))) (mNext))
    (mSeq (mIf (mTb (mIsi "str" (mVar 1))) (mRet (mAnd (mIsi "str" (mVar 0)) (mOp2 (oEq) (mVar 0) (mVar 1)))) (mNext))
    (mSeq (mSet 2 (mIfE (mTb (mIsi "list" (mVar 1))) (mIsi "list" (mVar 0)) (mIsi "tuple" (mVar 0))))
    (mSeq (mIf (mOrT (mNot (mTb (mVar 2))) (mTb (mOp2 (oNe) (mApp (oLen) (mCons (mVar 0) (mNil))) (mApp (oLen) (mCons (mVar 1) (mNil)))))) (mRet (mC (.bl false))) (mNext))
    (mRet (mOp2 (oEq) (mLc false [3] (mRg1 (mCons (mApp (oLen) (mCons (mVar 1) (mNil))) (mNil))) (gN 3) (mNot (mTb (mApp (cP m) (mCons (mOp2 oIx (mVar 0) (mVar 3)) (mCons (mOp2 oIx (mVar 1) (mVar 3)) (mNil)))))) (mVar 3)) (mLst false (mNil))))))))))
def m__law_is : Nat → MO
  | 0 => fun _ _ => none
  | n + 1 => b_m__law_is (m__law_is n)
def bd_longest_of_0 : MS := mSeq (mSet 7 (mOp2 oSub (mApp (o1 fMax) (mCons (mOp2 (oAdd false) (mLst false (mCons (mC (.int 0)) (mNil))) (mVar 2)) (mNil))) (mApp (oLen) (mCons (mVar 3) (mNil)))))
    (mIf (mAndT (mTb (mOp2 (oGt) (mVar 7) (mC (.int 0)))) (mAndT (mTb (mOp2 (oEq) (mOp2 oIx (mVar 2) (mVar 5)) (mVar 7))) (mOrT (mTb (mOp2 (oIsN) (mVar 4) (mC .non))) (mTb (mCallG 1 2 Mv (mCons (mVar 4) (mCons (mVar 6) (mNil)))))))) (mPar 3 4 (mCons (mOp2 (oAdd false) (mVar 3) (mTup (mCons (mVar 5) (mNil)))) (mCons (mVar 6) (mNil)))) (mNext))
def it_longest_of_1 : MI := mEn (mCons (mVar 0) (mNil))
def m_longest_of : MO := mDef 8 (mSeq (mPar3 2 3 4 (mCons (mApp (cP m_lengths_from) (mCons (mVar 0) (mCons (mVar 1) (mNil)))) (mCons (mTup (mNil)) (mCons (mC .non) (mNil)))))
    (mSeq (mFor 100000 (it_longest_of_1) (gT [5, 6]) (bd_longest_of_0))
    (mRet (mVar 3))))
def m_rising_positions : MO := mDef 1 (mSeq (mDrop (mApp (cP m_want_row) (mCons (mVar 0) (mNil))))
    (mRet (mApp (cOw m_longest_of) (mCons (mVar 0) (mCons (mC (.fn "does_rise")) (mNil))))))
def m_falling_positions : MO := mDef 1 (mSeq (mDrop (mApp (cP m_want_row) (mCons (mVar 0) (mNil))))
    (mRet (mApp (cOw m_longest_of) (mCons (mVar 0) (mCons (mC (.fn "does_fall")) (mNil))))))
def m_reversed_of : MO := mDef 1 (mRet (mRev true (mVar 0)))
def m_turned_back : MO := mDef 1 (mSeq (mDrop (mApp (cP m_want_row) (mCons (mVar 0) (mNil))))
    (mRet (mApp (cOw m_reversed_of) (mCons (mVar 0) (mNil)))))
def lc_over_of_0 : ME := mLc false [1] (mIt (mVar 0)) (gN 1) (mYes) (mOp2 oSub (mOp2 oSub (mApp (oLen) (mCons (mVar 0) (mNil))) (mC (.int 1))) (mVar 1))
def m_over_of : MO := mDef 2 (mRet (mApp (oTuple) (mCons (lc_over_of_0) (mNil))))
def m_turned_over : MO := mDef 1 (mSeq (mDrop (mApp (cP m_want_row) (mCons (mVar 0) (mNil))))
    (mRet (mApp (cOw m_over_of) (mCons (mVar 0) (mNil)))))
def bd_undone_of_0 : MS := mAsg (mVar 2) (hSub (mVar 1) (mVar 3))
def it_undone_of_1 : MI := mEn (mCons (mVar 0) (mNil))
def m_undone_of : MO := mDef 4 (mSeq (mSet 1 (mOp2 (oTimes true) (mLst false (mCons (mC (.int 0)) (mNil))) (mApp (oLen) (mCons (mVar 0) (mNil)))))
    (mSeq (mFor 100000 (it_undone_of_1) (gT [2, 3]) (bd_undone_of_0))
    (mRet (mApp (oTuple) (mCons (mVar 1) (mNil))))))
def m_undone : MO := mDef 1 (mSeq (mDrop (mApp (cP m_want_row) (mCons (mVar 0) (mNil))))
    (mRet (mApp (cOw m_undone_of) (mCons (mVar 0) (mNil)))))
def lc__law_right_0 : ME := mLc false [13] (mIt (mApp (cP m__law_all) (mCons (mSl false (mVar 1) (mNo) (mPart (mOp2 (oAdd false) (mVar 3) (mC (.int 1))))) (mCons (mC (.bl true)) (mNil))))) (gN 13) (mAndT (mTb (mOp2 (oNe) (mVar 13) (mTup (mNil)))) (mTb (mOp2 (oEq) (mOp2 oIx (mVar 13) (mOp2 oSub (mApp (oLen) (mCons (mVar 13) (mNil))) (mC (.int 1)))) (mVar 3)))) (mApp (oLen) (mCons (mVar 13) (mNil)))
def lc__law_right_1 : ME := mLc false [13] (mIt (mApp (cP m__law_all) (mCons (mSl false (mVar 1) (mNo) (mPart (mOp2 (oAdd false) (mVar 3) (mC (.int 1))))) (mCons (mC (.bl false)) (mNil))))) (gN 13) (mAndT (mTb (mOp2 (oNe) (mVar 13) (mTup (mNil)))) (mTb (mOp2 (oEq) (mOp2 oIx (mVar 13) (mOp2 oSub (mApp (oLen) (mCons (mVar 13) (mNil))) (mC (.int 1)))) (mVar 3)))) (mApp (oLen) (mCons (mVar 13) (mNil)))
def bd__law_right_2 : MS := mSeq (mSet 9 (lc__law_right_0))
    (mSeq (mSet 10 (lc__law_right_1))
    (mDrop (mMeth oApp (mVar 2) (mCons (mTup (mCons (mApp (o1 fMax) (mCons (mVar 9) (mNil))) (mCons (mApp (o1 fMax) (mCons (mVar 10) (mNil))) (mNil)))) (mNil)))))
def it__law_right_3 : MI := mRg1 (mCons (mApp (oLen) (mCons (mVar 1) (mNil))) (mNil))
def lc__law_right_4 : ME := mLc false [3] (mRg1 (mCons (mVar 11) (mNil))) (gN 3) (mYes) (mOp2 (oAdd false) (mApp (oLen) (mCons (mVar 5) (mNil))) (mVar 3))
def bd__law_right_5 : MS := mSet 5 (mOp2 (oAdd false) (mVar 5) (mApp (oTuple) (mCons (mRev false (lc__law_right_4)) (mNil))))
def it__law_right_6 : MI := mRg1 (mCons (mVar 12) (mNil))
def lc__law_right_7 : ME := mLc false [3] (mRg1 (mCons (mVar 12) (mNil))) (gN 3) (mYes) (mOp2 (oTimes false) (mVar 11) (mVar 3))
def m__law_right : MO := mDef 14 (mSeq (mSet 1 (mApp (cG m__law_row) (mCons (mVar 0) (mCons (mC (.int 9)) (mNil)))))
    (mSeq (mPar 7 8 (mCons (mApp (cP m__law_longest) (mCons (mVar 1) (mCons (mC (.bl true)) (mNil)))) (mCons (mApp (cP m__law_longest) (mCons (mVar 1) (mCons (mC (.bl false)) (mNil)))) (mNil))))
    (mSeq (mIf (mNot (mTb (mApp (cP (m__law_is 12)) (mCons (mLst false (mCons (mApp (cP m_rising_positions) (mCons (mVar 1) (mNil))) (mCons (mAppK (cP m_rising_positions) [0] (mCons (mVar 1) (mNil))) (mCons (mApp (cP m_falling_positions) (mCons (mVar 1) (mNil))) (mCons (mAppK (cP m_falling_positions) [0] (mCons (mVar 1) (mNil))) (mNil)))))) (mCons (mLst false (mCons (mVar 7) (mCons (mVar 7) (mCons (mVar 8) (mCons (mVar 8) (mNil)))))) (mNil)))))) (mRet (mC (.bl false))) (mNext))
    (mSeq (mSet 2 (mLst true (mNil)))
    (mSeq (mFor 100000 (it__law_right_3) (gN 3) (bd__law_right_2))
    (mSeq (mSet 4 (mApp (cOw m_ends_at) (mCons (mVar 1) (mNil))))
    (mSeq (mIf (mOrT (mNot (mTb (mApp (cB (m__law_is 12)) (mCons (mLst false (mCons (mVar 4) (mCons (mAppK (cP m_ends_at) [0] (mCons (mVar 1) (mNil))) (mNil)))) (mCons (mLst false (mCons (mVar 2) (mCons (mVar 2) (mNil)))) (mNil)))))) (mTb (mOp2 (oNe) (mLenSet (mVar 2)) (mApp (oLen) (mCons (mVar 1) (mNil)))))) (mRet (mC (.bl false))) (mNext))
    (mSeq (mDrop (mMeth oApp (mVar 4) (mCons (mC .non) (mNil))))
    (mSeq (mIf (mOrT (mNot (mTb (mApp (cB (m__law_is 12)) (mCons (mApp (cP m_ends_at) (mCons (mVar 1) (mNil))) (mCons (mVar 2) (mNil)))))) (mTb (mOp2 (oLt) (mOp2 (oTimes false) (mApp (oLen) (mCons (mVar 7) (mNil))) (mApp (oLen) (mCons (mVar 8) (mNil)))) (mApp (oLen) (mCons (mVar 1) (mNil)))))) (mRet (mC (.bl false))) (mNext))
    (mSeq (mSet 4 (mLst true (mCons (mApp (oLen) (mCons (mApp (cP m_rising_positions) (mCons (mApp (cP m_turned_back) (mCons (mVar 1) (mNil))) (mNil))) (mNil))) (mCons (mApp (oLen) (mCons (mApp (cP m_falling_positions) (mCons (mApp (cP m_turned_over) (mCons (mVar 1) (mNil))) (mNil))) (mNil))) (mCons (mApp (oLen) (mCons (mApp (cP m_rising_positions) (mCons (mApp (cP m_undone) (mCons (mVar 1) (mNil))) (mNil))) (mNil))) (mCons (mApp (oLen) (mCons (mApp (cP m_falling_positions) (mCons (mApp (cP m_undone) (mCons (mVar 1) (mNil))) (mNil))) (mNil))) (mNil)))))))
    (mSeq (mIf (mOrT (mTb (mOp2 (oNe) (mVar 4) (mLst false (mCons (mApp (oLen) (mCons (mVar 8) (mNil))) (mCons (mApp (oLen) (mCons (mVar 7) (mNil))) (mCons (mApp (oLen) (mCons (mVar 7) (mNil))) (mCons (mApp (oLen) (mCons (mVar 8) (mNil))) (mNil)))))))) (mTb (mOp2 (oNe) (mApp (cP m_rising_positions) (mCons (mApp (cP m_turned_over) (mCons (mVar 1) (mNil))) (mNil))) (mVar 8)))) (mRet (mC (.bl false))) (mNext))
    (mSeq (mAsg (mTup (mCons (mOp2 (oAdd false) (mC (.int 1)) (mApp (cG m__law_draw) (mCons (mVar 0) (mCons (mC (.int 3)) (mNil))))) (mCons (mOp2 (oAdd false) (mC (.int 1)) (mApp (cG m__law_draw) (mCons (mVar 0) (mCons (mC (.int 3)) (mNil))))) (mNil)))) (hT [hN 11, hN 12]))
    (mSeq (mSet 5 (mTup (mNil)))
    (mSeq (mFor 100000 (it__law_right_6) (gN 6) (bd__law_right_5))
    (mSeq (mIf (mTb (mOp2 (oNe) (mLst false (mCons (mApp (oLen) (mCons (mApp (cP m_rising_positions) (mCons (mVar 5) (mNil))) (mNil))) (mCons (mApp (oLen) (mCons (mApp (cP m_falling_positions) (mCons (mVar 5) (mNil))) (mNil))) (mNil)))) (mLst false (mCons (mVar 12) (mCons (mVar 11) (mNil)))))) (mRet (mC (.bl false))) (mNext))
    (mRet (mAnd (mOp2 (oEq) (mApp (cP m_falling_positions) (mCons (mVar 5) (mNil))) (mTupRg (mR1 (mVar 11)))) (mOp2 (oEq) (mApp (cP m_rising_positions) (mCons (mVar 5) (mNil))) (mApp (oTuple) (mCons (lc__law_right_7) (mNil)))))))))))))))))))))
def m__law_pot : MO := mDef 4 (mSeq (mSet 2 (mIfE (mTb (mOp2 (oLt) (mVar 1) (mApp (oLen) (mCons (mVar 0) (mNil))))) (mApp (oAbs) (mCons (mOp2 oIx (mVar 0) (mVar 1)) (mNil))) (mOp2 (oAdd false) (mOp2 (oAdd false) (mOp2 (oTimes false) (mC (.int 311)) (mVar 1)) (mC (.int 227))) (mOp2 oMod (mApp (oAbs) (mCons (mApp (o1 fSum) (mCons (mSl false (mVar 0) (mNo) (mPart (mC (.int 1)))) (mNil))) (mNil))) (mC (.int 1000003))))))
    (mSeq (mSet 3 (mOp2 (oAdd false) (mOp2 oMod (mApp (oInt) (mCons (mOp2 (oAdd false) (mOp2 (oAdd false) (mOp2 (oTimes false) (mOp2 oMod (mApp (oInt) (mCons (mVar 2) (mNil))) (mC (.int 2147483549))) (mC (.int 40507))) (mOp2 (oTimes false) (mC (.int 8623)) (mVar 1))) (mC (.int 157))) (mNil))) (mC (.int 2147483563))) (mC (.int 1))))
    (mRet (mLst true (mCons (mApp (oMax2) (mCons (mC (.int 0)) (mCons (mOp2 oSub (mVar 2) (mOp2 oPow (mC (.int 10)) (mC (.int 18)))) (mNil)))) (mCons (mVar 3) (mNil)))))))
def lc_law_0 : ME := mLc false [1] (mRg1 (mCons (mApp (oMax2) (mCons (mC (.int 1)) (mCons (mApp (oMin2) (mCons (mC (.int 3)) (mCons (mApp (oLen) (mCons (mVar 0) (mNil))) (mNil)))) (mNil)))) (mNil))) (gN 1) (mYes) (mApp (cG m__law_right) (mCons (mApp (cOw m__law_pot) (mCons (mVar 0) (mCons (mVar 1) (mNil)))) (mNil)))
def m_law : MO := mDef 2 (mRet (mApp (o1 fAll) (mCons (lc_law_0) (mNil))))
end K66

set_option Elab.async false
set_option linter.all false
set_option maxRecDepth 100000
set_option maxHeartbeats 4000000
/-! the walk -/
namespace K66
open PySem PySem.Spec PyProof.Rows L2 G
def topS (i : Nat) : Stmt := PySem.Challenge.pw_barredpatterns_k66_whole_longest_rising.main.body.getD i (.Pass ⟨0, 0, 0, 0⟩)
abbrev s__law_draw : Stmt := topS 26
abbrev s__law_mixed : Stmt := topS 29
abbrev s__law_row : Stmt := topS 31
abbrev s_is_integer : Stmt := topS 4
abbrev s_is_count : Stmt := topS 5
abbrev s_is_row_value : Stmt := topS 8
abbrev s_want_row : Stmt := topS 9
abbrev s_does_fall : Stmt := topS 20
abbrev s_does_rise : Stmt := topS 19
abbrev s_lengths_from : Stmt := topS 17
abbrev s_ends_at : Stmt := topS 23
abbrev s__law_all : Stmt := topS 32
abbrev s__law_longest : Stmt := topS 33
abbrev s__law_is : Stmt := topS 28
abbrev s_longest_of : Stmt := topS 18
abbrev s_rising_positions : Stmt := topS 21
abbrev s_falling_positions : Stmt := topS 22
abbrev s_reversed_of : Stmt := topS 11
abbrev s_turned_back : Stmt := topS 14
abbrev s_over_of : Stmt := topS 12
abbrev s_turned_over : Stmt := topS 15
abbrev s_undone_of : Stmt := topS 10
abbrev s_undone : Stmt := topS 13
abbrev s__law_right : Stmt := topS 34
abbrev s__law_pot : Stmt := topS 25
abbrev s_law : Stmt := topS 35
abbrev FnP (K : PySem.W.Frag) (x : Str) (st : Stmt) (f : Addr) (fd : FuncData) : Prop := FunD K x x (defArgs st) (defBody st) (defScope st) [] [] f fd
structure Fx (K : PySem.W.Frag) (mg : Str → Option Value) where
  f__law_draw : Addr
  d__law_draw : FuncData
  F__law_draw : FnP K "_law_draw" s__law_draw f__law_draw d__law_draw
  g__law_draw : mg "_law_draw" = some (.ref f__law_draw)
  f__law_mixed : Addr
  d__law_mixed : FuncData
  F__law_mixed : FnP K "_law_mixed" s__law_mixed f__law_mixed d__law_mixed
  g__law_mixed : mg "_law_mixed" = some (.ref f__law_mixed)
  f__law_row : Addr
  d__law_row : FuncData
  F__law_row : FnP K "_law_row" s__law_row f__law_row d__law_row
  g__law_row : mg "_law_row" = some (.ref f__law_row)
  f_is_integer : Addr
  d_is_integer : FuncData
  F_is_integer : FnP K "is_integer" s_is_integer f_is_integer d_is_integer
  g_is_integer : mg "is_integer" = some (.ref f_is_integer)
  f_is_count : Addr
  d_is_count : FuncData
  F_is_count : FnP K "is_count" s_is_count f_is_count d_is_count
  g_is_count : mg "is_count" = some (.ref f_is_count)
  f_is_row_value : Addr
  d_is_row_value : FuncData
  F_is_row_value : FnP K "is_row_value" s_is_row_value f_is_row_value d_is_row_value
  g_is_row_value : mg "is_row_value" = some (.ref f_is_row_value)
  f_want_row : Addr
  d_want_row : FuncData
  F_want_row : FnP K "want_row" s_want_row f_want_row d_want_row
  g_want_row : mg "want_row" = some (.ref f_want_row)
  f_does_fall : Addr
  d_does_fall : FuncData
  F_does_fall : FnP K "does_fall" s_does_fall f_does_fall d_does_fall
  g_does_fall : mg "does_fall" = some (.ref f_does_fall)
  f_does_rise : Addr
  d_does_rise : FuncData
  F_does_rise : FnP K "does_rise" s_does_rise f_does_rise d_does_rise
  g_does_rise : mg "does_rise" = some (.ref f_does_rise)
  f_lengths_from : Addr
  d_lengths_from : FuncData
  F_lengths_from : FnP K "lengths_from" s_lengths_from f_lengths_from d_lengths_from
  g_lengths_from : mg "lengths_from" = some (.ref f_lengths_from)
  f_ends_at : Addr
  d_ends_at : FuncData
  F_ends_at : FnP K "ends_at" s_ends_at f_ends_at d_ends_at
  g_ends_at : mg "ends_at" = some (.ref f_ends_at)
  f__law_all : Addr
  d__law_all : FuncData
  F__law_all : FnP K "_law_all" s__law_all f__law_all d__law_all
  g__law_all : mg "_law_all" = some (.ref f__law_all)
  f__law_longest : Addr
  d__law_longest : FuncData
  F__law_longest : FnP K "_law_longest" s__law_longest f__law_longest d__law_longest
  g__law_longest : mg "_law_longest" = some (.ref f__law_longest)
  f__law_is : Addr
  d__law_is : FuncData
  F__law_is : FnP K "_law_is" s__law_is f__law_is d__law_is
  g__law_is : mg "_law_is" = some (.ref f__law_is)
  f_longest_of : Addr
  d_longest_of : FuncData
  F_longest_of : FnP K "longest_of" s_longest_of f_longest_of d_longest_of
  g_longest_of : mg "longest_of" = some (.ref f_longest_of)
  f_rising_positions : Addr
  d_rising_positions : FuncData
  F_rising_positions : FnP K "rising_positions" s_rising_positions f_rising_positions d_rising_positions
  g_rising_positions : mg "rising_positions" = some (.ref f_rising_positions)
  f_falling_positions : Addr
  d_falling_positions : FuncData
  F_falling_positions : FnP K "falling_positions" s_falling_positions f_falling_positions d_falling_positions
  g_falling_positions : mg "falling_positions" = some (.ref f_falling_positions)
  f_reversed_of : Addr
  d_reversed_of : FuncData
  F_reversed_of : FnP K "reversed_of" s_reversed_of f_reversed_of d_reversed_of
  g_reversed_of : mg "reversed_of" = some (.ref f_reversed_of)
  f_turned_back : Addr
  d_turned_back : FuncData
  F_turned_back : FnP K "turned_back" s_turned_back f_turned_back d_turned_back
  g_turned_back : mg "turned_back" = some (.ref f_turned_back)
  f_over_of : Addr
  d_over_of : FuncData
  F_over_of : FnP K "over_of" s_over_of f_over_of d_over_of
  g_over_of : mg "over_of" = some (.ref f_over_of)
  f_turned_over : Addr
  d_turned_over : FuncData
  F_turned_over : FnP K "turned_over" s_turned_over f_turned_over d_turned_over
  g_turned_over : mg "turned_over" = some (.ref f_turned_over)
  f_undone_of : Addr
  d_undone_of : FuncData
  F_undone_of : FnP K "undone_of" s_undone_of f_undone_of d_undone_of
  g_undone_of : mg "undone_of" = some (.ref f_undone_of)
  f_undone : Addr
  d_undone : FuncData
  F_undone : FnP K "undone" s_undone f_undone d_undone
  g_undone : mg "undone" = some (.ref f_undone)
  f__law_right : Addr
  d__law_right : FuncData
  F__law_right : FnP K "_law_right" s__law_right f__law_right d__law_right
  g__law_right : mg "_law_right" = some (.ref f__law_right)
  f__law_pot : Addr
  d__law_pot : FuncData
  F__law_pot : FnP K "_law_pot" s__law_pot f__law_pot d__law_pot
  g__law_pot : mg "_law_pot" = some (.ref f__law_pot)
  f_law : Addr
  d_law : FuncData
  F_law : FnP K "law" s_law f_law d_law
  g_law : mg "law" = some (.ref f_law)
  n_abs : mg "abs" = none
  n_all : mg "all" = none
  n_bool : mg "bool" = none
  n_divmod : mg "divmod" = none
  n_enumerate : mg "enumerate" = none
  n_int : mg "int" = none
  n_isinstance : mg "isinstance" = none
  n_len : mg "len" = none
  n_list : mg "list" = none
  n_max : mg "max" = none
  n_min : mg "min" = none
  n_range : mg "range" = none
  n_set : mg "set" = none
  n_sorted : mg "sorted" = none
  n_str : mg "str" = none
  n_sum : mg "sum" = none
  n_tuple : mg "tuple" = none
  n_zip : mg "zip" = none
  t_MOST_NUMBERS : Tok
  c_MOST_NUMBERS : mg "MOST_NUMBERS" = some (.int 9 t_MOST_NUMBERS)
section
variable {P : Program} {w : World} {K : PySem.W.Frag} {mg : Str → Option Value} {base : Heap}
theorem sc__law_draw : FnScope ["pot", "sides", "digit"] ["pot", "sides"] (defScope s__law_draw) := ⟨rfl, rfl, rfl, by decide +kernel, rfl, by decide +kernel, by decide +kernel⟩
theorem b__law_draw (FX : Fx K mg) : Binds K FX.d__law_draw ["pot", "sides"] [] := FX.F__law_draw.bindsN fun _ _ _ _ _ _ us hl => match us, hl with | [_, _], _ => rfl
theorem ok__law_draw (FX : Fx K mg) : FnOk P w K mg base CX0 1 FX.f__law_draw FX.d__law_draw ["pot", "sides"] (spM K mg m__law_draw 2) :=
  def_ok (k := 0) FX.F__law_draw sc__law_draw fun cdv A outer s H E hr =>
    gss_cons (gs_if (gt_cmp op_gt (w_gt) (ge_ix (g_var (pv 0)) (g_c pe_int (fun _ _ _ => .int _))) (g_c pe_int (fun _ _ _ => .int _)) (nomark _)) (gss_cons (gs_asg (ge_blt call_divmod w_divmod rfl FX.n_divmod rfl (ga_cons (ge_ix (g_var (pv 0)) (g_c pe_int (fun _ _ _ => .int _))) (ga_cons (g_var (pv 1)) (ga_nil)))) (gh_tup rfl (ghs_cons (gh_sub (g_var (pv 0)) (g_c pe_int (fun _ _ _ => .int _))) (ghs_cons (gh_name sc__law_draw.nd rfl (by first | exact Or.inl rfl | exact Or.inr rfl)) (ghs_nil)))))
    (gss_one (gs_ret (g_var (pv 2))))) (gss_nil))
    (gss_cons (gs_asg (g_op op_mod w_mod (ge_ty call_int1 w_int rfl FX.n_int rfl (ga_cons (g_op or_add (w_add (own := false)) (g_op or_times (w_times (own := false)) (ge_ix (g_var (pv 0)) (g_c pe_int (fun _ _ _ => .int _))) (g_c pe_int (fun _ _ _ => .int _))) (g_c pe_int (fun _ _ _ => .int _))) (ga_nil))) (g_c pe_int (fun _ _ _ => .int _))) (gh_sub (g_var (pv 0)) (g_c pe_int (fun _ _ _ => .int _))))
    (gss_one (gs_ret (g_op op_mod w_mod (ge_ty call_int1 w_int rfl FX.n_int rfl (ga_cons (g_op op_fdiv w_div (g_op op_mod w_mod (ge_ty call_int1 w_int rfl FX.n_int rfl (ga_cons (g_op or_times (w_times (own := false)) (ge_ix (g_var (pv 0)) (g_c pe_int (fun _ _ _ => .int _))) (ge_ix (g_var (pv 0)) (g_c pe_int (fun _ _ _ => .int _)))) (ga_nil))) (g_c pe_int (fun _ _ _ => .int _))) (g_c pe_int (fun _ _ _ => .int _))) (ga_nil))) (g_var (pv 1))))))
theorem sc__law_mixed : FnScope ["pot", "many", "left", "found"] ["pot", "many"] (defScope s__law_mixed) := ⟨rfl, rfl, rfl, by decide +kernel, rfl, by decide +kernel, by decide +kernel⟩
theorem b__law_mixed (FX : Fx K mg) : Binds K FX.d__law_mixed ["pot", "many"] [] := FX.F__law_mixed.bindsN fun _ _ _ _ _ _ us hl => match us, hl with | [_, _], _ => rfl
theorem ok__law_mixed (FX : Fx K mg) : FnOk P w K mg base CX0 2 FX.f__law_mixed FX.d__law_mixed ["pot", "many"] (spM K mg m__law_mixed 2) :=
  def_ok (k := 1) FX.F__law_mixed sc__law_mixed fun cdv A outer s H E hr =>
    gss_cons (gs_par rfl sc__law_mixed.nd rfl rfl (by decide) rfl rfl (ga_cons (ge_lstRg true rfl rfl FX.n_list (gr_1 rfl FX.n_range (g_var (pv 1)))) (ga_cons (ge_lst true (ga_nil)) (ga_nil))) rfl)
    (gss_cons (gs_while 100000 PassesOwn.never (gt_cmp (or_ne hr.units) (w_ne) (g_var (pv 2)) (ge_lst false (ga_nil)) (nomark _)) (gss_one (gs_expr (ge_meth PySem.F.slot_list_append PySem.F.type_list_append mt_append w_app (g_var (pv 3)) (ga_cons (ge_meth PySem.F.slot_list_pop PySem.F.type_list_pop mt_popAt w_popAt (g_var (pv 2)) (ga_cons (ge_call (ok__law_draw FX) sp_G (hr.mono (by decide)) rfl FX.g__law_draw FX.F__law_draw.kp (b__law_draw FX) (ga_cons (g_var (pv 0)) (ga_cons (ge_blt call_len_seq w_len rfl FX.n_len rfl (ga_cons (g_var (pv 2)) (ga_nil))) (ga_nil))) rfl (len_cons (len_cons (len_nil)))) (ga_nil))) (ga_nil))))))
    (gss_one (gs_ret (ge_ty call_tuple_of w_tuple rfl FX.n_tuple rfl (ga_cons (g_var (pv 3)) (ga_nil))))))
theorem sc__law_row : FnScope ["pot", "most", "row", "many", "mode", "turn", "found", "stack", "at", "size", "number"] ["pot", "most"] (defScope s__law_row) := ⟨rfl, rfl, rfl, by decide +kernel, rfl, by decide +kernel, by decide +kernel⟩
theorem b__law_row (FX : Fx K mg) : Binds K FX.d__law_row ["pot", "most"] [] := FX.F__law_row.bindsN fun _ _ _ _ _ _ us hl => match us, hl with | [_, _], _ => rfl
theorem ok__law_row (FX : Fx K mg) : FnOk P w K mg base CX0 3 FX.f__law_row FX.d__law_row ["pot", "most"] (spM K mg m__law_row 2) :=
  def_ok (k := 2) FX.F__law_row sc__law_row fun cdv A outer s H E hr =>
    gss_cons (gs_par rfl sc__law_row.nd rfl rfl (by decide) rfl rfl (ga_cons (ge_call (ok__law_draw FX) sp_G (hr.mono (by decide)) rfl FX.g__law_draw FX.F__law_draw.kp (b__law_draw FX) (ga_cons (g_var (pv 0)) (ga_cons (g_op or_add (w_add (own := false)) (g_var (pv 1)) (g_c pe_int (fun _ _ _ => .int _))) (ga_nil))) rfl (len_cons (len_cons (len_nil)))) (ga_cons (ge_call (ok__law_draw FX) sp_G (hr.mono (by decide)) rfl FX.g__law_draw FX.F__law_draw.kp (b__law_draw FX) (ga_cons (g_var (pv 0)) (ga_cons (g_c pe_int (fun _ _ _ => .int _)) (ga_nil))) rfl (len_cons (len_cons (len_nil)))) (ga_nil))) rfl)
    (gss_cons (gs_set sc__law_row.nd rfl (by first | exact Or.inl rfl | exact Or.inr rfl) (ge_lstRg true rfl rfl FX.n_list (gr_1 rfl FX.n_range (g_var (pv 3)))))
    (gss_cons (gs_if (gt_cmp (or_eq hr.units) (w_eq) (g_var (pv 4)) (g_c pe_int (fun _ _ _ => .int _)) (nomark _)) (gss_one (gs_ret (ge_call (ok__law_mixed FX) sp_G (hr.mono (by decide)) rfl FX.g__law_mixed FX.F__law_mixed.kp (b__law_mixed FX) (ga_cons (g_var (pv 0)) (ga_cons (g_var (pv 3)) (ga_nil))) rfl (len_cons (len_cons (len_nil)))))) (gss_nil))
    (gss_cons (gs_if (gt_cmp (or_eq hr.units) (w_eq) (g_var (pv 4)) (g_c pe_int (fun _ _ _ => .int _)) (nomark _)) (gss_cons (gs_for 100000 PassesOwn.never rfl (gi_rg1 rfl FX.n_range (ga_cons (ge_call (ok__law_draw FX) sp_G (hr.mono (by decide)) rfl FX.g__law_draw FX.F__law_draw.kp (b__law_draw FX) (ga_cons (g_var (pv 0)) (ga_cons (g_c pe_int (fun _ _ _ => .int _)) (ga_nil))) rfl (len_cons (len_cons (len_nil)))) (ga_nil))) (gg_name sc__law_row.nd rfl (by first | exact Or.inl rfl | exact Or.inr rfl)) (gss_one (gs_if (gt_cmp op_gt (w_gt) (g_var (pv 3)) (g_c pe_int (fun _ _ _ => .int _)) (nomark _)) (gss_cons (gs_set sc__law_row.nd rfl (by first | exact Or.inl rfl | exact Or.inr rfl) (ge_meth PySem.F.slot_list_pop PySem.F.type_list_pop mt_popAt w_popAt (g_var (pv 2)) (ga_cons (ge_call (ok__law_draw FX) sp_G (hr.mono (by decide)) rfl FX.g__law_draw FX.F__law_draw.kp (b__law_draw FX) (ga_cons (g_var (pv 0)) (ga_cons (g_var (pv 3)) (ga_nil))) rfl (len_cons (len_cons (len_nil)))) (ga_nil))))
    (gss_one (gs_expr (ge_meth PySem.F.slot_list_insert PySem.F.type_list_insert mt_ins w_ins (g_var (pv 2)) (ga_cons (ge_call (ok__law_draw FX) sp_G (hr.mono (by decide)) rfl FX.g__law_draw FX.F__law_draw.kp (b__law_draw FX) (ga_cons (g_var (pv 0)) (ga_cons (g_var (pv 3)) (ga_nil))) rfl (len_cons (len_cons (len_nil)))) (ga_cons (g_var (pv 10)) (ga_nil))))))) (gss_nil))))
    (gss_one (gs_ret (ge_ty call_tuple_of w_tuple rfl FX.n_tuple rfl (ga_cons (g_var (pv 2)) (ga_nil)))))) (gss_nil))
    (gss_cons (gs_if (gt_cmp (or_eq hr.units) (w_eq) (g_var (pv 4)) (g_c pe_int (fun _ _ _ => .int _)) (nomark _)) (gss_cons (gs_asg (ge_tup (ga_cons (ge_lst true (ga_nil)) (ga_cons (ge_lst true (ga_nil)) (ga_cons (g_c pe_int (fun _ _ _ => .int _)) (ga_nil))))) (gh_tup rfl (ghs_cons (gh_name sc__law_row.nd rfl (by first | exact Or.inl rfl | exact Or.inr rfl)) (ghs_cons (gh_name sc__law_row.nd rfl (by first | exact Or.inl rfl | exact Or.inr rfl)) (ghs_cons (gh_name sc__law_row.nd rfl (by first | exact Or.inl rfl | exact Or.inr rfl)) (ghs_nil))))))
    (gss_cons (gs_while 100000 PassesOwn.never (gt_cmp op_lt (w_lt) (ge_blt call_len_seq w_len rfl FX.n_len rfl (ga_cons (g_var (pv 6)) (ga_nil))) (g_var (pv 3)) (nomark _)) (gss_one (gs_if (gt_w (gw_and (gt_cmp op_lt (w_lt) (g_var (pv 8)) (g_var (pv 3)) (nomark _)) (gw_and1 (gt_w (gw_or (gt_cmp (or_eq hr.units) (w_eq) (g_var (pv 7)) (ge_lst false (ga_nil)) (nomark _)) (gw_or1 (gt_cmp (or_eq hr.units) (w_eq) (ge_call (ok__law_draw FX) sp_G (hr.mono (by decide)) rfl FX.g__law_draw FX.F__law_draw.kp (b__law_draw FX) (ga_cons (g_var (pv 0)) (ga_cons (g_c pe_int (fun _ _ _ => .int _)) (ga_nil))) rfl (len_cons (len_cons (len_nil)))) (g_c pe_int (fun _ _ _ => .int _)) (nomark _)))))))) (gss_cons (gs_expr (ge_meth PySem.F.slot_list_append PySem.F.type_list_append mt_append w_app (g_var (pv 7)) (ga_cons (g_var (pv 8)) (ga_nil))))
    (gss_one (gs_set sc__law_row.nd rfl (by first | exact Or.inl rfl | exact Or.inr rfl) (g_op or_add (w_add (own := false)) (g_var (pv 8)) (g_c pe_int (fun _ _ _ => .int _)))))) (gss_one (gs_expr (ge_meth PySem.F.slot_list_append PySem.F.type_list_append mt_append w_app (g_var (pv 6)) (ga_cons (ge_meth0 PySem.F.slot_list_pop PySem.F.type_list_pop mt_pop w_pop (g_var (pv 7))) (ga_nil))))))))
    (gss_one (gs_ret (ge_if (gt_cmp (or_eq hr.units) (w_eq) (ge_call (ok__law_draw FX) sp_G (hr.mono (by decide)) rfl FX.g__law_draw FX.F__law_draw.kp (b__law_draw FX) (ga_cons (g_var (pv 0)) (ga_cons (g_c pe_int (fun _ _ _ => .int _)) (ga_nil))) rfl (len_cons (len_cons (len_nil)))) (g_c pe_int (fun _ _ _ => .int _)) (nomark _)) (ge_ty call_tuple_of w_tuple rfl FX.n_tuple rfl (ga_cons (g_var (pv 6)) (ga_nil))) (ge_ty call_tuple_of w_tuple rfl FX.n_tuple rfl (ga_cons (ge_lc false (ow := [("number", 10)]) rfl sc__law_row.nd (gi_rg1 rfl FX.n_range (ga_cons (g_var (pv 3)) (ga_nil))) (blkOk_by (by kernel_rfl)) (fun _ _ _ _ _ => gg_name sc__law_row.nd rfl (by first | exact Or.inl rfl | exact Or.inr rfl)) (fun _ _ _ _ _ => gts_nil) (fun _ _ _ _ _ => ge_meth PySem.F.slot_list_index PySem.F.type_list_index mt_index w_index (g_var (pv 6)) (ga_cons (g_var (pv 10)) (ga_nil)))) (ga_nil)))))))) (gss_nil))
    (gss_cons (gs_if (gt_cmp (or_eq hr.units) (w_eq) (g_var (pv 4)) (g_c pe_int (fun _ _ _ => .int _)) (nomark _)) (gss_cons (gs_set sc__law_row.nd rfl (by first | exact Or.inl rfl | exact Or.inr rfl) (ge_lst true (ga_nil)))
    (gss_cons (gs_while 100000 PassesOwn.never (gt_cmp op_lt (w_lt) (ge_blt call_len_seq w_len rfl FX.n_len rfl (ga_cons (g_var (pv 6)) (ga_nil))) (g_var (pv 3)) (nomark _)) (gss_cons (gs_set sc__law_row.nd rfl (by first | exact Or.inl rfl | exact Or.inr rfl) (g_op or_add (w_add (own := false)) (g_c pe_int (fun _ _ _ => .int _)) (ge_call (ok__law_draw FX) sp_G (hr.mono (by decide)) rfl FX.g__law_draw FX.F__law_draw.kp (b__law_draw FX) (ga_cons (g_var (pv 0)) (ga_cons (g_op op_sub w_sub (g_var (pv 3)) (ge_blt call_len_seq w_len rfl FX.n_len rfl (ga_cons (g_var (pv 6)) (ga_nil)))) (ga_nil))) rfl (len_cons (len_cons (len_nil))))))
    (gss_one (gs_expr (ge_meth PySem.F.slot_list_extend PySem.F.type_list_extend mt_extend w_ext (g_var (pv 6)) (ga_cons (ge_rev false (ge_lstRg false rfl rfl FX.n_list (gr_2 rfl FX.n_range (ge_blt call_len_seq w_len rfl FX.n_len rfl (ga_cons (g_var (pv 6)) (ga_nil))) (g_op or_add (w_add (own := false)) (ge_blt call_len_seq w_len rfl FX.n_len rfl (ga_cons (g_var (pv 6)) (ga_nil))) (g_var (pv 9)))))) (ga_nil)))))))
    (gss_one (gs_ret (ge_ty call_tuple_of w_tuple rfl FX.n_tuple rfl (ga_cons (g_var (pv 6)) (ga_nil))))))) (gss_nil))
    (gss_one (gs_ret (ge_rev true (ge_call (ok__law_mixed FX) sp_G (hr.mono (by decide)) rfl FX.g__law_mixed FX.F__law_mixed.kp (b__law_mixed FX) (ga_cons (g_var (pv 0)) (ga_cons (g_var (pv 3)) (ga_nil))) rfl (len_cons (len_cons (len_nil))))))))))))
theorem sc_is_integer : FnScope ["value"] ["value"] (defScope s_is_integer) := ⟨rfl, rfl, rfl, by decide +kernel, rfl, by decide +kernel, by decide +kernel⟩
theorem b_is_integer (FX : Fx K mg) : Binds K FX.d_is_integer ["value"] [] := FX.F_is_integer.bindsN fun _ _ _ _ _ _ us hl => match us, hl with | [_], _ => rfl
theorem ok_is_integer (FX : Fx K mg) : FnOk P w K mg base CX0 1 FX.f_is_integer FX.d_is_integer ["value"] (spM K mg m_is_integer 1) :=
  def_ok (k := 0) FX.F_is_integer sc_is_integer fun cdv A outer s H E hr =>
    gss_one (gs_ret (ge_and (ge_isi (g_var (pv 0)) rfl FX.n_isinstance rfl FX.n_int rfl) (ge_one (ge_not (ge_isi (g_var (pv 0)) rfl FX.n_isinstance rfl FX.n_bool rfl)))))
theorem sc_is_count : FnScope ["value"] ["value"] (defScope s_is_count) := ⟨rfl, rfl, rfl, by decide +kernel, rfl, by decide +kernel, by decide +kernel⟩
theorem b_is_count (FX : Fx K mg) : Binds K FX.d_is_count ["value"] [] := FX.F_is_count.bindsN fun _ _ _ _ _ _ us hl => match us, hl with | [_], _ => rfl
theorem ok_is_count (FX : Fx K mg) : FnOk P w K mg base CX0 2 FX.f_is_count FX.d_is_count ["value"] (spM K mg m_is_count 1) :=
  def_ok (k := 1) FX.F_is_count sc_is_count fun cdv A outer s H E hr =>
    gss_one (gs_ret (ge_and (ge_call (ok_is_integer FX) sp_P (hr.mono (by decide)) rfl FX.g_is_integer FX.F_is_integer.kp (b_is_integer FX) (ga_cons (g_var (pv 0)) (ga_nil)) rfl (len_cons (len_nil))) (ge_one (g_cmp op_ge (w_ge) (g_var (pv 0)) (g_c pe_int (fun _ _ _ => .int _)) (nomark _)))))
theorem sc_is_row_value : FnScope ["value", "one"] ["value"] (defScope s_is_row_value) := ⟨rfl, rfl, rfl, by decide +kernel, rfl, by decide +kernel, by decide +kernel⟩
theorem b_is_row_value (FX : Fx K mg) : Binds K FX.d_is_row_value ["value"] [] := FX.F_is_row_value.bindsN fun _ _ _ _ _ _ us hl => match us, hl with | [_], _ => rfl
theorem ok_is_row_value (FX : Fx K mg) : FnOk P w K mg base CX0 3 FX.f_is_row_value FX.d_is_row_value ["value"] (spM K mg m_is_row_value 1) :=
  def_ok (k := 2) FX.F_is_row_value sc_is_row_value fun cdv A outer s H E hr =>
    gss_cons (gs_if (gt_w (gw_or (gt_not (gt_val (ge_isi (g_var (pv 0)) rfl FX.n_isinstance rfl FX.n_tuple rfl))) (gw_or (gt_cmp op_gt (w_gt) (ge_blt call_len_seq w_len rfl FX.n_len rfl (ga_cons (g_var (pv 0)) (ga_nil))) (g_c (v := .int 9) (pe_glob rfl FX.c_MOST_NUMBERS ⟨_, rfl⟩) (fun _ _ _ => .int _)) (nomark _)) (gw_or1 (gt_not (gt_val (ge_blt (cr_all rfl) w_all rfl FX.n_all rfl (ga_cons (ge_lc false (ow := [("one", 1)]) rfl sc_is_row_value.nd (gi_any (g_var (pv 0))) (blkOk_by (by kernel_rfl)) (fun _ _ _ _ _ => gg_name sc_is_row_value.nd rfl (by first | exact Or.inl rfl | exact Or.inr rfl)) (fun _ _ _ _ _ => gts_nil) (fun _ _ _ _ _ => ge_call (ok_is_count FX) sp_P (hr.mono (by decide)) rfl FX.g_is_count FX.F_is_count.kp (b_is_count FX) (ga_cons (g_var (pv 1)) (ga_nil)) rfl (len_cons (len_nil)))) (ga_nil))))))))) (gss_one (gs_ret (g_c pe_bl (fun _ _ _ => .bl false)))) (gss_nil))
    (gss_one (gs_ret (g_cmp (or_eq hr.units) (w_eq) (ge_blt (cr_sort2 hr.units) (w_sort2 (own := false)) rfl FX.n_sorted rfl (ga_cons (g_var (pv 0)) (ga_nil))) (ge_lstRg false rfl rfl FX.n_list (gr_1 rfl FX.n_range (ge_blt call_len_seq w_len rfl FX.n_len rfl (ga_cons (g_var (pv 0)) (ga_nil))))) (nomark _))))
theorem sc_want_row : FnScope ["value"] ["value"] (defScope s_want_row) := ⟨rfl, rfl, rfl, by decide +kernel, rfl, by decide +kernel, by decide +kernel⟩
theorem b_want_row (FX : Fx K mg) : Binds K FX.d_want_row ["value"] [] := FX.F_want_row.bindsN fun _ _ _ _ _ _ us hl => match us, hl with | [_], _ => rfl
theorem ok_want_row (FX : Fx K mg) : FnOk P w K mg base CX0 4 FX.f_want_row FX.d_want_row ["value"] (spM K mg m_want_row 1) :=
  def_ok (k := 3) FX.F_want_row sc_want_row fun cdv A outer s H E hr =>
    gss_one (gs_if (gt_not (gt_val (ge_call (ok_is_row_value FX) sp_P (hr.mono (by decide)) rfl FX.g_is_row_value FX.F_is_row_value.kp (b_is_row_value FX) (ga_cons (g_var (pv 0)) (ga_nil)) rfl (len_cons (len_nil))))) (gss_one (gs_never)) (gss_nil))
theorem sc_does_fall : FnScope ["one", "other"] ["one", "other"] (defScope s_does_fall) := ⟨rfl, rfl, rfl, by decide +kernel, rfl, by decide +kernel, by decide +kernel⟩
theorem b_does_fall (FX : Fx K mg) : Binds K FX.d_does_fall ["one", "other"] [] := FX.F_does_fall.bindsN fun _ _ _ _ _ _ us hl => match us, hl with | [_, _], _ => rfl
theorem ok_does_fall (FX : Fx K mg) : FnOk P w K mg base CX0 1 FX.f_does_fall FX.d_does_fall ["one", "other"] (spM K mg m_does_fall 2) :=
  def_ok (k := 0) FX.F_does_fall sc_does_fall fun cdv A outer s H E hr =>
    gss_one (gs_ret (g_cmp op_gt (w_gt) (g_var (pv 0)) (g_var (pv 1)) (nomark _)))
theorem sc_does_rise : FnScope ["one", "other"] ["one", "other"] (defScope s_does_rise) := ⟨rfl, rfl, rfl, by decide +kernel, rfl, by decide +kernel, by decide +kernel⟩
theorem b_does_rise (FX : Fx K mg) : Binds K FX.d_does_rise ["one", "other"] [] := FX.F_does_rise.bindsN fun _ _ _ _ _ _ us hl => match us, hl with | [_, _], _ => rfl
theorem ok_does_rise (FX : Fx K mg) : FnOk P w K mg base CX0 1 FX.f_does_rise FX.d_does_rise ["one", "other"] (spM K mg m_does_rise 2) :=
  def_ok (k := 0) FX.F_does_rise sc_does_rise fun cdv A outer s H E hr =>
    gss_one (gs_ret (g_cmp op_lt (w_lt) (g_var (pv 0)) (g_var (pv 1)) (nomark _)))
def Sv (FX : Fx K mg) (y : PySem.Str) : Option (Addr × Sp) := if y = "does_fall" then some (FX.f_does_fall, spM K mg m_does_fall 2) else if y = "does_rise" then some (FX.f_does_rise, spM K mg m_does_rise 2) else none
theorem held_v (FX : Fx K mg) : ∀ y f sp, Sv FX y = some (f, sp) → Held P w K mg base 1 f sp := by
  intro y f sp h
  unfold Sv at h
  split at h
  · cases h; exact ⟨_, _, (ok_does_fall FX), FX.F_does_fall.kp, b_does_fall FX⟩
  split at h
  · cases h; exact ⟨_, _, (ok_does_rise FX), FX.F_does_rise.kp, b_does_rise FX⟩
  cases h
theorem hS_v (FX : Fx K mg) : ∀ y o, Mv y = some o → ∃ f m, Sv FX y = some (f, spM K mg m 2) ∧ mg y = some (.ref f) ∧ CW K mg (fun vs H Q => vs.length = 2 → spM K mg m 2 vs H Q E0) o := by
  intro y o h
  unfold Mv at h
  unfold Sv
  split at h
  · rename_i ey; subst ey; cases h; exact ⟨FX.f_does_fall, m_does_fall, by first | rfl | kernel_rfl, FX.g_does_fall, sp_P⟩
  rename_i n_does_fall
  split at h
  · rename_i ey; subst ey; cases h; exact ⟨FX.f_does_rise, m_does_rise, by first | rfl | kernel_rfl, FX.g_does_rise, sp_P⟩
  rename_i n_does_rise
  cases h

theorem sc_lengths_from : FnScope ["row", "does_go", "found", "at", "some", "late"] ["row", "does_go"] (defScope s_lengths_from) := ⟨rfl, rfl, rfl, by decide +kernel, rfl, by decide +kernel, by decide +kernel⟩
theorem b_lengths_from (FX : Fx K mg) : Binds K FX.d_lengths_from ["row", "does_go"] [] := FX.F_lengths_from.bindsN fun _ _ _ _ _ _ us hl => match us, hl with | [_, _], _ => rfl
theorem ok_lengths_from (FX : Fx K mg) : FnOk P w K mg base CX0 2 FX.f_lengths_from FX.d_lengths_from ["row", "does_go"] (spM K mg m_lengths_from 2) :=
  def_ok (k := 1) FX.F_lengths_from sc_lengths_from fun cdv A outer s H E hr =>
    gss_cons (gs_set sc_lengths_from.nd rfl (by first | exact Or.inl rfl | exact Or.inr rfl) (g_op or_times (w_times (own := true)) (ge_lst false (ga_cons (g_c pe_int (fun _ _ _ => .int _)) (ga_nil))) (ge_blt call_len_seq w_len rfl FX.n_len rfl (ga_cons (g_var (pv 0)) (ga_nil)))))
    (gss_cons (gs_for 100000 PassesOwn.never rfl (gi_rgD rfl FX.n_range (ga_cons (g_op op_sub w_sub (ge_blt call_len_seq w_len rfl FX.n_len rfl (ga_cons (g_var (pv 0)) (ga_nil))) (g_c pe_int (fun _ _ _ => .int _))) (ga_cons (ge_neg (g_c pe_int (fun _ _ _ => .int _))) (ga_cons (ge_neg (g_c pe_int (fun _ _ _ => .int _))) (ga_nil))))) (gg_name sc_lengths_from.nd rfl (by first | exact Or.inl rfl | exact Or.inr rfl)) (gss_cons (gs_setLc false (ow := [("late", 5)]) rfl sc_lengths_from.nd rfl rfl (sw_true rfl rfl rfl (by decide +kernel)) (gi_rg2 rfl FX.n_range (ga_cons (g_op or_add (w_add (own := false)) (g_var (pv 3)) (g_c pe_int (fun _ _ _ => .int _))) (ga_cons (ge_blt call_len_seq w_len rfl FX.n_len rfl (ga_cons (g_var (pv 0)) (ga_nil))) (ga_nil)))) (blkOk_by (by kernel_rfl)) (fun _ _ _ _ _ => gg_name sc_lengths_from.nd rfl (by first | exact Or.inl rfl | exact Or.inr rfl)) (fun _ _ _ _ _ => gts_one (gt_val (ge_callG (held_v FX) (hS_v FX) (hr.mono (by decide)) rfl (by first | exact Or.inl rfl | exact Or.inr (Or.inl rfl) | exact Or.inr (Or.inr rfl)) (ga_cons (ge_ix (g_var (pv 0)) (g_var (pv 3))) (ga_cons (ge_ix (g_var (pv 0)) (g_var (pv 5))) (ga_nil))) (len_cons (len_cons (len_nil)))))) (fun _ _ _ _ _ => ge_ix (g_var (pv 2)) (g_var (pv 5))))
    (gss_one (gs_asg (g_op or_add (w_add (own := false)) (g_c pe_int (fun _ _ _ => .int _)) (ge_blt (cr_max rfl) w_max rfl FX.n_max rfl (ga_cons (g_op or_add (w_add (own := false)) (ge_lst false (ga_cons (g_c pe_int (fun _ _ _ => .int _)) (ga_nil))) (g_var (pv 4))) (ga_nil)))) (gh_sub (g_var (pv 2)) (g_var (pv 3)))))))
    (gss_one (gs_ret (g_var (pv 2)))))
theorem sc_ends_at : FnScope ["row", "near", "far"] ["row"] (defScope s_ends_at) := ⟨rfl, rfl, rfl, by decide +kernel, rfl, by decide +kernel, by decide +kernel⟩
theorem b_ends_at (FX : Fx K mg) : Binds K FX.d_ends_at ["row"] [] := FX.F_ends_at.bindsN fun _ _ _ _ _ _ us hl => match us, hl with | [_], _ => rfl
theorem ok_ends_at (FX : Fx K mg) : FnOk P w K mg base CX0 5 FX.f_ends_at FX.d_ends_at ["row"] (spM K mg m_ends_at 1) :=
  def_ok (k := 4) FX.F_ends_at sc_ends_at fun cdv A outer s H E hr =>
    gss_cons (gs_expr (ge_call (ok_want_row FX) sp_P (hr.mono (by decide)) rfl FX.g_want_row FX.F_want_row.kp (b_want_row FX) (ga_cons (g_var (pv 0)) (ga_nil)) rfl (len_cons (len_nil))))
    (gss_cons (gs_par rfl sc_ends_at.nd rfl rfl (by decide) rfl rfl (ga_cons (ge_call (ok_lengths_from FX) sp_P (hr.mono (by decide)) rfl FX.g_lengths_from FX.F_lengths_from.kp (b_lengths_from FX) (ga_cons (ge_rev false (g_var (pv 0))) (ga_cons (g_c (v := .ref FX.f_does_fall) (pe_glob rfl FX.g_does_fall rfl) (fun _ _ _ => .fn FX.g_does_fall)) (ga_nil))) rfl (len_cons (len_cons (len_nil)))) (ga_cons (ge_call (ok_lengths_from FX) sp_P (hr.mono (by decide)) rfl FX.g_lengths_from FX.F_lengths_from.kp (b_lengths_from FX) (ga_cons (ge_rev false (g_var (pv 0))) (ga_cons (g_c (v := .ref FX.f_does_rise) (pe_glob rfl FX.g_does_rise rfl) (fun _ _ _ => .fn FX.g_does_rise)) (ga_nil))) rfl (len_cons (len_cons (len_nil)))) (ga_nil))) rfl)
    (gss_one (gs_ret (ge_rev true (ge_lstZip false rfl rfl FX.n_list rfl FX.n_zip (ga_cons (g_var (pv 1)) (ga_cons (g_var (pv 2)) (ga_nil))))))))
theorem kb_ends_at_row (FX : Fx K mg) : KB K FX.d_ends_at ["row"] ["row"] [0] := by
  obtain ⟨oc, od, dV, kV, doc, pm, an, cdv, ct, osl, e, lk, hcd, hD, hK⟩ := FX.F_ends_at.ex
  rw [e]
  rcases hD with ⟨_, rfl⟩ | ⟨e, _⟩
  · intro s ws _ hl
    match ws, hl with | [_], _ => exact .of_eq rfl
  · exact absurd rfl e
theorem sc__law_all : FnScope ["row", "is_rising", "found", "at", "number", "places"] ["row", "is_rising"] (defScope s__law_all) := ⟨rfl, rfl, rfl, by decide +kernel, rfl, by decide +kernel, by decide +kernel⟩
theorem b__law_all (FX : Fx K mg) : Binds K FX.d__law_all ["row", "is_rising"] [] := FX.F__law_all.bindsN fun _ _ _ _ _ _ us hl => match us, hl with | [_, _], _ => rfl
theorem ok__law_all (FX : Fx K mg) : FnOk P w K mg base CX0 1 FX.f__law_all FX.d__law_all ["row", "is_rising"] (spM K mg m__law_all 2) :=
  def_ok (k := 0) FX.F__law_all sc__law_all fun cdv A outer s H E hr =>
    gss_cons (gs_set sc__law_all.nd rfl (by first | exact Or.inl rfl | exact Or.inr rfl) (ge_lst false (ga_cons (ge_tup (ga_nil)) (ga_nil))))
    (gss_cons (gs_for 100000 PassesOwn.never rfl (gi_enum rfl FX.n_enumerate (ga_cons (g_var (pv 0)) (ga_nil))) (gg_tup rfl (ggs_cons sc__law_all.nd rfl (by first | exact Or.inl rfl | exact Or.inr rfl) (ggs_cons sc__law_all.nd rfl (by first | exact Or.inl rfl | exact Or.inr rfl) (ggs_nil)))) (gss_one (gs_set sc__law_all.nd rfl (by first | exact Or.inl rfl | exact Or.inr rfl) (g_op or_add (w_add (own := false)) (g_var (pv 2)) (ge_lc false (ow := [("places", 5)]) rfl sc__law_all.nd (gi_any (g_var (pv 2))) (blkOk_by (by kernel_rfl)) (fun _ _ _ _ _ => gg_name sc__law_all.nd rfl (by first | exact Or.inl rfl | exact Or.inr rfl)) (fun _ _ _ _ _ => gts_one (gt_w (gw_or (gt_cmp (or_eq hr.units) (w_eq) (g_var (pv 5)) (ge_tup (ga_nil)) (nomark _)) (gw_or1 (gt_cmp (or_eq hr.units) (w_eq) (g_cmp op_lt (w_lt) (ge_ix (g_var (pv 0)) (ge_ix (g_var (pv 5)) (g_op op_sub w_sub (ge_blt call_len_seq w_len rfl FX.n_len rfl (ga_cons (g_var (pv 5)) (ga_nil))) (g_c pe_int (fun _ _ _ => .int _))))) (g_var (pv 4)) (nomark _)) (g_var (pv 1)) (nomark _)))))) (fun _ _ _ _ _ => g_op or_add (w_add (own := false)) (g_var (pv 5)) (ge_tup (ga_cons (g_var (pv 3)) (ga_nil)))))))))
    (gss_one (gs_ret (g_var (pv 2)))))
theorem sc__law_longest : FnScope ["row", "is_rising", "every", "most", "places"] ["row", "is_rising"] (defScope s__law_longest) := ⟨rfl, rfl, rfl, by decide +kernel, rfl, by decide +kernel, by decide +kernel⟩
theorem b__law_longest (FX : Fx K mg) : Binds K FX.d__law_longest ["row", "is_rising"] [] := FX.F__law_longest.bindsN fun _ _ _ _ _ _ us hl => match us, hl with | [_, _], _ => rfl
theorem ok__law_longest (FX : Fx K mg) : FnOk P w K mg base CX0 2 FX.f__law_longest FX.d__law_longest ["row", "is_rising"] (spM K mg m__law_longest 2) :=
  def_ok (k := 1) FX.F__law_longest sc__law_longest fun cdv A outer s H E hr =>
    gss_cons (gs_set sc__law_longest.nd rfl (by first | exact Or.inl rfl | exact Or.inr rfl) (ge_call (ok__law_all FX) sp_P (hr.mono (by decide)) rfl FX.g__law_all FX.F__law_all.kp (b__law_all FX) (ga_cons (g_var (pv 0)) (ga_cons (g_var (pv 1)) (ga_nil))) rfl (len_cons (len_cons (len_nil)))))
    (gss_cons (gs_set sc__law_longest.nd rfl (by first | exact Or.inl rfl | exact Or.inr rfl) (ge_blt (cr_max rfl) w_max rfl FX.n_max rfl (ga_cons (ge_lc false (ow := [("places", 4)]) rfl sc__law_longest.nd (gi_any (g_var (pv 2))) (blkOk_by (by kernel_rfl)) (fun _ _ _ _ _ => gg_name sc__law_longest.nd rfl (by first | exact Or.inl rfl | exact Or.inr rfl)) (fun _ _ _ _ _ => gts_nil) (fun _ _ _ _ _ => ge_blt call_len_seq w_len rfl FX.n_len rfl (ga_cons (g_var (pv 4)) (ga_nil)))) (ga_nil))))
    (gss_one (gs_ret (ge_ix (ge_blt (cr_sort2 hr.units) (w_sort2 (own := false)) rfl FX.n_sorted rfl (ga_cons (ge_lc false (ow := [("places", 4)]) rfl sc__law_longest.nd (gi_any (g_var (pv 2))) (blkOk_by (by kernel_rfl)) (fun _ _ _ _ _ => gg_name sc__law_longest.nd rfl (by first | exact Or.inl rfl | exact Or.inr rfl)) (fun _ _ _ _ _ => gts_one (gt_cmp (or_eq hr.units) (w_eq) (ge_blt call_len_seq w_len rfl FX.n_len rfl (ga_cons (g_var (pv 4)) (ga_nil))) (g_var (pv 3)) (nomark _))) (fun _ _ _ _ _ => g_var (pv 4))) (ga_nil))) (g_c pe_int (fun _ _ _ => .int _))))))
theorem sc__law_is : FnScope ["told", "due", "alike", "at"] ["told", "due"] (defScope s__law_is) := ⟨rfl, rfl, rfl, by decide +kernel, rfl, by decide +kernel, by decide +kernel⟩
theorem b__law_is (FX : Fx K mg) : Binds K FX.d__law_is ["told", "due"] [] := FX.F__law_is.bindsN fun _ _ _ _ _ _ us hl => match us, hl with | [_, _], _ => rfl
theorem ok__law_is (FX : Fx K mg) : ∀ n : Nat, FnOk P w K mg base CX0 (1 + n) FX.f__law_is FX.d__law_is ["told", "due"] (spM K mg (m__law_is n) 2)
  | 0 => fn0 (K := K)
  | n + 1 => def_ok (k := 1 + n) FX.F__law_is sc__law_is fun cdv A outer s H E hr => by
    have ih := ok__law_is FX n
    exact gss_cons (gs_if (gt_cmp op_isN (w_isN) (g_var (pv 1)) (g_c pe_non (fun _ _ _ => .non)) (nomark _)) (gss_one (gs_ret (g_cmp op_isN (w_isN) (g_var (pv 0)) (g_c pe_non (fun _ _ _ => .non)) (nomark _)))) (gss_nil))
        (gss_cons (gs_if (gt_val (ge_isi (g_var (pv 1)) rfl FX.n_isinstance rfl FX.n_bool rfl)) (gss_one (gs_ret (ge_and (ge_isi (g_var (pv 0)) rfl FX.n_isinstance rfl FX.n_bool rfl) (ge_one (g_cmp (or_eq hr.units) (w_eq) (g_var (pv 0)) (g_var (pv 1)) (nomark _)))))) (gss_nil))
        (gss_cons (gs_if (gt_val (ge_isi (g_var (pv 1)) rfl FX.n_isinstance rfl FX.n_int rfl)) (gss_one (gs_ret (ge_and (ge_isi (g_var (pv 0)) rfl FX.n_isinstance rfl FX.n_int rfl) (ge_and (ge_not (ge_isi (g_var (pv 0)) rfl FX.n_isinstance rfl FX.n_bool rfl)) (ge_one (g_cmp (or_eq hr.units) (w_eq) (g_var (pv 0)) (g_var (pv 1)) (nomark _))))))) (gss_nil))
        (gss_cons (gs_if (gt_val (ge_isi (g_var (pv 1)) rfl FX.n_isinstance rfl FX.n_str rfl)) (gss_one (gs_ret (ge_and (ge_isi (g_var (pv 0)) rfl FX.n_isinstance rfl FX.n_str rfl) (ge_one (g_cmp (or_eq hr.units) (w_eq) (g_var (pv 0)) (g_var (pv 1)) (nomark _)))))) (gss_nil))
        (gss_cons (gs_set sc__law_is.nd rfl (by first | exact Or.inl rfl | exact Or.inr rfl) (ge_if (gt_val (ge_isi (g_var (pv 1)) rfl FX.n_isinstance rfl FX.n_list rfl)) (ge_isi (g_var (pv 0)) rfl FX.n_isinstance rfl FX.n_list rfl) (ge_isi (g_var (pv 0)) rfl FX.n_isinstance rfl FX.n_tuple rfl)))
        (gss_cons (gs_if (gt_w (gw_or (gt_not (gt_val (g_var (pv 2)))) (gw_or1 (gt_cmp (or_ne hr.units) (w_ne) (ge_blt call_len_seq w_len rfl FX.n_len rfl (ga_cons (g_var (pv 0)) (ga_nil))) (ge_blt call_len_seq w_len rfl FX.n_len rfl (ga_cons (g_var (pv 1)) (ga_nil))) (nomark _))))) (gss_one (gs_ret (g_c pe_bl (fun _ _ _ => .bl false)))) (gss_nil))
        (gss_one (gs_ret (g_cmp (or_eq hr.units) (w_eq) (ge_lc false (ow := [("at", 3)]) rfl sc__law_is.nd (gi_rg1 rfl FX.n_range (ga_cons (ge_blt call_len_seq w_len rfl FX.n_len rfl (ga_cons (g_var (pv 1)) (ga_nil))) (ga_nil))) (blkOk_by (by kernel_rfl)) (fun _ _ _ _ _ => gg_name sc__law_is.nd rfl (by first | exact Or.inl rfl | exact Or.inr rfl)) (fun _ _ _ _ _ => gts_one (gt_not (gt_val (ge_call ih sp_P (hr.mono (by omega)) rfl FX.g__law_is FX.F__law_is.kp (b__law_is FX) (ga_cons (ge_ix (g_var (pv 0)) (g_var (pv 3))) (ga_cons (ge_ix (g_var (pv 1)) (g_var (pv 3))) (ga_nil))) rfl (len_cons (len_cons (len_nil))))))) (fun _ _ _ _ _ => g_var (pv 3))) (ge_lst false (ga_nil)) (nomark _)))))))))
theorem sc_longest_of : FnScope ["row", "does_go", "lengths", "found", "last", "at", "number", "wanted"] ["row", "does_go"] (defScope s_longest_of) := ⟨rfl, rfl, rfl, by decide +kernel, rfl, by decide +kernel, by decide +kernel⟩
theorem b_longest_of (FX : Fx K mg) : Binds K FX.d_longest_of ["row", "does_go"] [] := FX.F_longest_of.bindsN fun _ _ _ _ _ _ us hl => match us, hl with | [_, _], _ => rfl
theorem ok_longest_of (FX : Fx K mg) : FnOk P w K mg base CX0 3 FX.f_longest_of FX.d_longest_of ["row", "does_go"] (spM K mg m_longest_of 2) :=
  def_ok (k := 2) FX.F_longest_of sc_longest_of fun cdv A outer s H E hr =>
    gss_cons (gs_par3 rfl sc_longest_of.nd rfl rfl rfl (by decide) (by decide) (by decide) rfl rfl rfl (ga_cons (ge_call (ok_lengths_from FX) sp_P (hr.mono (by decide)) rfl FX.g_lengths_from FX.F_lengths_from.kp (b_lengths_from FX) (ga_cons (g_var (pv 0)) (ga_cons (g_var (pv 1)) (ga_nil))) rfl (len_cons (len_cons (len_nil)))) (ga_cons (ge_tup (ga_nil)) (ga_cons (g_c pe_non (fun _ _ _ => .non)) (ga_nil)))) rfl)
    (gss_cons (gs_for 100000 PassesOwn.never rfl (gi_enum rfl FX.n_enumerate (ga_cons (g_var (pv 0)) (ga_nil))) (gg_tup rfl (ggs_cons sc_longest_of.nd rfl (by first | exact Or.inl rfl | exact Or.inr rfl) (ggs_cons sc_longest_of.nd rfl (by first | exact Or.inl rfl | exact Or.inr rfl) (ggs_nil)))) (gss_cons (gs_set sc_longest_of.nd rfl (by first | exact Or.inl rfl | exact Or.inr rfl) (g_op op_sub w_sub (ge_blt (cr_max rfl) w_max rfl FX.n_max rfl (ga_cons (g_op or_add (w_add (own := false)) (ge_lst false (ga_cons (g_c pe_int (fun _ _ _ => .int _)) (ga_nil))) (g_var (pv 2))) (ga_nil))) (ge_blt call_len_seq w_len rfl FX.n_len rfl (ga_cons (g_var (pv 3)) (ga_nil)))))
    (gss_one (gs_if (gt_w (gw_and (gt_cmp op_gt (w_gt) (g_var (pv 7)) (g_c pe_int (fun _ _ _ => .int _)) (nomark _)) (gw_and (gt_cmp (or_eq hr.units) (w_eq) (ge_ix (g_var (pv 2)) (g_var (pv 5))) (g_var (pv 7)) (nomark _)) (gw_and1 (gt_w (gw_or (gt_cmp op_isN (w_isN) (g_var (pv 4)) (g_c pe_non (fun _ _ _ => .non)) (nomark _)) (gw_or1 (gt_val (ge_callG (held_v FX) (hS_v FX) (hr.mono (by decide)) rfl (by first | exact Or.inl rfl | exact Or.inr (Or.inl rfl) | exact Or.inr (Or.inr rfl)) (ga_cons (g_var (pv 4)) (ga_cons (g_var (pv 6)) (ga_nil))) (len_cons (len_cons (len_nil)))))))))))) (gss_one (gs_par rfl sc_longest_of.nd rfl rfl (by decide) rfl rfl (ga_cons (g_op or_add (w_add (own := false)) (g_var (pv 3)) (ge_tup (ga_cons (g_var (pv 5)) (ga_nil)))) (ga_cons (g_var (pv 6)) (ga_nil))) rfl)) (gss_nil)))))
    (gss_one (gs_ret (g_var (pv 3)))))
theorem sc_rising_positions : FnScope ["row"] ["row"] (defScope s_rising_positions) := ⟨rfl, rfl, rfl, by decide +kernel, rfl, by decide +kernel, by decide +kernel⟩
theorem b_rising_positions (FX : Fx K mg) : Binds K FX.d_rising_positions ["row"] [] := FX.F_rising_positions.bindsN fun _ _ _ _ _ _ us hl => match us, hl with | [_], _ => rfl
theorem ok_rising_positions (FX : Fx K mg) : FnOk P w K mg base CX0 5 FX.f_rising_positions FX.d_rising_positions ["row"] (spM K mg m_rising_positions 1) :=
  def_ok (k := 4) FX.F_rising_positions sc_rising_positions fun cdv A outer s H E hr =>
    gss_cons (gs_expr (ge_call (ok_want_row FX) sp_P (hr.mono (by decide)) rfl FX.g_want_row FX.F_want_row.kp (b_want_row FX) (ga_cons (g_var (pv 0)) (ga_nil)) rfl (len_cons (len_nil))))
    (gss_one (gs_ret (ge_call (ok_longest_of FX) sp_Ow (hr.mono (by decide)) rfl FX.g_longest_of FX.F_longest_of.kp (b_longest_of FX) (ga_cons (g_var (pv 0)) (ga_cons (g_c (v := .ref FX.f_does_rise) (pe_glob rfl FX.g_does_rise rfl) (fun _ _ _ => .fn FX.g_does_rise)) (ga_nil))) rfl (len_cons (len_cons (len_nil))))))
theorem kb_rising_positions_row (FX : Fx K mg) : KB K FX.d_rising_positions ["row"] ["row"] [0] := by
  obtain ⟨oc, od, dV, kV, doc, pm, an, cdv, ct, osl, e, lk, hcd, hD, hK⟩ := FX.F_rising_positions.ex
  rw [e]
  rcases hD with ⟨_, rfl⟩ | ⟨e, _⟩
  · intro s ws _ hl
    match ws, hl with | [_], _ => exact .of_eq rfl
  · exact absurd rfl e
theorem sc_falling_positions : FnScope ["row"] ["row"] (defScope s_falling_positions) := ⟨rfl, rfl, rfl, by decide +kernel, rfl, by decide +kernel, by decide +kernel⟩
theorem b_falling_positions (FX : Fx K mg) : Binds K FX.d_falling_positions ["row"] [] := FX.F_falling_positions.bindsN fun _ _ _ _ _ _ us hl => match us, hl with | [_], _ => rfl
theorem ok_falling_positions (FX : Fx K mg) : FnOk P w K mg base CX0 5 FX.f_falling_positions FX.d_falling_positions ["row"] (spM K mg m_falling_positions 1) :=
  def_ok (k := 4) FX.F_falling_positions sc_falling_positions fun cdv A outer s H E hr =>
    gss_cons (gs_expr (ge_call (ok_want_row FX) sp_P (hr.mono (by decide)) rfl FX.g_want_row FX.F_want_row.kp (b_want_row FX) (ga_cons (g_var (pv 0)) (ga_nil)) rfl (len_cons (len_nil))))
    (gss_one (gs_ret (ge_call (ok_longest_of FX) sp_Ow (hr.mono (by decide)) rfl FX.g_longest_of FX.F_longest_of.kp (b_longest_of FX) (ga_cons (g_var (pv 0)) (ga_cons (g_c (v := .ref FX.f_does_fall) (pe_glob rfl FX.g_does_fall rfl) (fun _ _ _ => .fn FX.g_does_fall)) (ga_nil))) rfl (len_cons (len_cons (len_nil))))))
theorem kb_falling_positions_row (FX : Fx K mg) : KB K FX.d_falling_positions ["row"] ["row"] [0] := by
  obtain ⟨oc, od, dV, kV, doc, pm, an, cdv, ct, osl, e, lk, hcd, hD, hK⟩ := FX.F_falling_positions.ex
  rw [e]
  rcases hD with ⟨_, rfl⟩ | ⟨e, _⟩
  · intro s ws _ hl
    match ws, hl with | [_], _ => exact .of_eq rfl
  · exact absurd rfl e
theorem sc_reversed_of : FnScope ["row"] ["row"] (defScope s_reversed_of) := ⟨rfl, rfl, rfl, by decide +kernel, rfl, by decide +kernel, by decide +kernel⟩
theorem b_reversed_of (FX : Fx K mg) : Binds K FX.d_reversed_of ["row"] [] := FX.F_reversed_of.bindsN fun _ _ _ _ _ _ us hl => match us, hl with | [_], _ => rfl
theorem ok_reversed_of (FX : Fx K mg) : FnOk P w K mg base CX0 1 FX.f_reversed_of FX.d_reversed_of ["row"] (spM K mg m_reversed_of 1) :=
  def_ok (k := 0) FX.F_reversed_of sc_reversed_of fun cdv A outer s H E hr =>
    gss_one (gs_ret (ge_rev true (g_var (pv 0))))
theorem sc_turned_back : FnScope ["row"] ["row"] (defScope s_turned_back) := ⟨rfl, rfl, rfl, by decide +kernel, rfl, by decide +kernel, by decide +kernel⟩
theorem b_turned_back (FX : Fx K mg) : Binds K FX.d_turned_back ["row"] [] := FX.F_turned_back.bindsN fun _ _ _ _ _ _ us hl => match us, hl with | [_], _ => rfl
theorem ok_turned_back (FX : Fx K mg) : FnOk P w K mg base CX0 5 FX.f_turned_back FX.d_turned_back ["row"] (spM K mg m_turned_back 1) :=
  def_ok (k := 4) FX.F_turned_back sc_turned_back fun cdv A outer s H E hr =>
    gss_cons (gs_expr (ge_call (ok_want_row FX) sp_P (hr.mono (by decide)) rfl FX.g_want_row FX.F_want_row.kp (b_want_row FX) (ga_cons (g_var (pv 0)) (ga_nil)) rfl (len_cons (len_nil))))
    (gss_one (gs_ret (ge_call (ok_reversed_of FX) sp_Ow (hr.mono (by decide)) rfl FX.g_reversed_of FX.F_reversed_of.kp (b_reversed_of FX) (ga_cons (g_var (pv 0)) (ga_nil)) rfl (len_cons (len_nil)))))
theorem sc_over_of : FnScope ["row", "number"] ["row"] (defScope s_over_of) := ⟨rfl, rfl, rfl, by decide +kernel, rfl, by decide +kernel, by decide +kernel⟩
theorem b_over_of (FX : Fx K mg) : Binds K FX.d_over_of ["row"] [] := FX.F_over_of.bindsN fun _ _ _ _ _ _ us hl => match us, hl with | [_], _ => rfl
theorem ok_over_of (FX : Fx K mg) : FnOk P w K mg base CX0 1 FX.f_over_of FX.d_over_of ["row"] (spM K mg m_over_of 1) :=
  def_ok (k := 0) FX.F_over_of sc_over_of fun cdv A outer s H E hr =>
    gss_one (gs_ret (ge_ty call_tuple_of w_tuple rfl FX.n_tuple rfl (ga_cons (ge_lc false (ow := [("number", 1)]) rfl sc_over_of.nd (gi_any (g_var (pv 0))) (blkOk_by (by kernel_rfl)) (fun _ _ _ _ _ => gg_name sc_over_of.nd rfl (by first | exact Or.inl rfl | exact Or.inr rfl)) (fun _ _ _ _ _ => gts_nil) (fun _ _ _ _ _ => g_op op_sub w_sub (g_op op_sub w_sub (ge_blt call_len_seq w_len rfl FX.n_len rfl (ga_cons (g_var (pv 0)) (ga_nil))) (g_c pe_int (fun _ _ _ => .int _))) (g_var (pv 1)))) (ga_nil))))
theorem sc_turned_over : FnScope ["row"] ["row"] (defScope s_turned_over) := ⟨rfl, rfl, rfl, by decide +kernel, rfl, by decide +kernel, by decide +kernel⟩
theorem b_turned_over (FX : Fx K mg) : Binds K FX.d_turned_over ["row"] [] := FX.F_turned_over.bindsN fun _ _ _ _ _ _ us hl => match us, hl with | [_], _ => rfl
theorem ok_turned_over (FX : Fx K mg) : FnOk P w K mg base CX0 5 FX.f_turned_over FX.d_turned_over ["row"] (spM K mg m_turned_over 1) :=
  def_ok (k := 4) FX.F_turned_over sc_turned_over fun cdv A outer s H E hr =>
    gss_cons (gs_expr (ge_call (ok_want_row FX) sp_P (hr.mono (by decide)) rfl FX.g_want_row FX.F_want_row.kp (b_want_row FX) (ga_cons (g_var (pv 0)) (ga_nil)) rfl (len_cons (len_nil))))
    (gss_one (gs_ret (ge_call (ok_over_of FX) sp_Ow (hr.mono (by decide)) rfl FX.g_over_of FX.F_over_of.kp (b_over_of FX) (ga_cons (g_var (pv 0)) (ga_nil)) rfl (len_cons (len_nil)))))
theorem sc_undone_of : FnScope ["row", "found", "at", "number"] ["row"] (defScope s_undone_of) := ⟨rfl, rfl, rfl, by decide +kernel, rfl, by decide +kernel, by decide +kernel⟩
theorem b_undone_of (FX : Fx K mg) : Binds K FX.d_undone_of ["row"] [] := FX.F_undone_of.bindsN fun _ _ _ _ _ _ us hl => match us, hl with | [_], _ => rfl
theorem ok_undone_of (FX : Fx K mg) : FnOk P w K mg base CX0 1 FX.f_undone_of FX.d_undone_of ["row"] (spM K mg m_undone_of 1) :=
  def_ok (k := 0) FX.F_undone_of sc_undone_of fun cdv A outer s H E hr =>
    gss_cons (gs_set sc_undone_of.nd rfl (by first | exact Or.inl rfl | exact Or.inr rfl) (g_op or_times (w_times (own := true)) (ge_lst false (ga_cons (g_c pe_int (fun _ _ _ => .int _)) (ga_nil))) (ge_blt call_len_seq w_len rfl FX.n_len rfl (ga_cons (g_var (pv 0)) (ga_nil)))))
    (gss_cons (gs_for 100000 PassesOwn.never rfl (gi_enum rfl FX.n_enumerate (ga_cons (g_var (pv 0)) (ga_nil))) (gg_tup rfl (ggs_cons sc_undone_of.nd rfl (by first | exact Or.inl rfl | exact Or.inr rfl) (ggs_cons sc_undone_of.nd rfl (by first | exact Or.inl rfl | exact Or.inr rfl) (ggs_nil)))) (gss_one (gs_asg (g_var (pv 2)) (gh_sub (g_var (pv 1)) (g_var (pv 3))))))
    (gss_one (gs_ret (ge_ty call_tuple_of w_tuple rfl FX.n_tuple rfl (ga_cons (g_var (pv 1)) (ga_nil))))))
theorem sc_undone : FnScope ["row"] ["row"] (defScope s_undone) := ⟨rfl, rfl, rfl, by decide +kernel, rfl, by decide +kernel, by decide +kernel⟩
theorem b_undone (FX : Fx K mg) : Binds K FX.d_undone ["row"] [] := FX.F_undone.bindsN fun _ _ _ _ _ _ us hl => match us, hl with | [_], _ => rfl
theorem ok_undone (FX : Fx K mg) : FnOk P w K mg base CX0 5 FX.f_undone FX.d_undone ["row"] (spM K mg m_undone 1) :=
  def_ok (k := 4) FX.F_undone sc_undone fun cdv A outer s H E hr =>
    gss_cons (gs_expr (ge_call (ok_want_row FX) sp_P (hr.mono (by decide)) rfl FX.g_want_row FX.F_want_row.kp (b_want_row FX) (ga_cons (g_var (pv 0)) (ga_nil)) rfl (len_cons (len_nil))))
    (gss_one (gs_ret (ge_call (ok_undone_of FX) sp_Ow (hr.mono (by decide)) rfl FX.g_undone_of FX.F_undone_of.kp (b_undone_of FX) (ga_cons (g_var (pv 0)) (ga_nil)) rfl (len_cons (len_nil)))))
theorem sc__law_right : FnScope ["pot", "row", "due", "at", "told", "stretches", "turn", "up", "down", "rising", "falling", "size", "many", "places"] ["pot"] (defScope s__law_right) := ⟨rfl, rfl, rfl, by decide +kernel, rfl, by decide +kernel, by decide +kernel⟩
theorem b__law_right (FX : Fx K mg) : Binds K FX.d__law_right ["pot"] [] := FX.F__law_right.bindsN fun _ _ _ _ _ _ us hl => match us, hl with | [_], _ => rfl
theorem ok__law_right (FX : Fx K mg) : FnOk P w K mg base CX0 14 FX.f__law_right FX.d__law_right ["pot"] (spM K mg m__law_right 1) :=
  def_ok (k := 13) FX.F__law_right sc__law_right fun cdv A outer s H E hr =>
    gss_cons (gs_set sc__law_right.nd rfl (by first | exact Or.inl rfl | exact Or.inr rfl) (ge_call (ok__law_row FX) sp_G (hr.mono (by decide)) rfl FX.g__law_row FX.F__law_row.kp (b__law_row FX) (ga_cons (g_var (pv 0)) (ga_cons (g_c pe_int (fun _ _ _ => .int _)) (ga_nil))) rfl (len_cons (len_cons (len_nil)))))
    (gss_cons (gs_par rfl sc__law_right.nd rfl rfl (by decide) rfl rfl (ga_cons (ge_call (ok__law_longest FX) sp_P (hr.mono (by decide)) rfl FX.g__law_longest FX.F__law_longest.kp (b__law_longest FX) (ga_cons (g_var (pv 1)) (ga_cons (g_c pe_bl (fun _ _ _ => .bl true)) (ga_nil))) rfl (len_cons (len_cons (len_nil)))) (ga_cons (ge_call (ok__law_longest FX) sp_P (hr.mono (by decide)) rfl FX.g__law_longest FX.F__law_longest.kp (b__law_longest FX) (ga_cons (g_var (pv 1)) (ga_cons (g_c pe_bl (fun _ _ _ => .bl false)) (ga_nil))) rfl (len_cons (len_cons (len_nil)))) (ga_nil))) rfl)
    (gss_cons (gs_if (gt_not (gt_val (ge_call (ok__law_is FX 12) sp_P (hr.mono (by decide)) rfl FX.g__law_is FX.F__law_is.kp (b__law_is FX) (ga_cons (ge_lst false (ga_cons (ge_call (ok_rising_positions FX) sp_P (hr.mono (by decide)) rfl FX.g_rising_positions FX.F_rising_positions.kp (b_rising_positions FX) (ga_cons (g_var (pv 1)) (ga_nil)) rfl (len_cons (len_nil))) (ga_cons (ge_callK (ok_rising_positions FX) sp_P (hr.mono (by decide)) rfl FX.g_rising_positions FX.F_rising_positions.kp (kb_rising_positions_row FX) (gk_cons (g_var (pv 1)) (gk_nil)) (len_cons (len_nil)) rfl (by decide)) (ga_cons (ge_call (ok_falling_positions FX) sp_P (hr.mono (by decide)) rfl FX.g_falling_positions FX.F_falling_positions.kp (b_falling_positions FX) (ga_cons (g_var (pv 1)) (ga_nil)) rfl (len_cons (len_nil))) (ga_cons (ge_callK (ok_falling_positions FX) sp_P (hr.mono (by decide)) rfl FX.g_falling_positions FX.F_falling_positions.kp (kb_falling_positions_row FX) (gk_cons (g_var (pv 1)) (gk_nil)) (len_cons (len_nil)) rfl (by decide)) (ga_nil)))))) (ga_cons (ge_lst false (ga_cons (g_var (pv 7)) (ga_cons (g_var (pv 7)) (ga_cons (g_var (pv 8)) (ga_cons (g_var (pv 8)) (ga_nil)))))) (ga_nil))) rfl (len_cons (len_cons (len_nil)))))) (gss_one (gs_ret (g_c pe_bl (fun _ _ _ => .bl false)))) (gss_nil))
    (gss_cons (gs_set sc__law_right.nd rfl (by first | exact Or.inl rfl | exact Or.inr rfl) (ge_lst true (ga_nil)))
    (gss_cons (gs_for 100000 PassesOwn.never rfl (gi_rg1 rfl FX.n_range (ga_cons (ge_blt call_len_seq w_len rfl FX.n_len rfl (ga_cons (g_var (pv 1)) (ga_nil))) (ga_nil))) (gg_name sc__law_right.nd rfl (by first | exact Or.inl rfl | exact Or.inr rfl)) (gss_cons (gs_setLc false (ow := [("places", 13)]) rfl sc__law_right.nd rfl rfl (sw_true rfl rfl rfl (by decide +kernel)) (gi_any (ge_call (ok__law_all FX) sp_P (hr.mono (by decide)) rfl FX.g__law_all FX.F__law_all.kp (b__law_all FX) (ga_cons (ge_slice false (g_var (pv 1)) (go_no) (go_some (g_op or_add (w_add (own := false)) (g_var (pv 3)) (g_c pe_int (fun _ _ _ => .int _))))) (ga_cons (g_c pe_bl (fun _ _ _ => .bl true)) (ga_nil))) rfl (len_cons (len_cons (len_nil))))) (blkOk_by (by kernel_rfl)) (fun _ _ _ _ _ => gg_name sc__law_right.nd rfl (by first | exact Or.inl rfl | exact Or.inr rfl)) (fun _ _ _ _ _ => gts_one (gt_w (gw_and (gt_cmp (or_ne hr.units) (w_ne) (g_var (pv 13)) (ge_tup (ga_nil)) (nomark _)) (gw_and1 (gt_cmp (or_eq hr.units) (w_eq) (ge_ix (g_var (pv 13)) (g_op op_sub w_sub (ge_blt call_len_seq w_len rfl FX.n_len rfl (ga_cons (g_var (pv 13)) (ga_nil))) (g_c pe_int (fun _ _ _ => .int _)))) (g_var (pv 3)) (nomark _)))))) (fun _ _ _ _ _ => ge_blt call_len_seq w_len rfl FX.n_len rfl (ga_cons (g_var (pv 13)) (ga_nil))))
    (gss_cons (gs_setLc false (ow := [("places", 13)]) rfl sc__law_right.nd rfl rfl (sw_true rfl rfl rfl (by decide +kernel)) (gi_any (ge_call (ok__law_all FX) sp_P (hr.mono (by decide)) rfl FX.g__law_all FX.F__law_all.kp (b__law_all FX) (ga_cons (ge_slice false (g_var (pv 1)) (go_no) (go_some (g_op or_add (w_add (own := false)) (g_var (pv 3)) (g_c pe_int (fun _ _ _ => .int _))))) (ga_cons (g_c pe_bl (fun _ _ _ => .bl false)) (ga_nil))) rfl (len_cons (len_cons (len_nil))))) (blkOk_by (by kernel_rfl)) (fun _ _ _ _ _ => gg_name sc__law_right.nd rfl (by first | exact Or.inl rfl | exact Or.inr rfl)) (fun _ _ _ _ _ => gts_one (gt_w (gw_and (gt_cmp (or_ne hr.units) (w_ne) (g_var (pv 13)) (ge_tup (ga_nil)) (nomark _)) (gw_and1 (gt_cmp (or_eq hr.units) (w_eq) (ge_ix (g_var (pv 13)) (g_op op_sub w_sub (ge_blt call_len_seq w_len rfl FX.n_len rfl (ga_cons (g_var (pv 13)) (ga_nil))) (g_c pe_int (fun _ _ _ => .int _)))) (g_var (pv 3)) (nomark _)))))) (fun _ _ _ _ _ => ge_blt call_len_seq w_len rfl FX.n_len rfl (ga_cons (g_var (pv 13)) (ga_nil))))
    (gss_one (gs_expr (ge_meth PySem.F.slot_list_append PySem.F.type_list_append mt_append w_app (g_var (pv 2)) (ga_cons (ge_tup (ga_cons (ge_blt (cr_max rfl) w_max rfl FX.n_max rfl (ga_cons (g_var (pv 9)) (ga_nil))) (ga_cons (ge_blt (cr_max rfl) w_max rfl FX.n_max rfl (ga_cons (g_var (pv 10)) (ga_nil))) (ga_nil)))) (ga_nil))))))))
    (gss_cons (gs_set sc__law_right.nd rfl (by first | exact Or.inl rfl | exact Or.inr rfl) (ge_call (ok_ends_at FX) sp_Ow (hr.mono (by decide)) rfl FX.g_ends_at FX.F_ends_at.kp (b_ends_at FX) (ga_cons (g_var (pv 1)) (ga_nil)) rfl (len_cons (len_nil))))
    (gss_cons (gs_if (gt_w (gw_or (gt_not (gt_val (ge_call (ok__law_is FX 12) sp_B (hr.mono (by decide)) rfl FX.g__law_is FX.F__law_is.kp (b__law_is FX) (ga_cons (ge_lst false (ga_cons (g_var (pv 4)) (ga_cons (ge_callK (ok_ends_at FX) sp_P (hr.mono (by decide)) rfl FX.g_ends_at FX.F_ends_at.kp (kb_ends_at_row FX) (gk_cons (g_var (pv 1)) (gk_nil)) (len_cons (len_nil)) rfl (by decide)) (ga_nil)))) (ga_cons (ge_lst false (ga_cons (g_var (pv 2)) (ga_cons (g_var (pv 2)) (ga_nil)))) (ga_nil))) rfl (len_cons (len_cons (len_nil)))))) (gw_or1 (gt_cmp (or_ne hr.units) (w_ne) (ge_lenSet rfl hr.units rfl FX.n_len rfl FX.n_set (g_var (pv 2))) (ge_blt call_len_seq w_len rfl FX.n_len rfl (ga_cons (g_var (pv 1)) (ga_nil))) (nomark _))))) (gss_one (gs_ret (g_c pe_bl (fun _ _ _ => .bl false)))) (gss_nil))
    (gss_cons (gs_expr (ge_meth PySem.F.slot_list_append PySem.F.type_list_append mt_append w_app (g_var (pv 4)) (ga_cons (g_c pe_non (fun _ _ _ => .non)) (ga_nil))))
    (gss_cons (gs_if (gt_w (gw_or (gt_not (gt_val (ge_call (ok__law_is FX 12) sp_B (hr.mono (by decide)) rfl FX.g__law_is FX.F__law_is.kp (b__law_is FX) (ga_cons (ge_call (ok_ends_at FX) sp_P (hr.mono (by decide)) rfl FX.g_ends_at FX.F_ends_at.kp (b_ends_at FX) (ga_cons (g_var (pv 1)) (ga_nil)) rfl (len_cons (len_nil))) (ga_cons (g_var (pv 2)) (ga_nil))) rfl (len_cons (len_cons (len_nil)))))) (gw_or1 (gt_cmp op_lt (w_lt) (g_op or_times (w_times (own := false)) (ge_blt call_len_seq w_len rfl FX.n_len rfl (ga_cons (g_var (pv 7)) (ga_nil))) (ge_blt call_len_seq w_len rfl FX.n_len rfl (ga_cons (g_var (pv 8)) (ga_nil)))) (ge_blt call_len_seq w_len rfl FX.n_len rfl (ga_cons (g_var (pv 1)) (ga_nil))) (nomark _))))) (gss_one (gs_ret (g_c pe_bl (fun _ _ _ => .bl false)))) (gss_nil))
    (gss_cons (gs_set sc__law_right.nd rfl (by first | exact Or.inl rfl | exact Or.inr rfl) (ge_lst true (ga_cons (ge_blt call_len_seq w_len rfl FX.n_len rfl (ga_cons (ge_call (ok_rising_positions FX) sp_P (hr.mono (by decide)) rfl FX.g_rising_positions FX.F_rising_positions.kp (b_rising_positions FX) (ga_cons (ge_call (ok_turned_back FX) sp_P (hr.mono (by decide)) rfl FX.g_turned_back FX.F_turned_back.kp (b_turned_back FX) (ga_cons (g_var (pv 1)) (ga_nil)) rfl (len_cons (len_nil))) (ga_nil)) rfl (len_cons (len_nil))) (ga_nil))) (ga_cons (ge_blt call_len_seq w_len rfl FX.n_len rfl (ga_cons (ge_call (ok_falling_positions FX) sp_P (hr.mono (by decide)) rfl FX.g_falling_positions FX.F_falling_positions.kp (b_falling_positions FX) (ga_cons (ge_call (ok_turned_over FX) sp_P (hr.mono (by decide)) rfl FX.g_turned_over FX.F_turned_over.kp (b_turned_over FX) (ga_cons (g_var (pv 1)) (ga_nil)) rfl (len_cons (len_nil))) (ga_nil)) rfl (len_cons (len_nil))) (ga_nil))) (ga_cons (ge_blt call_len_seq w_len rfl FX.n_len rfl (ga_cons (ge_call (ok_rising_positions FX) sp_P (hr.mono (by decide)) rfl FX.g_rising_positions FX.F_rising_positions.kp (b_rising_positions FX) (ga_cons (ge_call (ok_undone FX) sp_P (hr.mono (by decide)) rfl FX.g_undone FX.F_undone.kp (b_undone FX) (ga_cons (g_var (pv 1)) (ga_nil)) rfl (len_cons (len_nil))) (ga_nil)) rfl (len_cons (len_nil))) (ga_nil))) (ga_cons (ge_blt call_len_seq w_len rfl FX.n_len rfl (ga_cons (ge_call (ok_falling_positions FX) sp_P (hr.mono (by decide)) rfl FX.g_falling_positions FX.F_falling_positions.kp (b_falling_positions FX) (ga_cons (ge_call (ok_undone FX) sp_P (hr.mono (by decide)) rfl FX.g_undone FX.F_undone.kp (b_undone FX) (ga_cons (g_var (pv 1)) (ga_nil)) rfl (len_cons (len_nil))) (ga_nil)) rfl (len_cons (len_nil))) (ga_nil))) (ga_nil)))))))
    (gss_cons (gs_if (gt_w (gw_or (gt_cmp (or_ne hr.units) (w_ne) (g_var (pv 4)) (ge_lst false (ga_cons (ge_blt call_len_seq w_len rfl FX.n_len rfl (ga_cons (g_var (pv 8)) (ga_nil))) (ga_cons (ge_blt call_len_seq w_len rfl FX.n_len rfl (ga_cons (g_var (pv 7)) (ga_nil))) (ga_cons (ge_blt call_len_seq w_len rfl FX.n_len rfl (ga_cons (g_var (pv 7)) (ga_nil))) (ga_cons (ge_blt call_len_seq w_len rfl FX.n_len rfl (ga_cons (g_var (pv 8)) (ga_nil))) (ga_nil)))))) (nomark _)) (gw_or1 (gt_cmp (or_ne hr.units) (w_ne) (ge_call (ok_rising_positions FX) sp_P (hr.mono (by decide)) rfl FX.g_rising_positions FX.F_rising_positions.kp (b_rising_positions FX) (ga_cons (ge_call (ok_turned_over FX) sp_P (hr.mono (by decide)) rfl FX.g_turned_over FX.F_turned_over.kp (b_turned_over FX) (ga_cons (g_var (pv 1)) (ga_nil)) rfl (len_cons (len_nil))) (ga_nil)) rfl (len_cons (len_nil))) (g_var (pv 8)) (nomark _))))) (gss_one (gs_ret (g_c pe_bl (fun _ _ _ => .bl false)))) (gss_nil))
    (gss_cons (gs_asg (ge_tup (ga_cons (g_op or_add (w_add (own := false)) (g_c pe_int (fun _ _ _ => .int _)) (ge_call (ok__law_draw FX) sp_G (hr.mono (by decide)) rfl FX.g__law_draw FX.F__law_draw.kp (b__law_draw FX) (ga_cons (g_var (pv 0)) (ga_cons (g_c pe_int (fun _ _ _ => .int _)) (ga_nil))) rfl (len_cons (len_cons (len_nil))))) (ga_cons (g_op or_add (w_add (own := false)) (g_c pe_int (fun _ _ _ => .int _)) (ge_call (ok__law_draw FX) sp_G (hr.mono (by decide)) rfl FX.g__law_draw FX.F__law_draw.kp (b__law_draw FX) (ga_cons (g_var (pv 0)) (ga_cons (g_c pe_int (fun _ _ _ => .int _)) (ga_nil))) rfl (len_cons (len_cons (len_nil))))) (ga_nil)))) (gh_tup rfl (ghs_cons (gh_name sc__law_right.nd rfl (by first | exact Or.inl rfl | exact Or.inr rfl)) (ghs_cons (gh_name sc__law_right.nd rfl (by first | exact Or.inl rfl | exact Or.inr rfl)) (ghs_nil)))))
    (gss_cons (gs_set sc__law_right.nd rfl (by first | exact Or.inl rfl | exact Or.inr rfl) (ge_tup (ga_nil)))
    (gss_cons (gs_for 100000 PassesOwn.never rfl (gi_rg1 rfl FX.n_range (ga_cons (g_var (pv 12)) (ga_nil))) (gg_name sc__law_right.nd rfl (by first | exact Or.inl rfl | exact Or.inr rfl)) (gss_one (gs_set sc__law_right.nd rfl (by first | exact Or.inl rfl | exact Or.inr rfl) (g_op or_add (w_add (own := false)) (g_var (pv 5)) (ge_ty call_tuple_of w_tuple rfl FX.n_tuple rfl (ga_cons (ge_rev false (ge_lc false (ow := [("at", 3)]) rfl sc__law_right.nd (gi_rg1 rfl FX.n_range (ga_cons (g_var (pv 11)) (ga_nil))) (blkOk_by (by kernel_rfl)) (fun _ _ _ _ _ => gg_name sc__law_right.nd rfl (by first | exact Or.inl rfl | exact Or.inr rfl)) (fun _ _ _ _ _ => gts_nil) (fun _ _ _ _ _ => g_op or_add (w_add (own := false)) (ge_blt call_len_seq w_len rfl FX.n_len rfl (ga_cons (g_var (pv 5)) (ga_nil))) (g_var (pv 3))))) (ga_nil)))))))
    (gss_cons (gs_if (gt_cmp (or_ne hr.units) (w_ne) (ge_lst false (ga_cons (ge_blt call_len_seq w_len rfl FX.n_len rfl (ga_cons (ge_call (ok_rising_positions FX) sp_P (hr.mono (by decide)) rfl FX.g_rising_positions FX.F_rising_positions.kp (b_rising_positions FX) (ga_cons (g_var (pv 5)) (ga_nil)) rfl (len_cons (len_nil))) (ga_nil))) (ga_cons (ge_blt call_len_seq w_len rfl FX.n_len rfl (ga_cons (ge_call (ok_falling_positions FX) sp_P (hr.mono (by decide)) rfl FX.g_falling_positions FX.F_falling_positions.kp (b_falling_positions FX) (ga_cons (g_var (pv 5)) (ga_nil)) rfl (len_cons (len_nil))) (ga_nil))) (ga_nil)))) (ge_lst false (ga_cons (g_var (pv 12)) (ga_cons (g_var (pv 11)) (ga_nil)))) (nomark _)) (gss_one (gs_ret (g_c pe_bl (fun _ _ _ => .bl false)))) (gss_nil))
    (gss_one (gs_ret (ge_and (g_cmp (or_eq hr.units) (w_eq) (ge_call (ok_falling_positions FX) sp_P (hr.mono (by decide)) rfl FX.g_falling_positions FX.F_falling_positions.kp (b_falling_positions FX) (ga_cons (g_var (pv 5)) (ga_nil)) rfl (len_cons (len_nil))) (ge_tupRg rfl rfl FX.n_tuple (gr_1 rfl FX.n_range (g_var (pv 11)))) (nomark _)) (ge_one (g_cmp (or_eq hr.units) (w_eq) (ge_call (ok_rising_positions FX) sp_P (hr.mono (by decide)) rfl FX.g_rising_positions FX.F_rising_positions.kp (b_rising_positions FX) (ga_cons (g_var (pv 5)) (ga_nil)) rfl (len_cons (len_nil))) (ge_ty call_tuple_of w_tuple rfl FX.n_tuple rfl (ga_cons (ge_lc false (ow := [("at", 3)]) rfl sc__law_right.nd (gi_rg1 rfl FX.n_range (ga_cons (g_var (pv 12)) (ga_nil))) (blkOk_by (by kernel_rfl)) (fun _ _ _ _ _ => gg_name sc__law_right.nd rfl (by first | exact Or.inl rfl | exact Or.inr rfl)) (fun _ _ _ _ _ => gts_nil) (fun _ _ _ _ _ => g_op or_times (w_times (own := false)) (g_var (pv 11)) (g_var (pv 3)))) (ga_nil))) (nomark _))))))))))))))))))))
theorem sc__law_pot : FnScope ["script", "k", "cell", "some"] ["script", "k"] (defScope s__law_pot) := ⟨rfl, rfl, rfl, by decide +kernel, rfl, by decide +kernel, by decide +kernel⟩
theorem b__law_pot (FX : Fx K mg) : Binds K FX.d__law_pot ["script", "k"] [] := FX.F__law_pot.bindsN fun _ _ _ _ _ _ us hl => match us, hl with | [_, _], _ => rfl
theorem ok__law_pot (FX : Fx K mg) : FnOk P w K mg base CX0 1 FX.f__law_pot FX.d__law_pot ["script", "k"] (spM K mg m__law_pot 2) :=
  def_ok (k := 0) FX.F__law_pot sc__law_pot fun cdv A outer s H E hr =>
    gss_cons (gs_set sc__law_pot.nd rfl (by first | exact Or.inl rfl | exact Or.inr rfl) (ge_if (gt_cmp op_lt (w_lt) (g_var (pv 1)) (ge_blt call_len_seq w_len rfl FX.n_len rfl (ga_cons (g_var (pv 0)) (ga_nil))) (nomark _)) (ge_blt call_abs w_abs rfl FX.n_abs rfl (ga_cons (ge_ix (g_var (pv 0)) (g_var (pv 1))) (ga_nil))) (g_op or_add (w_add (own := false)) (g_op or_add (w_add (own := false)) (g_op or_times (w_times (own := false)) (g_c pe_int (fun _ _ _ => .int _)) (g_var (pv 1))) (g_c pe_int (fun _ _ _ => .int _))) (g_op op_mod w_mod (ge_blt call_abs w_abs rfl FX.n_abs rfl (ga_cons (ge_blt (cr_sum rfl) w_sum rfl FX.n_sum rfl (ga_cons (ge_slice false (g_var (pv 0)) (go_no) (go_some (g_c pe_int (fun _ _ _ => .int _)))) (ga_nil))) (ga_nil))) (g_c pe_int (fun _ _ _ => .int _))))))
    (gss_cons (gs_set sc__law_pot.nd rfl (by first | exact Or.inl rfl | exact Or.inr rfl) (g_op or_add (w_add (own := false)) (g_op op_mod w_mod (ge_ty call_int1 w_int rfl FX.n_int rfl (ga_cons (g_op or_add (w_add (own := false)) (g_op or_add (w_add (own := false)) (g_op or_times (w_times (own := false)) (g_op op_mod w_mod (ge_ty call_int1 w_int rfl FX.n_int rfl (ga_cons (g_var (pv 2)) (ga_nil))) (g_c pe_int (fun _ _ _ => .int _))) (g_c pe_int (fun _ _ _ => .int _))) (g_op or_times (w_times (own := false)) (g_c pe_int (fun _ _ _ => .int _)) (g_var (pv 1)))) (g_c pe_int (fun _ _ _ => .int _))) (ga_nil))) (g_c pe_int (fun _ _ _ => .int _))) (g_c pe_int (fun _ _ _ => .int _))))
    (gss_one (gs_ret (ge_lst true (ga_cons (ge_blt (call_max2 rfl) w_max2 rfl FX.n_max rfl (ga_cons (g_c pe_int (fun _ _ _ => .int _)) (ga_cons (g_op op_sub w_sub (g_var (pv 2)) (g_op op_pow w_pow (g_c pe_int (fun _ _ _ => .int _)) (g_c pe_int (fun _ _ _ => .int _)))) (ga_nil)))) (ga_cons (g_var (pv 3)) (ga_nil)))))))
theorem sc_law : FnScope ["script", "k"] ["script"] (defScope s_law) := ⟨rfl, rfl, rfl, by decide +kernel, rfl, by decide +kernel, by decide +kernel⟩
theorem b_law (FX : Fx K mg) : Binds K FX.d_law ["script"] [] := FX.F_law.bindsN fun _ _ _ _ _ _ us hl => match us, hl with | [_], _ => rfl
theorem ok_law (FX : Fx K mg) : FnOk P w K mg base CX0 15 FX.f_law FX.d_law ["script"] (spM K mg m_law 1) :=
  def_ok (k := 14) FX.F_law sc_law fun cdv A outer s H E hr =>
    gss_one (gs_ret (ge_blt (cr_all rfl) w_all rfl FX.n_all rfl (ga_cons (ge_lc false (ow := [("k", 1)]) rfl sc_law.nd (gi_rg1 rfl FX.n_range (ga_cons (ge_blt (call_max2 rfl) w_max2 rfl FX.n_max rfl (ga_cons (g_c pe_int (fun _ _ _ => .int _)) (ga_cons (ge_blt (call_min2 rfl) w_min2 rfl FX.n_min rfl (ga_cons (g_c pe_int (fun _ _ _ => .int _)) (ga_cons (ge_blt call_len_seq w_len rfl FX.n_len rfl (ga_cons (g_var (pv 0)) (ga_nil))) (ga_nil)))) (ga_nil)))) (ga_nil))) (blkOk_by (by kernel_rfl)) (fun _ _ _ _ _ => gg_name sc_law.nd rfl (by first | exact Or.inl rfl | exact Or.inr rfl)) (fun _ _ _ _ _ => gts_nil) (fun _ _ _ _ _ => ge_call (ok__law_right FX) sp_G (hr.mono (by decide)) rfl FX.g__law_right FX.F__law_right.kp (b__law_right FX) (ga_cons (ge_call (ok__law_pot FX) sp_Ow (hr.mono (by decide)) rfl FX.g__law_pot FX.F__law_pot.kp (b__law_pot FX) (ga_cons (g_var (pv 0)) (ga_cons (g_var (pv 1)) (ga_nil))) rfl (len_cons (len_cons (len_nil)))) (ga_nil)) rfl (len_cons (len_nil)))) (ga_nil))))
end
end K66

set_option Elab.async false
set_option linter.all false
set_option maxRecDepth 100000
set_option maxHeartbeats 4000000
/-! the head -/
namespace K66
open PySem PySem.Spec PyProof.Rows L2 G
def d__law_draw : He.DefD := ⟨("_law_draw", none), "_law_draw", "_law_draw", defArgs s__law_draw, defBody s__law_draw, defScope s__law_draw, [], []⟩
def d__law_mixed : He.DefD := ⟨("_law_mixed", none), "_law_mixed", "_law_mixed", defArgs s__law_mixed, defBody s__law_mixed, defScope s__law_mixed, [], []⟩
def d__law_row : He.DefD := ⟨("_law_row", none), "_law_row", "_law_row", defArgs s__law_row, defBody s__law_row, defScope s__law_row, [], []⟩
def d_is_integer : He.DefD := ⟨("is_integer", none), "is_integer", "is_integer", defArgs s_is_integer, defBody s_is_integer, defScope s_is_integer, [], []⟩
def d_is_count : He.DefD := ⟨("is_count", none), "is_count", "is_count", defArgs s_is_count, defBody s_is_count, defScope s_is_count, [], []⟩
def d_is_row_value : He.DefD := ⟨("is_row_value", none), "is_row_value", "is_row_value", defArgs s_is_row_value, defBody s_is_row_value, defScope s_is_row_value, [], []⟩
def d_want_row : He.DefD := ⟨("want_row", none), "want_row", "want_row", defArgs s_want_row, defBody s_want_row, defScope s_want_row, [], []⟩
def d_does_fall : He.DefD := ⟨("does_fall", none), "does_fall", "does_fall", defArgs s_does_fall, defBody s_does_fall, defScope s_does_fall, [], []⟩
def d_does_rise : He.DefD := ⟨("does_rise", none), "does_rise", "does_rise", defArgs s_does_rise, defBody s_does_rise, defScope s_does_rise, [], []⟩
def d_lengths_from : He.DefD := ⟨("lengths_from", none), "lengths_from", "lengths_from", defArgs s_lengths_from, defBody s_lengths_from, defScope s_lengths_from, [], []⟩
def d_ends_at : He.DefD := ⟨("ends_at", none), "ends_at", "ends_at", defArgs s_ends_at, defBody s_ends_at, defScope s_ends_at, [], []⟩
def d__law_all : He.DefD := ⟨("_law_all", none), "_law_all", "_law_all", defArgs s__law_all, defBody s__law_all, defScope s__law_all, [], []⟩
def d__law_longest : He.DefD := ⟨("_law_longest", none), "_law_longest", "_law_longest", defArgs s__law_longest, defBody s__law_longest, defScope s__law_longest, [], []⟩
def d__law_is : He.DefD := ⟨("_law_is", none), "_law_is", "_law_is", defArgs s__law_is, defBody s__law_is, defScope s__law_is, [], []⟩
def d_longest_of : He.DefD := ⟨("longest_of", none), "longest_of", "longest_of", defArgs s_longest_of, defBody s_longest_of, defScope s_longest_of, [], []⟩
def d_rising_positions : He.DefD := ⟨("rising_positions", none), "rising_positions", "rising_positions", defArgs s_rising_positions, defBody s_rising_positions, defScope s_rising_positions, [], []⟩
def d_falling_positions : He.DefD := ⟨("falling_positions", none), "falling_positions", "falling_positions", defArgs s_falling_positions, defBody s_falling_positions, defScope s_falling_positions, [], []⟩
def d_reversed_of : He.DefD := ⟨("reversed_of", none), "reversed_of", "reversed_of", defArgs s_reversed_of, defBody s_reversed_of, defScope s_reversed_of, [], []⟩
def d_turned_back : He.DefD := ⟨("turned_back", none), "turned_back", "turned_back", defArgs s_turned_back, defBody s_turned_back, defScope s_turned_back, [], []⟩
def d_over_of : He.DefD := ⟨("over_of", none), "over_of", "over_of", defArgs s_over_of, defBody s_over_of, defScope s_over_of, [], []⟩
def d_turned_over : He.DefD := ⟨("turned_over", none), "turned_over", "turned_over", defArgs s_turned_over, defBody s_turned_over, defScope s_turned_over, [], []⟩
def d_undone_of : He.DefD := ⟨("undone_of", none), "undone_of", "undone_of", defArgs s_undone_of, defBody s_undone_of, defScope s_undone_of, [], []⟩
def d_undone : He.DefD := ⟨("undone", none), "undone", "undone", defArgs s_undone, defBody s_undone, defScope s_undone, [], []⟩
def d__law_right : He.DefD := ⟨("_law_right", none), "_law_right", "_law_right", defArgs s__law_right, defBody s__law_right, defScope s__law_right, [], []⟩
def d__law_pot : He.DefD := ⟨("_law_pot", none), "_law_pot", "_law_pot", defArgs s__law_pot, defBody s__law_pot, defScope s__law_pot, [], []⟩
def d_law : He.DefD := ⟨("law", none), "law", "law", defArgs s_law, defBody s_law, defScope s_law, [], []⟩
def fn : List He.DefD := [d__law_draw, d__law_mixed, d__law_row, d_is_integer, d_is_count, d_is_row_value, d_want_row, d_does_fall, d_does_rise, d_lengths_from, d_ends_at, d__law_all, d__law_longest, d__law_is, d_longest_of, d_rising_positions, d_falling_positions, d_reversed_of, d_turned_back, d_over_of, d_turned_over, d_undone_of, d_undone, d__law_right, d__law_pot, d_law]
def fa : List He.Fa := [.glo "_law_draw", .glo "_law_mixed", .glo "_law_row", .glo "is_integer", .glo "is_count", .glo "is_row_value", .glo "want_row", .glo "does_fall", .glo "does_rise", .glo "lengths_from", .glo "ends_at", .glo "_law_all", .glo "_law_longest", .glo "_law_is", .glo "longest_of", .glo "rising_positions", .glo "falling_positions", .glo "reversed_of", .glo "turned_back", .glo "over_of", .glo "turned_over", .glo "undone_of", .glo "undone", .glo "_law_right", .glo "_law_pot", .glo "law", .free "abs", .free "all", .free "bool", .free "divmod", .free "enumerate", .free "int", .free "isinstance", .free "len", .free "list", .free "max", .free "min", .free "range", .free "set", .free "sorted", .free "str", .free "sum", .free "tuple", .free "zip", .int "MOST_NUMBERS" 9]
abbrev R : PySem.W.OpenRow := PySem.W.OpenLaw.row PySem.Challenge.rw_barredpatterns_k66_whole_longest_rising
abbrev hk : PySem.W.Hook := He.hookD 4 fa fn
def ob (s : PySem.W.SharedT) : He.AlD := He.obsDG 4 fa fn (HandSHeadRun.getT s)
theorem ob_eq (s : PySem.W.SharedT) : ob s = hk.obs s.abs := He.obsDG_eq (HandSHeadRun.getT_eq s)
def loose : List PySem.Str := ["__name__", "RowError", "InvalidRow", "is_integer", "is_count", "MOST_NUMBERS", "is_row_value", "want_row", "undone_of", "reversed_of", "over_of", "undone", "turned_back", "turned_over", "lengths_from", "longest_of", "does_rise", "does_fall", "rising_positions", "falling_positions", "ends_at", "_law_pot", "_law_draw", "_law_pick", "_law_is", "_law_mixed", "_law_like", "_law_row", "_law_all", "_law_longest", "_law_right"]
theorem run (w : World) : HandSHeadRun.RunEq R (PySem.W.view R.prog [35]) hk ob 4000 loose w := by
  intro os
  kernel_rfl
theorem facts {P : Program} {w : World} {K : PySem.W.Frag} {h : Heap} {mg : Str → Option Value} {f : Addr} (X : K.In h) (G : h.Ns mainGlobals mg) (hfa : mg ("law" : Str) = some (.ref f)) (c : He.SaysD fa fn K) :
    ∃ fd : FuncData, (∀ (s : Shared) (v : Value), BindsTo s fd ⟨[v], []⟩ [("script", v)]) ∧ ∀ base : Heap, K.In base → base.Ns mainGlobals mg → FnOk P w K mg base CX0 15 f fd ["script"] (spM K mg m_law 1) := by
  obtain ⟨d0, F0⟩ := c.def_ 0 (d := d__law_draw) rfl
  obtain ⟨d1, F1⟩ := c.def_ 1 (d := d__law_mixed) rfl
  obtain ⟨d2, F2⟩ := c.def_ 2 (d := d__law_row) rfl
  obtain ⟨d3, F3⟩ := c.def_ 3 (d := d_is_integer) rfl
  obtain ⟨d4, F4⟩ := c.def_ 4 (d := d_is_count) rfl
  obtain ⟨d5, F5⟩ := c.def_ 5 (d := d_is_row_value) rfl
  obtain ⟨d6, F6⟩ := c.def_ 6 (d := d_want_row) rfl
  obtain ⟨d7, F7⟩ := c.def_ 7 (d := d_does_fall) rfl
  obtain ⟨d8, F8⟩ := c.def_ 8 (d := d_does_rise) rfl
  obtain ⟨d9, F9⟩ := c.def_ 9 (d := d_lengths_from) rfl
  obtain ⟨d10, F10⟩ := c.def_ 10 (d := d_ends_at) rfl
  obtain ⟨d11, F11⟩ := c.def_ 11 (d := d__law_all) rfl
  obtain ⟨d12, F12⟩ := c.def_ 12 (d := d__law_longest) rfl
  obtain ⟨d13, F13⟩ := c.def_ 13 (d := d__law_is) rfl
  obtain ⟨d14, F14⟩ := c.def_ 14 (d := d_longest_of) rfl
  obtain ⟨d15, F15⟩ := c.def_ 15 (d := d_rising_positions) rfl
  obtain ⟨d16, F16⟩ := c.def_ 16 (d := d_falling_positions) rfl
  obtain ⟨d17, F17⟩ := c.def_ 17 (d := d_reversed_of) rfl
  obtain ⟨d18, F18⟩ := c.def_ 18 (d := d_turned_back) rfl
  obtain ⟨d19, F19⟩ := c.def_ 19 (d := d_over_of) rfl
  obtain ⟨d20, F20⟩ := c.def_ 20 (d := d_turned_over) rfl
  obtain ⟨d21, F21⟩ := c.def_ 21 (d := d_undone_of) rfl
  obtain ⟨d22, F22⟩ := c.def_ 22 (d := d_undone) rfl
  obtain ⟨d23, F23⟩ := c.def_ 23 (d := d__law_right) rfl
  obtain ⟨d24, F24⟩ := c.def_ 24 (d := d__law_pot) rfl
  obtain ⟨d25, F25⟩ := c.def_ 25 (d := d_law) rfl
  obtain ⟨t_MOST_NUMBERS, c_MOST_NUMBERS⟩ := He.int_ok X G (c.fact 44 (f := .int "MOST_NUMBERS" 9) rfl)
  let FX : Fx K mg := {
    f__law_draw := _, d__law_draw := d0, F__law_draw := F0, g__law_draw := He.glo_ok X G (c.fact 0 (f := .glo "_law_draw") rfl)
    f__law_mixed := _, d__law_mixed := d1, F__law_mixed := F1, g__law_mixed := He.glo_ok X G (c.fact 1 (f := .glo "_law_mixed") rfl)
    f__law_row := _, d__law_row := d2, F__law_row := F2, g__law_row := He.glo_ok X G (c.fact 2 (f := .glo "_law_row") rfl)
    f_is_integer := _, d_is_integer := d3, F_is_integer := F3, g_is_integer := He.glo_ok X G (c.fact 3 (f := .glo "is_integer") rfl)
    f_is_count := _, d_is_count := d4, F_is_count := F4, g_is_count := He.glo_ok X G (c.fact 4 (f := .glo "is_count") rfl)
    f_is_row_value := _, d_is_row_value := d5, F_is_row_value := F5, g_is_row_value := He.glo_ok X G (c.fact 5 (f := .glo "is_row_value") rfl)
    f_want_row := _, d_want_row := d6, F_want_row := F6, g_want_row := He.glo_ok X G (c.fact 6 (f := .glo "want_row") rfl)
    f_does_fall := _, d_does_fall := d7, F_does_fall := F7, g_does_fall := He.glo_ok X G (c.fact 7 (f := .glo "does_fall") rfl)
    f_does_rise := _, d_does_rise := d8, F_does_rise := F8, g_does_rise := He.glo_ok X G (c.fact 8 (f := .glo "does_rise") rfl)
    f_lengths_from := _, d_lengths_from := d9, F_lengths_from := F9, g_lengths_from := He.glo_ok X G (c.fact 9 (f := .glo "lengths_from") rfl)
    f_ends_at := _, d_ends_at := d10, F_ends_at := F10, g_ends_at := He.glo_ok X G (c.fact 10 (f := .glo "ends_at") rfl)
    f__law_all := _, d__law_all := d11, F__law_all := F11, g__law_all := He.glo_ok X G (c.fact 11 (f := .glo "_law_all") rfl)
    f__law_longest := _, d__law_longest := d12, F__law_longest := F12, g__law_longest := He.glo_ok X G (c.fact 12 (f := .glo "_law_longest") rfl)
    f__law_is := _, d__law_is := d13, F__law_is := F13, g__law_is := He.glo_ok X G (c.fact 13 (f := .glo "_law_is") rfl)
    f_longest_of := _, d_longest_of := d14, F_longest_of := F14, g_longest_of := He.glo_ok X G (c.fact 14 (f := .glo "longest_of") rfl)
    f_rising_positions := _, d_rising_positions := d15, F_rising_positions := F15, g_rising_positions := He.glo_ok X G (c.fact 15 (f := .glo "rising_positions") rfl)
    f_falling_positions := _, d_falling_positions := d16, F_falling_positions := F16, g_falling_positions := He.glo_ok X G (c.fact 16 (f := .glo "falling_positions") rfl)
    f_reversed_of := _, d_reversed_of := d17, F_reversed_of := F17, g_reversed_of := He.glo_ok X G (c.fact 17 (f := .glo "reversed_of") rfl)
    f_turned_back := _, d_turned_back := d18, F_turned_back := F18, g_turned_back := He.glo_ok X G (c.fact 18 (f := .glo "turned_back") rfl)
    f_over_of := _, d_over_of := d19, F_over_of := F19, g_over_of := He.glo_ok X G (c.fact 19 (f := .glo "over_of") rfl)
    f_turned_over := _, d_turned_over := d20, F_turned_over := F20, g_turned_over := He.glo_ok X G (c.fact 20 (f := .glo "turned_over") rfl)
    f_undone_of := _, d_undone_of := d21, F_undone_of := F21, g_undone_of := He.glo_ok X G (c.fact 21 (f := .glo "undone_of") rfl)
    f_undone := _, d_undone := d22, F_undone := F22, g_undone := He.glo_ok X G (c.fact 22 (f := .glo "undone") rfl)
    f__law_right := _, d__law_right := d23, F__law_right := F23, g__law_right := He.glo_ok X G (c.fact 23 (f := .glo "_law_right") rfl)
    f__law_pot := _, d__law_pot := d24, F__law_pot := F24, g__law_pot := He.glo_ok X G (c.fact 24 (f := .glo "_law_pot") rfl)
    f_law := _, d_law := d25, F_law := F25, g_law := He.glo_ok X G (c.fact 25 (f := .glo "law") rfl)
    n_abs := He.free_ok X G (c.fact 26 (f := .free "abs") rfl)
    n_all := He.free_ok X G (c.fact 27 (f := .free "all") rfl)
    n_bool := He.free_ok X G (c.fact 28 (f := .free "bool") rfl)
    n_divmod := He.free_ok X G (c.fact 29 (f := .free "divmod") rfl)
    n_enumerate := He.free_ok X G (c.fact 30 (f := .free "enumerate") rfl)
    n_int := He.free_ok X G (c.fact 31 (f := .free "int") rfl)
    n_isinstance := He.free_ok X G (c.fact 32 (f := .free "isinstance") rfl)
    n_len := He.free_ok X G (c.fact 33 (f := .free "len") rfl)
    n_list := He.free_ok X G (c.fact 34 (f := .free "list") rfl)
    n_max := He.free_ok X G (c.fact 35 (f := .free "max") rfl)
    n_min := He.free_ok X G (c.fact 36 (f := .free "min") rfl)
    n_range := He.free_ok X G (c.fact 37 (f := .free "range") rfl)
    n_set := He.free_ok X G (c.fact 38 (f := .free "set") rfl)
    n_sorted := He.free_ok X G (c.fact 39 (f := .free "sorted") rfl)
    n_str := He.free_ok X G (c.fact 40 (f := .free "str") rfl)
    n_sum := He.free_ok X G (c.fact 41 (f := .free "sum") rfl)
    n_tuple := He.free_ok X G (c.fact 42 (f := .free "tuple") rfl)
    n_zip := He.free_ok X G (c.fact 43 (f := .free "zip") rfl)
    t_MOST_NUMBERS := t_MOST_NUMBERS, c_MOST_NUMBERS := c_MOST_NUMBERS
  }
  have e := hfa.symm.trans FX.g_law
  cases e
  have b := FunD.bindsA (ps := ["script"]) FX.F_law fun _ _ _ _ _ _ us hl => match us, hl with | [_], _ => rfl
  exact ⟨FX.d_law, fun s v => b s [v] rfl, fun base _ _ => ok_law FX⟩
theorem rol {K : PySem.W.Frag} {H : Hp} {a : Addr} {xs : List V} (hO : Only H) (hS : SqL K H a xs) : RoL K H a xs := by
  rcases hS with (hS | hS) | hS
  · rcases hO a with z | ⟨o, ys, z⟩
    · rw [hS] at z; cases z
    · rw [hS] at z; cases z
  · exact .inl hS
  · exact .inr hS
end K66
open PySem PySem.W PySem.Calls PyProof.Rows
theorem K66.holds (plain : ∀ ns : List Int, ns.length ≤ 63 → ∃ h', K66.m_law [.ro (ns.map G.W.int)] .empty = some (.bl true, h')) : PySem.Challenge.rw_barredpatterns_k66_whole_longest_rising.Holds := by
  w_on; o_law
  refine HandSHeadRun.head_any (r := OpenLaw.row PySem.Challenge.rw_barredpatterns_k66_whole_longest_rising) (q := view (OpenLaw.row PySem.Challenge.rw_barredpatterns_k66_whole_longest_rising).prog [35]) (H := K66.hk) (ob := K66.ob) (M := 4000) (loose := K66.loose) (d := HandSHeadRun.topDef (OpenLaw.row PySem.Challenge.rw_barredpatterns_k66_whole_longest_rising).prog 35) (kwd := []) K66.ob_eq
    (by kernel_rfl) (fun s => by kernel_rfl) K66.run (by kernel_rfl) (by kernel_rfl) (by kernel_rfl) (by rfl) (by first | assumption | decide +kernel) (by decide +kernel) ⟨rfl, rfl, rfl, rfl, rfl, by decide +kernel⟩ ?hw ?hc
  case hw => w_witness2
  case hc =>
    refine L2.walk_ofE (l := PySem.Challenge.rw_barredpatterns_k66_whole_longest_rising) (n := 63) (k := 15) (x := "script") (CX := L2.CX0) rfl (by decide) (by kernel_rfl) ⟨rfl, by decide, by decide⟩ ?F (fun _ _ _ _ z => z)
    intro w mg fa h Y G hmg0
    obtain ⟨K, KX, c⟩ := Y
    have hmg : mg ("law" : PySem.Str) = some (.ref fa) := by
      have e : (HandSHeadRun.topDef (OpenLaw.row PySem.Challenge.rw_barredpatterns_k66_whole_longest_rising).prog 35).name = ("law" : PySem.Str) := by kernel_rfl
      rw [← e]
      exact hmg0
    obtain ⟨fd, hb, hF⟩ := K66.facts (P := (PySem.Challenge.rw_barredpatterns_k66_whole_longest_rising).prog) (w := w) KX G hmg c
    exact ⟨K, fd, _root_.G.spM K mg K66.m_law 1, KX, hb, fun H a ns hl hO hS => _root_.G.law_sp plain hl (K66.rol hO hS), hF⟩

set_option Elab.async false
set_option linter.all false
set_option maxRecDepth 100000
set_option maxHeartbeats 1000000
namespace K66
open PySem PySem.Spec PyProof.Rows L2 G
theorem draw_spec {h : Hm} {i : Nat} {a b s : Int} (hg : h.get i = some (.lst [.int a, .int b])) (hs : 0 < s) (hs2 : s < 1073741824) (ha : 0 ≤ a) (hb : 0 ≤ b) (hb2 : b < 2147483648) :
    ∃ d a' b' : Int, 0 ≤ d ∧ d < s ∧ 0 ≤ a' ∧ 0 ≤ b' ∧ b' < 2147483648 ∧ m__law_draw [.loc i, .int s] h = some (.int d, h.set i (.lst [.int a', .int b'])) := by
  have e := hl_of hg
  by_cases h0 : 0 < a
  · refine ⟨a % s, a / s, b, Int.emod_nonneg _ (by omega), Int.emod_lt_of_pos _ hs, Int.ediv_nonneg ha (by omega), hb, hb2, ?_⟩
    refine e_def (e_seqR (e_ifT (h' := h) ?_ ?_))
    · rw [← decide_eq_true h0]
      (repeat first | exact e_next | exact e_c | exact e_nil | exact e_hN | exact e_yes | exact o_gt | exact o_lt | exact o_le | exact o_ge | exact o_sub | exact o_add | exact o_int | exact o_lenT | exact o_lenF | exact o_lenO | exact o_tupT | exact o_tupF | exact e_hL0 | exact e_var rfl | refine o_mod (by first | omega | assumption) | refine o_div (by first | omega | assumption | exact ⟨by omega, by omega⟩) | refine o_divmod ⟨by omega, by omega⟩ | refine o_ixL0 (by assumption) | refine o_ixL1 (by assumption) | refine o_ixL0 (hl_set (by assumption)) | refine o_ixL1 (hl_set (by assumption)) | refine e_hSub0 (e_var rfl) e_c (by assumption) | refine e_hSub1 (e_var rfl) e_c (by assumption) | refine o_lenL (by assumption) | refine o_tupL (by assumption) | refine o_mulL (by omega) | refine o_mul (by omega) | apply e_seq | apply e_set | apply e_ret | apply e_drop | apply e_par | apply e_par3 | apply e_asg | apply e_hT | apply e_hL1 | apply e_op2 | apply e_app | apply e_appK | apply e_cons | apply e_tb | apply e_not | apply e_neg | apply e_notV | apply e_tup | apply e_lstF | apply e_lstT | (show (_ : Nat) < 100000; simp; done))
    · (repeat first | exact e_next | exact e_c | exact e_nil | exact e_hN | exact e_yes | exact o_gt | exact o_lt | exact o_le | exact o_ge | exact o_sub | exact o_add | exact o_int | exact o_lenT | exact o_lenF | exact o_lenO | exact o_tupT | exact o_tupF | exact e_hL0 | exact e_var rfl | refine o_mod (by first | omega | assumption) | refine o_div (by first | omega | assumption | exact ⟨by omega, by omega⟩) | refine o_divmod ⟨by omega, by omega⟩ | refine o_ixL0 (by assumption) | refine o_ixL1 (by assumption) | refine o_ixL0 (hl_set (by assumption)) | refine o_ixL1 (hl_set (by assumption)) | refine e_hSub0 (e_var rfl) e_c (by assumption) | refine e_hSub1 (e_var rfl) e_c (by assumption) | refine o_lenL (by assumption) | refine o_tupL (by assumption) | refine o_mulL (by omega) | refine o_mul (by omega) | apply e_seq | apply e_set | apply e_ret | apply e_drop | apply e_par | apply e_par3 | apply e_asg | apply e_hT | apply e_hL1 | apply e_op2 | apply e_app | apply e_appK | apply e_cons | apply e_tb | apply e_not | apply e_neg | apply e_notV | apply e_tup | apply e_lstF | apply e_lstT | (show (_ : Nat) < 100000; simp; done))
  · have e0 : a = 0 := by omega
    subst e0
    have q1 : 0 ≤ (b * 40709 + 8623) % 2147483587 := Int.emod_nonneg _ (by omega)
    have q2 : (b * 40709 + 8623) % 2147483587 < 2147483587 := Int.emod_lt_of_pos _ (by omega)
    refine ⟨((b * 40709 + 8623) % 2147483587) * ((b * 40709 + 8623) % 2147483587) % 2147483629 / 23 % s, 0, (b * 40709 + 8623) % 2147483587, Int.emod_nonneg _ (by omega), Int.emod_lt_of_pos _ hs, by omega, q1, by omega, ?_⟩
    refine e_def (e_seq (e_ifF (h' := h) ?_ e_next) ?_)
    · rw [← decide_eq_false h0]
      (repeat first | exact e_next | exact e_c | exact e_nil | exact e_hN | exact e_yes | exact o_gt | exact o_lt | exact o_le | exact o_ge | exact o_sub | exact o_add | exact o_int | exact o_lenT | exact o_lenF | exact o_lenO | exact o_tupT | exact o_tupF | exact e_hL0 | exact e_var rfl | refine o_mod (by first | omega | assumption) | refine o_div (by first | omega | assumption | exact ⟨by omega, by omega⟩) | refine o_divmod ⟨by omega, by omega⟩ | refine o_ixL0 (by assumption) | refine o_ixL1 (by assumption) | refine o_ixL0 (hl_set (by assumption)) | refine o_ixL1 (hl_set (by assumption)) | refine e_hSub0 (e_var rfl) e_c (by assumption) | refine e_hSub1 (e_var rfl) e_c (by assumption) | refine o_lenL (by assumption) | refine o_tupL (by assumption) | refine o_mulL (by omega) | refine o_mul (by omega) | apply e_seq | apply e_set | apply e_ret | apply e_drop | apply e_par | apply e_par3 | apply e_asg | apply e_hT | apply e_hL1 | apply e_op2 | apply e_app | apply e_appK | apply e_cons | apply e_tb | apply e_not | apply e_neg | apply e_notV | apply e_tup | apply e_lstF | apply e_lstT | (show (_ : Nat) < 100000; simp; done))
    · (repeat first | exact e_next | exact e_c | exact e_nil | exact e_hN | exact e_yes | exact o_gt | exact o_lt | exact o_le | exact o_ge | exact o_sub | exact o_add | exact o_int | exact o_lenT | exact o_lenF | exact o_lenO | exact o_tupT | exact o_tupF | exact e_hL0 | exact e_var rfl | refine o_mod (by first | omega | assumption) | refine o_div (by first | omega | assumption | exact ⟨by omega, by omega⟩) | refine o_divmod ⟨by omega, by omega⟩ | refine o_ixL0 (by assumption) | refine o_ixL1 (by assumption) | refine o_ixL0 (hl_set (by assumption)) | refine o_ixL1 (hl_set (by assumption)) | refine e_hSub0 (e_var rfl) e_c (by assumption) | refine e_hSub1 (e_var rfl) e_c (by assumption) | refine o_lenL (by assumption) | refine o_tupL (by assumption) | refine o_mulL (by omega) | refine o_mul (by omega) | apply e_seq | apply e_set | apply e_ret | apply e_drop | apply e_par | apply e_par3 | apply e_asg | apply e_hT | apply e_hL1 | apply e_op2 | apply e_app | apply e_appK | apply e_cons | apply e_tb | apply e_not | apply e_neg | apply e_notV | apply e_tup | apply e_lstF | apply e_lstT | (show (_ : Nat) < 100000; simp; done))
end K66

set_option Elab.async false
set_option linter.all false
set_option maxRecDepth 100000
set_option maxHeartbeats 1000000
/-! longest chains: plain -/
namespace K66
open G
section
variable (r : Int → Int → Bool)
def okL : Option Int → Int → Bool
  | none, _ => true
  | some y, x => r y x
def bestO : Option Int → List Int → Nat
  | _, [] => 0
  | l, x :: xs => max (if okL r l x then 1 + bestO (some x) xs else 0) (bestO l xs)
/-- the greedy one -/
def gr : Option Int → Nat → List Int → List Nat
  | _, _, [] => []
  | l, k, x :: xs => if okL r l x && (1 + bestO r (some x) xs == bestO r l (x :: xs)) then k :: gr (some x) (k + 1) xs else gr l (k + 1) xs
def chs : Option Int → Nat → List Int → List (List Nat)
  | _, _, [] => [[]]
  | l, k, x :: xs => (if okL r l x then (chs (some x) (k + 1) xs).map (k :: ·) else []) ++ chs l (k + 1) xs
end
section
variable {r : Int → Int → Bool}
theorem chs_le : ∀ {xs : List Int} {l : Option Int} {k : Nat} {c : List Nat}, c ∈ chs r l k xs → c.length ≤ bestO r l xs ∧ ∀ i ∈ c, k ≤ i
  | [], l, k, c, h => by
    have : c = [] := by simpa [chs] using h
    subst this
    exact ⟨Nat.zero_le _, fun i hi => by cases hi⟩
  | x :: xs, l, k, c, h => by
    unfold chs at h
    unfold bestO
    rcases List.mem_append.mp h with h | h
    · split at h
      · rename_i hk
        obtain ⟨c', hc, rfl⟩ := List.mem_map.mp h
        obtain ⟨a, b⟩ := chs_le hc
        rw [if_pos hk]
        refine ⟨?_, fun i hi => ?_⟩
        · rw [List.length_cons]; omega
        · rcases List.mem_cons.mp hi with rfl | hi
          · exact Nat.le_refl _
          · have := b i hi; omega
      · cases h
    · obtain ⟨a, b⟩ := chs_le h
      exact ⟨by omega, fun i hi => by have := b i hi; omega⟩
theorem gr_mem : ∀ {xs : List Int} {l : Option Int} {k : Nat}, gr r l k xs ∈ chs r l k xs ∧ (gr r l k xs).length = bestO r l xs
  | [], l, k => by simp [gr, chs, bestO]
  | x :: xs, l, k => by
    unfold gr
    by_cases hc : (okL r l x && (1 + bestO r (some x) xs == bestO r l (x :: xs))) = true
    · rw [if_pos hc]
      rw [Bool.and_eq_true] at hc
      obtain ⟨h1, h2⟩ := gr_mem (xs := xs) (l := some x) (k := k + 1)
      refine ⟨?_, ?_⟩
      · unfold chs
        rw [if_pos hc.1]
        exact List.mem_append.mpr (.inl (List.mem_map_of_mem h1))
      · rw [List.length_cons, h2]
        have := eq_of_beq hc.2
        omega
    · rw [if_neg hc]
      obtain ⟨h1, h2⟩ := gr_mem (xs := xs) (l := l) (k := k + 1)
      refine ⟨?_, ?_⟩
      · unfold chs
        exact List.mem_append.mpr (.inr h1)
      · rw [h2]
        by_cases ho : okL r l x = true
        · rw [ho, Bool.true_and] at hc
          have hne : 1 + bestO r (some x) xs ≠ bestO r l (x :: xs) := fun e => hc (by rw [e]; exact beq_self_eq_true _)
          have e : bestO r l (x :: xs) = max (1 + bestO r (some x) xs) (bestO r l xs) := by
            rw [bestO, if_pos ho]
          omega
        · rw [bestO, if_neg ho]; simp
def lexN : List Nat → List Nat → Bool
  | [], _ => true
  | _ :: _, [] => false
  | x :: xs, y :: ys => if x = y then lexN xs ys else decide (x < y)
theorem gr_least : ∀ {xs : List Int} {l : Option Int} {k : Nat} {c : List Nat}, c ∈ chs r l k xs → c.length = bestO r l xs → lexN (gr r l k xs) c = true
  | [], l, k, c, h, _ => rfl
  | x :: xs, l, k, c, h, hl => by
    unfold gr
    unfold chs at h
    by_cases hc : (okL r l x && (1 + bestO r (some x) xs == bestO r l (x :: xs))) = true
    · rw [if_pos hc]
      rw [Bool.and_eq_true] at hc
      have he := eq_of_beq hc.2
      rcases List.mem_append.mp h with h | h
      · rw [if_pos hc.1] at h
        obtain ⟨c', hc', rfl⟩ := List.mem_map.mp h
        unfold lexN
        rw [if_pos rfl]
        rw [List.length_cons] at hl
        exact gr_least hc' (by omega)
      · cases c with
        | nil => rw [List.length_nil] at hl; omega
        | cons i c =>
          have hk := (chs_le h).2 i (by simp)
          unfold lexN
          rw [if_neg (by omega)]
          exact decide_eq_true (by omega)
    · rw [if_neg hc]
      rcases List.mem_append.mp h with h | h
      · split at h
        · rename_i ho
          obtain ⟨c', hc', rfl⟩ := List.mem_map.mp h
          have := (chs_le hc').1
          rw [List.length_cons] at hl
          rw [ho, Bool.true_and] at hc
          have hne : 1 + bestO r (some x) xs ≠ bestO r l (x :: xs) := fun e => hc (by rw [e]; exact beq_self_eq_true _)
          have e : bestO r l (x :: xs) = max (1 + bestO r (some x) xs) (bestO r l xs) := by rw [bestO, if_pos ho]
          omega
        · cases h
      · refine gr_least h ?_
        have := (chs_le h).1
        have e : bestO r l xs ≤ bestO r l (x :: xs) := by rw [bestO]; omega
        omega
theorem lexN_anti : ∀ {a b : List Nat}, lexN a b = true → lexN b a = true → a = b
  | [], [], _, _ => rfl
  | [], _ :: _, _, h => by cases h
  | _ :: _, [], h, _ => by cases h
  | x :: xs, y :: ys, h, g => by
    unfold lexN at h g
    by_cases e : x = y
    · subst e
      rw [if_pos rfl] at h g
      rw [lexN_anti h g]
    · rw [if_neg e] at h
      rw [if_neg (Ne.symm e)] at g
      have a := of_decide_eq_true h
      have b := of_decide_eq_true g
      omega
/-! chains as positions -/
def Tr (r : Int → Int → Bool) : Prop := ∀ x y z, r x y = true → r y z = true → r x z = true
structure Ch (r : Int → Int → Bool) (p : List Int) (a b : Nat) (l : Option Int) (c : List Nat) : Prop where
  pw : c.Pairwise fun i j => i < j ∧ r (p.getD i 0) (p.getD j 0) = true
  lo : ∀ i ∈ c, a ≤ i ∧ i < b
  ok : ∀ i ∈ c, okL r l (p.getD i 0) = true
theorem ok_tr (T : Tr r) {l : Option Int} {x y : Int} (h : okL r l x = true) (g : r x y = true) : okL r l y = true := by
  cases l with
  | none => rfl
  | some z => exact T _ _ _ h g
theorem chs_iff (T : Tr r) {p : List Int} : ∀ (m k : Nat), p.length - k = m → k ≤ p.length → ∀ (l : Option Int) (c : List Nat), c ∈ chs r l k (p.drop k) ↔ Ch r p k p.length l c
  | 0, k, hm, hk, l, c => by
    have e : k = p.length := by omega
    subst e
    rw [List.drop_length]
    refine ⟨fun h => ?_, fun h => ?_⟩
    · have : c = [] := by simpa [chs] using h
      subst this
      exact ⟨.nil, fun i hi => (by cases hi), fun i hi => (by cases hi)⟩
    · have : c = [] := by
        cases c with
        | nil => rfl
        | cons i c => have := h.lo i (by simp); omega
      subst this
      simp [chs]
  | m + 1, k, hm, hk, l, c => by
    have hlt : k < p.length := by omega
    have ih := chs_iff T (p := p) m (k + 1) (by omega) hlt
    rw [List.drop_eq_getElem_cons hlt]
    have hx : p.getD k 0 = p[k] := by simp [List.getD, hlt]
    unfold chs
    rw [List.mem_append, ih l c]
    refine ⟨fun h => ?_, fun h => ?_⟩
    · rcases h with h | h
      · split at h
        · rename_i ho
          obtain ⟨c', hc, rfl⟩ := List.mem_map.mp h
          have q := (ih _ _).mp hc
          refine ⟨List.pairwise_cons.mpr ⟨fun j hj => ⟨by have := q.lo j hj; omega, by rw [hx]; exact q.ok j hj⟩, q.pw⟩, fun i hi => ?_, fun i hi => ?_⟩
          · rcases List.mem_cons.mp hi with rfl | hi
            · exact ⟨Nat.le_refl _, hlt⟩
            · have := q.lo i hi; omega
          · rcases List.mem_cons.mp hi with rfl | hi
            · rw [hx]; exact ho
            · exact ok_tr T ho (q.ok i hi)
        · cases h
      · exact ⟨h.pw, fun i hi => by have := h.lo i hi; omega, h.ok⟩
    · by_cases hin : k ∈ c
      · refine .inl ?_
        cases c with
        | nil => cases hin
        | cons i c =>
          have hi : i = k := by
            rcases List.mem_cons.mp hin with e | e
            · exact e.symm
            · have := (List.pairwise_cons.mp h.pw).1 k e
              have := h.lo i (by simp)
              omega
          subst hi
          have hp := List.pairwise_cons.mp h.pw
          rw [if_pos (by rw [← hx]; exact h.ok i (by simp))]
          refine List.mem_map_of_mem ((ih _ _).mpr ⟨hp.2, fun j hj => ?_, fun j hj => ?_⟩)
          · have := (hp.1 j hj).1
            have := h.lo j (by simp [hj])
            omega
          · rw [← hx]; exact (hp.1 j hj).2
      · refine .inr ⟨h.pw, fun i hi => ?_, h.ok⟩
        have := h.lo i hi
        have : i ≠ k := fun e => hin (e ▸ hi)
        omega
/-- ends -/
def fl (r : Int → Int → Bool) (x y : Int) : Bool := r y x
theorem take_rev {p : List Int} {k : Nat} (hk : k < p.length) : (p.take (k + 1)).reverse = p.getD k 0 :: (p.take k).reverse := by
  rw [List.take_add_one, List.getElem?_eq_getElem hk, List.reverse_append]
  simp [List.getD, hk]
theorem snoc {P : List Nat → Prop} (c : List Nat) : c = [] ∨ ∃ d i, c = d ++ [i] := by
  rcases List.eq_nil_or_concat c with h | ⟨d, i, h⟩
  · exact .inl h
  · exact .inr ⟨d, i, by rw [h, List.concat_eq_append]⟩
/-- chains below k all of whose numbers go to y -/
structure Cb (r : Int → Int → Bool) (p : List Int) (k : Nat) (l : Option Int) (c : List Nat) : Prop where
  pw : c.Pairwise fun i j => i < j ∧ r (p.getD i 0) (p.getD j 0) = true
  lo : ∀ i ∈ c, i < k
  ok : ∀ i ∈ c, okL (fl r) l (p.getD i 0) = true
theorem cb_best (T : Tr r) {p : List Int} : ∀ (k : Nat), k ≤ p.length → ∀ (l : Option Int), (∀ c, Cb r p k l c → c.length ≤ bestO (fl r) l (p.take k).reverse) ∧ ∃ c, Cb r p k l c ∧ c.length = bestO (fl r) l (p.take k).reverse
  | 0, _, l => by
    refine ⟨fun c h => ?_, [], ⟨.nil, fun i hi => (by cases hi), fun i hi => (by cases hi)⟩, rfl⟩
    cases c with
    | nil => exact Nat.zero_le _
    | cons i c => have := h.lo i (by simp); omega
  | k + 1, hk, l => by
    obtain ⟨a1, c1, b1, e1⟩ := cb_best T (p := p) k (by omega) l
    obtain ⟨a2, c2, b2, e2⟩ := cb_best T (p := p) k (by omega) (some (p.getD k 0))
    rw [take_rev (by omega)]
    unfold bestO
    refine ⟨fun c h => ?_, ?_⟩
    · rcases snoc (P := fun _ => True) c with rfl | ⟨d, i, rfl⟩
      · exact Nat.zero_le _
      · have hpw := List.pairwise_append.mp h.pw
        by_cases hi : i = k
        · subst hi
          have ho := h.ok i (by simp)
          rw [if_pos ho]
          have : Cb r p i (some (p.getD i 0)) d := ⟨hpw.1, fun j hj => (hpw.2.2 j hj i (by simp)).1, fun j hj => (hpw.2.2 j hj i (by simp)).2⟩
          have := a2 d this
          rw [List.length_append]
          simp only [List.length_cons, List.length_nil]
          omega
        · have : Cb r p k l (d ++ [i]) := ⟨h.pw, fun j hj => by
            have := h.lo i (by simp)
            rcases List.mem_append.mp hj with hj | hj
            · have := (hpw.2.2 j hj i (by simp)).1; omega
            · have : j = i := by simpa using hj
              omega, h.ok⟩
          have := a1 _ this
          omega
    · by_cases ho : okL (fl r) l (p.getD k 0) = true
      · rw [if_pos ho]
        by_cases hle : bestO (fl r) l (p.take k).reverse ≤ 1 + bestO (fl r) (some (p.getD k 0)) (p.take k).reverse
        · refine ⟨c2 ++ [k], ⟨?_, fun i hi => ?_, fun i hi => ?_⟩, ?_⟩
          · rw [List.pairwise_append]
            refine ⟨b2.pw, by simp, fun i hi j hj => ?_⟩
            have : j = k := by simpa using hj
            subst this
            exact ⟨b2.lo i hi, b2.ok i hi⟩
          · rcases List.mem_append.mp hi with hi | hi
            · have := b2.lo i hi; omega
            · have : i = k := by simpa using hi
              omega
          · rcases List.mem_append.mp hi with hi | hi
            · have h2 := b2.ok i hi
              cases l with
              | none => rfl
              | some y => exact T _ _ _ (show r (p.getD i 0) (p.getD k 0) = true from h2) ho
            · have : i = k := by simpa using hi
              subst this
              exact ho
          · rw [List.length_append, e2]
            simp only [List.length_cons, List.length_nil]
            omega
        · exact ⟨c1, ⟨b1.pw, fun i hi => by have := b1.lo i hi; omega, b1.ok⟩, by omega⟩
      · rw [if_neg ho]
        exact ⟨c1, ⟨b1.pw, fun i hi => by have := b1.lo i hi; omega, b1.ok⟩, by omega⟩
/-- how long one that ends at k is -/
def endL (r : Int → Int → Bool) (p : List Int) (k : Nat) : Nat := 1 + bestO (fl r) (some (p.getD k 0)) (p.take k).reverse
theorem end_lt {p : List Int} {i : Nat} {l : Option Int} : ∀ (k : Nat), k ≤ p.length → i < k → okL (fl r) l (p.getD i 0) = true → endL r p i ≤ bestO (fl r) l (p.take k).reverse
  | k + 1, hk, hi, ho => by
    rw [take_rev (by omega)]
    unfold bestO
    by_cases e : i = k
    · subst e
      rw [if_pos ho]
      unfold endL
      omega
    · have := end_lt k (by omega) (by omega) ho
      omega
theorem best_rev (T : Tr r) (p : List Int) : bestO (fl r) none p.reverse = bestO r none p := by
  obtain ⟨a, c, b, e⟩ := cb_best T (p := p) p.length (Nat.le_refl _) none
  rw [List.take_length] at a e
  have h1 : (gr r none 0 p).length = bestO r none p := gr_mem.2
  have h2 := (chs_iff T (p := p) p.length 0 (by omega) (Nat.zero_le _) none (gr r none 0 p)).mp gr_mem.1
  have h3 := a _ ⟨h2.pw, fun i hi => (h2.lo i hi).2, fun i hi => rfl⟩
  have h4 := (chs_le ((chs_iff T (p := p) p.length 0 (by omega) (Nat.zero_le _) none c).mpr ⟨b.pw, fun i hi => ⟨Nat.zero_le _, b.lo i hi⟩, fun i hi => rfl⟩)).1
  rw [List.drop_zero] at h4
  omega
/-- chains of two rows -/
theorem best_le (T : Tr r) {r' : Int → Int → Bool} (T' : Tr r') {p q : List Int} (f : ∀ c, Ch r p 0 p.length none c → ∃ d, Ch r' q 0 q.length none d ∧ d.length = c.length) : bestO r none p ≤ bestO r' none q := by
  have h2 := (chs_iff T (p := p) p.length 0 (by omega) (Nat.zero_le _) none (gr r none 0 p)).mp gr_mem.1
  obtain ⟨d, h3, h4⟩ := f _ h2
  have h5 := (chs_le ((chs_iff T' (p := q) q.length 0 (by omega) (Nat.zero_le _) none d).mpr h3)).1
  rw [List.drop_zero] at h5
  rw [h4, gr_mem.2] at h5
  exact h5
theorem best_map {f : Int → Int} : ∀ (xs : List Int) (l : Option Int), bestO r (l.map f) (xs.map f) = bestO (fun x y => r (f x) (f y)) l xs
  | [], _ => rfl
  | x :: xs, l => by
    rw [List.map_cons, bestO, bestO, best_map xs l, ← best_map xs (some x)]
    cases l <;> rfl
theorem gr_map {f : Int → Int} : ∀ (xs : List Int) (l : Option Int) (k : Nat), gr r (l.map f) k (xs.map f) = gr (fun x y => r (f x) (f y)) l k xs
  | [], _, _ => rfl
  | x :: xs, l, k => by
    have e1 := best_map (r := r) (f := f) (x :: xs) l
    have e2 := best_map (r := r) (f := f) xs (some x)
    have e3 := gr_map (f := f) xs (some x) (k + 1)
    have e4 := gr_map (f := f) xs l (k + 1)
    have e5 : okL r (l.map f) (f x) = okL (fun x y => r (f x) (f y)) l x := by cases l <;> rfl
    rw [List.map_cons] at e1
    rw [List.map_cons, gr, gr, e1, e5]
    rw [show (some (f x)) = (some x).map f from rfl, e2, e3, e4]
/-! all chains, from the front -/
def extA (r : Int → Int → Bool) (p : List Int) (F : List (List Nat)) (k : Nat) : List (List Nat) := F ++ (F.filter fun c => c.isEmpty || r (p.getD (c.getLastD 0) 0) (p.getD k 0)).map (· ++ [k])
def allA (r : Int → Int → Bool) (p : List Int) (k : Nat) : List (List Nat) := (List.range k).foldl (extA r p) [[]]
theorem allA_succ {p : List Int} {k : Nat} : allA r p (k + 1) = extA r p (allA r p k) k := by
  unfold allA; rw [List.range_succ, List.foldl_append]; rfl
theorem allA_len {p : List Int} : ∀ k : Nat, (allA r p k).length ≤ 2 ^ k
  | 0 => by simp [allA]
  | k + 1 => by
    have := allA_len (p := p) k
    rw [allA_succ, extA, List.length_append, List.length_map]
    have h2 := List.length_filter_le (fun c : List Nat => c.isEmpty || r (p.getD (c.getLastD 0) 0) (p.getD k 0)) (allA r p k)
    rw [Nat.pow_succ]; omega
structure Cf (r : Int → Int → Bool) (p : List Int) (k : Nat) (c : List Nat) : Prop where
  pw : c.Pairwise fun i j => i < j ∧ r (p.getD i 0) (p.getD j 0) = true
  lo : ∀ i ∈ c, i < k
theorem last_snoc (d : List Nat) (i : Nat) : (d ++ [i]).getLastD 0 = i := by simp
theorem allA_mem (T : Tr r) {p : List Int} : ∀ (k : Nat) (c : List Nat), c ∈ allA r p k ↔ Cf r p k c
  | 0, c => by
    refine ⟨fun h => ?_, fun h => ?_⟩
    · have : c = [] := by simpa [allA] using h
      subst this
      exact ⟨.nil, fun i hi => (by cases hi)⟩
    · have : c = [] := by
        cases c with
        | nil => rfl
        | cons i c => have := h.lo i (by simp); omega
      subst this
      simp [allA]
  | k + 1, c => by
    have ih := allA_mem T (p := p) k
    rw [allA_succ]
    unfold extA
    rw [List.mem_append, ih c]
    refine ⟨fun h => ?_, fun h => ?_⟩
    · rcases h with h | h
      · exact ⟨h.pw, fun i hi => by have := h.lo i hi; omega⟩
      · obtain ⟨d, hd, rfl⟩ := List.mem_map.mp h
        obtain ⟨hd1, hd2⟩ := List.mem_filter.mp hd
        have q := (ih d).mp hd1
        refine ⟨?_, fun i hi => ?_⟩
        · rw [List.pairwise_append]
          refine ⟨q.pw, by simp, fun i hi j hj => ?_⟩
          have ej : j = k := by simpa using hj
          subst ej
          refine ⟨q.lo i hi, ?_⟩
          rcases snoc (P := fun _ => True) d with rfl | ⟨e, l, rfl⟩
          · cases hi
          · rw [last_snoc, Bool.or_eq_true] at hd2
            have hl : r (p.getD l 0) (p.getD j 0) = true := by
              rcases hd2 with z | z
              · simp at z
              · exact z
            rcases List.mem_append.mp hi with hi | hi
            · exact T _ _ _ ((List.pairwise_append.mp q.pw).2.2 i hi l (by simp)).2 hl
            · have : i = l := by simpa using hi
              subst this
              exact hl
        · rcases List.mem_append.mp hi with hi | hi
          · have := q.lo i hi; omega
          · have : i = k := by simpa using hi
            omega
    · rcases snoc (P := fun _ => True) c with rfl | ⟨d, i, rfl⟩
      · exact .inl ⟨.nil, fun i hi => (by cases hi)⟩
      · have hpw := List.pairwise_append.mp h.pw
        by_cases hi : i = k
        · subst hi
          refine .inr (List.mem_map.mpr ⟨d, List.mem_filter.mpr ⟨(ih d).mpr ⟨hpw.1, fun j hj => (hpw.2.2 j hj i (by simp)).1⟩, ?_⟩, rfl⟩)
          rcases snoc (P := fun _ => True) d with rfl | ⟨e, l, rfl⟩
          · rfl
          · rw [last_snoc, (hpw.2.2 l (by simp) i (by simp)).2, Bool.or_true]
        · refine .inl ⟨h.pw, fun j hj => ?_⟩
          have h1 := h.lo i (by simp)
          rcases List.mem_append.mp hj with hj | hj
          · have := (hpw.2.2 j hj i (by simp)).1; omega
          · have : j = i := by simpa using hj
            omega
theorem allA_chs (T : Tr r) {p : List Int} {c : List Nat} : c ∈ allA r p p.length ↔ c ∈ chs r none 0 p := by
  rw [allA_mem T]
  have := chs_iff T (p := p) p.length 0 (by omega) (Nat.zero_le _) none c
  rw [List.drop_zero] at this
  rw [this]
  exact ⟨fun h => ⟨h.pw, fun i hi => ⟨Nat.zero_le _, h.lo i hi⟩, fun i hi => rfl⟩, fun h => ⟨h.pw, fun i hi => (h.lo i hi).2⟩⟩
/-- the longest that end at k -/
theorem end_max (T : Tr r) {p : List Int} {k : Nat} (hk : k < p.length) : (∀ c ∈ allA r p (k + 1), c ≠ [] → c.getLastD 0 = k → c.length ≤ endL r p k) ∧ ∃ c ∈ allA r p (k + 1), c ≠ [] ∧ c.getLastD 0 = k ∧ c.length = endL r p k := by
  obtain ⟨a, c, b, e⟩ := cb_best T (p := p) k (by omega) (some (p.getD k 0))
  refine ⟨fun c h hn hl => ?_, c ++ [k], ?_, by simp, last_snoc _ _, ?_⟩
  · have q := (allA_mem T _ _).mp h
    rcases snoc (P := fun _ => True) c with rfl | ⟨d, i, rfl⟩
    · exact absurd rfl hn
    · rw [last_snoc] at hl
      subst hl
      have hpw := List.pairwise_append.mp q.pw
      have := a d ⟨hpw.1, fun j hj => (hpw.2.2 j hj i (by simp)).1, fun j hj => (hpw.2.2 j hj i (by simp)).2⟩
      unfold endL
      rw [List.length_append]
      simp only [List.length_cons, List.length_nil]
      omega
  · refine (allA_mem T _ _).mpr ⟨?_, fun i hi => ?_⟩
    · rw [List.pairwise_append]
      refine ⟨b.pw, by simp, fun i hi j hj => ?_⟩
      have : j = k := by simpa using hj
      subst this
      exact ⟨b.lo i hi, b.ok i hi⟩
    · rcases List.mem_append.mp hi with hi | hi
      · have := b.lo i hi; omega
      · have : i = k := by simpa using hi
        omega
  · unfold endL
    rw [List.length_append, e]
    simp only [List.length_cons, List.length_nil]
    omega
end
/-! rising, falling -/
def lt (x y : Int) : Bool := decide (x < y)
def gt (x y : Int) : Bool := decide (y < x)
theorem lt_tr : Tr lt := fun x y z h g => decide_eq_true (by have := of_decide_eq_true h; have := of_decide_eq_true g; omega)
theorem gt_tr : Tr gt := fun x y z h g => decide_eq_true (by have := of_decide_eq_true h; have := of_decide_eq_true g; omega)
theorem fl_lt : fl lt = gt := rfl
theorem fl_gt : fl gt = lt := rfl
/-- two ends are not alike -/
theorem ends_ne {p : List Int} {i j : Nat} (hij : i < j) (hj : j < p.length) (hd : p.getD i 0 ≠ p.getD j 0) : (endL lt p i, endL gt p i) ≠ (endL lt p j, endL gt p j) := by
  intro e
  have e1 := congrArg Prod.fst e
  have e2 := congrArg Prod.snd e
  simp only at e1 e2
  by_cases h : p.getD i 0 < p.getD j 0
  · have := end_lt (r := lt) (p := p) (i := i) (l := some (p.getD j 0)) j (by omega) hij (decide_eq_true h)
    rw [e1] at this
    unfold endL at this
    omega
  · have h2 : p.getD j 0 < p.getD i 0 := by omega
    have := end_lt (r := gt) (p := p) (i := i) (l := some (p.getD j 0)) j (by omega) hij (decide_eq_true h2)
    rw [e2] at this
    unfold endL at this
    omega
theorem end_pos {r : Int → Int → Bool} {p : List Int} {i : Nat} : 0 < endL r p i := by unfold endL; omega
theorem end_le {r : Int → Int → Bool} (T : Tr r) {p : List Int} {i : Nat} (hi : i < p.length) : endL r p i ≤ bestO r none p := by
  rw [← best_rev T]
  have := end_lt (r := r) (p := p) (i := i) (l := none) p.length (Nat.le_refl _) hi rfl
  rw [List.take_length] at this
  exact this
def endsL (p : List Int) : List (Nat × Nat) := (List.range p.length).map fun i => (endL lt p i, endL gt p i)
theorem ends_nodup {p : List Int} (hd : ∀ i j, i < j → j < p.length → p.getD i 0 ≠ p.getD j 0) : (endsL p).Nodup := by
  unfold endsL
  rw [List.nodup_iff_pairwise_ne, List.pairwise_map]
  refine List.Pairwise.imp_of_mem (R := fun a b => a < b) (fun {a b} ha hb h => ?_) (List.pairwise_lt_range)
  exact ends_ne h (List.mem_range.mp hb) (hd a b h (List.mem_range.mp hb))
theorem nd_le2 : ∀ (a b : List (Nat × Nat)), a.Nodup → (∀ x ∈ a, x ∈ b) → a.length ≤ b.length
  | [], _, _, _ => Nat.zero_le _
  | x :: a, b, nd, h => by
    rw [List.nodup_cons] at nd
    have hx := h x (by simp)
    have := nd_le2 a (b.erase x) nd.2 fun y hy => (List.mem_erase_of_ne (show y ≠ x from fun z => nd.1 (by rw [← z]; exact hy))).mpr (h y (by simp [hy]))
    rw [List.length_erase_of_mem hx] at this
    have := List.length_pos_of_mem hx
    rw [List.length_cons]; omega
def grid (u d : Nat) : List (Nat × Nat) := (List.range u).flatMap fun a => (List.range d).map fun b => (a + 1, b + 1)
theorem grid_len (u d : Nat) : (grid u d).length = u * d := by
  unfold grid
  induction u with
  | zero => simp
  | succ u ih => rw [List.range_succ, List.flatMap_append, List.length_append, ih]; simp [Nat.succ_mul]
theorem es {p : List Int} (hd : ∀ i j, i < j → j < p.length → p.getD i 0 ≠ p.getD j 0) : p.length ≤ bestO lt none p * bestO gt none p := by
  have h := nd_le2 (endsL p) (grid (bestO lt none p) (bestO gt none p)) (ends_nodup hd) fun x hx => by
    obtain ⟨i, hi, rfl⟩ := List.mem_map.mp hx
    have hi := List.mem_range.mp hi
    have a := end_le lt_tr hi
    have b := end_le gt_tr hi
    have c := end_pos (r := lt) (p := p) (i := i)
    have d := end_pos (r := gt) (p := p) (i := i)
    refine List.mem_flatMap.mpr ⟨endL lt p i - 1, List.mem_range.mpr (by omega), List.mem_map.mpr ⟨endL gt p i - 1, List.mem_range.mpr (by omega), ?_⟩⟩
    rw [Nat.sub_add_cancel c, Nat.sub_add_cancel d]
  rw [grid_len] at h
  simpa [endsL] using h
/-! undone -/
structure Inv2 (p q : List Int) : Prop where
  len : p.length = q.length
  rg : ∀ i, i < p.length → ∃ a : Nat, p.getD i 0 = a ∧ a < p.length ∧ q.getD a 0 = i
theorem undone_lt {p q : List Int} (I : Inv2 p q) (c : List Nat) (h : Ch lt p 0 p.length none c) : ∃ d, Ch lt q 0 q.length none d ∧ d.length = c.length := by
  refine ⟨c.map fun i => (p.getD i 0).toNat, ⟨?_, fun i hi => ?_, fun i hi => rfl⟩, by simp⟩
  · rw [List.pairwise_map]
    refine List.Pairwise.imp_of_mem (fun {i j} hi hj hij => ?_) h.pw
    obtain ⟨a, e1, e2, e3⟩ := I.rg i (h.lo i hi).2
    obtain ⟨b, f1, f2, f3⟩ := I.rg j (h.lo j hj).2
    have := of_decide_eq_true hij.2
    rw [e1, f1] at this ⊢
    simp only [Int.toNat_natCast]
    refine ⟨by omega, decide_eq_true ?_⟩
    rw [e3, f3]; omega
  · obtain ⟨j, hj, rfl⟩ := List.mem_map.mp hi
    obtain ⟨a, e1, e2, e3⟩ := I.rg j (h.lo j hj).2
    rw [e1]
    simp only [Int.toNat_natCast]
    rw [← I.len]
    omega
theorem undone_gt {p q : List Int} (I : Inv2 p q) (c : List Nat) (h : Ch gt p 0 p.length none c) : ∃ d, Ch gt q 0 q.length none d ∧ d.length = c.length := by
  refine ⟨(c.map fun i => (p.getD i 0).toNat).reverse, ⟨?_, fun i hi => ?_, fun i hi => rfl⟩, by simp⟩
  · rw [List.pairwise_reverse, List.pairwise_map]
    refine List.Pairwise.imp_of_mem (fun {i j} hi hj hij => ?_) h.pw
    obtain ⟨a, e1, e2, e3⟩ := I.rg i (h.lo i hi).2
    obtain ⟨b, f1, f2, f3⟩ := I.rg j (h.lo j hj).2
    have := of_decide_eq_true hij.2
    rw [e1, f1] at this ⊢
    simp only [Int.toNat_natCast]
    refine ⟨by omega, decide_eq_true ?_⟩
    rw [e3, f3]; omega
  · obtain ⟨j, hj, rfl⟩ := List.mem_map.mp (List.mem_reverse.mp hi)
    obtain ⟨a, e1, e2, e3⟩ := I.rg j (h.lo j hj).2
    rw [e1]
    simp only [Int.toNat_natCast]
    rw [← I.len]
    omega
theorem Inv2.best_lt {p q : List Int} (I : Inv2 p q) (J : Inv2 q p) : bestO lt none q = bestO lt none p := Nat.le_antisymm (best_le lt_tr lt_tr (undone_lt J)) (best_le lt_tr lt_tr (undone_lt I))
theorem Inv2.best_gt {p q : List Int} (I : Inv2 p q) (J : Inv2 q p) : bestO gt none q = bestO gt none p := Nat.le_antisymm (best_le gt_tr gt_tr (undone_gt J)) (best_le gt_tr gt_tr (undone_gt I))
/-! the lengths from the back -/
def lenF (r : Int → Int → Bool) : List Int → List Nat
  | [] => []
  | x :: xs => (1 + bestO r (some x) xs) :: lenF r xs
theorem lenF_len {r : Int → Int → Bool} : ∀ xs : List Int, (lenF r xs).length = xs.length
  | [] => rfl
  | x :: xs => by rw [lenF, List.length_cons, List.length_cons, lenF_len xs]
def mxN (l : List Nat) : Nat := l.foldr max 0
theorem mxN_lens {r : Int → Int → Bool} (l : Option Int) : ∀ xs : List Int, mxN (((xs.zip (lenF r xs)).filter fun q => okL r l q.1).map (·.2)) = bestO r l xs
  | [] => rfl
  | x :: xs => by
    rw [lenF, List.zip_cons_cons, bestO, ← mxN_lens l xs, List.filter_cons]
    by_cases h : okL r l x = true
    · rw [if_pos h, if_pos h]; rfl
    · rw [if_neg h, if_neg h]; simp
theorem mxN_all {r : Int → Int → Bool} (xs : List Int) : mxN (lenF r xs) = bestO r none xs := by
  rw [← mxN_lens none xs]
  have : ((xs.zip (lenF r xs)).filter fun q => okL r none q.1) = xs.zip (lenF r xs) := List.filter_eq_self.mpr fun _ _ => rfl
  rw [this, List.map_snd_zip (by rw [lenF_len]; exact Nat.le_refl _)]
theorem lenF_get {r : Int → Int → Bool} : ∀ (xs : List Int) (i : Nat), i < xs.length → (lenF r xs)[i]? = some (1 + bestO r (some (xs.getD i 0)) (xs.drop (i + 1)))
  | x :: xs, 0, _ => by simp [lenF]
  | x :: xs, i + 1, h => by
    rw [lenF, List.getElem?_cons_succ, lenF_get xs i (by simpa using h)]
    simp
end K66

set_option Elab.async false
set_option linter.all false
set_option maxRecDepth 100000
set_option maxHeartbeats 1000000
namespace K66
open PySem PySem.Spec PyProof.Rows L2 G PySem.W
abbrev nI (i : Nat) : Int := (i : Int)
def rowW (p : List Int) : W := .tup (p.map W.int)
structure Row (p : List Int) : Prop where
  ex : ∃ l : List Nat, l.Perm (List.range l.length) ∧ p = l.map nI
  le : p.length ≤ 9
theorem Row.mem {p : List Int} (R : Row p) : ∀ x ∈ p, 0 ≤ x ∧ x < p.length := by
  obtain ⟨l, hl, rfl⟩ := R.ex
  intro x hx
  obtain ⟨i, hi, rfl⟩ := List.mem_map.mp hx
  have := List.mem_range.mp (hl.subset hi)
  rw [List.length_map]
  exact ⟨by show 0 ≤ (i : Int); omega, by show (i : Int) < _; omega⟩
theorem Row.nodup {p : List Int} (R : Row p) : p.Nodup := by
  obtain ⟨l, hl, rfl⟩ := R.ex
  have : l.Nodup := hl.symm.nodup List.nodup_range
  rw [List.nodup_iff_pairwise_ne] at this ⊢
  rw [List.pairwise_map]
  exact this.imp fun h e => h (by exact_mod_cast e)
theorem Row.ne {p : List Int} (R : Row p) : ∀ i j, i < j → j < p.length → p.getD i 0 ≠ p.getD j 0 := by
  intro i j hij hj
  have h := List.nodup_iff_pairwise_ne.mp R.nodup
  rw [List.pairwise_iff_getElem] at h
  have := h i j (by omega) hj hij
  simpa [List.getD, hj, show i < p.length by omega] using this
theorem Row.sort {p : List Int} (R : Row p) : srtB leI p = (List.range p.length).map nI := by
  obtain ⟨l, hl, rfl⟩ := R.ex
  have h1 : (srtB leI (l.map nI)).Perm ((List.range (l.map nI).length).map nI) := by
    rw [List.length_map]
    exact (srtB_perm total_leI _).trans (hl.map nI)
  refine h1.eq_of_pairwise (le := fun a b => leI a b = true) (fun a b _ _ h g => ?_) (srtB_pw total_leI _) ?_
  · have := of_decide_eq_true h; have := of_decide_eq_true g; omega
  · rw [List.pairwise_map]
    exact List.Pairwise.imp (R := fun (a b : Nat) => a < b) (fun {a b} h => decide_eq_true (show (a : Int) ≤ (b : Int) by omega)) List.pairwise_lt_range
theorem cld_ints {d : Nat} (p : List Int) : (p.map W.int).all (cld (d + 1)) = true := by
  rw [List.all_map]; exact List.all_eq_true.mpr fun _ _ => rfl
theorem cld_rowW {d : Nat} (p : List Int) : cld (d + 2) (rowW p) = true := cld_ints p
theorem cld_row (p : List Int) : [rowW p].all (cld 20) = true := by
  rw [List.all_cons, cld_rowW]; rfl
theorem count_spec {i : Int} {h : Hm} : cP m_is_count [.int i] h = some (.bl (decide (0 ≤ i)), h) := by rfl
theorem rgW0 (n : Nat) : rgW 0 n = ((List.range n).map nI).map W.int := by
  unfold rgW
  rw [List.map_map]
  simp
theorem okRg0 {n : Nat} (hn : n ≤ 100000) : okRg 0 n = true := by
  unfold okRg okR
  simp; omega
theorem lstRg_eq {own : Bool} {m : MR} {sw : Sw} {h h' : Hm} {a b : Int} (e : m sw h = some (a, b, h')) (ok : okRg a b = true) : mLstRg own m sw h = some (mk own (rgW a b) h') := by
  unfold mLstRg; rw [e]; exact if_pos ok
theorem mR1_eq {m : ME} {sw : Sw} {h h' : Hm} {n : Int} (e : m sw h = some (.int n, h')) : mR1 m sw h = some (0, n, h') := by unfold mR1; rw [e]; rfl
theorem e_lstRgF {m : ME} {sw : Sw} {h h' : Hm} {n : Nat} (e : m sw h = some (.int n, h')) (hn : n ≤ 100000) : mLstRg false (mR1 m) sw h = some (.fl (((List.range n).map nI).map W.int), h') := by
  rw [lstRg_eq (mR1_eq e) (okRg0 hn), rgW0, mk_f]
theorem e_lstRgT {m : ME} {sw : Sw} {h h' : Hm} {n : Nat} (e : m sw h = some (.int n, h')) (hn : n ≤ 100000) : mLstRg true (mR1 m) sw h = some (.loc h'.nx, h'.new (.lst (((List.range n).map nI).map W.int))) := by
  rw [lstRg_eq (mR1_eq e) (okRg0 hn), rgW0, mk_t]
theorem e_it {m : ME} {sw : Sw} {h h' : Hm} {ws : List W} (e : m sw h = some (.tup ws, h')) : mIt m sw h = some (sIt (.tup ws), h') := by unfold mIt; rw [e]; rfl
theorem e_itF {m : ME} {sw : Sw} {h h' : Hm} {ws : List W} (e : m sw h = some (.fl ws, h')) : mIt m sw h = some (sIt (.fl ws), h') := by unfold mIt; rw [e]; rfl
theorem fAll_bls {h : Hm} {bs : List Bool} : fAll (.fl (bs.map W.bl)) h = some (.bl (bs.all id)) := by
  unfold fAll
  have : ∀ bs : List Bool, (bs.map W.bl).mapM blW = some bs := fun bs => by
    induction bs with
    | nil => rfl
    | cons b bs ih => rw [List.map_cons, List.mapM_cons, ih]; rfl
  show ((bs.map W.bl).mapM blW).map _ = _
  rw [this]; rfl
theorem o_all {h : Hm} {bs : List Bool} : o1 fAll [.fl (bs.map W.bl)] h = some (.bl (bs.all id), h) := by
  show (fAll (.fl (bs.map W.bl)) h).map _ = _
  rw [fAll_bls]; rfl
theorem isrow_spec {p : List Int} (R : Row p) {h : Hm} : m_is_row_value [rowW p] h = some (.bl true, h) := by
  have hle := R.le
  refine e_def (e_seq (e_ifF (h' := h) ?_ e_next) (e_ret ?_))
  · refine e_orF (h' := h) (e_not (e_tb (e_isi (e_var rfl) is_tuple_tup))) (e_orF (h' := h) ?_ ?_)
    · have : decide ((9 : Int) < (p.map W.int).length) = false := decide_eq_false (by rw [List.length_map]; omega)
      rw [← this]
      (repeat first | exact e_next | exact e_c | exact e_nil | exact e_hN | exact e_yes | exact o_gt | exact o_lt | exact o_le | exact o_ge | exact o_sub | exact o_add | exact o_int | exact o_lenT | exact o_lenF | exact o_lenO | exact o_tupT | exact o_tupF | exact e_hL0 | exact e_var rfl | refine o_mod (by first | omega | assumption) | refine o_div (by first | omega | assumption | exact ⟨by omega, by omega⟩) | refine o_divmod ⟨by omega, by omega⟩ | refine o_ixL0 (by assumption) | refine o_ixL1 (by assumption) | refine o_ixL0 (hl_set (by assumption)) | refine o_ixL1 (hl_set (by assumption)) | refine e_hSub0 (e_var rfl) e_c (by assumption) | refine e_hSub1 (e_var rfl) e_c (by assumption) | refine o_lenL (by assumption) | refine o_tupL (by assumption) | refine o_mulL (by omega) | refine o_mul (by omega) | apply e_seq | apply e_set | apply e_ret | apply e_drop | apply e_par | apply e_par3 | apply e_asg | apply e_hT | apply e_hL1 | apply e_op2 | apply e_app | apply e_appK | apply e_cons | apply e_tb | apply e_not | apply e_neg | apply e_notV | apply e_tup | apply e_lstF | apply e_lstT | (show (_ : Nat) < 100000; simp; done))
    · refine e_not (q := true) (e_tb (e_app (ws := [.fl ((p.map fun i => decide (0 ≤ i)).map W.bl)]) (h1 := h) (e_cons ?_ e_nil) ?_))
      · have := lc_run (own := false) (vs := [1]) (tg := gN 1) (t := mYes) (m := (mApp (cP m_is_count) (mCons (mVar 1) (mNil)))) (mi := mIt (mVar 0)) (sw := [some (rowW p), none]) (h := h) (p.map W.int) (fun _ => true) (fun w => match w with | .int i => .bl (decide (0 ≤ i)) | w => w) (e_it (e_var rfl)) (fun i w e => (yld_tup (h := h)).1 i w e) (yld_tup (h := h)).2 (fun w hw => ?_) (by rw [List.length_map]; omega)
        · refine Eq.trans this ?_
          rw [List.filter_eq_self.mpr fun _ _ => rfl, List.map_map, List.map_map]; rfl
        · obtain ⟨i, hi, rfl⟩ := List.mem_map.mp hw
          refine ⟨_, rfl, rfl, fun _ => ?_⟩
          refine e_app (e_cons (e_var rfl) e_nil) ?_
          exact count_spec
      · have : (p.map fun i => decide (0 ≤ i)).all id = true := by
          rw [List.all_map]
          exact List.all_eq_true.mpr fun x hx => decide_eq_true (R.mem x hx).1
        rw [o_all, this]
  · have e1 : mApp (oSort2 false) (mCons (mVar 0) mNil) ([rowW p].map some ++ List.replicate (2 - [rowW p].length) none) h = some (.fl ((srtB leI p).map W.int), h) := by
      refine e_app (e_cons (e_var rfl) e_nil) ?_
      exact o_sort_ints iq_tup (by omega)
    refine e_op2 (h2 := h) e1 (e_lstRgF (n := p.length) ?_ (by omega)) ?_
    · have : (p.length : Int) = (p.map W.int).length := by rw [List.length_map]
      rw [this]
      (repeat first | exact e_next | exact e_c | exact e_nil | exact e_hN | exact e_yes | exact o_gt | exact o_lt | exact o_le | exact o_ge | exact o_sub | exact o_add | exact o_int | exact o_lenT | exact o_lenF | exact o_lenO | exact o_tupT | exact o_tupF | exact e_hL0 | exact e_var rfl | refine o_mod (by first | omega | assumption) | refine o_div (by first | omega | assumption | exact ⟨by omega, by omega⟩) | refine o_divmod ⟨by omega, by omega⟩ | refine o_ixL0 (by assumption) | refine o_ixL1 (by assumption) | refine o_ixL0 (hl_set (by assumption)) | refine o_ixL1 (hl_set (by assumption)) | refine e_hSub0 (e_var rfl) e_c (by assumption) | refine e_hSub1 (e_var rfl) e_c (by assumption) | refine o_lenL (by assumption) | refine o_tupL (by assumption) | refine o_mulL (by omega) | refine o_mul (by omega) | apply e_seq | apply e_set | apply e_ret | apply e_drop | apply e_par | apply e_par3 | apply e_asg | apply e_hT | apply e_hL1 | apply e_op2 | apply e_app | apply e_appK | apply e_cons | apply e_tb | apply e_not | apply e_neg | apply e_notV | apply e_tup | apply e_lstF | apply e_lstT | (show (_ : Nat) < 100000; simp; done))
    · rw [o_eq_fl, R.sort]; simp
theorem want_spec {p : List Int} (R : Row p) {h : Hm} : m_want_row [rowW p] h = some (.non, h) := by
  refine e_defN (sw := _) (e_ifF (h' := h) (e_not (q := true) (e_tb (e_app (e_cons (e_var rfl) e_nil) (cP_of ?_ (isrow_spec R) rfl h)))) e_next)
  exact cld_row p
end K66

set_option Elab.async false
set_option linter.all false
set_option maxRecDepth 10000
set_option maxHeartbeats 400000
namespace K66
open PySem PySem.Spec PyProof.Rows L2 G PySem.W
def nW (x : Nat) : W := .int (x : Int)
theorem gd {l : List Nat} {i x : Nat} (e : l[i]? = some x) : l.getD i 0 = x := by rw [List.getD_eq_getElem?_getD, e]; rfl
theorem nW_map (l : List Nat) : l.map nW = (l.map nI).map W.int := by rw [List.map_map]; rfl
theorem zip_rg (xs : List Int) (ls : List Nat) (h : xs.length = ls.length) : xs.zip ls = (List.range xs.length).map fun i => (xs.getD i 0, ls.getD i 0) := by
  apply List.ext_getElem
  · simp; omega
  · intro i h1 h2
    simp at h1 h2
    simp [List.getD, show i < xs.length by omega, show i < ls.length by omega]
theorem filt_rg (xs : List Int) (ls : List Nat) (g : Int → Bool) (h : xs.length = ls.length) : ((List.range xs.length).filter fun i => g (xs.getD i 0)).map (fun i => ls.getD i 0) = ((xs.zip ls).filter fun q => g q.1).map (·.2) := by
  rw [zip_rg xs ls h, List.filter_map, List.map_map]
  rfl
theorem fold_max : ∀ (S : List Nat) (a : Nat), (S.map nI).foldl (fun a b => if a < b then b else a) (nI a) = nI (max a (mxN S))
  | [], a => by simp [mxN]
  | s :: S, a => by
    rw [List.map_cons, List.foldl_cons]
    have : (if nI a < nI s then nI s else nI a) = nI (max a s) := by
      split
      · rename_i h; have : (a : Int) < s := h; rw [Nat.max_eq_right (by omega)]
      · rename_i h; have : ¬ (a : Int) < s := h; rw [Nat.max_eq_left (by omega)]
    rw [this, fold_max S]
    show nI _ = nI (max a (max s (mxN S)))
    rw [Nat.max_assoc]
theorem fMax_ints {h : Hm} (is : List Int) (m : Int) (e : maxI is = some m) : o1 fMax [.fl (is.map W.int)] h = some (.int m, h) := by
  show (fMax (.fl (is.map W.int)) h).map _ = _
  have : fMax (.fl (is.map W.int)) h = some (.int m) := by
    show ((intsW (is.map W.int)).bind fun is => (maxI is).map W.int) = _
    rw [show intsW (is.map W.int) = some is from intsM _]
    show (maxI is).map W.int = _
    rw [e]; rfl
  rw [this]; rfl
theorem o_max0 {h : Hm} (S : List Nat) : o1 fMax [.fl (W.int 0 :: S.map nW)] h = some (.int (nI (mxN S)), h) := by
  rw [show (W.int 0 :: S.map nW) = (0 :: S.map nI).map W.int by rw [List.map_cons, ← nW_map]]
  refine fMax_ints _ _ ?_
  show some ((S.map nI).foldl (fun a b => if a < b then b else a) (nI 0)) = _
  rw [fold_max S 0, Nat.zero_max]
/-- a def of two numbers held by a name -/
structure Held2 (f : PySem.Str) (r : Int → Int → Bool) : Prop where
  ex : ∃ o, Mv f = some o ∧ ∀ (x y : Int) (h : Hm), o [.int x, .int y] h = some (.bl (r x y), h)
theorem held_rise : Held2 "does_rise" lt := ⟨_, by rfl, fun x y h => by rfl⟩
theorem held_fall : Held2 "does_fall" gt := ⟨_, by rfl, fun x y h => by rfl⟩
theorem e_callG {f : PySem.Str} {r : Int → Int → Bool} (H : Held2 f r) {i : Nat} {ma : MA} {sw : Sw} {h h' : Hm} {x y : Int} (e1 : sw[i]? = some (some (.fn f))) (e2 : ma sw h = some ([.int x, .int y], h')) : mCallG i 2 Mv ma sw h = some (.bl (r x y), h') := by
  obtain ⟨o, e3, e4⟩ := H.ex
  unfold mCallG
  rw [e1]
  show (Mv f).bind _ = _
  rw [e3]
  show (ma sw h).bind _ = _
  rw [e2]
  exact e4 x y h'
theorem getW {p : List Int} {i : Nat} (hi : i < p.length) : (p.map W.int)[i]? = some (.int (p.getD i 0)) := by
  rw [List.getElem?_map, List.getElem?_eq_getElem hi]; simp [List.getD, hi]
theorem o_ixRow {p : List Int} {i : Nat} {h : Hm} (hi : i < p.length) : oIx (rowW p) (.int (i : Int)) h = some (.int (p.getD i 0), h) := o_ixT (ix_pos rfl (by rw [List.length_map]; exact hi)) (getW hi)
theorem o_lenRow {p : List Int} {h : Hm} : oLen [rowW p] h = some (.int (p.length : Int), h) := by
  have : oLen [rowW p] h = some (.int ((p.map W.int).length : Int), h) := rfl
  rw [this, List.length_map]
section
variable {f : PySem.Str} {r : Int → Int → Bool}
def fnd (r : Int → Int → Bool) (p : List Int) (k : Nat) : List Nat := List.replicate k 1 ++ lenF r (p.drop k)
theorem fnd_len {p : List Int} {k : Nat} (hk : k ≤ p.length) : (fnd r p k).length = p.length := by
  unfold fnd; rw [List.length_append, List.length_replicate, lenF_len, List.length_drop]; omega
theorem fnd_get {p : List Int} {k j : Nat} (hj : k + j < p.length) : (fnd r p k)[k + j]? = some ((lenF r (p.drop k)).getD j 0) := by
  unfold fnd
  rw [List.getElem?_append_right (by simp), List.length_replicate]
  have : j < (lenF r (p.drop k)).length := by rw [lenF_len, List.length_drop]; omega
  rw [show k + j - k = j by omega, List.getElem?_eq_getElem this]
  simp [List.getD, this]
def sm (r : Int → Int → Bool) (p : List Int) (k : Nat) : List Nat := (((p.drop (k + 1)).zip (lenF r (p.drop (k + 1)))).filter fun q => okL r (some (p.getD k 0)) q.1).map (·.2)
theorem fnd_set {p : List Int} {k : Nat} (hk : k < p.length) : (fnd r p (k + 1)).set k (1 + mxN (sm r p k)) = fnd r p k := by
  unfold fnd sm
  rw [mxN_lens, List.drop_eq_getElem_cons hk, lenF, List.set_append_left _ _ (by simp)]
  have : (List.replicate (k + 1) 1).set k (1 + bestO r (some (p.getD k 0)) (p.drop (k + 1))) = List.replicate k 1 ++ [1 + bestO r (some (p.getD k 0)) (p.drop (k + 1))] := by
    rw [List.replicate_succ']
    rw [List.set_append_right _ _ (by simp)]
    simp
  rw [this, List.append_assoc]
  have hx : p.getD k 0 = p[k] := by simp [List.getD, hk]
  rw [hx]; rfl
theorem drop_getD (p : List Int) (k j : Nat) : (p.drop k).getD j 0 = p.getD (k + j) 0 := by simp [List.getD]
theorem okR_small {z : Int} (h1 : -100 ≤ z) (h2 : z ≤ 100) : okR z = true := by
  unfold okR
  rw [decide_eq_true (show -(2 ^ 62) ≤ z by omega), decide_eq_true (show z < 2 ^ 62 by omega)]; rfl
theorem e_rg2 {ma : MA} {sw : Sw} {h h' : Hm} {a b : Int} (e : ma sw h = some ([.int a, .int b], h')) (ha : okR a = true) (hb : okR b = true) : mRg2 ma sw h = some (sRg a 1 (b - a).toNat, h') := by
  unfold mRg2; rw [e]
  show (if (okR a && okR b) = true then some (sRg a 1 (b - a).toNat, h') else none) = _
  rw [ha, hb]; rfl
theorem e_rg1 {ma : MA} {sw : Sw} {h h' : Hm} {b : Int} (e : ma sw h = some ([.int b], h')) (hb : okR b = true) : mRg1 ma sw h = some (sRg 0 1 b.toNat, h') := by
  unfold mRg1; rw [e]
  show (if okR b = true then some (sRg 0 1 b.toNat, h') else none) = _
  rw [hb]; rfl
theorem e_rgD {ma : MA} {sw : Sw} {h h' : Hm} {a b : Int} (e : ma sw h = some ([.int a, .int b, .int (-1)], h')) (ha : okR a = true) (hb : okR b = true) : mRgD ma sw h = some (sRg a (-1) (a - b).toNat, h') := by
  unfold mRgD; rw [e]
  show (if (-1 : Int) = -1 ∧ (okR a && okR b) = true then some (sRg a (-1) (a - b).toNat, h') else none) = _
  rw [if_pos ⟨rfl, by rw [ha, hb]; rfl⟩]
theorem lc_len {p : List Int} {k : Nat} (H : Held2 f r) (hp : p.length ≤ 9) (hk : k < p.length) {a4 : Option W} {h : Hm} (hh : hl h 0 = some ((fnd r p (k + 1)).map nW)) :
    lc_lengths_from_0 [some (rowW p), some (.fn f), some (.loc 0), some (.int (k : Int)), a4, none] h = some (.fl ((sm r p k).map nW), h) := by
  have hi : mRg2 (mCons (mOp2 (oAdd false) (mVar 3) (mC (.int 1))) (mCons (mApp (oLen) (mCons (mVar 0) (mNil))) (mNil))) [some (rowW p), some (.fn f), some (.loc 0), some (.int (k : Int)), a4, none] h = some (sRg ((k : Int) + 1) 1 (p.length - (k + 1)), h) := by
    rw [e_rg2 (a := (k : Int) + 1) (b := (p.length : Int)) (e_cons (e_op2 (e_var rfl) e_c o_add) (e_cons (e_app (e_cons (e_var rfl) e_nil) o_lenRow) e_nil)) (okR_small (by omega) (by omega)) (okR_small (by omega) (by omega))]
    rw [show ((p.length : Int) - ((k : Int) + 1)).toNat = p.length - (k + 1) by omega]
  have := lc_run (own := false) (vs := [5]) (tg := gN 5) (t := (mTb (mCallG 1 2 Mv (mCons (mOp2 oIx (mVar 0) (mVar 3)) (mCons (mOp2 oIx (mVar 0) (mVar 5)) (mNil)))))) (m := (mOp2 oIx (mVar 2) (mVar 5)))
    ((List.range (p.length - (k + 1))).map fun (j : Nat) => W.int (((k : Int) + 1) + j)) (fun w => match w with | .int z => r (p.getD k 0) (p.getD z.toNat 0) | _ => false) (fun w => match w with | .int z => nW ((fnd r p (k + 1)).getD z.toNat 0) | w => w) hi (yld_rg (h := h)).1 (by rw [List.length_map, List.length_range]; exact (yld_rg (lo := (k : Int) + 1)).2) (fun w hw => ?_) (by rw [List.length_map, List.length_range]; omega)
  · refine Eq.trans this ?_
    rw [mk_f]
    refine congrArg (fun x => some (W.fl x, h)) ?_
    unfold sm
    rw [← filt_rg (p.drop (k + 1)) (lenF r (p.drop (k + 1))) (fun x => okL r (some (p.getD k 0)) x) (by rw [lenF_len]), List.filter_map, List.map_map, List.map_map, List.length_drop]
    have e1 : ((List.range (p.length - (k + 1))).filter ((fun w => match w with | .int z => r (p.getD k 0) (p.getD z.toNat 0) | _ => false) ∘ fun (j : Nat) => W.int (((k : Int) + 1) + j))) = ((List.range (p.length - (k + 1))).filter fun i => okL r (some (p.getD k 0)) ((p.drop (k + 1)).getD i 0)) := by
      refine congrArg (fun g => List.filter g (List.range _)) (funext fun j => ?_)
      show r (p.getD k 0) (p.getD ((k : Int) + 1 + j).toNat 0) = r (p.getD k 0) _
      rw [drop_getD, show ((k : Int) + 1 + j).toNat = k + 1 + j by omega]
    refine (congrArg (List.map _) e1).trans ?_
    refine List.map_congr_left fun j hj => ?_
    have hj := List.mem_range.mp (List.mem_filter.mp hj).1
    show nW ((fnd r p (k + 1)).getD ((k : Int) + 1 + j).toNat 0) = nW _
    rw [show ((k : Int) + 1 + j).toNat = k + 1 + j by omega]
    rw [gd (fnd_get (r := r) (p := p) (k := k + 1) (j := j) (by omega))]
  · obtain ⟨j, hj, rfl⟩ := List.mem_map.mp hw
    have hj := List.mem_range.mp hj
    have ej : (k : Int) + 1 + j = ((k + 1 + j : Nat) : Int) := by omega
    refine ⟨_, rfl, ?_, fun _ => ?_⟩
    · refine e_tb (e_callG H rfl (e_cons (e_op2 (e_var rfl) (e_var rfl) (o_ixRow hk)) (e_cons (e_op2 (e_var rfl) (e_var rfl) ?_) e_nil)))
      rw [ej]
      rw [o_ixRow (by omega)]
      rw [Int.toNat_natCast]
    · refine e_op2 (e_var rfl) (e_var rfl) ?_
      rw [ej]
      refine o_ixL hh (ix_pos rfl (by rw [List.length_map, fnd_len (by omega)]; omega)) ?_
      rw [List.getElem?_map, fnd_get (by omega)]
      show some (nW _) = some (nW ((fnd r p (k + 1)).getD ((k + 1 + j : Nat) : Int).toNat 0))
      rw [Int.toNat_natCast]
      rw [gd (fnd_get (r := r) (p := p) (k := k + 1) (j := j) (by omega))]
theorem bd_len {p : List Int} {k : Nat} (H : Held2 f r) (hp : p.length ≤ 9) (hk : k < p.length) {a4 : Option W} {h : Hm} (hh : hl h 0 = some ((fnd r p (k + 1)).map nW)) :
    bd_lengths_from_1 [some (rowW p), some (.fn f), some (.loc 0), some (.int (k : Int)), a4, none] h = some (.nx [some (rowW p), some (.fn f), some (.loc 0), some (.int (k : Int)), some (.fl ((sm r p k).map nW)), none] (h.set 0 (.lst ((fnd r p k).map nW)))) := by
  refine e_seq (e_set (lc_len H hp hk hh)) ?_
  refine e_asg (w := .int (nI (1 + mxN (sm r p k)))) (h1 := h) (e_op2 e_c (e_app (ws := [.fl (W.int 0 :: (sm r p k).map nW)]) (h1 := h) (e_cons (e_op2 (e_lstF (e_cons e_c e_nil) (by simp)) (e_var rfl) ?_) e_nil) (o_max0 (sm r p k))) ?_) ?_
  · have hl9 : (sm r p k).length ≤ 9 := by
      unfold sm
      rw [List.length_map]
      refine Nat.le_trans (List.length_filter_le _ _) ?_
      rw [List.length_zip, List.length_drop]
      omega
    exact o_catF (by rw [List.length_map]; show 1 + _ < _; omega)
  · show some (W.int (1 + nI (mxN (sm r p k))), h) = _
    refine congrArg (fun z => some (W.int z, h)) ?_
    show (1 : Int) + ((mxN (sm r p k) : Nat) : Int) = ((1 + mxN (sm r p k) : Nat) : Int)
    omega
  · refine (e_hSub (e_var rfl) (e_var rfl) hh (ix_pos (p := k) rfl (by rw [List.length_map, fnd_len (by omega)]; exact hk))).trans ?_
    rw [← fnd_set hk, List.map_set]
    rfl
theorem lengths_spec (H : Held2 f r) {p : List Int} (hp : p.length ≤ 9) : m_lengths_from [rowW p, .fn f] .empty = some (.loc 0, ⟨1, [(0, .lst ((lenF r p).map nW))]⟩) := by
  have e0 : mSet 2 (mOp2 (oTimes true) (mLst false (mCons (mC (.int 1)) (mNil))) (mApp (oLen) (mCons (mVar 0) (mNil)))) [some (rowW p), some (.fn f), none, none, none, none] .empty = some (.nx [some (rowW p), some (.fn f), some (.loc 0), none, none, none] ⟨1, [(0, .lst ((fnd r p p.length).map nW))]⟩) := by
    refine e_set (w := .loc 0) (e_op2 (e_lstF (e_cons e_c e_nil) (by simp)) (e_app (e_cons (e_var rfl) e_nil) o_lenRow) ?_)
    refine (o_rep (by omega) (by show 1 * _ < _; omega)).trans ?_
    have : (List.replicate p.length [W.int 1]).flatten = (fnd r p p.length).map nW := by
      unfold fnd
      rw [List.drop_length]
      simp [lenF, nW]
    rw [this]
    rfl
  have hit : it_lengths_from_2 [some (rowW p), some (.fn f), some (.loc 0), none, none, none] ⟨1, [(0, .lst ((fnd r p p.length).map nW))]⟩ = some (sRg ((p.length : Int) - 1) (-1) p.length, ⟨1, [(0, .lst ((fnd r p p.length).map nW))]⟩) := by
    refine (e_rgD (a := (p.length : Int) - 1) (b := -1) (e_cons (e_op2 (e_app (e_cons (e_var rfl) e_nil) o_lenRow) e_c o_sub) (e_cons (e_neg e_c) (e_cons (e_neg e_c) e_nil))) (okR_small (by omega) (by omega)) (okR_small (by omega) (by omega))).trans ?_
    rw [show ((p.length : Int) - 1 - -1).toNat = p.length by omega]
  obtain ⟨sw', h', e1, a3, a4, e2, e3⟩ := for_inv (n := 100000) (tg := gN 3) (b := bd_lengths_from_1) p.length (fun i sw h => ∃ a3 a4 : Option W, sw = [some (rowW p), some (.fn f), some (.loc 0), a3, a4, none] ∧ h = ⟨1, [(0, .lst ((fnd r p (p.length - i)).map nW))]⟩) hit (fun i hi sw h hR => by
      obtain ⟨a3, a4, rfl, rfl⟩ := hR
      obtain ⟨k, hk⟩ : ∃ k, p.length - i = k + 1 := ⟨p.length - i - 1, by omega⟩
      have hkl : k < p.length := by omega
      rw [hk, show p.length - (i + 1) = k by omega]
      refine ⟨.int (k : Int), [some (rowW p), some (.fn f), some (.loc 0), some (.int (k : Int)), a4, none], _, _, ?_, rfl, bd_len H hp hkl rfl, ⟨_, _, rfl, rfl⟩⟩
      show some (if i < p.length then some (W.int ((p.length : Int) - 1 + (i : Nat) * -1)) else none) = _
      rw [if_pos hi, show (p.length : Int) - 1 + (i : Nat) * -1 = k by omega]) (fun sw h hR => by
      show some (if p.length < p.length then _ else _) = _
      rw [if_neg (Nat.lt_irrefl _)]) (by omega) ⟨none, none, rfl, by rw [Nat.sub_zero]⟩
  subst e2 e3
  rw [Nat.sub_self] at e1
  refine e_def (e_seq e0 (e_seq e1 (e_ret (e_var rfl))))
end
end K66

set_option Elab.async false
set_option linter.all false
set_option maxRecDepth 10000
set_option maxHeartbeats 400000
namespace K66
open PySem PySem.Spec PyProof.Rows L2 G PySem.W
def lastW : Option Int → W
  | none => .non
  | some y => .int y
def tupN (c : List Nat) : W := .tup (c.map nW)
theorem tupN_eq (c : List Nat) : tupN c = tupI (c.map nI) := by unfold tupN tupI; rw [nW_map]
theorem cld_nW {d : Nat} (l : List Nat) : (l.map nW).all (cld (d + 1)) = true := by
  rw [List.all_map]; exact List.all_eq_true.mpr fun _ _ => rfl
theorem e_en {ma : MA} {sw : Sw} {h h' : Hm} {ws : List W} (e : ma sw h = some ([.tup ws], h')) : mEn ma sw h = some (sEn (.tup ws), h') := by unfold mEn; rw [e]; rfl
theorem yld_en {ws : List W} {h : Hm} : (∀ i w, ws[i]? = some w → (sEn (.tup ws)).yld i h = some (some (.tup [.int (i : Nat), w]))) ∧ (sEn (.tup ws)).yld ws.length h = some none := by
  refine ⟨fun i w e => ?_, ?_⟩
  · show (itemsAt (.tup ws) h).map (fun ws => ws[i]?.map (fun x => W.tup [.int (i : Nat), x])) = _
    show some (ws[i]?.map (fun x => W.tup [.int (i : Nat), x])) = _
    rw [e]; rfl
  · show some (ws[ws.length]?.map (fun x => W.tup [.int (ws.length : Nat), x])) = _
    rw [List.getElem?_eq_none (Nat.le_refl _)]; rfl
section
variable {f : PySem.Str} {r : Int → Int → Bool}
theorem e_lengths (H : Held2 f r) {p : List Int} (hp : p.length ≤ 9) (h : Hm) : cP m_lengths_from [rowW p, .fn f] h = some (.fl ((lenF r p).map nW), h) := by
  refine cP_loc (n := 0) ?_ (lengths_spec H hp) rfl (cld_nW _) h
  rw [List.all_cons, cld_rowW]; rfl
theorem lenF_gd {p : List Int} {i : Nat} (hi : i < p.length) : ((lenF r p).map nW)[i]? = some (nW (1 + bestO r (some (p.getD i 0)) (p.drop (i + 1)))) := by
  rw [List.getElem?_map, lenF_get p i hi]; rfl
theorem bd_long {p : List Int} {i : Nat} {c : List Nat} {l : Option Int} (H : Held2 f r) (hp : p.length ≤ 9) (hi : i < p.length) (hl : c.length + bestO r l (p.drop i) = bestO r none p) (hc : c.length ≤ 9) {a7 : Option W} {h : Hm} :
    ∃ c' l' a7', bd_longest_of_0 [some (rowW p), some (.fn f), some (.fl ((lenF r p).map nW)), some (tupN c), some (lastW l), some (.int (i : Int)), some (.int (p.getD i 0)), a7] h
      = some (.nx [some (rowW p), some (.fn f), some (.fl ((lenF r p).map nW)), some (tupN c'), some (lastW l'), some (.int (i : Int)), some (.int (p.getD i 0)), a7'] h) ∧
      c ++ gr r l i (p.drop i) = c' ++ gr r l' (i + 1) (p.drop (i + 1)) ∧ c'.length + bestO r l' (p.drop (i + 1)) = bestO r none p := by
  have hx : p.getD i 0 = p[i] := by simp [List.getD, hi]
  have hlen9 : (lenF r p).length ≤ 9 := by rw [lenF_len]; exact hp
  have ew : mOp2 oSub (mApp (o1 fMax) (mCons (mOp2 (oAdd false) (mLst false (mCons (mC (.int 0)) (mNil))) (mVar 2)) (mNil))) (mApp (oLen) (mCons (mVar 3) (mNil))) [some (rowW p), some (.fn f), some (.fl ((lenF r p).map nW)), some (tupN c), some (lastW l), some (.int (i : Int)), some (.int (p.getD i 0)), a7] h = some (.int ((bestO r l (p.drop i) : Nat) : Int), h) := by
    refine (e_op2 (u := .int (nI (mxN (lenF r p)))) (v := .int ((c.map nW).length : Int)) (h2 := h) (e_app (ws := [.fl (W.int 0 :: (lenF r p).map nW)]) (h1 := h) (e_cons (e_op2 (e_lstF (e_cons e_c e_nil) (by simp)) (e_var rfl) (o_catF (by rw [List.length_map]; show 1 + _ < _; omega))) e_nil) (o_max0 (lenF r p))) (e_app (e_cons (e_var rfl) e_nil) o_lenT) o_sub).trans ?_
    rw [mxN_all, List.length_map]
    refine congrArg (fun z => some (W.int z, h)) ?_
    show ((bestO r none p : Nat) : Int) - (c.length : Int) = _
    omega
  have ec : (mAndT (mTb (mOp2 (oGt) (mVar 7) (mC (.int 0)))) (mAndT (mTb (mOp2 (oEq) (mOp2 oIx (mVar 2) (mVar 5)) (mVar 7))) (mOrT (mTb (mOp2 (oIsN) (mVar 4) (mC .non))) (mTb (mCallG 1 2 Mv (mCons (mVar 4) (mCons (mVar 6) (mNil)))))))) [some (rowW p), some (.fn f), some (.fl ((lenF r p).map nW)), some (tupN c), some (lastW l), some (.int (i : Int)), some (.int (p.getD i 0)), some (.int ((bestO r l (p.drop i) : Nat) : Int))] h =
      some (decide ((0 : Int) < ((bestO r l (p.drop i) : Nat) : Int)) && ((((1 + bestO r (some (p.getD i 0)) (p.drop (i + 1)) : Nat) : Int) == ((bestO r l (p.drop i) : Nat) : Int)) && okL r l (p.getD i 0)), h) := by
    refine e_andB (e_tb (e_op2 (e_var rfl) e_c o_gt)) (e_andB (e_tb (e_op2 (e_op2 (e_var rfl) (e_var rfl) (o_ixF (p := i) (ix_pos rfl (by rw [List.length_map, lenF_len]; exact hi)) (lenF_gd hi))) (e_var rfl) o_eq_int)) ?_)
    cases l with
    | none => exact e_orT (e_tb (e_op2 (e_var rfl) e_c rfl))
    | some y => exact e_orF (h' := h) (e_tb (e_op2 (e_var rfl) e_c rfl)) (e_tb (e_callG H rfl (e_cons (e_var rfl) (e_cons (e_var rfl) e_nil))))
  have hd := List.drop_eq_getElem_cons hi
  have hb : ∀ b, (decide ((0 : Int) < ((bestO r l (p.drop i) : Nat) : Int)) && ((((1 + bestO r (some (p.getD i 0)) (p.drop (i + 1)) : Nat) : Int) == ((bestO r l (p.drop i) : Nat) : Int)) && okL r l (p.getD i 0))) = b → (okL r l p[i] && (1 + bestO r (some p[i]) (p.drop (i + 1)) == bestO r l (p[i] :: p.drop (i + 1)))) = b := by
    intro b e
    rw [← e, hd, hx]
    generalize bestO r (some p[i]) (p.drop (i + 1)) = m
    generalize bestO r l (p[i] :: p.drop (i + 1)) = n
    cases okL r l p[i] with
    | false => simp
    | true =>
      by_cases q : 1 + m = n
      · subst q; simp; omega
      · have : ¬ (1 + (m : Int) = n) := by omega
        have h1 : (1 + m == n) = false := beq_false_of_ne q
        have h2 : ((1 + (m : Int)) == (n : Int)) = false := beq_false_of_ne this
        simp [h1, h2]
  cases hb0 : (decide ((0 : Int) < ((bestO r l (p.drop i) : Nat) : Int)) && ((((1 + bestO r (some (p.getD i 0)) (p.drop (i + 1)) : Nat) : Int) == ((bestO r l (p.drop i) : Nat) : Int)) && okL r l (p.getD i 0))) with
  | true =>
    have hb1 := hb true hb0
    rw [hb0] at ec
    refine ⟨c ++ [i], some (p.getD i 0), _, e_seq (e_set ew) (e_ifT ec (e_par (e_cons (e_op2 (e_var rfl) (e_tup (e_cons (e_var rfl) e_nil) (by simp)) ?_) (e_cons (e_var rfl) e_nil)))), ?_, ?_⟩
    · refine (o_catT2 (by rw [List.length_map]; show _ + 1 < _; omega)).trans ?_
      unfold tupN
      rw [List.map_append]; rfl
    · rw [hd, gr, if_pos hb1, List.append_assoc, hx]; rfl
    · rw [List.length_append, ← hl, hd, hx]
      rw [Bool.and_eq_true] at hb1
      have := eq_of_beq hb1.2
      simp only [List.length_cons, List.length_nil]
      omega
  | false =>
    have hb1 := hb false hb0
    rw [hb0] at ec
    refine ⟨c, l, _, e_seq (e_set ew) (e_ifF ec e_next), ?_, ?_⟩
    · rw [hd, gr, if_neg (by rw [hb1]; decide)]
    · rw [← hl, hd, bestO]
      cases ho : okL r l p[i] with
      | false => simp
      | true =>
        rw [ho, Bool.true_and, bestO, ho, if_pos rfl] at hb1
        rw [if_pos rfl]
        have : ¬ (1 + bestO r (some p[i]) (p.drop (i + 1)) = max (1 + bestO r (some p[i]) (p.drop (i + 1))) (bestO r l (p.drop (i + 1)))) := fun e => by
          rw [← e, beq_self_eq_true] at hb1; cases hb1
        omega
theorem best_len : ∀ (xs : List Int) (l : Option Int), bestO r l xs ≤ xs.length
  | [], _ => Nat.le_refl _
  | x :: xs, l => by
    have h1 := best_len xs (some x)
    have h2 := best_len xs l
    unfold bestO
    rw [List.length_cons]
    split <;> omega
theorem longest_spec (H : Held2 f r) {p : List Int} (hp : p.length ≤ 9) (h : Hm) : m_longest_of [rowW p, .fn f] h = some (tupN (gr r none 0 p), h) := by
  have hb9 : bestO r none p ≤ 9 := Nat.le_trans (best_len p none) hp
  obtain ⟨sw', h', e1, c, l, a5, a6, a7, e2, e3, e4, e5⟩ := for_inv (n := 100000) (tg := gT [5, 6]) (b := bd_longest_of_0) (mi := it_longest_of_1) (sw0 := [some (rowW p), some (.fn f), some (.fl ((lenF r p).map nW)), some (.tup []), some .non, none, none, none]) (h0 := h) p.length
    (fun i sw h2 => ∃ (c : List Nat) (l : Option Int) (a5 a6 a7 : Option W), sw = [some (rowW p), some (.fn f), some (.fl ((lenF r p).map nW)), some (tupN c), some (lastW l), a5, a6, a7] ∧ h2 = h ∧ c ++ gr r l i (p.drop i) = gr r none 0 p ∧ c.length + bestO r l (p.drop i) = bestO r none p)
    (e_en (e_cons (e_var rfl) e_nil)) (fun i hi sw h2 hR => by
      obtain ⟨c, l, a5, a6, a7, rfl, rfl, g1, g2⟩ := hR
      obtain ⟨c', l', a7', q1, q2, q3⟩ := bd_long (a7 := a7) (h := h2) H hp hi g2 (by omega)
      exact ⟨.tup [.int (i : Nat), .int (p.getD i 0)], _, _, _, yld_en.1 i _ (getW hi), rfl, q1, c', l', _, _, _, rfl, rfl, q2.symm.trans g1, q3⟩) (fun sw h2 hR => by
      have := (yld_en (ws := p.map W.int) (h := h2)).2
      rw [List.length_map] at this
      exact this) (by omega) ⟨[], none, none, none, none, rfl, rfl, by rw [List.drop_zero]; rfl, by rw [List.drop_zero]; show 0 + _ = _; omega⟩
  subst e2 e3
  have e6 : c = gr r none 0 p := by
    rw [List.drop_length] at e4
    rw [← e4]; simp [gr]
  rw [e6] at e1
  exact e_def (e_seq (e_par3 (e_cons (e_app (e_cons (e_var rfl) (e_cons (e_var rfl) e_nil)) (e_lengths H hp h')) (e_cons (e_tup e_nil (by simp)) (e_cons e_c e_nil)))) (e_seq e1 (e_ret (e_var rfl))))
end
theorem cld_tupN {d : Nat} (c : List Nat) : cld (d + 2) (tupN c) = true := cld_nW c
theorem e_want {p : List Int} (R : Row p) {sw : Sw} {h : Hm} (e : sw[0]? = some (some (rowW p))) : mDrop (mApp (cP m_want_row) (mCons (mVar 0) (mNil))) sw h = some (.nx sw h) :=
  e_drop (e_app (e_cons (e_var e) e_nil) (cP_of (cld_row p) (want_spec R) rfl h))
theorem rising_spec {p : List Int} (R : Row p) (h : Hm) : m_rising_positions [rowW p] h = some (tupN (gr lt none 0 p), h) :=
  e_def (e_seq (e_want R rfl) (e_ret (e_app (e_cons (e_var rfl) (e_cons e_c e_nil)) (cO_no (by rw [List.all_cons, cld_rowW]; rfl) (longest_spec held_rise R.le .empty) (cld_tupN _) h))))
theorem falling_spec {p : List Int} (R : Row p) (h : Hm) : m_falling_positions [rowW p] h = some (tupN (gr gt none 0 p), h) :=
  e_def (e_seq (e_want R rfl) (e_ret (e_app (e_cons (e_var rfl) (e_cons e_c e_nil)) (cO_no (by rw [List.all_cons, cld_rowW]; rfl) (longest_spec held_fall R.le .empty) (cld_tupN _) h))))
theorem c_rising {p : List Int} (R : Row p) (h : Hm) : cP m_rising_positions [rowW p] h = some (tupN (gr lt none 0 p), h) := cP_of (cld_row p) (rising_spec R .empty) (cld_tupN _) h
theorem c_falling {p : List Int} (R : Row p) (h : Hm) : cP m_falling_positions [rowW p] h = some (tupN (gr gt none 0 p), h) := cP_of (cld_row p) (falling_spec R .empty) (cld_tupN _) h
/-! turned -/
theorem Row.rev {p : List Int} (R : Row p) : Row p.reverse := by
  obtain ⟨l, hl, rfl⟩ := R.ex
  exact ⟨⟨l.reverse, by rw [List.length_reverse]; exact (List.reverse_perm l).trans hl, by rw [List.map_reverse]⟩, by rw [List.length_reverse]; exact R.le⟩
theorem rev_row {p : List Int} {own : Bool} {h : Hm} : oRev own (rowW p) h = some (rowW p.reverse, h) := by
  show some (W.tup (p.map W.int).reverse, h) = _
  unfold rowW; rw [List.map_reverse]
theorem e_rev {own : Bool} {m : ME} {sw : Sw} {h h' : Hm} {w : W} {q : Option (W × Hm)} (e : m sw h = some (w, h')) (e2 : oRev own w h' = q) : mRev own m sw h = q := by unfold mRev; rw [e]; exact e2
theorem c_back {p : List Int} (R : Row p) (h : Hm) : cP m_turned_back [rowW p] h = some (rowW p.reverse, h) := by
  refine cP_of (h' := .empty) (cld_row p) ?_ (cld_rowW _) h
  exact e_def (e_seq (e_want R rfl) (e_ret (e_app (e_cons (e_var rfl) e_nil) (cO_no (h' := .empty) (cld_row p) (e_def (e_ret (e_rev (e_var rfl) rev_row))) (cld_rowW _) .empty))))
end K66

set_option Elab.async false
set_option linter.all false
set_option maxRecDepth 10000
set_option maxHeartbeats 400000
namespace K66
open PySem PySem.Spec PyProof.Rows L2 G PySem.W
/-! all chains -/
def rb (b : Bool) (x y : Int) : Bool := decide (x < y) == b
def rr (b : Bool) : Int → Int → Bool := if b then lt else gt
def dec (w : W) : List Nat := match w with
  | .tup ws => ws.map fun u => match u with
    | .int i => i.toNat
    | _ => 0
  | _ => []
theorem dec_tupN (c : List Nat) : dec (tupN c) = c := by
  unfold dec tupN
  show (c.map nW).map _ = c
  rw [List.map_map]
  conv => rhs; rw [← List.map_id c]
  exact List.map_congr_left fun i _ => Int.toNat_natCast i
theorem allA_lo {r : Int → Int → Bool} {p : List Int} : ∀ (k : Nat) (c : List Nat), c ∈ allA r p k → ∀ i ∈ c, i < k
  | 0, c, h, i, hi => by
    have : c = [] := by simpa [allA] using h
    subst this; cases hi
  | k + 1, c, h, i, hi => by
    rw [allA_succ, extA, List.mem_append] at h
    rcases h with h | h
    · have := allA_lo k c h i hi; omega
    · obtain ⟨d, hd, rfl⟩ := List.mem_map.mp h
      rcases List.mem_append.mp hi with hi | hi
      · have := allA_lo k d (List.mem_filter.mp hd).1 i hi; omega
      · have : i = k := by simpa using hi
        omega
theorem allA_congr {r r' : Int → Int → Bool} {p : List Int} (n : Nat) (h : ∀ i j, i < j → j < n → r (p.getD i 0) (p.getD j 0) = r' (p.getD i 0) (p.getD j 0)) : ∀ k, k ≤ n → allA r p k = allA r' p k
  | 0, _ => rfl
  | k + 1, hk => by
    rw [allA_succ, allA_succ, ← allA_congr n h k (by omega)]
    unfold extA
    congr 2
    refine List.filter_congr fun c hc => ?_
    rcases snoc (P := fun _ => True) c with rfl | ⟨d, i, rfl⟩
    · rfl
    · rw [last_snoc, h i k (allA_lo k _ hc i (by simp)) (by omega)]
theorem rb_rr {b : Bool} {x y : Int} (h : x ≠ y) : rb b x y = rr b x y := by
  cases b with
  | true => unfold K66.rb rr lt; simp
  | false =>
    unfold K66.rb rr gt
    by_cases h : x < y
    · rw [decide_eq_true h]; simp; omega
    · rw [decide_eq_false h]; simp; omega
theorem allA_llen {r : Int → Int → Bool} {p : List Int} : ∀ (k : Nat) (c : List Nat), c ∈ allA r p k → c.length ≤ k
  | 0, c, h => by
    have : c = [] := by simpa [allA] using h
    subst this; exact Nat.le_refl _
  | k + 1, c, h => by
    rw [allA_succ, extA, List.mem_append] at h
    rcases h with h | h
    · have := allA_llen k c h; omega
    · obtain ⟨d, hd, rfl⟩ := List.mem_map.mp h
      have := allA_llen k d (List.mem_filter.mp hd).1
      rw [List.length_append]
      simp only [List.length_cons, List.length_nil]
      omega
theorem Row.rb {p : List Int} (R : Row p) (b : Bool) (k : Nat) (hk : k ≤ p.length) : allA (K66.rb b) p k = allA (rr b) p k := by
  refine allA_congr p.length (fun i j hij hj => ?_) k hk
  have := R.ne i j hij hj
  exact rb_rr this
theorem last_get {c : List Nat} (hc : c ≠ []) : (c.map nW)[c.length - 1]? = some (nW (c.getLastD 0)) := by
  rcases snoc (P := fun _ => True) c with rfl | ⟨d, i, rfl⟩
  · exact absurd rfl hc
  · rw [last_snoc, List.map_append, List.length_append]
    simp
theorem o_eq_nil {c : List Nat} {h : Hm} : oEq (tupN c) (.tup []) h = some (.bl c.isEmpty, h) := by
  have := o_eq_tup (is := c.map nI) (js := []) (h := h)
  rw [← nW_map] at this
  refine this.trans ?_
  cases c <;> rfl
theorem lc_all {p : List Int} {b : Bool} {k : Nat} (hp : p.length ≤ 9) (hk : k < p.length) (h : Hm) :
    lc__law_all_0 [some (rowW p), some (.bl b), some (.fl ((allA (rb b) p k).map tupN)), some (.int (k : Int)), some (.int (p.getD k 0)), none] h =
      some (.fl ((((allA (rb b) p k).filter fun c => c.isEmpty || rb b (p.getD (c.getLastD 0) 0) (p.getD k 0)).map (· ++ [k])).map tupN), h) := by
  have hlen := allA_len (r := rb b) (p := p) k
  have h512 : 2 ^ k ≤ 512 := Nat.le_trans (Nat.pow_le_pow_right (by omega) (show k ≤ 9 by omega)) (by decide)
  have := lc_run (own := false) (vs := [5]) (tg := gN 5) (mi := mIt (mVar 2)) (sw := [some (rowW p), some (.bl b), some (.fl ((allA (rb b) p k).map tupN)), some (.int (k : Int)), some (.int (p.getD k 0)), none]) (h := h)
    (t := (mOrT (mTb (mOp2 (oEq) (mVar 5) (mTup (mNil)))) (mTb (mOp2 (oEq) (mOp2 (oLt) (mOp2 oIx (mVar 0) (mOp2 oIx (mVar 5) (mOp2 oSub (mApp (oLen) (mCons (mVar 5) (mNil))) (mC (.int 1))))) (mVar 4)) (mVar 1)))))
    (m := (mOp2 (oAdd false) (mVar 5) (mTup (mCons (mVar 3) (mNil)))))
    ((allA (rb b) p k).map tupN) (fun w => (dec w).isEmpty || rb b (p.getD ((dec w).getLastD 0) 0) (p.getD k 0)) (fun w => tupN (dec w ++ [k])) (e_itF (e_var rfl)) (yld_fl (h := h)).1 (yld_fl (h := h)).2 (fun w hw => ?_) (by rw [List.length_map]; omega)
  · refine Eq.trans this ?_
    rw [mk_f, List.filter_map, List.map_map, List.map_map]
    refine congrArg (fun x => some (W.fl x, h)) ?_
    have e1 : ((fun w => (dec w).isEmpty || rb b (p.getD ((dec w).getLastD 0) 0) (p.getD k 0)) ∘ tupN) = fun c => c.isEmpty || rb b (p.getD (c.getLastD 0) 0) (p.getD k 0) := funext fun c => by
      show ((dec (tupN c)).isEmpty || _) = _
      rw [dec_tupN]
    rw [e1]
    refine List.map_congr_left fun c _ => ?_
    show tupN (dec (tupN c) ++ [k]) = _
    rw [dec_tupN]; rfl
  · obtain ⟨c, hc, rfl⟩ := List.mem_map.mp hw
    rw [dec_tupN]
    have hlo := allA_lo k c hc
    have hcl : c.length ≤ 100 := by have := allA_llen k c hc; omega
    refine ⟨_, rfl, ?_, fun _ => ?_⟩
    · by_cases hn : c = []
      · subst hn
        exact e_orT (e_tb (e_op2 (e_var rfl) (e_tup e_nil (by simp)) o_eq_nil))
      · have he : c.isEmpty = false := by cases c with | nil => exact absurd rfl hn | cons _ _ => rfl
        have hpos : 0 < c.length := List.length_pos_iff.mpr hn
        have hlast : c.getLastD 0 < p.length := by
          rcases snoc (P := fun _ => True) c with rfl | ⟨d, i, rfl⟩
          · exact absurd rfl hn
          · rw [last_snoc]; have := hlo i (by simp); omega
        rw [he]
        refine e_orF (h' := h) (by have := e_tb (e_op2 (o := oEq) (m := mVar 5) (n := mTup mNil) (sw := [some (rowW p), some (.bl b), some (.fl ((allA (rb b) p k).map tupN)), some (.int (k : Int)), some (.int (p.getD k 0)), some (tupN c)]) (h := h) (e_var rfl) (e_tup e_nil (by simp)) o_eq_nil); rw [he] at this; exact this) ?_
        refine e_tb (e_op2 (e_op2 (e_op2 (e_var rfl) (e_op2 (v := .int ((c.length : Int) - 1)) (h2 := h) (e_var rfl) ?_ (o_ixT (p := c.length - 1) (ix_pos (by omega) (by rw [List.length_map]; omega)) (last_get hn))) (o_ixRow hlast)) (e_var rfl) o_lt) (e_var rfl) o_eq_bl)
        refine (e_op2 (e_app (e_cons (e_var rfl) e_nil) o_lenT) e_c o_sub).trans ?_
        rw [List.length_map]
    · refine e_op2 (e_var rfl) (e_tup (e_cons (e_var rfl) e_nil) (by simp)) ((o_catT2 (by rw [List.length_map]; show _ + 1 < _; omega)).trans ?_)
      unfold tupN
      rw [List.map_append]; rfl
theorem all_spec {p : List Int} {b : Bool} (hp : p.length ≤ 9) (h : Hm) : m__law_all [rowW p, .bl b] h = some (.fl ((allA (rb b) p p.length).map tupN), h) := by
  obtain ⟨sw', h', e1, a3, a4, e2, e3⟩ := for_inv (n := 100000) (tg := gT [3, 4]) (b := bd__law_all_1) (mi := it__law_all_2) (sw0 := [some (rowW p), some (.bl b), some (.fl ((allA (rb b) p 0).map tupN)), none, none, none]) (h0 := h) p.length
    (fun i sw h2 => ∃ (a3 a4 : Option W), sw = [some (rowW p), some (.bl b), some (.fl ((allA (rb b) p i).map tupN)), a3, a4, none] ∧ h2 = h)
    (e_en (e_cons (e_var rfl) e_nil)) (fun i hi sw h2 hR => by
      obtain ⟨a3, a4, rfl, rfl⟩ := hR
      have hlen := allA_len (r := rb b) (p := p) i
      have h512 : 2 ^ i ≤ 512 := Nat.le_trans (Nat.pow_le_pow_right (by omega) (show i ≤ 9 by omega)) (by decide)
      refine ⟨.tup [.int (i : Nat), .int (p.getD i 0)], _, _, _, yld_en.1 i _ (getW hi), rfl, e_set (e_op2 (e_var rfl) (lc_all hp hi h2) (o_catF ?_)), some (.int (i : Int)), some (.int (p.getD i 0)), ?_, rfl⟩
      · rw [List.length_map, List.length_map, List.length_map]
        have := List.length_filter_le (fun c : List Nat => c.isEmpty || rb b (p.getD (c.getLastD 0) 0) (p.getD i 0)) (allA (rb b) p i)
        omega
      · rw [allA_succ, extA, List.map_append]; rfl) (fun sw h2 hR => by
      have := (yld_en (ws := p.map W.int) (h := h2)).2
      rw [List.length_map] at this
      exact this) (by omega) ⟨none, none, rfl, rfl⟩
  subst e2 e3
  refine e_def (e_seq (sw' := [some (rowW p), some (.bl b), some (.fl ((allA (rb b) p 0).map tupN)), none, none, none]) (e_set (e_lstF (e_cons (e_tup e_nil (by simp)) e_nil) (show 1 < 100000 by omega))) (e_seq e1 (e_ret (e_var rfl))))
end K66

set_option Elab.async false
set_option linter.all false
set_option maxRecDepth 10000
set_option maxHeartbeats 400000
namespace K66
open PySem PySem.Spec PyProof.Rows L2 G PySem.W
theorem lle_lex : ∀ a b : List Nat, lle (a.map nI) (b.map nI) = lexN a b
  | [], _ => rfl
  | _ :: _, [] => rfl
  | x :: xs, y :: ys => by
    rw [List.map_cons, List.map_cons, lle, lexN, lle_lex xs ys]
    by_cases e : x = y
    · subst e; rw [if_pos rfl, if_pos rfl]
    · rw [if_neg e, if_neg (show ¬ nI x = nI y from fun z => e (by exact_mod_cast z))]
      by_cases l : x < y
      · rw [decide_eq_true l, decide_eq_true (show nI x < nI y from by exact_mod_cast l)]
      · rw [decide_eq_false l, decide_eq_false (show ¬ nI x < nI y from fun z => l (by exact_mod_cast z))]
theorem rr_tr (b : Bool) : Tr (rr b) := by cases b; exact gt_tr; exact lt_tr
theorem llong_spec {p : List Int} (R : Row p) (b : Bool) (h : Hm) : m__law_longest [rowW p, .bl b] h = some (tupN (gr (rr b) none 0 p), h) := by
  have hp := R.le
  have hlen := allA_len (r := rb b) (p := p) p.length
  have h512 : 2 ^ p.length ≤ 512 := Nat.le_trans (Nat.pow_le_pow_right (by omega) hp) (by decide)
  have hA := R.rb b p.length (Nat.le_refl _)
  have hmem : ∀ c, c ∈ allA (rb b) p p.length ↔ c ∈ chs (rr b) none 0 p := fun c => by rw [hA]; exact allA_chs (rr_tr b)
  have e1 : cP m__law_all [rowW p, .bl b] h = some (.fl ((allA (rb b) p p.length).map tupN), h) := by
    refine cP_of (h' := .empty) (by rw [List.all_cons, cld_rowW]; rfl) (all_spec hp .empty) ?_ h
    show ((allA (rb b) p p.length).map tupN).all (cld 19) = true
    rw [List.all_map]; exact List.all_eq_true.mpr fun c _ => cld_tupN c
  have e2 : lc__law_longest_0 [some (rowW p), some (.bl b), some (.fl ((allA (rb b) p p.length).map tupN)), none, none] h = some (.fl (((allA (rb b) p p.length).map fun c => nI c.length).map W.int), h) := by
    have := lc_run (own := false) (vs := [4]) (tg := gN 4) (mi := mIt (mVar 2)) (t := mYes) (m := mApp (oLen) (mCons (mVar 4) (mNil))) (sw := [some (rowW p), some (.bl b), some (.fl ((allA (rb b) p p.length).map tupN)), none, none]) (h := h)
      ((allA (rb b) p p.length).map tupN) (fun _ => true) (fun w => .int (nI (dec w).length)) (e_itF (e_var rfl)) (yld_fl (h := h)).1 (yld_fl (h := h)).2 (fun w hw => by
        obtain ⟨c, hc, rfl⟩ := List.mem_map.mp hw
        refine ⟨_, rfl, rfl, fun _ => ?_⟩
        rw [dec_tupN]
        refine (e_app (e_cons (e_var rfl) e_nil) o_lenT).trans ?_
        rw [List.length_map]) (by rw [List.length_map]; omega)
    refine Eq.trans this ?_
    rw [mk_f, List.filter_eq_self.mpr fun _ _ => rfl, List.map_map, List.map_map]
    refine congrArg (fun x => some (W.fl x, h)) (List.map_congr_left fun c _ => ?_)
    show W.int (nI (dec (tupN c)).length) = _
    rw [dec_tupN]; rfl
  obtain ⟨hg1, hg2⟩ := gr_mem (r := rr b) (xs := p) (l := none) (k := 0)
  have e3 : o1 fMax [.fl (((allA (rb b) p p.length).map fun c => nI c.length).map W.int)] h = some (.int (nI (bestO (rr b) none p)), h) := by
    refine fMax_ints _ _ ?_
    have hne : ((allA (rb b) p p.length).map fun c => nI c.length) ≠ [] := fun z => by
      have := (hmem _).mpr hg1
      rw [List.map_eq_nil_iff] at z
      rw [z] at this; cases this
    cases hm : maxI ((allA (rb b) p p.length).map fun c => nI c.length) with
    | none => cases q : ((allA (rb b) p p.length).map fun c => nI c.length) with
      | nil => exact absurd q hne
      | cons a l => rw [q] at hm; cases hm
    | some m =>
      obtain ⟨m1, m2⟩ := maxI_ok hm
      obtain ⟨c, hc, rfl⟩ := List.mem_map.mp m1
      have u1 := (chs_le ((hmem c).mp hc)).1
      have u2 := m2 (nI (gr (rr b) none 0 p).length) (List.mem_map_of_mem ((hmem _).mpr hg1))
      rw [hg2] at u2
      have u2 : ((bestO (rr b) none p : Nat) : Int) ≤ (c.length : Int) := u2
      have : c.length = bestO (rr b) none p := by omega
      show some (nI c.length) = _
      rw [this]
  have e4 : lc__law_longest_1 [some (rowW p), some (.bl b), some (.fl ((allA (rb b) p p.length).map tupN)), some (.int (nI (bestO (rr b) none p))), none] h = some (.fl ((((allA (rb b) p p.length).filter fun c => c.length == bestO (rr b) none p).map fun c => c.map nI).map tupI), h) := by
    have := lc_run (own := false) (vs := [4]) (tg := gN 4) (mi := mIt (mVar 2)) (t := (mTb (mOp2 (oEq) (mApp (oLen) (mCons (mVar 4) (mNil))) (mVar 3)))) (m := mVar 4) (sw := [some (rowW p), some (.bl b), some (.fl ((allA (rb b) p p.length).map tupN)), some (.int (nI (bestO (rr b) none p))), none]) (h := h)
      ((allA (rb b) p p.length).map tupN) (fun w => (dec w).length == bestO (rr b) none p) (fun w => w) (e_itF (e_var rfl)) (yld_fl (h := h)).1 (yld_fl (h := h)).2 (fun w hw => by
        obtain ⟨c, hc, rfl⟩ := List.mem_map.mp hw
        refine ⟨_, rfl, ?_, fun _ => e_var rfl⟩
        rw [dec_tupN]
        refine (e_tb (e_op2 (e_app (e_cons (e_var rfl) e_nil) o_lenT) (e_var rfl) o_eq_int)).trans ?_
        rw [List.length_map]
        refine congrArg (fun z => some (z, h)) ?_
        by_cases q : c.length = bestO (rr b) none p
        · rw [q]; show (nI (bestO (rr b) none p) == nI (bestO (rr b) none p)) = (bestO (rr b) none p == bestO (rr b) none p)
          rw [beq_self_eq_true (nI (bestO (rr b) none p)), beq_self_eq_true (bestO (rr b) none p)]
        · rw [beq_false_of_ne q]
          exact beq_false_of_ne fun z => q (by have z : (c.length : Int) = ((bestO (rr b) none p : Nat) : Int) := z; omega)) (by rw [List.length_map]; omega)
    refine Eq.trans this ?_
    rw [mk_f, List.map_id', List.filter_map, List.map_map]
    refine congrArg (fun x => some (W.fl x, h)) ?_
    have e1 : ((fun w => (dec w).length == bestO (rr b) none p) ∘ tupN) = fun c => c.length == bestO (rr b) none p := funext fun c => by
      show ((dec (tupN c)).length == _) = _
      rw [dec_tupN]
    rw [e1]
    exact List.map_congr_left fun c _ => tupN_eq c
  have hgin : (gr (rr b) none 0 p).map nI ∈ ((allA (rb b) p p.length).filter fun c => c.length == bestO (rr b) none p).map fun c => c.map nI :=
    List.mem_map_of_mem (List.mem_filter.mpr ⟨(hmem _).mpr hg1, by rw [hg2]; exact beq_self_eq_true _⟩)
  have hfl := List.length_filter_le (fun c : List Nat => c.length == bestO (rr b) none p) (allA (rb b) p p.length)
  refine e_def (e_seq (e_set (e_app (e_cons (e_var rfl) (e_cons (e_var rfl) e_nil)) e1)) (e_seq (e_set (e_app (e_cons e2 e_nil) e3)) (e_ret (e_op2 (e_app (e_cons e4 e_nil) (o_sort_tups iq_fl (by rw [List.length_map]; omega) fun h2 c hc => ?_)) e_c ?_))))
  · rintro rfl
    obtain ⟨d, hd, hd2⟩ := List.mem_map.mp hc
    have hdn : d = [] := List.map_eq_nil_iff.mp hd2
    subst hdn
    have hb0 := eq_of_beq (List.mem_filter.mp hd).2
    have hp0 : p = [] := by
      cases p with
      | nil => rfl
      | cons x xs =>
        rw [bestO] at hb0
        simp [okL] at hb0
        omega
    subst hp0
    rw [List.length_map] at h2
    have : (allA (rb b) [] ([] : List Int).length).length = 1 := rfl
    omega
  · refine (o_ixF (p := 0) (w := tupI ((gr (rr b) none 0 p).map nI)) (ix_pos rfl ?_) ?_).trans ?_
    · rw [List.length_map, (srtB_perm total_lleI _).length_eq, List.length_map]
      exact List.length_pos_of_mem (List.mem_filter.mpr ⟨(hmem _).mpr hg1, by rw [hg2]; exact beq_self_eq_true _⟩)
    · rw [List.getElem?_map, srt_head hgin fun c hc => ?_]
      · rfl
      · obtain ⟨d, hd, rfl⟩ := List.mem_map.mp hc
        rw [lle_lex]
        exact gr_least ((hmem d).mp (List.mem_filter.mp hd).1) (eq_of_beq (List.mem_filter.mp hd).2)
    · rw [tupN_eq]
theorem c_llong {p : List Int} (R : Row p) (b : Bool) (h : Hm) : cP m__law_longest [rowW p, .bl b] h = some (tupN (gr (rr b) none 0 p), h) :=
  cP_of (by rw [List.all_cons, cld_rowW]; rfl) (llong_spec R b .empty) (cld_tupN _) h
end K66

set_option Elab.async false
set_option linter.all false
set_option maxRecDepth 10000
set_option maxHeartbeats 400000
namespace K66
open PySem PySem.Spec PyProof.Rows L2 G PySem.W
/-! turned over -/
def over (p : List Int) : List Int := p.map fun x => (p.length : Int) - 1 - x
theorem perm_of_nd : ∀ (a b : List Nat), a.Nodup → (∀ x ∈ a, x ∈ b) → a.length = b.length → a.Perm b
  | [], b, _, _, hl => by
    have : b = [] := List.length_eq_zero_iff.mp hl.symm
    subst this; exact .nil
  | x :: a, b, nd, h, hl => by
    rw [List.nodup_cons] at nd
    have hx := h x (by simp)
    have := perm_of_nd a (b.erase x) nd.2 (fun y hy => (List.mem_erase_of_ne (show y ≠ x from fun z => nd.1 (by rw [← z]; exact hy))).mpr (h y (by simp [hy]))) (by rw [List.length_erase_of_mem hx]; rw [List.length_cons] at hl; omega)
    exact (this.cons x).trans (List.perm_cons_erase hx).symm
theorem Row.over {p : List Int} (R : Row p) : Row (over p) := by
  obtain ⟨l, hl, rfl⟩ := R.ex
  have hlt : ∀ x ∈ l, x < l.length := fun x hx => List.mem_range.mp (hl.subset hx)
  have hnd : l.Nodup := hl.symm.nodup List.nodup_range
  refine ⟨⟨l.map fun x => l.length - 1 - x, ?_, ?_⟩, by unfold K66.over; rw [List.length_map]; exact R.le⟩
  · refine perm_of_nd _ _ ?_ (fun x hx => ?_) (by rw [List.length_range])
    · rw [List.nodup_iff_pairwise_ne, List.pairwise_map]
      refine List.Pairwise.imp_of_mem (fun {a b} ha hb hab => ?_) (List.nodup_iff_pairwise_ne.mp hnd)
      have := hlt a ha; have := hlt b hb
      omega
    · obtain ⟨y, hy, rfl⟩ := List.mem_map.mp hx
      have := hlt y hy
      rw [List.length_map]
      exact List.mem_range.mpr (by omega)
  · unfold K66.over
    rw [List.map_map, List.map_map, List.length_map]
    refine List.map_congr_left fun x hx => ?_
    have := hlt x hx
    show (l.length : Int) - 1 - (x : Int) = ((l.length - 1 - x : Nat) : Int)
    omega
theorem over_spec {p : List Int} (R : Row p) (h : Hm) : m_over_of [rowW p] h = some (rowW (over p), h) := by
  have hp := R.le
  have := lc_run (own := false) (vs := [1]) (tg := gN 1) (mi := mIt (mVar 0)) (t := mYes) (m := (mOp2 oSub (mOp2 oSub (mApp (oLen) (mCons (mVar 0) (mNil))) (mC (.int 1))) (mVar 1))) (sw := [some (rowW p), none]) (h := h)
    (p.map W.int) (fun _ => true) (fun w => match w with | .int i => .int ((p.length : Int) - 1 - i) | w => w) (e_it (e_var rfl)) (yld_tup (h := h)).1 (yld_tup (h := h)).2 (fun w hw => by
      obtain ⟨i, hi, rfl⟩ := List.mem_map.mp hw
      exact ⟨_, rfl, rfl, fun _ => e_op2 (e_op2 (e_app (e_cons (e_var rfl) e_nil) o_lenRow) e_c o_sub) (e_var rfl) o_sub⟩) (by rw [List.length_map]; omega)
  refine e_def (e_ret (e_app (ws := [.fl ((over p).map W.int)]) (h1 := h) (e_cons (this.trans ?_) e_nil) o_tupF))
  rw [mk_f, List.filter_eq_self.mpr fun _ _ => rfl, List.map_map]
  unfold over
  rw [List.map_map]; rfl
theorem c_over {p : List Int} (R : Row p) (h : Hm) : cP m_turned_over [rowW p] h = some (rowW (over p), h) := by
  refine cP_of (h' := .empty) (cld_row p) ?_ (cld_rowW _) h
  exact e_def (e_seq (e_want R rfl) (e_ret (e_app (e_cons (e_var rfl) e_nil) (cO_no (h' := .empty) (cld_row p) (over_spec R .empty) (cld_rowW _) .empty))))
theorem over_lt {p : List Int} : gr lt none 0 (over p) = gr gt none 0 p := by
  have := gr_map (r := lt) (f := fun x => (p.length : Int) - 1 - x) p none 0
  refine this.trans ?_
  have e : (fun x y : Int => lt ((p.length : Int) - 1 - x) ((p.length : Int) - 1 - y)) = gt := by
    funext x y
    unfold lt gt
    exact decide_eq_decide.mpr (by omega)
  rw [e]
theorem over_gt {p : List Int} : gr gt none 0 (over p) = gr lt none 0 p := by
  have := gr_map (r := gt) (f := fun x => (p.length : Int) - 1 - x) p none 0
  refine this.trans ?_
  have e : (fun x y : Int => gt ((p.length : Int) - 1 - x) ((p.length : Int) - 1 - y)) = lt := by
    funext x y
    unfold lt gt
    exact decide_eq_decide.mpr (by omega)
  rw [e]
/-! undone -/
def und (l : List Nat) : List Nat := (List.range l.length).map fun v => l.idxOf v
theorem und_len (l : List Nat) : (und l).length = l.length := by unfold und; rw [List.length_map, List.length_range]
theorem und_get {l : List Nat} (hl : l.Perm (List.range l.length)) {i : Nat} (hi : i < l.length) : (und l)[l[i]]? = some i := by
  have hnd : l.Nodup := hl.symm.nodup List.nodup_range
  have hlt : l[i] < l.length := List.mem_range.mp (hl.subset (List.getElem_mem hi))
  unfold und
  rw [List.getElem?_map, List.getElem?_range hlt]
  show some (l.idxOf l[i]) = _
  rw [hnd.idxOf_getElem]
theorem idx_of {l : List Nat} (hl : l.Perm (List.range l.length)) {v : Nat} (hv : v < l.length) : ∃ i, ∃ hi : i < l.length, l[i] = v := by
  have : v ∈ l := hl.symm.subset (List.mem_range.mpr hv)
  obtain ⟨i, hi, e⟩ := List.getElem_of_mem this
  exact ⟨i, hi, e⟩
theorem und_perm {l : List Nat} (hl : l.Perm (List.range l.length)) : (und l).Perm (List.range (und l).length) := by
  refine perm_of_nd _ _ ?_ (fun x hx => ?_) (by rw [List.length_range])
  · rw [List.nodup_iff_pairwise_ne, List.pairwise_iff_getElem]
    intro a b ha hb hab e
    rw [und_len] at ha hb
    obtain ⟨i, hi, rfl⟩ := idx_of hl ha
    obtain ⟨j, hj, rfl⟩ := idx_of hl hb
    have e1 := und_get hl hi
    have e2 := und_get hl hj
    rw [List.getElem?_eq_getElem (by rw [und_len]; exact ha)] at e1
    rw [List.getElem?_eq_getElem (by rw [und_len]; exact hb)] at e2
    have h1 := Option.some.inj e1
    have h2 := Option.some.inj e2
    have : i = j := by rw [← h1, ← h2]; exact e
    subst this
    omega
  · obtain ⟨v, hv, rfl⟩ := List.mem_map.mp hx
    obtain ⟨i, hi, e⟩ := idx_of hl (List.mem_range.mp hv)
    rw [und_len]
    have : l.idxOf v < l.length := List.idxOf_lt_length_of_mem (by rw [← e]; exact List.getElem_mem hi)
    exact List.mem_range.mpr this
theorem getD_nI {l : List Nat} {i : Nat} (hi : i < l.length) : (l.map nI).getD i 0 = nI l[i] := by simp [List.getD, hi]
theorem und_inv {l : List Nat} (hl : l.Perm (List.range l.length)) : Inv2 (l.map nI) ((und l).map nI) := by
  refine ⟨by rw [List.length_map, List.length_map, und_len], fun i hi => ?_⟩
  rw [List.length_map] at hi
  have hlt : l[i] < l.length := List.mem_range.mp (hl.subset (List.getElem_mem hi))
  refine ⟨l[i], getD_nI hi, by rw [List.length_map]; exact hlt, ?_⟩
  rw [getD_nI (by rw [und_len]; exact hlt)]
  have := und_get hl hi
  rw [List.getElem?_eq_getElem (by rw [und_len]; exact hlt)] at this
  rw [Option.some.inj this]
theorem und_inv2 {l : List Nat} (hl : l.Perm (List.range l.length)) : Inv2 ((und l).map nI) (l.map nI) := by
  refine ⟨by rw [List.length_map, List.length_map, und_len], fun v hv => ?_⟩
  rw [List.length_map, und_len] at hv
  obtain ⟨i, hi, rfl⟩ := idx_of hl hv
  have := und_get hl hi
  rw [List.getElem?_eq_getElem (by rw [und_len]; exact hv)] at this
  refine ⟨i, ?_, by rw [List.length_map, und_len]; exact hi, getD_nI hi⟩
  rw [getD_nI (by rw [und_len]; exact hv), Option.some.inj this]
theorem und_spec {l : List Nat} (hl : l.Perm (List.range l.length)) (h9 : l.length ≤ 9) : ∃ h', m_undone_of [rowW (l.map nI)] .empty = some (rowW ((und l).map nI), h') := by
  have hlt : ∀ i (hi : i < l.length), l[i] < l.length := fun i hi => List.mem_range.mp (hl.subset (List.getElem_mem hi))
  have hnd : l.Nodup := hl.symm.nodup List.nodup_range
  obtain ⟨sw', h', e1, F, a2, a3, e2, e3, e4, e5⟩ := for_inv (n := 100000) (tg := gT [2, 3]) (b := bd_undone_of_0) (mi := it_undone_of_1) (sw0 := [some (rowW (l.map nI)), some (.loc 0), none, none]) (h0 := ⟨1, [(0, .lst ((List.replicate l.length 0).map nW))]⟩) l.length
    (fun i sw h2 => ∃ (F : List Nat) (a2 a3 : Option W), sw = [some (rowW (l.map nI)), some (.loc 0), a2, a3] ∧ h2 = ⟨1, [(0, .lst (F.map nW))]⟩ ∧ F.length = l.length ∧ ∀ j (hj : j < l.length), j < i → F[l[j]]? = some j)
    (e_en (e_cons (e_var rfl) e_nil)) (fun i hi sw h2 hR => by
      obtain ⟨F, a2, a3, rfl, rfl, g1, g2⟩ := hR
      have hg : ((l.map nI).map W.int)[i]? = some (.int (nI l[i])) := by
        rw [List.getElem?_map, List.getElem?_map, List.getElem?_eq_getElem hi]; rfl
      refine ⟨.tup [.int (i : Nat), .int (nI l[i])], _, _, _, yld_en.1 i _ hg, rfl, e_asg (e_var rfl) (e_hSub (e_var rfl) (e_var rfl) rfl (ix_pos (p := l[i]) rfl (by rw [List.length_map, g1]; exact hlt i hi))), F.set l[i] i, _, _, rfl, ?_, by rw [List.length_set]; exact g1, fun j hj hji => ?_⟩
      · rw [List.map_set]; rfl
      · by_cases e : j = i
        · subst e
          rw [List.getElem?_set_self (by rw [g1]; exact hlt j hj)]
        · rw [List.getElem?_set_ne (fun z => (List.pairwise_iff_getElem.mp (List.nodup_iff_pairwise_ne.mp hnd)) j i hj hi (by omega) z.symm)]
          exact g2 j hj (by omega)) (fun sw h2 hR => by
      have := (yld_en (ws := (l.map nI).map W.int) (h := h2)).2
      rw [List.length_map, List.length_map] at this
      exact this) (by omega) ⟨List.replicate l.length 0, none, none, rfl, rfl, by simp, fun j hj h0 => by omega⟩
  subst e2 e3
  have eF : F = und l := by
    apply List.ext_getElem?
    intro v
    by_cases hv : v < l.length
    · obtain ⟨i, hi, rfl⟩ := idx_of hl hv
      rw [e5 i hi hi, und_get hl hi]
    · rw [List.getElem?_eq_none (by omega), List.getElem?_eq_none (by rw [und_len]; omega)]
  subst eF
  have e0 : mSet 1 (mOp2 (oTimes true) (mLst false (mCons (mC (.int 0)) (mNil))) (mApp (oLen) (mCons (mVar 0) (mNil)))) [some (rowW (l.map nI)), none, none, none] .empty = some (.nx [some (rowW (l.map nI)), some (.loc 0), none, none] ⟨1, [(0, .lst ((List.replicate l.length 0).map nW))]⟩) := by
    refine e_set (w := .loc 0) (e_op2 (e_lstF (e_cons e_c e_nil) (by simp)) (e_app (e_cons (e_var rfl) e_nil) o_lenRow) ?_)
    rw [List.length_map]
    refine (o_rep (by omega) (by show 1 * _ < _; omega)).trans ?_
    have : (List.replicate l.length [W.int 0]).flatten = (List.replicate l.length 0).map nW := by
      simp [nW]
    rw [this]
    rfl
  refine ⟨_, e_def (e_seq e0 (e_seq e1 (e_ret (e_app (e_cons (e_var rfl) e_nil) ((o_tupL (ws := (und l).map nW) rfl).trans (by rw [nW_map]; rfl)))) ))⟩
theorem c_undone {l : List Nat} (hl : l.Perm (List.range l.length)) (h9 : l.length ≤ 9) (h : Hm) : cP m_undone [rowW (l.map nI)] h = some (rowW ((und l).map nI), h) := by
  have R : Row (l.map nI) := ⟨⟨l, hl, rfl⟩, by rw [List.length_map]; exact h9⟩
  obtain ⟨h', e⟩ := und_spec hl h9
  refine cP_of (h' := .empty) (cld_row _) ?_ (cld_rowW _) h
  exact e_def (e_seq (e_want R rfl) (e_ret (e_app (e_cons (e_var rfl) e_nil) (cO_no (cld_row _) e (cld_rowW _) .empty))))
end K66

set_option Elab.async false
set_option linter.all false
set_option maxRecDepth 10000
set_option maxHeartbeats 400000
namespace K66
open PySem PySem.Spec PyProof.Rows L2 G PySem.W
/-! data that are equal -/
def dat : Nat → W → Bool
  | 0, _ => false
  | _ + 1, .int _ => true
  | d + 1, .tup ws => decide (ws.length < 1000) && ws.all (dat d)
  | d + 1, .fl ws => decide (ws.length < 1000) && ws.all (dat d)
  | _ + 1, _ => false
theorem dat_cld : ∀ (d : Nat) (w : W), dat d w = true → ∀ e, d ≤ e → cld e w = true
  | 0, _, h, _, _ => by cases h
  | d + 1, w, h, 0, he => by omega
  | d + 1, .int _, _, e + 1, _ => rfl
  | d + 1, .tup ws, h, e + 1, he => by
    have h := (Bool.and_eq_true_iff.mp (show (decide (ws.length < 1000) && ws.all (dat d)) = true from h)).2
    exact List.all_eq_true.mpr fun u hu => dat_cld d u (List.all_eq_true.mp h u hu) e (by omega)
  | d + 1, .fl ws, h, e + 1, he => by
    have h := (Bool.and_eq_true_iff.mp (show (decide (ws.length < 1000) && ws.all (dat d)) = true from h)).2
    exact List.all_eq_true.mpr fun u hu => dat_cld d u (List.all_eq_true.mp h u hu) e (by omega)
  | d + 1, .non, h, _ + 1, _ => by cases h
  | d + 1, .bl _, h, _ + 1, _ => by cases h
  | d + 1, .str _, h, _ + 1, _ => by cases h
  | d + 1, .ro _, h, _ + 1, _ => by cases h
  | d + 1, .loc _, h, _ + 1, _ => by cases h
  | d + 1, .fn _, h, _ + 1, _ => by cases h
theorem yld_rg0 {n : Nat} {h : Hm} : (∀ i w, ((List.range n).map nW)[i]? = some w → (sRg 0 1 n).yld i h = some (some w)) ∧ (sRg 0 1 n).yld n h = some none := by
  have := yld_rg (lo := 0) (n := n) (h := h)
  have e : ((List.range n).map fun (i : Nat) => W.int (0 + i)) = (List.range n).map nW := List.map_congr_left fun i _ => by show W.int (0 + (i : Int)) = W.int i; rw [Int.zero_add]
  rw [e] at this
  exact this
abbrev isC (m : MO) : ME := mLc false [3] (mRg1 (mCons (mApp (oLen) (mCons (mVar 1) (mNil))) (mNil))) (gN 3) (mNot (mTb (mApp (cP m) (mCons (mOp2 oIx (mVar 0) (mVar 3)) (mCons (mOp2 oIx (mVar 1) (mVar 3)) (mNil)))))) (mVar 3)
theorem is_comp {m : MO} {w : W} {ws : List W} {h : Hm} (hl : ws.length < 1000) (a2 : Option W) (hlen : ∀ h, oLen [w] h = some (.int (ws.length : Int), h)) (hix : ∀ (i : Nat) u h, ws[i]? = some u → oIx w (.int (i : Int)) h = some (u, h)) (hm : ∀ u ∈ ws, ∀ h, cP m [u, u] h = some (.bl true, h)) :
    isC m [some w, some w, a2, none] h = some (.fl [], h) := by
  have hi : mRg1 (mCons (mApp (oLen) (mCons (mVar 1) (mNil))) (mNil)) [some w, some w, a2, none] h = some (sRg 0 1 ws.length, h) := by
    refine (e_rg1 (e_cons (e_app (e_cons (e_var rfl) e_nil) (hlen h)) e_nil) ?_).trans (by rw [Int.toNat_natCast])
    unfold okR
    rw [decide_eq_true (show -(2 ^ 62) ≤ (ws.length : Int) by omega), decide_eq_true (show (ws.length : Int) < 2 ^ 62 by omega)]; rfl
  have := lc_run (own := false) (vs := [3]) (tg := gN 3) (t := (mNot (mTb (mApp (cP m) (mCons (mOp2 oIx (mVar 0) (mVar 3)) (mCons (mOp2 oIx (mVar 1) (mVar 3)) (mNil))))))) (m := mVar 3) (sw := [some w, some w, a2, none]) (h := h)
    ((List.range ws.length).map nW) (fun _ => false) (fun u => u) hi (yld_rg0 (h := h)).1 (by rw [List.length_map, List.length_range]; exact yld_rg0.2) (fun u hu => by
      obtain ⟨i, hi, rfl⟩ := List.mem_map.mp hu
      have hi := List.mem_range.mp hi
      have hg := List.getElem?_eq_getElem hi
      exact ⟨_, rfl, e_not (q := true) (e_tb (e_app (e_cons (e_op2 (e_var rfl) (e_var rfl) (hix i _ h hg)) (e_cons (e_op2 (e_var rfl) (e_var rfl) (hix i _ h hg)) e_nil)) (hm _ (List.getElem_mem hi) h))), fun z => by cases z⟩) (by rw [List.length_map, List.length_range]; omega)
  refine this.trans ?_
  rw [mk_f, List.filter_eq_nil_iff.mpr (fun _ _ => by simp)]
  rfl
theorem o_eqNil {h : Hm} : oEq (.fl []) (.fl []) h = some (.bl true, h) := by
  have := o_eq_fl (is := []) (js := []) (h := h)
  exact this
theorem is_refl : ∀ (d : Nat) (w : W), dat d w = true → d ≤ 15 → ∀ h, m__law_is d [w, w] h = some (.bl true, h)
  | 0, _, h, _, _ => by cases h
  | d + 1, .int i, _, _, h => by
    show b_m__law_is (m__law_is d) [.int i, .int i] h = _
    unfold b_m__law_is
    have e9 := (e_op2 (o := oEq) (m := mVar 0) (n := mVar 1) (sw := [some (.int i), some (.int i), none, none]) (h := h) (e_var rfl) (e_var rfl) o_eq_int).trans (by rw [beq_self_eq_true])
    refine e_def (e_seq (e_ifF (e_tb (e_op2 (e_var rfl) e_c rfl)) e_next) (e_seq (e_ifF (e_tb (e_isi (e_var rfl) is_bool_int)) e_next) (e_seqR (e_ifT (e_tb (e_isi (e_var rfl) is_int_int)) (e_ret (e_and1 (e_isi (e_var rfl) is_int_int) (e_and1 (e_notV (e_isi (e_var rfl) is_bool_int)) e9)))))))
  | d + 1, .tup ws, hd, h15, h => by
    have hd := Bool.and_eq_true_iff.mp (show (decide (ws.length < 1000) && ws.all (dat d)) = true from hd)
    have hl := of_decide_eq_true hd.1
    have hm : ∀ u ∈ ws, ∀ h, cP (m__law_is d) [u, u] h = some (.bl true, h) := fun u hu h => by
      have hc := dat_cld d u (List.all_eq_true.mp hd.2 u hu) 20 (by omega)
      exact cP_of (by rw [List.all_cons, List.all_cons, hc]; rfl) (is_refl d u (List.all_eq_true.mp hd.2 u hu) (by omega) .empty) rfl h
    have hne : (!((ws.length : Int) == (ws.length : Int))) = false := by rw [beq_self_eq_true]; rfl
    refine e_def (e_seq (e_ifF (e_tb (e_op2 (e_var rfl) e_c rfl)) e_next) (e_seq (e_ifF (e_tb (e_isi (e_var rfl) is_bool_tup)) e_next) (e_seq (e_ifF (e_tb (e_isi (e_var rfl) is_int_tup)) e_next) (e_seq (e_ifF (e_tb (e_isi (e_var rfl) is_str_tup)) e_next) (e_seq (e_set (e_ifeF (e_tb (e_isi (e_var rfl) is_list_tup)) (e_isi (e_var rfl) is_tuple_tup))) (e_seq (e_ifF (e_orF (h' := h) (e_not (q := true) (e_tb (e_var rfl))) ((e_tb (e_op2 (e_app (e_cons (e_var rfl) e_nil) o_lenT) (e_app (e_cons (e_var rfl) e_nil) o_lenT) o_ne_int)).trans (by rw [hne]))) e_next) (e_ret (e_op2 (is_comp hl _ (fun _ => o_lenT) (fun i u h e => o_ixT (ix_pos rfl (List.getElem?_eq_some_iff.mp e).1) e) hm) (e_lstF e_nil (show 0 < 100000 by omega)) o_eqNil))))))))
  | d + 1, .fl ws, hd, h15, h => by
    have hd := Bool.and_eq_true_iff.mp (show (decide (ws.length < 1000) && ws.all (dat d)) = true from hd)
    have hl := of_decide_eq_true hd.1
    have hm : ∀ u ∈ ws, ∀ h, cP (m__law_is d) [u, u] h = some (.bl true, h) := fun u hu h => by
      have hc := dat_cld d u (List.all_eq_true.mp hd.2 u hu) 20 (by omega)
      exact cP_of (by rw [List.all_cons, List.all_cons, hc]; rfl) (is_refl d u (List.all_eq_true.mp hd.2 u hu) (by omega) .empty) rfl h
    have hne : (!((ws.length : Int) == (ws.length : Int))) = false := by rw [beq_self_eq_true]; rfl
    refine e_def (e_seq (e_ifF (e_tb (e_op2 (e_var rfl) e_c rfl)) e_next) (e_seq (e_ifF (e_tb (e_isi (e_var rfl) is_bool_fl)) e_next) (e_seq (e_ifF (e_tb (e_isi (e_var rfl) is_int_fl)) e_next) (e_seq (e_ifF (e_tb (e_isi (e_var rfl) is_str_fl)) e_next) (e_seq (e_set (e_ifeT (e_tb (e_isi (e_var rfl) is_list_fl)) (e_isi (e_var rfl) is_list_fl))) (e_seq (e_ifF (e_orF (h' := h) (e_not (q := true) (e_tb (e_var rfl))) ((e_tb (e_op2 (e_app (e_cons (e_var rfl) e_nil) o_lenF) (e_app (e_cons (e_var rfl) e_nil) o_lenF) o_ne_int)).trans (by rw [hne]))) e_next) (e_ret (e_op2 (is_comp hl _ (fun _ => o_lenF) (fun i u h e => o_ixF (ix_pos rfl (List.getElem?_eq_some_iff.mp e).1) e) hm) (e_lstF e_nil (show 0 < 100000 by omega)) o_eqNil))))))))
  | d + 1, .non, h, _, _ => by cases h
  | d + 1, .bl _, h, _, _ => by cases h
  | d + 1, .str _, h, _, _ => by cases h
  | d + 1, .ro _, h, _, _ => by cases h
  | d + 1, .loc _, h, _, _ => by cases h
  | d + 1, .fn _, h, _, _ => by cases h
/-! ends -/
def pairW (q : Nat × Nat) : W := .tup [nW q.1, nW q.2]
theorem zpW_map : ∀ (a b : List Nat), zpW (a.map nW) (b.map nW) = (a.zip b).map pairW
  | [], _ => rfl
  | _ :: _, [] => rfl
  | x :: xs, y :: ys => by
    show W.tup [nW x, nW y] :: zpW (xs.map nW) (ys.map nW) = _
    rw [zpW_map xs ys]; rfl
theorem rev_getD {p : List Int} {i : Nat} (hi : i < p.length) : p.reverse.getD (p.length - 1 - i) 0 = p.getD i 0 := by
  rw [List.getD_eq_getElem?_getD, List.getD_eq_getElem?_getD, List.getElem?_reverse (by omega)]
  rw [show p.length - 1 - (p.length - 1 - i) = i by omega]
theorem lenF_rev {r : Int → Int → Bool} {p : List Int} {i : Nat} (hi : i < p.length) : (lenF (fl r) p.reverse)[p.length - 1 - i]? = some (endL r p i) := by
  rw [lenF_get _ _ (by rw [List.length_reverse]; omega), rev_getD hi]
  unfold endL
  rw [List.drop_reverse, show p.length - (p.length - 1 - i + 1) = i by omega]
theorem ends_eq (p : List Int) : ((lenF gt p.reverse).zip (lenF lt p.reverse)).reverse = endsL p := by
  apply List.ext_getElem?
  intro i
  by_cases hi : i < p.length
  · have hlz : ((lenF gt p.reverse).zip (lenF lt p.reverse)).length = p.length := by
      rw [List.length_zip, lenF_len, lenF_len, List.length_reverse, Nat.min_self]
    rw [List.getElem?_reverse (by rw [hlz]; exact hi), hlz]
    have e1 := lenF_rev (r := lt) hi
    have e2 := lenF_rev (r := gt) hi
    rw [fl_lt] at e1
    rw [fl_gt] at e2
    rw [(List.getElem?_zip_eq_some (z := (endL lt p i, endL gt p i))).mpr ⟨e1, e2⟩]
    unfold endsL
    rw [List.getElem?_map, List.getElem?_range hi]; rfl
  · rw [List.getElem?_eq_none (by rw [List.length_reverse, List.length_zip, lenF_len, lenF_len, List.length_reverse]; omega), List.getElem?_eq_none (by unfold endsL; rw [List.length_map, List.length_range]; omega)]
theorem ends_spec {p : List Int} (R : Row p) : m_ends_at [rowW p] .empty = some (.loc 0, ⟨1, [(0, .lst ((endsL p).map pairW))]⟩) := by
  have hr : p.reverse.length ≤ 9 := R.rev.le
  refine e_def (e_seq (e_want R rfl) (e_seq (e_par (e_cons (e_app (e_cons (e_rev (e_var rfl) rev_row) (e_cons e_c e_nil)) (e_lengths held_fall hr .empty)) (e_cons (e_app (e_cons (e_rev (e_var rfl) rev_row) (e_cons e_c e_nil)) (e_lengths held_rise hr .empty)) e_nil))) (e_ret (e_rev (w := .fl ((endsL p).reverse.map pairW)) (h' := .empty) ?_ ?_))))
  · unfold mLstZip
    rw [e_cons (e_var rfl) (e_cons (e_var rfl) e_nil)]
    show some (mk false (zpW ((lenF gt p.reverse).map nW) ((lenF lt p.reverse).map nW)) .empty) = _
    rw [zpW_map, mk_f, ← ends_eq, List.reverse_reverse]
  · show some (mk true ((endsL p).reverse.map pairW).reverse .empty) = _
    rw [← List.map_reverse, List.reverse_reverse]; rfl
end K66

set_option Elab.async false
set_option linter.all false
set_option maxRecDepth 10000
set_option maxHeartbeats 400000
namespace K66
open PySem PySem.Spec PyProof.Rows L2 G PySem.W
theorem e_meth {o : MM} {m : ME} {ma : MA} {sw : Sw} {h h1 h2 : Hm} {n : Nat} {us ws : List W} {q : Option (W × Hm)} (e1 : m sw h = some (.loc n, h1)) (e2 : hl h1 n = some us) (e3 : ma sw h1 = some (ws, h2)) (e4 : o (.loc n) ws h2 = q) : mMeth o m ma sw h = q := by
  unfold mMeth; rw [e1]
  show (if isL h1 (.loc n) = true then (ma sw h1).bind fun q => o (.loc n) q.1 q.2 else none) = _
  have : isL h1 (.loc n) = true := by show (hl h1 n).isSome = true; rw [e2]; rfl
  rw [if_pos this, e3]; exact e4
theorem o_app {n : Nat} {ws : List W} {w : W} {h : Hm} (e : hl h n = some ws) (hn : ws.length < 100000) : oApp (.loc n) [w] h = some (.non, h.set n (.lst (ws ++ [w]))) := by
  show ((hl h n).bind fun ws => if ws.length < 100000 then some (W.non, h.set n (.lst (ws ++ [w]))) else none) = _
  rw [e]; exact if_pos hn
theorem seqI {k n : Nat} (hk : k < n) : seqIndex? (k : Int) n = some k := by
  unfold seqIndex?
  simp; omega
theorem o_popAt {n k : Nat} {ws : List W} {w : W} {h : Hm} (e : hl h n = some ws) (hn : k < 1000) (hw : ws[k]? = some w) : oPopAt (.loc n) [.int (k : Int)] h = some (w, h.set n (.lst (ws.eraseIdx k))) := by
  have hk : k < ws.length := (List.getElem?_eq_some_iff.mp hw).1
  have : ∀ z : Int, -(2 ^ 63) ≤ z ∧ z < 2 ^ 63 → oPopAt (.loc n) [.int z] h = (seqIndex? z ws.length).bind fun k => ws[k]?.map fun w => (w, h.set n (.lst (ws.eraseIdx k))) := fun z c => by
    show ((hl h n).bind fun ws => if -(2 ^ 63) ≤ z ∧ z < 2 ^ 63 then (seqIndex? z ws.length).bind fun k => ws[k]?.map fun w => (w, h.set n (.lst (ws.eraseIdx k))) else none) = _
    rw [e]; exact if_pos c
  rw [this k ⟨by omega, by omega⟩, seqI hk]
  show (ws[k]?.map fun w => (w, h.set n (.lst (ws.eraseIdx k)))) = _
  rw [hw]; rfl
theorem o_ins {n k : Nat} {ws : List W} {w : W} {h : Hm} (e : hl h n = some ws) (hk : k < 1000) (hn : ws.length < 100000) : oIns (.loc n) [.int (k : Int), w] h = some (.non, h.set n (.lst (ws.take k ++ [w] ++ ws.drop k))) := by
  have : ∀ z : Int, 0 ≤ z ∧ z < 2 ^ 63 ∧ ws.length < 100000 → oIns (.loc n) [.int z, w] h = some (.non, h.set n (.lst (ws.take z.toNat ++ [w] ++ ws.drop z.toNat))) := fun z c => by
    show ((hl h n).bind fun ws => if 0 ≤ z ∧ z < 2 ^ 63 ∧ ws.length < 100000 then some (W.non, h.set n (.lst (ws.take z.toNat ++ [w] ++ ws.drop z.toNat))) else none) = _
    rw [e]; exact if_pos c
  rw [this k ⟨by omega, by omega, hn⟩, Int.toNat_natCast]
theorem o_pop {n : Nat} {ws : List W} {w : W} {h : Hm} (e : hl h n = some (ws ++ [w])) : oPop (.loc n) [] h = some (w, h.set n (.lst ws)) := by
  show ((hl h n).bind fun ws => ws[ws.length - 1]?.map fun w => (w, h.set n (.lst ws.dropLast))) = _
  rw [e]
  show ((ws ++ [w])[(ws ++ [w]).length - 1]?.map fun u => (u, h.set n (.lst (ws ++ [w]).dropLast))) = _
  simp
theorem o_ext {n : Nat} {ws us : List W} {h : Hm} (e : hl h n = some ws) (hn : ws.length + us.length < 100000) : oExt (.loc n) [.fl us] h = some (.non, h.set n (.lst (ws ++ us))) := by
  show ((hl h n).bind fun ws => (some us).bind fun us => if ws.length + us.length < 100000 then some (W.non, h.set n (.lst (ws ++ us))) else none) = _
  rw [e]; exact if_pos hn
/-- the pot -/
structure Pt (h : Hm) (i : Nat) : Prop where
  ok : HOk h
  ex : ∃ a b : Int, h.get i = some (.lst [.int a, .int b]) ∧ 0 ≤ a ∧ 0 ≤ b ∧ b < 2147483648
theorem Pt.lt {h : Hm} {i : Nat} (P : Pt h i) : i < h.nx := by obtain ⟨a, b, e, _⟩ := P.ex; exact P.ok.lt e
theorem Pt.new {h : Hm} {i : Nat} (P : Pt h i) (l : List Nat) : Pt (h.new (.lst (l.map nW))) i := by
  have hlt := P.lt
  obtain ⟨a, b, e, q⟩ := P.ex
  exact ⟨P.ok.new (cld_nW l), a, b, by rw [get_new_ne (by omega)]; exact e, q⟩
theorem Pt.set {h : Hm} {i n : Nat} (P : Pt h i) (hn : n ≠ i) (l : List Nat) : Pt (h.set n (.lst (l.map nW))) i := by
  obtain ⟨a, b, e, q⟩ := P.ex
  exact ⟨P.ok.set n (cld_nW l), a, b, by rw [get_set_ne hn]; exact e, q⟩
theorem c_draw {h : Hm} {i s : Nat} (P : Pt h i) (hs : 0 < s) (hs2 : s < 1000) : ∃ (d : Nat) (h2 : Hm), cG m__law_draw [.loc i, .int (s : Int)] h = some (nW d, h2) ∧ d < s ∧ Pt h2 i ∧ h2.nx = h.nx ∧ ∀ n, n ≠ i → h2.get n = h.get n := by
  obtain ⟨a, b, e, q1, q2, q3⟩ := P.ex
  obtain ⟨d, a', b', g1, g2, g3, g4, g5, g6⟩ := draw_spec (s := (s : Int)) e (by omega) (by omega) q1 q2 q3
  have ho : HOk (h.set i (.lst [.int a', .int b'])) := P.ok.set i rfl
  refine ⟨d.toNat, h.set i (.lst [.int a', .int b']), ?_, by omega, ⟨ho, a', b', get_set_self e, g3, g4, g5⟩, rfl, fun n hn => get_set_ne (Ne.symm hn)⟩
  have := cG_same g6 rfl ho rfl
  rw [this]
  unfold nW
  rw [Int.toNat_of_nonneg g1]
theorem cG_pt {m : MO} {ws : List W} {w : W} {h h2 : Hm} {i : Nat} (e : m ws h = some (w, h2)) (hw : cld 20 w = true) (P : Pt h2 i) (hi : i < h.nx) : ∃ h3, cG m ws h = some (w, h3) ∧ Pt h3 i ∧ h3.nx = h.nx := by
  refine ⟨_, cG_of e hw P.ok, ⟨P.ok.old h.nx, ?_⟩, rfl⟩
  obtain ⟨a, b, e2, q⟩ := P.ex
  refine ⟨a, b, ?_, q⟩
  show lk (oldOs h.nx h2.os) i = _
  rw [oldOs_get hi]; exact e2
theorem e_nil_ne {h : Hm} {n : Nat} {L : List Nat} (e : hl h n = some (L.map nW)) : oNe (.loc n) (.fl []) h = some (.bl (!L.isEmpty), h) := by
  have e' : hl h n = some ((L.map nI).map W.int) := by rw [← nW_map]; exact e
  refine (o_ne_locfl (js := []) e').trans ?_
  cases L <;> rfl
theorem e_nil_eq {h : Hm} {n : Nat} {L : List Nat} (e : hl h n = some (L.map nW)) : oEq (.loc n) (.fl []) h = some (.bl L.isEmpty, h) := by
  have e' : hl h n = some ((L.map nI).map W.int) := by rw [← nW_map]; exact e
  refine (o_eq_locfl (js := []) e').trans ?_
  cases L <;> rfl
theorem era_map {α β : Type} (f : α → β) : ∀ (l : List α) (k : Nat), (l.map f).eraseIdx k = (l.eraseIdx k).map f
  | [], _ => rfl
  | _ :: _, 0 => rfl
  | x :: l, k + 1 => by rw [List.map_cons, List.eraseIdx_cons_succ, List.eraseIdx_cons_succ, List.map_cons, era_map f l k]
theorem era_perm {α : Type} : ∀ {l : List α} {d : Nat} (hd : d < l.length), (l[d] :: l.eraseIdx d).Perm l
  | x :: l, 0, _ => .refl _
  | x :: l, d + 1, hd => by
    have := era_perm (l := l) (d := d) (by simpa using hd)
    rw [List.eraseIdx_cons_succ]
    exact (List.Perm.swap _ _ _).trans (this.cons x)
theorem mixed_spec {h : Hm} {i many : Nat} (P : Pt h i) (hm : many ≤ 9) : ∃ (F : List Nat) (h2 : Hm), m__law_mixed [.loc i, .int (many : Int)] h = some (rowW (F.map nI), h2) ∧ F.Perm (List.range many) ∧ Pt h2 i := by
  have hlt := P.lt
  have P1 := P.new (List.range many)
  have P2 := P1.new []
  obtain ⟨sw', h', e1, L, F, e2, e3, e4, e5, e7⟩ := wh_inv (c := ts__law_mixed_1) (b := bd__law_mixed_0)
    (fun k sw h2 => ∃ L F : List Nat, sw = [some (.loc i), some (.int (many : Int)), some (.loc h.nx), some (.loc (h.nx + 1))] ∧ Pt h2 i ∧ hl h2 h.nx = some (L.map nW) ∧ hl h2 (h.nx + 1) = some (F.map nW) ∧ (F ++ L).Perm (List.range many) ∧ k = L.length)
    (fun sw h2 => ∃ L F : List Nat, sw = [some (.loc i), some (.int (many : Int)), some (.loc h.nx), some (.loc (h.nx + 1))] ∧ Pt h2 i ∧ hl h2 (h.nx + 1) = some (F.map nW) ∧ (F ++ L).Perm (List.range many) ∧ L = [])
    (fun k sw h2 hR => by
      obtain ⟨L, F, rfl, Q, g1, g2, g3, rfl⟩ := hR
      have hc : ts__law_mixed_1 [some (.loc i), some (.int (many : Int)), some (.loc h.nx), some (.loc (h.nx + 1))] h2 = some (!L.isEmpty, h2) := e_tb (e_op2 (e_var rfl) (e_lstF e_nil (show 0 < 100000 by omega)) (e_nil_ne g1))
      have hlen := g3.length_eq
      rw [List.length_append, List.length_range] at hlen
      cases hL : L with
      | nil =>
        subst hL
        exact .inl ⟨h2, hc, [], F, rfl, Q, g2, g3, rfl⟩
      | cons x L0 =>
        have hpos : 0 < L.length := by rw [hL]; simp
        obtain ⟨d, h3, d1, d2, d3, d4, d5⟩ := c_draw Q hpos (by omega)
        have k1 : hl h3 h.nx = some (L.map nW) := by unfold hl at g1 ⊢; rw [d5 _ (by omega)]; exact g1
        have k2 : hl h3 (h.nx + 1) = some (F.map nW) := by unfold hl at g2 ⊢; rw [d5 _ (by omega)]; exact g2
        have hg : (L.map nW)[d]? = some (nW L[d]) := by rw [List.getElem?_map, List.getElem?_eq_getElem d2]; rfl
        refine .inr ⟨h2, [some (.loc i), some (.int (many : Int)), some (.loc h.nx), some (.loc (h.nx + 1))], (h3.set h.nx (.lst ((L.eraseIdx d).map nW))).set (h.nx + 1) (.lst ((F ++ [L[d]]).map nW)), (L.eraseIdx d).length, ?_, ?_, ?_, L.eraseIdx d, F ++ [L[d]], rfl, ?_, ?_, ?_, ?_, rfl⟩
        · rw [hc, hL]; rfl
        · refine e_drop (w := .non) (e_meth (e_var rfl) g2 (e_cons (e_meth (e_var rfl) g1 (e_cons (e_app (e_cons (e_var rfl) (e_cons (e_app (e_cons (e_var rfl) e_nil) (o_lenL g1)) e_nil)) ?_) e_nil) (o_popAt (n := h.nx) (k := d) k1 (by omega) hg)) e_nil) ?_)
          · rw [List.length_map]; exact d1
          · rw [← era_map nW L d]
            refine (o_app (ws := F.map nW) (by unfold hl; rw [get_set_ne (by omega)]; exact k2) (by rw [List.length_map]; omega)).trans ?_
            rw [List.map_append]; rfl
        · rw [hL] at d2 ⊢
          rw [List.length_eraseIdx_of_lt (by rw [← hL]; rw [← hL] at d2; exact d2)]
          simp
        · exact (d3.set (by omega) _).set (by omega) _
        · unfold hl; rw [get_set_ne (by omega), get_set_self (hl_eq k1)]
        · unfold hl; rw [get_set_self (u := .lst (F.map nW)) (by rw [get_set_ne (by omega)]; exact hl_eq k2)]
        · refine List.Perm.trans ?_ g3
          rw [List.append_assoc]
          exact List.Perm.append_left F (era_perm d2))
    100000 many [some (.loc i), some (.int (many : Int)), some (.loc h.nx), some (.loc (h.nx + 1))] ((h.new (.lst ((List.range many).map nW))).new (.lst (([] : List Nat).map nW))) (by omega)
    ⟨List.range many, [], rfl, P2, by unfold hl; rw [get_new_ne (by show h.nx + 1 ≠ h.nx; omega), get_new_self], by unfold hl; rw [show h.nx + 1 = (h.new (.lst ((List.range many).map nW))).nx from rfl, get_new_self], .refl _, by rw [List.length_range]⟩
  subst e2 e7
  rw [List.append_nil] at e5
  refine ⟨F, h', ?_, e5, e3⟩
  have e0 : mPar 2 3 (mCons (mLstRg true (mR1 (mVar 1))) (mCons (mLst true (mNil)) (mNil))) [some (.loc i), some (.int (many : Int)), none, none] h = some (.nx [some (.loc i), some (.int (many : Int)), some (.loc h.nx), some (.loc (h.nx + 1))] ((h.new (.lst ((List.range many).map nW))).new (.lst (([] : List Nat).map nW)))) := by
    refine (e_par (e_cons (e_lstRgT (n := many) (e_var rfl) (by omega)) (e_cons (e_lstT e_nil (show 0 < 100000 by omega)) e_nil))).trans ?_
    rw [← nW_map]; rfl
  exact e_def (e_seq e0 (e_seq e1 (e_ret (e_app (e_cons (e_var rfl) e_nil) ((o_tupL e4).trans (by rw [nW_map]; rfl))))))
end K66

set_option Elab.async false
set_option linter.all false
set_option maxRecDepth 10000
set_option maxHeartbeats 400000
namespace K66
open PySem PySem.Spec PyProof.Rows L2 G PySem.W
theorem Row.of {F : List Nat} {n : Nat} (hp : F.Perm (List.range n)) (hn : n ≤ 9) : Row (F.map nI) := by
  have hl : F.length = n := by rw [hp.length_eq, List.length_range]
  exact ⟨⟨F, by rw [hl]; exact hp, rfl⟩, by rw [List.length_map, hl]; exact hn⟩
theorem hl_get {h h2 : Hm} {n : Nat} {ws : List W} (e : hl h n = some ws) (g : h2.get n = h.get n) : hl h2 n = some ws := by unfold hl at e ⊢; rw [g]; exact e
abbrev sw9 (i many mode : Nat) (a2 a5 a6 a7 a8 a9 a10 : Option W) : Sw := [some (.loc i), some (.int 9), a2, some (nW many), some (nW mode), a5, a6, a7, a8, a9, a10]
theorem c_drawI {h : Hm} {i : Nat} {s : Nat} {z : Int} (hz : z = (s : Int)) (P : Pt h i) (hs : 0 < s) (hs2 : s < 1000) : ∃ (d : Nat) (h2 : Hm), cG m__law_draw [.loc i, .int z] h = some (nW d, h2) ∧ d < s ∧ Pt h2 i ∧ h2.nx = h.nx ∧ ∀ n, n ≠ i → h2.get n = h.get n := by
  subst hz; exact c_draw P hs hs2
theorem c_mixed {h : Hm} {i many : Nat} (P : Pt h i) (hm : many ≤ 9) : ∃ (F : List Nat) (h2 : Hm), cG m__law_mixed [.loc i, nW many] h = some (rowW (F.map nI), h2) ∧ F.Perm (List.range many) ∧ Pt h2 i := by
  obtain ⟨F, h2, e, g, Q⟩ := mixed_spec P hm
  obtain ⟨h3, e3, Q3, _⟩ := cG_pt e (cld_rowW _) Q P.lt
  exact ⟨F, h3, e3, g, Q3⟩
/-- pops and puts in -/
theorem row1 {h : Hm} {i many mode r0 : Nat} (P : Pt h i) (hm : many ≤ 9) (hr : r0 ≠ i) (g0 : hl h r0 = some ((List.range many).map nW)) : ∃ (F : List Nat) (sw' : Sw) (h2 : Hm), mFor 100000 it__law_row_1 (gN 5) bd__law_row_0 (sw9 i many mode (some (.loc r0)) none none none none none none) h = some (.nx sw' h2) ∧ sw'[2]? = some (some (.loc r0)) ∧ F.Perm (List.range many) ∧ Pt h2 i ∧ hl h2 r0 = some (F.map nW) := by
  obtain ⟨d, h2, d1, d2, d3, d4, d5⟩ := c_drawI (s := 4) (z := 4) rfl P (by omega) (by omega)
  have g1 := hl_get g0 (d5 r0 hr)
  have hi : it__law_row_1 (sw9 i many mode (some (.loc r0)) none none none none none none) h = some (sRg 0 1 d, h2) := by
    refine (e_rg1 (b := (d : Int)) (e_cons (e_app (e_cons (e_var rfl) (e_cons e_c e_nil)) d1) e_nil) (okR_small (by omega) (by omega))).trans (by rw [Int.toNat_natCast])
  obtain ⟨sw', h', e1, F, a5, a10, e2, e3, e4, e5⟩ := for_inv (n := 100000) (tg := gN 5) (b := bd__law_row_0) d
    (fun k sw h3 => ∃ (F : List Nat) (a5 a10 : Option W), sw = sw9 i many mode (some (.loc r0)) a5 none none none none a10 ∧ F.Perm (List.range many) ∧ Pt h3 i ∧ hl h3 r0 = some (F.map nW)) hi (fun k hk sw h3 hR => by
      obtain ⟨F, a5, a10, rfl, q1, q2, q3⟩ := hR
      have hlen : F.length = many := by rw [q1.length_eq, List.length_range]
      by_cases hm0 : many = 0
      · refine ⟨nW k, _, sw9 i many mode (some (.loc r0)) (some (nW k)) none none none none a10, h3, yld_rg0.1 k _ (by rw [List.getElem?_map, List.getElem?_range hk]; rfl), rfl, e_ifF ((e_tb (e_op2 (e_var rfl) e_c o_gt)).trans ?_) e_next, F, _, _, rfl, q1, q2, q3⟩
        rw [decide_eq_false (by omega)]
      · obtain ⟨x, h4, x1, x2, x3, x4, x5⟩ := c_draw (s := many) q2 (by omega) (by omega)
        have k1 := hl_get q3 (x5 r0 hr)
        have hg : (F.map nW)[x]? = some (nW F[x]) := by rw [List.getElem?_map, List.getElem?_eq_getElem (by omega)]; rfl
        have x6 : Pt (h4.set r0 (.lst ((F.eraseIdx x).map nW))) i := x3.set hr _
        obtain ⟨y, h5, y1, y2, y3, y4, y5⟩ := c_draw (s := many) x6 (by omega) (by omega)
        have k2 : hl h5 r0 = some ((F.eraseIdx x).map nW) := hl_get (hl_set k1) (y5 r0 hr)
        refine ⟨nW k, _, sw9 i many mode (some (.loc r0)) (some (nW k)) none none none none (some (nW F[x])), h5.set r0 (.lst ((((F.eraseIdx x).take y ++ [F[x]]) ++ (F.eraseIdx x).drop y).map nW)), yld_rg0.1 k _ (by rw [List.getElem?_map, List.getElem?_range hk]; rfl), rfl, e_ifT ((e_tb (e_op2 (e_var rfl) e_c o_gt)).trans ?_) (e_seq (e_set (w := nW F[x]) (e_meth (e_var rfl) q3 (e_cons (e_app (e_cons (e_var rfl) (e_cons (e_var rfl) e_nil)) x1) e_nil) (o_popAt k1 (by omega) hg))) (e_drop (w := .non) (e_meth (us := (F.eraseIdx x).map nW) (e_var rfl) ?_ (e_cons (e_app (e_cons (e_var rfl) (e_cons (e_var rfl) e_nil)) ?_) (e_cons (e_var rfl) e_nil)) ((o_ins (k := y) k2 (by omega) ?_).trans ?_)))), _, _, _, rfl, ?_, y3.set hr _, hl_set k2⟩
        · rw [decide_eq_true (by omega)]
        · rw [era_map]; exact hl_set k1
        · rw [era_map]; exact y1
        · rw [List.length_map, List.length_eraseIdx_of_lt (by omega)]; omega
        · rw [List.map_append, List.map_append, List.map_take, List.map_drop]; rfl
        · refine List.Perm.trans ?_ q1
          refine List.Perm.trans ?_ (era_perm (l := F) (d := x) (by omega))
          rw [List.append_assoc]
          refine List.perm_middle.trans ?_
          show (F[x] :: ((F.eraseIdx x).take y ++ (F.eraseIdx x).drop y)).Perm _
          rw [List.take_append_drop]) (fun sw h3 hR => yld_rg0.2) (by omega) ⟨List.range many, none, none, rfl, .refl _, d3, g1⟩
  subst e2
  exact ⟨F, _, h', e1, rfl, e3, e4, e5⟩
theorem e_len {h : Hm} {n : Nat} {F : List Nat} (e : hl h n = some (F.map nW)) : oLen [.loc n] h = some (nW F.length, h) := by
  refine (o_lenL e).trans ?_
  rw [List.length_map]; rfl
/-- falling stretches -/
theorem row3 {h : Hm} {i many mode f0 : Nat} {a2 : Option W} (P : Pt h i) (hm : many ≤ 9) (hf : f0 ≠ i) (g0 : hl h f0 = some (([] : List Nat).map nW)) : ∃ (F : List Nat) (sw' : Sw) (h2 : Hm), wh ts__law_row_6 bd__law_row_5 100000 (sw9 i many mode a2 none (some (.loc f0)) none none none none) h = some (.nx sw' h2) ∧ sw'[6]? = some (some (.loc f0)) ∧ F.Perm (List.range many) ∧ Pt h2 i ∧ hl h2 f0 = some (F.map nW) := by
  obtain ⟨sw', h', e1, F, a9, e2, e3, e4, e5⟩ := wh_inv (c := ts__law_row_6) (b := bd__law_row_5)
    (fun k sw h2 => ∃ (F : List Nat) (a9 : Option W), sw = sw9 i many mode a2 none (some (.loc f0)) none none a9 none ∧ Pt h2 i ∧ hl h2 f0 = some (F.map nW) ∧ F.Perm (List.range F.length) ∧ F.length ≤ many ∧ k = many - F.length)
    (fun sw h2 => ∃ (F : List Nat) (a9 : Option W), sw = sw9 i many mode a2 none (some (.loc f0)) none none a9 none ∧ Pt h2 i ∧ hl h2 f0 = some (F.map nW) ∧ F.Perm (List.range many))
    (fun k sw h2 hR => by
      obtain ⟨F, a9, rfl, q1, q2, q3, q4, rfl⟩ := hR
      have hc : ts__law_row_6 (sw9 i many mode a2 none (some (.loc f0)) none none a9 none) h2 = some (decide ((F.length : Int) < (many : Int)), h2) := e_tb (e_op2 (e_app (e_cons (e_var rfl) e_nil) (e_len q2)) (e_var rfl) o_lt)
      by_cases hd : F.length = many
      · refine .inl ⟨h2, ?_, F, a9, rfl, q1, q2, by rw [← hd]; exact q3⟩
        rw [hc, decide_eq_false (by omega)]
      · obtain ⟨d, h3, d1, d2, d3, d4, d5⟩ := c_drawI (s := many - F.length) (z := (many : Int) - (F.length : Int)) (by omega) q1 (by omega) (by omega)
        have k1 := hl_get q2 (d5 f0 hf)
        have hr : (mRev false (mLstRg false (mR2 (mApp (oLen) (mCons (mVar 6) (mNil))) (mOp2 (oAdd false) (mApp (oLen) (mCons (mVar 6) (mNil))) (mVar 9))))) (sw9 i many mode a2 none (some (.loc f0)) none none (some (.int (1 + (d : Int)))) none) h3 = some (.fl (((List.range (d + 1)).map fun j => F.length + j).reverse.map nW), h3) := by
          have hm2 : mR2 (mApp (oLen) (mCons (mVar 6) (mNil))) (mOp2 (oAdd false) (mApp (oLen) (mCons (mVar 6) (mNil))) (mVar 9)) (sw9 i many mode a2 none (some (.loc f0)) none none (some (.int (1 + (d : Int)))) none) h3 = some ((F.length : Int), (F.length : Int) + (1 + (d : Int)), h3) := by
            unfold mR2
            rw [e_app (e_cons (e_var rfl) e_nil) (e_len k1)]
            show ((mOp2 (oAdd false) (mApp (oLen) (mCons (mVar 6) (mNil))) (mVar 9)) _ h3).bind _ = _
            rw [e_op2 (e_app (e_cons (e_var rfl) e_nil) (e_len k1)) (e_var rfl) o_add]; rfl
          have hrg : rgW (F.length : Int) ((F.length : Int) + (1 + (d : Int))) = ((List.range (d + 1)).map fun j => F.length + j).map nW := by
            unfold rgW
            rw [show ((F.length : Int) + (1 + (d : Int)) - (F.length : Int)).toNat = d + 1 by omega, List.map_map]
            exact List.map_congr_left fun j _ => rfl
          refine e_rev (lstRg_eq hm2 ?_) ?_
          · unfold okRg
            rw [okR_small (by omega) (by omega), okR_small (by omega) (by omega), decide_eq_true (by omega)]; rfl
          · rw [hrg]
            show some (mk false ((((List.range (d + 1)).map fun j => F.length + j).map nW).reverse) h3) = _
            rw [mk_f, List.map_reverse]
        refine .inr ⟨h2, sw9 i many mode a2 none (some (.loc f0)) none none (some (.int (1 + (d : Int)))) none, h3.set f0 (.lst ((F ++ ((List.range (d + 1)).map fun j => F.length + j).reverse).map nW)), many - (F ++ ((List.range (d + 1)).map fun j => F.length + j).reverse).length, ?_, ?_, ?_, F ++ ((List.range (d + 1)).map fun j => F.length + j).reverse, _, rfl, d3.set hf _, hl_set k1, ?_, ?_, rfl⟩
        · rw [hc, decide_eq_true (by omega)]
        · refine e_seq (e_set (e_op2 e_c (e_app (e_cons (e_var rfl) (e_cons (e_op2 (e_var rfl) (e_app (e_cons (e_var rfl) e_nil) (e_len q2)) o_sub) e_nil)) d1) o_add)) (e_drop (w := .non) (e_meth (e_var rfl) k1 (e_cons hr e_nil) ((o_ext k1 ?_).trans ?_)))
          · simp; omega
          · rw [List.map_append]
        · simp; omega
        · rw [List.length_append, List.length_reverse, List.length_map, List.length_range]
          refine (List.Perm.append q3 (List.reverse_perm ((List.range (d + 1)).map fun j => F.length + j))).trans (List.Perm.of_eq ?_)
          exact List.range_add.symm
        · simp; omega)
    100000 many (sw9 i many mode a2 none (some (.loc f0)) none none none none) h (by omega) ⟨[], none, rfl, P, g0, .nil, Nat.zero_le _, rfl⟩
  subst e2
  exact ⟨F, _, h', e1, rfl, e5, e3, e4⟩
end K66

set_option Elab.async false
set_option linter.all false
set_option maxRecDepth 10000
set_option maxHeartbeats 400000
namespace K66
open PySem PySem.Spec PyProof.Rows L2 G PySem.W
/-- through a stack -/
theorem row2 {h : Hm} {i many mode s0 f0 : Nat} {a2 : Option W} (P : Pt h i) (hm : many ≤ 9) (hs : s0 ≠ i) (hf : f0 ≠ i) (hsf : s0 ≠ f0) (g0 : hl h s0 = some (([] : List Nat).map nW)) (g1 : hl h f0 = some (([] : List Nat).map nW)) : ∃ (F : List Nat) (sw' : Sw) (h2 : Hm), wh ts__law_row_3 bd__law_row_2 100000 (sw9 i many mode a2 none (some (.loc f0)) (some (.loc s0)) (some (nW 0)) none none) h = some (.nx sw' h2) ∧ (∃ a8, sw' = sw9 i many mode a2 none (some (.loc f0)) (some (.loc s0)) a8 none none) ∧ F.Perm (List.range many) ∧ Pt h2 i ∧ hl h2 f0 = some (F.map nW) := by
  obtain ⟨sw', h', e1, F, a, e2, e3, e4, e5⟩ := wh_inv (c := ts__law_row_3) (b := bd__law_row_2)
    (fun k sw h2 => ∃ (F S : List Nat) (a : Nat), sw = sw9 i many mode a2 none (some (.loc f0)) (some (.loc s0)) (some (nW a)) none none ∧ Pt h2 i ∧ hl h2 f0 = some (F.map nW) ∧ hl h2 s0 = some (S.map nW) ∧ (F ++ S).Perm (List.range a) ∧ a ≤ many ∧ k = (many - F.length) + (many - a))
    (fun sw h2 => ∃ (F : List Nat) (a : Nat), sw = sw9 i many mode a2 none (some (.loc f0)) (some (.loc s0)) (some (nW a)) none none ∧ Pt h2 i ∧ hl h2 f0 = some (F.map nW) ∧ F.Perm (List.range many))
    (fun k sw h2 hR => by
      obtain ⟨F, S, a, rfl, q1, q2, q3, q4, q5, rfl⟩ := hR
      have hlen := q4.length_eq
      rw [List.length_append, List.length_range] at hlen
      have hc : ts__law_row_3 (sw9 i many mode a2 none (some (.loc f0)) (some (.loc s0)) (some (nW a)) none none) h2 = some (decide ((F.length : Int) < (many : Int)), h2) := e_tb (e_op2 (e_app (e_cons (e_var rfl) e_nil) (e_len q2)) (e_var rfl) o_lt)
      by_cases hd : F.length = many
      · refine .inl ⟨h2, ?_, F, a, rfl, q1, q2, ?_⟩
        · rw [hc, decide_eq_false (by omega)]
        · have hS : S = [] := List.length_eq_zero_iff.mp (by omega)
          subst hS
          rw [List.append_nil] at q4
          rw [show many = a by omega]; exact q4
      · -- what the test says, the heap behind it
        have key : ∃ (b : Bool) (h3 : Hm), (mAndT (mTb (mOp2 (oLt) (mVar 8) (mVar 3))) (mOrT (mTb (mOp2 (oEq) (mVar 7) (mLst false (mNil)))) (mTb (mOp2 (oEq) (mApp (cG m__law_draw) (mCons (mVar 0) (mCons (mC (.int 2)) (mNil)))) (mC (.int 0)))))) (sw9 i many mode a2 none (some (.loc f0)) (some (.loc s0)) (some (nW a)) none none) h2 = some (b, h3) ∧
            Pt h3 i ∧ hl h3 f0 = some (F.map nW) ∧ hl h3 s0 = some (S.map nW) ∧ (b = true → a < many) ∧ (b = false → S ≠ []) := by
          have e1 : mTb (mOp2 (oLt) (mVar 8) (mVar 3)) (sw9 i many mode a2 none (some (.loc f0)) (some (.loc s0)) (some (nW a)) none none) h2 = some (decide ((a : Int) < (many : Int)), h2) := e_tb (e_op2 (e_var rfl) (e_var rfl) o_lt)
          by_cases ha : a < many
          · rw [decide_eq_true (by omega)] at e1
            have e2 : mTb (mOp2 (oEq) (mVar 7) (mLst false (mNil))) (sw9 i many mode a2 none (some (.loc f0)) (some (.loc s0)) (some (nW a)) none none) h2 = some (S.isEmpty, h2) := e_tb (e_op2 (e_var rfl) (e_lstF e_nil (show 0 < 100000 by omega)) (e_nil_eq q3))
            cases hS : S with
            | nil =>
              rw [hS] at e2
              exact ⟨true, h2, e_andT e1 (e_orT e2), q1, q2, by rw [← hS]; exact q3, fun _ => ha, fun z => by cases z⟩
            | cons x S' =>
              rw [hS] at e2
              obtain ⟨d, h3, d1, d2, d3, d4, d5⟩ := c_drawI (s := 2) (z := 2) rfl q1 (by omega) (by omega)
              exact ⟨_, h3, e_andT e1 (e_orF e2 (e_tb (e_op2 (e_app (e_cons (e_var rfl) (e_cons e_c e_nil)) d1) e_c o_eq_int))), d3, hl_get q2 (d5 _ hf), by rw [← hS]; exact hl_get q3 (d5 _ hs), fun _ => ha, fun _ z => by cases z⟩
          · rw [decide_eq_false (by omega)] at e1
            refine ⟨false, h2, e_andF e1, q1, q2, q3, (fun z => by cases z), fun _ z => ?_⟩
            subst z
            rw [List.length_nil] at hlen
            omega
        obtain ⟨b, h3, k1, k2, k3, k4, k5, k6⟩ := key
        cases b with
        | true =>
          have ha := k5 rfl
          refine .inr ⟨h2, sw9 i many mode a2 none (some (.loc f0)) (some (.loc s0)) (some (nW (a + 1))) none none, h3.set s0 (.lst ((S ++ [a]).map nW)), (many - F.length) + (many - (a + 1)), ?_, ?_, by omega, F, S ++ [a], a + 1, rfl, k2.set hs _, ?_, hl_set k4, ?_, by omega, rfl⟩
          · rw [hc, decide_eq_true (by omega)]
          · refine e_ifT k1 (e_seq (h' := h3.set s0 (.lst ((S ++ [a]).map nW))) (e_drop (w := .non) (e_meth (e_var rfl) k4 (e_cons (e_var rfl) e_nil) ((o_app k4 (by rw [List.length_map]; omega)).trans (by rw [List.map_append]; rfl)))) ((e_set (e_op2 (e_var rfl) e_c o_add)).trans ?_))
            rfl
          · unfold hl; rw [get_set_ne hsf]; exact k3
          · rw [← List.append_assoc, List.range_succ]
            exact q4.append_right _
        | false =>
          have hS := k6 rfl
          obtain ⟨S', x, rfl⟩ : ∃ S' x, S = S' ++ [x] := by
            rcases snoc (P := fun _ => True) S with z | ⟨d, y, z⟩
            · exact absurd z hS
            · exact ⟨d, y, z⟩
          have k4' : hl h3 s0 = some (S'.map nW ++ [nW x]) := by rw [k4, List.map_append]; rfl
          rw [List.length_append, List.length_cons, List.length_nil] at hlen
          have k3' : hl (h3.set s0 (.lst (S'.map nW))) f0 = some (F.map nW) := by unfold hl; rw [get_set_ne hsf]; exact k3
          refine .inr ⟨h2, sw9 i many mode a2 none (some (.loc f0)) (some (.loc s0)) (some (nW a)) none none, (h3.set s0 (.lst (S'.map nW))).set f0 (.lst ((F ++ [x]).map nW)), (many - (F ++ [x]).length) + (many - a), ?_, ?_, ?_, F ++ [x], S', a, rfl, (k2.set hs _).set hf _, hl_set k3', ?_, ?_, q5, rfl⟩
          · rw [hc, decide_eq_true (by omega)]
          · exact e_ifF k1 (e_drop (w := .non) (e_meth (e_var rfl) k3 (e_cons (e_meth (e_var rfl) k4' e_nil (o_pop k4')) e_nil) ((o_app k3' (by rw [List.length_map]; omega)).trans (by rw [List.map_append]; rfl))))
          · rw [List.length_append]; simp; omega
          · unfold hl; rw [get_set_ne (Ne.symm hsf), get_set_self (hl_eq k4)]
          · refine List.Perm.trans ?_ q4
            rw [List.append_assoc]
            exact List.Perm.append_left F List.perm_append_comm)
    100000 (many + many) (sw9 i many mode a2 none (some (.loc f0)) (some (.loc s0)) (some (nW 0)) none none) h (by omega) ⟨[], [], 0, rfl, P, g1, g0, .nil, Nat.zero_le _, rfl⟩
  exact ⟨F, sw', h', e1, ⟨_, e2⟩, e5, e3, e4⟩
theorem ixOf_idx : ∀ (F : List Nat) (v : Nat), v ∈ F → ixOf (nI v) (F.map nI) = some (F.idxOf v)
  | x :: F, v, hv => by
    rw [List.map_cons, ixOf, List.idxOf_cons]
    by_cases e : x = v
    · subst e; rw [if_pos rfl]; simp
    · rw [if_neg (fun z => e (by exact_mod_cast z))]
      rcases List.mem_cons.mp hv with z | z
      · exact absurd z.symm e
      · rw [ixOf_idx F v z]
        have : (x == v) = false := beq_false_of_ne e
        rw [this]; rfl
theorem lc_und {h : Hm} {i many mode f0 : Nat} {a2 a7 a8 : Option W} {F : List Nat} (hm : many ≤ 9) (g : hl h f0 = some (F.map nW)) (hF : F.Perm (List.range many)) :
    lc__law_row_4 (sw9 i many mode a2 none (some (.loc f0)) a7 a8 none none) h = some (.fl ((und F).map nW), h) := by
  have hl9 : F.length = many := by rw [hF.length_eq, List.length_range]
  have hi : mRg1 (mCons (mVar 3) (mNil)) (sw9 i many mode a2 none (some (.loc f0)) a7 a8 none none) h = some (sRg 0 1 many, h) := (e_rg1 (b := (many : Int)) (e_cons (e_var rfl) e_nil) (okR_small (by omega) (by omega))).trans (by rw [Int.toNat_natCast])
  have := lc_run (own := false) (vs := [10]) (tg := gN 10) (t := mYes) (m := (mMeth oIndex (mVar 6) (mCons (mVar 10) (mNil)))) (sw := sw9 i many mode a2 none (some (.loc f0)) a7 a8 none none) (h := h)
    ((List.range many).map nW) (fun _ => true) (fun w => match w with | .int z => nW (F.idxOf z.toNat) | w => w) hi (yld_rg0 (h := h)).1 (by rw [List.length_map, List.length_range]; exact yld_rg0.2) (fun w hw => by
      obtain ⟨v, hv, rfl⟩ := List.mem_map.mp hw
      have hvF : v ∈ F := hF.symm.subset hv
      refine ⟨_, rfl, rfl, fun _ => e_meth (e_var rfl) g (e_cons (e_var rfl) e_nil) ?_⟩
      show ((hl h f0).bind fun ws => (intsW ws).bind fun is => (ixOf (nI v) is).map fun k => (W.int (k : Nat), h)) = _
      rw [g]
      show ((intsW (F.map nW)).bind fun is => (ixOf (nI v) is).map fun k => (W.int (k : Nat), h)) = _
      rw [nW_map, show intsW ((F.map nI).map W.int) = some (F.map nI) from intsM _]
      show ((ixOf (nI v) (F.map nI)).map fun k => (W.int (k : Nat), h)) = _
      rw [ixOf_idx F v hvF]
      show some (W.int ((F.idxOf v : Nat) : Int), h) = some (nW (F.idxOf (v : Int).toNat), h)
      rw [Int.toNat_natCast]; rfl) (by rw [List.length_map, List.length_range]; omega)
  refine this.trans ?_
  rw [mk_f, List.filter_eq_self.mpr fun _ _ => rfl]
  unfold und
  rw [hl9, List.map_map, List.map_map]
  rfl
end K66

set_option Elab.async false
set_option linter.all false
set_option maxRecDepth 10000
set_option maxHeartbeats 800000
namespace K66
open PySem PySem.Spec PyProof.Rows L2 G PySem.W
theorem e_mode {i many mode : Nat} {a2 a5 a6 a7 a8 a9 a10 : Option W} {h : Hm} {k : Int} {b : Bool} (e : ((mode : Int) == k) = b) : mTb (mOp2 (oEq) (mVar 4) (mC (.int k))) (sw9 i many mode a2 a5 a6 a7 a8 a9 a10) h = some (b, h) := by
  rw [← e]; exact e_tb (e_op2 (e_var rfl) e_c o_eq_int)
theorem eqF {m : Nat} {k : Int} (h : (m : Int) ≠ k) : ((m : Int) == k) = false := beq_false_of_ne h
theorem row_spec {h : Hm} {i : Nat} (P : Pt h i) : ∃ (p : List Int) (h2 : Hm), m__law_row [.loc i, .int 9] h = some (rowW p, h2) ∧ Row p ∧ Pt h2 i := by
  obtain ⟨many, h2, d1, d2, d3, d4, d5⟩ := c_drawI (s := 10) (z := 9 + 1) rfl P (by omega) (by omega)
  obtain ⟨mode, h3, m1, m2, m3, m4, m5⟩ := c_drawI (s := 5) (z := 5) rfl d3 (by omega) (by omega)
  have hm : many ≤ 9 := by omega
  have hlt := m3.lt
  have P4 := m3.new (List.range many)
  have e0 : mPar 3 4 (mCons (mApp (cG m__law_draw) (mCons (mVar 0) (mCons (mOp2 (oAdd false) (mVar 1) (mC (.int 1))) (mNil)))) (mCons (mApp (cG m__law_draw) (mCons (mVar 0) (mCons (mC (.int 5)) (mNil)))) (mNil))) [some (.loc i), some (.int 9), none, none, none, none, none, none, none, none, none] h = some (.nx (sw9 i many mode none none none none none none none) h3) :=
    e_par (e_cons (e_app (e_cons (e_var rfl) (e_cons (e_op2 (e_var rfl) e_c o_add) e_nil)) d1) (e_cons (e_app (e_cons (e_var rfl) (e_cons e_c e_nil)) m1) e_nil))
  have e1 : mSet 2 (mLstRg true (mR1 (mVar 3))) (sw9 i many mode none none none none none none none) h3 = some (.nx (sw9 i many mode (some (.loc h3.nx)) none none none none none none) (h3.new (.lst ((List.range many).map nW)))) := by
    refine (e_set (e_lstRgT (n := many) (e_var rfl) (by omega))).trans ?_
    rw [← nW_map]; rfl
  have g1 : hl (h3.new (.lst ((List.range many).map nW))) h3.nx = some ((List.range many).map nW) := by unfold hl; rw [get_new_self]
  by_cases c0 : mode = 0
  · subst c0
    obtain ⟨F, h5, f1, f2, f3⟩ := c_mixed P4 hm
    exact ⟨F.map nI, h5, e_def (e_seq e0 (e_seq e1 (e_seqR (e_ifT (e_mode rfl) (e_ret (e_app (e_cons (e_var rfl) (e_cons (e_var rfl) e_nil)) f1)))))), Row.of f2 hm, f3⟩
  by_cases c1 : mode = 1
  · subst c1
    obtain ⟨F, sw', h5, f1, f2, f3, f4, f5⟩ := row1 (mode := 1) P4 hm (by omega) g1
    exact ⟨F.map nI, h5, e_def (e_seq e0 (e_seq e1 (e_seq (e_ifF (e_mode rfl) e_next) (e_seqR (e_ifT (e_mode rfl) (e_seq f1 (e_ret (e_app (e_cons (e_var f2) e_nil) ((o_tupL f5).trans (by rw [nW_map]; rfl)))))))))), Row.of f3 hm, f4⟩
  by_cases c2 : mode = 2
  · subst c2
    have P5 := P4.new []
    have P6 := P5.new []
    have q1 : hl ((((h3.new (.lst ((List.range many).map nW))).new (.lst (([] : List Nat).map nW))).new (.lst (([] : List Nat).map nW)))) (h3.nx + 1) = some (([] : List Nat).map nW) := by
      unfold hl; rw [get_new_ne (by show h3.nx + 1 + 1 ≠ h3.nx + 1; omega), show h3.nx + 1 = (h3.new (.lst ((List.range many).map nW))).nx from rfl, get_new_self]
    have q2 : hl ((((h3.new (.lst ((List.range many).map nW))).new (.lst (([] : List Nat).map nW))).new (.lst (([] : List Nat).map nW)))) (h3.nx + 1 + 1) = some (([] : List Nat).map nW) := by
      unfold hl; rw [show h3.nx + 1 + 1 = ((h3.new (.lst ((List.range many).map nW))).new (.lst (([] : List Nat).map nW))).nx from rfl, get_new_self]
    obtain ⟨F, sw', h5, f1, ⟨a8, rfl⟩, f3, f4, f5⟩ := row2 (mode := 2) (a2 := some (.loc h3.nx)) P6 hm (by omega) (by omega) (by omega) q1 q2
    have e3 : mAsg (mTup (mCons (mLst true (mNil)) (mCons (mLst true (mNil)) (mCons (mC (.int 0)) (mNil))))) (hT [hN 7, hN 6, hN 8]) (sw9 i many 2 (some (.loc h3.nx)) none none none none none none) (h3.new (.lst ((List.range many).map nW))) = some (.nx (sw9 i many 2 (some (.loc h3.nx)) none (some (.loc (h3.nx + 1 + 1))) (some (.loc (h3.nx + 1))) (some (nW 0)) none none) ((((h3.new (.lst ((List.range many).map nW))).new (.lst (([] : List Nat).map nW))).new (.lst (([] : List Nat).map nW))))) :=
      e_asg (e_tup (e_cons (e_lstT e_nil (show 0 < 100000 by omega)) (e_cons (e_lstT e_nil (show 0 < 100000 by omega)) (e_cons e_c e_nil))) (show 3 < 100000 by omega)) (e_hT (e_hL1 e_hN (e_hL1 e_hN (e_hL1 e_hN e_hL0))))
    obtain ⟨d, h6, x1, x2, x3, x4, x5⟩ := c_drawI (s := 2) (z := 2) rfl f4 (by omega) (by omega)
    have f6 := hl_get f5 (x5 (h3.nx + 1 + 1) (by omega))
    have hl9 : F.length = many := by rw [f3.length_eq, List.length_range]
    by_cases hd : d = 0
    · subst hd
      exact ⟨F.map nI, h6, e_def (e_seq e0 (e_seq e1 (e_seq (e_ifF (e_mode rfl) e_next) (e_seq (e_ifF (e_mode rfl) e_next) (e_seqR (e_ifT (e_mode rfl) (e_seq e3 (e_seq f1 (e_ret (e_ifeT (e_tb (e_op2 (e_app (e_cons (e_var rfl) (e_cons e_c e_nil)) x1) e_c o_eq_int)) (e_app (e_cons (e_var rfl) e_nil) ((o_tupL f6).trans (by rw [nW_map]; rfl))))))))))))), Row.of f3 hm, x3⟩
    · have hd1 : d = 1 := by omega
      subst hd1
      refine ⟨(und F).map nI, h6, e_def (e_seq e0 (e_seq e1 (e_seq (e_ifF (e_mode rfl) e_next) (e_seq (e_ifF (e_mode rfl) e_next) (e_seqR (e_ifT (e_mode rfl) (e_seq e3 (e_seq f1 (e_ret (e_ifeF (e_tb (e_op2 (e_app (e_cons (e_var rfl) (e_cons e_c e_nil)) x1) e_c o_eq_int)) (e_app (e_cons (lc_und hm f6 f3) e_nil) (o_tupF.trans (by rw [nW_map]; rfl))))))))))))), Row.of (n := (und F).length) (und_perm (by rw [hl9]; exact f3)) (by rw [und_len]; omega), x3⟩
  by_cases c3 : mode = 3
  · subst c3
    have P5 := P4.new []
    have q1 : hl ((h3.new (.lst ((List.range many).map nW))).new (.lst (([] : List Nat).map nW))) (h3.nx + 1) = some (([] : List Nat).map nW) := by
      unfold hl; rw [show h3.nx + 1 = (h3.new (.lst ((List.range many).map nW))).nx from rfl, get_new_self]
    obtain ⟨F, sw', h5, f1, f2, f3, f4, f5⟩ := row3 (mode := 3) (a2 := some (.loc h3.nx)) P5 hm (by omega) q1
    exact ⟨F.map nI, h5, e_def (e_seq e0 (e_seq e1 (e_seq (e_ifF (e_mode rfl) e_next) (e_seq (e_ifF (e_mode rfl) e_next) (e_seq (e_ifF (e_mode rfl) e_next) (e_seqR (e_ifT (e_mode rfl) (e_seq (e_set (e_lstT e_nil (show 0 < 100000 by omega))) (e_seq f1 (e_ret (e_app (e_cons (e_var f2) e_nil) ((o_tupL f5).trans (by rw [nW_map]; rfl))))))))))))), Row.of f3 hm, f4⟩
  · have c4 : mode = 4 := by omega
    subst c4
    obtain ⟨F, h5, f1, f2, f3⟩ := c_mixed P4 hm
    exact ⟨(F.map nI).reverse, h5, e_def (e_seq e0 (e_seq e1 (e_seq (e_ifF (e_mode rfl) e_next) (e_seq (e_ifF (e_mode rfl) e_next) (e_seq (e_ifF (e_mode rfl) e_next) (e_seq (e_ifF (e_mode rfl) e_next) (e_ret (e_rev (e_app (e_cons (e_var rfl) (e_cons (e_var rfl) e_nil)) f1) rev_row)))))))), (Row.of f2 hm).rev, f3⟩
theorem c_row {h : Hm} {i : Nat} (P : Pt h i) : ∃ (p : List Int) (h2 : Hm), cG m__law_row [.loc i, .int 9] h = some (rowW p, h2) ∧ Row p ∧ Pt h2 i ∧ h2.nx = h.nx := by
  obtain ⟨p, h2, e, R, Q⟩ := row_spec P
  obtain ⟨h3, e3, Q3, e4⟩ := cG_pt e (cld_rowW _) Q P.lt
  exact ⟨p, h3, e3, R, Q3, e4⟩
end K66

set_option Elab.async false
set_option linter.all false
set_option maxRecDepth 10000
set_option maxHeartbeats 400000
namespace K66
open PySem PySem.Spec PyProof.Rows L2 G PySem.W
theorem maxI_eq {is : List Int} {m : Int} (h1 : m ∈ is) (h2 : ∀ y ∈ is, y ≤ m) : maxI is = some m := by
  cases q : maxI is with
  | none => cases is with
    | nil => cases h1
    | cons a l => cases q
  | some z =>
    obtain ⟨a, b⟩ := maxI_ok q
    have := b m h1
    have := h2 z a
    exact congrArg some (by omega)
theorem allA_p {r : Int → Int → Bool} {p q : List Int} (n : Nat) (h : ∀ i, i < n → p.getD i 0 = q.getD i 0) : ∀ k, k ≤ n → allA r p k = allA r q k
  | 0, _ => rfl
  | k + 1, hk => by
    rw [allA_succ, allA_succ, ← allA_p n h k (by omega)]
    unfold extA
    congr 2
    refine List.filter_congr fun c hc => ?_
    rcases snoc (P := fun _ => True) c with rfl | ⟨d, i, rfl⟩
    · rfl
    · have := allA_lo k _ hc i (by simp)
      rw [last_snoc, h i (by omega), h k (by omega)]
theorem cut_take {ws : List W} {k : Nat} : cutW ws none (some ((k : Int))) = ws.take k := by
  unfold cutW
  rw [HT.sIx_none, HT.sIx_nat, List.drop_zero, Nat.sub_zero]
  rcases Nat.le_total k ws.length with h | h
  · rw [Nat.min_eq_left h]
  · rw [Nat.min_eq_right h, List.take_of_length_le (Nat.le_refl _), List.take_of_length_le h]
theorem e_sl {m mh : ME} {sw : Sw} {h h1 h2 : Hm} {ws : List W} {z : Int} (e1 : m sw h = some (.tup ws, h1)) (e2 : mh sw h1 = some (.int z, h2)) : mSl false m mNo (mPart mh) sw h = some (.tup (cutW ws none (some z)), h2) := by
  unfold mSl mNo mPart
  simp only [e1, e2, Option.bind_some]
  rfl
abbrev swR (a0 : Option W) (p : List Int) (a2 a3 a4 a5 a6 a7 a8 a9 a10 a11 a12 : Option W) : Sw := [a0, some (rowW p), a2, a3, a4, a5, a6, a7, a8, a9, a10, a11, a12, none]
theorem lc_endsG {p : List Int} (R : Row p) (b : Bool) {k : Nat} (hk : k < p.length) {a0 a2 a4 a5 a6 a7 a8 a9 a10 a11 a12 : Option W} {h : Hm} :
    ∃ is : List Int, mLc false [13] (mIt (mApp (cP m__law_all) (mCons (mSl false (mVar 1) (mNo) (mPart (mOp2 (oAdd false) (mVar 3) (mC (.int 1))))) (mCons (mC (.bl b)) (mNil))))) (gN 13) (mAndT (mTb (mOp2 (oNe) (mVar 13) (mTup (mNil)))) (mTb (mOp2 (oEq) (mOp2 oIx (mVar 13) (mOp2 oSub (mApp (oLen) (mCons (mVar 13) (mNil))) (mC (.int 1)))) (mVar 3)))) (mApp (oLen) (mCons (mVar 13) (mNil))) (swR a0 p a2 (some (nW k)) a4 a5 a6 a7 a8 a9 a10 a11 a12) h
      = some (.fl (is.map W.int), h) ∧ maxI is = some (nI (endL (rr b) p k)) := by
  have hp := R.le
  have ht9 : (p.take (k + 1)).length = k + 1 := by rw [List.length_take]; omega
  have hall : allA (rb b) (p.take (k + 1)) (k + 1) = allA (rr b) p (k + 1) := by
    rw [← R.rb b (k + 1) (by omega)]
    refine allA_p (k + 1) (fun i hi => ?_) (k + 1) (Nat.le_refl _)
    rw [List.getD_eq_getElem?_getD, List.getD_eq_getElem?_getD, List.getElem?_take_of_lt hi]
  have hlen := allA_len (r := rr b) (p := p) (k + 1)
  have h512 : 2 ^ (k + 1) ≤ 512 := Nat.le_trans (Nat.pow_le_pow_right (by omega) (show k + 1 ≤ 9 by omega)) (by decide)
  have es : mSl false (mVar 1) (mNo) (mPart (mOp2 (oAdd false) (mVar 3) (mC (.int 1)))) (swR a0 p a2 (some (nW k)) a4 a5 a6 a7 a8 a9 a10 a11 a12) h = some (rowW (p.take (k + 1)), h) := by
    refine (e_sl (e_var rfl) (e_op2 (e_var rfl) e_c o_add)).trans ?_
    have := cut_take (ws := p.map W.int) (k := k + 1)
    rw [show ((k + 1 : Nat) : Int) = (k : Int) + 1 from rfl] at this
    rw [this, ← List.map_take]; rfl
  have ea : cP m__law_all [rowW (p.take (k + 1)), .bl b] h = some (.fl ((allA (rr b) p (k + 1)).map tupN), h) := by
    have := all_spec (p := p.take (k + 1)) (b := b) (by omega) .empty
    rw [ht9, hall] at this
    refine cP_of (h' := .empty) (by rw [List.all_cons, cld_rowW]; rfl) this ?_ h
    show ((allA (rr b) p (k + 1)).map tupN).all (cld 19) = true
    rw [List.all_map]; exact List.all_eq_true.mpr fun c _ => cld_tupN c
  have := lc_run (own := false) (vs := [13]) (tg := gN 13) (mi := mIt (mApp (cP m__law_all) (mCons (mSl false (mVar 1) (mNo) (mPart (mOp2 (oAdd false) (mVar 3) (mC (.int 1))))) (mCons (mC (.bl b)) (mNil)))))
    (t := (mAndT (mTb (mOp2 (oNe) (mVar 13) (mTup (mNil)))) (mTb (mOp2 (oEq) (mOp2 oIx (mVar 13) (mOp2 oSub (mApp (oLen) (mCons (mVar 13) (mNil))) (mC (.int 1)))) (mVar 3))))) (m := (mApp (oLen) (mCons (mVar 13) (mNil)))) (sw := swR a0 p a2 (some (nW k)) a4 a5 a6 a7 a8 a9 a10 a11 a12) (h := h)
    ((allA (rr b) p (k + 1)).map tupN) (fun w => !(dec w).isEmpty && ((((dec w).getLastD 0 : Nat) : Int) == (k : Int))) (fun w => .int (nI (dec w).length)) (e_itF (e_app (e_cons es (e_cons e_c e_nil)) ea)) (yld_fl (h := h)).1 (yld_fl (h := h)).2 (fun w hw => by
      obtain ⟨c, hc, rfl⟩ := List.mem_map.mp hw
      rw [dec_tupN]
      have en : mTb (mOp2 (oNe) (mVar 13) (mTup (mNil))) [a0, some (rowW p), a2, some (nW k), a4, a5, a6, a7, a8, a9, a10, a11, a12, some (tupN c)] h = some (!c.isEmpty, h) := by
        refine e_tb (e_op2 (e_var rfl) (e_tup e_nil (show 0 < 100000 by omega)) ?_)
        have := o_ne_tup (is := c.map nI) (js := []) (h := h)
        rw [← nW_map] at this
        refine this.trans ?_
        cases c <;> rfl
      refine ⟨_, rfl, ?_, fun _ => ?_⟩
      · by_cases hn : c = []
        · subst hn
          exact e_andF en
        · have he : c.isEmpty = false := by cases c with | nil => exact absurd rfl hn | cons _ _ => rfl
          have hpos : 0 < c.length := List.length_pos_iff.mpr hn
          have hcl := allA_llen _ _ hc
          rw [he] at en ⊢
          refine e_andT en (e_tb (e_op2 (e_op2 (e_var rfl) (e_op2 (v := .int 1) (h2 := h) (e_app (e_cons (e_var rfl) e_nil) o_lenT) e_c o_sub) (o_ixT (p := c.length - 1) (ix_pos ?_ (by rw [List.length_map]; omega)) (last_get hn))) (e_var rfl) o_eq_int))
          rw [List.length_map]; omega
      · refine (e_app (e_cons (e_var rfl) e_nil) o_lenT).trans ?_
        rw [List.length_map]) (by rw [List.length_map]; omega)
  refine ⟨((allA (rr b) p (k + 1)).filter fun c => !c.isEmpty && (((c.getLastD 0 : Nat) : Int) == (k : Int))).map fun c => nI c.length, this.trans ?_, ?_⟩
  · rw [mk_f, List.filter_map, List.map_map, List.map_map]
    refine congrArg (fun x => some (W.fl x, h)) ?_
    have e1 : ((fun w => !(dec w).isEmpty && ((((dec w).getLastD 0 : Nat) : Int) == (k : Int))) ∘ tupN) = fun c => !c.isEmpty && (((c.getLastD 0 : Nat) : Int) == (k : Int)) := funext fun c => by
      show (!(dec (tupN c)).isEmpty && _) = _
      rw [dec_tupN]
    rw [e1]
    refine List.map_congr_left fun c _ => ?_
    show W.int (nI (dec (tupN c)).length) = _
    rw [dec_tupN]; rfl
  · obtain ⟨a, c, c1, c2, c3, c4⟩ := end_max (rr_tr b) hk
    refine maxI_eq (List.mem_map.mpr ⟨c, List.mem_filter.mpr ⟨c1, ?_⟩, by rw [c4]⟩) fun y hy => ?_
    · have : c.isEmpty = false := by cases c with | nil => exact absurd rfl c2 | cons _ _ => rfl
      rw [this, c3, beq_self_eq_true]; rfl
    · obtain ⟨d, hd, rfl⟩ := List.mem_map.mp hy
      obtain ⟨d1, d2⟩ := List.mem_filter.mp hd
      rw [Bool.and_eq_true] at d2
      have e2 := eq_of_beq d2.2
      have := a d d1 (fun z => by subst z; simp at d2) (by omega)
      show (d.length : Int) ≤ ((endL (rr b) p k : Nat) : Int)
      omega
end K66

set_option Elab.async false
set_option linter.all false
set_option maxRecDepth 10000
set_option maxHeartbeats 400000
namespace K66
open PySem PySem.Spec PyProof.Rows L2 G PySem.W
theorem Pt.newW {h : Hm} {i : Nat} (P : Pt h i) {ws : List W} (hw : ws.all (cld 20) = true) : Pt (h.new (.lst ws)) i := by
  have hlt := P.lt
  obtain ⟨a, b, e, q⟩ := P.ex
  exact ⟨P.ok.new hw, a, b, by rw [get_new_ne (by omega)]; exact e, q⟩
theorem Pt.setW {h : Hm} {i n : Nat} (P : Pt h i) (hn : n ≠ i) {ws : List W} (hw : ws.all (cld 20) = true) : Pt (h.set n (.lst ws)) i := by
  obtain ⟨a, b, e, q⟩ := P.ex
  exact ⟨P.ok.set n hw, a, b, by rw [get_set_ne hn]; exact e, q⟩
theorem cld_pairs {d : Nat} (l : List (Nat × Nat)) : (l.map pairW).all (cld (d + 2)) = true := by
  rw [List.all_map]; exact List.all_eq_true.mpr fun _ _ => rfl
def endP (p : List Int) (k : Nat) : List (Nat × Nat) := (List.range k).map fun i => (endL lt p i, endL gt p i)
theorem due_spec {p : List Int} (R : Row p) {h : Hm} {i n0 : Nat} {up dn : W} (P : Pt h i) (hn : n0 ≠ i) (g0 : hl h n0 = some []) :
    ∃ (h2 : Hm) (a3 a9 a10 : Option W), mFor 100000 it__law_right_3 (gN 3) bd__law_right_2 (swR (some (.loc i)) p (some (.loc n0)) none none none none (some up) (some dn) none none none none) h = some (.nx (swR (some (.loc i)) p (some (.loc n0)) a3 none none none (some up) (some dn) a9 a10 none none) h2) ∧ hl h2 n0 = some ((endsL p).map pairW) ∧ Pt h2 i ∧ h2.nx = h.nx := by
  have hp := R.le
  have hi : it__law_right_3 (swR (some (.loc i)) p (some (.loc n0)) none none none none (some up) (some dn) none none none none) h = some (sRg 0 1 p.length, h) :=
    (e_rg1 (b := (p.length : Int)) (e_cons (e_app (e_cons (e_var rfl) e_nil) o_lenRow) e_nil) (okR_small (by omega) (by omega))).trans (by rw [Int.toNat_natCast])
  obtain ⟨sw', h', e1, a3, a9, a10, e2, e3, e4, e5⟩ := for_inv (n := 100000) (tg := gN 3) (b := bd__law_right_2) p.length
    (fun k sw h2 => ∃ a3 a9 a10 : Option W, sw = swR (some (.loc i)) p (some (.loc n0)) a3 none none none (some up) (some dn) a9 a10 none none ∧ hl h2 n0 = some ((endP p k).map pairW) ∧ Pt h2 i ∧ h2.nx = h.nx) hi (fun k hk sw h2 hR => by
      obtain ⟨a3, a9, a10, rfl, q1, q2, q3⟩ := hR
      obtain ⟨is1, l1, l2⟩ := lc_endsG R true hk (a0 := some (.loc i)) (a2 := some (.loc n0)) (a4 := none) (a5 := none) (a6 := none) (a7 := some up) (a8 := some dn) (a9 := a9) (a10 := a10) (a11 := none) (a12 := none) (h := h2)
      obtain ⟨is2, r1, r2⟩ := lc_endsG R false hk (a0 := some (.loc i)) (a2 := some (.loc n0)) (a4 := none) (a5 := none) (a6 := none) (a7 := some up) (a8 := some dn) (a9 := some (.fl (is1.map W.int))) (a10 := a10) (a11 := none) (a12 := none) (h := h2)
      have hlen : (endP p k).length = k := by unfold endP; rw [List.length_map, List.length_range]
      have hsn : (endP p (k + 1)).map pairW = (endP p k).map pairW ++ [pairW (endL lt p k, endL gt p k)] := by
        unfold endP; rw [List.range_succ, List.map_append, List.map_append]; rfl
      refine ⟨nW k, _, swR (some (.loc i)) p (some (.loc n0)) (some (nW k)) none none none (some up) (some dn) (some (.fl (is1.map W.int))) (some (.fl (is2.map W.int))) none none, h2.set n0 (.lst ((endP p (k + 1)).map pairW)), yld_rg0.1 k _ (by rw [List.getElem?_map, List.getElem?_range hk]; rfl), rfl, ?_, _, _, _, rfl, hl_set q1, q2.setW hn (cld_pairs _), q3⟩
      refine e_seq (e_set l1) (e_seq (e_set r1) (e_drop (w := .non) (e_meth (e_var rfl) q1 (e_cons (e_tup (e_cons (e_app (e_cons (e_var rfl) e_nil) (fMax_ints is1 _ l2)) (e_cons (e_app (e_cons (e_var rfl) e_nil) (fMax_ints is2 _ r2)) e_nil)) (show 2 < 100000 by omega)) e_nil) ((o_app q1 (by rw [List.length_map]; omega)).trans ?_))))
      rw [hsn]; rfl) (fun sw h2 hR => yld_rg0.2) (by omega) ⟨none, none, none, rfl, g0, P, rfl⟩
  subst e2
  exact ⟨h', a3, a9, a10, e1, e3, e4, e5⟩
theorem c_ends {p : List Int} (R : Row p) (h : Hm) : cP m_ends_at [rowW p] h = some (.fl ((endsL p).map pairW), h) := cP_loc (n := 0) (cld_row p) (ends_spec R) rfl (cld_pairs _) h
theorem c_endsO {p : List Int} (R : Row p) (h : Hm) : cOw m_ends_at [rowW p] h = some (.loc h.nx, h.new (.lst ((endsL p).map pairW))) := cO_of (n := 0) (cld_row p) (ends_spec R) rfl (cld_pairs _) h
theorem dat_pairs {p : List Int} (R : Row p) {d : Nat} : dat (d + 3) (.fl ((endsL p).map pairW)) = true := by
  have hp := R.le
  refine Bool.and_eq_true_iff.mpr ⟨decide_eq_true ?_, ?_⟩
  · unfold endsL; rw [List.length_map, List.length_map, List.length_range]; omega
  · rw [List.all_map]; exact List.all_eq_true.mpr fun _ _ => rfl
theorem dat_tupN {c : List Nat} (h : c.length < 1000) {d : Nat} : dat (d + 2) (tupN c) = true := by
  refine Bool.and_eq_true_iff.mpr ⟨decide_eq_true (by rw [List.length_map]; exact h), ?_⟩
  rw [List.all_map]; exact List.all_eq_true.mpr fun _ _ => rfl
theorem cl_locW {d : Nat} {h : Hm} {t : Nat} {ws : List W} (e : hl h t = some ws) (hw : ws.all (cld d) = true) : cl h (d + 1) (.loc t) = some (.fl ws) := by
  show (match h.get t with
    | some (.lst ws) => (ws.mapM (cl h d)).map W.fl
    | _ => none) = _
  rw [hl_eq e]
  show (ws.mapM (cl h d)).map W.fl = _
  rw [mapM_id fun w hw' => cl_pl d w (List.all_eq_true.mp hw w hw')]; rfl
theorem cl_two {d : Nat} {h : Hm} {a b x y : W} (e1 : cl h d a = some x) (e2 : cl h d b = some y) : cl h (d + 1) (.fl [a, b]) = some (.fl [x, y]) := by
  show ([a, b].mapM (cl h d)).map W.fl = _
  rw [List.mapM_cons, e1, List.mapM_cons, e2]; rfl
theorem cB_is {h : Hm} {a b w : W} (e1 : cl h 20 a = some w) (e2 : cl h 20 b = some w) (hd : dat 12 w = true) : cB (m__law_is 12) [a, b] h = some (.bl true, h) := by
  unfold cB
  rw [List.mapM_cons, e1, List.mapM_cons, e2]
  show ((m__law_is 12 [w, w] .empty).bind fun p => if flat 20 p.1 then some (p.1, h) else none) = _
  rw [is_refl 12 w hd (by omega) .empty]; rfl
theorem ndup_nodup : ∀ (l : List (List Int)), l.Nodup → (ndup l).length = l.length
  | [], _ => rfl
  | k :: r, h => by
    rw [List.nodup_cons] at h
    unfold ndup
    have : (ndup r).contains k = false := by
      cases q : (ndup r).contains k with
      | false => rfl
      | true => exact absurd (ndup_mem.mp (by simpa using q)) h.1
    rw [this]
    show (k :: ndup r).length = _
    rw [List.length_cons, ndup_nodup r h.2, List.length_cons]
theorem lenset_eq {h : Hm} {w : W} {ws : List W} {ks : List (List Int)} (e1 : sq h w = some ws) (e2 : ws.length < 64) (e3 : ws.mapM tupIs = some ks) : fLenSet w h = some (.int (ndup ks).length) := by
  unfold fLenSet
  rw [e1]
  refine (if_pos e2).trans ?_
  rw [e3]; rfl
theorem e_lenSet {p : List Int} (R : Row p) {m : ME} {sw : Sw} {h h' : Hm} {n0 : Nat} (e : m sw h = some (.loc n0, h')) (g : hl h' n0 = some ((endsL p).map pairW)) : mLenSet m sw h = some (.int (p.length : Int), h') := by
  have hp := R.le
  have hl9 : (endsL p).length = p.length := by unfold endsL; rw [List.length_map, List.length_range]
  have hk : ∀ l : List (Nat × Nat), (l.map pairW).mapM tupIs = some (l.map fun q => [nI q.1, nI q.2]) := fun l => by
    induction l with
    | nil => rfl
    | cons q l ih => rw [List.map_cons, List.mapM_cons, ih]; rfl
  unfold mLenSet
  rw [e]
  show (fLenSet (.loc n0) h').map _ = _
  rw [lenset_eq (h := h') (w := .loc n0) (ws := (endsL p).map pairW) (show sq h' (.loc n0) = _ from g) (by rw [List.length_map, hl9]; omega) (hk _), ndup_nodup, List.length_map, hl9]
  · rfl
  · have hnd := ends_nodup R.ne
    rw [List.nodup_iff_pairwise_ne] at hnd ⊢
    rw [List.pairwise_map]
    refine hnd.imp fun {a b} h e => h ?_
    have e1 : nI a.1 = nI b.1 := (List.cons.inj e).1
    have e2 : nI a.2 = nI b.2 := (List.cons.inj (List.cons.inj e).2).1
    exact Prod.ext (by exact_mod_cast e1) (by exact_mod_cast e2)
/-! falling stretches -/
def stN (s : Nat) : Nat → List Nat
  | 0 => []
  | t + 1 => stN s t ++ ((List.range s).map fun a => (stN s t).length + a).reverse
theorem stN_len (s : Nat) : ∀ t, (stN s t).length = s * t
  | 0 => by rw [stN, Nat.mul_zero]; rfl
  | t + 1 => by rw [stN, List.length_append, List.length_reverse, List.length_map, List.length_range, stN_len s t, Nat.mul_succ]
theorem lc_st {i many s t : Nat} {p : List Int} {a2 a3 a4 a6 a7 a8 a9 a10 : Option W} {h : Hm} (hs : s ≤ 3) (ht : t ≤ 3) :
    lc__law_right_4 (swR (some (.loc i)) p a2 a3 a4 (some (rowW ((stN s t).map nI))) a6 a7 a8 a9 a10 (some (nW s)) (some (nW many))) h = some (.fl (((List.range s).map fun a => (stN s t).length + a).map nW), h) := by
  have hi : mRg1 (mCons (mVar 11) (mNil)) (swR (some (.loc i)) p a2 a3 a4 (some (rowW ((stN s t).map nI))) a6 a7 a8 a9 a10 (some (nW s)) (some (nW many))) h = some (sRg 0 1 s, h) := (e_rg1 (b := (s : Int)) (e_cons (e_var rfl) e_nil) (okR_small (by omega) (by omega))).trans (by rw [Int.toNat_natCast])
  have := lc_run (own := false) (vs := [3]) (tg := gN 3) (t := mYes) (m := mOp2 (oAdd false) (mApp (oLen) (mCons (mVar 5) (mNil))) (mVar 3)) (sw := swR (some (.loc i)) p a2 a3 a4 (some (rowW ((stN s t).map nI))) a6 a7 a8 a9 a10 (some (nW s)) (some (nW many))) (h := h)
    ((List.range s).map nW) (fun _ => true) (fun w => match w with | .int z => .int (((stN s t).length : Int) + z) | w => w) hi (yld_rg0 (h := h)).1 (by rw [List.length_map, List.length_range]; exact yld_rg0.2) (fun w hw => by
      obtain ⟨v, hv, rfl⟩ := List.mem_map.mp hw
      refine ⟨_, rfl, rfl, fun _ => (e_op2 (e_app (e_cons (e_var rfl) e_nil) o_lenRow) (e_var rfl) o_add).trans ?_⟩
      rw [List.length_map]; rfl) (by rw [List.length_map, List.length_range]; omega)
  refine this.trans ?_
  rw [mk_f, List.filter_eq_self.mpr fun _ _ => rfl, List.map_map, List.map_map]
  rfl
theorem st_spec {i many s : Nat} {p : List Int} {a2 a3 a4 a7 a8 a9 a10 : Option W} {h : Hm} (hs : s ≤ 3) (hm : many ≤ 3) :
    ∃ a6 : Option W, mFor 100000 it__law_right_6 (gN 6) bd__law_right_5 (swR (some (.loc i)) p a2 a3 a4 (some (rowW ((stN s 0).map nI))) none a7 a8 a9 a10 (some (nW s)) (some (nW many))) h = some (.nx (swR (some (.loc i)) p a2 a3 a4 (some (rowW ((stN s many).map nI))) a6 a7 a8 a9 a10 (some (nW s)) (some (nW many))) h) := by
  have hi : it__law_right_6 (swR (some (.loc i)) p a2 a3 a4 (some (rowW ((stN s 0).map nI))) none a7 a8 a9 a10 (some (nW s)) (some (nW many))) h = some (sRg 0 1 many, h) := (e_rg1 (b := (many : Int)) (e_cons (e_var rfl) e_nil) (okR_small (by omega) (by omega))).trans (by rw [Int.toNat_natCast])
  obtain ⟨sw', h', e1, a6, e2, e3⟩ := for_inv (n := 100000) (tg := gN 6) (b := bd__law_right_5) many
    (fun t sw h2 => ∃ a6 : Option W, sw = swR (some (.loc i)) p a2 a3 a4 (some (rowW ((stN s t).map nI))) a6 a7 a8 a9 a10 (some (nW s)) (some (nW many)) ∧ h2 = h) hi (fun t ht sw h2 hR => by
      obtain ⟨a6, rfl, rfl⟩ := hR
      have hl := stN_len s t
      have h9 : s * t ≤ 9 := Nat.le_trans (Nat.mul_le_mul hs (show t ≤ 3 by omega)) (by decide)
      refine ⟨nW t, _, swR (some (.loc i)) p a2 a3 a4 (some (rowW ((stN s (t + 1)).map nI))) (some (nW t)) a7 a8 a9 a10 (some (nW s)) (some (nW many)), h2, yld_rg0.1 t _ (by rw [List.getElem?_map, List.getElem?_range ht]; rfl), rfl, ?_, _, rfl, rfl⟩
      refine e_set (e_op2 (e_var rfl) (e_app (e_cons (e_rev (w := .fl (((List.range s).map fun a => (stN s t).length + a).map nW)) (q := some (.fl ((((List.range s).map fun a => (stN s t).length + a).map nW).reverse), h2)) (lc_st hs (by omega)) rfl) e_nil) o_tupF) ((o_catT2 ?_).trans ?_))
      · rw [List.length_map, List.length_map, List.length_reverse, List.length_map, List.length_map, List.length_range]; omega
      · rw [← List.map_reverse, nW_map, ← List.map_append, ← List.map_append]; rfl) (fun sw h2 hR => yld_rg0.2) (by omega) ⟨none, rfl, rfl⟩
  subst e2 e3
  exact ⟨a6, e1⟩
theorem st_ok : ∀ s ∈ [1, 2, 3], ∀ t ∈ [1, 2, 3], (stN s t).Perm (List.range (s * t)) ∧ gr lt none 0 ((stN s t).map nI) = (List.range t).map (s * ·) ∧ gr gt none 0 ((stN s t).map nI) = List.range s := by decide
end K66

set_option Elab.async false
set_option linter.all false
set_option maxRecDepth 10000
set_option maxHeartbeats 800000
namespace K66
open PySem PySem.Spec PyProof.Rows L2 G PySem.W
theorem gr_len {r : Int → Int → Bool} {p : List Int} : (gr r none 0 p).length = bestO r none p := gr_mem.2
theorem e_lenN {c : List Nat} {h : Hm} : oLen [tupN c] h = some (.int (c.length : Int), h) := by
  have : oLen [tupN c] h = some (.int ((c.map nW).length : Int), h) := rfl
  rw [this, List.length_map]
theorem o_ne_fl {is js : List Int} {h : Hm} : oNe (.fl (is.map W.int)) (.fl (js.map W.int)) h = some (.bl (!decide (is = js)), h) := by
  rw [o_neD (pd_flI (d := 18)) (pd_flI (d := 18)), PyData.eqv, eqv_ints]
theorem tupRg_eq {m : MR} {sw : Sw} {h h' : Hm} {a b : Int} (e : m sw h = some (a, b, h')) (ok : okRg a b = true) : mTupRg m sw h = some (.tup (rgW a b), h') := by
  unfold mTupRg; rw [e]; exact if_pos ok
theorem e_tupRg {m : ME} {sw : Sw} {h h' : Hm} {n : Nat} (e : m sw h = some (.int n, h')) (hn : n ≤ 100000) : mTupRg (mR1 m) sw h = some (tupI ((List.range n).map nI), h') := by
  rw [tupRg_eq (mR1_eq e) (okRg0 hn), rgW0]; rfl
theorem mem3 {x : Nat} (h : x < 3) : 1 + x ∈ [1, 2, 3] := by
  have : x = 0 ∨ x = 1 ∨ x = 2 := by omega
  rcases this with rfl | rfl | rfl <;> decide
theorem lc7 {i many s : Nat} {p : List Int} {a2 a3 a4 a5 a6 a7 a8 a9 a10 : Option W} {h : Hm} (hs : s ≤ 3) (hm : many ≤ 3) :
    lc__law_right_7 (swR (some (.loc i)) p a2 a3 a4 a5 a6 a7 a8 a9 a10 (some (nW s)) (some (nW many))) h = some (.fl ((((List.range many).map (s * ·)).map nI).map W.int), h) := by
  have hi : mRg1 (mCons (mVar 12) (mNil)) (swR (some (.loc i)) p a2 a3 a4 a5 a6 a7 a8 a9 a10 (some (nW s)) (some (nW many))) h = some (sRg 0 1 many, h) := (e_rg1 (b := (many : Int)) (e_cons (e_var rfl) e_nil) (okR_small (by omega) (by omega))).trans (by rw [Int.toNat_natCast])
  have := lc_run (own := false) (vs := [3]) (tg := gN 3) (t := mYes) (m := mOp2 (oTimes false) (mVar 11) (mVar 3)) (sw := swR (some (.loc i)) p a2 a3 a4 a5 a6 a7 a8 a9 a10 (some (nW s)) (some (nW many))) (h := h)
    ((List.range many).map nW) (fun _ => true) (fun w => match w with | .int z => .int ((s : Int) * z) | w => w) hi (yld_rg0 (h := h)).1 (by rw [List.length_map, List.length_range]; exact yld_rg0.2) (fun w hw => by
      obtain ⟨v, hv, rfl⟩ := List.mem_map.mp hw
      exact ⟨_, rfl, rfl, fun _ => e_op2 (e_var rfl) (e_var rfl) (o_mulL (by omega))⟩) (by rw [List.length_map, List.length_range]; omega)
  refine this.trans ?_
  rw [mk_f, List.filter_eq_self.mpr fun _ _ => rfl, List.map_map, List.map_map, List.map_map]
  refine congrArg (fun x => some (W.fl x, h)) (List.map_congr_left fun v _ => ?_)
  show W.int ((s : Int) * (v : Int)) = W.int ((s * v : Nat) : Int)
  rw [Int.natCast_mul]
theorem right_spec {h : Hm} {i : Nat} (P : Pt h i) : ∃ h2, m__law_right [.loc i] h = some (.bl true, h2) ∧ HOk h2 := by
  obtain ⟨p, h1, r1, R, P1, n1⟩ := c_row P
  have hp := R.le
  -- up, down
  have up9 : (gr lt none 0 p).length < 1000 := by rw [gr_len]; have := best_len (r := lt) p none; omega
  have dn9 : (gr gt none 0 p).length < 1000 := by rw [gr_len]; have := best_len (r := gt) p none; omega
  have s1 : mSet 1 (mApp (cG m__law_row) (mCons (mVar 0) (mCons (mC (.int 9)) (mNil)))) [some (.loc i), none, none, none, none, none, none, none, none, none, none, none, none, none] h = some (.nx (swR (some (.loc i)) p none none none none none none none none none none none) h1) :=
    e_set (e_app (e_cons (e_var rfl) (e_cons e_c e_nil)) r1)
  have s2 : mPar 7 8 (mCons (mApp (cP m__law_longest) (mCons (mVar 1) (mCons (mC (.bl true)) (mNil)))) (mCons (mApp (cP m__law_longest) (mCons (mVar 1) (mCons (mC (.bl false)) (mNil)))) (mNil))) (swR (some (.loc i)) p none none none none none none none none none none none) h1 = some (.nx (swR (some (.loc i)) p none none none none none (some (tupN (gr lt none 0 p))) (some (tupN (gr gt none 0 p))) none none none none) h1) :=
    e_par (e_cons (e_app (e_cons (e_var rfl) (e_cons e_c e_nil)) (c_llong R true h1)) (e_cons (e_app (e_cons (e_var rfl) (e_cons e_c e_nil)) (c_llong R false h1)) e_nil))
  have d3 : dat 12 (.fl [tupN (gr lt none 0 p), tupN (gr lt none 0 p), tupN (gr gt none 0 p), tupN (gr gt none 0 p)]) = true := by
    show (decide (4 < 1000) && ([tupN (gr lt none 0 p), tupN (gr lt none 0 p), tupN (gr gt none 0 p), tupN (gr gt none 0 p)].all (dat 11))) = true
    rw [List.all_cons, List.all_cons, List.all_cons, List.all_cons, dat_tupN up9, dat_tupN dn9]; rfl
  have i3 : cP (m__law_is 12) [.fl [tupN (gr lt none 0 p), tupN (gr lt none 0 p), tupN (gr gt none 0 p), tupN (gr gt none 0 p)], .fl [tupN (gr lt none 0 p), tupN (gr lt none 0 p), tupN (gr gt none 0 p), tupN (gr gt none 0 p)]] h1 = some (.bl true, h1) := by
    have hc := dat_cld 12 _ d3 20 (by omega)
    exact cP_of (by rw [List.all_cons, List.all_cons, hc]; rfl) (is_refl 12 _ d3 (by omega) .empty) rfl h1
  -- due
  have P2 := P1.newW (ws := []) rfl
  have hlt1 := P1.lt
  have g2 : hl (h1.new (.lst [])) h1.nx = some [] := by unfold hl; rw [get_new_self]
  obtain ⟨h3, a3, a9, a10, f1, f2, f3, f4⟩ := due_spec (up := tupN (gr lt none 0 p)) (dn := tupN (gr gt none 0 p)) R P2 (show h1.nx ≠ i by omega) g2
  have hn3 : h3.nx = h1.nx + 1 := f4
  -- told
  have P4 := f3.newW (ws := (endsL p).map pairW) (cld_pairs _)
  have g4 : hl (h3.new (.lst ((endsL p).map pairW))) h3.nx = some ((endsL p).map pairW) := by unfold hl; rw [get_new_self]
  have g5 : hl (h3.new (.lst ((endsL p).map pairW))) h1.nx = some ((endsL p).map pairW) := by
    have := hl_eq f2
    unfold hl; rw [get_new_ne (by omega), this]
  have dp := dat_pairs R (d := 8)
  have d4 : dat 12 (.fl [.fl ((endsL p).map pairW), .fl ((endsL p).map pairW)]) = true := by
    show (decide (2 < 1000) && ([W.fl ((endsL p).map pairW), W.fl ((endsL p).map pairW)].all (dat 11))) = true
    rw [List.all_cons, List.all_cons, dp]; rfl
  have cP4 : cl (h3.new (.lst ((endsL p).map pairW))) 19 (.fl ((endsL p).map pairW)) = some (.fl ((endsL p).map pairW)) := cl_pl 19 _ (cld_pairs (d := 16) _)
  have i4 := cB_is (h := h3.new (.lst ((endsL p).map pairW))) (a := .fl [.loc h3.nx, .fl ((endsL p).map pairW)]) (b := .fl [.loc h1.nx, .loc h1.nx]) (cl_two (cl_locW g4 (cld_pairs _)) cP4) (cl_two (cl_locW g5 (cld_pairs _)) (cl_locW g5 (cld_pairs _))) d4
  -- told spoilt
  have P5 := P4.setW (n := h3.nx) (by omega) (ws := (endsL p).map pairW ++ [W.non]) (by rw [List.all_append, cld_pairs]; rfl)
  have g6 : hl ((h3.new (.lst ((endsL p).map pairW))).set h3.nx (.lst ((endsL p).map pairW ++ [W.non]))) h1.nx = some ((endsL p).map pairW) := by
    have := hl_eq g5
    unfold hl; rw [get_set_ne (by omega), this]
  have i5 := cB_is (h := (h3.new (.lst ((endsL p).map pairW))).set h3.nx (.lst ((endsL p).map pairW ++ [W.non]))) (a := .fl ((endsL p).map pairW)) (b := .loc h1.nx) (cl_pl 20 _ (cld_pairs (d := 17) _)) (cl_locW g6 (cld_pairs _)) (dat_pairs R (d := 9))
  have hl9 : (endsL p).length = p.length := by unfold endsL; rw [List.length_map, List.length_range]
  have es9 : p.length ≤ (gr lt none 0 p).length * (gr gt none 0 p).length := by rw [gr_len, gr_len]; exact es R.ne
  -- views
  obtain ⟨l, hlp, hpl⟩ := R.ex
  have hll : l.length = p.length := by rw [hpl, List.length_map]
  have Ru : Row ((und l).map nI) := Row.of (n := (und l).length) (und_perm hlp) (by rw [und_len]; omega)
  have cu : ∀ h, cP m_undone [rowW p] h = some (rowW ((und l).map nI), h) := fun h => by rw [hpl]; exact c_undone hlp (by omega) h
  have v1 : (gr lt none 0 p.reverse).length = (gr gt none 0 p).length := by rw [gr_len, gr_len]; exact best_rev gt_tr p
  have v2 : (gr gt none 0 (over p)).length = (gr lt none 0 p).length := by rw [over_gt]
  have v3 : (gr lt none 0 ((und l).map nI)).length = (gr lt none 0 p).length := by rw [gr_len, gr_len, hpl]; exact (und_inv hlp).best_lt (und_inv2 hlp)
  have v4 : (gr gt none 0 ((und l).map nI)).length = (gr gt none 0 p).length := by rw [gr_len, gr_len, hpl]; exact (und_inv hlp).best_gt (und_inv2 hlp)
  -- the rest of the heap
  have P6 := P5.newW (ws := ([((gr gt none 0 p).length : Int), ((gr lt none 0 p).length : Int), ((gr lt none 0 p).length : Int), ((gr gt none 0 p).length : Int)]).map W.int) (cld_ints _)
  obtain ⟨x, h7, x1, x2, x3, x4, x5⟩ := c_drawI (s := 3) (z := 3) rfl P6 (by omega) (by omega)
  obtain ⟨y, h8, y1, y2, y3, y4, y5⟩ := c_drawI (s := 3) (z := 3) rfl x3 (by omega) (by omega)
  obtain ⟨a6, st⟩ := st_spec (i := i) (many := 1 + y) (s := 1 + x) (p := p) (a2 := some (.loc h1.nx)) (a3 := a3) (a4 := some (.loc (h3.nx + 1))) (a7 := some (tupN (gr lt none 0 p))) (a8 := some (tupN (gr gt none 0 p))) (a9 := a9) (a10 := a10) (h := h8) (by omega) (by omega)
  obtain ⟨t1, t2, t3⟩ := st_ok (1 + x) (mem3 x2) (1 + y) (mem3 y2)
  have st9 : (1 + x) * (1 + y) ≤ 9 := Nat.le_trans (Nat.mul_le_mul (show 1 + x ≤ 3 by omega) (show 1 + y ≤ 3 by omega)) (by decide)
  have Rs : Row ((stN (1 + x) (1 + y)).map nI) := Row.of t1 st9
  have w1 : (gr lt none 0 ((stN (1 + x) (1 + y)).map nI)).length = 1 + y := by rw [t2, List.length_map, List.length_range]
  have w2 : (gr gt none 0 ((stN (1 + x) (1 + y)).map nI)).length = 1 + x := by rw [t3, List.length_range]
  refine ⟨h8, ?_, y3.ok⟩
  refine e_def (e_seq s1 (e_seq s2 (e_seq (e_ifF (e_not (q := true) (e_tb (e_app (e_cons (e_lstF (e_cons (e_app (e_cons (e_var rfl) e_nil) (c_rising R h1)) (e_cons (e_appK (e_cons (e_var rfl) e_nil) (c_rising R h1)) (e_cons (e_app (e_cons (e_var rfl) e_nil) (c_falling R h1)) (e_cons (e_appK (e_cons (e_var rfl) e_nil) (c_falling R h1)) e_nil)))) (show 4 < 100000 by omega)) (e_cons (e_lstF (e_cons (e_var rfl) (e_cons (e_var rfl) (e_cons (e_var rfl) (e_cons (e_var rfl) e_nil)))) (show 4 < 100000 by omega)) e_nil)) i3))) e_next) ?_)))
  refine e_seq (e_set (e_lstT e_nil (show 0 < 100000 by omega))) (e_seq f1 (e_seq (e_set (e_app (e_cons (e_var rfl) e_nil) (c_endsO R h3))) (e_seq (e_ifF (e_orF (e_not (q := true) (e_tb (e_app (e_cons (e_lstF (e_cons (e_var rfl) (e_cons (e_appK (e_cons (e_var rfl) e_nil) (c_ends R _)) e_nil)) (show 2 < 100000 by omega)) (e_cons (e_lstF (e_cons (e_var rfl) (e_cons (e_var rfl) e_nil)) (show 2 < 100000 by omega)) e_nil)) i4))) ((e_tb (e_op2 (e_lenSet R (e_var rfl) g5) (e_app (e_cons (e_var rfl) e_nil) o_lenRow) o_ne_int)).trans (by rw [beq_self_eq_true]; rfl))) e_next) ?_)))
  have q5 : (mOrT (mNot (mTb (mApp (cB (m__law_is 12)) (mCons (mApp (cP m_ends_at) (mCons (mVar 1) (mNil))) (mCons (mVar 2) (mNil)))))) (mTb (mOp2 (oLt) (mOp2 (oTimes false) (mApp (oLen) (mCons (mVar 7) (mNil))) (mApp (oLen) (mCons (mVar 8) (mNil)))) (mApp (oLen) (mCons (mVar 1) (mNil)))))) (swR (some (.loc i)) p (some (.loc h1.nx)) a3 (some (.loc h3.nx)) none none (some (tupN (gr lt none 0 p))) (some (tupN (gr gt none 0 p))) a9 a10 none none) ((h3.new (.lst ((endsL p).map pairW))).set h3.nx (.lst ((endsL p).map pairW ++ [W.non]))) = some (false, (h3.new (.lst ((endsL p).map pairW))).set h3.nx (.lst ((endsL p).map pairW ++ [W.non]))) := by
    refine e_orF (h' := (h3.new (.lst ((endsL p).map pairW))).set h3.nx (.lst ((endsL p).map pairW ++ [W.non]))) (e_not (q := true) (e_tb (e_app (e_cons (e_app (e_cons (e_var rfl) e_nil) (c_ends R _)) (e_cons (e_var rfl) e_nil)) i5))) ((e_tb (e_op2 (e_op2 (e_app (e_cons (e_var rfl) e_nil) e_lenN) (e_app (e_cons (e_var rfl) e_nil) e_lenN) (o_mulL (by omega))) (e_app (e_cons (e_var rfl) e_nil) o_lenRow) o_lt)).trans ?_)
    have z : ¬ (((gr lt none 0 p).length : Int) * ((gr gt none 0 p).length : Int) < (p.length : Int)) := by
      have : (p.length : Int) ≤ (((gr lt none 0 p).length * (gr gt none 0 p).length : Nat) : Int) := by exact_mod_cast es9
      rw [Int.natCast_mul] at this
      omega
    rw [decide_eq_false z]
  have q6 : mSet 4 (mLst true (mCons (mApp (oLen) (mCons (mApp (cP m_rising_positions) (mCons (mApp (cP m_turned_back) (mCons (mVar 1) (mNil))) (mNil))) (mNil))) (mCons (mApp (oLen) (mCons (mApp (cP m_falling_positions) (mCons (mApp (cP m_turned_over) (mCons (mVar 1) (mNil))) (mNil))) (mNil))) (mCons (mApp (oLen) (mCons (mApp (cP m_rising_positions) (mCons (mApp (cP m_undone) (mCons (mVar 1) (mNil))) (mNil))) (mNil))) (mCons (mApp (oLen) (mCons (mApp (cP m_falling_positions) (mCons (mApp (cP m_undone) (mCons (mVar 1) (mNil))) (mNil))) (mNil))) (mNil)))))) (swR (some (.loc i)) p (some (.loc h1.nx)) a3 (some (.loc h3.nx)) none none (some (tupN (gr lt none 0 p))) (some (tupN (gr gt none 0 p))) a9 a10 none none) ((h3.new (.lst ((endsL p).map pairW))).set h3.nx (.lst ((endsL p).map pairW ++ [W.non]))) =
      some (.nx (swR (some (.loc i)) p (some (.loc h1.nx)) a3 (some (.loc (h3.nx + 1))) none none (some (tupN (gr lt none 0 p))) (some (tupN (gr gt none 0 p))) a9 a10 none none) (((h3.new (.lst ((endsL p).map pairW))).set h3.nx (.lst ((endsL p).map pairW ++ [W.non]))).new (.lst (([((gr gt none 0 p).length : Int), ((gr lt none 0 p).length : Int), ((gr lt none 0 p).length : Int), ((gr gt none 0 p).length : Int)]).map W.int)))) := by
    have z1 := e_lenN (c := gr lt none 0 p.reverse) (h := (h3.new (.lst ((endsL p).map pairW))).set h3.nx (.lst ((endsL p).map pairW ++ [W.non])))
    have z2 := e_lenN (c := gr gt none 0 (over p)) (h := (h3.new (.lst ((endsL p).map pairW))).set h3.nx (.lst ((endsL p).map pairW ++ [W.non])))
    have z3 := e_lenN (c := gr lt none 0 ((und l).map nI)) (h := (h3.new (.lst ((endsL p).map pairW))).set h3.nx (.lst ((endsL p).map pairW ++ [W.non])))
    have z4 := e_lenN (c := gr gt none 0 ((und l).map nI)) (h := (h3.new (.lst ((endsL p).map pairW))).set h3.nx (.lst ((endsL p).map pairW ++ [W.non])))
    rw [v1] at z1
    rw [v2] at z2
    rw [v3] at z3
    rw [v4] at z4
    exact e_set (e_lstT (e_cons (e_app (e_cons (e_app (e_cons (e_app (e_cons (e_var rfl) e_nil) (c_back R _)) e_nil) (c_rising R.rev _)) e_nil) z1) (e_cons (e_app (e_cons (e_app (e_cons (e_app (e_cons (e_var rfl) e_nil) (c_over R _)) e_nil) (c_falling R.over _)) e_nil) z2) (e_cons (e_app (e_cons (e_app (e_cons (e_app (e_cons (e_var rfl) e_nil) (cu _)) e_nil) (c_rising Ru _)) e_nil) z3) (e_cons (e_app (e_cons (e_app (e_cons (e_app (e_cons (e_var rfl) e_nil) (cu _)) e_nil) (c_falling Ru _)) e_nil) z4) e_nil)))) (show 4 < 100000 by omega))
  have g7 : G.hl (((h3.new (.lst ((endsL p).map pairW))).set h3.nx (.lst ((endsL p).map pairW ++ [W.non]))).new (.lst (([((gr gt none 0 p).length : Int), ((gr lt none 0 p).length : Int), ((gr lt none 0 p).length : Int), ((gr gt none 0 p).length : Int)]).map W.int))) (h3.nx + 1) = some (([((gr gt none 0 p).length : Int), ((gr lt none 0 p).length : Int), ((gr lt none 0 p).length : Int), ((gr gt none 0 p).length : Int)]).map W.int) := by
    unfold G.hl; rw [show h3.nx + 1 = ((h3.new (.lst ((endsL p).map pairW))).set h3.nx (.lst ((endsL p).map pairW ++ [W.non]))).nx from rfl, get_new_self]
  have q7 : (mOrT (mTb (mOp2 (oNe) (mVar 4) (mLst false (mCons (mApp (oLen) (mCons (mVar 8) (mNil))) (mCons (mApp (oLen) (mCons (mVar 7) (mNil))) (mCons (mApp (oLen) (mCons (mVar 7) (mNil))) (mCons (mApp (oLen) (mCons (mVar 8) (mNil))) (mNil)))))))) (mTb (mOp2 (oNe) (mApp (cP m_rising_positions) (mCons (mApp (cP m_turned_over) (mCons (mVar 1) (mNil))) (mNil))) (mVar 8)))) (swR (some (.loc i)) p (some (.loc h1.nx)) a3 (some (.loc (h3.nx + 1))) none none (some (tupN (gr lt none 0 p))) (some (tupN (gr gt none 0 p))) a9 a10 none none) (((h3.new (.lst ((endsL p).map pairW))).set h3.nx (.lst ((endsL p).map pairW ++ [W.non]))).new (.lst (([((gr gt none 0 p).length : Int), ((gr lt none 0 p).length : Int), ((gr lt none 0 p).length : Int), ((gr gt none 0 p).length : Int)]).map W.int))) = some (false, ((h3.new (.lst ((endsL p).map pairW))).set h3.nx (.lst ((endsL p).map pairW ++ [W.non]))).new (.lst (([((gr gt none 0 p).length : Int), ((gr lt none 0 p).length : Int), ((gr lt none 0 p).length : Int), ((gr gt none 0 p).length : Int)]).map W.int))) := by
    have z5 : ∀ hh : Hm, oNe (tupN (gr lt none 0 (over p))) (tupN (gr gt none 0 p)) hh = some (.bl false, hh) := fun hh => by
      rw [over_lt, tupN_eq]
      refine (o_ne_tup).trans ?_
      rw [decide_eq_true rfl]; rfl
    have z6 := o_ne_locfl (js := ([((gr gt none 0 p).length : Int), ((gr lt none 0 p).length : Int), ((gr lt none 0 p).length : Int), ((gr gt none 0 p).length : Int)])) g7
    rw [decide_eq_true rfl] at z6
    exact e_orF (e_tb (e_op2 (e_var rfl) (e_lstF (e_cons (e_app (e_cons (e_var rfl) e_nil) e_lenN) (e_cons (e_app (e_cons (e_var rfl) e_nil) e_lenN) (e_cons (e_app (e_cons (e_var rfl) e_nil) e_lenN) (e_cons (e_app (e_cons (e_var rfl) e_nil) e_lenN) e_nil)))) (show 4 < 100000 by omega)) z6)) (e_tb (e_op2 (e_app (e_cons (e_app (e_cons (e_var rfl) e_nil) (c_over R _)) e_nil) (c_rising R.over _)) (e_var rfl) (z5 _)))
  have q8 : mAsg (mTup (mCons (mOp2 (oAdd false) (mC (.int 1)) (mApp (cG m__law_draw) (mCons (mVar 0) (mCons (mC (.int 3)) (mNil))))) (mCons (mOp2 (oAdd false) (mC (.int 1)) (mApp (cG m__law_draw) (mCons (mVar 0) (mCons (mC (.int 3)) (mNil))))) (mNil)))) (hT [hN 11, hN 12]) (swR (some (.loc i)) p (some (.loc h1.nx)) a3 (some (.loc (h3.nx + 1))) none none (some (tupN (gr lt none 0 p))) (some (tupN (gr gt none 0 p))) a9 a10 none none) (((h3.new (.lst ((endsL p).map pairW))).set h3.nx (.lst ((endsL p).map pairW ++ [W.non]))).new (.lst (([((gr gt none 0 p).length : Int), ((gr lt none 0 p).length : Int), ((gr lt none 0 p).length : Int), ((gr gt none 0 p).length : Int)]).map W.int))) = some (.nx (swR (some (.loc i)) p (some (.loc h1.nx)) a3 (some (.loc (h3.nx + 1))) none none (some (tupN (gr lt none 0 p))) (some (tupN (gr gt none 0 p))) a9 a10 (some (nW (1 + x))) (some (nW (1 + y)))) h8) := by
    have e11 : (W.int (1 + (x : Int))) = nW (1 + x) := congrArg W.int (by omega)
    have e12 : (W.int (1 + (y : Int))) = nW (1 + y) := congrArg W.int (by omega)
    rw [← e11, ← e12]
    exact e_asg (e_tup (e_cons (e_op2 e_c (e_app (e_cons (e_var rfl) (e_cons e_c e_nil)) x1) o_add) (e_cons (e_op2 e_c (e_app (e_cons (e_var rfl) (e_cons e_c e_nil)) y1) o_add) e_nil)) (show 2 < 100000 by omega)) (e_hT (e_hL1 e_hN (e_hL1 e_hN e_hL0)))
  refine e_seq (sw' := swR (some (.loc i)) p (some (.loc h1.nx)) a3 (some (.loc h3.nx)) none none (some (tupN (gr lt none 0 p))) (some (tupN (gr gt none 0 p))) a9 a10 none none) (h' := (h3.new (.lst ((endsL p).map pairW))).set h3.nx (.lst ((endsL p).map pairW ++ [W.non]))) (e_drop (w := .non) (e_meth (e_var rfl) g4 (e_cons e_c e_nil) (o_app g4 (by rw [List.length_map, hl9]; omega)))) (e_seq (e_ifF q5 e_next) (e_seq q6 (e_seq (e_ifF q7 e_next) (e_seq q8 (e_seq (e_set (e_tup e_nil (show 0 < 100000 by omega))) (e_seq st ?_))))))
  have w3 : (mTb (mOp2 (oNe) (mLst false (mCons (mApp (oLen) (mCons (mApp (cP m_rising_positions) (mCons (mVar 5) (mNil))) (mNil))) (mCons (mApp (oLen) (mCons (mApp (cP m_falling_positions) (mCons (mVar 5) (mNil))) (mNil))) (mNil)))) (mLst false (mCons (mVar 12) (mCons (mVar 11) (mNil)))))) (swR (some (.loc i)) p (some (.loc h1.nx)) a3 (some (.loc (h3.nx + 1))) (some (rowW ((stN (1 + x) (1 + y)).map nI))) a6 (some (tupN (gr lt none 0 p))) (some (tupN (gr gt none 0 p))) a9 a10 (some (nW (1 + x))) (some (nW (1 + y)))) h8 = some (false, h8) := by
    have z1 := e_lenN (c := gr lt none 0 ((stN (1 + x) (1 + y)).map nI)) (h := h8)
    have z2 := e_lenN (c := gr gt none 0 ((stN (1 + x) (1 + y)).map nI)) (h := h8)
    rw [w1] at z1
    rw [w2] at z2
    have z3 := o_ne_fl (is := [((1 + y : Nat) : Int), ((1 + x : Nat) : Int)]) (js := [((1 + y : Nat) : Int), ((1 + x : Nat) : Int)]) (h := h8)
    rw [decide_eq_true rfl] at z3
    exact e_tb (e_op2 (e_lstF (e_cons (e_app (e_cons (e_app (e_cons (e_var rfl) e_nil) (c_rising Rs h8)) e_nil) z1) (e_cons (e_app (e_cons (e_app (e_cons (e_var rfl) e_nil) (c_falling Rs h8)) e_nil) z2) e_nil)) (show 2 < 100000 by omega)) (e_lstF (e_cons (e_var rfl) (e_cons (e_var rfl) e_nil)) (show 2 < 100000 by omega)) z3)
  have w4 := lc7 (i := i) (many := 1 + y) (s := 1 + x) (p := p) (a2 := some (.loc h1.nx)) (a3 := a3) (a4 := some (.loc (h3.nx + 1))) (a5 := some (rowW ((stN (1 + x) (1 + y)).map nI))) (a6 := a6) (a7 := some (tupN (gr lt none 0 p))) (a8 := some (tupN (gr gt none 0 p))) (a9 := a9) (a10 := a10) (h := h8) (by omega) (by omega)
  have z7 : oEq (tupN (gr gt none 0 ((stN (1 + x) (1 + y)).map nI))) (tupI ((List.range (1 + x)).map nI)) h8 = some (.bl true, h8) := by
    rw [t3, tupN_eq]
    refine o_eq_tup.trans ?_
    rw [decide_eq_true rfl]
  have z8 : oEq (tupN (gr lt none 0 ((stN (1 + x) (1 + y)).map nI))) (.tup ((((List.range (1 + y)).map ((1 + x) * ·)).map nI).map W.int)) h8 = some (.bl true, h8) := by
    rw [t2, tupN_eq]
    refine o_eq_tup.trans ?_
    rw [decide_eq_true rfl]
  exact e_seq (e_ifF w3 e_next) (e_ret (e_and1 (e_op2 (e_app (e_cons (e_var rfl) e_nil) (c_falling Rs h8)) (e_tupRg (n := 1 + x) (e_var rfl) (by omega)) z7) (e_op2 (e_app (e_cons (e_var rfl) e_nil) (c_rising Rs h8)) (e_app (e_cons w4 e_nil) o_tupF) z8)))
end K66

set_option Elab.async false
set_option linter.all false
set_option maxRecDepth 10000
set_option maxHeartbeats 800000
namespace K66
open PySem PySem.Spec PyProof.Rows L2 G PySem.W
theorem o_abs {x : Int} {h : Hm} : oAbs [.int x] h = some (.int (if x < 0 then -x else x), h) := rfl
theorem o_max2 {x y : Int} {h : Hm} : oMax2 [.int x, .int y] h = some (.int (if y > x then y else x), h) := rfl
theorem o_min2 {x y : Int} {h : Hm} : oMin2 [.int x, .int y] h = some (.int (if y < x then y else x), h) := rfl
theorem o_pow18 {h : Hm} : oPow (.int 10) (.int 18) h = some (.int 1000000000000000000, h) := by rfl
theorem o_lenRo {ns : List Int} {h : Hm} : oLen [.ro (ns.map W.int)] h = some (.int (ns.length : Int), h) := by
  have : oLen [.ro (ns.map W.int)] h = some (.int ((ns.map W.int).length : Int), h) := rfl
  rw [this, List.length_map]
theorem o_sum {is : List Int} {h : Hm} : o1 fSum [.fl (is.map W.int)] h = some (.int is.sum, h) := by
  show (fSum (.fl (is.map W.int)) h).map _ = _
  have : fSum (.fl (is.map W.int)) h = some (.int is.sum) := by
    show ((intsW (is.map W.int)).map fun is => W.int is.sum) = _
    rw [show intsW (is.map W.int) = some is from intsM _]; rfl
  rw [this]; rfl
theorem e_slO {m mh : ME} {sw : Sw} {h h1 h2 : Hm} {ws : List W} {z : Int} (e1 : m sw h = some (.ro ws, h1)) (e2 : mh sw h1 = some (.int z, h2)) : mSl false m mNo (mPart mh) sw h = some (.fl (cutW ws none (some z)), h2) := by
  unfold mSl mNo mPart
  simp only [e1, e2, Option.bind_some]
  rfl
theorem cell_spec {ns : List Int} {k : Nat} (hk : k < 3) {h : Hm} : ∃ c : Int, 0 ≤ c ∧ mIfE (mTb (mOp2 (oLt) (mVar 1) (mApp (oLen) (mCons (mVar 0) (mNil))))) (mApp (oAbs) (mCons (mOp2 oIx (mVar 0) (mVar 1)) (mNil))) (mOp2 (oAdd false) (mOp2 (oAdd false) (mOp2 (oTimes false) (mC (.int 311)) (mVar 1)) (mC (.int 227))) (mOp2 oMod (mApp (oAbs) (mCons (mApp (o1 fSum) (mCons (mSl false (mVar 0) (mNo) (mPart (mC (.int 1)))) (mNil))) (mNil))) (mC (.int 1000003)))) [some (.ro (ns.map W.int)), some (nW k), none, none] h = some (.int c, h) := by
  have ec : mTb (mOp2 (oLt) (mVar 1) (mApp (oLen) (mCons (mVar 0) (mNil)))) [some (.ro (ns.map W.int)), some (nW k), none, none] h = some (decide ((k : Int) < (ns.length : Int)), h) := e_tb (e_op2 (e_var rfl) (e_app (e_cons (e_var rfl) e_nil) o_lenRo) o_lt)
  by_cases hl : k < ns.length
  · rw [decide_eq_true (by omega)] at ec
    refine ⟨if ns.getD k 0 < 0 then -(ns.getD k 0) else ns.getD k 0, by split <;> omega, e_ifeT ec (e_app (e_cons (e_op2 (e_var rfl) (e_var rfl) (o_ixO (ix_pos (p := k) rfl (by rw [List.length_map]; exact hl)) (getW hl))) e_nil) o_abs)⟩
  · rw [decide_eq_false (by omega)] at ec
    have es : mSl false (mVar 0) (mNo) (mPart (mC (.int 1))) [some (.ro (ns.map W.int)), some (nW k), none, none] h = some (.fl ((ns.take 1).map W.int), h) := by
      refine (e_slO (e_var rfl) e_c).trans ?_
      have := cut_take (ws := ns.map W.int) (k := 1)
      rw [show ((1 : Nat) : Int) = 1 from rfl] at this
      rw [this, ← List.map_take]
    refine ⟨311 * (k : Int) + 227 + (if (ns.take 1).sum < 0 then -((ns.take 1).sum) else (ns.take 1).sum) % 1000003, ?_, e_ifeF ec (e_op2 (e_op2 (e_op2 e_c (e_var rfl) (o_mulL (by omega))) e_c o_add) (e_op2 (e_app (e_cons (e_app (e_cons es e_nil) o_sum) e_nil) o_abs) e_c (o_mod (by omega))) o_add)⟩
    have := Int.emod_nonneg (if (ns.take 1).sum < 0 then -((ns.take 1).sum) else (ns.take 1).sum) (show (1000003 : Int) ≠ 0 by omega)
    omega
theorem pot_spec {ns : List Int} {k : Nat} (hk : k < 3) (h : Hm) : ∃ a b : Int, 0 ≤ a ∧ 0 ≤ b ∧ b < 2147483648 ∧ cOw m__law_pot [.ro (ns.map W.int), nW k] h = some (.loc h.nx, h.new (.lst [.int a, .int b])) := by
  obtain ⟨c, hc, e1⟩ := cell_spec (ns := ns) hk (h := .empty)
  have q1 : 0 ≤ (c % 2147483549 * 40507 + 8623 * (k : Int) + 157) % 2147483563 := Int.emod_nonneg _ (by omega)
  have q2 : (c % 2147483549 * 40507 + 8623 * (k : Int) + 157) % 2147483563 < 2147483563 := Int.emod_lt_of_pos _ (by omega)
  have e2 : m__law_pot [.ro (ns.map W.int), nW k] .empty = some (.loc 0, ⟨1, [(0, .lst [.int (if c - 1000000000000000000 > 0 then c - 1000000000000000000 else 0), .int ((c % 2147483549 * 40507 + 8623 * (k : Int) + 157) % 2147483563 + 1)])]⟩) := by
    refine e_def (e_seq (e_set e1) (e_seq (e_set (e_op2 (e_op2 (e_app (e_cons (e_op2 (e_op2 (e_op2 (e_op2 (e_app (e_cons (e_var rfl) e_nil) o_int) e_c (o_mod (by omega))) e_c (o_mul (by omega))) (e_op2 e_c (e_var rfl) (o_mulL (by omega))) o_add) e_c o_add) e_nil) o_int) e_c (o_mod (by omega))) e_c o_add)) (e_ret (e_lstT (e_cons (e_app (e_cons e_c (e_cons (e_op2 (e_var rfl) (e_op2 e_c e_c o_pow18) o_sub) e_nil)) o_max2) (e_cons (e_var rfl) e_nil)) (show 2 < 100000 by omega)))))
  refine ⟨_, _, ?_, ?_, ?_, cO_of (n := 0) ?_ e2 rfl rfl h⟩
  · split <;> omega
  · omega
  · omega
  · rw [List.all_cons]
    have : cld 20 (.ro (ns.map W.int)) = true := cld_ints (d := 18) ns
    rw [this]; rfl
theorem lc_inv {s : Src} {tg : MG} {t : MT} {m : ME} {sw : Sw} (N : Nat) (I : Nat → Hm → Prop) (u : W)
    (step : ∀ i, i < N → ∀ h, I i h → ∃ w sw1 h2, s.yld i h = some (some w) ∧ tg w sw = some sw1 ∧ t sw1 h = some (true, h) ∧ m sw1 h = some (u, h2) ∧ I (i + 1) h2) (stop : ∀ h, I N h → s.yld N h = some none) :
    ∀ (k i n : Nat) (h : Hm) (acc : List W), N - i = k → i ≤ N → k < n → I i h → ∃ h', lc s tg t m n i sw h acc = some (acc.reverse ++ List.replicate k u, h')
  | 0, i, n + 1, h, acc, hk, hi, _, hI => by
    have e : i = N := by omega
    subst e
    refine ⟨h, ?_⟩
    unfold lc
    rw [stop h hI]
    simp
  | k + 1, i, n + 1, h, acc, hk, hi, hn, hI => by
    have hlt : i < N := by omega
    obtain ⟨w, sw1, h2, e1, e2, e3, e4, e5⟩ := step i hlt h hI
    obtain ⟨h', e6⟩ := lc_inv N I u step stop k (i + 1) n h2 (u :: acc) (by omega) hlt (by omega) e5
    refine ⟨h', ?_⟩
    unfold lc
    rw [e1]
    show (tg w sw).bind _ = _
    rw [e2]
    show (t sw1 h).bind _ = _
    rw [e3]
    show (if (true : Bool) = true then (m sw1 h).bind fun q => lc s tg t m n (i + 1) sw q.2 (q.1 :: acc) else lc s tg t m n (i + 1) sw h acc) = _
    rw [if_pos rfl, e4]
    refine e6.trans ?_
    rw [List.reverse_cons, List.append_assoc]; rfl
theorem mLc_inv {own : Bool} {vs : List Nat} {mi : MI} {tg : MG} {t : MT} {m : ME} {sw : Sw} {h h1 : Hm} {s : Src} (N : Nat) (I : Nat → Hm → Prop) (u : W) (hi : mi sw h = some (s, h1)) (hN : N < 1000)
    (step : ∀ i, i < N → ∀ h, I i h → ∃ w sw1 h2, s.yld i h = some (some w) ∧ tg w (wipeW sw vs) = some sw1 ∧ t sw1 h = some (true, h) ∧ m sw1 h = some (u, h2) ∧ I (i + 1) h2) (stop : ∀ h, I N h → s.yld N h = some none) (h0 : I 0 h1) :
    ∃ h', mLc own vs mi tg t m sw h = some (mk own (List.replicate N u) h') := by
  obtain ⟨h', e⟩ := lc_inv N I u step stop N 0 100000 h1 [] rfl (Nat.zero_le _) (by omega) h0
  refine ⟨h', ?_⟩
  unfold mLc
  rw [hi]
  show (lc s tg t m 100000 0 (wipeW sw vs) h1 []).bind _ = _
  rw [e]; rfl
theorem plain : ∀ ns : List Int, ns.length ≤ 63 → ∃ h', m_law [.ro (ns.map W.int)] .empty = some (.bl true, h') := by
  intro ns hl
  obtain ⟨N, hN3, hi⟩ : ∃ N : Nat, N ≤ 3 ∧ mRg1 (mCons (mApp (oMax2) (mCons (mC (.int 1)) (mCons (mApp (oMin2) (mCons (mC (.int 3)) (mCons (mApp (oLen) (mCons (mVar 0) (mNil))) (mNil)))) (mNil)))) (mNil)) [some (.ro (ns.map W.int)), none] .empty = some (sRg 0 1 N, .empty) := by
    have e := e_cons (sw := [some (.ro (ns.map W.int)), none]) (h := .empty) (e_app (e_cons (e_c (w := .int 1)) (e_cons (e_app (e_cons (e_c (w := .int 3)) (e_cons (e_app (e_cons (e_var (i := 0) rfl) e_nil) o_lenRo) e_nil)) o_min2) e_nil)) o_max2) e_nil
    have z1 : (0 : Int) ≤ (if (if (ns.length : Int) < 3 then (ns.length : Int) else 3) > 1 then (if (ns.length : Int) < 3 then (ns.length : Int) else 3) else 1) ∧ (if (if (ns.length : Int) < 3 then (ns.length : Int) else 3) > 1 then (if (ns.length : Int) < 3 then (ns.length : Int) else 3) else 1) ≤ 3 := by
      split <;> split <;> omega
    refine ⟨_, ?_, e_rg1 e (okR_small (by omega) (by omega))⟩
    omega
  obtain ⟨h', e⟩ := mLc_inv (own := false) (vs := [1]) (tg := gN 1) (t := mYes) (m := (mApp (cG m__law_right) (mCons (mApp (cOw m__law_pot) (mCons (mVar 0) (mCons (mVar 1) (mNil)))) (mNil)))) N (fun _ h => HOk h) (.bl true) hi (by omega) (fun i hi h hI => by
    obtain ⟨a, b, a1, b1, b2, e1⟩ := pot_spec (ns := ns) (k := i) (by omega) h
    have P : Pt (h.new (.lst [.int a, .int b])) h.nx := ⟨hI.new rfl, a, b, get_new_self, a1, b1, b2⟩
    obtain ⟨h2, e2, k2⟩ := right_spec P
    have e3 := cG_of e2 rfl k2
    exact ⟨nW i, _, _, yld_rg0.1 i _ (by rw [List.getElem?_map, List.getElem?_range hi]; rfl), rfl, rfl, e_app (e_cons (e_app (e_cons (e_var rfl) (e_cons (e_var rfl) e_nil)) e1) e_nil) e3, k2.old _⟩) (fun h _ => yld_rg0.2) HOk.empty
  have hb : (List.replicate N (W.bl true)) = (List.replicate N true).map W.bl := by rw [List.map_replicate]
  have ha : (List.replicate N true).all id = true := by
    refine List.all_eq_true.mpr fun x hx => ?_
    rw [(List.mem_replicate.mp hx).2]; rfl
  have e4 : o1 fAll [.fl (List.replicate N (W.bl true))] h' = some (.bl true, h') := by rw [hb, o_all, ha]
  exact ⟨h', e_def (e_ret (e_app (e_cons e e_nil) e4))⟩
end K66

theorem PySem.Challenge.cw_barredpatterns_k66_whole_longest_rising_holds : PySem.Challenge.rw_barredpatterns_k66_whole_longest_rising.Holds := by
  exact K66.holds K66.plain
